/- Part 3. No condition. -/
import Derived.Test.YthilmklinlalbaaGreatDoorA2
import Derived.Maps.RangeRun
import Derived.Laws.Externs
import Derived.Conc.Beside
import Derived.Conc.CrowdRun
set_option linter.all false
set_option maxHeartbeats 8000000
open Go.Conc (G)
open Go renaming Value → ah, Program → ar, TypeId → aj, Oper → au, Operand → aq, undef → ai, execOp → aw, World → aA, Goroutine → av, stepG → aH, Frame → aU, FuncId → aJ
open Option renaming some → aa, none → af
open Bool renaming true → ab, false → ae
open Go.World renaming cell? → aV
open Go.Sem renaming events_bind → aM
open Go.Result renaming evThen_ok → aP
open Go.Instr renaming sliceBounds → bd, sureAddr → bq
open List renaming range → bh
open Go.Region renaming wanted → bg, ready → ba
open Go.MemAct renaming ofEvent → aK
open Nat renaming beq → aB, ble → bA
namespace Go.AM
def ey(i:Nat)(D:Nat->Bool):Nat->Bool:=λj=>match aB j i with|true=>ab|false=>D j
section
variable {P:ar}{X:Cx P}{N:Nat}{ops:Array au}{φ:Fr}{σ:List aR}{g:Type}{x:g->Nat->D}{idx:Nat->Option Nat}{S:g->(Nat->Bool)->List aR}{Inv:g->(Nat->Bool)->Prop}{c:Nat}
def lN(L:Array Bool):Nat->Bool:=λi=>L.getD i ae
def Ij{L:Array Bool}{i:Nat}(hi:i<L.size):lN (L.setIfInBounds i ab)=ey i (lN L):=by funext j;have h:=eW (L:=L) (i:=i) (j:=j) hi;simp only[lN,ey];grind[Nat.eq_of_beq_eq_true,Nat.beq_refl]
def SD{L:Array Bool}{n c:Nat}(d:L.size=n)(h:∀k,c<=k->¬L.getD k ae=ab):n-c<=(L.toList.filter (λb=>!b)).length:=by
 have e:(L.toList.drop c).filter (λb=>!b)=L.toList.drop c:=by rw[z9];intro b a;obtain⟨i,hi,rfl⟩:=dG a;have:=h (c+i) (by omega);simp only[si,jA]at hi;simp only[dZ,gm (by omega:c+i<L.size),ij]at this;grind
 grind[List.drop_sublist]
theorem Names.VJ(all:List au)(c:Nat):Names all (List.range' c (all.length-c)) (all.drop c):=by
 have key:∀(l:List au) (n:Nat),(∀j o,l[j]?=aa o->all[n+j]?=aa o)->Names all (List.range' n l.length) l:=by
  intro l;induction l with
  |nil=>intro n _;trivial
  |cons o r a =>
   intro n h;rw[fb,List.range'_succ];refine⟨by simpa using h 0 o rfl,a (n+1) λj b hj=>?_⟩;have:=h (j+1) b (by grind);grind
 have:=key (all.drop c) c λj o h=>by grind
 grind
structure VK{P:ar}(X:Cx P)(N:Nat)(ops:Array au)(φ:Fr){g:Type}(x:g->Nat->D)(S:g->(Nat->Bool)->List aR)(Inv:g->(Nat->Bool)->Prop)(idx:Nat->Option Nat)(c:Nat):Prop where
 back:∀i o,ops[i]?=aa o->∀e∈o.after,dr e=ab->e.on<i
 JY:∀i o d,ops[i]?=aa o->o.dst=aa d->idx d=aa i/\d<N
 yz:∀d i,idx d=aa i->∃o,ops[i]?=aa o/\o.dst=aa d
 one:∀κ (D:Nat->Bool) i o,Inv κ D->ops[i]?=aa o->i<c->D i=ae->(∀e∈o.after,dr e=ab->D e.on=ab)->(∀j o',ops[j]?=aa o'->D j=ab->∀e∈o'.after,dr e=ab->D e.on=ab)->mW X N ops.toList o (kr ops.toList φ (x κ) i) (S κ D) (λq:{κ':g // (∀j,D j=ab->x κ' j=x κ j)/\Inv κ' (ey i D)}=>x q.1 i) (λq=>S q.1 (ey i D))
 Uu:∀(x:Nat->D) i o,ops[i]?=aa o->∀t σ s v,dt σ s v (match idx t with|some j=>(if ∃e∈o.after,dr e=ab/\e.on=j then x j else .any)|none=>look φ t)->dt σ s v (look (kr ops.toList φ x i) t)
 fin:∀(x:Nat->D) t σ s v,dt σ s v (match idx t with|some j=>x j|none=>look φ t)->dt σ s v (look (NF ops.toList φ x) t)
 Qz:∀i o,ops[i]?=aa o->c<=i->∀L:Array Bool,(∀i o,ops[i]?=aa o->L.getD i ae=ab->∀e∈o.after,dr e=ab->L.getD e.on ae=ab)->(∀e∈o.after,dr e=ab->L.getD e.on ae=ab)->∀k,k<i->L.getD k ae=ab
 cc:c<=ops.size
 SE:∀κ (D:Nat->Bool),Inv κ D->(∀i,i<c->D i=ab)->∀i,c<=i->i<ops.size->x κ i=.any
def GZ{L:Array Bool}{i n:Nat}(a:L.size=n)(hi:i<n):L.getD i ab=ae↔¬L.getD i ae=ab:=by grind
theorem VK.seq(h:VK X N ops φ x S Inv idx c):∀(a d:Nat)(L:Array Bool)(t:Nat),L.size=ops.size->c<=d->d<=ops.size->ops.size-d<=a->(∀k,k<ops.size->(L.getD k ae=ab↔k<d)) ->
  Region.linearise.go .any ops a t L []=List.range' d (ops.size-d):=by
 intro a;induction a with
 |zero =>
  grind[wO]
 |succ a z =>
  intro d L t v E B A w;by_cases F:d=ops.size
  .grind [CN]
  .rw[pD];have j:d<ops.size:=by omega
   have r:∀i o,ops[i]?=aa o->L.getD i ae=ab->∀e∈o.after,dr e=ab->L.getD e.on ae=ab:=λi o n hi e l s=>by have b:=(iA.1 n).1;have h1:=(w i b).1 hi;have h2:=h.back i o n e l s;grind
   have u:∀i,i∈ba .any ops L->i=d:=λi hi=>by
    obtain⟨o,n,hl,y⟩:=mem_ready.1 hi;have b:=(iA.1 n).1;have C:¬i<d:=λp=>(GZ v b).1 hl ((w i b).2 p);rcases cM d i with h1|h1
    .have:=h.Qz i o n (by omega) L r y d h1;grind
    .omega
   have q:d∈ba .any ops L:=mem_ready.2 ⟨ops[d],gm j,(GZ v j).2 (λhh=>by grind),λe l s=>by
    have:=h.back d _ (gm j) e l s
    grind⟩
   have m:0<(ba .any ops L).length:=List.length_pos_of_mem q;have f:=iS t m;rw[br f];have e1:=u _ (sj f);simp only[e1];rw[z (d+1) _ _ (by grind) (by omega) (by omega) (by omega) (λk hk=>by grind[eW])]
   rw[show ops.size-d=(ops.size-(d+1))+1 by omega,List.range'_succ]
def VK.arr(h:VK X N ops φ x S Inv idx c){R:av->St->Prop}{b:aU}{kk:List Item}{cs:List aU}(hb:b.kind≠.early){σ0:List aR}{s0:St}(hQ:∀l D s a,Inv l D->(∀i,i<c->D i=ab)->cu N (S l D) s (NF ops.toList φ (x l)) a->aF (S l D) s->cY σ0 s0 (S l D) s->fL X R (G (b.aT a (.inRegion ops (List.range' c (ops.size-c))::kk)) cs) s):
  ∀(f:Nat) (l:g) (L:Array Bool),Inv l (lN L)->L.size=ops.size->(L.toList.filter (λb=>!b)).length<=f->(∀k,c<=k->¬L.getD k ae=ab) ->
   (∀i o,ops[i]?=aa o->L.getD i ae=ab->∀e∈o.after,dr e=ab->L.getD e.on ae=ab) ->
   ∀(s:St) (a:Act),Jq N (S l (lN L)) s (gz φ (x l) idx L) a->aF (S l (lN L)) s->cY σ0 s0 (S l (lN L)) s ->
   ∀t,fL X R (G (b.aT a (.inRegion ops (Region.linearise.go .any ops f t L [])::kk)) cs) s:=by
 have fin:∀(l:g) (L:Array Bool) (s:St) (a:Act) (f t:Nat),Inv l (lN L)->L.size=ops.size->(L.toList.filter (λb=>!b)).length<=f->(∀k,c<=k->¬L.getD k ae=ab)->(∀i,i<c->L.getD i ae=ab)->Jq N (S l (lN L)) s (gz φ (x l) idx L) a->aF (S l (lN L)) s->cY σ0 s0 (S l (lN L)) s->fL X R (G (b.aT a (.inRegion ops (Region.linearise.go .any ops f t L [])::kk)) cs) s:=by
  intro l L s a f t F E Q u p m hh st;have Y:=h.cc;rw[h.seq f c L t E (bc _) Y (by
   have h2:=SD (n:=ops.size) (c:=c) E u;omega) (λk hk=>⟨λK=>by grind,λK=>p k K⟩)]
  exact hQ l _ s a F p (m.JX λt σ s v I=>h.fin (x l) t σ s v (by
   unfold gz at I;cases hi:idx t with
   |none=>grind
   |some k =>
    simp only[hi]at I⊢;obtain⟨o,A,_⟩:=h.yz _ _ hi;rcases cM k c with h1|h1
    .grind
    .rw[h.SE l _ F p k h1 (iA.1 A).1];trivial)) hh st
 intro f;induction f with
 |zero =>
  intro l L F E Q u C s a m hh st t;have Y:=h.cc;grind[AR]
 |succ f ih =>
  intro l L F E Q u C s a m hh st t;have Y:=h.cc;cases r:(ba .any ops L)[t % (ba .any ops L).length]? with
  |none=>exact fin l L s a _ t F E Q u (λi hi=>KH (back:=h.back) E (ER r) i (by omega)) m hh st
  |some i =>
   have hi:=bP r;obtain⟨o,A,Yj,w⟩:=mem_ready.1 hi;have tN:i<ops.size:=(iA.1 A).1;rcases cM i c with H|H
   rotate_left
   .exact fin l L s a _ t F E Q u (λk hk=>h.Qz i o A H L C w k (by omega)) m hh st
   rw[pD,r];have M:¬L.getD i ae=ab:=by grind
   have z:((L.setIfInBounds i ab).toList.filter (λb=>!b)).length<=f:=by
    have h1:L.toList[i]?=aa ae:=by rw[zZ,gm (by omega:i<L.size)];simpa[dZ,gm (by omega:i<L.size)]using M
    grind[count_set]
   have O:∀j Z,ops[j]?=aa Z->(L.setIfInBounds i ab).getD j ae=ab->∀e∈Z.after,dr e=ab->(L.setIfInBounds i ab).getD e.on ae=ab:=by grind[eW]
   have W:cu N (S l (lN L)) s (kr ops.toList φ (x l) i) a:=ON (h.Uu (x l) i o A) m w;have:=h.one l (lN L) i o F A H (by unfold lN;grind) w C s a W hh b kk cs R i (Region.linearise.go .any ops f (t / (ba .any ops L).length) (L.setIfInBounds i ab) []) hb (by grind);simp only[pr]at this;refine this λq v s' I B y=>?_;obtain⟨U,V,J⟩:=q;have T:=Ij (L:=L) (i:=i) (by omega);simp only at I B y;rw[<-T]at I B y J;exact ih U _ J (by grind) z (λk hk=>by grind[eW]) O s' _ (Ic (λd hd=>h.JY i o d A hd) h.yz A (by omega) (λj hj=>V j hj) hh.len y m I) B (st.trans y) _
def AW.reg(hf:P.follows Departure.mixedOrders=ab){all:List au}(c:Nat)(x:g->Nat->D)(S:g->(Nat->Bool)->List aR)(Inv:g->(Nat->Bool)->Prop)(F:g)(hI0:Inv F λ_=>ae)(h0:S F (λ_=>ae)=σ)(U7:mT all=ab)(G:sH all 0=ab)(O:oF N all=ab)(hc:c<=all.length)(Qz:∀i,c<=i->i<all.length->∀L:Nat->Prop,(∀i,i<all.length->L i->∀e∈bZ (all.getD i jN).after.toList,L e)->(∀e∈bZ (all.getD i jN).after.toList,L e)->∀k,k<i->L k)(SE:∀n (D:Nat->Bool),Inv n D->(∀i,i<c->D i=ab)->∀i,c<=i->i<all.length->x n i=.any)(one:∀n (D:Nat->Bool) i o,Inv n D->all[i]?=aa o->i<c->D i=ae->(∀e∈bZ o.after.toList,D e=ab)->(∀j o',all[j]?=aa o'->D j=ab->∀e∈bZ o'.after.toList,D e=ab)->mW X N all o (kr all φ (x n) i) (S n D) (λq:{H:g // (∀j,D j=ab->x H j=x n j)/\Inv H (ey i D)}=>x q.1 i) (λq=>S q.1 (ey i D))){Q:Post}(hQ:∀n D,Inv n D->(∀i,i<c->D i=ab)->iw X N all (all.drop c) (Q .normal) (NF all φ (x n)) (S n D))(id:Nat):
  AW X N (.region id all.toArray ab) Q φ σ:=by
 have p:∀i:Nat,all.toArray[i]?=all[i]?:=λi=>by simp
 let idx:Nat->Option Nat:=λt=>(bh all.length).find? (λi=>decide ((all.getD i jN).dst=aa t));have K:∀t j,idx t=aa j->∃o,all[j]?=aa o/\o.dst=aa t:=by grind
 have u:∀i o d,all[i]?=aa o->o.dst=aa d->idx d=aa i:=by
  intro i o d f M;have hi:i<all.length:=(b6.1 f).1;cases hx:idx d with
  |none =>
   have:=qj.1 hx i (by grind);grind
  |some j =>
   grind[tV]
 have U:∀t,pE t all=ab↔∃j,idx t=aa j:=by grind[qC,sL]
 have R:∀i o,all[i]?=aa o->all.getD i jN=o:=λi o h=>by grind
 have M:VK X N all.toArray φ x S Inv idx c:=by
  refine⟨?_,?_,?_,?_,?_,?_,λi o f YG L hLc hLp k hk=>?_,by grind,λn D I hD i h1 h2=>SE n D I hD i h1 (by grind)⟩
  .intro i o f e W V;rw[p]at f;have:=CJ G i o f e.on (eX.2 ⟨e,by grind,V,rfl⟩);omega
  .intro i o d f M;rw[p]at f;exact⟨u i o d f M,gK (y5 O i o f) d M⟩
  .grind
  .intro n D i o I f hic hDi RX NC;rw[p]at f;exact one n D i o I f hic hDi (λe W=>by
    grind[eX]) λj o hj hDj e W=>by grind[eX]
  .intro x i o f t σ s v T;rw[p]at f;show dt σ s v (look (kr all φ x i) t);unfold kr;rw[R i o f];rcases nS (m:=λj=>iv j (bZ o.after.toList)) (φ:=vm all φ) (t:=t) (l:=AO all 0 x) (i:=0)with⟨j,y,h1,h2,C⟩|C
   .rw[C];rw[xg]at h1;cases hj:all[j]? with
    |none=>grind
    |some oj =>
     simp only[hj,lS,dw,l9,bF]at h1;rw[u j oj t hj h1.1]at T;simp only at T;rw[bl]at T
     .grind
     .simp only[bF]at h2;obtain⟨e,a,b,c⟩:=eX.1 (J3 h2);grind
   .rw[C,l5];split
    .trivial
    grind
  .intro x t σ s v T;show dt σ s v (look (NF all φ x) t);unfold NF;rcases nS (m:=λ_=>ab) (φ:=vm all φ) (t:=t) (l:=AO all 0 x) (i:=0)with⟨j,y,h1,h2,C⟩|C
   .rw[C];rw[xg]at h1;grind
   .rw[C,l5];split
    .trivial
    grind
  .rw[p]at f;refine Qz i YG (b6.1 f).1 (λk=>L.getD k ae=ab) (λi' hi' hl e W=>?_) (λe W=>?_) k hk
   .grind [eX]
   grind[eX]
 intro s a yW hh b kk cs SS V Z;refine .next rfl λB z=>?_;have z:=X.iH z;have A:=hh.rely z;have J:=yW.rely z hh;have E:Step σ B σ {B with w:={B.w with drawn:=B.w.drawn+1}}:=Step.same rfl rfl rfl rfl;have Y:aF σ {B with w:={B.w with drawn:=B.w.drawn+1}}:=A.same rfl;have stW:=z.stepW.trans (E.nF A);refine⟨_,{B with w:={B.w with drawn:=B.w.drawn+1}},#[],mb,⟨⟨σ,σ,A,Y,E⟩,.nil⟩,?_⟩;simp only[Region.schedule,hf,Bool.true_or,cq];have hd0:lN (Array.replicate all.toArray.size ae)=λ_=>ae:=by funext i;simp[lN,dZ,ni];split<;>simp
 refine M.arr V (σ0:=σ) (s0:=s) (λn D s2 a2 I hD f2 h2 mR=>?_) all.toArray.size F _ (by grind) (by simp) (by simp) ?_ ?_ _ a ?_ (by grind) (by grind) _
 .refine hQ n D I hD s2 a2 f2 h2 b kk cs SS _ V ?_ λφ3 σ3 s3 a3 q3 f3 C SF=>Z .normal _ _ s3 a3 q3 f3 C (mR.trans SF);grind[Names.VJ]
 .intro i _ hi;simp[dZ,ni]at hi;split at hi<;>simp at hi
 .intro i o f hi;simp[dZ,ni]at hi;split at hi<;>simp at hi
 .rw[hd0,h0];have r:=J.mono (E.nF A) A.len;refine⟨r.size,r.defers,λt=>?_⟩;unfold gz;cases hix:idx t with
  |none=>exact r.slot t
  |some j =>
   simp only;rw[aY]
   .exact r.slot t
   .simp[dZ,ni];split<;>simp
def mW.to{all:List au}{o:au}{φ:Fr}{ι e:Type}{y:ι->D}{σ':ι->List aR}{z:e->D}{d:e->List aR}(h:mW X N all o φ σ y σ')(l:∀j,∃k,y j=z k/\σ' j=d k):mW X N all o φ σ z d:=by intro s a f hh b k cs S i rest hb hi hK;refine h s a f hh b k cs S i rest hb hi λj v s' r1 r2 r3=>?_;obtain⟨q,p2,p3⟩:=l j;grind
def OA.tQ{all:List au}{o:au}{φ:Fr}{d:Type}{y:D}{σ':List aR}{z:d->D}{e:d->List aR}(h:OA X N all o φ σ y σ')(k:d)(h1:y=z k)(h2:σ'=e k):mW X N all o φ σ z e:=by subst h1 h2;exactλs a f hh b k' cs S i rest hb hi hK=>h s a f hh b k' cs S i rest hb hi λv s' r1 r2 r3=>hK k v s' r1 r2 r3
end
section
variable {P:ar}{X:Cx P}{N:Nat}{all:List au}{φ:Fr}{σ:List aR}{o:au}
theorem mW.kT{ι:Type}{x:ι->D}{σ':ι->List aR}(p:o.guard=af)(h:∀s e,aF σ s->(∀y,dt σ s (e y) (bU φ y))->∃(j:ι)(s':St)(v:ah),(aw e o).run P s.w=.ok (.value v) s'.w/\dt (σ' j) s' v (x j)/\aF (σ' j) s'/\Step σ s (σ' j) s'/\fg s ((aw e o).events P s.w #[])):mW X N all o φ σ x σ':=by intro s a f hh b k cs S i rest hb hi hK;refine rK hb hi (dK p) λn c=>?_;have d:=hh.rely c;obtain⟨j,s',v,h1,h2,l,g,m⟩:=h n a.eval d (dg (f.rely c hh));exact⟨_,s',v,h1,.inl rfl,⟨⟨σ,σ' j,d,l,g⟩,m⟩,hK j v s' h2 l (c.stepW.trans (g.nF d))⟩
def mW.AI{x:D}{σ':List aR}(h:OA X N all o φ σ x σ'):mW X N all o φ σ (λ_:Unit=>x) (λ_=>σ') :=
 λs a f hh b k cs S i rest hb hi hK=>h s a f hh b k cs S i rest hb hi λv s'=>hK () v s'
def OA.law{x:D}{σ':List aR}(h:bM P o (bU φ) σ x σ')(a:o.guard=af):OA X N all o φ σ x σ':=.kT (λ_ _ _ _=>dK a) h
def OA.eval{T:List (Nat×TI)}{CT:List (Nat×dv)}{ds:List (Nat×Bool)}{x:D}{obs:List Prop}(hT:cW P T)(hC:bL X CT)(h:wP T CT ds all φ σ o=aa (x,af,obs))(a:az obs):OA X N all o φ σ x σ:=gL hT hC h a
def OA.cZ{T:List (Nat×TI)}{CT:List (Nat×dv)}{x:D}(hT:cW P T)(hC:bL X CT)(h:wP T CT [] all φ σ o=aa (x,af,[])):OA X N all o φ σ x σ:=gL hT hC h ay
def ue(X:Cx P)(N:Nat)(all:List au)(φ:Fr)(σ:List aR)(x:Nat->D)(pre:Nat->Bool):List au->Nat->Prop
 |[],_=>True
 |o::r,i=>(match pre i with|true=>OA X N all o (kr all φ x i) σ (x i) σ|false=>True)/\ue X N all φ σ x pre r (i+1)
def uf(X:Cx P)(N:Nat)(all:List au)(φ:Fr)(σ:List aR)(x:Nat->D)(m:Nat):List au->Nat->Prop
 |[],_=>True
 |o::r,i=>(match aB i m with|true=>True|false=>OA X N all o (kr all φ x i) σ (x i) σ)/\uf X N all φ σ x m r (i+1)
theorem ue.get{x:Nat->D}{pre:Nat->Bool}:∀{l:List au}{k:Nat},ue X N all φ σ x pre l k->∀(i:Nat)(o:au),l[i]?=aa o->pre (k+i)=ab->OA X N all o (kr all φ x (k+i)) σ (x (k+i)) σ
 |[],_,_,i,o,h=>by grind
 |p::r,k,h,0,o,hi=>λa=>by simp at hi;subst hi;have h1:=h.1;grind
 |p::r,k,h,i+1,o,hi=>λa=>by have:=ue.get h.2 i o (by grind) (by grind);grind
theorem uf.get{x:Nat->D}{m:Nat}:∀{l:List au}{k:Nat},uf X N all φ σ x m l k->∀(i:Nat)(o:au),l[i]?=aa o->k+i≠m->OA X N all o (kr all φ x (k+i)) σ (x (k+i)) σ
 |[],_,_,i,o,h=>by grind
 |p::r,k,h,0,o,hi=>λa=>by simp at hi;subst hi;have h1:=h.1;simp only[iE]at a;grind[Nat.eq_of_beq_eq_true]
 |p::r,k,h,i+1,o,hi=>λa=>by have:=uf.get h.2 i o (by grind) (by omega);grind
def ES{ι:Type}(pre:Nat->Bool)(x:Nat->D)(y:ι->Nat->D)(j:ι)(i:Nat):D:=match pre i with|true=>x i|false=>y j i
def GU{ι:Type}{m c:Nat}{pre:Nat->Bool}{x:Nat->D}{b:ι->Nat->D}{σ':ι->List aR}{S:ι->(Nat->Bool)->List aR}(w:pre m=ae)(y:AQ pre m all 0=ab)(same:∀j i,pre i=ab->b j i=x i)(one:∀i o,all[i]?=aa o->pre i=ab->OA X N all o (kr all φ x i) σ (x i) σ)(two:∀j (D:Nat->Bool) i o,all[i]?=aa o->i≠m->i<c->D i=ae->(∀k g,all[k]?=aa g->D k=ab->∀e∈bZ g.after.toList,D e=ab)->OA X N all o (kr all φ (b j) i) (S j D) (b j i) (S j (ey i D)))(NL:∀o,all[m]?=aa o->mW X N all o (kr all φ x m) σ (λj=>b j m) σ')(z:∀j (D:Nat->Bool),(∀i,D i=ab->pre i=ab)->σ' j=S j (ey m D)):
  ∀(a:Option ι) (D:Nat->Bool) i o,(a.isSome=D m/\(a=af->∀i,D i=ab->pre i=ab))->all[i]?=aa o->i<c->D i=ae->(∀e∈bZ o.after.toList,D e=ab)->(∀j g,all[j]?=aa g->D j=ab->∀e∈bZ g.after.toList,D e=ab) ->
   mW X N all o (kr all φ (a.elim x b) i) (a.elim σ λj=>S j D) (λq:{d:Option ι // (∀j,D j=ab->d.elim x b j=a.elim x b j)/\(d.isSome=ey i D m/\(d=af->∀k,ey i D k=ab->pre k=ab))}=>q.1.elim x b i) (λq=>q.1.elim σ λj=>S j (ey i D)):=by
 intro a D i o t n s p u l;have A:∀{k},ey i D k=ab->k=i∨D k=ab:=λ{k} hk=>by unfold ey at hk;grind[Nat.eq_of_beq_eq_true]
 have v:∀{k},k≠i->ey i D k=D k:=λ{k} hk=>by unfold ey;grind[Nat.eq_of_beq_eq_true]
 by_cases f:i=m
 .subst f;cases a with
  |some j=>grind
  |none =>
   refine(NL o n).to λj=>⟨⟨aa j,λk hk=>same j k (t.2 rfl k hk),?_,λh=>by cases h⟩,rfl,z j D (t.2 rfl)⟩
   unfold ey;grind[Nat.beq_refl]
 .cases a with
  |none =>
   have r:pre i=ab:=by grind[GS]
   exact(one i o n r).tQ ⟨af,λ_ _=>rfl,by grind,λ_ k hk=>by grind⟩ rfl rfl
  |some j=>exact(two j D i o n f s p l).tQ ⟨aa j,λ_ _=>rfl,by grind,λh=>by cases h⟩ rfl rfl
def xh{ι:Type}{m c:Nat}{pre:Nat->Bool}{a:Option ι}{D:Nat->Bool}(d:a.isSome=D m/\(a=af->∀i,D i=ab->pre i=ab))(e:m<c)(b:∀i,i<c->D i=ab):∃j,a=aa j:=by
 cases a with
 |some j=>grind
 |none=>grind
def AK.NL{ι:Type}(p:P.follows Departure.mixedOrders=ab)(m:Nat)(pre:Nat->Bool)(x:Nat->D)(y:ι->Nat->D)(σ':ι->List aR){ops:Array au}{id:Nat}{K:List It}{Qf:Post}(b:mT ops.toList=ab)(c:sH ops.toList 0=ab)(d:oF N ops.toList=ab)(e:Nat.blt m ops.toList.length=ab)(f:pre m=ae)(g:AQ pre m ops.toList 0=ab)(one:ue X N ops.toList φ σ x pre ops.toList 0)(two:∀j,uf X N ops.toList φ (σ' j) (ES pre x y j) m ops.toList 0)(NL:mW X N ops.toList (ops.toList.getD m jN) (kr ops.toList φ x m) σ (λj=>ES pre x y j m) σ')(k:∀j,AK X N Qf K .normal (NF ops.toList φ (ES pre x y j)) (σ' j)):AK X N Qf (.code (.region id ops ab)::K) .normal φ σ:=by
 have e:=db e;have:=AW.reg (X:=X) (N:=N) (φ:=φ) (σ:=σ) p (all:=ops.toList) ops.toList.length (λa:Option ι=>a.elim x (ES pre x y)) (λa _=>a.elim σ σ') (λa D=>a.isSome=D m/\(a=af->∀i,D i=ab->pre i=ab)) af ⟨rfl,λ_ _ h=>by cases h⟩ rfl b c d (bc _)
  (λi h1 h2=>absurd h2 (mN.2 h1)) (λa D _ _ i h1 h2=>absurd h2 (mN.2 h1))
  (GU (S:=λj _=>σ' j) f g (λj i l=>by simp only[ES,l]) (λi o hi l=>by have:=one.get i o hi (by grind);grind) (λj D i o hi B6 _ _ _=>by have:=(two j).get i o hi (by grind);grind)
   (λo r=>by grind) (λ_ _ _=>rfl))
  (Q:=AK X N Qf K) (λa D q n=>by obtain⟨j,rfl⟩:=xh q e n;rw[qp];exact .nil (k j)) id
 rw[pr]at this;exact this
end
def mn{B:aR}{r:List aR}(h:B≠.qY)(k:lM r=ab):lM (B::r)=ab:=by cases B<;>first|exact k|grind
section
variable {P:ar}{X:Cx P}{N:Nat}{Qf:Post}{φ:Fr}{σ:List aR}
def AK.iU{Q a:Post}(h:∀e φ σ,Q e φ σ->a e φ σ):∀{K:List It}{e:Exit}{φ:Fr}{σ:List aR},AK X N Q K e φ σ->AK X N a K e φ σ
 |[],e,φ,σ,q=>h e φ σ q
 |.code c::K,.normal,φ,σ,q=>AW.mono q λ_ _ _ q=>AK.iU h q
 |.code c::K,.exit _,φ,σ,q=>AK.iU (K:=K) h q
 |.code c::K,.ret,φ,σ,q=>AK.iU (K:=K) h q
 |.code c::K,.panic _,φ,σ,q=>AK.iU (K:=K) h q
 |.code c::K,.goto _,φ,σ,q=>AK.iU (K:=K) h q
 |.code c::K,.outgrown,φ,σ,q=>AK.iU (K:=K) h q
 |.blk id::K,.exit Jx,φ,σ,q=>by
  simp only[AK]at q⊢;split
  .rename_i e;rw[bl e]at q;exact AK.iU (K:=K) h q
  .rename_i e;rw[aY e]at q;exact AK.iU (K:=K) h q
 |.blk id::K,.normal,φ,σ,q=>AK.iU (K:=K) h q
 |.blk id::K,.ret,φ,σ,q=>AK.iU (K:=K) h q
 |.blk id::K,.panic _,φ,σ,q=>AK.iU (K:=K) h q
 |.blk id::K,.goto _,φ,σ,q=>AK.iU (K:=K) h q
 |.blk id::K,.outgrown,φ,σ,q=>AK.iU (K:=K) h q
 |.ops all rest::K,.normal,φ,σ,q=>iw.mono q λ_ _ q=>AK.iU h q
 |.ops all rest::K,.exit _,φ,σ,q=>AK.iU (K:=K) h q
 |.ops all rest::K,.ret,φ,σ,q=>AK.iU (K:=K) h q
 |.ops all rest::K,.panic _,φ,σ,q=>AK.iU (K:=K) h q
 |.ops all rest::K,.goto _,φ,σ,q=>AK.iU (K:=K) h q
 |.ops all rest::K,.outgrown,φ,σ,q=>AK.iU (K:=K) h q
def AK.EP{id:Nat}{A:Fr->List aR->Prop}{a b c:List It}(h1:j9 id a=af)(h2:j9 id b=aa c)(k:AK X N Qf c .normal φ σ):
  AK X N (CB A (AK X N Qf b)) (.code (.exit id)::a) .normal φ σ :=
 AK.iU (λe φ' σ' q=>by cases e<;>exact q) (AK.leave (X:=X) (N:=N) (Qr:=Qf) (A:=A) (φ:=φ) (σ:=σ) h1 h2 k)
end
section
variable {P:ar}{X:Cx P}{N:Nat}{K:List It}{φ:Fr}{σ:List aR}
def AK.mZ{ι:Type}{T:List (Nat×TI)}{fn:Func}{h:Nat}{res:ι->D}{σ':ι->List aR}(i:ι)(ks:List Nat){l:Nat}{E:aj}{cs:List A}{t:Tmp}{ty:aj}{b:TI}{ps:List Prop}(n:fn.results.toList=[.cell t ty])(hi:bG T ty=aa b)(p:b.agg=ab)(o:look φ t=.e (.one (.ptr l 0)))(hl:dC l σ=aa (.cells E cs))(a:aB cs.length b.size=ab)(g:iv l ks=ae)(d:Ee (.e (.agg cs)) (iu ks (res i))=aa ps)(m:az ps)(f:wD ks.length (res i)=ab)(k:j3 ks σ=aa (σ' i))(c:kJ (σ' i)=ab)(q:dH ks=ab)(hk:∀j,j<h->ks[j]?=aa j):
  AK X N (λe φ σ1=>∃j,KT T fn h (res j) (σ' j) e φ σ1) (.code .ret::K) .normal φ σ :=
 AK.ret ⟨i,.inl rfl,ks,l,E,cs,t,ty,b,ps,af,nofun,n,hi,p,bX a,o,b9 hl,CO g,d,m,f,k,c,q,hk⟩
def AK.lO{ι:Type}{T:List (Nat×TI)}{fn:Func}{k:Nat}{res:ι->D}{σ':ι->List aR}(i:ι)(ks:List Nat){l:Nat}{E:aj}{cs:List A}{t u:Tmp}{ty:aj}{b:TI}{x:E1}{ps:List Prop}(o:fn.results.toList=[.cell t ty,.tmp u])(hi:bG T ty=aa b)(q:b.agg=ab)(p:look φ t=.e (.one (.ptr l 0)))(s:look φ u=.e x)(hl:dC l σ=aa (.cells E cs))(a:aB cs.length b.size=ab)(g:iv l ks=ae)(d:Ee (.fa [.agg cs,x]) (iu ks (res i))=aa ps)(n:az ps)(f:wD ks.length (res i)=ab)(m:j3 ks σ=aa (σ' i))(c:kJ (σ' i)=ab)(r:dH ks=ab)(hk:∀j,j<k->ks[j]?=aa j):
  AK X N (λe φ σ1=>∃j,KT T fn k (res j) (σ' j) e φ σ1) (.code .ret::K) .normal φ σ :=
 AK.ret ⟨i,.inl rfl,ks,l,E,cs,t,ty,b,ps,aa (u,x),λ_ h=>by cases h;exact s,o,hi,q,bX a,p,b9 hl,CO g,d,n,f,m,c,r,hk⟩
def Ev.rj{T:List (Nat×TI)}(hT:cW P T){f:aJ}{fn:Func}{c:Code}{args:List D}{σ σ':List aR}{res:D}(d:P.funcs[f]?=aa fn)(b:(fn.name== "runtime.NumGoroutine")=ae)(g:fn.body=aa c)(a:bA args.length fn.ntmps=ab)(h:Fits args σ->AK X fn.ntmps (λe φ σ1=>∃_:Unit,KT T fn σ.length res σ' e φ σ1) [.code c] .normal (ji 0 args) σ):Ev X f args σ res σ' :=
 (ef.sI (ι:=Unit) (σ':=λ_=>σ') (res:=λ_=>res) hT d b g a h).Cg
end
section
variable {P:ar}{X:Cx P}{N:Nat}{Qf:Post}{K:List It}{φ:Fr}{σ:List aR}{all rest:List au}{o:au}
theorem mW.xb{ι:Type}{x:ι->D}{σ':ι->List aR}(n:o.guard=af)(h:ee P N o φ σ x σ'):mW X N all o φ σ x σ':=by intro s a f hh b k cs S i rest q hi hK;refine rK q hi (dK n) λm c=>?_;have d:=hh.rely c;obtain⟨j,r,s',v,h1,h2,p,g,e,l⟩:=h m a (f.rely c hh) d;exact⟨r,s',v,h1,h2,⟨⟨σ,σ' j,d,g,e⟩,l⟩,hK j v s' p g (c.stepW.trans (e.nF d))⟩
def mW.Ci{ι:Type}{v:aq}{xs:Array aq}{z:Array aj}{f:aJ}{cap:List C}{d:List D}{m:List aR}{σ1:ι->List aR}{res:ι->D}(p:ef X f d m res σ1)(ks:List Nat)(F:o.guard=af)(H:o.op=.call {callee:=.value v,args:=xs,argTypes:=z})(u:eQ (bU φ v)=aa (f,cap))(l:∀s vs,cp σ s vs (xs.toList.map (bU φ)++fP cap)->cp σ s vs (fU ks d))(x:lE ks.length d=ab)(E:j3 ks σ=aa m)(I:cx m=ab)(B:∀j,cx (σ1 j)=ab)(L:dH ks=ab)(y:∀j,bA ks.length (σ1 j).length=ab):
  mW X N all o φ σ (λj=>iu (ks++k9 σ.length ((σ1 j).length-ks.length)) (res j)) (λj=>dW ks (σ1 j) σ):=by
 intro s a t hh b kk cs S i rest J hi hK;have r:=dg t v;unfold eQ at u;split at u
 case h_2=>cases u
 case h_1 f' NW he =>
  cases u;rw[he]at r;have g:=e9 r;generalize G:a.eval v=fv at g;cases g with
  |fn fs nG hl Ed f1 f2 h1 h2 r1 r2 =>
   have A:fs=[]:=jv hl;subst A;have k:cp σ s nG (fP cap):=nN (λj c hj=>⟨f2 j,h2 j (by grind),r2 j c hj⟩) Ed;have q:cp σ s (xs.toList.map a.eval++nG) (fU ks d):=l s _ ((lX (dg t) xs.toList).append k);obtain⟨fn,n,h,e⟩:=p.1;exact tR J hi (dK F) hh (λw=>(jK H n h e G w).1) (λw=>(jK H n h e G w).2) p q x E I B L (λj=>db (y j)) hK
def mW.qA{ι:Type}{n:aq}{xs:Array aq}{e:Array aj}{f:aJ}{cap:List C}{a:List D}{c:List aR}{σ1:ι->List aR}{res:ι->D}(g:ef X f a c res σ1)(ks:List Nat)(m:o.guard=af)(r:o.op=.call {callee:=.value n,args:=xs,argTypes:=e})(q:eQ (bU φ n)=aa (f,cap))(b:mS (xs.toList.map (bU φ)++fP cap)=fU ks a)(i:lE ks.length a=ab)(l:j3 ks σ=aa c)(p:cx c=ab)(d:∀j,cx (σ1 j)=ab)(s:dH ks=ab)(k:∀j,bA ks.length (σ1 j).length=ab):
  mW X N all o φ σ (λj=>iu (ks++k9 σ.length ((σ1 j).length-ks.length)) (res j)) (λj=>dW ks (σ1 j) σ):=.Ci g ks m r q (λ_ _ h=>b▸pA h) i l p d s k
def mW.j4{ι:Type}{p:aq}{xs:Array aq}{e:Array aj}{f:aJ}{cap:List C}{a:List D}{c:List aR}{σ1:ι->List aR}{res:ι->D}(g:ef X f a c res σ1)(ks:List Nat)(m:o.guard=af)(s:o.op=.call {callee:=.value p,args:=xs,argTypes:=e})(r:eQ (bU φ p)=aa (f,cap)){ps:List Prop}(b:wG (xs.toList.map (bU φ)++fP cap) (fU ks a)=aa ps)(n:az ps)(i:lE ks.length a=ab)(l:j3 ks σ=aa c)(q:cx c=ab)(d:∀j,cx (σ1 j)=ab)(t:dH ks=ab)(k:∀j,bA ks.length (σ1 j).length=ab):
  mW X N all o φ σ (λj=>iu (ks++k9 σ.length ((σ1 j).length-ks.length)) (res j)) (λj=>dW ks (σ1 j) σ):=.Ci g ks m s r (λ_ _ h=>vP b n h) i l q d t k
def ee.fresh{x y:aq}{E:aj}{F:TI}(h:lL P o x y E F){k0 k m:Nat}{tx:Bool}{es es':Nat->List C}(hs:F.size=k)(T:bU φ x=.e (.one (.c (.sl ab k0 0 es))))(hy:bU φ y=.e (.one (.c (.sl tx k m es'))))(Q:0<m)(L:m*F.bytes<=140737488355328)(hgn:∀i,i<m->∀c∈es' i,vk c=ab):
  ee P N o φ σ (ι:={q:nD×List ah // gy k m es' q.2}) (λq=>.e (.one (.v (lA q.1.1 m)))) (λq=>σ++[.cm (gf E k q.1.1 m q.1.2)]):=by
 intro s ρ hf hh;obtain⟨t,t2,i,i2,ho,hi,hd,O,G⟩:=h.op;have h1:=dg hf x;rw[T]at h1;have n:=Rd.vI (k:=k0) (k':=F.size) (.inr rfl) (e9 h1);have h2:=dg hf y;rw[hy]at h2;have h2:=e9 h2;obtain⟨a,cap,vs,Y,Z,HM,ht,hF,OE⟩:=n.flat;have S:cap=0:=ht rfl;subst S;rw[Y]at n;have D:Rd s.M (ρ.eval y) (.sl tx F.size m es'):=by grind
 obtain⟨f,R,g,d,I,V,r,z⟩:=iG (P:=P) (ty:=o.type) hi hd O G h.elem hh n D (by omega) (by grind) h.bytes;have JE:=jf (P:=P) (ty:=o.type) hi hd O G h.elem hh n D (by omega) (by grind) h.bytes;have e0:cK 0 es es'=es':=by funext i;simp[cK]
 rw[hs,bF,e0]at d;rw[hs]at r;rw[bF]at I z;have H:gy k m es' f:=⟨d.len,d.width,λi hi j c hj=>by
  obtain⟨u,W,u2⟩:=d.rd i hi j c hj
  grind[qy]⟩
 have A:∀x∈f,cN x=ab:=λx T=>by
  obtain⟨p,hp,rfl⟩:=dG T;have hk:0<k:=by grind
  have Qx:=d.len;have hi:p / k<m:=qd (by grind);have U:p / k*k+p % k=p:=qm p k;have hj:p % k<(es' (p / k)).length:=by rw[d.width _ hi];exact iS _ hk
  obtain⟨u,W,u2⟩:=H.at' _ hi _ _ (br hj);rw[U,br hp]at W;cases W;exact(u2 s.M).cell
 let w':aA:=s.w.drew.alloc (.cells (f++R).toArray E);have hB:eE (σ++[.cm (gf E k (.row s.w.heap.size g) m f)]) {s with w:=w',β:=s.β++[⟨.nilFunc,[s.w.heap.size]⟩]} (.cm (gf E k (.row s.w.heap.size g) m f)) ⟨.nilFunc,[s.w.heap.size]⟩:=by
  refine⟨λB=>if B=s.w.heap.size then aa (.cells (f++R).toArray E (0,0))else af,⟨rfl,A,d.len,I,V,R,r,rfl⟩,λB o l=>?_,λB=>?_,λB l o=>?_⟩
  .by_cases e:B=s.w.heap.size
   .subst e;simp only[cq]at l;cases l;exact dT s.w.drew _
   grind
  .by_cases e:B=s.w.heap.size<;>simp[e]
  .simp at l;subst l;cases Q:s.M s.w.heap.size o with
   |none=>rfl
   |some v=>have:=hh.block Q;omega
 have B5:w'.heap.size=s.w.heap.size+1:=by show(s.w.drew.heap.push _).size=_;simp
 have J:aF σ {s with w:=w'}/\Step σ s σ {s with w:=w'} :=
  hh.grow (by omega) (λb L=>cR s.w.drew _ L) (λb L o=>rfl) (λb L o v Q=>by have:=hh.block Q;omega) rfl rfl rfl
 obtain⟨g1,g2⟩:=J.1.ik J.2 rfl hh hB (λb L=>by grind)
 refine⟨⟨(.row s.w.heap.size g,f),H⟩,.value (.slice (aa ⟨s.w.heap.size,0,af⟩) m g),_,_,?_,.inl rfl,Rd.val rfl,g1,g2,?_⟩
 .rw[dn ho,Y];simp[z];rfl
 grind[dn,eU]
def AK.fresh{x y:aq}{E:aj}{b:TI}(h:lL P o x y E b){g k m:Nat}{tx:Bool}{es es':Nat->List C}(d:b.size=k)(f:bU φ x=.e (.one (.c (.sl ab g 0 es))))(r:bU φ y=.e (.one (.c (.sl tx k m es'))))(j:0<m)(p:m*b.bytes<=140737488355328)(a:∀i,i<m->∀c∈es' i,vk c=ab)(l:o.guard=af)(n:gg N o.dst=ab)(kk:∀q:{q:nD×List ah // gy k m es' q.2},AK X N Qf (.ops all rest::K) .normal (kH o.dst (.e (.one (.v (lA q.1.1 m)))) φ) (σ++[.cm (gf E k q.1.1 m q.1.2)])):AK X N Qf (.ops all (o::rest)::K) .normal φ σ :=
 AK.hand _ _ l n (ee.fresh h d f r j p a) kk
def AK.spare(E:aj)(k:Nat){c:Code}(kk:AK X N Qf (.code c::K) .normal φ (σ++[.cm (gf E k (.nil af) 0 [])])):AK X N Qf (.code c::K) .normal φ σ:=by refine AK.ghost (λs a b hh=>?_) kk;obtain⟨e,d⟩:=hh.ik (B:=.cm (gf E k (.nil af) 0 [])) (L:=⟨.nilFunc,[]⟩) (.refl _ _) rfl hh ⟨λ_=>af,⟨rfl,by simp,by simp,rfl,rfl⟩,by simp,by simp,by simp⟩ (by simp);exact⟨{s with β:=s.β++[⟨.nilFunc,[]⟩]},rfl,⟨b.size,b.defers.imp λ_ h1=>h1.mono d.ext,λu=>(b.slot u).mono d.ext hh.len⟩,e,d⟩
end
def OO(p:Nat->Bool):List Nat->Bool
 |[]=>ae
 |e::r=>match p e with|true=>ab|false=>OO p r
def GV{p:Nat->Bool}:∀{l:List Nat},OO p l=ab->∃e∈l,p e=ab
 |[],h=>by cases h
 |e::r,h=>by
  simp only[OO]at h;split at h
  .grind
  .obtain⟨a,c,b⟩:=GV h;grind
def xi(all:List au)(k:Nat):Nat->List Nat->Bool
 |0,l=>iv k l
 |f+1,l=>match iv k l with|true=>ab|false=>OO (λe=>xi all k f (bZ (all.getD e jN).after.toList)) l
def qB{all:List au}{k:Nat}{L:Nat->Prop}(b:∀i,i<all.length->L i->∀e∈bZ (all.getD i jN).after.toList,L e):∀{f:Nat}{l:List Nat},xi all k f l=ab->(∀e∈l,L e)->L k
 |0,l,h,a=>a k (J3 h)
 |f+1,l,h,a=>by
  simp only[xi]at h;split at h
  .grind [J3]
  .obtain⟨e,j,d⟩:=GV h;rcases cM e all.length with g|g
   .exact qB b d (b e g (a e j))
   .have:all.getD e jN=jN:=by grind
    rw[this]at d;exact qB b d (λm c=>by simp[jN,bZ]at c)
def xj(all:List au)(f:Nat)(l:List Nat):Nat->Bool
 |0=>ab
 |n+1=>match xi all n f l with|true=>xj all f l n|false=>ae
def tS{all:List au}{f:Nat}{l:List Nat}:∀{n:Nat},xj all f l n=ab->∀k,k<n->xi all k f l=ab
 |0,_,k,hk=>by omega
 |n+1,h,k,hk=>by
  simp only[xj]at h;split at h
  .rename_i a;by_cases e:k=n
   .grind
   .exact tS h k (by omega)
  grind
def wH(all:List au)(f:Nat):Nat->Nat->Bool
 |_,0=>ab
 |i,r+1=>match xj all f (bZ (all.getD i jN).after.toList) i with|true=>wH all f (i+1) r|false=>ae
def tT{all:List au}{f:Nat}:∀{i r:Nat},wH all f i r=ab->∀q,i<=q->q<i+r->xj all f (bZ (all.getD q jN).after.toList) q=ab
 |i,0,_,q,b,a=>by omega
 |i,r+1,h,q,b,a=>by
  simp only[wH]at h;split at h
  .rename_i c;by_cases e:q=i
   .grind
   .exact tT h q (by omega) (by omega)
  grind
section
variable {P:ar}{X:Cx P}{N:Nat}{φ:Fr}{σ:List aR}
def Ie{ι:Type}(c:Nat)(pre:Nat->Bool)(x:Nat->D)(y:ι->Nat->D)(j:ι)(i:Nat):D:=match Nat.blt i c with|true=>ES pre x y j i|false=>.any
def AK.KI{ι:Type}(v:P.follows Departure.mixedOrders=ab)(m c f:Nat)(pre:Nat->Bool)(x:Nat->D)(y:ι->Nat->D)(σ':ι->List aR){ops:Array au}{id:Nat}{K:List It}{Qf:Post}(b:mT ops.toList=ab)(d:sH ops.toList 0=ab)(l:oF N ops.toList=ab)(s:pre m=ae)(t:AQ pre m ops.toList 0=ab)(u:Nat.blt c ops.toList.length=ab)(n:Nat.blt m c=ab)(g:∀i,pre i=ab->i<c)(Qz:wH ops.toList f c (ops.toList.length-c)=ab)(one:ue X N ops.toList φ σ x pre ops.toList 0)(two:∀j,uf X N ops.toList φ (σ' j) (Ie c pre x y j) m (ops.toList.take c) 0)(NL:mW X N ops.toList (ops.toList.getD m jN) (kr ops.toList φ x m) σ (λj=>Ie c pre x y j m) σ')(k:∀j,AK X N Qf (.ops ops.toList (ops.toList.drop c)::K) .normal (NF ops.toList φ (Ie c pre x y j)) (σ' j)):AK X N Qf (.code (.region id ops ab)::K) .normal φ σ:=by
 have u:=db u;have n:=db n;have:=AW.reg (X:=X) (N:=N) (φ:=φ) (σ:=σ) v (all:=ops.toList) c (λa:Option ι=>a.elim x (Ie c pre x y)) (λa _=>a.elim σ σ') (λa D=>a.isSome=D m/\(a=af->∀i,D i=ab->pre i=ab)) af ⟨rfl,λ_ _ h=>by cases h⟩ rfl b d l (by omega)
  (λi h1 h2 L w e k hk=>qB w (tS (tT Qz i h1 (by omega)) k hk) e)
  (λa D r p i h1 h2=>by
   obtain⟨j,rfl⟩:=xh r n p;have:Nat.blt i c=ae:=by
    cases z:Nat.blt i c with
    |false=>rfl
    |true=>have:=db z;omega
   simp only[Option.elim,Ie,this])
  (GU (S:=λj _=>σ' j) s t (λj i e=>by have:Nat.blt i c=ab:=r9 (g i e);simp only[Ie,this,ES,e])
   (λi o hi e=>by have:=one.get i o hi (by grind);grind)
   (λj D i o hi B6 tN _ _=>by
    have q:(ops.toList.take c)[i]?=aa o:=by grind
    have:=(two j).get i o q (by grind);grind)
   (λo A=>by grind) (λ_ _ _=>rfl))
  (Q:=AK X N Qf K) (λa D r p=>by obtain⟨j,rfl⟩:=xh r n p;exact k j) id
 rw[pr]at this;exact this
end
section
variable {P:ar}{X:Cx P}{N:Nat}{ops:Array au}{φ:Fr}{σ:List aR}{x:Nat->D}{S:(Nat->Bool)->List aR}
def pK:List au->List (List Bool)->List (List Bool)
 |[],a=>a
 |o::r,a=>qG (Gx a (bZ o.after.toList)) λc=>pK r (a++[c])
 where qG:List Bool->(List Bool->List (List Bool))->List (List Bool)
 |[],q=>q []
 |true::r,q=>qG r λr=>q (ab::r)
 |false::r,q=>qG r λr=>q (ae::r)
theorem oI:∀(l:List Bool)(q:List Bool->List (List Bool)),pK.qG l q=q l
 |[],q=>rfl
 |true::r,q=>by simp only[pK.qG];rw[oI r]
 |false::r,q=>by simp only[pK.qG];rw[oI r]
def Cr{all:List au}{D:Nat->Bool}(b:∀(j:Nat)(o:au),all[j]?=aa o->D j=ab->∀e∈bZ o.after.toList,D e=ab):
  ∀(r:List au) (a:List (List Bool)),(∀k,r[k]?=all[a.length+k]?)->(∀(j:Nat) (c:List Bool),a[j]?=aa c->∀o,all[j]?=aa o->(∀e∈bZ o.after.toList,D e=ab)->∀q,bit c q=ab->D q=ab) ->
   ∀(j:Nat) (c:List Bool),(pK r a)[j]?=aa c->∀o,all[j]?=aa o->(∀e∈bZ o.after.toList,D e=ab)->∀q,bit c q=ab->D q=ab
 |[],a,_,h=>h
 |o::r,a,d,h=>by
  simp only[pK];rw[oI];refine Cr b r _ (λk=>?_) ?_
  .have:=d (k+1);grind
  .intro j c f;have l:=d 0;simp only[kB,iE]at l;rcases Nat.lt_trichotomy j a.length with g|rfl|i
   .grind
   .rw[gk (bc _)]at f;grind[Au]
   grind
def fZ(all:List au)(i j:Nat):Bool:=match(pK all [])[i]? with|some c=>bit c j|none=>ae
def w5{all:List au}{D:Nat->Bool}(a:∀(j:Nat)(o:au),all[j]?=aa o->D j=ab->∀e∈bZ o.after.toList,D e=ab):∀(i:Nat) o,all[i]?=aa o->(∀e∈bZ o.after.toList,D e=ab)->∀j,fZ all i j=ab->D j=ab:=by
 intro i o f d j b;unfold fZ at b;split at b
 .rename_i c g;exact Cr a all [] (by simp) (by simp) i c g o f d j b
 grind
def GG{all:List au}{D:Nat->Bool}(c:∀(j:Nat)(o:au),all[j]?=aa o->D j=ab->∀e∈bZ o.after.toList,D e=ab){i:Nat}(g:D i=ae):∀j,(j=i∨fZ all j i=ab)->D j=ae:=by
 intro j f;rcases f with rfl|f
 .exact g
 .cases h:D j with
  |false=>rfl
  |true =>
   have a:∃d,all[j]?=aa d:=by
    cases a:all[j]? with
    |some d=>grind
    |none =>
     exfalso;have k:(pK all []).length=all.length:=by
      have:∀(r:List au) (b:List (List Bool)),(pK r b).length=b.length+r.length:=by
       intro r;induction r with
       |nil=>intro b;simp[pK]
       |cons o r l=>intro b;simp only[pK];grind[oI]
      grind
     unfold fZ at f;grind
   obtain⟨d,a⟩:=a;have:=w5 c j d a (c j d a h) i f;grind
def eh{P:ar}(X:Cx P)(N:Nat)(all:List au)(φ:Fr)(x:Nat->D)(S:(Nat->Bool)->List aR)(i:Nat)(o:au):Prop :=
 ∀D:Nat->Bool,(∀j,fZ all i j=ab->D j=ab)->(∀j,(j=i∨fZ all j i=ab)->D j=ae)->OA X N all o (kr all φ x i) (S D) (x i) (S (ey i D))
def Kj{P:ar}(X:Cx P)(N:Nat)(all:List au)(φ:Fr)(x:Nat->D)(S:(Nat->Bool)->List aR):List au->Nat->Prop
 |[],_=>True
 |o::r,i=>eh X N all φ x S i o/\Kj X N all φ x S r (i+1)
theorem Kj.get{all:List au}:∀{l:List au}{k:Nat},Kj X N all φ x S l k->∀i o,l[i]?=aa o->eh X N all φ x S (k+i) o
 |[],_,_,i,o,h=>by grind
 |p::r,k,h,0,o,a=>by simp at a;subst a;exact h.1
 |p::r,k,h,i+1,o,a=>by have:=Kj.get h.2 i o (by grind);grind
def AK.flags{ops:Array au}{id:Nat}{K:List It}{Qf:Post}(l:P.follows Departure.mixedOrders=ab)(x:Nat->D)(S:(Nat->Bool)->List aR)(m:S (λ_=>ae)=σ)(a:mT ops.toList=ab)(b:sH ops.toList 0=ab)(e:oF N ops.toList=ab)(one:Kj X N ops.toList φ x S ops.toList 0)(k:∀D,(∀i,i<ops.toList.length->D i=ab)->AK X N Qf K .normal (NF ops.toList φ x) (S D)):AK X N Qf (.code (.region id ops ab)::K) .normal φ σ:=by
 have:=AW.reg (X:=X) (N:=N) (φ:=φ) (σ:=σ) l (all:=ops.toList) ops.toList.length (λ_:Unit=>x) (λ_=>S) (λ_ _=>True) () ay m a b e (bc _)
  (λi h1 h2=>absurd h2 (mN.2 h1)) (λg D _ _ i h1 h2=>absurd h2 (mN.2 h1))
  (λg D i o _ h _ f c d=>by have h1:=one.get i o h;rw[bF]at h1;exact(h1 D (w5 d i o h c) (GG d f)).tQ ⟨(),λ_ _=>rfl,ay⟩ rfl rfl)
  (Q:=AK X N Qf K) (λg D _ j=>by rw[qp];exact .nil (k D j)) id
 rw[pr]at this;exact this
end
section
variable {P:ar}{X:Cx P}{N:Nat}{Qf:Post}{φ:Fr}{σ:List aR}
def AK.CI{c:Code}{K:List It}{φ':Fr}{σ':List aR}(k:AK X N Qf (.code c::K) .normal φ' σ'){ps qs:List Prop}(h1:nV φ φ'=aa ps)(a:az ps)(h2:ph σ σ'=aa qs)(b:az qs):AK X N Qf (.code c::K) .normal φ σ :=
 AK.norm σ' h2 b (AW.le k (cD h1 a))
def uT:List It->List It
 |.blk _::K=>uT K
 |K=>K
def AK.uT:∀{K:List It},AK X N Qf (uT K) .normal φ σ->AK X N Qf K .normal φ σ
 |[],h=>h
 |.blk _::K,h=>AK.uT (K:=K) h
 |.code _::_,h=>h
 |.ops _ _::_,h=>h
def AK.lj{S S2:Type}{c c2:Code}(id:Nat){K f h:List It}(h2:j9 id K=aa f)(k:Go.AM.uT f=.code c2::h)(O:S2->Prop)(kr:S2->Fr)(a:S2->List aR)(n:Nat)(I:S->Prop)(fr:S->Fr)(st:S->List aR)(i:S->Nat)(x:S){ps qs:List Prop}(e:nV φ (fr x)=aa ps)(b:az ps)(d:ph σ (st x)=aa qs)(g:az qs)(l:σ.length=n)(m:I x)(round:(∀(y:S2) {φ:Fr} {σ:List aR} {ps qs:List Prop},O y->nV φ (kr y)=aa ps->az ps->ph σ (a y)=aa qs->az qs->AK X N Qf f .normal φ σ) ->
   ∀x,I x->AK X N (lF X N Qf K I fr st i n x) [.code c] .normal (fr x) (st x))(after:∀y,O y->AK X N Qf (.code c2::h) .normal (kr y) (a y)):AK X N Qf (.code (.loop c)::K) .normal φ σ :=
 AK.cE n I fr st i x e b d g l m (round λy _ _ _ _ j h1 b h2 g=>AK.uT (by rw[k];exact(after y j).CI h1 b h2 g))
end
def fR(a:Nat->Option Obj):Mem:=λb o=>match a b with
 |some (.cells cs _ _)=>cs[o]?
 |_=>af
def PM(K:Mem->Prop):ah->(Nat->Option Obj)->Prop:=λu a=>u=.nilFunc/\(∀b o,a b=aa o->∃cs E,o=.cells cs E (0,0))/\K (fR a)
section
variable {P:ar}{X:Cx P}{N:Nat}{Qf:Post}{d:List It}{φ:Fr}{σ:List aR}{all rest:List au}{o:au}
def AK.merge(i j:Nat){H1 H2 H:ah->(Nat->Option Obj)->Prop}{c:Code}(M:i≠j)(hi:σ[i]?=aa (.cm H1))(hj:σ[j]?=aa (.cm H2))(h1:∀v ch,H1 v ch->v=.nilFunc)(h:∀v f v2 k,H1 v f->H2 v2 k->(∀b,(f b).isSome=ab->(k b).isSome=ab->False)->H .nilFunc λb=>(f b).or (k b))(kk:AK X N Qf (.code c::d) .normal φ ((σ.set i (.cm H)).set j .dead)):AK X N Qf (.code c::d) .normal φ σ:=by
 refine AK.ghost (λs a O hh=>?_) kk;have Y:i<σ.length:=(b6.1 hi).1;have W:j<σ.length:=(b6.1 hj).1;have F:i<s.β.length:=by rw[hh.len];grind
 have E:j<s.β.length:=by rw[hh.len];grind
 obtain⟨y,n⟩:∃L,s.β[i]?=aa L:=⟨_,br F⟩;obtain⟨r,m⟩:∃L,s.β[j]?=aa L:=⟨_,br E⟩;have Z:=hh.box i _ y hi n;have bj:=hh.box j _ r hj m;have vi:y.v=.nilFunc:=by obtain⟨ch,hH,_⟩:=Z;grind
 let s':St:={s with β:=(s.β.set i ⟨.nilFunc,y.bs++r.bs⟩).set j ⟨r.v,[]⟩}
 have G:∀l,((σ.set i (.cm H)).set j .dead)[l]?=if l=j then aa .dead else if l=i then aa (.cm H)else σ[l]?:=λl=>by grind
 have A:∀l,s'.β[l]?=if l=j then aa ⟨r.v,[]⟩else if l=i then aa ⟨.nilFunc,y.bs++r.bs⟩else s.β[l]?:=λl=>by grind
 have mi:=bP n;have mj:=bP m;have T:∀L∈s'.β,∀b∈L.bs,∃z∈s.β,b∈z.bs:=λL g b p=>by grind
 have ex:Ext σ s ((σ.set i (.cm H)).set j .dead) s':=by
  refine⟨λ_ _ _ h=>h,λl B L hB g=>?_⟩;rw[G,A];by_cases e:l=j
  .subst e;rw[hj]at hB;cases hB;rw[m]at g;cases g;exact⟨.dead,⟨r.v,[]⟩,by simp,by simp,rfl⟩
  .by_cases I:l=i
   .subst I;rw[hi]at hB;cases hB;rw[n]at g;cases g;exact⟨.cm H,⟨.nilFunc,y.bs++r.bs⟩,by simp[e],by simp[e],vi.symm⟩
   .exact⟨B,L,by grind,by grind,.refl _ _⟩
 have st:Step σ s ((σ.set i (.cm H)).set j .dead) s' :=
  ⟨bc _,λ_ _ _=>rfl,λ_ _ _ h=>h,λ_ _ _ _=>rfl,λL h b p=>.inr (T L h b p),ex.box,rfl,rfl,rfl,rfl⟩
 obtain⟨f,a1,a2,a3,a4⟩:=Z;obtain⟨k,b1,b2,b3,b4⟩:=bj;have K:∀b,(f b).isSome=ab->(k b).isSome=ab->False:=λb J q2=>M (hh.eO i j y r n m b ((a3 b).2 J) ((b3 b).2 q2));refine⟨s',rfl,⟨O.size,O.defers.imp λ_ h1=>h1.mono ex,λu=>(O.slot u).mono ex hh.len⟩,⟨hh.mem,by simp[s',hh.len],?_,?_,λL g b p=>?_,λb p=>⟨(hh.own b p).1,λL g U=>?_⟩⟩,st⟩
 .intro l B L hB g;rw[G]at hB;rw[A]at g;split at hB
  .cases hB;trivial
  .rename_i e;rw[aY e]at g;split at hB
   .rename_i I;rw[bl I]at g;cases hB;cases g;refine⟨λb=>(f b).or (k b),h _ f _ k a1 b1 K,λb o p=>?_,λb=>?_,λb p o=>?_⟩
    .cases h1:f b with
     |some x=>grind
     |none=>grind
    .grind
    grind
   .rename_i I;rw[aY I]at g;exact(hh.box l B L hB g).carry ex hh.len λb p=>⟨rfl,λ_=>rfl⟩
 .intro l l' L1 L2 J q2 b p S;rw[A]at J q2;have key:∀l L,(if l=j then aa (⟨r.v,[]⟩:Loc)else if l=i then aa ⟨.nilFunc,y.bs++r.bs⟩else s.β[l]?)=aa L->b∈L.bs->(l=i/\(b∈y.bs∨b∈r.bs))∨(l≠i/\l≠j/\∃z,s.β[l]?=aa z/\b∈z.bs):=λl L q p=>by
   split at q
   .grind
   .split at q
    .grind
    grind
  rcases key l L1 J p with⟨e1,t⟩|⟨n1,Q,L3,t,C⟩<;>rcases key l' L2 q2 S with⟨e2,w⟩|⟨n2,R,L4,w,D⟩
  .grind
  .rcases t with t|t
   .exact absurd (hh.eO _ _ _ _ n w b t D).symm n2
   .exact absurd (hh.eO _ _ _ _ m w b t D).symm R
  .rcases w with w|w
   .exact absurd (hh.eO _ _ _ _ n t b w C).symm n1
   .exact absurd (hh.eO _ _ _ _ m t b w C).symm Q
  .exact hh.eO _ _ _ _ t w b C D
 .obtain⟨z,V,h1⟩:=T L g b p;exact hh.lt z V b h1
 .obtain⟨z,V,h1⟩:=T L g b U;exact(hh.own b p).2 z V h1
def xq(M M':Mem):Prop:=∀b o v,M b o=aa v->M' b o=aa v
def PM.add{K r:Mem->Prop}{E:aj}{k n:Nat}{bf:nD}{xs:List ah}(q:∀M M',xq M M'->K M->(∀b cap,bf=.row b cap->∀j v,xs[j]?=aa v->M' b j=aa v)->r M'):
  ∀v c s f,PM K v c->gf E k bf n xs s f->(∀b,(c b).isSome=ab->(f b).isSome=ab->False)->PM r .nilFunc λb=>(c b).or (f b):=by
 rintro v c s f ⟨_,h2,t⟩ i B;have g:xq (fR c) (fR λb=>(c b).or (f b)):=λb o v l=>by
  cases h:c b with
  |none=>simp[fR,h]at l
  |some x=>simpa[fR,h]using l
 cases bf with
 |nil a =>
  obtain⟨_,_,_,_,rfl⟩:=i;exact⟨rfl,λb o w=>h2 b o (by grind),q _ _ g t λb cap e=>by cases e⟩
 |row b cap =>
  obtain⟨_,q2,q3,q4,z,y,A,rfl⟩:=i;refine⟨rfl,λp o w=>?_,q _ _ g t λp m e j v hj=>?_⟩
  .cases h:c p with
   |some x=>grind
   |none =>
    grind
  .cases e;have u:c b=af:=by
    cases h:c b with
    |none=>rfl
    |some x=>grind
   have hl:j<xs.length:=(b6.1 hj).1;simp only[fR,u,Option.none_or,cq];grind
def PM.start{E:aj}{k n:Nat}{xs:List ah}{a:Option Addr}{K:Mem->Prop}(c:∀M,K M):∀v ch,gf E k (.nil a) n xs v ch->PM K v ch:=by rintro v ch ⟨h1,_,_,_,rfl⟩;exact⟨h1,λb o e=>by grind,c _⟩
def PM.Ce{e:Nat}{K:Mem->Prop}{u:ah}{k n:Nat}{es:Nat->List C}(hl:σ[e]?=aa (.cm (PM K)))(l:∀M,K M->Rd M u (.sl ae k n es)):hU σ e u k n es:=by
 intro s hh;have c:e<s.β.length:=by rw[hh.len];grind
 have g:=br c;generalize s.β[e]=L at g;obtain⟨ch,⟨h1,h2,q⟩,m,j,i⟩:=hh.box e _ L hl g;have f:∀b o v,fR ch b o=aa v->b∈L.bs/\s.w.cell? ⟨b,o,af⟩=aa v:=λb o v a=>by
  cases h:ch b with
  |none=>simp[fR,h]at a
  |some x =>
   obtain⟨cs,E,rfl⟩:=h2 b x h;have p:=m b _ h;simp only[fR,h]at a;exact⟨(j b).2 (by simp[h]),by simpa[aV,p]using a⟩
 refine⟨L,λb o=>(s.M b o).or (fR ch b o),g,λb o v a=>by grind,λb r o=>?_,λb o v a=>?_,i,(l _ q).mono λb o v a=>?_⟩
 .cases h:fR ch b o with
  |none=>simp[h]
  |some v=>grind
 .cases h:s.M b o with
  |some v'=>simp only[h,Option.some_or]at a;cases a;exact hh.mem b o v h
  |none=>grind
 grind
def gf.VE{E:aj}{k n l:Nat}{bf:nD}{xs:List ah}(hl:σ[l]?=aa (.cm (gf E k bf n xs)))(h:0<n)(s:St)(hh:aF σ s):∃b cap,bf=.row b cap/\n<=cap/\cap<=9223372036854775807:=by
 have c:l<s.β.length:=by rw[hh.len];grind
 obtain⟨ch,e,_⟩:=hh.box l _ _ hl (br c);cases bf with
 |nil a=>obtain⟨_,_,_,f,_⟩:=e;omega
 |row b cap=>obtain⟨_,_,_,f,g,_⟩:=e;grind
end
def wI(l k n:Nat)(es:Nat->List C):A->A×List Prop
 |.bp l' (.sl g k' o m)=>match aB l' l with
  |true=>match aB k' k with
   |true=>(.c (.sl ae k m (rF o es)),[g=n,o+m<=n])
   |false=>(.bp l' (.sl g k' o m),[])
  |false=>(.bp l' (.sl g k' o m),[])
 |a=>(a,[])
def oG(l k n:Nat)(es:Nat->List C):List A->List A×List Prop
 |[]=>([],[])
 |a::r=>match wI l k n es a with
  |(a',p)=>match oG l k n es r with
   |(r',q)=>(a'::r',la p q)
def Er(l k n:Nat)(es:Nat->List C):E1->E1×List Prop
 |.one a=>match wI l k n es a with|(a',p)=>(.one a',p)
 |.agg cs=>match oG l k n es cs with|(b,p)=>(.agg b,p)
def Et(l k n:Nat)(es:Nat->List C):D->D×List Prop
 |.e x=>match Er l k n es x with|(a,p)=>(.e a,p)
 |d=>(d,[])
def wJ(l k n:Nat)(es:Nat->List C):Fr->Fr×List Prop
 |[]=>([],[])
 |(t,d)::r=>match Et l k n es d with
  |(a,p)=>match wJ l k n es r with
   |(r',q)=>((t,a)::r',la p q)
def g8(l k n:Nat)(es:Nat->List C):Nat->List aR->List aR×List Prop
 |_,[]=>([],[])
 |i,b::r=>match g8 l k n es (i+1) r with
  |(r',q)=>match aB i l with
   |true=>(.dead::r',q)
   |false=>match b with
    |.cells E cs=>match oG l k n es cs with|(a,p)=>(.cells E a::r',la p q)
    |b=>(b::r',q)
section
variable {σ σ':List aR}{s s2:St}{E l k n:Nat}{es:Nat->List C}
structure jr(σ:List aR)(s:St)(l k n:Nat)(es:Nat->List C)(σ':List aR)(s2:St):Prop where
 fy:∀v a,gB σ s v a->gB σ' s2 v a
 JV:∀v k' o m,gB σ s v (.bp l (.sl n k' o m))->k'=k->o+m<=n->Rd s2.M v (.sl ae k m (rF o es))
def jr.a(h:jr σ s l k n es σ' s2){v:ah}{a:A}(b:az (wI l k n es a).2)(r:gB σ s v a):gB σ' s2 v (wI l k n es a).1:=by
 unfold wI at b⊢;split
 .rename_i l' g k' o m;split
  .rename_i e1;split
   .rename_i e2;simp only[e1,e2]at b;have e1:=bX e1;have e2:=bX e2;subst e1;obtain⟨rfl,h2⟩:g=n/\o+m<=n:=b;exact h.JV v _ _ _ r e2 h2
   .exact h.fy v _ r
  .exact h.fy v _ r
 .exact h.fy v _ r
def jr.ls(h:jr σ s l k n es σ' s2):∀{vs:List ah}{cs:List A},az (oG l k n es cs).2->ei σ s vs cs->ei σ' s2 vs (oG l k n es cs).1
 |[],[],_,_=>trivial
 |[],_::_,_,r=>r.elim
 |_::_,[],_,r=>r.elim
 |v::vs,c::cs,b,r=>by simp only[oG]at b⊢;rw[az.cat]at b;exact⟨h.a b.1 r.1,h.ls b.2 r.2⟩
def jr.e(h:jr σ s l k n es σ' s2){v:ah}{x:E1}(b:az (Er l k n es x).2)(r:nC σ s v x):nC σ' s2 v (Er l k n es x).1:=by
 cases x with
 |one a=>exact h.a b r
 |agg cs=>obtain⟨vs,f,d⟩:=r;exact⟨vs,f,h.ls b d⟩
def jr.d(h:jr σ s l k n es σ' s2)(hl:s.β.length=σ.length)(b:Ext σ s σ' s2){v:ah}{d:D}(a:az (Et l k n es d).2)(r:dt σ s v d):dt σ' s2 v (Et l k n es d).1:=by
 cases d with
 |e x=>exact h.e a r
 |fa xs=>exact r.mono b hl
 |any=>trivial
def jr.f(h:jr σ s l k n es σ' s2)(hl:s.β.length=σ.length)(e:Ext σ s σ' s2):∀{φ:Fr}{t:Nat}{v:ah},az (wJ l k n es φ).2->dt σ s v (look φ t)->dt σ' s2 v (look (wJ l k n es φ).1 t)
 |[],_,_,_,_=>trivial
 |(u,d)::r,t,v,b,a=>by
  simp only[wJ]at b⊢;rw[az.cat]at b;simp only[look]at a⊢;cases g:aB u t with
  |true=>rw[g]at a;exact h.d hl e b.1 a
  |false=>rw[g]at a;exact h.f hl e b.2 a
theorem rG:∀{σ:List aR}{i j:Nat},(g8 l k n es i σ).1[j]?=match σ[j]? with
  |none=>af
  |some b=>aa (match aB (i+j) l with|true=>.dead|false=>match b with|.cells E cs=>.cells E (oG l k n es cs).1|b=>b)
 |[],i,j=>by simp[g8]
 |b::r,i,0=>by simp only[g8,iE,kB];grind
 |b::r,i,j+1=>by
  have a:=rG (σ:=r) (i:=i+1) (j:=j);have e:i+1+j=i+(j+1):=by omega
  rw[e]at a;simp only[g8,oh];grind
def wK:∀{σ:List aR}{i j:Nat}{E:aj}{cs:List A},az (g8 l k n es i σ).2->σ[j]?=aa (.cells E cs)->i+j≠l->az (oG l k n es cs).2
 |[],i,j,_,_,_,a,_=>by grind
 |b::r,i,0,E,cs,d,a,e=>by simp at a;subst a;simp only[g8]at d;grind[Nat.eq_of_beq_eq_true,az.cat]
 |b::r,i,j+1,E,cs,d,a,e=>by simp at a;refine wK (σ:=r) (i:=i+1) (j:=j) ?_ a (by omega);simp only[g8]at d;grind[az.cat]
theorem rH:∀{σ:List aR}{i:Nat},(g8 l k n es i σ).1.length=σ.length
 |[],_=>rfl
 |b::r,i=>by simp only[g8];have a:=rH (σ:=r) (i:=i+1);grind
def aF.oX(hh:aF σ s)(hB:σ[l]?=aa (.buf E k n es))(hq:az (g8 l k n es 0 σ).2):
  ∃s2:St,s2.w=s.w/\aF (g8 l k n es 0 σ).1 s2/\Step σ s (g8 l k n es 0 σ).1 s2/\jr σ s l k n es (g8 l k n es 0 σ).1 s2:=by
 have Q:l<σ.length:=(b6.1 hB).1;have S:s.β[l]?=aa (s.β[l]'(by rw[hh.len];exact Q)):=br _;generalize s.β[l]'(by grind)=L at S;have J:=hh.box _ _ L hB S;obtain⟨M',m1,m2,m3,m4⟩:∃M':Mem,(∀b o v,s.M b o=aa v->M' b o=aa v)/\(∀b,b∉L.bs->∀o,M' b o=s.M b o)/\(∀b o v,M' b o=aa v->s.w.cell? ⟨b,o,af⟩=aa v) /\
   (∀v k' o m,gB σ s v (.bp l (.sl n k' o m))->k'=k->o+m<=n->Rd M' v (.sl ae k m (rF o es))):=by
  rcases J with⟨rfl,rfl⟩|⟨b,c0,vs,zs,rfl,hw,NC,hnc,HM,Y,hM⟩
  .refine⟨s.M,λ_ _ _ h=>h,λ_ _ _=>rfl,hh.mem,λv k' o m r e A=>?_⟩;obtain⟨lv,⟨a,a0,cap,c0,y,h1,h2,O,H,R⟩,_,Z⟩:=r;grind[Rd.jY]
  .let M':Mem:=λq o=>if q=b then vs[o]? else s.M q o;have mm:∀q o v,s.M q o=aa v->M' q o=aa v:=λq o v y=>by grind
   refine⟨M',mm,λq B8 o=>?_,λq o v y=>?_,λv k' o m r e A=>?_⟩
   .grind
   .by_cases e:q=b
    .subst e;simp only[M',cq]at y;simp only[aV,hw];grind
    .simp only[M',e,ck]at y;exact hh.mem q o v y
   .subst e;obtain⟨lv,⟨a,a0,cap,c1,y,h1,h2,O,H,R⟩,_,Z⟩:=r;obtain⟨L',f,I⟩:=(Z _ _ _ _ hB).2 rfl;rw[S]at f;cases f;rw[H]at I;cases I;rw[y];have g:∀i,i<m->∀j c,(rF o es i)[j]?=aa c->∃u,vs[(o+i)*k'+j]?=aa u/\Rd s.M u c:=λi hi j c hj=>by rw[vQ]at hj;exact Y.rd (o+i) (by omega) j c hj
    refine .sl b (o*k') (λi j=>(vs[(o+i)*k'+j]?).getD ai) h1 (by omega) (by simp) (λi hi=>by rw[vQ];exact Y.width _ (by omega)) (λhm=>?_) (λi hi j c hj=>?_) (λi hi j c hj=>?_)
    .grind
    .grind
    .obtain⟨u,u1,u2⟩:=g i hi j c hj;rw[u1];exact u2.mono mm
 obtain⟨D,q2⟩:=hh.gJ (M':=M') (w':=s.w) (B':=.dead) (L':=⟨L.v,[]⟩) hB S ay (bc _) (λ_ _ _=>rfl) (λb _ W o=>m2 b W o) m1 m3 (by simp) rfl rfl rfl ay;let s2:St:=⟨s.β.set l ⟨L.v,[]⟩,M',s.w,s.own⟩
 have g:∀i B,σ[i]?=aa B->i≠l->(g8 l k n es 0 σ).1[i]?=aa (match B with|.cells E cs=>.cells E (oG l k n es cs).1|b=>b):=λi B hi B6=>by grind[rG,Nat.eq_of_beq_eq_true]
 have G:(g8 l k n es 0 σ).1[l]?=aa .dead:=by
  rw[rG,hB];have:aB (0+l) l=ab:=by rw[bF];exact ja l
  grind
 have wL:Step (σ.set l .dead) s2 (g8 l k n es 0 σ).1 s2:=by
  refine⟨bc _,λ_ _ _=>rfl,λ_ _ _ h=>h,λ_ _ _ _=>rfl,λL' f b W=>.inr ⟨L',f,W⟩,λi B L' hi f=>?_,rfl,rfl,rfl,rfl⟩;by_cases e:i=l
  .subst e;rw[gn Q]at hi;cases hi;exact⟨.dead,L',G,f,rfl⟩
  .rw[kC (λh=>e h.symm)]at hi;refine⟨_,L',g i B hi e,f,?_⟩;cases B<;>first|exact gI.refl _ _|rfl
 have st:=q2.trans wL;have hc:jr σ s l k n es (g8 l k n es 0 σ).1 s2:=⟨λv a r=>r.mono st.ext hh.len,λv k' o m r e A=>m4 v k' o m r e A⟩
 refine⟨s2,rfl,⟨D.mem,by rw[rH,<-hh.len];grind,λi B L' hi f=>?_,D.eO,D.lt,D.own⟩,st,hc⟩;by_cases e:i=l
 .subst e;rw[G]at hi;cases hi;trivial
 .have z:i<σ.length:=by grind[rH]
  have x:=br z;have U:s.β[i]?=aa L':=by grind
  have V:=hh.box i _ L' x U;have p:=D.box i _ L' (by rw[kC (λh=>e h.symm)];exact x) f;have d:=g i _ x e;rw[hi]at d;have d:=sr d;generalize hBe:σ[i]=B0 at *;cases B0 with
  |cells E0 cs =>
   subst d;obtain⟨b,vs,h1,h2,O,R⟩:=V;obtain⟨q,Ak,F,Yh,_,T⟩:=p;rw[h1]at F;cases F;exact⟨b,vs,h1,h2,hc.ls (wK hq x (by omega)) O,T⟩
  |vec=>subst d;exact p
  |cm=>subst d;exact p
  |dead=>subst d;trivial
  |loop N φ r =>
   subst d;obtain⟨l1,tmps,fn,df,h1,h2,O,R,h5⟩:=p;exact⟨l1,tmps,fn,df,h1,h2,O,λt=>(R t).mono wL.ext D.len,h5⟩
  |qY=>subst d;exact p
  |buf=>subst d;exact p
end
section
variable {P:ar}{X:Cx P}{N:Nat}{Qf:Post}{K:List It}{φ φ':Fr}{σ σ':List aR}{c:Code}
def AK.oX(l:Nat){E k n:Nat}{es:Nat->List C}{ps qs:List Prop}(hl:dC l σ=aa (.buf E k n es))(i:wJ l k n es φ=(φ',ps))(e:g8 l k n es 0 σ=(σ',qs))(j:az ps)(m:az qs)(kk:AK X N Qf (.code c::K) .normal φ' σ'):AK X N Qf (.code c::K) .normal φ σ:=by refine AK.ghost (λs a d hh=>?_) kk;obtain⟨s2,h1,h2,b,g⟩:=hh.oX (b9 hl) (by grind);rw[e]at h2 b g;refine⟨s2,h1,⟨d.size,d.defers.imp λ_ h=>h.mono b.ext,λt=>?_⟩,h2,b⟩;have:=g.f hh.len b.ext (φ:=φ) (t:=t) (by grind) (d.slot t);grind
end
section
variable {P:ar}{X:Cx P}
def ef.BU{ι:Type}{f:aJ}{args:List D}{E:aj}{k n:Nat}{a b:C}{ok:Bool}{es:ι->Nat->List C}{K:ι->Mem->Prop}(es':Nat->List C)(h:ef X f args [] (λ_=>.fa [.agg [.bp 0 (.sl n k 0 n),.c a,.c b],.one (.c (.bool ok))]) (λi=>[.buf E k n (es i),.cm (PM (K i))]))(hK:∀i M M',xq M M'->K i M->K i M')(u:∀i M,K i M->∀j,j<n->(es' j).length=k/\∀(p:Nat) (c:C),(es' j)[p]?=aa c->∃U,(es i j)[p]?=aa U/\∀v M0,Rd M0 v U->Rd M v c):
  ef (ι:=ah) X f args [] (λv=>.fa [.agg [.c (.val v),.c a,.c b],.one (.c (.bool ok))]) (λv=>[.dead,.cm (PM λM=>Rd M v (.sl ae k n es'))]):=by
 refine⟨h.1,λs vs hr hh S cs hS=>h.2 s vs hr hh S cs λi fr v s' hl mJ jh st=>?_⟩;have hlen:s'.β.length=2:=jh.len;obtain⟨t,L1,G⟩:∃t L1,s'.β=[t,L1]:=by
  match hq:s'.β with
  |[A,B]=>grind
  |[]=>grind
  |[_]=>grind
  |_::_::_::_=>grind
 have Y:s'.β[0]?=aa t:=by grind
 have g1:s'.β[1]?=aa L1:=by grind
 obtain⟨ch,⟨p1,p2,p3⟩,p4,p5,p6⟩:=jh.box 1 _ L1 rfl g1;have b0:=jh.box 0 _ t rfl Y;obtain⟨ws,rfl,hw⟩:=mJ
 match ws,hw with
 |[w0,w1],⟨F,z,_⟩ =>
 obtain⟨us,rfl,N⟩:=F
 match us,N with
 |[u0,u1,u2],⟨R,T,O,_⟩ =>
 obtain⟨lv,⟨a',a0,cap,U,rfl,k1,k2,k3,k4,k5⟩,_,V⟩:=R;obtain⟨_,V⟩:=V E k n (es i) rfl;obtain⟨L0',e0,e1⟩:=V rfl;rw[Y]at e0;cases e0;rw[k4]at e1;have adV:∀x,x∈t.bs->x∈L1.bs->False:=λx h1 h2=>absurd (jh.eO 0 1 t L1 Y g1 x h1 h2) (by decide);obtain⟨m,q1,q2,q3,q4⟩:∃m:Nat->Option Obj,(∀x o,m x=aa o->s'.w.heap[x]?=aa o/\∃cs E,o=.cells cs E (0,0))/\(∀x,x∈t.bs↔(m x).isSome=ab)/\(∀x∈t.bs,∀o,s'.M x o=af) /\
   (∀d,(∀x,(m x).isSome=ab->d x=m x)->K i (fR d)->Rd (fR d) (.slice a' n cap) (.sl ae k n es')):=by
  rcases b0 with⟨rfl,rfl⟩|⟨bb,c1,xs,zs,rfl,z1,z2,z3,z4,z5,z6⟩
  .exact⟨λ_=>af,by simp,by simp,by simp,λd _ _=>.sl 0 0 (λ_ _=>ai) k1 (by omega) (λh=>by cases h) (λi hi=>by omega) (λh=>by omega) (λi hi=>by omega) λi hi=>by omega⟩
  .cases e1;refine⟨λx=>if x=bb then aa (.cells (xs++zs).toArray E (0,0))else af,λx o g=>?_,λx=>by by_cases e:x=bb<;>simp[e],λx g o=>?_,λd hc hk=>?_⟩
   .grind
   .grind
   .have Q:d bb=aa (.cells (xs++zs).toArray E (0,0)):=by grind
    refine .sl bb 0 (λi' j'=>xs.getD (i'*k+j') ai) k1 (by omega) (λh=>by cases h) (λj hj=>(u i _ hk j hj).1) (λh=>?_) (λj hj p c I=>?_) λj hj p c I=>?_
    .grind
    .obtain⟨c2,h1,h2⟩:=(u i _ hk j hj).2 p c I;obtain⟨v,v1,v2⟩:=z5.rd j hj p c2 h1;have tN:=(b6.1 v1).1;simp only[fR,Q,iB,bF];grind
    .obtain⟨c2,h1,h2⟩:=(u i _ hk j hj).2 p c I;obtain⟨v,v1,v2⟩:=z5.rd j hj p c2 h1;grind
 let d:Nat->Option Obj:=λx=>(ch x).or (m x);have J:∀x,(m x).isSome=ab->d x=m x:=λx g=>by
  have:ch x=af:=by
   cases h:ch x with
   |none=>rfl
   |some y=>grind
  grind
 have W:xq (fR ch) (fR d):=λx o v Z=>by
  cases h:ch x with
  |none=>simp[fR,h]at Z
  |some y=>simpa[fR,h,d]using Z
 let s2:St:={s' with β:=[⟨t.v,[]⟩,⟨.nilFunc,L1.bs++t.bs⟩]}
 have r:∀L∈s2.β,∀x∈L.bs,∃L'∈s'.β,x∈L'.bs:=λL q x g=>by rw[G];simp only[s2,eB,ot,mO]at q;grind
 have hG:eF s' s2:=⟨rfl,λ_ _ _ h=>h,λ_ _ _=>rfl,jh.mem,λx g=>g.imp id λ⟨L,q,g⟩=>r L q x g⟩
 refine .ghost hG (hS (.slice a' n cap) fr _ s2 (hl.mono λ_ _ _ h=>h) ⟨_,rfl,⟨_,rfl,Rd.val rfl,T,O,ay⟩,z,ay⟩ ⟨jh.mem,rfl,λl B L hB q=>?_,λl l' A B h1 h2 x g QN=>?_,λL q x g=>?_,λx g=>⟨(jh.own x g).1,λL q H=>?_⟩⟩
  ⟨st.size,st.fy,st.mem,λx g hn o=>st.je x g hn o,λL q x g=>?_,λl B L hB=>by grind,st.os,st.tape,st.output,st.own⟩)
 .match l,hB,q with
  |0,hB,q=>cases hB;trivial
  |1,hB,q =>
   cases hB;cases q;refine⟨d,⟨rfl,λx o g=>?_,q4 d J (hK i _ _ W p3)⟩,λx o g=>?_,λx=>?_,λx g o=>?_⟩
   .cases h:ch x with
    |some y=>simp only[d,h,Option.some_or]at g;exact p2 x o (h.trans g)
    |none=>simp only[d,h,Option.none_or]at g;exact(q1 x o g).2
   .cases h:ch x with
    |some y=>grind
    |none=>grind
   .grind
   grind
  |l+2,hB,q=>grind
 .match l,l',h1,h2 with
  |0,0,_,_=>rfl
  |1,1,_,_=>rfl
  |0,1,h1,_=>grind
  |1,0,_,h2=>grind
  |l+2,_,h1,_=>grind
  |_,l+2,_,h2=>grind
 .obtain⟨L',h1,h2⟩:=r L q x g;exact jh.lt L' h1 x h2
 .obtain⟨L',h1,h2⟩:=r L q x H;exact(jh.own x g).2 L' h1 h2
 .obtain⟨L',h1,h2⟩:=r L q x g;exact st.vK L' h1 x h2
end
section
variable {P:ar}{X:Cx P}{N:Nat}{ops:Array au}{φ:Fr}{σ:List aR}{c:Type}{x:c->Nat->D}{S:c->(Nat->Bool)->List aR}{Inv:c->(Nat->Bool)->Prop}
def iy{P:ar}(X:Cx P)(N:Nat)(all:List au)(φ:Fr){c:Type}(x:c->Nat->D)(S:c->(Nat->Bool)->List aR)(Inv:c->(Nat->Bool)->Prop)(i:Nat)(o:au):Prop :=
 ∀b (D:Nat->Bool),Inv b D->(∀j,fZ all i j=ab->D j=ab)->(∀j,(j=i∨fZ all j i=ab)->D j=ae)->mW X N all o (kr all φ (x b) i) (S b D) (λq:{a:c // (∀j,D j=ab->x a j=x b j)/\Inv a (ey i D)}=>x q.1 i) (λq=>S q.1 (ey i D))
def Ki{P:ar}(X:Cx P)(N:Nat)(all:List au)(φ:Fr){c:Type}(x:c->Nat->D)(S:c->(Nat->Bool)->List aR)(Inv:c->(Nat->Bool)->Prop):List au->Nat->Prop
 |[],_=>True
 |o::r,i=>iy X N all φ x S Inv i o/\Ki X N all φ x S Inv r (i+1)
theorem Ki.get{all:List au}:∀{l:List au}{k:Nat},Ki X N all φ x S Inv l k->∀i o,l[i]?=aa o->iy X N all φ x S Inv (k+i) o
 |[],_,_,i,o,h=>by grind
 |p::r,k,h,0,o,a=>by simp at a;subst a;exact h.1
 |p::r,k,h,i+1,o,a=>by have:=Ki.get h.2 i o (by grind);grind
def AK.Sj{ops:Array au}{id:Nat}{K:List It}{Qf:Post}(q:P.follows Departure.mixedOrders=ab)(x:c->Nat->D)(S:c->(Nat->Bool)->List aR)(Inv:c->(Nat->Bool)->Prop)(d:c)(m:Inv d λ_=>ae)(r:S d (λ_=>ae)=σ)(b:mT ops.toList=ab)(e:sH ops.toList 0=ab)(h:oF N ops.toList=ab)(one:Ki X N ops.toList φ x S Inv ops.toList 0)(k:∀a D,Inv a D->(∀i,i<ops.toList.length->D i=ab)->AK X N Qf K .normal (NF ops.toList φ (x a)) (S a D)):AK X N Qf (.code (.region id ops ab)::K) .normal φ σ:=by
 have:=AW.reg (X:=X) (N:=N) (φ:=φ) (σ:=σ) q (all:=ops.toList) ops.toList.length x S Inv d m r b e h (bc _)
  (λi h1 h2=>absurd h2 (mN.2 h1)) (λa D _ _ i h1 h2=>absurd h2 (mN.2 h1))
  (λa D i o j n _ l f g=>by have h1:=one.get i o n;rw[bF]at h1;exact h1 a D j (w5 g i o n f) (GG g l))
  (Q:=AK X N Qf K) (λa D j p=>by rw[qp];exact .nil (k a D j p)) id
 rw[pr]at this;exact this
theorem iy.of{all:List au}{i:Nat}{o:au}(h:∀d (D:Nat->Bool),Inv d D->(∀j,fZ all i j=ab->D j=ab)->(∀j,(j=i∨fZ all j i=ab)->D j=ae)->Inv d (ey i D)/\OA X N all o (kr all φ (x d) i) (S d D) (x d i) (S d (ey i D))):iy X N all φ x S Inv i o:=by intro d D e h1 h2 s a f hh b k cs SS idx rest hb hi hK;obtain⟨g,q2⟩:=h d D e h1 h2;exact q2 s a f hh b k cs SS idx rest hb hi λv s' r1 r2 r3=>hK ⟨d,λ_ _=>rfl,g⟩ v s' r1 r2 r3
def iy.ofI{all:List au}{i:Nat}{o:au}(h:∀e (D:Nat->Bool),Inv e D->(∀j,fZ all i j=ab->D j=ab)->(∀j,(j=i∨fZ all j i=ab)->D j=ae) ->
  ∃(ι:Type) (y:ι->Go.AM.D) (σ':ι->List aR),mW X N all o (kr all φ (x e) i) (S e D) y σ'/\∀j,∃d,((∀q,D q=ab->x d q=x e q)/\Inv d (ey i D))/\y j=x d i/\σ' j=S d (ey i D)):iy X N all φ x S Inv i o:=by intro e D g h1 h2 s a f hh b k cs SS idx rest hb hi hK;obtain⟨ι,y,σ',m,q2⟩:=h e D g h1 h2;refine m s a f hh b k cs SS idx rest hb hi λj v s' r1 r2 r3=>?_;obtain⟨d,l,p2,p3⟩:=q2 j;rw[p2]at r1;rw[p3]at r1 r2 r3;exact hK ⟨d,l⟩ v s' r1 r2 r3
end
section
variable {P:ar}{X:Cx P}{N:Nat}{all:List au}{φ:Fr}{x:Nat->D}{l:Bool->Bool->Bool->Bool->List aR}{i k g f e:Nat}{o:au}
abbrev pJ(l:Bool->Bool->Bool->Bool->List aR)(k g f e:Nat):(Nat->Bool)->List aR:=λD=>l (D k) (D g) (D f) (D e)
theorem rL{i j:Nat}{D:Nat->Bool}(h:aB j i=ae):ey i D j=D j:=by simp only[ey,h]
theorem Cq{i:Nat}{D:Nat->Bool}:ey i D i=ab:=by simp only[ey,ja]
def eh.q4(h1:aB k i=ae)(h2:aB g i=ae)(j:aB f i=ae)(m:aB e i=ae)(h:∀a b c d,OA X N all o (kr all φ x i) (l a b c d) (x i) (l a b c d)):eh X N all φ x (pJ l k g f e) i o:=by intro D _ _;grind[rL]
def eh.XN{T:List (Nat×TI)}{CT:List (Nat×dv)}{obs:List Prop}(hT:cW P T)(hC:bL X CT)(m:az obs)(h:∀a b c d,wP T CT [] all (kr all φ x i) (l a b c d) o=aa (x i,af,obs):=by intro a b c d;cases a<;>cases b<;>cases c<;>cases d<;>rfl)(h1:aB k i=ae:=by rfl)(h2:aB g i=ae:=by rfl)(j:aB f i=ae:=by rfl)(n:aB e i=ae:=by rfl):eh X N all φ x (pJ l k g f e) i o:=.q4 h1 h2 j n λa b c d=>OA.eval hT hC (h a b c d) m
def eh.qX{T:List (Nat×TI)}{CT:List (Nat×dv)}(hT:cW P T)(hC:bL X CT)(h:∀a b c d,wP T CT [] all (kr all φ x i) (l a b c d) o=aa (x i,af,[]):=by intro a b c d;cases a<;>cases b<;>cases c<;>cases d<;>rfl)(h1:aB k i=ae:=by rfl)(h2:aB g i=ae:=by rfl)(j:aB f i=ae:=by rfl)(m:aB e i=ae:=by rfl):eh X N all φ x (pJ l k g f e) i o:=.XN (obs:=[]) hT hC ay h h1 h2 j m
def eh.c1(h2:aB g k=ae)(j:aB f k=ae)(b:aB e k=ae)(c:fZ all g k=ab)(d:fZ all f k=ab)(a:fZ all e k=ab)(h:OA X N all o (kr all φ x k) (l ae ae ae ae) (x k) (l ab ae ae ae)):eh X N all φ x (pJ l k g f e) k o:=by intro D hT hF;grind[Cq,rL]
def eh.c2(h1:aB k g=ae)(j:aB f g=ae)(c:aB e g=ae)(b:fZ all g k=ab)(d:fZ all f g=ab)(a:fZ all e g=ab)(h:OA X N all o (kr all φ x g) (l ab ae ae ae) (x g) (l ab ab ae ae)):eh X N all φ x (pJ l k g f e) g o:=by intro D hT hF;grind[Cq,rL]
def eh.c3(h1:aB k f=ae)(h2:aB g f=ae)(a:aB e f=ae)(d:fZ all f k=ab)(b:fZ all f g=ab)(c:fZ all e f=ab)(h:OA X N all o (kr all φ x f) (l ab ab ae ae) (x f) (l ab ab ab ae)):eh X N all φ x (pJ l k g f e) f o:=by intro D hT hF;grind[Cq,rL]
def eh.c4(h1:aB k e=ae)(h2:aB g e=ae)(a:aB f e=ae)(d:fZ all e k=ab)(b:fZ all e g=ab)(c:fZ all e f=ab)(h:OA X N all o (kr all φ x e) (l ab ab ab ae) (x e) (l ab ab ab ab)):eh X N all φ x (pJ l k g f e) e o:=by intro D hT hF;grind[Cq,rL]
end
section
variable {P:ar}{X:Cx P}{N:Nat}{all:List au}{φ:Fr}{ι:Type}{x:Option ι->Nat->D}{s:Option ι->Bool->Bool->Bool->List aR}{i m f e d:Nat}{o:au}
abbrev SO(s:Option ι->Bool->Bool->Bool->List aR)(f e d:Nat):Option ι->(Nat->Bool)->List aR:=λa D=>s a (D f) (D e) (D d)
abbrev w6(ι:Type)(m:Nat):Option ι->(Nat->Bool)->Prop:=λa D=>a.isSome=D m
def iy.quiet(k:aB m i=ae)(h1:aB f i=ae)(h2:aB e i=ae)(j:aB d i=ae)(h:∀g a b c,OA X N all o (kr all φ (x g) i) (s g a b c) (x g i) (s g a b c)):
  iy X N all φ x (SO s f e d) (w6 ι m) i o:=by grind[iy.of,rL]
def iy.Sk(q:aB m i=ae)(h1:aB f i=ae)(h2:aB e i=ae)(n:aB d i=ae)(k:fZ all i m=ab)(h:∀j a b c,OA X N all o (kr all φ (x (aa j)) i) (s (aa j) a b c) (x (aa j) i) (s (aa j) a b c)):
  iy X N all φ x (SO s f e d) (w6 ι m) i o:=by
 refine iy.of λg D p hT _=>⟨?_,?_⟩
 .grind [rL]
 .show OA X N all o _ (s g (D f) (D e) (D d)) _ (s g (ey i D f) (ey i D e) (ey i D d));rw[rL h1,rL h2,rL n];have l:=hT m k;cases g with
  |none=>grind
  |some j=>exact h _ _ _ _
def iy.qo{T:List (Nat×TI)}{CT:List (Nat×dv)}{obs:List Prop}(hT:cW P T)(hC:bL X CT)(k:az obs)(h:∀g a b c,wP T CT [] all (kr all φ (x g) i) (s g a b c) o=aa (x g i,af,obs):=by intro g a b c;cases g<;>cases a<;>cases b<;>cases c<;>rfl)(l:aB m i=ae:=by rfl)(h1:aB f i=ae:=by rfl)(h2:aB e i=ae:=by rfl)(j:aB d i=ae:=by rfl):iy X N all φ x (SO s f e d) (w6 ι m) i o:=.quiet l h1 h2 j λg a b c=>OA.eval hT hC (h g a b c) k
def iy.qe{T:List (Nat×TI)}{CT:List (Nat×dv)}(hT:cW P T)(hC:bL X CT)(h:∀g a b c,wP T CT [] all (kr all φ (x g) i) (s g a b c) o=aa (x g i,af,[]):=by intro g a b c;cases g<;>cases a<;>cases b<;>cases c<;>rfl)(k:aB m i=ae:=by rfl)(h1:aB f i=ae:=by rfl)(h2:aB e i=ae:=by rfl)(j:aB d i=ae:=by rfl):iy X N all φ x (SO s f e d) (w6 ι m) i o:=.qo (obs:=[]) hT hC ay h k h1 h2 j
def iy.qs{T:List (Nat×TI)}{CT:List (Nat×dv)}(hT:cW P T)(hC:bL X CT)(h:∀j a b c,wP T CT [] all (kr all φ (x (aa j)) i) (s (aa j) a b c) o=aa (x (aa j) i,af,[]):=by intro j a b c;cases a<;>cases b<;>cases c<;>rfl)(l:aB m i=ae:=by rfl)(h1:aB f i=ae:=by rfl)(h2:aB e i=ae:=by rfl)(g:aB d i=ae:=by rfl)(k:fZ all i m=ab:=by rfl):iy X N all φ x (SO s f e d) (w6 ι m) i o:=.Sk l h1 h2 g k λj a b c=>OA.cZ hT hC (h j a b c)
def iy.YH(g:aB m e=ae)(h1:aB f e=ae)(c:aB d e=ae)(j:fZ all d e=ab)(h:∀b a,OA X N all o (kr all φ (x b) e) (s b a ae ae) (x b e) (s b a ab ae)):iy X N all φ x (SO s f e d) (w6 ι m) e o:=by grind[iy.of,rL,Cq]
def iy.YI(l:aB m d=ae)(h1:aB f d=ae)(h2:aB e d=ae)(a:fZ all d m=ab)(g:fZ all d f=ab)(n:fZ all d e=ab)(h:∀j,OA X N all o (kr all φ (x (aa j)) d) (s (aa j) ab ab ae) (x (aa j) d) (s (aa j) ab ab ab)):iy X N all φ x (SO s f e d) (w6 ι m) d o:=by
 refine iy.of λb D k hT hF=>?_;have c:=hT m a;cases b with
 |none=>grind
 |some j =>
  grind[rL,Cq]
end
section
variable {P:ar}{X:Cx P}{N:Nat}{Qf:Post}{K:List It}{φ:Fr}{σ:List aR}{all rest:List au}{o:au}
def AK.VA{ι:Type}{x:ι->D}{σ':ι->List aR}(h:mW X N all o φ σ x σ')(l:gg N o.dst=ab)(k:∀i,AK X N Qf (.ops all rest::K) .normal (kH o.dst (x i) φ) (σ' i)):AK X N Qf (.ops all (o::rest)::K) .normal φ σ:=by
 intro s a f hh b kk cs S idx hb jE hQ;cases idx with
 |nil=>exact jE.elim
 |cons j idx =>
 refine h s a f hh b kk cs S j idx hb jE.1 λi v s' h1 h2 h3=>?_;refine k i s' _ ?_ h2 b kk cs S idx hb jE.2 λc σ2 s2 a2 q d e st=>hQ c σ2 s2 a2 q d e (h3.trans st);cases g:o.dst with
 |none=>exact f.mono h3 hh.len
 |some t=>exact(f.mono h3 hh.len).put (gK l t g) h1
def mW.qI[X.hU]{ι:Type}{fo:aq}{xs:Array aq}{ats:Array aj}{f:aJ}{cap:List C}{r:List D}{res:ι->D}{σ1:ι->List aR}(JE:ef X f r [] res σ1){Gr:List D}(hgd:rf all φ o=ab)(ho:o.op=.call {callee:=.value fo,args:=xs,argTypes:=ats})(hf:eQ (bU φ fo)=aa (f,cap))(hl:j1 σ (xs.toList.map (bU φ)++fP cap) Gr){ps:List Prop}(Y:wG Gr (fU [] r)=aa ps)(hps:az ps)(hin:lE 0 r=ab)(U:∀j,N6 (res j)=ab)(mP:∀j,Ca (σ1 j)=ab):mW X N all o φ σ res (λj=>σ++σ1 j):=by
 intro s a yW hh b kx cs S i idx hb hi hQ;have hfo:=dg yW fo;unfold eQ at hf;split at hf
 case h_2=>cases hf
 case h_1 f' NW he =>
  cases hf;rw[he]at hfo;have J:=e9 hfo;generalize z:a.eval fo=fv at J;cases J with
  |fn fs nG hlf Zb f1 f2 h1 h2 r1 r2 =>
   have Zc:fs=[]:=jv hlf;subst Zc;have O:cp σ s nG (fP cap):=nN (λj c hj=>⟨f2 j,h2 j (by grind),r2 j c hj⟩) Zb;have I:cp σ s (xs.toList.map a.eval++nG) (xs.toList.map (bU φ)++fP cap):=(lX (dg yW) xs.toList).append O;generalize Us:xs.toList.map a.eval++nG=vs at I;obtain⟨⟨fn,Vv,OM,Z⟩,W⟩:=JE;have wS:∀w,(aw a.eval o).run P w=.ok (.enter f vs.toArray) w:=λw=>by grind[jK]
   have Zd:∀w,(aw a.eval o).events P w #[]=#[]:=λw=>(jK ho Vv OM Z z w).2;refine .next rfl λm QS=>?_;have hr:=X.iH QS;have e:=hh.rely hr;have f1':=yW.rely hr hh;have V:cp σ m vs (xs.toList.map (bU φ)++fP cap):=I.mono hr.stepW.ext hh.len;obtain⟨B,M',hBL,m1,m2,m3,m4,m5⟩:=hl m vs e V;let sc:St:={m with β:=[],M:=M',own:=λb=>m.own b∨∃L∈m.β,b∈L.bs}
   have hhc:aF [] sc:=by
    refine⟨m3,rfl,by simp,by grind,by grind,λb hb=>⟨?_,by grind⟩⟩;rcases hb with hb|⟨L',p,hb⟩
    .exact(e.own b hb).1
    .exact e.lt L' p b hb
   have Ze:eF m sc:=by refine⟨rfl,m1,λb hb o=>m2 b (λhB=>by grind) o,m3,λb hb=>?_⟩;grind
   have F:cp [] sc vs r:=by have a3:=vP Y hps m5;exact(cp.sub (ks:=[]) (σ:=σ) (σ':=[]) (s:={m with M:=M'}) (β':=[]) rfl rfl a3 hin).mono (σ:=[]) (s:={m with β:=[],M:=M'}) (σ':=[]) (s':=sc) ⟨λ_ _ _ h=>h,λl B L hB hL=>by grind⟩ rfl
   refine⟨_,m,_,px hi (fD hgd _ _ _ f1') hb (wS m.w),⟨⟨σ,σ,e,e,.refl _ _⟩,fg.seen (by rw[Zd];exact .nil)⟩,.ghost Ze (W sc vs F hhc S _ λj fr v s2 HL mJ ND mR=>?_)⟩;refine qz (cs:=cs) (c:=b.aT a (.inRegion all.toArray (i::idx)::kx)) ND HL λu Q=>?_;have q:=ND.rely Q;have n:=mR.trans Q.stepW;have R:=mJ.mono Q.stepW.ext ND.len
   classical
   let G:Mem:=λb o=>if B b then m.M b o else u.M b o;have t:∀b,(m.own b∨∃L∈m.β,b∈L.bs)->u.own b:=λb hb=>by rw[n.own];exact hb
   have hFg:nn u {u with M:=G}:=by
    refine⟨rfl,rfl,rfl,λb o v z=>?_,λb o v z=>?_⟩
    .grind
    grind
   refine .forget Cx.hU.ok hFg ?_;have hM5:∀b o v,G b o=aa v->u.M b o=aa v:=hFg.less;let s5:St:={u with M:=G,β:=m.β++u.β,own:=m.own}
   have hMm:∀b o v,m.M b o=aa v->G b o=aa v:=λb o v z=>by
    by_cases d:B b
    .grind
    .simp only[G,d,ck];exact n.mem b o v (m1 b o v z)
   have hMk:∀b,b<m.w.heap.size->∀o,G b o=m.M b o:=λb hb o=>by
    by_cases d:B b
    .grind
    .simp only[G,d,ck];rw[n.je b hb (by grind) o];grind
   have T:u.β.length=(σ1 j).length:=q.len;have ex:Ext σ m (σ++σ1 j) s5:=by
    refine⟨hMm,λl B L hB hL=>⟨B,L,?_,?_,.refl _ _⟩⟩
    .grind
    grind
   have B5:m.w.heap.size<=u.w.heap.size:=n.size;have y:∀(l:Nat) (L':Loc),(m.β++u.β)[l]?=aa L'->(l<m.β.length/\m.β[l]?=aa L')∨(m.β.length<=l/\u.β[l-m.β.length]?=aa L'):=λl L' h=>by grind
   have hh5:aF (σ++σ1 j) s5:=by
    refine⟨λb o v z=>q.mem b o v (hM5 b o v z),by simp[s5,e.len,T],?_,?_,?_,?_⟩
    .intro l B L' hB p;rcases y l L' p with⟨tN,h1⟩|⟨Ux,h1⟩
     .rw[jy (by rw[<-e.len];exact tN)]at hB;exact(e.box l B L' hB h1).carry ex e.len λg d=>⟨n.fy g (.inr ⟨L',bP h1,d⟩),hMk g (e.lt L' (bP h1) g d)⟩
     .rw[gk (by rw[<-e.len];exact Ux),<-e.len]at hB;have hbx:=q.box _ B L' hB h1;rcases Cb (mP j) B (bP hB)with⟨H,rfl⟩|rfl
      .obtain⟨ch,c1,c2,c3,c4⟩:=hbx;refine⟨ch,c1,c2,c3,λg d o=>?_⟩;grind
      .trivial
    .intro l l' L1 L2 hL1 hL2 g E A;rcases y l L1 hL1 with⟨tN,h1⟩|⟨Ux,h1⟩<;>rcases y l' L2 hL2 with⟨adN,h2⟩|⟨adO,h2⟩
     .exact e.eO l l' L1 L2 h1 h2 g E A
     .exact absurd A ((q.own g (t g (.inr ⟨L1,bP h1,E⟩))).2 L2 (bP h2))
     .exact absurd E ((q.own g (t g (.inr ⟨L2,bP h2,A⟩))).2 L1 (bP h1))
     .have:=q.eO _ _ L1 L2 h1 h2 g E A;omega
    .intro L' p g d;rcases fx.1 p with h|h
     .exact c7 (e.lt L' h g d) B5
     .exact q.lt L' h g d
    .intro g d;refine⟨c7 (e.own g d).1 B5,λL' p=>?_⟩;rcases fx.1 p with h|h
     .exact(e.own g d).2 L' h
     .exact(q.own g (t g (.inl d))).2 L' h
   have hg5:eF {u with M:=G} s5:=by refine⟨rfl,λ_ _ _ h=>h,λ_ _ _=>rfl,λb o v z=>q.mem b o v (hM5 b o v z),λg d=>?_⟩;grind
   have st5:cY σ m (σ++σ1 j) s5:=by
    refine⟨B5,λg d=>n.fy g (.inl d),hMm,λg d _ o=>hMk g d o,λL' p g d=>?_,ex.box,n.os,n.tape,n.output,rfl⟩;rcases fx.1 p with h|h
    .grind
    .rcases n.vK L' h g d with h1|⟨L0,h1,_⟩
     .grind
     grind
   refine .ghost hg5 ?_;have x:=kF (b:=b) (a:=a) (k:=kx) all.toArray i idx v;rw[hi]at x;simp only[oq]at x;rw[x];exact hQ j v s5 (N7 (U j) R) hh5 (hr.stepW.trans st5)
def AK.qI[X.hU]{ι:Type}{m:aq}{xs:Array aq}{e:Array aj}{f:aJ}{cap:List C}{a:List D}{res:ι->D}{σ1:ι->List aR}(g:ef X f a [] res σ1){d:List D}(i:rf all φ o=ab)(p:o.op=.call {callee:=.value m,args:=xs,argTypes:=e})(n:eQ (bU φ m)=aa (f,cap))(hl:j1 σ (xs.toList.map (bU φ)++fP cap) d){ps:List Prop}(b:wG d (fU [] a)=aa ps)(k:az ps)(h:lE 0 a=ab)(c:∀j,N6 (res j)=ab)(l:∀j,Ca (σ1 j)=ab)(q:gg N o.dst=ab)(kk:∀j,AK X N Qf (.ops all rest::K) .normal (kH o.dst (res j) φ) (σ++σ1 j)):AK X N Qf (.ops all (o::rest)::K) .normal φ σ:=.VA (mW.qI g i p n hl b k h c l) q kk
def AK.KC[X.hU]{ι:Type}{r:aq}{xs:Array aq}{g:Array aj}{f:aJ}{cap:List C}{a:List D}{res:ι->D}{σ1:ι->List aR}(i:ef X f a [] res σ1)(s p:Nat){u:ah}{k n:Nat}{es:Nat->List C}(m:rf all φ o=ab)(x:o.op=.call {callee:=.value r,args:=xs,argTypes:=g})(w:eQ (bU φ r)=aa (f,cap))(t:(xs.toList.map (bU φ)++fP cap)[p]?=aa (.e (.one (.v u))))(hl:hU σ s u k n es){ps:List Prop}(b:wG ((xs.toList.map (bU φ)++fP cap).set p (.e (.one (.c (.sl ae k n es))))) (fU [] a)=aa ps)(h:az ps)(l:lE 0 a=ab)(d:∀j,N6 (res j)=ab)(q:∀j,Ca (σ1 j)=ab)(y:gg N o.dst=ab)(kk:∀j,AK X N Qf (.ops all rest::K) .normal (kH o.dst (res j) φ) (σ++σ1 j)):AK X N Qf (.ops all (o::rest)::K) .normal φ σ :=
 AK.qI i m x w ((j1.refl _ _).step p s t hl) b h l d q y kk
end
section
variable {P:ar}{X:Cx P}{N:Nat}{Qf:Post}{d:List It}{φ:Fr}{σ:List aR}{all rest:List au}{o:au}
def ef.VF{ι:Type}{f:aJ}{args:List D}{res:ι->D}{H:ι->ah->(Nat->Option Obj)->Prop}{E:aj}{k:Nat}(h:ef X f args [] res (λi=>[.dead,.cm (H i)]))(K:∀i v ch,H i v ch->v=.nilFunc)(R:∀i,iu [] (res i)=res i)(t:∀i,wD 0 (res i)=ab)(I:lE 0 args=ab)(r:fU [] args=args):
  ef X f args [.cm (gf E k (.nil af) 0 [])] res (λi=>[.cm (H i)]):=by
 refine⟨h.1,λs vs hr hh S cs hS=>?_⟩;have w:s.β.length=1:=hh.len;obtain⟨g,z⟩:∃g,s.β=[g]:=by
  match F:s.β with
  |[A]=>grind
  |[]=>grind
  |_::_::_=>grind
 have y:s.β[0]?=aa g:=by grind
 obtain⟨O,c1,c2,c3,c4⟩:=hh.box 0 _ g rfl y;obtain⟨T,_,_,_,rfl⟩:=c1;have Q:∀b,b∉g.bs:=λb a=>by grind
 let j:St:={s with β:=[]}
 have M:eF s j:=⟨rfl,λ_ _ _ h=>h,λ_ _ _=>rfl,hh.mem,λb a=>a.imp id λ⟨L,c,_⟩=>by grind⟩
 have q:aF [] j:=⟨hh.mem,rfl,by simp,by grind,by grind,λb a=>⟨(hh.own b a).1,by grind⟩⟩
 have e:cp [] j vs args:=by rw[<-r]at hr;exact cp.sub (ks:=[]) (σ:=[.cm (gf E k (.nil af) 0 [])]) (σ':=[]) (s:=s) (β':=[]) rfl rfl hr I
 refine .ghost M (h.2 j vs e q S cs λi fr v s' hl mJ jh st=>?_);have u:s'.β.length=2:=jh.len;obtain⟨A,B,x⟩:∃A B,s'.β=[A,B]:=by
  match F:s'.β with
  |[A,B]=>grind
  |[]=>grind
  |[_]=>grind
  |_::_::_::_=>grind
 have G:s'.β[1]?=aa B:=by grind
 obtain⟨ch,d1,d2,d3,d4⟩:=jh.box 1 _ B rfl G;have hB:=K i _ _ d1;let s2:St:={s' with β:=[B]}
 have m:∀L∈s2.β,L∈s'.β:=λL c=>by grind
 have n:eF s' s2:=⟨rfl,λ_ _ _ h=>h,λ_ _ _=>rfl,jh.mem,λb a=>a.imp id λ⟨L,c,a⟩=>⟨L,m L c,a⟩⟩
 have p:dt [.cm (H i)] s2 v (res i):=by rw[<-R i]at mJ;have:=dt.sub (ks:=[]) (σ:=[.dead,.cm (H i)]) (σ':=[]) (s:=s') (β':=[]) rfl rfl mJ (t i);exact this.mono (σ:=[]) (s:={s' with β:=[]}) (σ':=[.cm (H i)]) (s':=s2) ⟨λ_ _ _ h=>h,λl B L hB=>by grind⟩ rfl
 refine .ghost n (hS i fr v s2 (hl.mono λ_ _ _ h=>h) p ⟨jh.mem,rfl,λl C L hC c=>?_,λl l' C D h1 h2 b a J=>?_,λL c b a=>jh.lt L (m L c) b a,λb a=>⟨(jh.own b a).1,λL c=>(jh.own b a).2 L (m L c)⟩⟩
  ⟨st.size,st.fy,st.mem,λb a _ o=>st.je b a (by grind) o,λL c b a=>?_,λl C L hC c=>?_,st.os,st.tape,st.output,st.own⟩)
 .match l,hC,c with
  |0,hC,c=>cases hC;cases c;exact⟨ch,d1,d2,d3,d4⟩
  |l+1,hC,_=>grind
 .match l,l',h1,h2 with
  |0,0,_,_=>rfl
  |l+1,_,h1,_=>grind
  |_,l+1,_,h2=>grind
 .rcases st.vK L (m L c) b a with h1|⟨L1,h1,_⟩
  .grind
  grind
 .match l,hC,c with
  |0,hC,c =>
   cases hC;rw[y]at c;cases c;exact⟨_,B,rfl,rfl,by show B.v=g.v;grind⟩
  |l+1,hC,_=>grind
def AK.OS(l i j:Nat){K:Mem->Prop}{E0 E:aj}{k:Nat}{cs:List A}{R cl:C}{c:Code}(T:l≠i)(hl:dC l σ=aa (.cm (PM K)))(hi:dC i σ=aa (.cells E0 cs))(hj:dC j cs=aa (.c R))(Z:∀M M',K M->xq M M'->∀v,Rd M' v R->Rd M' v cl)(kk:AK X N Qf (.code c::d) .normal φ ((σ.set l (.cm (gf E k (.nil af) 0 []))).set i (.cells E0 (cs.set j (.c cl))))):AK X N Qf (.code c::d) .normal φ σ:=by
 refine AK.ghost (λs a O hh=>?_) kk;have hl:=b9 hl;have hi:=b9 hi;have S:=b9 hj;have G:l<s.β.length:=by rw[hh.len];grind
 have Q:=br G;generalize s.β[l]=L at Q;obtain⟨ch,⟨h1,h2,h3⟩,h4,h5,h6⟩:=hh.box l _ L hl Q;let M':Mem:=λb o=>(s.M b o).or (fR ch b o);have m:∀b o v,fR ch b o=aa v->b∈L.bs/\s.w.cell? ⟨b,o,af⟩=aa v:=λb o v f=>by
  cases h:ch b with
  |none=>simp[fR,h]at f
  |some x =>
   obtain⟨cs,E,rfl⟩:=h2 b x h;have hw:=h4 b _ h;simp only[fR,h]at f;exact⟨(h5 b).2 (by simp[h]),by simpa[aV,hw]using f⟩
 have m1:∀b o v,s.M b o=aa v->M' b o=aa v:=λb o v f=>by grind
 have m2:∀b,b∉L.bs->∀o,M' b o=s.M b o:=λb F o=>by
  cases h:fR ch b o with
  |none=>grind
  |some v=>grind
 have m3:∀b o v,M' b o=aa v->s.w.cell? ⟨b,o,af⟩=aa v:=λb o v f=>by
  cases h:s.M b o with
  |some v'=>simp only[M',h,Option.some_or]at f;cases f;exact hh.mem b o v h
  |none=>grind
 have Y:=Z _ M' h3 λb o v f=>by have:=h6 b (m b o v f).1 o;simp[M',this,f]
 obtain⟨r,q2⟩:=hh.gJ (M':=M') (w':=s.w) (B':=.cm (gf E k (.nil af) 0 [])) (L':=⟨.nilFunc,[]⟩) hl Q h1.symm (bc _) (λ_ _ _=>rfl) (λb _ F o=>m2 b F o) m1 m3 (by simp) rfl rfl rfl
  ⟨λ_=>af,⟨rfl,by simp,by simp,rfl,rfl⟩,by simp,by simp,by simp⟩
 have n:(σ.set l (.cm (gf E k (.nil af) 0 [])))[i]?=aa (.cells E0 cs):=by grind
 generalize V:(⟨s.β.set l ⟨.nilFunc,[]⟩,M',s.w,s.own⟩:St)=s1 at r q2;have z:i<s1.β.length:=by rw[r.len];grind
 have g:=br z;generalize s1.β[i]=L2 at g;obtain⟨b,vs,J,q,I,hM⟩:=r.box i _ L2 n g;obtain⟨u,hu,hr⟩:=I.get S;have H:s1.M=M':=by grind
 have y:s1.β.set i L2=s1.β:=by apply iY;grind
 obtain⟨U,W⟩:=r.gJ (M':=s1.M) (w':=s1.w) (B':=.cells E0 (cs.set j (.c cl))) (L':=L2) n g rfl (bc _) (λ_ _ _=>rfl) (λ_ _ _ _=>rfl) (λ_ _ _ h=>h) r.mem (λb F=>⟨.inl F,r.lt L2 (bP g) b F⟩) rfl rfl rfl (by
   rw[y];have ex:Ext (σ.set l (.cm (gf E k (.nil af) 0 []))) s1 ((σ.set l (.cm (gf E k (.nil af) 0 []))).set i (.cells E0 (cs.set j (.c cl)))) s1:=by
    refine⟨λ_ _ _ h=>h,λp B L t D=>?_⟩;by_cases e:i=p
    .subst e;rw[n]at t;cases t;exact⟨_,L,gn (by grind),D,rfl⟩
    .exact⟨B,L,by grind,D,.refl _ _⟩
   refine⟨b,vs,J,q,ei.set (I.mono ex r.len) hu ?_,hM⟩;show Rd s1.M u cl;rw[H];exact Y u (H▸hr))
 have st:=q2.trans W;exact⟨_,by grind,⟨O.size,O.defers.imp λ_ h1=>h1.mono st.ext,λu=>(O.slot u).mono st.ext hh.len⟩,U,st⟩
def AK.rO(l i j:Nat){K:Mem->Prop}{E0 E:aj}{k:Nat}{cs:List A}{v:ah}{cl:C}{c:Code}(a:l≠i)(hl:dC l σ=aa (.cm (PM K)))(hi:dC i σ=aa (.cells E0 cs))(hj:dC j cs=aa (.c (.val v)))(b:∀M,K M->Rd M v cl)(kk:AK X N Qf (.code c::d) .normal φ ((σ.set l (.cm (gf E k (.nil af) 0 []))).set i (.cells E0 (cs.set j (.c cl))))):AK X N Qf (.code c::d) .normal φ σ :=
 AK.OS l i j a hl hi hj (λ_ _ h le _ r=>by rw[Rd.en r];exact(b _ h).mono le) kk
end
section
variable {P:ar}{X:Cx P}{N:Nat}{Qf:Post}{n:List It}{φ:Fr}{σ:List aR}
def AK.VG(l i j:Nat){E0 E:aj}{k k0:Nat}{cs:List A}{J:Nat->List C}(k1:Nat)(EN:Nat->List C){c:Code}(Yj:l≠i)(hl:dC l σ=aa (.cm (gf E k (.nil af) 0 [])))(hi:dC i σ=aa (.cells E0 cs))(hj:dC j cs=aa (.c (.sl ab k0 0 J)))(kk:∀v,AK X N Qf (.code c::n) .normal φ ((σ.set l (.cm (PM λM=>Rd M v (.sl ae k1 0 EN)))).set i (.cells E0 (cs.set j (.c (.val v)))))):AK X N Qf (.code c::n) .normal φ σ:=by
 refine AW.tO (ι:=ah) (φ':=λ_=>φ) (σ':=λv=>(σ.set l (.cm (PM λM=>Rd M v (.sl ae k1 0 EN)))).set i (.cells E0 (cs.set j (.c (.val v))))) (λs a V hh=>?_) kk;have hl:=b9 hl;have hi:=b9 hi;have hJ:=b9 hj;have q:i<s.β.length:=by rw[hh.len];grind
 have H:=br q;generalize s.β[i]=Li at H;obtain⟨b0,vs0,hLb,S,O,_⟩:=hh.box i _ Li hi H;obtain⟨v,RI,U⟩:=O.get hJ;obtain⟨a0,cap,vs1,rfl,n1,n2,_,_,_⟩:=(show Rd s.M v (.sl ab k0 0 J)from U).flat;have hK:∀M:Mem,Rd M (.slice a0 0 cap) (.sl ae k1 0 EN):=λM=>.sl 0 0 (λ_ _=>ai) n1 n2 (λh=>by cases h) (λi hi=>by omega) (λh=>by omega) (λi hi=>by omega) λi hi=>by omega
 have K:l<s.β.length:=by rw[hh.len];grind
 have R:=br K;generalize s.β[l]=L at R;obtain⟨ch,hs,h4,h5,h6⟩:=hh.box l _ L hl R;obtain⟨z,q2⟩:=hh.gJ (M':=s.M) (w':=s.w) (B':=.cm (PM λM=>Rd M (.slice a0 0 cap) (.sl ae k1 0 EN))) (L':=L) hl R rfl (bc _) (λ_ _ _=>rfl) (λ_ _ _ _=>rfl) (λ_ _ _ h=>h) hh.mem (λb I=>⟨.inl I,hh.lt L (bP R) b I⟩) rfl rfl rfl
  ⟨ch,PM.start hK _ _ hs,h4,h5,h6⟩
 have t:(σ.set l (.cm (PM λM=>Rd M (.slice a0 0 cap) (.sl ae k1 0 EN))))[i]?=aa (.cells E0 cs):=by grind
 generalize hs1:(⟨s.β.set l L,s.M,s.w,s.own⟩:St)=s1 at z q2;have Z:i<s1.β.length:=by grind
 have r:s1.β[i]?=aa Li:=by grind
 obtain⟨b,vs,T,y,Y,hM⟩:=z.box i _ Li t r;have Q:s1.β.set i Li=s1.β:=by apply iY;grind
 have W:vs[j]?=aa (.slice a0 0 cap):=by grind
 obtain⟨t1,t2⟩:=z.gJ (M':=s1.M) (w':=s1.w) (B':=.cells E0 (cs.set j (.c (.val (.slice a0 0 cap))))) (L':=Li) t r rfl (bc _) (λ_ _ _=>rfl) (λ_ _ _ _=>rfl) (λ_ _ _ h=>h) z.mem (λb I=>⟨.inl I,z.lt Li (bP r) b I⟩) rfl rfl rfl (by
   rw[Q];have ex:Ext (σ.set l (.cm (PM λM=>Rd M (.slice a0 0 cap) (.sl ae k1 0 EN)))) s1 ((σ.set l (.cm (PM λM=>Rd M (.slice a0 0 cap) (.sl ae k1 0 EN)))).set i (.cells E0 (cs.set j (.c (.val (.slice a0 0 cap)))))) s1:=by
    refine⟨λ_ _ _ h=>h,λp B L F G=>?_⟩;by_cases e:i=p
    .subst e;rw[t]at F;cases F;exact⟨_,L,gn (by grind),G,rfl⟩
    .exact⟨B,L,by grind,G,.refl _ _⟩
   exact⟨b,vs,T,y,ei.set (Y.mono ex z.len) W (Rd.val rfl),hM⟩)
 have st:=q2.trans t2;exact⟨.slice a0 0 cap,_,by grind,⟨V.size,V.defers.imp λ_ h1=>h1.mono st.ext,λu=>(V.slot u).mono st.ext hh.len⟩,t1,st⟩
end
section
variable {P:ar}{X:Cx P}{N:Nat}{all:List au}{φ:Fr}{ι:Type}{x:Option ι->Nat->D}{s:Option ι->Bool->Bool->Bool->List aR}{i m f g d:Nat}{o:au}
def iy.pre(r:aB m f=ae)(h2:aB g f=ae)(t:aB d f=ae)(c:fZ all m f=ab)(l:fZ all d f=ab)(h:∀b,OA X N all o (kr all φ (x af) f) (s af ae b ae) (x af f) (s af ab b ae)):iy X N all φ x (SO s f g d) (w6 ι m) f o:=by
 refine iy.of λe D q hT hF=>?_;have k:=hF m (.inr c);have a:=hF d (.inr l);have p:=hF f (.inl rfl);cases e with
 |some j=>grind
 |none=>grind[rL,Cq]
def iy.Zh(h1:aB f m=ae)(h2:aB g m=ae)(v:aB d m=ae)(e:fZ all m f=ab)(l:fZ all d m=ab)(r:∀j q,q=m∨fZ all q m=ab∨x (aa j) q=x af q)(h:∀b,mW X N all o (kr all φ (x af) m) (s af ab b ae) (λj=>x (aa j) m) (λj=>s (aa j) ab b ae)):iy X N all φ x (SO s f g d) (w6 ι m) m o:=by
 refine iy.ofI λa D u hT hF=>?_;have k:=hF m (.inl rfl);have p:=hT f e;have c:=hF d (.inr l);have t:a=af:=by
  cases a with
  |none=>rfl
  |some j=>grind
 grind[Cq,rL]
def iy.last(c:aB m d=ae)(h1:aB f d=ae)(h2:aB g d=ae)(b:fZ all d m=ab)(e:fZ all d f=ab)(a:fZ all d g=ab)(h:∀j,OA X N all o (kr all φ (x (aa j)) d) (s (aa j) ab ab ae) (x (aa j) d) (s (aa j) ab ab ab)):iy X N all φ x (SO s f g d) (w6 ι m) d o:=.YI c h1 h2 b e a h
end
theorem Rd.EW{M:Mem}{v:ah}{t:Bool}{k n:Nat}{es:Nat->List C}(h:Rd M v (.sl t k n es)):∃a cap b off,v=.slice a n cap/\n<=cap/\cap<=9223372036854775807/\(0<n->a=aa ⟨b,off,af⟩)/\(∀i,i<n->(es i).length=k)/\∀i,i<n->∀j c,(es i)[j]?=aa c->∃u,M b (off+i*k+j)=aa u/\Rd M u c:=by
 cases h with
 |@sl a _ cap _ _ _ b off f e g l hk ha hm hr=>exact⟨a,cap,b,off,rfl,e,g,ha,hk,λi hi j c hj=>⟨_,hm i hi j c hj,hr i hi j c hj⟩⟩
def Rd.SA{M:Mem}{a:Option Addr}{cap k n b off:Nat}{es:Nat->List C}(h1:n<=cap)(h2:cap<=9223372036854775807)(e:0<n->a=aa ⟨b,off,af⟩)(f:∀i,i<n->(es i).length=k)(g:∀i,i<n->∀j c,(es i)[j]?=aa c->∃u,M b (off+i*k+j)=aa u/\Rd M u c):Rd M (.slice a n cap) (.sl ae k n es):=by
 refine .sl b off (λi j=>(M b (off+i*k+j)).getD ai) h1 h2 (λh=>by cases h) f e (λi hi j c hj=>?_) λi hi j c hj=>?_
 .grind
 grind
section
variable {P:ar}{X:Cx P}{N:Nat}{Qf:Post}{d:List It}{φ:Fr}{σ:List aR}{all rest:List au}{o:au}
def AK.VH{ι:Type}{c:Code}{b K:List It}(φ':ι->Fr)(σ':ι->List aR)(h:(∀(i:ι)(a:Fr)(ps:List Prop),nV a (φ' i)=aa ps->az ps->AK X N Qf (.code c::b) .normal a (σ' i))->AK X N Qf K .normal φ σ)(k:∀i,AK X N Qf (.code c::b) .normal (φ' i) (σ' i)):AK X N Qf K .normal φ σ :=
 h λi _ _ h1 h2=>AW.le (k i) (cD h1 h2)
def j1.agg{ds:List D}(p q H:Nat){cs:List A}{u:ah}{k n:Nat}{es:Nat->List C}(z:ds[p]?=aa (.e (.agg cs)))(y:cs[q]?=aa (.c (.val u)))(hl:hU σ H u k n es):j1 σ ds (ds.set p (.e (.agg (cs.set q (.c (.sl ae k n es)))))):=by
 intro s vs hh hr;obtain⟨L,r,t,x,O,K,I,E⟩:=hl s hh;refine⟨λb=>b∈L.bs,r,λb J=>⟨L,bP t,J⟩,x,O,K,I,?_⟩;have e1:Ext σ s σ {s with M:=r}:=⟨x,λl B L hB t=>⟨B,L,hB,t,.refl _ _⟩⟩
 have w:=hr.mono e1 hh.len;obtain⟨F,i⟩:=cp.get w;have g:p<vs.length:=by grind
 have h:=i p;rw[z,br g]at h;obtain⟨G,m,a⟩:=h;obtain⟨v,f,j⟩:=a.get y;rw[Rd.en (show Rd r v (.val u)from j)]at f;refine cp.setAt w (br g) ⟨G,m,ei.set a f E⟩
theorem PM.of{l:Nat}{K:Mem->Prop}{p:Prop}(hl:σ[l]?=aa (.cm (PM K)))(h:∀M,K M->p)(s:St)(hh:aF σ s):p:=by
 have a:l<s.β.length:=by rw[hh.len];grind
 obtain⟨ch,⟨_,_,b⟩,_⟩:=hh.box l _ _ hl (br a);grind
def ee.SB{T:List (Nat×TI)}(hT:cW P T)(l:Nat){t:aj}{x:aq}{b off:Nat}{K:Mem->Prop}{i:TI}(h:o.op=.load t x)(hi:bG T t=aa i)(G:∀v,lb i [.c (.val v)]=aa (.one (.c (.val v))))(S:bU φ x=.e (.one (.v (.pointer (aa ⟨b,off,af⟩)))))(hl:σ[l]?=aa (.cm (PM K)))(U:∀M,K M->∃w,M b off=aa w/\cN w=ab):ee P N o φ σ (λw:ah=>.e (.one (.v w))) (λw=>σ.set l (.cm (PM λM=>K M/\M b off=aa w))):=by
 intro s a J hh;have r:=dg J x;rw[S]at r;have r:=Rd.en r;have p:l<s.β.length:=by rw[hh.len];grind
 have u:=br p;generalize s.β[l]=L at u;obtain⟨ch,⟨h1,h2,F⟩,I,H,W⟩:=hh.box l _ L hl u;obtain⟨w,C,V⟩:=U _ F;obtain⟨cs,E,z,y⟩:∃cs E,ch b=aa (.cells cs E (0,0))/\cs[off]?=aa w:=by
  cases e:ch b with
  |none=>simp[fR,e]at C
  |some x =>
   obtain⟨cs,E,rfl⟩:=h2 b x e;exact⟨cs,E,rfl,by simpa[fR,e]using C⟩
 have B:b∈L.bs:=(H b).2 (by grind);have q:=I b _ z;obtain⟨O,Q⟩:=hh.jM (l:=l) (H':=PM λM=>K M/\M b off=aa w) (L':=L) (w':=s.w) hl u rfl (bc _) (λ_ _ _=>rfl) (λ_ R=>.inl R) ⟨ch,⟨h1,h2,F,C⟩,I,H⟩ rfl rfl rfl;have f:∀(j:Nat) (v:ah),[w][j]?=aa v->s.w.cell? ⟨b,off+j,af⟩=aa v:=by
  intro j v hj
  match j,hj with
  |0,hj=>cases hj;simp[aV,q,y]
 obtain⟨v,g,A⟩:=iL (s:=⟨s.β.set l L,s.M,s.w,s.own⟩) (σ:=σ.set l (.cm (PM λM=>K M/\M b off=aa w))) (P:=P) (hT t i hi) (b:=b) (off:=off) (vs:=[w]) (cs:=[.c (.val w)]) f ⟨Rd.val V,ay⟩ (G w);have g:(loadVar t ⟨b,off,af⟩).run P s.w=.ok v s.w:=g;have e1:aw a.eval o=(do pure (.value (<-loadVar t ⟨b,off,af⟩))):=by simp[aw,h,r,Instr.loadAt,bq]
 refine⟨w,.value v,_,v,by rw[e1];simp[g],.inl rfl,A,O,Q,λD m=>?_⟩;rw[e1]at m;have k:D∈(loadVar t ⟨b,off,af⟩).events P s.w #[]:=by simpa[g]using m
 obtain⟨j,hj,rfl⟩:=gu (hT t i hi) (n:=1) (λj hj=>⟨w,f j w (by grind)⟩) (by have:=ld (G w);grind) D k;exact j0 (bP u) B
def Mem.up(M:Mem)(b o:Nat)(u:ah):Mem:=λc a=>if c=b/\a=o then aa u else M c a
def ee.GW{T:List (Nat×TI)}(hT:cW P T)(l:Nat){t:aj}{x y:aq}{b off:Nat}{K:Mem->Prop}{c:C}{i:TI}(h:o.op=.store t x y)(hi:bG T t=aa i)(hs1:i.size=1)(hx:bU φ x=.e (.one (.v (.pointer (aa ⟨b,off,af⟩)))))(hy:bU φ y=.e (.one (.c c)))(hg:vk c=ab)(hl:σ[l]?=aa (.cm (PM K)))(hK:∀M,K M->∃w,M b off=aa w):ee P N o φ σ (ι:={u:ah // ∀M,Rd M u c}) (λ_=>.any) (λu=>σ.set l (.cm (PM λM'=>∃M,K M/\M'=M.up b off u.1))):=by
 intro s a V hh;have A:=dg V x;rw[hx]at A;have A:=Rd.en A;have k:=l4 (show kI (bU φ y)=aa [.c c] by rw[hy];rfl) (dg V y);generalize O:(a.eval y).cells.toList=vs at k;obtain⟨u,rfl⟩:∃u,vs=[u]:=by
  match vs,k with
  |[u],_=>grind
  |_::_::_,h=>exact h.2.elim
 have hu:Rd s.M u c:=k.1;have U:∀M,Rd M u c:=λM=>qy hg hu;have J:l<s.β.length:=by rw[hh.len];grind
 have S:=br J;generalize s.β[l]=L at S;obtain⟨ch,⟨h1,h2,Y⟩,h4,h5,h6⟩:=hh.box l _ L hl S;obtain⟨w,Z⟩:=hK _ Y;obtain⟨cs,E,I,hcs⟩:∃cs E,ch b=aa (.cells cs E (0,0))/\cs[off]?=aa w:=by
  cases e:ch b with
  |none=>simp[fR,e]at Z
  |some x =>
   obtain⟨cs,E,rfl⟩:=h2 b x e;exact⟨cs,E,rfl,by simpa[fR,e]using Z⟩
 have Q:b∈L.bs:=(h5 b).2 (by grind);have m:=h4 b _ I;have q:off<cs.size:=by grind
 have z:=run_storeCells_at P b off E [u] 0 cs s.w m (show off+0+1<=cs.size from q) k.cell;simp only[iE,ig]at z;have B:=setRow_heap s.w b cs (cs.toList.take off++[u]++cs.toList.drop (off+1)).toArray E (0,0) m;generalize D:(cs.toList.take off++[u]++cs.toList.drop (off+1)).toArray=XV at z B;have F:∀j,XV[j]?=if j=off then aa u else cs[j]?:=λj=>by rw[<-D];grind
 have G:∀f H,fR (λf=>if f=b then aa (.cells XV E (0,0))else ch f) f H=(fR ch).up b off u f H:=λf H=>by
  by_cases e:f=b
  .subst e;simp only[fR,cq,Mem.up,aG,I,F]
  .simp only[fR,aY e,Mem.up,e,false_and,ck]
 obtain⟨t1,t2⟩:=hh.jM (l:=l) (H':=PM λM'=>∃M,K M/\M'=M.up b off u) (L':=L) (w':=s.w.setRow b XV) hl S rfl (by simp)
  (λf n hn=>setRow_other s.w b f _ (λe=>hn (by grind))) (λf n=>.inl n)
  ⟨λf=>if f=b then aa (.cells XV E (0,0))else ch f,⟨h1,λf o n=>by
   grind,_,Y,funext λf=>funext λH=>G f H⟩,λf o n=>by
   grind[setRow_other],λf=>by grind⟩ rfl rfl rfl
 have R:(a.eval y).cells.size=i.size:=by grind
 have e1:aw a.eval o=(do storeVar t ⟨b,off,af⟩ (a.eval y);pure .skip):=by simp[aw,h,A,Instr.storeAt,bq]
 refine⟨⟨u,U⟩,.skip,_,ai,?_,.inr ⟨rfl,rfl⟩,ay,t1,t2,?_⟩
 .simp[aw,h,A,Instr.storeAt,bq,storeVar,(hT t i hi).run_sizeOf,R,O,z]
 .intro W g;rw[e1]at g;have p:W∈(storeCells ⟨b,off,af⟩ (a.eval y).cells.toList).events P s.w #[]:=by
   simp only[storeVar,aM,(hT t i hi).run_sizeOf,R,aP,events_sizeOf,dy,ft,ck,bT,b5,Sem.events_pure]at g;generalize(storeCells ⟨b,off,af⟩ (a.eval y).cells.toList).run P s.w=r at g;cases r with
   |ok v w'=>simpa using g
   |halt x w'=>simpa using g
  rw[O]at p;rcases dN [u] 0 cs s.w #[] m (show off+0+1<=cs.size from q) k.cell W p with JK|⟨j,_,_,rfl⟩
  .grind
  .exact jX (bP S) Q (h6 b Q _)
end
def BW(p:Bs):ah:=.string ⟨p.toArray⟩
def TQ{a:ByteArray}{p:Bs}(h:a.data.toList=p):Value.string a=BW p:=by subst h;simp[BW]
theorem str_val{M:Mem}{v:ah}{p:Bs}(h:Rd M v (.str p)):v=BW p/\cN v=ab:=by
 cases h with
 |str e _=>exact⟨TQ e,rfl⟩
section
variable {P:ar}{X:Cx P}{N:Nat}{all:List au}{φ:Fr}{x:Nat->D}{k:Bool->Bool->Bool->List aR}{i g f b:Nat}{o:au}
abbrev uS(k:Bool->Bool->Bool->List aR)(g f b:Nat):(Nat->Bool)->List aR:=λD=>k (D g) (D f) (D b)
def lY{i j:Nat}{D:Nat->Bool}(h:aB j i=ae):ey i D j=D j:=by simp only[ey,h]
def AA{i:Nat}{D:Nat->Bool}:ey i D i=ab:=by simp only[ey,ja]
def eh.q3(h1:aB g i=ae)(h2:aB f i=ae)(e:aB b i=ae)(h:∀a c d,OA X N all o (kr all φ x i) (k a c d) (x i) (k a c d)):eh X N all φ x (uS k g f b) i o:=by intro D _ _;show OA X N all o _ (k (D g) (D f) (D b)) _ (k (ey i D g) (ey i D f) (ey i D b));rw[lY h1,lY h2,lY e];exact h _ _ _
def eh.q3o{T:List (Nat×TI)}{CT:List (Nat×dv)}{obs:List Prop}(hT:cW P T)(hC:bL X CT)(j:az obs)(h:∀a c d,wP T CT [] all (kr all φ x i) (k a c d) o=aa (x i,af,obs):=by intro a c d;cases a<;>cases c<;>cases d<;>rfl)(h1:aB g i=ae:=by rfl)(h2:aB f i=ae:=by rfl)(e:aB b i=ae:=by rfl):eh X N all φ x (uS k g f b) i o:=.q3 h1 h2 e λa c d=>OA.eval hT hC (h a c d) j
def eh.Js{T:List (Nat×TI)}{CT:List (Nat×dv)}(hT:cW P T)(hC:bL X CT)(h:∀a c d,wP T CT [] all (kr all φ x i) (k a c d) o=aa (x i,af,[]):=by intro a c d;cases a<;>cases c<;>cases d<;>rfl)(h1:aB g i=ae:=by rfl)(h2:aB f i=ae:=by rfl)(e:aB b i=ae:=by rfl):eh X N all φ x (uS k g f b) i o:=.q3o (obs:=[]) hT hC ay h h1 h2 e
def eh.e1(hi:aB g i=ab)(h1:aB g i=ab)(h2:aB f i=ae)(a:aB b i=ae)(h:∀c d,OA X N all o (kr all φ x i) (k ae c d) (x i) (k ab c d)):eh X N all φ x (uS k g f b) i o:=by intro D _ j;have e:=bX hi;subst e;show OA X N all o _ (k (D g) (D f) (D b)) _ (k (ey g D g) (ey g D f) (ey g D b));rw[AA,lY h2,lY a,j g (.inl rfl)];exact h _ _
def eh.e2(hi:aB f i=ab)(h1:aB g i=ae)(d:aB b i=ae)(l:fZ all b i=ab)(j:aB f i=ab)(h:∀a,OA X N all o (kr all φ x i) (k a ae ae) (x i) (k a ab ae)):eh X N all φ x (uS k g f b) i o:=by intro D _ c;have e:=bX hi;subst e;show OA X N all o _ (k (D g) (D f) (D b)) _ (k (ey f D g) (ey f D f) (ey f D b));rw[AA,lY h1,lY d,c f (.inl rfl),c b (.inr l)];exact h _
def eh.e3(hi:aB b i=ab)(h1:aB g i=ae)(h2:aB f i=ae)(d:fZ all i f=ab)(c:aB b i=ab)(h:∀a,OA X N all o (kr all φ x i) (k a ab ae) (x i) (k a ab ab)):eh X N all φ x (uS k g f b) i o:=by intro D hT hF;have e:=bX hi;subst e;show OA X N all o _ (k (D g) (D f) (D b)) _ (k (ey b D g) (ey b D f) (ey b D b));rw[AA,lY h1,lY h2,hF b (.inl rfl),hT f d];exact h _
end
def dX(g:Nat)(E:aj)(v:ah):ah->(Nat->Option Obj)->Prop:=λu a=>u=.pointer (aa ⟨g,0,af⟩)/\a g=aa (.cells #[v] E (0,0))/\∀b,b≠g->a b=af
section
variable {P:ar}{X:Cx P}{N:Nat}{φ:Fr}{σ:List aR}{all:List au}{o:au}{T:List (Nat×TI)}
def OA.Kw(hT:cW P T){t g:Nat}(l:Nat){E:aj}{v:ah}{i:TI}(C:rf all φ o=ab)(H:o.op=.load t (.global g))(hl:dC l σ=aa (.cm (dX g E v)))(hi:bG T t=aa i)(J:cN v=ab)(G:lb i [.c (.val v)]=aa (.one (.c (.val v)))):
  OA X N all o φ σ (.e (.one (.c (.val v)))) σ:=by
 intro s a f hh b k cs S q rest hb hq hK;refine rK hb hq (fD C _ _ _ f) λh x=>?_;have d:=hh.rely x;have hB:=b9 hl;have z:l<h.β.length:=by rw[d.len];grind
 have D:=br z;generalize h.β[l]=L at D;obtain⟨ch,⟨h1,h2,Q⟩,M,K,R⟩:=d.box l _ L hB D;have I:=M g _ h2;have O:g∈L.bs:=(K g).2 (by grind)
 have r:a.eval (.global g)=.pointer (aa ⟨g,0,af⟩):=rfl;have B:ei σ h [v] [.c (.val v)]:=⟨Rd.val J,ay⟩;obtain⟨u,p,A⟩:=iL (s:=h) (σ:=σ) (P:=P) (hT t i hi) (b:=g) (off:=0) (vs:=[v]) (cs:=[.c (.val v)]) (e:=.one (.c (.val v))) (λj w hj=>by
  simp only[aV,I]
  grind) B G
 refine⟨.value u,h,u,by simp[aw,H,r,Instr.loadAt,bq,p],.inl rfl,⟨⟨σ,σ,d,d,.refl _ _⟩,?_⟩,hK u h A d x.stepW⟩;intro F y;have m:F∈(loadVar t ⟨g,0,af⟩).events P h.w #[]:=by
  have e:aw a.eval o=(do pure (.value (<-loadVar t ⟨g,0,af⟩))):=by simp[aw,H,r,Instr.loadAt,bq]
  rw[e]at y;simpa[p]using y
 obtain⟨j,hj,rfl⟩:=gu (hT t i hi) (n:=1) (λj hj=>⟨v,by simp only[aV,I];grind⟩) (by have:=ld G;grind) F m;exact j0 (bP D) O
end
section
variable {P:ar}{X:Cx P}{N:Nat}{φ:Fr}{σ:List aR}
def JR{P:ar}(X:Cx P)(N:Nat)(all:List au)(φ:Fr)(σ:List aR)(x:Nat->D):List D->List au->Nat->Prop
 |_::r,o::l,i=>OA X N all o (kr all φ x i) σ (x i) σ/\JR X N all φ σ x r l (i+1)
 |[],_,_=>True
 |_::_,[],_=>False
theorem JR.get{all:List au}{x:Nat->D}:∀{r:List D}{l:List au}{k:Nat},JR X N all φ σ x r l k->∀i o,l[i]?=aa o->i<r.length->OA X N all o (kr all φ x (k+i)) σ (x (k+i)) σ
 |[],_,_,_,i,o,_,hi=>absurd hi (fX _)
 |_::r,[],_,h,i,o,_,hi=>h.elim
 |d::r,p::l,k,h,0,o,a,_=>by cases a;exact h.1
 |d::r,p::l,k,h,i+1,o,a,hi=>by have:=JR.get h.2 i o a (by grind);grind
def AK.calm(h:P.follows Departure.mixedOrders=ab)(xs:List D)(c:Nat){ops:Array au}{id:Nat}{K:List It}{Qf:Post}(a:mT ops.toList=ab)(b:sH ops.toList 0=ab)(d:oF N ops.toList=ab)(e:bA xs.length ops.toList.length=ab)(Qz:wH ops.toList c xs.length (ops.toList.length-xs.length)=ab)(one:JR X N ops.toList φ σ (λi=>xs.getD i .any) xs ops.toList 0)(k:AK X N Qf (.ops ops.toList (ops.toList.drop xs.length)::K) .normal (NF ops.toList φ λi=>xs.getD i .any) σ):AK X N Qf (.code (.region id ops ab)::K) .normal φ σ:=by
 have e:=db e;have:=AW.reg (X:=X) (N:=N) (φ:=φ) (σ:=σ) h (all:=ops.toList) xs.length (λ_:Unit=>λi=>xs.getD i .any) (λ_ _=>σ) (λ_ _=>True) () ay rfl a b d e
  (λi h1 h2 L l g k hk=>qB l (tS (tT Qz i h1 (by omega)) k hk) g)
  (λf D _ _ i h1 h2=>by grind)
  (λf D i o _ j hi _ _ _=>by have h1:=one.get i o j hi;rw[bF]at h1;exact h1.tQ ⟨(),λ_ _=>rfl,ay⟩ rfl rfl)
  (Q:=AK X N Qf K) (λf D _ _=>k) id
 rw[pr]at this;exact this
end
section
variable {P:ar}{X:Cx P}{N:Nat}{Qf:Post}{K:List It}{φ:Fr}{σ:List aR}{all rest:List au}{o:au}{T:List (Nat×TI)}
def Ii{ι:Type}{S:av->St->Prop}{b:aU}{k:List Item}{cs:List aU}{a:Act}{s:St}{ops:Array au}{i:Nat}{rest:List Nat}{ks:List Nat}{n:List aR}{σ1:ι->List aR}{f:aJ}{e:List D}{res:ι->D}{vs:List ah}(hb:b.kind≠.early)(ho:ops[i]?=aa o)(hw:bg o (yielded ops a.tmps)=ab)(hh:aF σ s)(t:∀m,aF σ m->(aw a.eval o).run P m.w=.ok (.enter f vs.toArray) m.w/\fg m ((aw a.eval o).events P m.w #[]))(V:ef X f e n res σ1)(E:cp σ s vs (fU ks e))(Q:lE ks.length e=ab)(r:j3 ks σ=aa n)(hp:cx n=ab)(Yw:∀j,cx (σ1 j)=ab)(hn:dH ks=ab)(R:∀j,ks.length<=(σ1 j).length)(h:∀j v s',dt (dW ks (σ1 j) σ) s' v (iu (ks++k9 σ.length ((σ1 j).length-ks.length)) (res j))->aF (dW ks (σ1 j) σ) s'->cY σ s (dW ks (σ1 j) σ) s'->fL X S (G (b.aT (a.put o.dst v) (.inRegion ops rest::k)) cs) s'):
  fL X S (G (b.aT a (.inRegion ops (i::rest)::k)) cs) s:=by obtain⟨_,C⟩:=V;refine .next rfl λm QS=>?_;have hr:=X.iH QS;have g:=hh.rely hr;obtain⟨p,u⟩:=wA (l':=m.β) r g.len;obtain⟨I,hgs⟩:=g.sub r u hp hn;have q:cp σ m vs (fU ks e):=E.mono hr.stepW.ext hh.len;have H:cp n {m with β:=p,own:=wF m p} vs e:=(q.sub (s:=m) r u Q).mono (σ:=n) (s:={m with β:=p}) (σ':=n) (s':={m with β:=p,own:=wF m p}) ⟨λ_ _ _ h=>h,λl B L hB hL=>⟨B,L,hB,hL,.refl _ _⟩⟩ I.len;refine⟨_,m,_,px ho hw hb (t m g).1,⟨⟨σ,σ,g,g,.refl _ _⟩,fg.seen (t m g).2⟩,.ghost hgs (C _ vs H I S _ λj fr v s2 hl J y Y=>?_)⟩;refine qz (cs:=cs) (c:=b.aT a (.inRegion ops (i::rest)::k)) y hl λs3 A=>?_;have M:=y.rely A;have O:=Y.trans A.stepW;obtain⟨s4,hw4,hr4,Z,Y5,hM4,W,F⟩:=frame g r u hn (Yw j) M O (R j) (J.mono A.stepW.ext y.len);refine .ghost (eF.back g M O hw4 hM4 W F) ?_;have U:=kF (b:=b) (a:=a) (k:=k) ops i rest v;rw[ho]at U;simp only[oq]at U;rw[U];exact h j v s4 hr4 Z (hr.stepW.trans Y5)
def dX.cell(hT:cW P T){l t g:Nat}{E:aj}{v:ah}{i:TI}(hl:dC l σ=aa (.cm (dX g E v)))(hi:bG T t=aa i)(G:cN v=ab)(r:lb i [.c (.val v)]=aa (.one (.c (.val v)))){s:St}(hh:aF σ s):
  (loadVar t ⟨g,0,af⟩).run P s.w=.ok v s.w/\fg s ((loadVar t ⟨g,0,af⟩).events P s.w #[]):=by
 have hB:=b9 hl;have m:l<s.β.length:=by rw[hh.len];grind
 have p:=br m;generalize s.β[l]=L at p;obtain⟨ch,⟨h1,h2,I⟩,B,A,H⟩:=hh.box l _ L hB p;have q:=B g _ h2;have C:g∈L.bs:=(A g).2 (by grind)
 have a:ei σ s [v] [.c (.val v)]:=⟨Rd.val G,ay⟩;obtain⟨u,k,h⟩:=iL (s:=s) (σ:=σ) (P:=P) (hT t i hi) (b:=g) (off:=0) (vs:=[v]) (cs:=[.c (.val v)]) (e:=.one (.c (.val v))) (λj w hj=>by
  simp only[aV,q]
  grind) a r
 have F:u=v:=Rd.en h;subst F;refine⟨k,λy f=>?_⟩;obtain⟨j,hj,rfl⟩:=gu (hT t i hi) (n:=1) (λj hj=>⟨u,by simp only[aV,q];grind⟩) (by have:=ld r;grind) y f;exact j0 (bP p) C
def OA.zb(hT:cW P T){t g:Nat}(l:Nat){x:aq}{E:aj}{v:ah}{i:TI}(p:rf all φ o=ab)(A:o.op=.load t x)(w:bU φ x=.e (.one (.c (.val (.pointer (aa ⟨g,0,af⟩))))))(hl:dC l σ=aa (.cm (dX g E v)))(hi:bG T t=aa i)(u:cN v=ab)(G:lb i [.c (.val v)]=aa (.one (.c (.val v)))):
  OA X N all o φ σ (.e (.one (.c (.val v)))) σ:=by
 intro s a f hh b k cs S q rest F C B;refine rK F C (fD p _ _ _ f) λr m=>?_;have h:=hh.rely m;have j:=dg f x;rw[w]at j;have j:=Rd.en (e9 j);obtain⟨h1,h2⟩:=dX.cell hT hl hi u G h;have e:aw a.eval o=(do pure (.value (<-loadVar t ⟨g,0,af⟩))):=by simp[aw,A,j,Instr.loadAt,bq]
 refine⟨.value v,r,v,by rw[e];simp[h1],.inl rfl,⟨⟨σ,σ,h,h,.refl _ _⟩,?_⟩,B v r (Rd.val u) h m.stepW⟩;intro y n;rw[e]at n;exact h2 y (by simpa[h1]using n)
def GX(t:aj)(p:Addr)(a:String):Builtin.ssaWrapNilChk_ #[t] t #[.pointer (aa p),strVal "",strVal a]=pure (.pointer (aa p)):=rfl
def ri(P:ar)(σ:List aR)(T:aj)(v:ah)(name:String)(f:aJ)(r:ah):Prop:=∀s,aF σ s->∀n,(Go.method (n+1) T v name).run P s.w=.ok (f,r) s.w/\fg s ((Go.method (n+1) T v name).events P s.w #[])
def ri.ptr{a:aj}{name:String}{f:aJ}{i:TypeInfo}{m:Go.Method}{e:aj}{v:ah}(hi:P.info? a=aa i)(g:i.methods.find? (·.name==name)=aa m)(b:m.path=#[])(c:m.func=aa (f,ab))(h:P.underlying a=aa (.pointer e)):ri P σ a v name f v:=by
 intro s hh n;have h1:∀w,(typeInfo a).run P w=.ok i w:=λw=>by simp[typeInfo,hi]
 have h2:∀w,(underlying a).run P w=.ok (.pointer e) w:=λw=>by simp[underlying,h]
 unfold Go.method;constructor
 .simp only[bT,h1,g,b,c,b5,follow,dx,receiverAt,h2];rfl
 .have:∀es,((do pure (f,<-receiverAt a (.val v) ab (if m.path.isEmpty then aa ((name.splitOn ".").getLastD name)else af))):Sem (aJ×ah)).events P s.w es=es:=λes=>by simp[receiverAt,h2,Place.get]
  simp only[aM,bT,h1,g,b,c,b5,aP,follow,dx,Sem.events_pure,receiverAt,h2,events_typeInfo,events_underlying,Place.get];exact .nil
def ri.deref(hT:cW P T){l g:Nat}{b:aj}{name:String}{f:aJ}{i:TypeInfo}{m:Go.Method}{t E:aj}{v:ah}{q:TI}(hi:P.info? b=aa i)(p:i.methods.find? (·.name==name)=aa m)(h:m.path=#[])(k:m.func=aa (f,ae))(B:P.underlying b=aa (.pointer t))(hl:dC l σ=aa (.cm (dX g E v)))(e:bG T t=aa q)(y:cN v=ab)(C:lb q [.c (.val v)]=aa (.one (.c (.val v)))):ri P σ b (.pointer (aa ⟨g,0,af⟩)) name f v:=by
 intro s hh n;have h1:∀w,(typeInfo b).run P w=.ok i w:=λw=>by simp[typeInfo,hi]
 have h2:∀w,(underlying b).run P w=.ok (.pointer t) w:=λw=>by simp[underlying,B]
 obtain⟨j,A⟩:=dX.cell hT hl e y C hh;have r:m.path.isEmpty=ab:=by grind
 unfold Go.method;constructor
 .simp only[bT,h1,p,h,k,b5,follow,dx,receiverAt,h2,Place.get];simp[GX,asAddr,j]
 .intro u a;refine A u ?_;simp only[aM,bT,h1,p,h,k,b5,aP,follow,dx,Sem.events_pure,receiverAt,h2,events_typeInfo,events_underlying,Place.get]at a;simpa[GX,asAddr,j]using a
def pI{a:aq->ah}{x:aq}{b:Array aq}{e:Array aj}{name:String}(f:o.op=.call {callee:=.invoke x name,args:=b,argTypes:=e}){c:aj}{u:ah}(k:a x=.iface c u):
  aw a o=callMethod (.iface c u) name (b.toList.map a).toArray:=by
 have g:#[a x]++b.map a=(.iface c u::b.toList.map a).toArray:=by grind
 have j:(Value.iface c u::b.toList.map a).toArray.extract 1 (Value.iface c u::b.toList.map a).toArray.size=(b.toList.map a).toArray:=by grind
 have h:aw a o=invoke (.fn (.method name) #[]) (#[a x]++b.map a):=by simp only[aw,f];rfl
 rw[h,g];show callMethod (.iface c u) name ((Value.iface c u::b.toList.map a).toArray.extract 1 (Value.iface c u::b.toList.map a).toArray.size)=_;rw[j]
def AK.kV{ι:Type}{Tp:aj}{name:String}{f:aJ}{u r:ah}{g:List D}{B:List aR}{σ1:ι->List aR}{res:ι->D}(G:ef X f g B res σ1)(ks:List Nat)(hm:ri P σ Tp u name f r)(Y:rf all φ o=ab){x:aq}{H:Array aq}{Q:Array aj}(ho:o.op=.call {callee:=.invoke x name,args:=H,argTypes:=Q})(hx:bU φ x=.e (.one (.c (.ifs Tp (.val u)))))(hr:cN r=ab)(A:mS (.e (.one (.c (.val r)))::H.toList.map (bU φ))=fU ks g)(M:lE ks.length g=ab)(W:j3 ks σ=aa B)(hp:cx B=ab)(U:∀j,cx (σ1 j)=ab)(hn:dH ks=ab)(O:∀j,bA ks.length (σ1 j).length=ab)(hN:gg N o.dst=ab)(k:∀j,AK X N Qf (.ops all rest::K) .normal (kH o.dst (iu (ks++k9 σ.length ((σ1 j).length-ks.length)) (res j)) φ) (dW ks (σ1 j) σ)):AK X N Qf (.ops all (o::rest)::K) .normal φ σ:=by
 intro s a F hh b kk css S idx hb jE hQ;cases idx with
 |nil=>exact jE.elim
 |cons i idx =>
 have J:=dg F x;rw[hx]at J;have J:=e9 J;generalize Z:a.eval x=v at J;cases J with
 |@ifs _ u' _ h1 hc =>
  have hu:=Rd.en h1;subst hu;obtain⟨fn,E,OM,R⟩:=G.1;have l:fn.name≠ "runtime.NumGoroutine":=by grind
  have h:fn.body≠af:=by grind
  obtain⟨n,I⟩:∃n,P.types.size+Made.depth=n+1:=⟨P.types.size+Made.depth-1,by unfold Made.depth;omega⟩
  have p:∀w,(program:Sem ar).run P w=.ok P w:=λw=>by simp[program,Sem.run]
  have C:∀w es,(program:Sem ar).events P w es=es:=λw es=>by simp[program,Sem.events,Sem.runT]
  have m:cp σ s (r::H.toList.map a.eval) (fU ks g):=by rw[<-A];exact pA (σ:=σ) (s:=s) ⟨Rd.val hr,lX (dg F) H.toList⟩
  refine Ii (ks:=ks) hb jE.1 (fD Y _ _ _ F) hh (vs:=r::H.toList.map a.eval) (λs1 V=>?_) G m M W hp U hn (λj=>db (O j)) λj v s' mJ jh st=>?_
  .obtain⟨m1,m2⟩:=hm s1 V n;constructor
   .rw[pI ho Z];simp[callMethod,p,I,m1,callFunc,E,l,h]
   .intro ev y;refine m2 ev ?_;rw[pI ho Z]at y;simpa[callMethod,p,C,I,m1,callFunc,E,l,h]using y
  refine k j s' _ ?_ jh b kk css S idx hb jE.2 λL σ2 s2 a2 q d h2 mR=>hQ L σ2 s2 a2 q d h2 (st.trans mR);cases hd:o.dst with
  |none=>exact F.mono st hh.len
  |some t=>exact(F.mono st hh.len).put (gK hN t hd) mJ
def bM.CL{a:aq->D}{x:aq}(h:o.op=.nilCheck x){p:Addr}(g:a x=.e (.one (.c (.val (.pointer (aa p)))))):bM P o a σ (.e (.one (.c (.val (.pointer (aa p)))))) σ:=by refine .quiet λs f hh hr=>?_;have h1:=hr x;rw[g]at h1;have b:=Rd.en (e9 h1);exact⟨f x,by simp[aw,h,b],h1,by simp[aw,h,b]⟩
def bM.CM(hT:cW P T){W:aq->D}{t:aj}{x:aq}(h:o.op=.load t x){E:aj}{b cap off i f k n l:Nat}{es:Nat->List C}{xs:List ah}{I:TI}{e:E1}(hx:W x=.e (.one (.c (.val (.pointer (aa ⟨b,off,af⟩))))))(Z:off=i*k+f)(hl:σ[l]?=aa (.cm (gf E k (.row b cap) n xs)))(O:gy k n es xs)(hi:bG T t=aa I)(he:lb I ((fV f (es i)).map A.c)=aa e)(J:i<n):bM P o W σ (.e e) σ:=by
 refine .oz λs ρ hh hr=>?_;have H:=hr x;rw[hx]at H;have H:=Rd.en (e9 H);have B:l<s.β.length:=by rw[hh.len];grind
 have V:=br B;generalize s.β[l]=L at V;obtain⟨ch,hH,p,S,Xz⟩:=hh.box l _ L hl V;obtain⟨zs,XB,F,RP⟩:=gf.lookup hH;have U:b∈L.bs:=(S b).2 (by grind);have G:=p b _ F;let g:Nat->ah:=λj=>xs.getD (i*k+j) ai;have hg:∀j c,(fV f (es i))[j]?=aa c->xs[i*k+(f+j)]?=aa (g (f+j))/\Rd s.M (g (f+j)) c:=by intro j c hj;rw[mo,pt]at hj;obtain⟨v,v1,v2⟩:=O.at' i J (f+j) c hj;grind
 have R:=EX (σ:=σ) (s:=s) (g:=g) (ds:=fV f (es i)) (m:=f) (λj c hj=>(hg j c hj).2);have a:∀(j:Nat) (v:ah),((bh (fV f (es i)).length).map λj=>g (f+j))[j]?=aa v->s.w.cell? ⟨b,off+j,af⟩=aa v:=by
  intro j v hj;simp only[nk]at hj;by_cases u:j<(fV f (es i)).length
  .simp[u]at hj;subst hj;have h2:=(hg j _ (br u)).1;simp only[aV,G];grind
  grind
 obtain⟨v,r,Q⟩:=iL (s:=s) (σ:=σ) (P:=P) (hT t I hi) (b:=b) (off:=off) (e:=e) a R he;have e1:aw ρ o=(do pure (.value (<-loadVar t ⟨b,off,af⟩))):=by simp[aw,h,H,Instr.loadAt,bq]
 refine⟨v,by rw[e1];simp[r],Q,λY y=>?_⟩;rw[e1]at y;have q:Y∈(loadVar t ⟨b,off,af⟩).events P s.w #[]:=by simpa[r]using y
 obtain⟨j,hj,rfl⟩:=gu (hT t I hi) (n:=(fV f (es i)).length) (λj hj=>⟨_,a j (g (f+j)) (by grind)⟩) (by have:=ld he;grind) Y q;exact j0 (bP V) U
def bM.SC(hT:cW P T){j:aq->D}{t:aj}{x y:aq}(h:o.op=.slice t x af (aa y) af){i r:TI}{E:aj}(l:bG T t=aa i)(G:i.desc=.slice E)(B:bG T E=aa r){b n cap:Nat}{kd:IntKind}{m:Int}(F:j x=.e (.one (.c (.val (.slice (aa ⟨b,0,af⟩) n cap)))))(H:j y=.e (.one (.c (.int kd m))))(g:n<=cap)(I:0<=m)(h1:m<=n):bM P o j σ (.e (.one (.c (.val (.slice (aa ⟨b,0,af⟩) m.toNat cap))))) σ:=by
 refine .quiet λst ρ hh hr=>?_;have f:=hr x;rw[F]at f;have f:=Rd.en (e9 f);have hl:rJ j af=aa af:=rfl;have u:rJ j (aa y)=aa (aa m):=by simp[rJ,H]
 have s:az (fY n af (aa m)):=⟨I,h1⟩;obtain⟨C,A,v⟩:=md (P:=P) (isS:=ab) g (gE hr hl) (gE hr u) s st.w;have a:=(hT t i l).run_underlying (w:=st.w);rw[G]at a;have k:(bd ab n cap af (aa (ρ y)) af).run P st.w=.ok (0,m.toNat,cap) st.w:=C;have p:=nI (P:=P) (isS:=ab) g (gE hr hl) (gE hr u) s st.w;have q:∀es,(bd ab n cap af (aa (ρ y)) af).events P st.w es=es:=p;refine⟨_,?_,Rd.val rfl,?_⟩
 .simp[aw,h,f,Instr.sliceAt,a,Instr.slice,k,(hT E r B).run_sizeOf,du]
 .simp[aw,h,f,Instr.sliceAt,a,Instr.slice,k,q]
def GY{s:St}:∀{vs:List ah}{cs:List C},vs.length=cs.length->∀f:Nat->ah,(∀j,j<vs.length->vs[j]?=aa (f j))->(∀(j:Nat)(c:C),cs[j]?=aa c->Rd s.M (f j) c)->ei σ s vs (cs.map A.c)
 |[],[],_,_,_,_=>trivial
 |[],_::_,b,_,_,_=>by grind
 |_::_,[],b,_,_,_=>by grind
 |v::vs,c::cs,b,f,h,a=>⟨by have:=h 0 (by simp);cases this;exact a 0 c rfl,GY (by grind) (λj=>f (j+1)) (λj e=>by grind) λj g e=>a (j+1) g (by grind)⟩
def bM.AS(hT:cW P T){p:aq->D}{x:aq}{l t:aj}(h:o.op=.typeAssert x l t ae){i:TI}(hi:bG T t=aa i)(n:pG i.desc=ae){cs:List C}(r:p x=.e (.one (.c (.Gw t cs)))):bM P o p σ (.e (.agg (cs.map A.c))) σ:=by
 refine .quiet λs v hh hr=>?_;have h1:=hr x;rw[r]at h1;replace h1:=e9 h1;generalize j:v x=vx at h1;have q:=(hT t i hi).run_underlying (w:=s.w);have b:∀m,i.desc≠.interface m:=by intro m e;rw[e]at n;cases n
 cases h1 with
 |@Gw t' vs cs hl f u k =>
  have a:(Instr.typeAssert (.iface t (.agg vs.toArray)) l t ae).run P s.w=.ok (.agg vs.toArray) s.w/\(Instr.typeAssert (.iface t (.agg vs.toArray)) l t ae).events P s.w #[]=#[]:=by
   constructor
   .unfold Instr.typeAssert;simp only[bT,q,b5];cases g:i.desc<;>first|(exact absurd g (b _))|simp
   .unfold Instr.typeAssert;simp only[q,aM,aP,events_underlying];cases g:i.desc<;>first|(exact absurd g (b _))|simp
  exact⟨.agg vs.toArray,by simp only[aw,h,j,bT,a.1,b5,dx],⟨vs,rfl,GY hl f u k⟩,by simp only[aw,h,j,aM,a.1,a.2,aP,Sem.events_pure]⟩
def AK.KR(hT:cW P T)(l:Nat){t g:Nat}{x y:aq}{E:aj}{v u:ah}{i:TI}(h:o.op=.store t x y)(hi:bG T t=aa i)(G:i.size=1)(Z:bU φ x=.e (.one (.c (.val (.pointer (aa ⟨g,0,af⟩))))))(hy:bU φ y=.e (.one (.c (.val u))))(U:u.cells=#[u])(hcu:cN u=ab)(hl:dC l σ=aa (.cm (dX g E v)))(hg:o.guard=af)(Y:gg N o.dst=ab)(kk:AK X N Qf (.ops all rest::K) .normal (kH o.dst .any φ) (σ.set l (.cm (dX g E u)))):AK X N Qf (.ops all (o::rest)::K) .normal φ σ:=by
 refine AK.hand (ι:=Unit) (λ_=>.any) (λ_=>σ.set l (.cm (dX g E u))) hg Y (λs a R hh=>?_) λ_=>kk;have H:=dg R x;rw[Z]at H;have H:=Rd.en (e9 H);have m:=dg R y;rw[hy]at m;have m:=Rd.en (e9 m);have hl:=b9 hl;have F:l<s.β.length:=by rw[hh.len];grind
 have I:=br F;generalize s.β[l]=L at I;obtain⟨ch,⟨h1,h2,h3⟩,q,O,M⟩:=hh.box l _ L hl I;have A:g∈L.bs:=(O g).2 (by grind);have k:=q g _ h2;have B:∀w∈[u],w.oneCell'=ab:=λw hw=>by
  have:cN w=ab:=by grind
  exact this
 have J:=run_storeCells_at P g 0 E [u] 0 #[v] s.w k (by simp) B;have C:∀f,f≠g->(s.w.setRow g #[u]).heap[f]?=s.w.heap[f]?:=λf b=>setRow_other s.w g f _ b;have Q:=setRow_heap s.w g #[v] #[u] E (0,0) k;obtain⟨V,W⟩:=hh.jM (l:=l) (H':=dX g E u) (L':=L) (w':=s.w.setRow g #[u]) hl I rfl (by simp)
  (λf b hn=>C f (by grind)) (λf b=>.inl b)
  ⟨λf=>if f=g then aa (.cells #[u] E (0,0))else af,⟨h1,by simp,λf b=>by grind⟩,λf o b=>by
   grind,λf=>by grind⟩ rfl rfl rfl
 have e1:aw a.eval o=(do storeVar t ⟨g,0,af⟩ u;pure .skip):=by simp[aw,h,H,m,Instr.storeAt,bq]
 have n:(storeCells ⟨g,0,af⟩ [u] 0).run P s.w=.ok () (s.w.setRow g #[u]):=J;refine⟨(),.skip,_,ai,?_,.inr ⟨rfl,rfl⟩,ay,V,W,?_⟩
 .rw[e1];simp[storeVar,(hT t i hi).run_sizeOf,U,G,n]
 .intro S p;rw[e1]at p;have r:S∈(storeCells ⟨g,0,af⟩ [u] 0).events P s.w #[]:=by simp only[storeVar,aM,(hT t i hi).run_sizeOf,G,U,aP,events_sizeOf,dy,ft,ck,bT,b5,Sem.events_pure]at p;simpa[n]using p
  rcases dN [u] 0 #[v] s.w #[] k (by simp) B S r with JK|⟨j,_,_,rfl⟩
  .grind
  .exact jX (bP I) A (M g A _)
def AK.KS(t l:Nat){E:aj}(y k:Nat){I:Nat}{es:Nat->List C}{c:Code}(R:look φ t=.e (.one (.ptr l 0)))(hl:dC l σ=aa (.cells E [.c (.sl ab I 0 es)]))(kk:∀g a0,AK X N Qf (.code c::K) .normal ((t,.e (.one (.v (.pointer (aa ⟨g,0,af⟩)))))::φ) (σ.set l (.cm (dX g E (lA (.nil a0) 0)))++[.cm (gf y k (.nil a0) 0 [])])):AK X N Qf (.code c::K) .normal φ σ:=by
 refine AW.tO (ι:=Nat×Option Addr) (φ':=λq=>(t,.e (.one (.v (.pointer (aa ⟨q.1,0,af⟩)))))::φ) (σ':=λq=>σ.set l (.cm (dX q.1 E (lA (.nil q.2) 0)))++[aR.cm (gf y k (.nil q.2) 0 [])]) (λs a r hh=>?_) λ(q:Nat×Option Addr)=>kk q.1 q.2;have hl:=b9 hl;have n:l<s.β.length:=by rw[hh.len];grind
 have p:=br n;generalize s.β[l]=L at p;obtain⟨g,vs,rfl,Y,H,W⟩:=hh.box l _ L hl p
 match vs,H with
 |[v],⟨O,_⟩ =>
  obtain⟨a0,cap,U,rfl,_,_,A,_,_⟩:=(show Rd s.M v (.sl ab I 0 es)from O).flat;have j:cap=0:=A rfl;subst j;obtain⟨J,q2⟩:=hh.gJ (M':=s.M) (w':=s.w) (B':=.cm (dX g E (lA (.nil a0) 0))) (L':=⟨.pointer (aa ⟨g,0,af⟩),[g]⟩) hl p rfl (bc _) (λ_ _ _=>rfl) (λ_ _ _ _=>rfl) (λ_ _ _ h=>h) hh.mem (λb f=>⟨.inl f,hh.lt _ (bP p) b f⟩) rfl rfl rfl
   ⟨λb=>if b=g then aa (.cells #[.slice a0 0 0] E (0,0))else af,⟨rfl,by simp[lA],λb f=>by grind⟩,λb o f=>by
    grind,λb=>by by_cases e:b=g<;>simp[e],λb f o=>by grind⟩
  obtain⟨Q,S⟩:=J.ik (B:=.cm (gf y k (.nil a0) 0 [])) (L:=⟨.nilFunc,[]⟩) (.refl _ _) rfl J ⟨λ_=>af,⟨rfl,by simp,by simp,rfl,rfl⟩,by simp,by simp,by simp⟩ (by simp);have st:=q2.trans S;refine⟨(g,a0),{s with β:=s.β.set l ⟨.pointer (aa ⟨g,0,af⟩),[g]⟩++[⟨.nilFunc,[]⟩]},rfl,⟨r.size,r.defers.imp λ_ h1=>h1.mono st.ext,λu=>?_⟩,Q,st⟩;simp only[look];cases f:aB t u with
  |false=>exact(r.slot u).mono st.ext hh.len
  |true =>
   have e:=bX f;subst e;have h1:=r.slot t;rw[R]at h1;obtain⟨_,V,Z,m,F,G⟩:=(h1:gB σ s _ (.ptr l 0));rw[p]at m;cases m;cases F;rw[G];exact Rd.val rfl
theorem OA.xb{ι:Type}{x:D}{σ':List aR}(c:o.guard=af)(h:ee P N o φ σ (λ_:ι=>x) λ_=>σ'):OA X N all o φ σ x σ':=λs a f hh b kk cs S i rest e hi hK=>mW.xb c h s a f hh b kk cs S i rest e hi λ_=>hK
section
variable {x:Nat->D}{s2:Bool->Bool->List aR}{i z d:Nat}
abbrev xt(s2:Bool->Bool->List aR)(z d:Nat):(Nat->Bool)->List aR:=λD=>s2 (D z) (D d)
def eh.q2(h1:aB z i=ae)(h2:aB d i=ae)(h:∀a b,OA X N all o (kr all φ x i) (s2 a b) (x i) (s2 a b)):eh X N all φ x (xt s2 z d) i o:=by
 intro D _ _;have e1:ey i D z=D z:=by simp only[ey,h1]
 have e2:ey i D d=D d:=by simp only[ey,h2]
 grind
def eh.VI{T:List (Nat×TI)}{CT:List (Nat×dv)}{obs:List Prop}(hT:cW P T)(hC:bL X CT)(h:∀a b,wP T CT [] all (kr all φ x i) (s2 a b) o=aa (x i,af,obs):=by intro a b;cases a<;>cases b<;>rfl)(h1:aB z i=ae:=by rfl)(h2:aB d i=ae:=by rfl)(c:az obs:=by simp only[az,aE];omega):eh X N all φ x (xt s2 z d) i o:=.q2 h1 h2 λa b=>OA.eval hT hC (h a b) c
def eh.QX{T:List (Nat×TI)}{CT:List (Nat×dv)}(hT:cW P T)(hC:bL X CT)(h:∀a b,wP T CT [] all (kr all φ x i) (s2 a b) o=aa (x i,af,[]):=by intro a b;cases a<;>cases b<;>rfl)(h1:aB z i=ae:=by rfl)(h2:aB d i=ae:=by rfl):eh X N all φ x (xt s2 z d) i o:=.VI (obs:=[]) hT hC h h1 h2 ay
def eh.fw(h1:aB z i=ae)(h2:aB d i=ae)(c:fZ all z i=ab)(a:fZ all d i=ab)(h:OA X N all o (kr all φ x i) (s2 ae ae) (x i) (s2 ae ae)):eh X N all φ x (xt s2 z d) i o:=by
 intro D _ b;have e1:ey i D z=D z:=by simp only[ey,h1]
 have e2:ey i D d=D d:=by simp only[ey,h2]
 grind
def eh.sA(h2:aB d z=ae)(a:fZ all d z=ab)(h:OA X N all o (kr all φ x z) (s2 ae ae) (x z) (s2 ab ae)):eh X N all φ x (xt s2 z d) z o:=by
 intro D _ b;have e1:ey z D z=ab:=by simp only[ey,ja]
 have e2:ey z D d=D d:=by simp only[ey,h2]
 grind
def eh.sB(h1:aB z d=ae)(a:fZ all d z=ab)(h:OA X N all o (kr all φ x d) (s2 ab ae) (x d) (s2 ab ab)):eh X N all φ x (xt s2 z d) d o:=by
 intro D hT hF;have e1:ey d D z=D z:=by simp only[ey,h1]
 have e2:ey d D d=ab:=by simp only[ey,ja]
 grind
end
end
section
variable {P:ar}{X:Cx P}{N:Nat}{Qf:Post}{K:List It}{φ:Fr}{σ:List aR}{c:Code}
def pM{S:Type}{P:ar}(X:Cx P)(N:Nat)(Qf:Post)(K:List It)(I:S->Prop)(a:S->Fr)(st:S->List aR)(b:S->Nat)(d:Nat)(x:S):Post:=λe φ' σ'=>match e with
 |.normal=>∃y n,d<=n/\I y/\b y<b x/\oB φ' (a y)/\CH n (a y)=ab/\∃σ1 rest,σ'=σ1++rest/\σ1.length=n/\(sK n σ1=ab/\lM rest=ab)/\EK σ1 (st y)
 |e=>AK X N Qf K e φ' σ'
def AK.QV{S:Type}(H:Nat)(I:S->Prop)(fr:S->Fr)(st:S->List aR)(k:S->Nat)(x:S){ps qs:List Prop}(B:nV φ (fr x)=aa ps)(T:az ps)(w:ph σ (st x)=aa qs)(Q:az qs)(hn:σ.length=H)(h0:I x)(round:∀x,I x->AK X N (pM X N Qf K I fr st k H x) [.code c] .normal (fr x) (st x)):AK X N Qf (.code (.loop c)::K) .normal φ σ:=by
 intro s a U hh b kk cs SS hb hQ;have f:=gD w Q;obtain⟨v,C,_⟩:=f s hh;refine s8 (λm a' s'=>∃y,I y/\cu N (st y) s' (fr y) a'/\aF (st y) s'/\cY σ s (st y) s'/\k y=m) ?_ ?_ ⟨x,h0,(U.le (cD B T)).bs f hh,v,C.nF hh,rfl⟩
 .rintro n a' s' ⟨y,o,A,j,d,e⟩;exact⟨st y,j,λs1 h1=>⟨y,o,A.rely h1 j,j.rely h1,d.trans h1.stepW,e⟩⟩
 rintro m a' s' ⟨y,o,A,j,d,rfl⟩ V;refine round y o s' a' A j b (.inLoop c::kk) cs SS hb ?_;intro e J σ2 s2 a2 q F h2 mR;cases e with
 |normal =>
  obtain⟨z,nz,W,Z,E,i,M,σ1,rest,rfl,O,⟨R,r⟩,u⟩:=q;have G:=h2.drop (by grind);obtain⟨p,g,D⟩:=u _ G;have l:=F.le i;have Y:eF s2 (s2.cut σ1.length):=⟨rfl,λ_ _ _ h=>h,λ_ _ _=>rfl,h2.mem,λb hb=>hb.imp id λ⟨L,hL,hb⟩=>⟨L,fM hL,hb⟩⟩
  refine .ghost Y (V a2 (s2.cut σ1.length) (k z) E ⟨z,Z,⟨l.size,l.defers.imp λ_ h1=>(h1.drop r).mono g.ext,λt=>D _ _ ((l.slot t).drop (nW (by grind)))⟩,p,?_,rfl⟩);exact((d.trans mR).drop (by omega)).trans (g.nF G)
 |_=>exact ends.cons (λ_ _=>rfl) (by simp) (hQ _ _ _ _ _ q F h2 (d.trans mR))
def AK.AL{S:Type}{i:Nat}{I:S->Prop}{fr:S->Fr}{st:S->List aR}{e:S->Nat}{x:S}{l:List It}(n:Nat)(y:S){ps qs:List Prop}(m:i<=n)(d:nV φ (fr y)=aa ps)(j:az ps)(f:CH n (fr y)=ab)(g:xf n σ=ab)(b:ph (σ.take n) (st y)=aa qs)(o:az qs)(a:sK n (σ.take n)=ab)(k:I y)(h:e y<e x):
  AK X N (pM X N Qf l I fr st e i x) [] .normal φ σ :=
 ⟨y,n,m,k,h,cD d j,f,σ.take n,σ.drop n,(jz n σ).symm,by grind[Nat.le_of_ble_eq_true,qH],⟨a,(qH g).2⟩,gD b o⟩
def AK.AN{S:Type}{b:Nat}{I:S->Prop}{fr:S->Fr}{st:S->List aR}{d:S->Nat}{x:S}{id:Nat}{g a f:List It}(h1:j9 id g=af)(h2:j9 id a=aa f)(k:AK X N Qf f .normal φ σ):
  AK X N (pM X N Qf a I fr st d b x) (.code (.exit id)::g) .normal φ σ :=
 AW.mono (AK.leave (A:=λφ' σ'=>pM X N Qf a I fr st d b x .normal φ' σ') h1 h2 k) λe φ' σ' q=>by
  have key:∀(K:List It) e,AK X N (λe φ' σ'=>match e with
    |.normal=>pM X N Qf a I fr st d b x .normal φ' σ'
    |e=>AK X N Qf a e φ' σ') K e φ' σ'->AK X N (pM X N Qf a I fr st d b x) K e φ' σ':=by
   have e:(λe φ' σ'=>match e with
    |.normal=>pM X N Qf a I fr st d b x .normal φ' σ'
    |e=>AK X N Qf a e φ' σ')=pM X N Qf a I fr st d b x:=by funext e φ' σ';cases e<;>rfl
   grind
  exact key _ _ q
end
def kp(φ:Fr)(ks:List Nat):Fr:=ks.map λk=>(k,look φ k)
section
variable {P:ar}{X:Cx P}{N:Nat}{Qf:Post}{K:List It}{φ:Fr}{σ:List aR}{c:Code}
def AK.sY{S:Type}(n:Nat)(ks:List Nat)(I:S->Prop)(fr:S->Fr)(st:S->List aR)(d:S->Nat)(x:S){ps qs:List Prop}(b:nV φ (kp φ ks++fr x)=aa ps)(e:az ps)(a:ph σ (st x)=aa qs)(f:az qs)(g:σ.length=n)(h:I x)(round:∀x,I x->AK X N (lF X N Qf K I (λx=>kp φ ks++fr x) st d n x) [.code c] .normal (kp φ ks++fr x) (st x)):AK X N Qf (.code (.loop c)::K) .normal φ σ :=
 .cE n I (λx=>kp φ ks++fr x) st d x b e a f g h round
end
inductive Tr where
 |nil
 |nd (l:Tr) (a b:Int) (r:Tr)
def nH(E:aj):Tr->ah->(Nat->Option Obj)->Prop
 |.nil,v,d=>v=.pointer af/\∀b,d b=af
 |.nd l a b r,v,d=>∃x e f cl cr,v=.pointer (aa ⟨x,0,af⟩)/\(bD .i64 a/\bD .i64 b)/\nH E l e cl/\nH E r f cr/\d x=aa (.cells #[.int .i64 a,.int .i64 b,e,f] E (0,0))/\cl x=af/\cr x=af /\
   (∀y o,cl y=aa o->cr y=af/\d y=aa o)/\(∀y o,cr y=aa o->d y=aa o)/\∀y o,d y=aa o->y=x∨cl y=aa o∨cr y=aa o
def nH.cell{E:aj}{t:Tr}{v:ah}{ch:Nat->Option Obj}(h:nH E t v ch):cN v=ab:=by
 cases t with
 |nil=>rw[h.1];rfl
 |nd=>obtain⟨_,_,_,_,_,rfl,_⟩:=h;rfl
section
variable {σ σ':List aR}{s s':St}
def aF.G2{T:Nat->Prop}(hh:aF σ s)(j:s'.w=s.w)(m:s'.M=s.M)(p:s'.own=s.own)(i:s'.β.length=σ'.length)(t:σ.length<=σ'.length)(out:∀l,l<σ.length->¬T l->σ'[l]?=σ[l]?/\s'.β[l]?=s.β[l]?)(n:∀(l:Nat) (L':Loc),(T l∨σ.length<=l)->s'.β[l]?=aa L'->∀b∈L'.bs,∃(k:Nat) (L:Loc),T k/\s.β[k]?=aa L/\b∈L.bs)(eO:∀(l l':Nat) (L L':Loc),(T l∨σ.length<=l)->(T l'∨σ.length<=l')->s'.β[l]?=aa L->s'.β[l']?=aa L'->∀b∈L.bs,b∈L'.bs->l=l')(box:∀l B L,T l->σ[l]?=aa B->s.β[l]?=aa L->∃B' L',σ'[l]?=aa B'/\s'.β[l]?=aa L'/\gI B L B' L')(ok:Ext σ s σ' s'->∀l B L,(T l∨σ.length<=l)->σ'[l]?=aa B->s'.β[l]?=aa L->eE σ' s' B L):aF σ' s'/\Step σ s σ' s':=by
 have hl:=hh.len;have q:∀(l:Nat) (B:aR) (L:Loc),σ[l]?=aa B->s.β[l]?=aa L->∃B' L',σ'[l]?=aa B'/\s'.β[l]?=aa L'/\gI B L B' L':=λl B L hB hL=>by
  by_cases h:T l
  .grind
  .obtain⟨h1,h2⟩:=out l (b6.1 hB).1 h;exact⟨B,L,h1.trans hB,h2.trans hL,.refl _ _⟩
 have ex:Ext σ s σ' s':=⟨λb o v h=>m▸h,q⟩
 have cls:∀(l:Nat) (L':Loc),s'.β[l]?=aa L'->(T l∨σ.length<=l)∨(l<σ.length/\¬T l/\s.β[l]?=aa L'):=λl L' h=>by grind
 have a:∀(l:Nat) (L':Loc),s'.β[l]?=aa L'->∀b∈L'.bs,∃(k:Nat) (L:Loc),s.β[k]?=aa L/\b∈L.bs:=λl L' h b d=>by grind
 have u:∀(l l':Nat) (L L':Loc),(T l∨σ.length<=l)->¬T l'->s'.β[l]?=aa L->s.β[l']?=aa L'->∀b∈L.bs,b∈L'.bs->False:=λl l' L L' h1 h2 hL fA b d f=>by obtain⟨k,K,g,q2,q3⟩:=n l L h1 hL b d;exact h2 (hh.eO k l' K L' q2 fA b q3 f▸g)
 refine⟨⟨λb o v h=>?_,i,λl B L hB hL=>?_,λl l' L L' hL fA b d f=>?_,λL hL b d=>?_,λb d=>?_⟩,⟨?_,?_,ex.mem,?_,λL' fA b d=>?_,q,?_,?_,?_,p⟩⟩
 .rw[m]at h;rw[j];exact hh.mem b o v h
 .rcases cls l L hL with h1|⟨h1,h2,y⟩
  .grind
  .rw[(out l h1 h2).1]at hB;exact(hh.box l B L hB y).carry ex hl λb _=>⟨by rw[j],λo=>by rw[m]⟩
 .rcases cls l L hL with h1|⟨_,h1,h2⟩<;>rcases cls l' L' fA with r|⟨_,r,x⟩
  .grind
  .grind
  .grind
  .exact hh.eO l l' L L' h2 x b d f
 .obtain⟨l,e,rfl⟩:=dG hL;obtain⟨k,K,g,q2⟩:=a l _ (br e) b d;rw[j];exact hh.lt K (bP g) b q2
 .rw[p]at d;refine⟨j▸(hh.own b d).1,λL hL NU=>?_⟩;obtain⟨l,e,rfl⟩:=dG hL;obtain⟨k,K,g,q2⟩:=a l _ (br e) b NU;exact(hh.own b d).2 K (bP g) q2
 .grind
 .grind
 .grind
 .obtain⟨l,e,rfl⟩:=dG fA;obtain⟨k,K,g,q2⟩:=a l _ (br e) b d;grind
 all_goals rw[j]
def aF.KY(hh:aF σ s){l:Nat}{B B':aR}{L L':Loc}{Bs:List aR}{a:List Loc}(hB:σ[l]?=aa B)(q:s.β[l]?=aa L)(g:gI B L B' L')(d:a.length=Bs.length)(sub:∀M∈L'::a,∀b∈M.bs,b∈L.bs)(n:(L'::a).Pairwise λM N=>∀b∈M.bs,b∉N.bs)(ok:∀s':St,s'.w=s.w->s'.M=s.M->s'.β=s.β.set l L'++a->eE (σ.set l B'++Bs) s' B' L'/\∀(i:Nat) (X:aR) (Y:Loc),Bs[i]?=aa X->a[i]?=aa Y->eE (σ.set l B'++Bs) s' X Y):
  aF (σ.set l B'++Bs) {s with β:=s.β.set l L'++a}/\Step σ s (σ.set l B'++Bs) {s with β:=s.β.set l L'++a}:=by
 have hl:=hh.len;have e:l<σ.length:=(b6.1 hB).1;have j:=jB.1 n;have at':∀(k:Nat) (K:Loc),(k=l∨σ.length<=k)->(s.β.set l L'++a)[k]?=aa K->(k=l/\K=L')∨(σ.length<=k/\a[k-σ.length]?=aa K):=λk K hk hK=>by grind
 refine aF.G2 (T:=λk=>k=l) hh rfl rfl rfl (by grind) (by simp) (λk hk hkl=>?_) (λk K hk hK y p=>?_) (λk k' K h hk U3 hK Zn y p m=>?_) (λk X K hk hX hK=>?_) (λex k X K hk hX hK=>?_)
 .grind
 .grind
 .rcases at' k K hk hK with⟨h1,rfl⟩|⟨h1,h2⟩<;>rcases at' k' h U3 Zn with⟨f,rfl⟩|⟨f,o⟩
  .omega
  .grind
  .grind
  .obtain⟨a1,a2⟩:=b6.1 h2;obtain⟨c1,c2⟩:=b6.1 o;grind[List.pairwise_iff_getElem]
 .grind
 grind
def zd:Tr->Nat->A
 |.nil,_=>.c .fz
 |.nd ..,n=>.ref n
def vY(E:aj):Tr->List aR
 |.nil=>[]
 |.nd l a b r=>[.cm (nH E (.nd l a b r))]
def Jy(bs:List Nat):Tr->ah->(Nat->Option Obj)->List Loc
 |.nil,_,_=>[]
 |.nd ..,v,c=>[⟨v,bs.filter λy=>(c y).isSome⟩]
def BV:Tr->Nat->List aR->List aR
 |.nil,_,σ=>σ
 |.nd ..,i,σ=>σ.set i .dead
def aF.KZ(hh:aF σ s){E:aj}{l:Nat}{lt rt:Tr}{a b:Int}(hB:σ[l]?=aa (.cm (nH E (.nd lt a b rt)))):
  ∃s',s'.w=s.w/\(∃x L,s.β[l]?=aa L/\L.v=.pointer (aa ⟨x,0,af⟩)/\s'.β[l]?=aa ⟨L.v,[x]⟩)/\aF (σ.set l (.cells E [.c (.int .i64 a),.c (.int .i64 b),zd lt σ.length,zd rt (σ.length+(vY E lt).length)])++(vY E lt++vY E rt)) s' /\
   Step σ s (σ.set l (.cells E [.c (.int .i64 a),.c (.int .i64 b),zd lt σ.length,zd rt (σ.length+(vY E lt).length)])++(vY E lt++vY E rt)) s':=by
 have z:l<σ.length:=(b6.1 hB).1;have m:l<s.β.length:=by rw[hh.len];grind
 have q:=br m;generalize s.β[l]=L at q;obtain⟨ch,⟨x,p,j,cl,g,e1,⟨R,G⟩,h1,h2,T,W,V,Q,h7,S⟩,I,f,Z⟩:=hh.box l _ L hB q;have t:=hh.len;have D:x∈L.bs:=(f x).2 (by grind);refine⟨{s with β:=s.β.set l ⟨.pointer (aa ⟨x,0,af⟩),[x]⟩++(Jy L.bs lt p cl++Jy L.bs rt j g)},rfl,⟨x,L,q,e1,?_⟩,hh.KY hB q (show _=_ from e1.symm) ?_ ?_ ?_ λs' hw d e=>?_⟩
 .grind
 .cases lt<;>cases rt<;>rfl
 .intro M d y n;rcases eB.1 d with rfl|d
  .grind
  .rcases fx.1 d with d|d
   .cases lt with
    |nil=>cases d
    |nd=>rw[Jy,fN]at d;grind
   .cases rt with
    |nil=>cases d
    |nd=>rw[Jy,fN]at d;grind
 .refine jB.2 ⟨λM d y n A=>?_,?_⟩
  .rw[fN]at n;subst n;rcases fx.1 d with d|d
   .cases lt with
    |nil=>cases d
    |nd=>rw[Jy,fN]at d;grind
   .cases rt with
    |nil=>cases d
    |nd=>rw[Jy,fN]at d;grind
  .cases lt<;>cases rt<;>simp only[Jy,mL,iD,sq,jB,List.Pairwise.nil,fN,forall_eq,ot,false_implies,implies_true,aE]
   grind[Option.isSome_iff_exists]
 .have F:∀y o,cl y=aa o->ch y=aa o:=λy o h=>(Q y o h).2;have U:eE (σ.set l (.cells E [.c (.int .i64 a),.c (.int .i64 b),zd lt σ.length,zd rt (σ.length+(vY E lt).length)])++(vY E lt++vY E rt)) s' (.cm (nH E lt)) ⟨p,L.bs.filter λy=>(cl y).isSome⟩ :=
   ⟨cl,h1,λy o h=>by grind,λy=>⟨λh=>(jS.1 h).2,λh=>jS.2 ⟨(f y).2 (by grind[Option.isSome_iff_exists]),h⟩⟩,λy n o=>by rw[d];grind⟩
  have b2:eE (σ.set l (.cells E [.c (.int .i64 a),.c (.int .i64 b),zd lt σ.length,zd rt (σ.length+(vY E lt).length)])++(vY E lt++vY E rt)) s' (.cm (nH E rt)) ⟨j,L.bs.filter λy=>(g y).isSome⟩ :=
   ⟨g,h2,λy o h=>by grind,λy=>⟨λh=>(jS.1 h).2,λh=>jS.2 ⟨(f y).2 (by grind[Option.isSome_iff_exists]),h⟩⟩,λy n o=>by rw[d];grind⟩
  have c1:=h1.cell;have c2:=h2.cell;have H:s'.w.heap[x]?=aa (.cells (List.toArray [.int .i64 a,.int .i64 b,p,j]) E (0,0)):=by grind
  have J:∀o,s'.M x o=af:=λo=>by rw[d];grind
  have r:∀k,(s.β.set l ⟨.pointer (aa ⟨x,0,af⟩),[x]⟩++(Jy L.bs lt p cl++Jy L.bs rt j g))[σ.length+k]?=(Jy L.bs lt p cl++Jy L.bs rt j g)[k]?:=λk=>by grind
  have e2:∀k,(σ.set l (.cells E [.c (.int .i64 a),.c (.int .i64 b),zd lt σ.length,zd rt (σ.length+(vY E lt).length)])++(vY E lt++vY E rt))[σ.length+k]?=(vY E lt++vY E rt)[k]?:=λk=>by grind
  refine⟨⟨x,_,rfl,H,⟨Rd.int R,Rd.int G,?_,?_,ay⟩,J⟩,?_⟩
  .cases lt with
   |nil=>rw[h1.1];exact Rd.fz
   |nd=>exact⟨λB hB=>by have O:=(e2 0).symm.trans hB;cases O;rfl,_,by rw[e];exact r 0,rfl,c1⟩
  .cases rt with
   |nil=>rw[h2.1];exact Rd.fz
   |nd =>
    cases lt with
    |nil=>exact⟨λB hB=>by rw[e2]at hB;cases hB;rfl,_,by rw[e];exact r 0,rfl,c2⟩
    |nd=>exact⟨λB hB=>by rw[e2]at hB;cases hB;rfl,_,by rw[e];exact r 1,rfl,c2⟩
  .intro i X Y u C;cases lt<;>cases rt<;>simp only[vY,Jy,mL,iD,sq,List.getElem?_nil]at u C
   .cases u
   .grind
   .grind
   grind
def ze(e:aF σ s){E:aj}{t:Tr}{i:Nat}{v:ah}(r:gB σ s v (zd t i))(hi:t≠.nil->σ[i]?=aa (.cm (nH E t))):
  ∃c bs,nH E t v c/\(∀y o,c y=aa o->s.w.heap[y]?=aa o)/\(∀y,y∈bs↔(c y).isSome=ab)/\(∀y∈bs,∀o,s.M y o=af)/\(match t with|.nil=>bs=[]|.nd ..=>s.β[i]?=aa ⟨v,bs⟩):=by
 cases t with
 |nil =>
  have r:Rd s.M v .fz:=r;cases r;exact⟨λ_=>af,[],⟨rfl,λ_=>rfl⟩,by simp,by simp,by simp,rfl⟩
 |nd =>
  obtain⟨_,L,a,rfl,_⟩:=r;obtain⟨c,b,f,q2,d⟩:=e.box i _ L (hi nofun) a;exact⟨c,L.bs,b,f,q2,d,a⟩
def SK:Tr->Nat->ah->List Loc->List Loc
 |.nil,_,_,a=>a
 |.nd ..,i,v,a=>a.set i ⟨v,[]⟩
def aF.jG(hh:aF σ s){E:aj}{l i j:Nat}{lt rt:Tr}{a b:Int}(hB:σ[l]?=aa (.cells E [.c (.int .i64 a),.c (.int .i64 b),zd lt i,zd rt j]))(hi:lt≠.nil->σ[i]?=aa (.cm (nH E lt)))(hj:rt≠.nil->σ[j]?=aa (.cm (nH E rt)))(F:lt≠.nil->rt≠.nil->i≠j):
  ∃s',s'.w=s.w/\(∃L,s.β[l]?=aa L/\∃L',s'.β[l]?=aa L'/\L'.v=L.v)/\aF (BV rt j (BV lt i (σ.set l (.cm (nH E (.nd lt a b rt)))))) s'/\Step σ s (BV rt j (BV lt i (σ.set l (.cm (nH E (.nd lt a b rt)))))) s':=by
 have Q:l<σ.length:=(b6.1 hB).1;have O:=hh.len;have A:l<s.β.length:=by omega
 have D:=br A;generalize s.β[l]=L at D;obtain⟨x,vs,rfl,h1,h2,h3⟩:=hh.box l _ L hB D
 match vs,h2 with
 |[W,V,q,p],⟨H,I,R,U,_⟩ =>
 obtain⟨cl,f,a1,a2,a3,a4,a5⟩:=ze hh R hi;obtain⟨r,g,d1,d2,d3,d4,d5⟩:=ze hh U hj;have H:Rd s.M W (.int .i64 a):=H;have I:Rd s.M V (.int .i64 b):=I;cases H with|int ra =>
 cases I with|int rb =>
 have xl:x∉f:=λh=>by
  cases lt with
  |nil=>grind
  |nd=>have:=hh.eO l i _ _ D a5 x (by simp) h;grind
 have xr:x∉g:=λh=>by
  cases rt with
  |nil=>grind
  |nd=>have:=hh.eO l j _ _ D d5 x (by simp) h;grind
 have lr:∀y∈f,y∉g:=λy h Y=>by
  cases lt with
  |nil=>grind
  |nd =>
   cases rt with
   |nil=>grind
   |nd=>exact F nofun nofun (hh.eO i j _ _ a5 d5 y h Y)
 have u:cl x=af:=by cases h:cl x with|none=>rfl|some o=>grind
 have C:r x=af:=by cases h:r x with|none=>rfl|some o=>grind
 have G:∀y o,cl y=aa o->r y=af:=λy o h=>by
  cases h2:r y with
  |none=>rfl
  |some o2=>grind
 have ok:∀(σ':List aR) (s':St),s'.w=s.w->s'.M=s.M->eE σ' s' (.cm (nH E (.nd lt a b rt))) ⟨.pointer (aa ⟨x,0,af⟩),x::(f++g)⟩:=λσ' s' hw Z=>by
  refine⟨λy=>if y=x then aa (.cells #[.int .i64 a,.int .i64 b,q,p] E (0,0))else(cl y).or (r y),⟨x,q,p,cl,r,rfl,⟨ra,rb⟩,a1,d1,bl rfl,u,C,λy o h=>⟨G y o h,?_⟩,λy o h=>?_,λy o h=>?_⟩,λy o h=>?_,λy=>?_,λy m o=>?_⟩
  .grind
  .have:y≠x:=by grind
   dsimp only;rw[aY this,h];cases h2:cl y with
   |none=>rfl
   |some o2=>grind
  .by_cases e:y=x
   .grind
   .dsimp only at h;rw[aY e]at h;cases h2:cl y with
    |none=>grind
    |some o2=>grind
  .rw[hw];by_cases e:y=x
   .grind
   .dsimp only at h;rw[aY e]at h;cases h2:cl y with
    |none=>grind
    |some o2=>grind
  .grind
  .rw[Z];grind
 refine⟨{s with β:=SK rt j p (SK lt i q (s.β.set l ⟨.pointer (aa ⟨x,0,af⟩),x::(f++g)⟩))},rfl,?_⟩
 classical
 have il:lt≠.nil->i<σ.length/\i≠l:=λh=>⟨(b6.1 (hi h)).1,λe=>by grind⟩
 have jl:rt≠.nil->j<σ.length/\j≠l:=λh=>⟨(b6.1 (hj h)).1,λe=>by grind⟩
 have n:s.β[l]?=aa ⟨.pointer (aa ⟨x,0,af⟩),[x]⟩:=D;let T:Nat->Prop:=λk=>k=l∨(lt≠.nil/\k=i)∨(rt≠.nil/\k=j);have z:∀k,(BV rt j (BV lt i (σ.set l (.cm (nH E (.nd lt a b rt))))))[k]?=if k=l then aa (.cm (nH E (.nd lt a b rt)))else if(lt≠.nil/\k=i)∨(rt≠.nil/\k=j)then aa .dead else σ[k]?:=λk=>by cases lt<;>cases rt<;>simp only[BV,List.getElem?_set,List.length_set]<;>grind
 have d:∀k,(SK rt j p (SK lt i q (s.β.set l ⟨.pointer (aa ⟨x,0,af⟩),x::(f++g)⟩)))[k]?=if k=l then aa ⟨.pointer (aa ⟨x,0,af⟩),x::(f++g)⟩else if rt≠.nil/\k=j then aa ⟨p,[]⟩else if lt≠.nil/\k=i then aa ⟨q,[]⟩else s.β[k]?:=λk=>by cases lt<;>cases rt<;>simp only[SK,List.getElem?_set,List.length_set]<;>grind
 have nt:∀(t:Tr) (i:Nat) (l:List aR),(BV t i l).length=l.length:=λt i l=>by cases t<;>simp[BV]
 have xx:∀(t:Tr) (i:Nat) (v:ah) (l:List Loc),(SK t i v l).length=l.length:=λt i v l=>by cases t<;>simp[SK]
 have eL:∀y∈f,lt≠.nil/\s.β[i]?=aa ⟨q,f⟩:=λy m=>by grind
 have eR:∀y∈g,rt≠.nil/\s.β[j]?=aa ⟨p,g⟩:=λy m=>by grind
 refine⟨⟨_,n,_,(d l).trans (bl rfl),rfl⟩,aF.G2 (T:=T) hh rfl rfl rfl (by grind) (by grind) (λk hk hT=>?_) (λk K hk hK y m=>?_) (λk k' K K' hk U3 hK Zn y m S=>?_) (λk B K hk kv hK=>?_) (λ_ k B K hk kv hK=>?_)⟩
 .grind
 .rw[d]at hK;split at hK
  .cases hK;rcases eB.1 m with rfl|m
   .grind
   .rcases fx.1 m with m|m
    .grind
    grind
  .have:k<s.β.length∨s.β.length<=k:=cM _ _;grind
 .rw[d]at hK Zn;grind
 .rw[z,d];rcases hk with rfl|⟨h,rfl⟩|⟨h,rfl⟩
  .rw[n]at hK;cases hK;rw[hB]at kv;cases kv;exact⟨_,_,bl rfl,bl rfl,rfl⟩
  .have J:s.β[k]?=aa ⟨q,f⟩:=by grind
   rw[hi h]at kv;rw[J]at hK;cases kv;cases hK;grind[gI]
  .have J:s.β[k]?=aa ⟨p,g⟩:=by grind
   rw[hj h]at kv;rw[J]at hK;cases kv;cases hK;grind[gI]
 .rw[z]at kv;rw[d]at hK;split at kv
  .grind
  .split at kv
   .cases kv;trivial
   grind
def tC:Tr->C
 |.nil=>.fz
 |.nd l a b r=>.rp [.int .i64 a,.int .i64 b,tC l,tC r]
def nH.rd{E:aj}{M:Mem}:∀{t:Tr}{v:ah}{ch:Nat->Option Obj},nH E t v ch->(∀y vs E' z,ch y=aa (.cells vs E' z)->∀o u,vs[o]?=aa u->M y o=aa u)->Rd M v (tC t)
 |.nil,_,_,h,_=>by rw[h.1];exact .fz
 |.nd l a b r,_,ch,⟨x,k,g,cl,B,e,⟨p,m⟩,h1,h2,n,_,_,f,i,_⟩,d=>by
  subst e;have q:=h1.rd (M:=M) λy vs E' z h=>d y vs E' z (f y _ h).2;have A:=h2.rd (M:=M) λy vs E' z h=>d y vs E' z (i y _ h);have w:=d x _ _ _ n;refine Rd.rp x 0 (λj=>[Value.int .i64 a,.int .i64 b,k,g].getD j ai) (λj c hj=>?_) (λj c hj=>?_)
  .match j,hj with
   |0,_|1,_|2,_|3,_=>grind
  .match j,hj with
   |0,hj=>cases hj;exact Rd.int p
   |1,hj=>cases hj;exact Rd.int m
   |2,hj=>grind
   |3,hj=>grind
def aF.AT(hh:aF σ s){E:aj}{l:Nat}{t:Tr}(hB:σ[l]?=aa (.cm (nH E t))):
  ∃s',s'.w=s.w/\s'.β=s.β/\(∀L,s.β[l]?=aa L->Rd s'.M L.v (tC t))/\aF (σ.set l .dead) s'/\Step σ s (σ.set l .dead) s':=by
 have m:l<σ.length:=(b6.1 hB).1;have i:=hh.len;have j:=br (show l<s.β.length by omega);generalize s.β[l]=L at j;obtain⟨ch,A,h1,h2,D⟩:=hh.box l _ L hB j;let M':Mem:=λy o=>match ch y with|some (.cells vs _ _)=>vs[o]?|_=>s.M y o
 have f:∀y,y∉L.bs->∀o,M' y o=s.M y o:=λy g o=>by grind
 have n:∀y o v,s.M y o=aa v->M' y o=aa v:=λy o v d=>by grind
 have st:Step σ s (σ.set l .dead) {s with M:=M'}:=by
  refine⟨bc _,λ_ _ _=>rfl,n,λy _ x o=>f y (x L (bP j)) o,λK b y g=>.inr ⟨K,b,g⟩,λk B K a b=>?_,rfl,rfl,rfl,rfl⟩;by_cases e:l=k
  .subst e;rw[hB]at a;cases a;exact⟨.dead,K,by grind,b,rfl⟩
  .exact⟨B,K,by grind,b,.refl _ _⟩
 refine⟨{s with M:=M'},rfl,rfl,λK b=>?_,⟨λy o v d=>?_,by grind,λk B K a b=>?_,hh.eO,hh.lt,hh.own⟩,st⟩
 .rw[j]at b;cases b;exact A.rd λy vs E' z g o u C=>by grind
 .by_cases g:y∈L.bs
  .have d:M' y o=aa v:=d;cases p:ch y with
   |none=>grind
   |some q =>
    have r:=h1 y q p;simp only[M',p]at d;split at d
    .rename_i vs E' z e;cases e;show s.w.cell? _=_;simp[aV,r,d]
    grind
  .exact hh.mem y o v ((f y g o).symm.trans d)
 .by_cases e:l=k
  .subst e;rw[gn m]at a;cases a;trivial
  .rw[kC e]at a;exact(hh.box k B K a b).carry st.ext i λy g=>⟨rfl,λo=>f y (λh=>e (hh.eO l k L K j b y h g)) o⟩
end
section
variable {P:ar}{X:Cx P}{N:Nat}{φ:Fr}{σ:List aR}{Qf:Post}{K:List It}{c:Code}
def cu.SL{σ':List aR}{s s':St}{a:Act}{t:Nat}{d:D}(f:cu N σ s φ a)(hl:s.β.length=σ.length)(st:Step σ s σ' s')(h:dt σ' s' (a.tmps.getD t ai) d):cu N σ' s' ((t,d)::φ) a :=
 ⟨f.size,f.defers.imp λ_ h1=>h1.mono st.ext,λu=>by
  simp only[look];cases b:aB t u with
  |false=>exact(f.slot u).mono st.ext hl
  |true=>grind[Nat.eq_of_beq_eq_true]⟩
def AK.KZ(t l:Nat){E:aj}{lt rt:Tr}{a b:Int}(k:look φ t=.e (.one (.ref l)))(hl:dC l σ=aa (.cm (nH E (.nd lt a b rt))))(kk:AK X N Qf (.code c::K) .normal ((t,.e (.one (.ptr l 0)))::φ) (σ.set l (.cells E [.c (.int .i64 a),.c (.int .i64 b),zd lt σ.length,zd rt (σ.length+(vY E lt).length)])++(vY E lt++vY E rt))):AK X N Qf (.code c::K) .normal φ σ:=by refine AK.ghost (λs q h hh=>?_) kk;have f:=h.slot t;rw[k]at f;obtain⟨_,L,o,j,_⟩:=f;obtain⟨s',h1,⟨x,p,h2,i,n⟩,m,g⟩:=hh.KZ (b9 hl);rw[o]at h2;cases h2;have d:l<σ.length:=(b6.1 (b9 hl)).1;refine⟨s',h1,h.SL hh.len g ⟨λB hB=>?_,_,x,n,i,j.trans i⟩,m,g⟩;rw[jy (by grind),gn d]at hB;cases hB;rfl
def AK.jG(t l i j:Nat){E:aj}{lt rt:Tr}{a b:Int}(p:look φ t=.e (.one (.ptr l 0)))(hl:dC l σ=aa (.cells E [.c (.int .i64 a),.c (.int .i64 b),zd lt i,zd rt j]))(hi:lt≠.nil->dC i σ=aa (.cm (nH E lt)))(hj:rt≠.nil->dC j σ=aa (.cm (nH E rt)))(g:lt≠.nil->rt≠.nil->i≠j)(kk:AK X N Qf (.code c::K) .normal ((t,.e (.one (.ref l)))::φ) (BV rt j (BV lt i (σ.set l (.cm (nH E (.nd lt a b rt))))))):AK X N Qf (.code c::K) .normal φ σ:=by
 refine AK.ghost (λs q o hh=>?_) kk;have m:=o.slot t;rw[p]at m;obtain⟨_,L,x,z,A,w⟩:=m;obtain⟨s',h1,⟨D,h2,L',y,C⟩,r,n⟩:=hh.jG (b9 hl) (λh=>b9 (hi h)) (λh=>b9 (hj h)) g;rw[z]at h2;cases h2;have f:l<σ.length:=(b6.1 (b9 hl)).1;have e:(BV rt j (BV lt i (σ.set l (.cm (nH E (.nd lt a b rt))))))[l]?=aa (.cm (nH E (.nd lt a b rt)))∨(BV rt j (BV lt i (σ.set l (.cm (nH E (.nd lt a b rt))))))[l]?=aa .dead:=by
  have v:(σ.set l (.cm (nH E (.nd lt a b rt))))[l]?=aa (.cm (nH E (.nd lt a b rt))):=gn f;have F:∀(u:Tr) (k:Nat) (d:List aR),d[l]?=aa (.cm (nH E (.nd lt a b rt)))∨d[l]?=aa .dead->(BV u k d)[l]?=aa (.cm (nH E (.nd lt a b rt)))∨(BV u k d)[l]?=aa .dead:=λu k d h=>by
   cases u with
   |nil=>exact h
   |nd=>simp only[BV,List.getElem?_set];grind
  grind
 refine⟨s',h1,o.SL hh.len n ⟨λB hB=>?_,L',y,?_,?_⟩,r,n⟩
 .rcases e with e|e<;>(rw[e]at hB;cases hB;rfl)
 .grind
 .rw[w];rfl
def AK.AT(t l:Nat){E:aj}{u:Tr}(g:look φ t=.e (.one (.ref l)))(hl:dC l σ=aa (.cm (nH E u)))(kk:AK X N Qf (.code c::K) .normal ((t,.e (.one (.c (tC u))))::φ) (dW.qV l .dead σ)):AK X N Qf (.code c::K) .normal φ σ:=by rw[jq]at kk;refine AK.ghost (λs q b hh=>?_) kk;have a:=b.slot t;rw[g]at a;obtain⟨_,L,j,f,_⟩:=a;obtain⟨s',h1,_,i,h,d⟩:=hh.AT (b9 hl);exact⟨s',h1,b.SL hh.len d (show Rd _ _ _ from f▸i L j),h,d⟩
end
section
variable {P:ar}{X:Cx P}
def Yields.sQ{ι:Type}{e:Nat}{ds:List D}{σ:List aR}{res:Bool}{σ1 rest:ι->List aR}(h:Yields X e ds σ res λi=>σ1 i++rest i)(hl:∀i,(σ1 i).length=σ.length)(g:∀i (l:Nat)(B:aR),(σ1 i)[l]?=aa B->Ew (σ1 i).length σ l B):Yields X e ds σ res σ1:=by
 intro s vs l f hh Ed;obtain⟨fn,tmps,a,b,h1,h2,k⟩:=h s vs l f hh Ed;refine⟨fn,tmps,a,b,h1,h2,λS c cs hS=>k S c cs λi s' jh st=>?_⟩;have m:eF s' (s'.cut (σ1 i).length):=⟨rfl,λ_ _ _ h=>h,λ_ _ _=>rfl,jh.mem,λb d=>d.imp id λ⟨L,j,d⟩=>⟨L,fM j,d⟩⟩
 exact .ghost m (hS i _ (hh.QD (hl i).symm (g i) jh) (st.drop (Nat.le_of_eq (hl i).symm)))
end
section
variable {P:ar}{X:Cx P}{N:Nat}{φ:Fr}{σ:List aR}{Qf:Post}{K:List It}{all rest:List au}
def AK.s9(t l:Nat){E:aj}{cs:List A}{cc:List C}(a:look φ t=.e (.one (.ptr l 0)))(hl:dC l σ=aa (.cells E cs))(b:gM cs=aa cc)(kk:AK X N Qf (.ops all rest::K) .normal ((t,.e (.one (.c (.rp cc))))::φ) (dW.qV l .dead σ)):AK X N Qf (.ops all rest::K) .normal φ σ:=by grind[jq,AK.KD,cu.freeze]
def oB.cons{φ φ':Fr}{t:Nat}{d:D}(h:look φ t=d)(r:oB φ φ'):oB φ ((t,d)::φ'):=by
 intro σ s v u a;simp only[look];cases b:aB t u with
 |false=>exact r _ _ _ _ a
 |true =>
  grind[Nat.eq_of_beq_eq_true]
end
section
variable {P:ar}{T:List (Nat×TI)}{o:au}{d:aq->D}{σ:List aR}
def bM.OT(hT:cW P T){t:aj}{x w y z:aq}(h:o.op=.slice t x (aa w) (aa y) (aa z)){L A:TI}{E:aj}(K:bG T t=aa L)(W:L.desc=.slice E)(U:bG T E=aa A){tt:Bool}{n:Nat}{es:Nat->List C}{B r u:IntKind}{i j m:Int}(V:∀s v,dt σ s v (d x)->Rd s.M v (.sl tt A.size n es))(hw:d w=.e (.one (.c (.int B i))))(hy:d y=.e (.one (.c (.int r j))))(Y:d z=.e (.one (.c (.int u m))))(R:0<=i)(S:i<=j)(h1:j<=m)(h2:m<=n):
  bM P o d σ (.e (.one (.c (.sl ae A.size (j.toNat-i.toNat) (mf i.toNat es))))) σ:=by
 refine .quiet λst ρ hh hr=>?_;have p:=V st _ (hr x);have get:∀(q:aq) (k:IntKind) (v:Int),d q=.e (.one (.c (.int k v)))->ρ q=.int k v:=λq k v I=>by have g:=hr q;rw[I]at g;replace g:=e9 g;generalize ρ q=vq at g;cases g;rfl
 have G:=get w B i hw;have F:=get y r j hy;have H:=get z u m Y;obtain⟨a,cap,vs,J,N,Z,ht,hF,hm⟩:=p.flat;rw[J]at p;have l:=(hT t L K).run_underlying (w:=st.w);rw[W]at l;have em:((m.toNat:Nat):Int)=m:=se (by omega);have ej:((j.toNat:Nat):Int)=j:=se (by omega);have Q:(bd ab n cap (aa (.int B i)) (aa (.int r j)) (aa (.int u m))).run P st.w=.ok (i.toNat,j.toNat,m.toNat) st.w:=by simp[bd,run_sliceBound (P:=P) st.w u m cap _ (by omega) (by omega),run_sliceBound (P:=P) st.w r j m.toNat _ (by omega) (by omega),run_sliceBound (P:=P) st.w B i j.toNat _ R (by omega)]
 have X:(bd ab n cap (aa (.int B i)) (aa (.int r j)) (aa (.int u m))).events P st.w #[]=#[]:=by simp[bd,run_sliceBound (P:=P) st.w u m cap _ (by omega) (by omega),run_sliceBound (P:=P) st.w r j m.toNat _ (by omega) (by omega),dO (P:=P) st.w u m cap _ (by omega) (by omega),dO (P:=P) st.w r j m.toNat _ (by omega) (by omega),dO (P:=P) st.w B i j.toNat _ R (by omega)]
 refine⟨.slice (if m.toNat=i.toNat then a else a.map (·.add (i.toNat*A.size))) (j.toNat-i.toNat) (m.toNat-i.toNat),?_,?_,by simp[aw,h,J,G,F,H,Instr.sliceAt,l,Instr.slice,Q,X]⟩
 .simp[aw,h,J,G,F,H,Instr.sliceAt,l,Instr.slice,Q,(hT E A U).run_sizeOf]
 .cases p with
  |sl b off f _ _ _ hk ha hm' NG =>
   refine Rd.sl b (off+i.toNat*A.size) (λq j=>f (i.toNat+q) j) (by omega) (by omega) (by simp) (λq I=>hk _ (by omega)) (λO=>?_) (λq I j c hj=>?_) (λq I j c hj=>NG _ (by omega) j c hj)
   .rw[aY (by omega),ha (by omega)];simp[du]
   .have:=hm' (i.toNat+q) (by omega) j c hj;grind
end
section
variable {P:ar}{X:Cx P}{N:Nat}{Q:Post}{φ:Fr}{σ:List aR}{e:Exit}
def NK(N:Nat)(Q:Post):Post:=λe φ σ=>∃φ' σ',(∀s a,cu N σ s φ a->aF σ s->∃s':St,s'.w=s.w/\cu N σ' s' φ' a/\aF σ' s'/\Step σ s σ' s')/\Q e φ' σ'
theorem NK.of(h:Q e φ σ):NK N Q e φ σ:=⟨φ,σ,λs a b hh=>⟨s,rfl,b,hh,.refl _ _⟩,h⟩
def NK.step{φ':Fr}{σ':List aR}(h:∀s a,cu N σ s φ a->aF σ s->∃s':St,s'.w=s.w/\cu N σ' s' φ' a/\aF σ' s'/\Step σ s σ' s')(k:NK N Q e φ' σ'):NK N Q e φ σ:=by obtain⟨b,σ2,h2,q⟩:=k;refine⟨b,σ2,λs a g hh=>?_,q⟩;obtain⟨j,e1,i,h1,c⟩:=h s a g hh;obtain⟨f,e3,m,l,d⟩:=h2 j a i h1;exact⟨f,e3.trans e1,m,l,c.trans d⟩
theorem NK.freeze(t l:Nat){E:aj}{cs:List A}{cc:List C}(b:look φ t=.e (.one (.ptr l 0)))(hl:dC l σ=aa (.cells E cs))(f:gM cs=aa cc)(k:NK N Q e ((t,.e (.one (.c (.rp cc))))::φ) (dW.qV l .dead σ)):NK N Q e φ σ:=by rw[jq]at k;exact .step (λs a d hh=>cu.freeze t l b hl f d hh) k
def jO.gh{c:Code}(h:jO X N c (NK N Q) φ σ):jO X N c Q φ σ:=by
 intro s a o hh b k cs S u i n;refine h s a o hh b k cs S u i λe p σ2 s2 a2 q m h2 mR=>?_;obtain⟨φ',σ',r,q⟩:=q;obtain⟨s',t,j,f,st⟩:=r s2 a2 m h2;have d:=st.nF h2;have g:=n e φ' σ' s' a2 q j f (mR.trans d);have l:eF s2 s':=.of h2 f t d;cases e<;>first
  |exact g.elim
  |exact .ghost l g
  |exactλpre=>.ghost l (g pre)
  |exactλpre hp=>.ghost l (g pre hp)
def jO.norm{c:Code}(φ':Fr)(σ':List aR){ps qs:List Prop}(h1:nV φ φ'=aa ps)(i:az ps)(h2:ph σ σ'=aa qs)(m:az qs)(k:jO X N c Q φ' σ'):jO X N c Q φ σ:=by intro s a l hh b kk cs S n g j;have d:=gD h2 m;have st:=(d s hh).2.1;exact k s a ((l.le (cD h1 i)).bs d hh) (d s hh).1 b kk cs S n g λe f σ2 s2 a2 q h h2 mR=>j e f σ2 s2 a2 q h h2 ((st.nF hh).trans mR)
def jO.EH{ι:Type}{f:aq}{ps:Array Tmp}{assign body:Code}{F:aJ}{capD:List D}{res:ι->D}{σ':ι->List aR}(d:∀s a,cu N σ s φ a->aF σ s->∃b:List ah,a.eval f=.func (.func F) #[] b.toArray/\cp σ s b capD)(c:ef X F (.e (.one (.ref σ.length))::capD) (σ++[.loop N φ {state:=.ready,pending:=af,fn:=0,tmps:=#[],params:=ps,assign:=assign,body:=body,defers:=0}]) res σ')(hk:∀i,∃r',(σ' i)[σ.length]?=aa (.loop N φ r')/\r'.state≠.busy/\∃e,GM r'.pending=aa e/\Q e φ ((σ' i).set σ.length .dead++[.qY])):jO X N (.rangeFunc f ps assign body) Q φ σ :=
 jO.rangeFunc (r':=λi=>(hk i).choose) d c (λi=>⟨(hk i).choose_spec.1,(hk i).choose_spec.2.1⟩) λi=>(hk i).choose_spec.2.2
def ef.OH{ι:Type}{f:aJ}{fn:Func}{c:Code}{args:List D}{σ':ι->List aR}{res:ι->D}(l:P.funcs[f]?=aa fn)(g:(fn.name== "runtime.NumGoroutine")=ae)(m:fn.body=aa c)(d:bA args.length fn.ntmps=ab)(h:jO X fn.ntmps c (NK fn.ntmps λe φ σ1=>∃j,rE P fn σ.length (res j) (σ' j) e φ σ1) (ji 0 args) σ):ef X f args σ res σ' :=
 ef.EI l g m (db d) λs a f i b k cs S hk OI hQ=>jO.gh h s a f i b k cs S hk OI hQ
def rE.cells{T:List (Nat×TI)}(hT:cW P T){fn:Func}{a:Nat}{res:D}{σ':List aR}(ks:List Nat){ps:List Prop}(h:HT T fn.results.toList ks φ res=aa ps)(d:az ps)(c:j3 ks σ=aa σ')(b:kJ σ'=ab)(f:dH ks=ab)(hk:∀j,j<a->ks[j]?=aa j):rE P fn a res σ' .ret φ σ:=by refine⟨.inl rfl,ks,?_⟩;unfold HT at h;grind[Am.U5]
end
def XL:A->Option ah
 |.c (.val v)=>aa v
 |_=>af
def Vj:List A->Option (List ah)
 |[]=>aa []
 |a::r=>match XL a with
  |some v=>match Vj r with
   |some q=>aa (v::q)
   |none=>af
  |none=>af
def XM:D->Option ah
 |.e (.one a)=>XL a
 |.e (.agg cs)=>match Vj cs with
  |some l=>aa (.agg l.toArray)
  |none=>af
 |_=>af
def HY:List D->Option (List ah)
 |[]=>aa []
 |a::r=>match XM a with
  |some v=>match HY r with
   |some q=>aa (v::q)
   |none=>af
  |none=>af
section
variable {P:ar}{X:Cx P}{N:Nat}{Qf:Post}{K:List It}{φ:Fr}{σ:List aR}{all rest:List au}{o:au}{s:St}
def Kf{v u:ah}:∀{a:A},gB σ s v a->XL a=aa u->v=u
 |.c (.val x),h,e=>by cases e;exact Rd.en h
theorem Kg:∀{cs:List A}{vs us:List ah},ei σ s vs cs->Vj cs=aa us->vs=us
 |[],[],us,_,e=>by cases e;rfl
 |[],_::_,_,h,_=>h.elim
 |_::_,[],_,h,_=>h.elim
 |a::r,v::vs,us,h,e=>by
  simp only[Vj]at e;cases b:XL a with
  |none=>grind
  |some x =>
   cases c:Vj r with
   |none=>grind
   |some q =>
    simp[b,c]at e;subst e;rw[Kf h.1 b,Kg h.2 c]
def Sf{v u:ah}:∀{d:D},dt σ s v d->XM d=aa u->v=u
 |.e (.one a),h,e=>Kf h e
 |.e (.agg cs),⟨vs,b,h⟩,e=>by simp only[XM]at e;grind[Kg]
def Az:∀{ds:List D}{vs us:List ah},cp σ s vs ds->HY ds=aa us->vs=us
 |[],[],us,_,e=>by cases e;rfl
 |[],_::_,_,h,_=>h.elim
 |_::_,[],_,h,_=>h.elim
 |a::r,v::vs,us,h,e=>by
  simp only[HY]at e;cases b:XM a with
  |none=>grind
  |some x =>
   cases c:HY r with
   |none=>grind
   |some q =>
    simp[b,c]at e;subst e;rw[Sf h.1 b,Az h.2 c]
def gw(P:ar)(N:Nat)(o:au)(φ:Fr)(σ:List aR)(f:aJ)(args:List ah):Prop:=∀s a,cu N σ s φ a->∀w,(aw a.eval o).run P w=(callFunc f args.toArray).run P w/\(aw a.eval o).events P w #[]=(callFunc f args.toArray).events P w #[]
def gw.direct{f:aJ}{xs:Array aq}{b:Array aj}{args:List ah}(h:o.op=.call {callee:=.value (.func f),args:=xs,argTypes:=b})(d:HY (xs.toList.map (bU φ))=aa args):gw P N o φ σ f args:=by
 intro s a g w;have h1:=Az (lX (dg g) xs.toList) d;have h2:xs.map a.eval=args.toArray:=by grind
 have c:a.eval (.func f)=.func (.func f) #[] #[]:=rfl;have e:aw a.eval o=callFunc f args.toArray:=by simp[aw,h,resolve,c,Deferred.ofValue,invoke,h2]
 grind
def gw.invoke{f:aJ}{x:aq}{j:Array aq}{h:Array aj}{name:String}{k:aj}{u r:ah}{args:List ah}(n:o.op=.call {callee:=.invoke x name,args:=j,argTypes:=h})(m:bU φ x=.e (.one (.c (.val (.iface k u)))))(p:HY (j.toList.map (bU φ))=aa args)(i:∀w,(Go.method (P.types.size+Made.depth) k u name).run P w=.ok (f,r) w/\∀es,(Go.method (P.types.size+Made.depth) k u name).events P w es=es):gw P N o φ σ f (r::args):=by
 intro s a l w;have g:=dg l x;rw[m]at g;have g:=Rd.en (e9 g);have h1:=Az (lX (dg l) j.toList) p;have b:∀w,(program:Sem ar).run P w=.ok P w:=λw=>by simp[program,Sem.run]
 have d:∀w es,(program:Sem ar).events P w es=es:=λw es=>by simp[program,Sem.events,Sem.runT]
 rw[pI n g,h1];constructor
 .simp[callMethod,b,(i w).1]
 .simp[callMethod,b,d,(i w).1,(i w).2]
structure lg(P:ar)(f:aJ)(e:Array ah->Sem ah):Prop where
 fn:∃fn,P.funcs[f]?=aa fn/\(fn.name== "runtime.NumGoroutine")=ae/\fn.body.isNone=ab/\Extern.findNext fn=af/\Extern.find fn=aa e
def lg.run{f:aJ}{e:Array ah->Sem ah}(h:lg P f e){args:Array ah}{w w':aA}{v:ah}(b:(e args).run P w=.ok v w'):(callFunc f args).run P w=.ok (.value v) w'/\∀es,(callFunc f args).events P w es=(e args).events P w (es.push ⟨.mark (.extern f),ae,ab⟩):=by
 obtain⟨fn,c,a,g,d,i⟩:=h.fn;have h1:fn.name≠ "runtime.NumGoroutine":=by grind
 have h2:fn.body=af:=by simpa using g
 constructor
 .rw[run_callFunc_extern c a g d i,b];rfl
 .intro es;simp[callFunc,c,h1,h2,d,i,b]
def ee.ext{ι:Type}{x:ι->D}{σ':ι->List aR}{f:aJ}{e:Array ah->Sem ah}{args:List ah}(m:gw P N o φ σ f args)(n:lg P f e)(h:∀s,aF σ s->∃i s' v,(e args.toArray).run P s.w=.ok v s'.w/\dt (σ' i) s' v (x i)/\aF (σ' i) s'/\Step σ s (σ' i) s'/\∀es,∀c∈(e args.toArray).events P s.w es,c∈es∨ox s c):ee P N o φ σ x σ':=by
 intro s a d hh;obtain⟨h1,h2⟩:=m s a d s.w;obtain⟨i,s',v,k,q2,q3,q4,g⟩:=h s hh;obtain⟨j,l⟩:=n.run k;refine⟨i,.value v,s',v,h1.trans j,.inl rfl,q2,q3,q4,λc b=>?_⟩;rw[h2,l]at b;rcases g _ c b with h|h
 .simp at h;subst h;exact .inr ⟨f,rfl⟩
 grind
def ee.ED{f:aJ}{e:Array ah->Sem ah}{args:List ah}{v:ah}{x:D}(c:gw P N o φ σ f args)(d:lg P f e)(b:∀w,(e args.toArray).run P w=.ok v w)(g:∀w es,(e args.toArray).events P w es=es)(a:∀s,dt σ s v x):ee P N o φ σ (λ_:Unit=>x) λ_=>σ :=
 .ext c d λs hh=>⟨(),s,v,b s.w,a s,hh,.refl _ _,λes ev h=>.inl (by grind)⟩
def ee.Kh{f:aJ}{e:Array ah->Sem ah}{args:List ah}{v:Nat->ah}{x:Nat->D}{E:aj}{u:ah}(n:gw P N o φ σ f args)(p:lg P f e)(j:∀w,(e args.toArray).run P w=.ok (v w.heap.size) (w.alloc (.cells #[u] E)))(q:∀w es,(e args.toArray).events P w es=es)(d:∀g σ s,dt σ s (v g) (x g)):
  ee P N o φ σ x λg=>σ++[.cm (dX g E u)] :=
 .ext n p λs hh=>by
  have st:Step σ s σ {s with w:=s.w.alloc (.cells #[u] E)}:=⟨by show _<=(s.w.heap.push _).size;simp,λb a _=>cR _ _ a,λ_ _ _ h=>h,λ_ _ _ _=>rfl,λL m b a=>.inr ⟨L,m,a⟩,λl B L h1 h2=>⟨B,L,h1,h2,.refl _ _⟩,rfl,rfl,rfl,rfl⟩
  have r:∀o,s.M s.w.heap.size o=af:=λo=>by
   cases c:s.M s.w.heap.size o with
   |none=>rfl
   |some v=>exact absurd (hh.block c) (Nat.lt_irrefl _)
  have h1:=(hh.grow (w':=s.w.alloc (.cells #[u] E)) (M':=s.M) (by simp) (λb a=>cR s.w _ a) (λb a o=>rfl) (λb a o v c=>by have:=hh.block c;omega) rfl rfl rfl).1;obtain⟨i,k⟩:=h1.ik (B:=.cm (dX s.w.heap.size E u)) (L:=⟨.pointer (aa ⟨s.w.heap.size,0,af⟩),[s.w.heap.size]⟩) st rfl hh
   ⟨λb=>if b=s.w.heap.size then aa (.cells #[u] E (0,0))else af,⟨rfl,by simp,λb a=>by grind⟩,λb o a=>by
    by_cases e:b=s.w.heap.size
    .subst e;simp only[cq]at a;grind[dT]
    grind,λb=>by by_cases e:b=s.w.heap.size<;>simp[e],λb a o=>by grind⟩
   (λb a=>by simp at a;subst a;exact⟨bc _,by show _<(s.w.heap.push _).size;simp⟩)
  exact⟨s.w.heap.size,_,_,j s.w,d _ _ _,i,k,λes ev h=>.inl (by grind)⟩
def dX.own{l g:Nat}{E:aj}{v:ah}(hl:dC l σ=aa (.cm (dX g E v)))(hh:aF σ s):s.w.heap[g]?=aa (.cells #[v] E (0,0))/\s.w.cell? ⟨g,0,af⟩=aa v/\(∀j,ox s ⟨.cell ⟨g,j,af⟩,ae,ae⟩)/\∀j,ox s ⟨.cell ⟨g,j,af⟩,ab,ae⟩:=by
 have hB:=b9 hl;have c:l<s.β.length:=by rw[hh.len];grind
 have a:=br c;generalize s.β[l]=L at a;obtain⟨ch,⟨h1,h2,i⟩,h,f,e⟩:=hh.box l _ L hB a;have d:=h g _ h2;have b:g∈L.bs:=(f g).2 (by grind);exact⟨d,by simp[aV,d],λj=>j0 (bP a) b,λj=>jX (bP a) b (e g b _)⟩
def dX.jM{l g:Nat}{E:aj}{v u:ah}(hl:dC l σ=aa (.cm (dX g E v)))(hh:aF σ s):aF (σ.set l (.cm (dX g E u))) {s with w:=s.w.setRow g #[u]}/\Step σ s (σ.set l (.cm (dX g E u))) {s with w:=s.w.setRow g #[u]}:=by
 have hl:=b9 hl;have f:l<s.β.length:=by rw[hh.len];grind
 have i:=br f;generalize s.β[l]=L at i;obtain⟨ch,⟨h1,h2,p⟩,c,h,n⟩:=hh.box l _ L hl i;have m:g∈L.bs:=(h g).2 (by grind);have e:=c g _ h2;have d:∀a,a≠g->(s.w.setRow g #[u]).heap[a]?=s.w.heap[a]?:=λa b=>setRow_other s.w g a _ b;have k:=setRow_heap s.w g #[v] #[u] E (0,0) e;have j:s.β.set l L=s.β:=by apply iY;grind
 have q:=hh.jM (l:=l) (H':=dX g E u) (L':=L) (w':=s.w.setRow g #[u]) hl i rfl (by simp)
  (λa b r=>d a (by grind)) (λa b=>.inl b)
  ⟨λa=>if a=g then aa (.cells #[u] E (0,0))else af,⟨h1,by simp,λa b=>by grind⟩,λa o b=>by
   grind,λa=>by grind⟩ rfl rfl rfl
 grind
def ee.QH{f:aJ}{e:Array ah->Sem ah}{args:List ah}{v u:ah}{x:D}(l:Nat){g:Nat}{E:aj}(hl:dC l σ=aa (.cm (dX g E u)))(k:gw P N o φ σ f args)(m:lg P f e)(c:∀w,w.cell? ⟨g,0,af⟩=aa u->(e args.toArray).run P w=.ok v w/\∀es,∀a∈(e args.toArray).events P w es,a∈es∨a=⟨.cell ⟨g,0,af⟩,ae,ae⟩)(b:∀s,dt σ s v x):ee P N o φ σ (λ_:Unit=>x) λ_=>σ :=
 .ext k m λs hh=>by obtain⟨_,i,q2,_⟩:=dX.own hl hh;obtain⟨d,j⟩:=c s.w i;exact⟨(),s,v,d,b s,hh,.refl _ _,λes a h=>(j es a h).imp id λn=>by grind⟩
def ee.Sg{f:aJ}{e:Array ah->Sem ah}{args:List ah}{v u w0:ah}{x:D}(l p:Nat){g c:Nat}{E E2:aj}(hl:dC l σ=aa (.cm (dX g E w0)))(b:dC p σ=aa (.cm (dX c E2 u)))(r:gw P N o φ σ f args)(t:lg P f e)(i:∀w,w.heap[g]?=aa (.cells #[w0] E (0,0))->w.cell? ⟨c,0,af⟩=aa u->(e args.toArray).run P w=.ok v (w.setRow g #[u])/\∀es,∀a∈(e args.toArray).events P w es,a∈es∨a=⟨.cell ⟨c,0,af⟩,ae,ae⟩∨a=⟨.cell ⟨g,0,af⟩,ab,ae⟩)(d:∀σ s,dt σ s v x):ee P N o φ σ (λ_:Unit=>x) λ_=>σ.set l (.cm (dX g E u)) :=
 .ext r t λs hh=>by obtain⟨j,_,_,p4⟩:=dX.own hl hh;obtain⟨_,q,q2,_⟩:=dX.own b hh;obtain⟨m,y⟩:=i s.w j q;obtain⟨k,n⟩:=dX.jM (u:=u) hl hh;refine⟨(),_,v,m,d _ _,k,n,λes a h=>?_⟩;grind
def AK.oY{ι:Type}{x:ι->D}{σ':ι->List aR}(m:rf all φ o=ab)(A:gg N o.dst=ab)(h:ee P N o φ σ x σ')(k:∀i,AK X N Qf (.ops all rest::K) .normal (kH o.dst (x i) φ) (σ' i)):AK X N Qf (.ops all (o::rest)::K) .normal φ σ:=by
 intro s a f hh b kk cs S idx hb jE hQ;cases idx with
 |nil=>exact jE.elim
 |cons j idx =>
 refine rK hb jE.1 (fD m _ _ _ f) λy d=>?_;have c:=hh.rely d;have l:=f.rely d hh;obtain⟨i,B,s',v,h1,h2,z,p,n,u⟩:=h y a l c;have e:=n.nF c;refine⟨B,s',v,h1,h2,⟨⟨σ,σ' i,c,p,n⟩,u⟩,?_⟩;refine k i s' _ ?_ p b kk cs S idx hb jE.2 λg σ2 s2 a2 q r h2 st=>hQ g σ2 s2 a2 q r h2 ((d.stepW.trans e).trans st);cases w:o.dst with
 |none=>exact l.mono e c.len
 |some t=>exact(l.mono e c.len).put (gK A t w) z
def AK.Si(t:Nat){T:aj}{cs:List C}{c:Code}(h:look φ t=.e (.one (.c (.ifs T (.rp cs)))))(kk:∀p:Addr,AK X N Qf (.code c::K) .normal ((t,.e (.one (.v (.iface T (.pointer (aa p))))))::φ) σ):AK X N Qf (.code c::K) .normal φ σ:=by
 refine AW.tO (ι:=Addr) (φ':=λp=>(t,.e (.one (.v (.iface T (.pointer (aa p))))))::φ) (σ':=λ_=>σ) (λs a d hh=>?_) kk;have h1:=d.slot t;rw[h]at h1;have h1:=e9 h1;generalize g:a.tmps.getD t ai=v at h1;cases h1 with
 |@ifs _ u _ h2 hc =>
  cases h2 with
  |rp b off f k j =>
   refine⟨⟨b,off,af⟩,s,rfl,⟨d.size,d.defers,λu=>?_⟩,hh,.refl _ _⟩;simp only[look];cases i:aB t u with
   |false=>exact d.slot u
   |true =>
    have e:=bX i;subst e;rw[g];exact Rd.val rfl
def AK.QI(t:Nat){T:aj}{x:ah}(b:look φ t=.e (.one (.c (.ifs T (.val x)))))(kk:AK X N Qf (.ops all rest::K) .normal ((t,.e (.one (.v (.iface T x))))::φ) σ):AK X N Qf (.ops all rest::K) .normal φ σ:=by
 refine iw.le kk λσ s v u a=>?_;simp only[look];cases d:aB t u with
 |false=>exact a
 |true =>
  have e:=bX d;subst e;rw[b]at a;have h1:Rd s.M v (.ifs T (.val x)):=a;cases h1 with
  |@ifs _ f _ h2 hc =>
   obtain rfl:=Rd.en h2;exact Rd.val rfl
def AK.GF(t l:Nat){E:aj}{c:Code}(r:look φ t=.e (.one (.ptr l 0)))(hl:dC l σ=aa (.cells E [.c .fz]))(kk:∀g,AK X N Qf (.code c::K) .normal ((t,.e (.one (.v (.pointer (aa ⟨g,0,af⟩)))))::φ) (σ.set l (.cm (dX g E (.pointer af))))):AK X N Qf (.code c::K) .normal φ σ:=by
 refine AW.tO (ι:=Nat) (φ':=λg=>(t,.e (.one (.v (.pointer (aa ⟨g,0,af⟩)))))::φ) (σ':=λg=>σ.set l (.cm (dX g E (.pointer af)))) (λs a k hh=>?_) kk;have hl:=b9 hl;have i:l<s.β.length:=by rw[hh.len];grind
 have j:=br i;generalize s.β[l]=L at j;obtain⟨g,vs,rfl,A,n,y⟩:=hh.box l _ L hl j
 match vs,n with
 |[v],⟨m,_⟩ =>
  have m:Rd s.M v .fz:=m;cases m;obtain⟨x,q2⟩:=hh.gJ (M':=s.M) (w':=s.w) (B':=.cm (dX g E (.pointer af))) (L':=⟨.pointer (aa ⟨g,0,af⟩),[g]⟩) hl j rfl (bc _) (λ_ _ _=>rfl) (λ_ _ _ _=>rfl) (λ_ _ _ h=>h) hh.mem (λb d=>⟨.inl d,hh.lt _ (bP j) b d⟩) rfl rfl rfl
   ⟨λb=>if b=g then aa (.cells #[.pointer af] E (0,0))else af,⟨rfl,by simp,λb d=>by grind⟩,λb o d=>by
    grind,λb=>by by_cases e:b=g<;>simp[e],λb d o=>by grind⟩
  refine⟨g,{s with β:=s.β.set l ⟨.pointer (aa ⟨g,0,af⟩),[g]⟩},rfl,⟨k.size,k.defers.imp λ_ h1=>h1.mono q2.ext,λu=>?_⟩,x,q2⟩;simp only[look];cases d:aB t u with
  |false=>exact(k.slot u).mono q2.ext hh.len
  |true =>
   have e:=bX d;subst e;have h1:=k.slot t;rw[r]at h1;obtain⟨_,z,B,f,p,q⟩:=(h1:gB σ s _ (.ptr l 0));rw[j]at f;cases f;cases p;rw[q];exact Rd.val rfl
end
def aF.Cl{σ1:List aR}{s:St}{E:aj}{k n:Nat}{bf:nD}{xs:List ah}{es:Nat->List C}(hh:aF (σ1++[.cm (gf E k bf n xs)]) s)(e:gy k n es xs)(l:sK σ1.length σ1=ab):
  ∃s2:St,aF σ1 s2/\eF s s2/\Rd s2.M (lA bf n) (.sl ae k n es)/\∀{σ0:List aR} {s0:St},cY σ0 s0 (σ1++[.cm (gf E k bf n xs)]) s->σ0.length<=σ1.length->cY σ0 s0 σ1 s2:=by
 have hB:(σ1++[aR.cm (gf E k bf n xs)])[σ1.length]?=aa (.cm (gf E k bf n xs)):=by simp
 obtain⟨L,M',r,q,p,m,B,u⟩:=gf.Ce hB es (λi hi=>⟨e.wid i hi,λM j c x hj hx=>by
  obtain⟨y,A,z⟩:=e.at' i hi j c hj
  grind⟩) s hh
 obtain⟨t,q2⟩:=hh.gJ (M':=M') (w':=s.w) (B':=.dead) (L':=⟨L.v,[]⟩) hB r rfl (bc _) (λ_ _ _=>rfl) (λb _ a o=>p b a o) q m (by simp) rfl rfl rfl ay;have d:(σ1++[aR.cm (gf E k bf n xs)]).set σ1.length .dead=σ1++[.dead]:=by simp
 rw[d]at t q2;refine⟨_,t.drop (rest:=[.dead]) l,⟨rfl,q,λb a o=>p b (a L (bP r)) o,m,λb a=>?_⟩,u,λ{σ0 s0} h g=>(h.trans (q2.nF hh)).drop (rest:=[.dead]) g⟩;rcases a with a|⟨L',f,a⟩
 .exact .inl a
 .have h1:=fM f;grind
def ef.Cl{P:ar}{ι:Type}{X:Cx P}{f:aJ}{args:List D}{σ:List aR}{σ1:ι->List aR}{E k:Nat}{n:ι->Nat}{bf:ι->nD}{xs:ι->List ah}{es:ι->Nat->List C}(h:ef X f args σ (λi=>.e (.one (.v (lA (bf i) (n i))))) (λi=>σ1 i++[.cm (gf E k (bf i) (n i) (xs i))]))(b:∀i,gy k (n i) (es i) (xs i))(d:∀i,sK (σ1 i).length (σ1 i)=ab)(a:∀i,σ.length<=(σ1 i).length):ef X f args σ (λi=>.e (.one (.c (.sl ae k (n i) (es i))))) σ1:=by refine⟨h.1,λs vs hr hh S cs hS=>h.2 s vs hr hh S cs λi fr v s' hl mJ jh st=>?_⟩;obtain⟨s2,c1,c2,c3,c4⟩:=jh.Cl (b i) (d i);have g:v=lA (bf i) (n i):=Rd.en mJ;exact .ghost c2 (hS i fr v s2 (hl.mono c2.mem) (by rw[g];exact c3) c1 (c4 st (a i)))
section
open Go.Conc
def gX(s:St):Prop:=∀b o v,s.M b o=aa v->s.w.cell? ⟨b,o,af⟩=aa v
def mc(c:Nat->Prop):Go.Loc->Prop
  | .cell a=>c a.block
  | .obj r=>c r
  | _=>False
structure Clear(c:Nat->Prop)(s:St):Prop where
  own:∀b,c b->¬s.own b
  β:∀b,c b->∀L∈s.β,b∉L.bs
  M:∀b,c b->∀o,s.M b o=af
  lt:∀b,c b->b<s.w.heap.size
section
variable {c:Nat->Prop}{s s':St}
def Clear.step{σ σ':List aR}(h:Clear c s)(st:Step σ s σ' s'):Clear c s':=by
  refine⟨λb a=>by rw[st.own];exact h.own b a,λb a L f d=>?_,λb a o=>by rw[st.je b (h.lt b a) (h.β b a)];exact h.M b a o,λb a=>c7 (h.lt b a) st.size⟩;rcases st.vK L f b d with h1|⟨e,g,h1⟩
  · exact absurd (h.lt b a) (mN.2 h1)
  · exact h.β b a e g h1
theorem Clear.ghost(h:Clear c s)(k:eF s s'):Clear c s':=by
  have f:∀b,c b->¬(s'.own b∨∃L∈s'.β,b∈L.bs):=λb a e=>by
    rcases k.blk b e with e|⟨L,d,e⟩
    · exact h.own b a e
    · exact h.β b a L d e
  exact⟨λb a e=>f b a (.inl e),λb a L d e=>f b a (.inr ⟨L,d,e⟩),λb a o=>by rw[k.je b (h.β b a)];exact h.M b a o,λb a=>by rw[k.w];exact h.lt b a⟩
def Clear.forget(h:Clear c s)(k:nn s s'):Clear c s':=by
  refine⟨λb a=>by rw[k.own];exact h.own b a,λb a=>by rw[k.β];exact h.β b a,λb a o=>?_,λb a=>by rw[k.w];exact h.lt b a⟩;cases e:s'.M b o with
  | none=>rfl
  | some v=>rw[<-k.less b o v e,h.M b a o]
def Clear.at(h:Clear c s)(d:Nat):Clear c {s with w:=s.w.at d}:=⟨h.own,h.β,h.M,h.lt⟩
def gX.at(h:gX s)(d:Nat):gX {s with w:=s.w.at d}:=h
theorem gX.ghost(k:eF s s'):gX s':=λb o v a=>by rw[k.w];exact k.cell b o v a
def gX.forget(h:gX s)(k:nn s s'):gX s':=λb o v a=>by rw[k.w];exact h b o v (k.less b o v a)
def gX.lt(h:gX s){b o:Nat}{v:ah}(a:s.M b o=aa v):b<s.w.heap.size:=by
  have:=h b o v a;rcases cM b s.w.heap.size with h1|h1
  · exact h1
  · simp[aV,zY h1]at this
def cv.at(h:gX s)(d:Nat):cv s {s with w:=s.w.at d}:=⟨rfl,rfl,rfl,bc _,λ_ _=>rfl,h,rfl,rfl,rfl⟩
def RK{σ:List aR}{e:Event}(l:aF σ s)(n:Clear c s)(i:ox s e){B:Nat}(hB:s.w.heap.size<=B):EvL (mc c) B e:=by
  obtain⟨k,wr,p⟩:=e;cases k with
  | cell a =>
    obtain⟨g,j,b⟩:=i;simp only at g j b;subst g;have key:¬c a.block/\a.block<s.w.heap.size:=by
      rcases b with b|⟨⟨L,h,b⟩,_⟩|⟨_,v,b⟩
      · exact b.elim
      · exact⟨λx=>n.β _ x L h b,l.lt L h _ b⟩
      · refine⟨λx=>?_,gX.lt l.mem b⟩
        rw[n.M _ x]at b;cases b
    exact evL_cell a wr key.1 (c7 key.2 hB)
  | obj r =>
    obtain⟨g,j⟩:=i;simp only at g j;subst g;obtain⟨L,h,b⟩:=j.resolve_left id;refine⟨λx d o=>?_,by simp,by simp,?_⟩
    · simp[aK,MemAct.touch?]at d
      subst d;exact absurd b (n.β _ o L h)
    · simp[aK,MemAct.low,Loc.low]
      exact c7 (l.lt L h _ b) hB
  | mark m =>
    simp only[ox]at i;rcases i with rfl|⟨f,rfl⟩
    · exact⟨λx d=>by simp[aK,MemAct.touch?]at d,by simp,by simp,by simp[aK,MemAct.low]⟩
    · exact⟨λx d=>by simp[aK,MemAct.touch?]at d,by simp,by simp,by simp[aK,MemAct.low]⟩
  | _=>exact i.elim
end
def sF(t:Trace):Prop:=∀a,NoRelease a t
def sF.app{t:Trace}(h:sF t){g:Nat}{fn:aJ}{pos:String}{es:Array Event}(b:∀e∈es,∀a,e.loc≠.mark (.release a)):sF (t++MemOp.ofEvents g fn pos es) :=
  λa=>(h a).app λop mP hx=>by grind[Go.Conc.mem_ofEvents,Go.ConcR.loc_of_ofEvent]
def En{s:St}{e:Event}(d:ox s e)(a:Addr):e.loc≠.mark (.release a):=by intro b;obtain⟨loc,wr,g⟩:=e;simp only at b;subst b;rcases d with h|⟨f,h⟩<;>cases h
def wv{e:Event}(d:e.mute=ab)(a:Addr):e.loc≠.mark (.release a):=by intro b;obtain⟨loc,wr,f⟩:=e;simp only at b;subst b;simp[Event.mute]at d
def UR(P:ar)(g:av)(s:St)(T:av->St->Prop):Prop :=
  ∀(c:Nat->Prop) (gs:Array av) (sl:Option (Nat×Nat)) (t:Trace) (q:Nat->Nat),gX s->gs[0]?=aa g->Leavers P t gs q->Past (mc c) s.w.heap.size t->Clear c s->sF t ->
    ∃(N:Nat) (b:Nat->Prop) (a:Array av) (g':av) (s':St) (e:Option (Nat×Nat)) (d:Trace) (f:Nat->Nat),
      runNT P N (crowd gs s.w sl) t=(.next (crowd a s'.w e),d)/\gX s'/\a[0]?=aa g'/\Leavers P d a f/\Past (mc b) s'.w.heap.size d/\Clear b s'/\sF d/\T g' s'
def Cx.beside(P:ar):Cx P:={main:=ab,rely:=λs s'=>cv s s'/\∃d,s'={s with w:=s.w.at d},yv:=UR P,iH:=λh=>h.1,B4:=True}
instance (P:ar):(Cx.beside P).hU:=⟨ay⟩
theorem runNT_add{P:ar}:∀(N M:Nat) {m a:Machine} {t b:Trace},runNT P N m t=(.next a,b)->runNT P (N+M) m t=runNT P M a b
  | 0,M,m,a,t,b,h=>by simp[runNT]at h;grind
  | N+1,M,m,a,t,b,h=>by
    rw[show N+1+M=(N+M)+1 by omega];simp only[runNT]at h⊢;cases d:stepT P m with
    | mk r ops =>
      rw[d]at h;cases r with
      | next m1=>exact runNT_add N M h
      | ended o w=>grind
def fL.beside{P:ar}{S:av->St->Prop}{g:av}{s:St}(h:fL (Cx.beside P) S g s):UR P g s S:=by
  induction h with
  | stop h=>intro c gs sl t q C p m r u F;exact⟨0,c,gs,_,_,sl,t,q,rfl,C,p,m,r,u,F,h⟩
  | ghost hg _ H =>
    intro c gs sl t q C p m r u F;have:=H c gs sl t q (.ghost hg) p m (by rw[hg.w];exact r) (u.ghost hg) F
    rwa [hg.w]at this
  | forget _ hg _ H =>
    intro c gs sl t q C p m r u F;have:=H c gs sl t q (C.forget hg) p m (by rw[hg.w];exact r) (u.forget hg) F
    rwa [hg.w]at this
  | yv hj _ H =>
    intro c gs sl t q C p m r u F;obtain⟨N,l,b,g',s',f,D,K,h1,h2,h3,h4,h5,h6,Z,h7⟩:=hj c gs sl t q C p m r u F;obtain⟨M,Sh2,gs2,g2,s2,sl2,t2,q2,k1,O⟩:=H g' s' h7 l b f D K h2 h3 h4 h5 h6 Z;exact⟨N+M,Sh2,gs2,g2,s2,sl2,t2,q2,by grind[runNT_add],O⟩
  | @step g s Y ns ne hr h1 h2 _ H =>
    intro c gs sl t q;have key:∀(n:Nat) (gs:Array av) (d:Nat) (sl:Option (Nat×Nat)) (t:Trace) (q:Nat->Nat),Go.ConcN.sumTo gs.size q<=n->gX s->gs[0]?=aa g->Leavers P t gs q->Past (mc c) s.w.heap.size t->Clear c s->sF t ->
        ∃(N:Nat) (l:Nat->Prop) (b:Array av) (g':av) (s':St) (f:Option (Nat×Nat)) (D:Trace) (K:Nat->Nat),
          runNT P N (crowd gs (s.w.at d) sl) t=(.next (crowd b s'.w f),D)/\gX s'/\b[0]?=aa g'/\Leavers P D b K/\Past (mc l) s'.w.heap.size D/\Clear l s'/\sF D/\S g' s':=by
      intro n;induction n with
      | zero=>?_
      | succ n ihn=>?_
      all_goals
        intro gs d sl t q F C p m r u E;have haw:∀g∈gs,awake g:=by
          intro x hx;obtain⟨i,hi,rfl⟩:=Array.mem_iff_getElem.1 hx;rcases nj i with rfl|A
          · grind[awake_of]
          · exact awake_of ((m.old i _ A (gm hi)).status.elim .inl λx=>.inr (.inr x))
        obtain⟨i,x,d2,f,hi,hg,I⟩:=crowd_pick (P:=P) (w:=s.w.at d) (sl:=sl) haw ⟨0,g,p,hr⟩;rw[show(s.w.at d).at d2=s.w.at d2 from rfl]at I;rcases nj i with rfl|A
        · obtain rfl:x=g:=by grind
          have v:(Cx.beside P).rely s {s with w:=s.w.at d2}:=⟨cv.at C d2,d2,rfl⟩;have hgo:=h1 _ v;obtain⟨⟨σ,σ',hh,jh,st⟩,R⟩:=h2 _ v;have o:=runT_crowd_go (P:=P) (sl:=f) (i:=0) hi (show aH P (0==0) x (s.w.at d2)=_ from hgo)
          have B5:((gs.map (woken P x (Y {s with w:=s.w.at d2}) (ns {s with w:=s.w.at d2}).w)).setIfInBounds 0 (Y {s with w:=s.w.at d2})).size=gs.size:=by simp
          have X:0<gs.size:=(iA.1 p).1;have Q:Clear c {s with w:=s.w.at d2}:=u.at d2;obtain⟨N,l,b,g',s',B,D,K,k1,O⟩:=H _ v c ((gs.map (woken P x (Y {s with w:=s.w.at d2}) (ns {s with w:=s.w.at d2}).w)).setIfInBounds 0 (Y {s with w:=s.w.at d2})) f
            (t++MemOp.ofEvents 0 x.frame.fn x.frame.place (ne {s with w:=s.w.at d2})) q jh.mem (by grind)
            ⟨λj y hj hy=>by
              have B6:0≠j:=by omega
              rw[wq B6,Array.getElem?_map]at hy;obtain⟨z,hz,rfl⟩:=rz.1 hy;have G:=m.old j z hj hz;rw[woken_quitsD G,Deaf_other t (by omega) _ (λop mP=>by grind[Go.Conc.mem_ofEvents])];exact G,λj hj=>by
              rw[Deaf_other t (g':=0) (by grind) _ (λop mP=>by grind[Go.Conc.mem_ofEvents])]
              exact m.above j (by grind)⟩
            ((r.mono st.size).own λe V=>RK hh Q (R e V) st.size) (Q.step st) (E.app λe V a=>En (R e V) a)
          exact⟨N+1,l,b,g',s',B,D,K,by simp only[runNT,I,o];exact k1,O⟩
        · have G:=m.old i x A hi
          have Yd:(i==0)=ae:=by grind
          have X:i<gs.size:=(iA.1 hi).1;cases L:q i with
          | zero=>rw[L]at G;rw[G.1]at hg;cases hg
          | succ k =>
            rw[L]at G;rcases G with⟨hf,_⟩|⟨_,g',es,U,W,hq'⟩
            · grind
            have ack:Go.ConcN.sumTo gs.size (Go.ConcN.upd q i k)+(k+1)=Go.ConcN.sumTo gs.size q+k:=by have:=Go.ConcN.sumTo_upd q k id X;simpa[L]using this
            first
            | (exfalso;omega)
            | (have o:=runT_crowd_go (P:=P) (sl:=f) (i:=i) hi (by rw[Yd];exact W (s.w.at d2))
               have B5:((gs.map (woken P x g' (s.w.at d2))).setIfInBounds i g').size=gs.size:=by simp
               obtain⟨N,l,b,g2,s',B,D,K,k1,O⟩:=ihn ((gs.map (woken P x g' (s.w.at d2))).setIfInBounds i g') d2 f (t++MemOp.ofEvents i x.frame.fn x.frame.place es) (Go.ConcN.upd q i k) (by grind) C
                (by grind[woken_run])
                ⟨λj y hj hy=>by
                  by_cases J:i=j
                  · grind[Go.ConcN.upd_same,Deaf_own]
                  · rw[wq J,Array.getElem?_map]at hy
                    obtain⟨z,hz,rfl⟩:=rz.1 hy;have T:=m.old j z hj hz;rw[woken_quitsD T,Go.ConcN.upd_ne q k (Ne.symm J),Deaf_other t J _ (λop mP=>by grind[Go.Conc.mem_ofEvents])];exact T,λj hj=>by
                  rw[Deaf_other t (g':=i) (by grind) _ (λop mP=>by grind[Go.Conc.mem_ofEvents])]
                  exact m.above j (by grind)⟩
                (r.mute (by omega) U) u (E.app λe V a=>wv (U e V) a)
               exact⟨N+1,l,b,g2,s',B,D,K,by simp only[runNT,I,o];exact k1,O⟩)
    intro C p m r u E;have:=key _ gs s.w.drawn sl t q (bc _) C p m r u E
    rwa [show s.w.at s.w.drawn=s.w from rfl]at this
inductive Rk where
 |leaf
 |node (f:St->Rk)
def Rk.lt:Rk->Rk->Prop
 |_,.leaf=>False
 |x,.node f=>∃s,x=f s∨Rk.lt x (f s)
def Rk.acc:∀r:Rk,Acc Rk.lt r
 |.leaf=>⟨_,λ_ h=>h.elim⟩
 |.node f=>⟨_,λ_ ⟨s,e⟩=>e.elim (λe=>e▸Rk.acc (f s)) λh=>(Rk.acc (f s)).inv h⟩
def Rk.nat:Nat->Rk
 |0=>.leaf
 |n+1=>.node λ_=>Rk.nat n
def Rk.EE(n:Nat)(s:St):Rk.lt (Rk.nat n) (Rk.nat (n+1)):=⟨s,.inl rfl⟩
def Vec(j:Nat)(a D:Nat->Rk):Prop:=∃i,i<j/\Rk.lt (a i) (D i)/\∀k,k≠i->a k=D k
def Kk:∀j,WellFounded (Vec j)
 |0=>⟨λ_=>⟨_,λ_ ⟨i,h,_⟩=>absurd h (fX i)⟩⟩
 |j+1=>by
  have g:=Kk j;have key:∀a:Rk,∀D:Nat->Rk,D j=a->Acc (Vec (j+1)) D:=by
   intro a;induction Rk.acc a with
   |intro a _ k =>
    intro D;induction g.apply D with
    |intro D _ b =>
     intro l;refine⟨_,λf h=>?_⟩;obtain⟨i,hi,d,hk⟩:=h;rcases cM i j with e|e
     .exact b f ⟨i,e,d,hk⟩ (by grind)
     grind
  exact⟨λD=>key _ D rfl⟩
section
variable {P:ar}
def kK(X:Cx P)(E:St->St->Array Event->Prop)(S:av->St->Prop):Rk->av->St->Prop
 |.leaf,g,s=>S g s
 |.node f,g,s=>S g s∨(∃s',(eF s s'∨(X.B4/\nn s s'))/\kK X E S (f s) g s') ∨
   (g.status=.running/\∀a,X.rely s a->∃g' s' es,aH P X.main g a.w=.go g' s'.w es/\(rC a s' es∨E a s' es)/\kK X E S (f a) g' s')
variable {X:Cx P}{E:St->St->Array Event->Prop}{S c:av->St->Prop}
def eC(X:Cx P)(E:St->St->Array Event->Prop)(S:av->St->Prop)(g:av)(s:St):Prop:=∃r,kK X E S r g s
theorem eC.ghost{g:av}{s s':St}(h:eF s s')(k:eC X E S g s'):eC X E S g s:=by obtain⟨r,k⟩:=k;exact⟨.node λ_=>r,.inr (.inl ⟨s',.inl h,k⟩)⟩
def eC.forget{g:av}{s s':St}(hl:X.B4)(h:nn s s')(k:eC X E S g s'):eC X E S g s:=by obtain⟨r,k⟩:=k;exact⟨.node λ_=>r,.inr (.inl ⟨s',.inr ⟨hl,h⟩,k⟩)⟩
def eC.step{g:av}{s:St}(e:g.status=.running)(h:∀a,X.rely s a->∃g' s' es,aH P X.main g a.w=.go g' s'.w es/\(rC a s' es∨E a s' es)/\eC X E S g' s'):eC X E S g s:=by
 classical
 have hh:∀a,∃r:Rk,X.rely s a->∃g' s' es,aH P X.main g a.w=.go g' s'.w es/\(rC a s' es∨E a s' es)/\kK X E S r g' s':=by
  intro a;by_cases b:X.rely s a
  .obtain⟨g',s',es,h1,h2,r,d⟩:=h a b;exact⟨r,λ_=>⟨g',s',es,h1,h2,d⟩⟩
  .exact⟨.leaf,λh=>absurd h b⟩
 exact⟨.node λa=>Classical.choose (hh a),.inr (.inr ⟨e,λa b=>Classical.choose_spec (hh a) b⟩)⟩
def eC.bind{g:av}{s:St}(h:eC X E S g s)(k:∀g s,S g s->eC X E c g s):eC X E c g s:=by
 obtain⟨r,h⟩:=h;induction r generalizing g s with
 |leaf=>exact k g s h
 |node f a =>
  rcases h with h|⟨s',h1,h2⟩|⟨b,h⟩
  .grind
  .rcases h1 with h1|⟨hl,h1⟩
   .exact .ghost h1 (a _ h2)
   .exact .forget hl h1 (a _ h2)
  .exact .step b λd e=>by grind
def fL.toE{g:av}{s:St}(hj:∀g s T,¬X.yv g s T)(h:fL X S g s):eC X E S g s:=by
 induction h with
 |stop h=>exact⟨.leaf,h⟩
 |step ng ns ne hr h1 h2 _ a=>exact .step hr λb d=>⟨_,_,_,h1 b d,.inl (h2 b d),a b d⟩
 |ghost hg _ a=>exact .ghost hg a
 |forget hl hg _ a=>exact .forget hl hg a
 |yv hjj _ _=>grind
def kK.norm(I:St->Prop)(l:∀s s',eF s s'->I s->I s')(k:X.B4->∀s s',nn s s'->I s->I s'):∀{r:Rk}{g:av}{s:St},kK X E S r g s->I s ->
  (∃s',I s'/\S g s')∨(g.status=.running/\∃s',I s'/\∀a,X.rely s' a->∃g' s2 es r',aH P X.main g a.w=.go g' s2.w es/\(rC a s2 es∨E a s2 es)/\kK X E S r' g' s2/\Rk.lt r' r)
 |.leaf,_,s,h,hi=>.inl ⟨s,hi,h⟩
 |.node f,g,s,h,hi=>by
  rcases h with h|⟨s',h1,h2⟩|⟨n,h⟩
  .grind
  .have d:I s':=h1.elim (λx=>l s s' x hi) λx=>k x.1 s s' x.2 hi;rcases kK.norm I l k h2 d with m|⟨m,s2,p,o⟩
   .grind
   .refine .inr ⟨m,s2,p,λa j=>?_⟩;obtain⟨g',b,es,r',k1,e,i,q⟩:=o a j;exact⟨g',b,es,r',k1,e,i,s,.inr q⟩
  .refine .inr ⟨n,s,hi,λa j=>?_⟩;obtain⟨g',b,es,k1,e,i⟩:=h a j;exact⟨g',b,es,f a,k1,e,i,a,.inl rfl⟩
def eC.goes{R:aA->aA->Prop}{D:aA->aA->Array Event->Prop}{Stop:av->aA->Prop}(I:St->Prop)(l:∀s a,I s->X.rely s a->I a)(e:∀s a,I s->X.rely s a->R s.w a.w)(i:∀s es,I s->∀w',D s.w w' es->w'=s.w/\(rC s s es∨E s s es))(j:∀s,I s->X.rely s s)(k:∀g s,I s->Stop g s.w->eC X E S g s):
  ∀(n:Nat) (g:av) (s:St),I s->Goes P X.main R D Stop n g s.w->eC X E S g s
 |0,g,s,hi,h=>k g s hi (h s.w (e s s hi (j s hi)))
 |n+1,g,s,hi,h=>by
  rcases h with h|⟨o,h⟩
  .grind
  .refine .step o λa m=>?_;have h1:=h a.w (e s a hi m);have b:=l s a hi m;cases d:aH P X.main g a.w with
   |go g' w' es =>
    rw[d,goes_go]at h1;obtain⟨p,q⟩:=h1;obtain⟨rfl,f⟩:=i a es b w' p;exact⟨g',a,es,rfl,f,eC.goes I l e i j k n g' a b q⟩
   |_=>rw[d]at h1;exact h1.elim
end
theorem cv.ghost{s s':St}{w:aA}(h:cv s {s with w:=w})(k:eF s s'):cv s' {s' with w:=w}:=by
 refine⟨rfl,rfl,rfl,by rw[k.w];exact h.size,λb a=>by rw[k.w];exact h.fy b (k.blk b a),λb o v e=>?_,by rw[k.w];exact h.os,by rw[k.w];exact h.tape,by rw[k.w];exact h.output⟩;have g:=k.cell b o v e;by_cases a:∃L∈s.β,b∈L.bs
 .have:=h.fy b (.inr a);simp only[aV]at g⊢;grind
 .have:s.M b o=aa v:=by rw[<-k.je b (λL f d=>a ⟨L,f,d⟩)];exact e
  exact h.mem b o v this
def cv.forget{s s':St}{w:aA}(h:cv s {s with w:=w})(k:nn s s'):cv s' {s' with w:=w} :=
 ⟨rfl,rfl,rfl,by rw[k.w];exact h.size,λb d=>by rw[k.w];exact h.fy b (by rw[<-k.own,<-k.β];exact d),λb o v a=>h.mem b o v (k.less b o v a),by rw[k.w];exact h.os,by rw[k.w];exact h.tape,by rw[k.w];exact h.output⟩
def cv.w7{s:St}(h:gX s):cv s s:=⟨rfl,rfl,rfl,bc _,λ_ _=>rfl,h,rfl,rfl,rfl⟩
def cv.trans'{s:St}{w:aA}(h:cv s {s with w:=w}):cv {s with w:=w} {s with w:=w}:=cv.w7 h.mem
def cv.trans{s a s2:St}(h:cv s a)(k:cv a s2):cv s s2 :=
 ⟨k.β.trans h.β,k.M.trans h.M,k.own.trans h.own,iZ h.size k.size,λb d=>by rw[k.fy b (by rw[h.own,h.β];exact d),h.fy b d],λb o v e=>k.mem b o v (by rw[h.M];exact e),k.os.trans h.os,k.tape.trans h.tape,k.output.trans h.output⟩
end
section
open Go.Conc
open Go.ConcN (fork_knows RelBy)
open Go.ConcR (stA smA)
def mg:Go.Loc->Option Nat
 |.cell a=>aa a.block
 |.obj r=>aa r
 |_=>af
def Cs{l:Go.Loc}(h:l.isMemory=ab):∃b,mg l=aa b:=by cases l<;>simp[Go.Loc.isMemory]at h<;>exact⟨_,rfl⟩
def HZ{x:MemAct}{a:Touch}{B b:Nat}(h:x.touch?=aa a)(g:x.low B)(c:mg a.loc=aa b):b<B:=by
 cases x with
 |access e =>
  simp[MemAct.touch?]at h;subst h;simp only at c;obtain⟨loc,wr,i⟩:=e;cases loc<;>simp[mg]at c<;>subst c<;>exact g
 |mark m =>
  cases m<;>simp[MemAct.touch?]at h<;>subst h<;>simp[mg]at c<;>subst c<;>exact g
 |_=>simp[MemAct.touch?]at h
structure Lay where
 Sh:Nat->Prop
 T0:Nat
 Wg:Nat
 C:Nat
 base:Nat
 kc:Nat
def sW(Y:Lay)(d:Nat->Nat)(a:Touch):Prop :=
 (∃ad,a.loc=.cell ad/\ad.block=Y.Wg/\a.kind≠.plain)∨(∃b,mg a.loc=aa b/\d b=0/\b≠Y.Wg/\b≠Y.C/\¬Y.Sh b/\a.kind=.plain)
def rh(Y:Lay)(d:Nat->Nat)(f:Mem)(x:Nat)(a:Touch):Prop :=
 (∃ad,a.loc=.cell ad/\ad.block=Y.Wg/\a.kind=.atomic) ∨
 (a.kind=.plain/\((∃b,mg a.loc=aa b/\d b=Y.base+x)∨(∃o,a.loc=.cell ⟨Y.C,o,af⟩/\Y.kc*x<=o/\o<Y.kc*x+Y.kc)∨(a.write=ae/\∃b o v,a.loc=.cell ⟨b,o,af⟩/\f b o=aa v)))
structure TL(Y:Lay)(d:Nat->Nat)(f:Nat->Mem)(t:Trace)(j B:Nat):Prop where
 base:1<=Y.base
 Jt:d Y.Wg=0
 hC:d Y.C=0
 ne:Y.C≠Y.Wg
 QJ:¬Y.Sh Y.Wg
 Sl:¬Y.Sh Y.C
 Ju:∀b,Y.Sh b->d b=0
 ms:∀x,x<j->∀b o v,f x b o=aa v->d b=0/\b≠Y.C/\b≠Y.Wg/\¬Y.Sh b
 T0:Y.T0<=t.size
 nr:∀said,¬Race said t
 seen:∀op∈t,op.act.low B
 old:∀i a,i<Y.T0->touchAt t i=aa a->a.loc.isMemory=ab->Knows t 0 i∨(mc Y.Sh a.loc/\a.kind=.atomic)
 Sm:∀x,x<j->∀i a,i<Y.T0->touchAt t i=aa a->a.loc.isMemory=ab->Knows t (Y.base+x) i∨(mc Y.Sh a.loc/\a.kind=.atomic)
 H0:∀i a b,i<Y.T0->touchAt t i=aa a->mg a.loc=aa b->d b=0
 new:∀i a,Y.T0<=i->touchAt t i=aa a->a.loc.isMemory=ab->(t.g? i=aa 0/\sW Y d a)∨(∃x,x<j/\t.g? i=aa (Y.base+x)/\rh Y d (f x) x a)
 mw:∀x,x<j->∀i a,Y.T0<=i->touchAt t i=aa a->t.g? i=aa 0->a.write=ab->∀b o v,a.loc=.cell ⟨b,o,af⟩->f x b o=aa v->Knows t (Y.base+x) i
 over:∀i g,i<Y.T0->t.g? i=aa g->g≠0->t.counts i->∃k,t.g? k=aa 0/\HappensBefore t i k
section
variable {Y:Lay}{d hm':Nat->Nat}{f:Nat->Mem}{t u:Trace}{j B B':Nat}
theorem vU{i:Nat}{a:Touch}{g:Nat}(h:touchAt t i=aa a)(b:t.g? i=aa g):Knows t g i:=by
 obtain⟨x,c,_⟩:=touch_of h;have:x.g=g:=by simpa[Trace.g?,c]using b
 grind[knows_own]
def TL.low(h:TL Y d f t j B){i:Nat}{a:Touch}{b:Nat}(e:touchAt t i=aa a)(k:mg a.loc=aa b):b<B:=by obtain⟨x,g,c⟩:=touch_of e;exact HZ c (h.seen x (vG g)) k
def TL.tZ(h:TL Y d f t j B)(hh:∀b,b<B->hm' b=d b)(hB:B<=B')(q:Y.Wg<B)(hC:Y.C<B)(s:∀b,Y.Sh b->b<B)(r:∀x,x<j->∀b o v,f x b o=aa v->b<B):TL Y hm' f t j B':=by
 have k:∀i a,touchAt t i=aa a->sW Y d a->sW Y hm' a:=λi a c h1=>by
  rcases h1 with h1|⟨b,h1,h2,p⟩
  .exact .inl h1
  .exact .inr ⟨b,h1,by rw[hh b (h.low c h1)];exact h2,p⟩
 have g:∀x i a,touchAt t i=aa a->rh Y d (f x) x a->rh Y hm' (f x) x a:=λx i a c h1=>by
  rcases h1 with h1|⟨n,⟨b,h1,h2⟩|h1⟩
  .exact .inl h1
  .exact .inr ⟨n,.inl ⟨b,h1,by rw[hh b (h.low c h1)];exact h2⟩⟩
  .exact .inr ⟨n,.inr h1⟩
 refine⟨h.base,by rw[hh _ q];exact h.Jt,by rw[hh _ hC];exact h.hC,h.ne,h.QJ,h.Sl,λb e=>by rw[hh b (s b e)];exact h.Ju b e,λx m b o v l=>by rw[hh b (r x m b o v l)];exact h.ms x m b o v l,
  h.T0,h.nr,λop mP=>MemAct.low_mono hB (h.seen op mP),h.old,h.Sm,λi a b hi c e=>by rw[hh b (h.low c e)];exact h.H0 i a b hi c e,λi a hi c d=>?_,h.mw,h.over⟩
 rcases h.new i a hi c d with⟨h1,h2⟩|⟨x,h1,h2,p⟩
 .grind
 grind
def TL.Ow(h:TL Y d f t j B):Y.T0<=(t++u).size:=iZ h.T0 (by simp)
theorem kU{i:Nat}(h:i<t.size):(t++u).g? i=t.g? i:=by simp[Trace.g?,getElem?_append_old h]
def TL.sX(h:TL Y d f t j B)(u:Trace):∀i g,i<Y.T0->(t++u).g? i=aa g->g≠0->(t++u).counts i->∃k,(t++u).g? k=aa 0/\HappensBefore (t++u) i k:=by
 intro i g hi hg B6 hc;have a:=c7 hi h.T0;rw[kU a]at hg;obtain⟨k,hk,c⟩:=h.over i g hi hg B6 ((counts_old a).1 hc);have b:k<t.size:=by unfold Trace.g? at hk;grind
 exact⟨k,by grind[kU],hb_app u c⟩
def Ct{a:Nat->Prop}{l:Go.Loc}{b:Nat}(h:mc a l)(c:mg l=aa b):a b:=by cases l<;>simp[mg]at c<;>subst c<;>exact h
def TL.apart(h:TL Y d f t j B){x:Nat}(p:x<j){a b:Touch}{said:Bool}(hT:sW Y d b)(m:rh Y d (f x) x a)(hl:a.loc=b.loc)(hk:a.kind=.plain∨b.kind=.plain∨(said=ab/\a.kind=.said/\b.kind=.said))(C:b.kind=.plain->b.write=ab->∀l o v,b.loc=.cell ⟨l,o,af⟩->f x l o≠aa v)(q:a.write=ab∨b.write=ab):False:=by
 have r:=h.base;rcases m with⟨ad,e1,e2,e3⟩|⟨D,⟨c,e1,e2⟩|⟨o,e1,_⟩|⟨e1,l,o,v,e2,e3⟩⟩
 .rcases hT with⟨i,e,g,k⟩|⟨c,e,g,k,_⟩
  .grind
  .rw[<-hl,e1]at e;simp only[mg,dw]at e;grind
 .rcases hT with⟨i,e,g,k⟩|⟨n,e,g,k,_⟩
  .rw[hl,e]at e1;simp only[mg,dw]at e1;rw[<-e1,g,h.Jt]at e2;omega
  grind
 .rcases hT with⟨i,e,g,k⟩|⟨n,e,g,k,s,_⟩
  .rw[<-hl,e1]at e;cases e;exact h.ne g
  .rw[<-hl,e1]at e;simp only[mg,dw]at e;grind
 .obtain⟨A,y,w,E⟩:=h.ms x p l o v e3;rcases hT with⟨i,e,g,k⟩|⟨n,e,g,k,s,_,z⟩
  .grind
  grind
def TL.app0(h:TL Y d f t j B)(H:∀op∈u,op.g=0)(hl:∀op∈u,op.act.low B)(G:∀op∈u,∀a,op.act.touch?=aa a->a.loc.isMemory=ab->sW Y d a)(N:∀op∈u,∀a,op.act.touch?=aa a->a.kind=.plain->a.write=ab->∀x,x<j->∀b o v,a.loc=.cell ⟨b,o,af⟩->f x b o≠aa v):TL Y d f (t++u) j B:=by
 have e:∀{i:Nat} {a:Touch},touchAt (t++u) i=aa a->(i<t.size/\touchAt t i=aa a)∨(t.size<=i/\(t++u).g? i=aa 0/\∃op∈u,op.act.touch?=aa a):=by
  intro i a k;obtain⟨x,p,A⟩:=touch_of k;rcases getElem?_append_cases p with⟨hi,K⟩|⟨hi,s⟩
  .grind [touchAt_of]
  .exact .inr ⟨hi,by simp[Trace.g?,p,H x s],x,s,A⟩
 refine⟨h.base,h.Jt,h.hC,h.ne,h.QJ,h.Sl,h.Ju,h.ms,h.Ow,λsaid=>?_,seen_app h.seen hl,λi a hi k d=>?_,λx p i a hi k d=>?_,λi a b hi k y=>?_,λi a hi k d=>?_,λx p i a hi k z D b o v m F=>?_,h.sX u⟩
 .refine noRace_append (h.nr said) H λi a k op mP b y q=>?_;have E:b.loc.isMemory=ab:=by rw[<-q.1];exact q.2.1
  have hT:=G op mP b y E;rcases cM i Y.T0 with hi|hi
  .rcases h.old i a hi k q.2.1 with hk|⟨J,I⟩
   .exact hk
   .exfalso;obtain⟨c,n⟩:=Cs q.2.1;have w:=Ct J n;rcases hT with⟨ad,e1,e2,e3⟩|⟨M,e1,e2,e3,P,O,L⟩
    .rw[q.1,e1]at n;simp only[mg,dw]at n;rw[<-n,e2]at w;exact h.QJ w
    .rw[q.1,e1]at n;grind
  .rcases h.new i a hi k q.2.1 with⟨z,_⟩|⟨x,p,z,C⟩
   .grind [vU]
   .exact(h.apart p hT C q.1 q.2.2.2 (λh1 h2=>N op mP b y h1 h2 x p) q.2.2.1).elim
 .have l:touchAt t i=aa a:=by rw[<-touchAt_old (u:=u) (c7 hi h.T0)];exact k
  exact(h.old i a hi l d).imp (·.app u) id
 .have l:touchAt t i=aa a:=by rw[<-touchAt_old (u:=u) (c7 hi h.T0)];exact k
  exact(h.Sm x p i a hi l d).imp (·.app u) id
 .have l:touchAt t i=aa a:=by rw[<-touchAt_old (u:=u) (c7 hi h.T0)];exact k
  exact h.H0 i a b hi l y
 .rcases e k with⟨h1,h2⟩|⟨_,h2,op,mP,r⟩
  .rw[kU h1];exact h.new i a hi h2 d
  grind
 .rcases e k with⟨h1,h2⟩|⟨_,h2,op,mP,r⟩
  .rw[kU h1]at z;exact(h.mw x p i a hi h2 z D b o v m F).app u
  .exfalso;rcases G op mP a r (by rw[m];rfl)with⟨ad,e1,e2,e3⟩|⟨M,_,_,_,_,_,L⟩
   .rw[m]at e1;cases e1;exact(h.ms x p b o v F).2.2.1 e2
   grind
def TL.appW(h:TL Y d f t j B){x:Nat}(C:x<j)(X:∀op∈u,op.g=Y.base+x)(hl:∀op∈u,op.act.low B)(ht:∀op∈u,∀a,op.act.touch?=aa a->a.loc.isMemory=ab->rh Y d (f x) x a):TL Y d f (t++u) j B:=by
 have hb1:=h.base;have r:∀{i:Nat} {a:Touch},touchAt (t++u) i=aa a->(i<t.size/\touchAt t i=aa a)∨(t.size<=i/\(t++u).g? i=aa (Y.base+x)/\∃op∈u,op.act.touch?=aa a):=by
  intro i a q;obtain⟨y,A,U⟩:=touch_of q;rcases getElem?_append_cases A with⟨hi,hy'⟩|⟨hi,H⟩
  .grind [touchAt_of]
  .exact .inr ⟨hi,by simp[Trace.g?,A,X y H],y,H,U⟩
 refine⟨h.base,h.Jt,h.hC,h.ne,h.QJ,h.Sl,h.Ju,h.ms,h.Ow,λsaid=>?_,seen_app h.seen hl,λi a hi q d=>?_,λy A i a hi q d=>?_,λi a b hi q M=>?_,λi a hi q d=>?_,λy A i a hi q I G b o v F J=>?_,h.sX u⟩
 .refine noRace_append (h.nr said) X λi a q op mP b M w=>?_;have S:b.loc.isMemory=ab:=by rw[<-w.1];exact w.2.1
  have hT:=ht op mP b M S;obtain⟨c,l⟩:=Cs w.2.1;rcases cM i Y.T0 with hi|hi
  .rcases h.Sm x C i a hi q w.2.1 with hk|⟨hs,hka⟩
   .exact hk
   .exfalso;have n:=Ct hs l;rw[w.1]at l;rcases hT with⟨ad,e1,e2,e3⟩|⟨e0,⟨c',e1,e2⟩|⟨o,e1,_⟩|⟨e1,p,o,v,e2,e3⟩⟩
    .rw[e1]at l;simp only[mg,dw]at l;rw[<-l,e2]at n;exact h.QJ n
    .rw[e1]at l;simp only[dw]at l;rw[<-l]at n;rw[h.Ju _ n]at e2;omega
    .rw[e1]at l;simp only[mg,dw]at l;rw[<-l]at n;exact h.Sl n
    .rw[e2]at l;simp only[mg,dw]at l;rw[<-l]at n;exact(h.ms x C p o v e3).2.2.2 n
  .rcases h.new i a hi q w.2.1 with⟨I,T⟩|⟨y,A,I,N⟩
   ·
    by_cases E:a.write=ab/\∃p o v,a.loc=.cell ⟨p,o,af⟩/\f x p o=aa v
    .obtain⟨h1,p,o,v,h2,Z⟩:=E;exact h.mw x C i a hi q I h1 p o v h2 Z
    .exfalso;refine h.apart (said:=said) C T hT w.1.symm ?_ (λ_ R p o v k J=>E ⟨R,p,o,v,k,J⟩) w.2.2.1.symm;rcases w.2.2.2 with hk|hk|⟨h1,h2,Z⟩
     .grind
     .grind
     grind
   .by_cases V:y=x
    .grind [vU]
    .exfalso;obtain⟨k,_,G,P⟩:=w;rcases N with⟨ad,e1,e2,e3⟩|⟨e0,⟨c1,e1,e2⟩|⟨o,e1,e1l,e1u⟩|⟨e1,p,o,v,e2,e3⟩⟩
     .rcases hT with⟨D,e,m,z⟩|⟨Q,⟨c2,e,m⟩|⟨o,e,_⟩|⟨e,p,o,v,m,z⟩⟩
      .grind
      .rw[<-k,e1]at e;simp only[mg,dw]at e;rw[<-e,e2,h.Jt]at m;omega
      .rw[<-k,e1]at e;cases e;exact h.ne e2
      .rw[<-k,e1]at m;cases m;exact(h.ms x C p o v z).2.2.1 e2
     .rcases hT with⟨D,e,m,z⟩|⟨Q,⟨c2,e,m⟩|⟨o,e,_⟩|⟨e,p,o,v,m,z⟩⟩
      .rw[k,e]at e1;simp only[mg,dw]at e1;rw[<-e1,m,h.Jt]at e2;omega
      .grind
      .rw[k,e]at e1;simp only[mg,dw]at e1;rw[<-e1,h.hC]at e2;omega
      .rw[k,m]at e1;simp only[mg,dw]at e1;rw[<-e1,(h.ms x C p o v z).1]at e2;omega
     .rcases hT with⟨D,e,m,z⟩|⟨Q,⟨c2,e,m⟩|⟨L,e,O,K⟩|⟨e,p,L,v,m,z⟩⟩
      .rw[<-k,e1]at e;cases e;exact h.ne m
      .rw[<-k,e1]at e;simp only[mg,dw]at e;rw[<-e,h.hC]at m;omega
      .rw[<-k,e1]at e;cases e;rcases Nat.lt_or_gt_of_ne V with h1|h1
       .have:=vH Y.kc (show y+1<=x from h1);grind
       .have:=vH Y.kc (show x+1<=y from h1);grind
      .rw[<-k,e1]at m;cases m;exact(h.ms x C _ _ v z).2.1 rfl
     .rcases hT with⟨D,e,m,z⟩|⟨Q,⟨c2,e,m⟩|⟨L,e,O,K⟩|⟨e,b2,L,v',m,z⟩⟩
      .rw[<-k,e2]at e;cases e;exact(h.ms y A p o v e3).2.2.1 m
      .rw[<-k,e2]at e;simp only[mg,dw]at e;rw[<-e,(h.ms y A p o v e3).1]at m;omega
      .rw[<-k,e2]at e;cases e;exact(h.ms y A _ _ v e3).2.1 rfl
      grind
 .have s:touchAt t i=aa a:=by rw[<-touchAt_old (u:=u) (c7 hi h.T0)];exact q
  exact(h.old i a hi s d).imp (·.app u) id
 .have s:touchAt t i=aa a:=by rw[<-touchAt_old (u:=u) (c7 hi h.T0)];exact q
  exact(h.Sm y A i a hi s d).imp (·.app u) id
 .have s:touchAt t i=aa a:=by rw[<-touchAt_old (u:=u) (c7 hi h.T0)];exact q
  exact h.H0 i a b hi s M
 .rcases r q with⟨h1,h2⟩|⟨_,h2,op,mP,W⟩
  .rw[kU h1];exact h.new i a hi h2 d
  grind
 .rcases r q with⟨h1,h2⟩|⟨_,h2,_⟩
  .rw[kU h1]at I;exact(h.mw y A i a hi h2 I G b o v F J).app u
  grind
def TL.mute(h:TL Y d f t j B){g:Nat}(r:∀op∈u,op.g=g)(hl:∀op∈u,op.act.low B)(s:∀op∈u,op.act.touch?=af):TL Y d f (t++u) j B:=by
 have old:∀{i:Nat} {a:Touch},touchAt (t++u) i=aa a->i<t.size/\touchAt t i=aa a:=by intro i a c;obtain⟨y,w,q⟩:=touch_of c;grind[touchAt_of]
 refine⟨h.base,h.Jt,h.hC,h.ne,h.QJ,h.Sl,h.Ju,h.ms,h.Ow,λsaid=>noRace_append (h.nr said) r λi a _ op mP b n _=>(by grind),seen_app h.seen hl,λi a hi c d=>(h.old i a hi (old c).2 d).imp (·.app u) id,
  λx k i a hi c d=>(h.Sm x k i a hi (old c).2 d).imp (·.app u) id,λi a b hi c n=>h.H0 i a b hi (old c).2 n,λi a hi c d=>?_,λx k i a hi c m l b o v e p=>?_,h.sX u⟩
 .rw[kU (old c).1];exact h.new i a hi (old c).2 d
 .rw[kU (old c).1]at m;exact(h.mw x k i a hi (old c).2 m l b o v e p).app u
def TL.fork(h:TL Y d f t j B){x y:MemOp}(m:x.g=0/\x.act=.go (Y.base+j))(n:y.g=Y.base+j/\y.act=.start)(D:Deaf t 0=0)(hk:Deaf t (Y.base+j)=0)(G:∀b o v,f j b o=aa v->d b=0/\b≠Y.C/\b≠Y.Wg/\¬Y.Sh b):TL Y d f (t++#[x,y]) (j+1) B:=by
 have F:∀op∈#[x,y],op.act.touch?=af:=by
  intro op mP;simp only[List.mem_toArray,eB,ot,mO]at mP;rcases mP with rfl|rfl
  .rw[m.2];rfl
  .rw[n.2];rfl
 have l:∀op∈#[x,y],op.act.low B:=by
  intro op mP;simp only[List.mem_toArray,eB,ot,mO]at mP;rcases mP with rfl|rfl
  .rw[m.2];trivial
  .rw[n.2];trivial
 have old:∀{i:Nat} {a:Touch},touchAt (t++#[x,y]) i=aa a->i<t.size/\touchAt t i=aa a:=by intro i a c;obtain⟨z,s,E⟩:=touch_of c;grind[touchAt_of]
 have r:∀z,z<j+1->∀b o v,f z b o=aa v->d b=0/\b≠Y.C/\b≠Y.Wg/\¬Y.Sh b:=λz s b o v p=>by
  rcases cM z j with h1|h1
  .exact h.ms z h1 b o v p
  grind
 refine⟨h.base,h.Jt,h.hC,h.ne,h.QJ,h.Sl,h.Ju,r,h.Ow,λsaid=>?_,seen_app h.seen l,λi a hi c d=>(h.old i a hi (old c).2 d).imp (·.app _) id,
  λz s i a hi c d=>?_,λi a b hi c q=>h.H0 i a b hi (old c).2 q,λi a hi c d=>?_,λz s i a hi c A w b o v k p=>?_,h.sX _⟩
 .have e:t++#[x,y]=(t++#[x])++#[y]:=by grind
  rw[e];refine noRace_append (g:=Y.base+j) (noRace_append (g:=0) (h.nr said) (λop mP=>by grind) (λi a _ op mP b q _=>?_)) (λop mP=>by grind) (λi a _ op mP b q _=>?_)
  .grind
  grind
 .rcases cM z j with h1|h1
  .exact(h.Sm z h1 i a hi (old c).2 d).imp (·.app _) id
  .obtain rfl:z=j:=by omega
   exact(h.old i a hi (old c).2 d).imp (fork_knows m n D hk) id
 .rw[kU (old c).1];rcases h.new i a hi (old c).2 d with h1|⟨z,h1,h2⟩
  .grind
  grind
 .rw[kU (old c).1]at A;rcases cM z j with h1|h1
  .exact(h.mw z h1 i a hi (old c).2 A w b o v k p).app _
  .obtain rfl:z=j:=by omega
   exact fork_knows m n D hk (vU (old c).2 A)
def TL.YJ(h:TL Y d f t j B)(M:Deaf t 0=0)(I:NoRelease (stA Y.Wg) t){q:Nat}(G:t.act? q=aa (.mark (.acquire (stA Y.Wg))))(y:t.g? q=aa 0)(D:t.heard q)(J:∀x,x<j->∃r,RelBy (stA Y.Wg) t (Y.base+x) r/\r<q):Past (mc λb=>Y.Sh b∨b=Y.Wg) B t:=by
 have m:∀x,x<j->∀i,t.g? i=aa (Y.base+x)->t.counts i->HappensBefore t i q:=by
  intro x w i v s;obtain⟨r,c,F⟩:=J x w;have e:HappensBefore t r q:=.single (.inr ⟨.marked F (.inr c.act) G (λk _ _=>I k),c.heard,D⟩);have L:i<=r:=Nat.le_of_not_lt λn=>c.after i n v s;rcases cM i r with n|H
  .exact .trans (.single (.inl ⟨n,_,v,c.g⟩)) e
  grind
 have o:∀{l:Go.Loc},mc Y.Sh l->mc (λb=>Y.Sh b∨b=Y.Wg) l:=λ{l} hl=>by cases l<;>first|exact .inl hl|exact hl
 refine⟨h.nr,λi a p d=>?_,λi g v E s=>?_,M,h.seen⟩
 .rcases cM i Y.T0 with hi|hi
  .exact(h.old i a hi p d).imp id λ⟨h1,h2⟩=>⟨o h1,h2⟩
  .rcases h.new i a hi p d with⟨h1,_⟩|⟨x,w,v,hT⟩
   .grind [vU]
   .rcases hT with⟨ad,e1,e2,e3⟩|⟨N,_⟩
    .exact .inr ⟨by rw[e1];exact .inr e2,e3⟩
    .left;have s:t.counts i:=⟨a,p,d,.inl (by grind)⟩
     obtain⟨z,K,C⟩:=rz.1 y;exact⟨q,z,K,C,.inr (m x w i v s)⟩
 .rcases cM i Y.T0 with hi|hi
  .exact h.over i g hi v E s
  .obtain⟨a,p,d,hk⟩:=s;rcases h.new i a hi p d with⟨h1,_⟩|⟨x,w,A,hT⟩
   .grind
   .exact⟨q,y,m x w i A ⟨a,p,d,hk⟩⟩
def TL.start{Y:Lay}{t:Trace}{B:Nat}{f:Nat->Mem}(e:Past (mc Y.Sh) B t)(hT:Y.T0=t.size)(o:1<=Y.base)(b:Y.C≠Y.Wg)(h:¬Y.Sh Y.Wg)(l:¬Y.Sh Y.C):TL Y (λ_=>0) f t 0 B :=
 ⟨o,rfl,rfl,b,h,l,λ_ _=>rfl,λx c=>absurd c (fX x),by omega,e.clean,e.seen,λi a _ k d=>e.known i a k d,λx c=>absurd c (fX x),λ_ _ _ _ _ _=>rfl,
  λi a hi k _=>by
   obtain⟨x,c,_⟩:=touch_of k
   grind,λx c=>absurd c (fX x),λi g _ m b n=>e.over i g m b n⟩
end
end
section
open Go.Conc
open Go.ConcN (WD CTag Mode Vc Ssum pend phi cnt WgLive PayAt Has RW DWs WSit RelBy sumTo upd upd_same upd_ne AtR0 get_map_set get_map_set_same norel_of Deaf_still)
open Go.ConcR (KK WgAt stA smA rd wr mk Payload g_of_ofEvents)
def Cx.work(P:ar):Cx P:={main:=ae,rely:=cv,yv:=λ_ _ _=>False,iH:=id,B4:=True}
def Cx.lead(P:ar)(ty:aj)(Wg:Nat):Cx P:={main:=ab,rely:=λs s'=>cv s s'/\(WgLive ty Wg s.w->WgLive ty Wg s'.w),yv:=λ_ _ _=>False,iH:=λh=>h.1,B4:=False}
instance (P:ar):(Cx.work P).hU:=⟨ay⟩
def E0:St->St->Array Event->Prop:=λ_ _ _=>False
def Es(Wg:Nat):St->St->Array Event->Prop:=λs s' es=>s'=s/\∃a:Addr,a.block=Wg/\(es=#[mk (.read a)]∨es=#[mk (.write a)])
def QK:Nat->Go.Loc->Prop:=λ_ _=>False
variable [Payload]
structure Vk(C N lo k:Nat)(vs:Nat->ah)(w w':aA):Prop where
 tape:w'.tape=w.tape
 os:w'.os=w.os
 output:w'.output=w.output
 size:w'.heap.size=w.heap.size
 block:∀b,b≠C->w'.heap[b]?=w.heap[b]?
 pay:PayAt C N w'
 out:∀o,(o<lo∨lo+k<=o)->w'.cell? ⟨C,o,af⟩=w.cell? ⟨C,o,af⟩
 new:∀i,i<k->w'.cell? ⟨C,lo+i,af⟩=aa (vs i)
section
variable (P:ar)(ty:aj)(Y:Lay)(N:Nat)(val:Nat->Nat->ah)
def Kl(x:Nat)(g:av)(s:St):Prop :=
 g.status=.running/\∀w1,cv s {s with w:=w1}->PayAt Y.C N w1->WgLive ty Y.Wg w1 ->
  ∃g' w2 es,aH P ae g w1=.go g' w2 es/\Vk Y.C N (Y.kc*x) Y.kc (val x) w1 w2/\(∀e∈es,∃o,e=⟨.cell ⟨Y.C,o,af⟩,ab,ae⟩/\Y.kc*x<=o/\o<Y.kc*x+Y.kc) /\
   ∃m,Goes P ae (RW ty Y.Wg Y.C N 0 (Y.kc*x)) Go.ConcR.DC0 (AtR0 P ty Y.Wg Y.C N 0 (Y.kc*x+1) (val x 0)) m g' w2
end
structure mh(f:Nat->Nat)(r:Mem)(g:Nat)(s:St):Prop where
 blk:∀b,(s.own b∨∃L∈s.β,b∈L.bs)->f b=g/\b<s.w.heap.size
 M:∀b o v,s.M b o=aa v->(f b=g∨r b o=aa v)/\b<s.w.heap.size
structure j6(Y:Lay)(f:Nat->Nat)(E:Nat->Mem)(j:Nat)(s:St):Prop where
 blk:∀b,(s.own b∨∃L∈s.β,b∈L.bs)->f b=0/\b≠Y.C/\b≠Y.Wg/\¬Y.Sh b/\b<s.w.heap.size
 M:∀b o v,s.M b o=aa v->f b=0/\b≠Y.C/\b≠Y.Wg/\¬Y.Sh b/\b<s.w.heap.size
 ms:∀x,x<j->∀b o v,E x b o=aa v->s.M b o=aa v
structure H3(Y:Lay)(f:Nat->Nat)(r:Mem)(y:Nat)(w w':aA):Prop where
 size:w.heap.size<=w'.heap.size
 blk:∀b,b<w.heap.size->f b=Y.base+y->w'.heap[b]?=w.heap[b]?
 cell:∀b o v,r b o=aa v->w.cell? ⟨b,o,af⟩=aa v->w'.cell? ⟨b,o,af⟩=aa v
 pay:∀o,Y.kc*y<=o->o<Y.kc*y+Y.kc->w'.cell? ⟨Y.C,o,af⟩=w.cell? ⟨Y.C,o,af⟩
 os:w'.os=w.os
 tape:w'.tape=w.tape
 output:w'.output=w.output
omit [Payload]in
def H3.refl(Y:Lay)(f:Nat->Nat)(r:Mem)(y:Nat)(w:aA):H3 Y f r y w w:=⟨bc _,λ_ _ _=>rfl,λ_ _ _ _ h=>h,λ_ _ _=>rfl,rfl,rfl,rfl⟩
omit [Payload]in
def H3.at(Y:Lay)(f:Nat->Nat)(r:Mem)(y:Nat)(w:aA)(d:Nat):H3 Y f r y w (w.at d):=⟨bc _,λ_ _ _=>rfl,λ_ _ _ _ h=>h,λ_ _ _=>rfl,rfl,rfl,rfl⟩
structure EF(Y:Lay)(f:Nat->Nat)(w w':aA):Prop where
 size:w.heap.size<=w'.heap.size
 blk:∀b,b<w.heap.size->f b=0->b≠Y.C->b≠Y.Wg->w'.heap[b]?=w.heap[b]?
 os:w'.os=w.os
 tape:w'.tape=w.tape
 output:w'.output=w.output
omit [Payload]in
def j7{w w':aA}{b:Nat}(h:w'.heap[b]?=w.heap[b]?)(o:Nat):w'.cell? ⟨b,o,af⟩=w.cell? ⟨b,o,af⟩:=by simp[aV,h]
omit [Payload]in
def cv.more{s:St}{w w':aA}(h:cv s {s with w:=w})(u:w.heap.size<=w'.heap.size)(c:∀b,(s.own b∨∃L∈s.β,b∈L.bs)->w'.heap[b]?=w.heap[b]?)(X:∀b o v,s.M b o=aa v->w.cell? ⟨b,o,af⟩=aa v->w'.cell? ⟨b,o,af⟩=aa v)(l:w'.os=w.os)(q:w'.tape=w.tape)(t:w'.output=w.output):cv s {s with w:=w'} :=
 ⟨rfl,rfl,rfl,iZ h.size u,λb J=>by show w'.heap[b]?=_;rw[c b J];exact h.fy b J,λb o v p=>X b o v p (h.mem b o v p),l.trans h.os,q.trans h.tape,t.trans h.output⟩
section
variable {Y:Lay}{f hm':Nat->Nat}{E:Nat->Mem}{j y:Nat}{s:St}{w w':aA}
omit [Payload]in
def mh.Km(n:mh f (E y) (Y.base+y) s)(h:cv s {s with w:=w})(k:H3 Y f (E y) y w w'):cv s {s with w:=w'}:=by
 have u:=h.size;refine h.more k.size (λb c=>?_) (λb o v p K=>?_) k.os k.tape k.output
 .obtain⟨l,q⟩:=n.blk b c;exact k.blk b (c7 q u) l
 .obtain⟨l,q⟩:=n.M b o v p;rcases l with l|l
  .rw[j7 (k.blk b (c7 q u) l) o];exact K
  .exact k.cell b o v l K
omit [Payload]in
def mh.tZ{r:Mem}{g:Nat}(n:mh f r g s)(h:s.w.heap.size<=w.heap.size)(W:∀b,b<w.heap.size->hm' b=f b):mh hm' r g s :=
 ⟨λb c=>let ⟨l,q⟩:=n.blk b c;⟨by grind,q⟩,λb o v p=>let ⟨l,q⟩:=n.M b o v p;⟨by grind,q⟩⟩
omit [Payload]in
def j6.Km(n:j6 Y f E j s)(h:cv s {s with w:=w})(k:EF Y f w w'):cv s {s with w:=w'}:=by
 have u:=h.size;refine h.more k.size (λb c=>?_) (λb o v p K=>?_) k.os k.tape k.output
 .obtain⟨l,q,t,G,A⟩:=n.blk b c;exact k.blk b (c7 A u) l q t
 .obtain⟨l,q,t,G,A⟩:=n.M b o v p;rw[j7 (k.blk b (c7 A u) l q t) o];exact K
omit [Payload]in
def j6.tZ(n:j6 Y f E j s)(h:s.w.heap.size<=w.heap.size)(W:∀b,b<w.heap.size->hm' b=f b):j6 Y hm' E j s :=
 ⟨λb c=>let ⟨l,q,t,G,A⟩:=n.blk b c;⟨by grind,q,t,G,A⟩,
  λb o v p=>let ⟨l,q,t,G,A⟩:=n.M b o v p;⟨by grind,q,t,G,A⟩,n.ms⟩
omit [Payload]in
def mh.rely{r:Mem}{g:Nat}(n:mh f r g s)(h:s.w.heap.size<=w.heap.size):mh f r g {s with w:=w} :=
 ⟨λb c=>let ⟨l,q⟩:=n.blk b c;⟨l,c7 q h⟩,λb o v p=>let ⟨l,q⟩:=n.M b o v p;⟨l,c7 q h⟩⟩
omit [Payload]in
def j6.rely(n:j6 Y f E j s)(h:s.w.heap.size<=w.heap.size):j6 Y f E j {s with w:=w} :=
 ⟨λb c=>let ⟨l,q,t,G,A⟩:=n.blk b c;⟨l,q,t,G,c7 A h⟩,λb o v p=>let ⟨l,q,t,G,A⟩:=n.M b o v p;⟨l,q,t,G,c7 A h⟩,n.ms⟩
omit [Payload]in
theorem mh.ghost{r:Mem}{g:Nat}{s':St}(n:mh f r g s)(k:eF s s'):mh f r g s':=by
 refine⟨λb c=>by rw[k.w];exact n.blk b (k.blk b c),λb o v p=>?_⟩;rw[k.w];by_cases c:∃L∈s.β,b∈L.bs
 .obtain⟨l,q⟩:=n.blk b (.inr c);grind
 .exact n.M b o v (by rw[<-k.je b (λL D z=>c ⟨L,D,z⟩)];exact p)
omit [Payload]in
def mh.forget{r:Mem}{g:Nat}{s':St}(n:mh f r g s)(k:nn s s'):mh f r g s' :=
 ⟨λb c=>by rw[k.w];exact n.blk b (by rw[<-k.own,<-k.β];exact c),λb o v p=>by rw[k.w];exact n.M b o v (k.less b o v p)⟩
omit [Payload]in
theorem j6.ghost{s':St}(n:j6 Y f E j s)(k:eF s s'):j6 Y f E j s':=by
 refine⟨λb c=>by rw[k.w];exact n.blk b (k.blk b c),λb o v p=>?_,λx O b o v p=>k.mem _ _ _ (n.ms x O b o v p)⟩;rw[k.w];by_cases c:∃L∈s.β,b∈L.bs
 .exact n.blk b (.inr c)
 .exact n.M b o v (by rw[<-k.je b (λL D z=>c ⟨L,D,z⟩)];exact p)
def nU(f:Nat->Nat)(B g:Nat):Nat->Nat:=λb=>if b<B then f b else g
omit [Payload]in
theorem fh{f:Nat->Nat}{B g b:Nat}(h:b<B):nU f B g b=f b:=by simp[nU,h]
omit [Payload]in
theorem ua{f:Nat->Nat}{B g b:Nat}(h:B<=b):nU f B g b=g:=by simp[nU,mN.2 h]
omit [Payload]in
def mh.step{r:Mem}{g:Nat}{s':St}{σ σ':List aR}(n:mh f r g s)(F:aF σ' s')(st:Step σ s σ' s'):mh (nU f s.w.heap.size g) r g s':=by
 refine⟨λb c=>?_,λb o v p=>?_⟩
 .rcases c with c|⟨L,D,c⟩
  .rw[st.own]at c;obtain⟨l,q⟩:=n.blk b (.inl c);exact⟨by grind[fh],c7 q st.size⟩
  .have H:=F.lt L D b c;rcases st.vK L D b c with l|⟨R,I,l⟩
   .grind [ua]
   .obtain⟨k1,Q⟩:=n.blk b (.inr ⟨R,I,l⟩);grind[fh]
 .have H:=gX.lt F.mem p;rcases cM b s.w.heap.size with l|l
  .rw[fh l];by_cases c:∃L∈s.β,b∈L.bs
   .exact⟨.inl (n.blk b (.inr c)).1,H⟩
   .rw[st.je b l (λL D z=>c ⟨L,D,z⟩)]at p;exact⟨(n.M b o v p).1,H⟩
  grind[ua]
omit [Payload]in
def j6.step{s':St}{σ σ':List aR}(n:j6 Y f E j s)(F:aF σ' s')(st:Step σ s σ' s')(hW:Y.Wg<s.w.heap.size)(Z:Y.C<s.w.heap.size)(hS:∀b,Y.Sh b->b<s.w.heap.size):j6 Y (nU f s.w.heap.size 0) E j s':=by
 have S:∀b,s.w.heap.size<=b->b<s'.w.heap.size->nU f s.w.heap.size 0 b=0/\b≠Y.C/\b≠Y.Wg/\¬Y.Sh b/\b<s'.w.heap.size:=λb l q =>
  ⟨ua l,by omega,by omega,λh=>by grind,q⟩
 refine⟨λb c=>?_,λb o v p=>?_,λx O b o v p=>st.mem _ _ _ (n.ms x O b o v p)⟩
 .rcases c with c|⟨L,D,c⟩
  .rw[st.own]at c;obtain⟨l,q,t,G,A⟩:=n.blk b (.inl c);exact⟨by grind[fh],q,t,G,c7 A st.size⟩
  .have H:=F.lt L D b c;rcases st.vK L D b c with l|⟨R,I,l⟩
   .grind
   .obtain⟨k1,Q,V,T,U⟩:=n.blk b (.inr ⟨R,I,l⟩);grind[fh]
 .have H:=gX.lt F.mem p;rcases cM b s.w.heap.size with l|l
  .by_cases c:∃L∈s.β,b∈L.bs
   .obtain⟨k1,Q,V,T,U⟩:=n.blk b (.inr c);grind[fh]
   .rw[st.je b l (λL D z=>c ⟨L,D,z⟩)]at p;obtain⟨k1,Q,V,T,U⟩:=n.M b o v p;grind[fh]
  grind
end
end
section
open Go.Conc
open Go.ConcN (WD CTag Mode Vc Ssum pend phi cnt WgLive PayAt Has RW DWs WSit RelBy sumTo upd upd_same upd_ne AtR0 get_map_set get_map_set_same norel_of Deaf_still)
open Go.ConcR (KK WgAt stA smA rd wr mk Payload g_of_ofEvents)
variable [Payload]
section
variable (P:ar)(ty:aj)(Y:Lay)(N:Nat)(val:Nat->Nat->ah)(l:Nat->Nat)(c:Nat->Mem)
inductive WS (x:Nat):Nat->Nat->Rk->Nat->av->aA->Prop
 |am {r:Rk} {g:av} {s:St} {w:aA}:kK (Cx.work P) E0 (Kl P ty Y N val x) r g s->cv s {s with w:=w}->mh l (c x) (Y.base+x) s->WS x 1 7 r 0 g w
 |rel {m:Nat} {g:av} {w:aA}:Goes P ae (RW ty Y.Wg Y.C N 0 (Y.kc*x)) Go.ConcR.DC0 (AtR0 P ty Y.Wg Y.C N 0 (Y.kc*x+1) (val x 0)) m g w->WS x 0 7 (Rk.nat m) 0 g w
 |tail {st m d:Nat} {g:av} {w:aA}:st<=6->WSit P ty Y.Wg Y.C N QK QK 0 (Y.kc*x+1) (val x 0) st m d g w->WS x 0 st (Rk.nat m) d g w
structure Com(j:Nat)(gs:Array av)(w:aA)(t:Trace)(D:Nat->WD)(A:Nat->Nat)(K:Nat->Rk)(n:Nat):Prop where
 size:gs.size=Y.base+j
 lv:∀i g,0<i->i<Y.base->gs[i]?=aa g->∃m,K i=Rk.nat m/\QuitsD P m (Deaf t i) g
 above:∀i,Y.base+j<=i->Deaf t i=0
 wk:∀x,x<j->∃g,gs[Y.base+x]?=aa g/\WS P ty Y N val l c x (A x) (D x).stage (K (Y.base+x)) (D x).deaf g w
 tl:TL Y l c t j w.heap.size
 norel:sF t
 deaf0:Deaf t 0=n
 deafW:∀x,x<j->Deaf t (Y.base+x)=(D x).deaf
 rel:∀x,x<j->(D x).stage<=6->∃r,RelBy (stA Y.Wg) t (Y.base+x) r
 yD:∀x,x<j->A x=0->∀i,1<=i->i<Y.kc->w.cell? ⟨Y.C,Y.kc*x+i,af⟩=aa (val x i)
 Cu:∀x,x<j->(D x).stage<=6->Has Y.C (Y.kc*x) (val x 0) w
 pay:PayAt Y.C N w
 live:WgLive ty Y.Wg w
 BT:Y.Wg<w.heap.size
 Eg:Y.C<w.heap.size
 NJ:∀b,Y.Sh b->b<w.heap.size
 kc:0<Y.kc
 Ox:∀y,y<j->∀b o v,c y b o=aa v->b<w.heap.size
end
section
variable {P:ar}{ty:aj}{Y:Lay}{N:Nat}{val:Nat->Nat->ah}{l hm':Nat->Nat}{c:Nat->Mem}{j x:Nat}{gs:Array av}{w w':aA}{t:Trace}{D:Nat->WD}{A:Nat->Nat}{K:Nat->Rk}{n:Nat}
def RW.Km(k:H3 Y l (c x) x w w')(hl:WgLive ty Y.Wg w')(a:PayAt Y.C N w')(hk:0<Y.kc):RW ty Y.Wg Y.C N 0 (Y.kc*x+1-1) w w' :=
 ⟨λb d=>absurd d (fX b),λ_=>hl,λ_=>a,k.pay _ (bc _) (by grind)⟩
def WS.Km{a st d:Nat}{r:Rk}{g:av}(h:WS P ty Y N val l c x a st r d g w)(k:H3 Y l (c x) x w w')(hl:WgLive ty Y.Wg w')(e:PayAt Y.C N w')(hk:0<Y.kc)(hh:∀b,b<w.heap.size->hm' b=l b):
  WS P ty Y N val hm' c x a st r d g w':=by
 cases h with
 |am h1 h2 h3=>exact .am h1 (h3.Km h2 k) (h3.tZ h2.size hh)
 |rel h1=>exact .rel (Goes.rely (λ_ _ _ h1 h2=>h1.trans h2) h1 (RW.Km k hl e hk))
 |tail h0 h1=>exact .tail h0 (h1.rely (RW.Km k hl e hk))
omit [Payload]in
def kK.run{X:Cx P}{E:St->St->Array Event->Prop}{S:av->St->Prop}(p:∀g s,S g s->g.status=.running):∀{r:Rk}{g:av}{s:St},kK X E S r g s->g.status=.running
 |.leaf,_,_,h=>p _ _ h
 |.node f,g,s,h=>by
  rcases h with h|⟨s',_,h⟩|⟨h,_⟩
  .grind
  .exact kK.run p (r:=f s) h
  grind
def WS.status{a st d:Nat}{r:Rk}{g:av}(h:WS P ty Y N val l c x a st r d g w):g.status=.running∨g.status=.finished:=by
 cases h with
 |am h1 _ _=>exact .inl (h1.run λg s h=>h.1)
 |rel h1=>exact .inl (Goes.running (λ_ _ x=>x.1) w (Go.ConcN.RW.refl w) h1)
 |tail _ h1=>exact h1.status
def WS.woken{a st d:Nat}{r:Rk}{g:av}(h:WS P ty Y N val l c x a st r d g w)(b e:av)(w':aA):woken P b e w' g=g:=by
 unfold Go.Conc.woken;split
 .exact again_running _ h.status
 .rfl
def Com.at(h:Com P ty Y N val l c j gs w t D A K n)(d:Nat):Com P ty Y N val l c j gs (w.at d) t D A K n :=
 ⟨h.size,h.lv,h.above,λx a=>let ⟨g,h1,h2⟩:=h.wk x a;⟨g,h1,h2.Km (.at ..) h.live h.pay h.kc λ_ _=>rfl⟩,h.tl,h.norel,h.deaf0,h.deafW,h.rel,h.yD,h.Cu,h.pay,h.live,h.BT,h.Eg,h.NJ,h.kc,h.Ox⟩
def Com.stepW(h:Com P ty Y N val l c j gs w t D A K n)(hx:x<j){g g':av}{fn:aJ}{pos:String}{es:Array Event}{a' qW d':Nat}{r':Rk}(hh:∀b,b<w.heap.size->hm' b=l b)(B:w.heap.size<=w'.heap.size)(q:∀y,y<j->y≠x->H3 Y l (c y) y w w')(Q:WS P ty Y N val hm' c x a' qW r' d' g' w')(Vl:∀e∈es,(aK e).low w'.heap.size)(XO:∀e∈es,∀a,(aK e).touch?=aa a->a.loc.isMemory=ab->rh Y hm' (c x) x a)(O:∀e∈es,∀a,e.loc≠.mark (.release a))(I:deafBehind (D x).deaf es=d')(Z:qW<=6->∃r,RelBy (stA Y.Wg) (t++MemOp.ofEvents (Y.base+x) fn pos es) (Y.base+x) r)(h1:a'=0->∀i,1<=i->i<Y.kc->w'.cell? ⟨Y.C,Y.kc*x+i,af⟩=aa (val x i))(h0:qW<=6->Has Y.C (Y.kc*x) (val x 0) w')(G:PayAt Y.C N w')(u:WgLive ty Y.Wg w'):
  Com P ty Y N val hm' c j ((gs.map (woken P g g' w')).setIfInBounds (Y.base+x) g') w' (t++MemOp.ofEvents (Y.base+x) fn pos es) (upd D x ⟨qW,0,d'⟩) (upd A x a') (upd K (Y.base+x) r') n:=by
 have hb:=h.tl.base;have F:∀y,y≠x->Y.base+x≠Y.base+y:=λy d e=>d (by omega);have R:∀i H,0<i->i<Y.base->((gs.map (Go.Conc.woken P g g' w')).setIfInBounds (Y.base+x) g')[i]?=aa H->gs[i]?=aa H:=by intro i H hi QL yE;rw[get_map_set _ _ _ _ (by omega)]at yE;obtain⟨z,hz,rfl⟩:=rz.1 yE;obtain⟨m,_,hq⟩:=h.lv i z hi QL hz;grind[woken_quitsD]
 refine⟨by simp[h.size],λi H hi QL yE=>?_,λi hi=>?_,λy d=>?_,?_,h.norel.app O,by rw[Deaf_other t (by omega) _ g_of_ofEvents,h.deaf0],λy d=>?_,λy d k=>?_,λy d L i T W=>?_,λy d k=>?_,G,u,c7 h.BT B,c7 h.Eg B,λb hb=>c7 (h.NJ b hb) B,h.kc,λy d b o v M=>c7 (h.Ox y d b o v M) B⟩
 .obtain⟨m,U,V⟩:=h.lv i H hi QL (R i H hi QL yE);refine⟨m,by rw[upd_ne K _ (by omega)];exact U,?_⟩;rw[Deaf_other t (by omega) _ g_of_ofEvents];exact V
 .rw[Deaf_other t (by omega) _ g_of_ofEvents];exact h.above i hi
 .by_cases e:y=x
  .subst e;exact⟨g',get_map_set_same _ _ _ (by rw[h.size];omega),by rw[upd_same,upd_same,upd_same];exact Q⟩
  .obtain⟨H,yE,J⟩:=h.wk y d;refine⟨H,by rw[get_map_set _ _ _ _ (F y e),yE,lS,J.woken],?_⟩;rw[upd_ne A _ e,upd_ne D _ e,upd_ne K _ (F y e).symm];exact J.Km (q y d e) u G h.kc hh
 .refine(h.tl.tZ hh B h.BT h.Eg h.NJ λy d b o v M=>?_).appW hx (λop mP=>by grind[Go.Conc.mem_ofEvents]) (λop mP=>?_) (λop mP a L hma=>?_)
  .exact h.Ox y d b o v M
  .grind [Go.Conc.mem_ofEvents]
  grind[Go.Conc.mem_ofEvents]
 .by_cases e:y=x
  .subst e;rw[Deaf_own,h.deafW y d,upd_same];exact I
  .rw[Deaf_other t (F y e) _ g_of_ofEvents,h.deafW y d,upd_ne D _ e]
 .by_cases e:y=x
  .subst e;rw[upd_same]at k;grind
  .rw[upd_ne D _ e]at k;obtain⟨r,hr⟩:=h.rel y d k;exact⟨r,hr.appOther g_of_ofEvents (F y e)⟩
 .by_cases e:y=x
  .subst e;rw[upd_same]at L;grind
  .rw[upd_ne A _ e]at L;rw[(q y d e).pay _ (by omega) (by omega)];exact h.yD y d L i T W
 .by_cases e:y=x
  .subst e;rw[upd_same]at k;grind
  .rw[upd_ne D _ e]at k;have:=h.Cu y d k;have hk:=h.kc;simp only[Has]at this⊢;rw[(q y d e).pay _ (by omega) (by omega)];exact this
def Com.step0(h:Com P ty Y N val l c j gs w t D A K n){g g':av}{fn:aJ}{pos:String}{es:Array Event}(hh:∀b,b<w.heap.size->hm' b=l b)(u:w.heap.size<=w'.heap.size)(k:∀y,y<j->H3 Y l (c y) y w w')(R:∀e∈es,(aK e).low w'.heap.size)(V:∀e∈es,∀a,(aK e).touch?=aa a->a.loc.isMemory=ab->sW Y hm' a)(Z:∀e∈es,∀a,(aK e).touch?=aa a->a.kind=.plain->a.write=ab->∀x,x<j->∀b o v,a.loc=.cell ⟨b,o,af⟩->c x b o≠aa v)(I:∀e∈es,∀a,e.loc≠.mark (.release a))(B:PayAt Y.C N w')(q:WgLive ty Y.Wg w'):
  Com P ty Y N val hm' c j ((gs.map (woken P g g' w')).setIfInBounds 0 g') w' (t++MemOp.ofEvents 0 fn pos es) D A K (deafBehind n es):=by
 have Q:=h.tl.base;have hk:=h.kc;refine⟨by simp[h.size],λi T hi QL yE=>?_,λi hi=>?_,λy d=>?_,?_,h.norel.app I,by rw[Deaf_own,h.deaf0],λy d=>by rw[Deaf_other t (by omega) _ g_of_ofEvents,h.deafW y d],λy d F=>?_,λy d M i J O=>?_,λy d F=>?_,B,q,c7 h.BT u,c7 h.Eg u,λb Q=>c7 (h.NJ b Q) u,h.kc,λy d b o v U=>c7 (h.Ox y d b o v U) u⟩
 .rw[get_map_set _ _ _ _ (by omega)]at yE;obtain⟨z,hz,rfl⟩:=rz.1 yE;obtain⟨m,L,G⟩:=h.lv i z hi QL hz;exact⟨m,L,by rw[woken_quitsD G,Deaf_other t (by omega) _ g_of_ofEvents];exact G⟩
 .rw[Deaf_other t (by omega) _ g_of_ofEvents];exact h.above i hi
 .obtain⟨T,yE,H⟩:=h.wk y d;exact⟨T,by rw[get_map_set _ _ _ _ (by omega),yE,lS,H.woken],H.Km (k y d) q B h.kc hh⟩
 .refine(h.tl.tZ hh u h.BT h.Eg h.NJ h.Ox).app0 (λop mP=>by grind[Go.Conc.mem_ofEvents]) (λop mP=>?_) (λop mP a M W=>?_) (λop mP a M=>?_)
  .grind [Go.Conc.mem_ofEvents]
  .grind [Go.Conc.mem_ofEvents]
  grind[Go.Conc.mem_ofEvents]
 .obtain⟨r,hr⟩:=h.rel y d F;exact⟨r,hr.appOther g_of_ofEvents (by omega)⟩
 .rw[(k y d).pay _ (by omega) (by omega)];exact h.yD y d M i J O
 .have:=h.Cu y d F;simp only[Has]at this⊢;rw[(k y d).pay _ (by omega) (by omega)];exact this
def Com.leave(h:Com P ty Y N val l c j gs w t D A K n){i m:Nat}(hi:0<i)(I:i<Y.base){g g':av}{fn:aJ}{pos:String}{es:Array Event}(B:∀e∈es,e.mute=ab)(L:QuitsD P m (deafBehind (Deaf t i) es) g'):
  Com P ty Y N val l c j ((gs.map (woken P g g' w)).setIfInBounds i g') w (t++MemOp.ofEvents i fn pos es) D A (upd K i (Rk.nat m)) n:=by
 have M:=h.tl.base;have u:∀e∈es,∀a,e.loc≠.mark (.release a):=λe J a=>wv (B e J) a;refine⟨by simp[h.size],λk C hk hkb yE=>?_,λk hk=>?_,λy b=>?_,?_,h.norel.app u,by rw[Deaf_other t (by omega) _ g_of_ofEvents,h.deaf0],λy b=>by rw[Deaf_other t (by omega) _ g_of_ofEvents,h.deafW y b],λy b q=>?_,h.yD,h.Cu,h.pay,h.live,h.BT,h.Eg,h.NJ,h.kc,h.Ox⟩
 .by_cases e:k=i
  .subst e;rw[get_map_set_same _ _ _ (by grind)]at yE;cases yE;exact⟨m,by rw[upd_same],by grind[Deaf_own]⟩
  .rw[get_map_set _ _ _ _ (Ne.symm e)]at yE;obtain⟨z,G,rfl⟩:=rz.1 yE;obtain⟨H,v,d⟩:=h.lv k z hk hkb G;exact⟨H,by rw[upd_ne K _ e];exact v,by rw[woken_quitsD d,Deaf_other t (Ne.symm e) _ g_of_ofEvents];exact d⟩
 .rw[Deaf_other t (by omega) _ g_of_ofEvents];exact h.above k hk
 .obtain⟨C,yE,o⟩:=h.wk y b;exact⟨C,by rw[get_map_set _ _ _ _ (by omega),yE,lS,o.woken],by rw[upd_ne K _ (by omega)];exact o⟩
 .exact h.tl.mute (g:=i) (λop mP=>by grind[Go.Conc.mem_ofEvents]) (λop mP=>by grind[Go.Conc.mem_ofEvents,low_mute]) (λop mP=>by grind[Go.Conc.mem_ofEvents,touch_mute])
 .obtain⟨r,F⟩:=h.rel y b q;exact⟨r,F.appOther g_of_ofEvents (by omega)⟩
def Com.spawn(h:Com P ty Y N val l c j gs w t D A K 0){a' child:av}{x y:MemOp}{r:Rk}{s:St}(H:x.g=0/\x.act=.go (Y.base+j))(L:y.g=Y.base+j/\y.act=.start)(J:∀b o v,c j b o=aa v->l b=0/\b≠Y.C/\b≠Y.Wg/\¬Y.Sh b/\b<w.heap.size)(R:kK (Cx.work P) E0 (Kl P ty Y N val j) r child s)(B:cv s {s with w:=w})(M:mh l (c j) (Y.base+j) s):
  Com P ty Y N val l c (j+1) ((gs.setIfInBounds 0 a').push child) w (t++#[x,y]) (upd D j ⟨7,0,0⟩) (upd A j 1) (upd K (Y.base+j) r) 0:=by
 have T:=h.tl.base;have O:∀op∈#[x,y],op=x∨op=y:=by grind
 have d:∀op∈#[x,y],op.act≠.mark .disable/\op.act≠.mark .enable:=by grind
 have k:∀i,0<i->i<Y.base+j->((gs.setIfInBounds 0 a').push child)[i]?=gs[i]?:=λi hi tN=>by rw[Array.getElem?_push_lt (by simp[h.size];omega),<-gm,wq (by omega)]
 refine⟨by simp[h.size];omega,λi g hi QL hg=>?_,λi hi=>?_,λz q=>?_,h.tl.fork H L h.deaf0 (h.above _ (bc _)) λb o v u=>let ⟨h1,h2,Q,I,_⟩:=J b o v u;⟨h1,h2,Q,I⟩,λad=>(h.norel ad).app λop mP=>?_,by rw[Deaf_still t 0 _ d,h.deaf0],λz q=>?_,λz q e=>?_,λz q G=>?_,λz q e=>?_,h.pay,h.live,h.BT,h.Eg,h.NJ,h.kc,λz q b o v u=>?_⟩
 .rw[k i hi (by omega)]at hg;obtain⟨m,h1,h2⟩:=h.lv i g hi QL hg;exact⟨m,by rw[upd_ne K _ (by omega)];exact h1,by rw[Deaf_still t _ _ d];exact h2⟩
 .rw[Deaf_still t _ _ d];exact h.above i (by omega)
 .rcases cM z j with tN|a
  .obtain⟨g,hg,F⟩:=h.wk z tN;exact⟨g,by grind,by rw[upd_ne D _ (by omega),upd_ne A _ (by omega),upd_ne K _ (by omega)];exact F⟩
  .obtain rfl:z=j:=by omega
   refine⟨child,?_,by rw[upd_same,upd_same,upd_same];exact .am R B M⟩;rw[show Y.base+z=(gs.setIfInBounds 0 a').size by simp[h.size],Array.getElem?_push_size]
 .grind
 .rw[Deaf_still t _ _ d];rcases cM z j with tN|a
  .rw[h.deafW z tN,upd_ne D _ (by omega)]
  .obtain rfl:z=j:=by omega
   rw[upd_same];exact h.above _ (bc _)
 .rcases cM z j with tN|a
  .rw[upd_ne D _ (by omega)]at e;obtain⟨r,B⟩:=h.rel z tN e;refine⟨r,B.appNot λop mP=>?_⟩;grind
  .obtain rfl:z=j:=by omega
   rw[upd_same]at e;grind
 .rcases cM z j with tN|a
  .rw[upd_ne A _ (by omega)]at G;exact h.yD z tN G
  .obtain rfl:z=j:=by omega
   rw[upd_same]at G;grind
 .rcases cM z j with tN|a
  .rw[upd_ne D _ (by omega)]at e;exact h.Cu z tN e
  .obtain rfl:z=j:=by omega
   rw[upd_same]at e;grind
 .rcases cM z j with tN|a
  .exact h.Ox z tN b o v u
  grind
end
end
section
open Go.Conc
open Go.ConcN (WD CTag Mode Vc Ssum pend phi cnt WgLive PayAt Has RW DWs WSit RelBy sumTo upd upd_same upd_ne AtR0)
open Go.ConcR (KK WgAt stA smA rd wr mk Payload g_of_ofEvents again_blocked)
variable [Payload]
section
variable (P:ar)(ty:aj)(Y:Lay)(N:Nat)(val:Nat->Nat->ah)(n:Nat)(T l:av->St->Prop)
def AtAcq(g:av)(s:St):Prop:=g.status=.running/\∃g',(∀w,aH P ab g w=.go g' w #[mk (.acquire (stA Y.Wg))])/\∀c,(Cx.lead P ty Y.Wg).rely s c->T g' c
def AtKe(g:av)(s:St):Prop:=g.status=.running/\∃g',(∀w,aH P ab g w=.go g' w #[mk .enable])/\∀c,(Cx.lead P ty Y.Wg).rely s c->(eC (Cx.lead P ty Y.Wg) (Es Y.Wg)) (AtAcq P ty Y T) g' c
def AtW4(g:av)(s:St):Prop:=g.status=.running/\∀c,(Cx.lead P ty Y.Wg).rely s c->WgAt ty Y.Wg c.w 0 0->∃g',aH P ab g c.w=.go g' c.w #[rd (stA Y.Wg)]/\(eC (Cx.lead P ty Y.Wg) (Es Y.Wg)) (AtKe P ty Y T) g' c
def AtW3(g:av)(s:St):Prop:=g.status=.running/\g.offers=af/\∀c,(Cx.lead P ty Y.Wg).rely s c ->
 ((∃st,WgAt ty Y.Wg c.w st 0)->aH P ab g c.w=.go {g with status:=.blocked} c.w #[]) /\
 (WgAt ty Y.Wg c.w 0 1->∃g',aH P ab g c.w=.go g' (c.w.setCell (smA Y.Wg) (.int .u32 0)) (semEvents (smA Y.Wg))/\(eC (Cx.lead P ty Y.Wg) (Es Y.Wg)) (AtW4 P ty Y T) g' {c with w:=c.w.setCell (smA Y.Wg) (.int .u32 0)})
def AtW2(vs:Nat)(g:av)(s:St):Prop:=g.status=.running/\∀c,(Cx.lead P ty Y.Wg).rely s c->∀v:Nat,v<2147483648->WgAt ty Y.Wg c.w (v*KK) 0 ->
 (v=vs->∃g',aH P ab g c.w=.go g' (c.w.setCell (stA Y.Wg) (.int .u64 (v*KK+1))) #[rd (stA Y.Wg),wr (stA Y.Wg)]/\(eC (Cx.lead P ty Y.Wg) (Es Y.Wg)) (AtW3 P ty Y T) g' {c with w:=c.w.setCell (stA Y.Wg) (.int .u64 (v*KK+1))}) /\
 (v≠vs->∃g',aH P ab g c.w=.go g' c.w #[rd (stA Y.Wg)]/\l g' c)
def AtW1(g:av)(s:St):Prop:=g.status=.running/\∀c,(Cx.lead P ty Y.Wg).rely s c->∀v:Nat,v<2147483648->WgAt ty Y.Wg c.w (v*KK) 0 ->
 ∃g',aH P ab g c.w=.go g' c.w #[rd (stA Y.Wg)]/\(v=0->(eC (Cx.lead P ty Y.Wg) (Es Y.Wg)) (AtKe P ty Y T) g' c)/\(v≠0->(eC (Cx.lead P ty Y.Wg) (Es Y.Wg)) (AtW2 P ty Y T l v) g' c)
def AtKd(g:av)(s:St):Prop:=g.status=.running/\∃g',(∀w,aH P ab g w=.go g' w #[mk .disable])/\∀c,(Cx.lead P ty Y.Wg).rely s c->l g' c
def St.child(s:St):St:={β:=[],M:=s.M,w:=s.w,own:=λ_=>False}
def AtGo(j:Nat)(Next:av->St->Prop)(g:av)(s:St):Prop:=g.status=.running/\∀c,(Cx.lead P ty Y.Wg).rely s c ->
 ∃g' child,aH P ab g c.w=.spawn g' child c.w #[]/\child.status=.running/\eC (Cx.work P) E0 (Kl P ty Y N val j) child c.child/\Next g' c
def AtKeS(j:Nat)(Next:av->St->Prop)(g:av)(s:St):Prop:=g.status=.running/\∃g',(∀w,aH P ab g w=.go g' w #[mk .enable])/\∀c,(Cx.lead P ty Y.Wg).rely s c->(eC (Cx.lead P ty Y.Wg) (Es Y.Wg)) (AtGo P ty Y N val j Next) g' c
def AtA1(j:Nat)(Next:av->St->Prop)(g:av)(s:St):Prop:=g.status=.running/\∀c,(Cx.lead P ty Y.Wg).rely s c->∀v:Nat,v<2147483647->WgAt ty Y.Wg c.w (v*KK) 0 ->
 ∃g',aH P ab g c.w=.go g' (c.w.setCell (stA Y.Wg) (.int .u64 ((v+1)*KK))) #[rd (stA Y.Wg),wr (stA Y.Wg)]/\(eC (Cx.lead P ty Y.Wg) (Es Y.Wg)) (AtKeS P ty Y N val j Next) g' {c with w:=c.w.setCell (stA Y.Wg) (.int .u64 ((v+1)*KK))}
def AtKdS(j:Nat)(Next:av->St->Prop)(g:av)(s:St):Prop:=g.status=.running/\∃g',(∀w,aH P ab g w=.go g' w #[mk .disable])/\∀c,(Cx.lead P ty Y.Wg).rely s c->(eC (Cx.lead P ty Y.Wg) (Es Y.Wg)) (AtA1 P ty Y N val j Next) g' c
def Spawns:Nat->av->St->Prop
 |0,g,s=>(eC (Cx.lead P ty Y.Wg) (Es Y.Wg)) (AtKd P ty Y l) g s
 |r+1,g,s=>(eC (Cx.lead P ty Y.Wg) (Es Y.Wg)) (AtKdS P ty Y N val (n-(r+1)) (Spawns r)) g s
def Rk.lift:Rk->Rk
 |.leaf=>.node λ_=>.leaf
 |.node f=>.node λs=>Rk.lift (f s)
omit [Payload]in
def Rk.GH:∀{x r:Rk},Rk.lt x r->Rk.lt x.lift r.lift
 |_,.leaf,h=>h.elim
 |_,.node _,⟨s,h⟩=>⟨s,h.elim (λe=>.inl (by rw[e])) λh=>.inr (Rk.GH h)⟩
omit [Payload]in
def Rk.Kn(s:St):∀r:Rk,∃x,Rk.lt x r.lift
 |.leaf=>⟨.leaf,s,.inl rfl⟩
 |.node f=>⟨(f s).lift,s,.inl rfl⟩
inductive CS:CTag->Nat->Rk->Nat->av->St->Prop
 |skd {r:Nat} {rk:Rk} {g:av} {s:St}:r<n->(kK (Cx.lead P ty Y.Wg) (Es Y.Wg)) (AtKdS P ty Y N val (n-(r+1)) (Spawns P ty Y N val n l r)) rk g s->CS (.sp r 5) (n-(r+1)) rk 0 g s
 |sa1 {r:Nat} {rk:Rk} {g:av} {s:St}:r<n->(kK (Cx.lead P ty Y.Wg) (Es Y.Wg)) (AtA1 P ty Y N val (n-(r+1)) (Spawns P ty Y N val n l r)) rk g s->CS (.sp r 4) (n-(r+1)) rk 1 g s
 |ske {r:Nat} {rk:Rk} {g:av} {s:St}:r<n->(kK (Cx.lead P ty Y.Wg) (Es Y.Wg)) (AtKeS P ty Y N val (n-(r+1)) (Spawns P ty Y N val n l r)) rk g s->CS (.sp r 3) (n-(r+1)) rk 1 g s
 |sgo {r:Nat} {rk:Rk} {g:av} {s:St}:r<n->(kK (Cx.lead P ty Y.Wg) (Es Y.Wg)) (AtGo P ty Y N val (n-(r+1)) (Spawns P ty Y N val n l r)) rk g s->CS (.sp r 2) (n-(r+1)) rk 0 g s
 |kd {rk:Rk} {g:av} {s:St}:(kK (Cx.lead P ty Y.Wg) (Es Y.Wg)) (AtKd P ty Y l) rk g s->CS .kd n rk 0 g s
 |w1 {rk:Rk} {g:av} {s:St}:(kK (Cx.lead P ty Y.Wg) (Es Y.Wg)) (AtW1 P ty Y T l) rk g s->CS .w1 n rk 1 g s
 |w2 {vs:Nat} {rk:Rk} {g:av} {s:St}:(kK (Cx.lead P ty Y.Wg) (Es Y.Wg)) (AtW2 P ty Y T l vs) rk g s->CS (.w2 vs) n rk 1 g s
 |w3 {rk:Rk} {g:av} {s:St}:(kK (Cx.lead P ty Y.Wg) (Es Y.Wg)) (AtW3 P ty Y T) rk g s->CS .w3 n rk.lift 1 g s
 |blk {rk:Rk} {g:av} {s:St}:AtW3 P ty Y T g s->CS .blk n rk 1 {g with status:=.blocked} s
 |w4 {rk:Rk} {g:av} {s:St}:(kK (Cx.lead P ty Y.Wg) (Es Y.Wg)) (AtW4 P ty Y T) rk g s->CS .w4 n rk 1 g s
 |ke {rk:Rk} {g:av} {s:St}:(kK (Cx.lead P ty Y.Wg) (Es Y.Wg)) (AtKe P ty Y T) rk g s->CS .ke n rk 1 g s
 |acq {rk:Rk} {g:av} {s:St}:(kK (Cx.lead P ty Y.Wg) (Es Y.Wg)) (AtAcq P ty Y T) rk g s->CS .acq n rk 0 g s
structure Oy(p:Nat->Nat)(o:Nat->Mem)(m:Machine)(t:Trace):Prop where
 out:∃(gs:Array av) (w:aA) (sl:Option (Nat×Nat)) (a:av) (s:St) (q:Nat->Nat),m=crowd gs w sl/\gs[0]?=aa a/\gs.size=Y.base+n/\T a {s with w:=w}/\cv s {s with w:=w}/\j6 Y p o n s /\
  Leavers P t gs q/\Past (mc λb=>Y.Sh b∨b=Y.Wg) w.heap.size t/\sF t/\PayAt Y.C N w/\(∀x,x<n->∀i,i<Y.kc->w.cell? ⟨Y.C,Y.kc*x+i,af⟩=aa (val x i))/\Y.C<w.heap.size/\Y.Wg<w.heap.size/\∀b,Y.Sh b->b<w.heap.size
abbrev Mu:=Nat×((Nat->Rk)×Rk)
def GI(M:Nat):Mu->Mu->Prop:=Prod.Lex (· < ·) (Prod.Lex (Vec M) Rk.lt)
omit [Payload]in
def Sn(M:Nat):WellFounded (GI M):=(Prod.lex Nat.lt_wfRel ⟨_,(Prod.lex ⟨Vec M,Kk M⟩ ⟨Rk.lt,⟨Rk.acc⟩⟩).wf⟩).wf
structure ub(μ:Mu)(gs:Array av)(w:aA)(t:Trace)(p:Nat->Nat)(o:Nat->Mem)(j:Nat)(D:Nat->WD)(A:Nat->Nat)(K:Nat->Rk)(d0:Nat)(tag:CTag)(rk:Rk)(a:av)(s:St)(st sm:Int):Prop where
 a0:gs[0]?=aa a
 cs:CS P ty Y N val n T l tag j rk d0 a s
 rely:cv s {s with w:=w}
 lead:j6 Y p o j s
 gA:Com P ty Y N val p o j gs w t D A K d0
 wg:WgAt ty Y.Wg w st sm
 mode:Go.ConcN.Mode j D tag st sm
 mu:μ=(phi n (Vc j D) tag+Ssum j D+sumTo j A,(K,rk))
def Inv(i:Mu)(m:Machine)(t:Trace):Prop :=
 ∃(gs:Array av) (w:aA) (sl:Option (Nat×Nat)) (p:Nat->Nat) (o:Nat->Mem) (j:Nat) (D:Nat->WD) (A:Nat->Nat) (K:Nat->Rk) (b:Nat) (tag:CTag) (rk:Rk) (a:av) (s:St) (st sm:Int),
  m=crowd gs w sl/\ub P ty Y N val n T l i gs w t p o j D A K b tag rk a s st sm
end
section
variable {P:ar}{ty:aj}{Y:Lay}{N:Nat}{val:Nat->Nat->ah}{n:Nat}{T l:av->St->Prop}{p hm':Nat->Nat}{o:Nat->Mem}{j:Nat}{tag:CTag}{rk:Rk}{d:Nat}{a:av}{s:St}{w w':aA}
omit [Payload]in
def gd{s:St}(h:cv s {s with w:=w})(B:WgLive ty Y.Wg w):(Cx.lead P ty Y.Wg).rely s {s with w:=w}:=⟨h,λ_=>B⟩
omit [Payload]in
def AtW3.rely{g:av}{c:St}(h:AtW3 P ty Y T g s)(z:(Cx.lead P ty Y.Wg).rely s c):AtW3 P ty Y T g c :=
 ⟨h.1,h.2.1,λs2 u=>h.2.2 s2 ⟨z.1.trans u.1,λx=>u.2 (z.2 x)⟩⟩
def CS.status(h:CS P ty Y N val n T l tag j rk d a s):(a.status=.running/\tag≠.blk)∨(a.status=.blocked/\tag=.blk):=by
 cases h with
 |skd _ h=>exact .inl ⟨h.run λ_ _ x=>x.1,by simp⟩
 |sa1 _ h=>exact .inl ⟨h.run λ_ _ x=>x.1,by simp⟩
 |ske _ h=>exact .inl ⟨h.run λ_ _ x=>x.1,by simp⟩
 |sgo _ h=>exact .inl ⟨h.run λ_ _ x=>x.1,by simp⟩
 |kd h=>exact .inl ⟨h.run λ_ _ x=>x.1,by simp⟩
 |w1 h=>exact .inl ⟨h.run λ_ _ x=>x.1,by simp⟩
 |w2 h=>exact .inl ⟨h.run λ_ _ x=>x.1,by simp⟩
 |w3 h=>exact .inl ⟨h.run λ_ _ x=>x.1,by simp⟩
 |blk h=>grind
 |w4 h=>exact .inl ⟨h.run λ_ _ x=>x.1,by simp⟩
 |ke h=>exact .inl ⟨h.run λ_ _ x=>x.1,by simp⟩
 |acq h=>exact .inl ⟨h.run λ_ _ x=>x.1,by simp⟩
def CS.wokenBy(h:CS P ty Y N val n T l tag j rk d a s)(g g':av)(w':aA):
  ∃tag' rk',CS P ty Y N val n T l tag' j rk' d (woken P g g' w' a) s/\(tag'=tag∨(tag=.blk/\tag'=.w3))/\(mayWake P g=ab->g'.status=.running->tag'≠.blk):=by
 unfold Go.Conc.woken;split
 .rcases h.status with⟨i,b⟩|⟨_,rfl⟩
  .grind [again_running]
  .cases h with
   |blk hb=>exact⟨.w3,Rk.lift .leaf,by rw[again_blocked hb.1 hb.2.1];exact .w3 (show kK _ _ _ .leaf _ _ from hb),.inr ⟨rfl,rfl⟩,λ_ _=>by simp⟩
 grind
def lh{μ:Mu}{gs:Array av}{sl:Option (Nat×Nat)}{t:Trace}{D:Nat->WD}{A:Nat->Nat}{K:Nat->Rk}{st sm:Int}(I:ub P ty Y N val n T l μ gs w t p o j D A K d tag rk a s st sm){x:Nat}(W:x<j){g g':av}{es:Array Event}{a' s' d':Nat}{r':Rk}{F E:Int}(hg:gs[Y.base+x]?=aa g)(hgo:aH P ae g w=.go g' w' es)(hh:∀b,b<w.heap.size->hm' b=p b)(B5:w.heap.size<=w'.heap.size)(L:∀y,y<j->y≠x->H3 Y p (o y) y w w')(J:EF Y p w w')(hws:WS P ty Y N val hm' o x a' s' r' d' g' w')(S:∀e∈es,(aK e).low w'.heap.size)(XO:∀e∈es,∀a,(aK e).touch?=aa a->a.loc.isMemory=ab->rh Y hm' (o x) x a)(X:∀e∈es,∀a,e.loc≠.mark (.release a))(G:deafBehind (D x).deaf es=d')(Q:s'<=6->∃r,RelBy (stA Y.Wg) (t++MemOp.ofEvents (Y.base+x) g.frame.fn g.frame.place es) (Y.base+x) r)(h1:a'=0->∀i,1<=i->i<Y.kc->w'.cell? ⟨Y.C,Y.kc*x+i,af⟩=aa (val x i))(h0:s'<=6->Has Y.C (Y.kc*x) (val x 0) w')(V:PayAt Y.C N w')(U:WgAt ty Y.Wg w' F E)(H:∀tag',(tag'=tag∨(tag=.blk/\tag'=.w3))->(mayWake P g=ab->g'.status=.running->tag'≠.blk)->Go.ConcN.Mode j (upd D x ⟨s',0,d'⟩) tag' F E)(tN:(s'+a'<(D x).stage+A x/\cnt ⟨s',0,d'⟩<=cnt (D x))∨(s'=(D x).stage/\a'=A x/\Rk.lt r' (K (Y.base+x))))(hjn:Y.base+j<=Y.base+n):
  ∃q ops μ',runT P (crowd gs w sl) (Y.base+x)=(.next q,ops)/\GI (Y.base+n) μ' μ/\Inv P ty Y N val n T l μ' q (t++ops):=by
 have hb:=I.gA.tl.base;obtain⟨tag',rk',R,m,Z⟩:=I.cs.wokenBy g g' w';have Yd:(Y.base+x==0)=ae:=by grind
 have O:=runT_crowd_go (P:=P) (sl:=sl) (i:=Y.base+x) hg (by rw[Yd];exact hgo)
 have e1:=Go.ConcN.sumTo_upd D (⟨s',0,d'⟩:WD) cnt W;have e2:=Go.ConcN.sumTo_upd D (⟨s',0,d'⟩:WD) WD.stage W;have e3:sumTo j (upd A x a')+A x=sumTo j A+a':=Go.ConcN.sumTo_upd A a' id W;refine⟨_,_,(phi n (Vc j (upd D x ⟨s',0,d'⟩)) tag'+Ssum j (upd D x ⟨s',0,d'⟩)+sumTo j (upd A x a'),(upd K (Y.base+x) r',rk')),O,?_,
  _,w',sl,hm',o,j,_,_,_,d,tag',rk',woken P g g' w' a,s,F,E,rfl,⟨by rw[Go.ConcN.get_map_set _ _ _ _ (by omega),I.a0];rfl,R,I.lead.Km I.rely J,I.lead.tZ I.rely.size hh,
   I.gA.stepW W hh B5 L hws S XO X G Q h1 h0 V ⟨_,_,U⟩,U,H tag' m Z,rfl⟩⟩
 rw[I.mu,Go.ConcN.phi_retag n _ m];simp only[Vc,Ssum]at *;rcases tN with⟨q1,q2⟩|⟨q1,q2,q3⟩
 .refine Prod.Lex.left _ _ ?_;have:=Go.ConcN.phi_mono n (v':=sumTo j λa=>cnt (upd D x ⟨s',0,d'⟩ a)) (v:=sumTo j λa=>cnt (D a)) (by omega) tag;omega
 .have ec:cnt (⟨s',0,d'⟩:WD)=cnt (D x):=by simp only[cnt,q1]
  have ev:(sumTo j λa=>cnt (upd D x ⟨s',0,d'⟩ a))=sumTo j λa=>cnt (D a):=by omega
  have es':(sumTo j λa=>(upd D x ⟨s',0,d'⟩ a).stage)=sumTo j λa=>(D a).stage:=by omega
  have ea:sumTo j (upd A x a')=sumTo j A:=by omega
  rw[ev,es',ea];exact Prod.Lex.right _ (Prod.Lex.left _ _ ⟨Y.base+x,by omega,by rw[upd_same];exact q3,λk hk=>upd_ne K _ hk⟩)
end
end
section
open Go.Conc
open Go.ConcN (WD CTag Vc Ssum pend phi cnt WgLive PayAt Has RW DWs WSit RelBy sumTo upd upd_same upd_ne AtR0 isW3 isOpen OpenSt deafBehind_idle bk_cell okW_none Vc_upd Vc_le le_sumTo others_uncounted)
open Go.ConcR (KK WgAt stA smA rd wr mk Payload g_of_ofEvents Bk bk_of_mute ofEvent_loc_mark ofEvent_cell)
variable [Payload]
section
variable {P:ar}{ty:aj}{Y:Lay}{N:Nat}{val:Nat->Nat->ah}{n:Nat}{T G:av->St->Prop}{E hm':Nat->Nat}{O:Nat->Mem}{j:Nat}{tag:CTag}{rk:Rk}{d:Nat}{a:av}{s:St}{w w':aA}
omit [Payload]in
def H3.wg(h:Aside Y.Wg w w')(F:E Y.Wg=0)(k:1<=Y.base)(hM:∀b o v,O j b o=aa v->b≠Y.Wg)(hC:Y.C≠Y.Wg):H3 Y E (O j) j w w' :=
 ⟨by rw[h.size];grind,λb _ B8=>h.block b (λe=>by grind),λb o v H V=>by rw[j7 (h.block b (hM b o v H))];exact V,λo _ _=>j7 (h.block _ hC) o,h.os,h.tape,h.output⟩
omit [Payload]in
def EF.wg(h:Aside Y.Wg w w'):EF Y E w w':=⟨by rw[h.size];grind,λb _ _ _ z=>h.block b z,h.os,h.tape,h.output⟩
omit [Payload]in
def EF.refl(w:aA):EF Y E w w:=⟨bc _,λ_ _ _ _ _=>rfl,rfl,rfl,rfl⟩
omit [Payload]in
def Ko{B:Nat}{es:Array Event}(h:∀e∈es,Bk Y.Wg e)(F:Y.Wg<B):∀e∈es,(aK e).low B:=by
 intro e c;rcases h e c with p|p|⟨ad,wr,rfl,J⟩
 .rw[ofEvent_loc_mark p];trivial
 .rw[ofEvent_loc_mark p];trivial
 .rw[ofEvent_cell];show ad.block<B;grind
omit [Payload]in
def Oz{x:Nat}{es:Array Event}(h:∀e∈es,Bk Y.Wg e):∀e∈es,∀a,(aK e).touch?=aa a->a.loc.isMemory=ab->rh Y E (O x) x a:=by
 intro e c b k _;rcases h e c with p|p|⟨ad,wr,rfl,J⟩
 .rw[ofEvent_loc_mark p]at k;cases k
 .rw[ofEvent_loc_mark p]at k;cases k
 .rw[ofEvent_cell]at k;simp only[MemAct.touch?,dw]at k;subst k;exact .inl ⟨ad,rfl,J,rfl⟩
omit [Payload]in
def Cv{es:Array Event}(h:∀e∈es,Bk Y.Wg e):∀e∈es,∀a,e.loc≠.mark (.release a):=by
 intro e c a W;rcases h e c with p|p|⟨ad,wr,rfl,_⟩
 .grind
 .grind
 grind
omit [Payload]in
def OB{x:Nat}{σ σ':List aR}{s2:St}{es:Array Event}(U:mh E (O x) (Y.base+x) s)(S:aF σ s)(R:fg s es)(st:Step σ s σ' s2):
  (∀e∈es,(aK e).low s2.w.heap.size)/\(∀e∈es,∀a,(aK e).touch?=aa a->a.loc.isMemory=ab->rh Y (nU E s.w.heap.size (Y.base+x)) (O x) x a) /\
  (∀e∈es,e.loc≠.mark .disable/\e.loc≠.mark .enable)/\∀e∈es,∀a,e.loc≠.mark (.release a):=by
 have key:∀e∈es,(aK e).low s2.w.heap.size/\(∀a,(aK e).touch?=aa a->a.loc.isMemory=ab->rh Y (nU E s.w.heap.size (Y.base+x)) (O x) x a)/\(e.loc≠.mark .disable/\e.loc≠.mark .enable)/\∀a,e.loc≠.mark (.release a):=by
  intro e c;have h:=R e c;obtain⟨loc,wr,sy⟩:=e;cases loc with
  |cell ad =>
   obtain⟨p,z,l⟩:=h;simp only at p z l;subst p;have u:ad.block<s.w.heap.size:=by
    rcases l with l|⟨⟨L,Q,l⟩,_⟩|⟨_,v,l⟩
    .exact l.elim
    .exact S.lt L Q _ l
    .exact gX.lt S.mem l
   refine⟨by rw[ofEvent_cell];exact c7 u st.size,λb k _=>?_,⟨by simp,by simp⟩,by simp⟩;rw[ofEvent_cell]at k;simp only[MemAct.touch?,dw]at k;subst k;refine .inr ⟨rfl,?_⟩;rcases l with l|⟨⟨L,Q,l⟩,_⟩|⟨Z,v,l⟩
   .exact l.elim
   .exact .inl ⟨ad.block,rfl,by rw[fh u];exact(U.blk _ (.inr ⟨L,Q,l⟩)).1⟩
   .rcases(U.M _ _ _ l).1 with X|X
    .exact .inl ⟨ad.block,rfl,by grind[fh]⟩
    .refine .inr (.inr ⟨Z,ad.block,ad.off,v,?_,X⟩);obtain⟨b,o,sp⟩:=ad;grind
  |obj r =>
   obtain⟨p,z⟩:=h;simp only at p z;subst p;obtain⟨L,Q,l⟩:=z.resolve_left id;have u:=S.lt L Q _ l;refine⟨?_,λb k _=>?_,⟨by simp,by simp⟩,by simp⟩
   .simp[aK,MemAct.low,Loc.low];exact c7 u st.size
   .simp[aK,MemAct.touch?]at k;subst k;exact .inr ⟨rfl,.inl ⟨r,rfl,by rw[fh u];exact(U.blk _ (.inr ⟨L,Q,l⟩)).1⟩⟩
  |mark m =>
   simp only[ox]at h;rcases h with rfl|⟨f,rfl⟩
   .exact⟨by simp[aK,MemAct.low],λb k=>by simp[aK,MemAct.touch?]at k,⟨by simp,by simp⟩,by simp⟩
   .exact⟨by simp[aK,MemAct.low],λb k=>by simp[aK,MemAct.touch?]at k,⟨by simp,by simp⟩,by simp⟩
  |_=>exact h.elim
 grind
def stepWorker{μ:Mu}{gs:Array av}{sl:Option (Nat×Nat)}{t:Trace}{D:Nat->WD}{A:Nat->Nat}{K:Nat->Rk}{st sm:Int}(I:ub P ty Y N val n T G μ gs w t E O j D A K d tag rk a s st sm)(hn:n<2147483648)(hj:j<=n)(hpd:j+pend tag<=n){x:Nat}(hx:x<j){g:av}(hg:gs[Y.base+x]?=aa g)(wS:g.status=.running):
  ∃m₁ ops μ',runT P (crowd gs w sl) (Y.base+x)=(.next m₁,ops)/\GI (Y.base+n) μ' μ/\Inv P ty Y N val n T G μ' m₁ (t++ops):=by
 have Kp:=I.gA.tl.base;obtain⟨g₁,hg₁,hs⟩:=I.gA.wk x hx;obtain rfl:g=g₁:=by grind
 generalize Jv:(D x).stage=sg at hs;generalize hfu:K (Y.base+x)=r at hs;generalize Vm:(D x).deaf=dd at hs;generalize hA:A x=ax at hs;have hdk:Deaf t (Y.base+x)=dd:=by rw[I.gA.deafW x hx,Vm]
 have hVj:=Vc_le j D;have same:∀m' GJ,Go.ConcN.Mode j (upd D x ⟨sg,m',GJ⟩) tag st sm:=λm' GJ=>by have:=I.mode.same (i:=x) m' GJ;grind
 cases hs with
 |@am r g s0 w p z l =>
  rcases p.norm (λs0=>cv s0 {s0 with w:=w}/\mh E (O x) (Y.base+x) s0) (λs0 s' Vn hi=>⟨hi.1.ghost Vn,hi.2.ghost Vn⟩) (λ_ s0 s' Vn hi=>⟨hi.1.forget Vn,hi.2.forget Vn⟩) ⟨z,l⟩with⟨s',⟨k1,k2⟩,j8⟩|⟨_,s',⟨k1,k2⟩,ml⟩
  ·
   obtain⟨g',w2,es,hgo,F,YL,m,hk⟩:=j8.2 w k1 I.gA.pay I.gA.live;have hkc:=I.gA.kc;refine lh I hx hg hgo (hm':=E) (λ_ _=>rfl) (by rw[F.size];grind) (λy hy hyx=>⟨by rw[F.size];grind,λb _ k=>F.block b (λe=>by rw[e,I.gA.tl.hC]at k;omega),λb o v H V=>?_,λo ho1 ho2=>F.out o ?_,F.os,F.tape,F.output⟩)
    ⟨by rw[F.size];grind,λb _ _ z _=>F.block b z,F.os,F.tape,F.output⟩ (.rel hk) (λe c=>?_) (λe c b k _=>?_) (λe c=>?_) ?_ (λh=>absurd h (by decide)) (λ_ i _ hi=>F.new i hi) (λh=>absurd h (by decide)) F.pay
    (I.wg.of_block (F.block _ (Ne.symm I.gA.tl.ne))) (λ_ ht _=>(same _ _).retag ht) (.inl ⟨by omega,by simp[cnt,Jv]⟩) (by omega)
   .rw[j7 (F.block b (I.gA.tl.ms y hy b o v H).2.1)];exact V
   .rcases Nat.lt_or_gt_of_ne hyx with h|h
    .have:=vH Y.kc (show y+1<=x from h);grind
    .have:=vH Y.kc (show x+1<=y from h);grind
   .obtain⟨o,rfl,_⟩:=YL e c;rw[ofEvent_cell];show Y.C<_;rw[F.size];exact I.gA.Eg
   .obtain⟨o,rfl,ho1,ho2⟩:=YL e c;rw[ofEvent_cell]at k;simp only[MemAct.touch?,dw]at k;subst k;exact .inr ⟨rfl,.inr (.inl ⟨o,rfl,ho1,ho2⟩)⟩
   .grind
   .rw[Vm];exact deafBehind_idle (λe c=>by grind) 0
  ·
   obtain⟨g',s2,es,r',hgo,YM,NG,u⟩:=ml _ k1;obtain⟨⟨σ,σ',S,jh,Jw⟩,R⟩:=YM.resolve_right id;have k3:mh E (O x) (Y.base+x) {s' with w:=w}:=k2.rely k1.size;obtain⟨e1,e2,e3,e4⟩:=OB k3 S R Jw;have w8:∀b,b<w.heap.size->E b≠Y.base+x->s2.w.heap[b]?=w.heap[b]?:=λb k B6=>Jw.fy b k λL Q NU=>B6 (k3.blk b (.inr ⟨L,Q,NU⟩)).1;refine lh I hx hg hgo (hm':=nU E w.heap.size (Y.base+x)) (λb k=>fh k) Jw.size (λy hy hyx=>⟨Jw.size,λb k hby=>w8 b k (by omega),λb o v H V=>?_,λo _ _=>j7 (w8 _ I.gA.Eg (by rw[I.gA.tl.hC];omega)) o,Jw.os,Jw.tape,Jw.output⟩)
    ⟨Jw.size,λb k h0 _ _=>w8 b k (by omega),Jw.os,Jw.tape,Jw.output⟩ (.am NG (cv.w7 jh.mem) (k3.step jh Jw)) e1 e2 e4 (by rw[Vm];exact deafBehind_idle e3 0) (λh=>absurd h (by decide)) (λh=>absurd h (by decide)) (λh=>absurd h (by decide)) ?_
    (I.wg.of_block (w8 _ I.gA.BT (by rw[I.gA.tl.Jt];omega))) (λ_ ht _=>(same _ _).retag ht) (.inr ⟨Jv.symm,hA.symm,by grind⟩) (by omega)
   .rw[j7 (w8 b (I.gA.Ox y hy b o v H) (by rw[(I.gA.tl.ms y hy b o v H).1];omega))];exact V
   .obtain⟨cs,c1,c2⟩:=I.gA.pay;exact⟨cs,(w8 _ I.gA.Eg (by rw[I.gA.tl.hC];omega)).trans c1,c2⟩
 |@rel m g w h =>
  rcases Goes.cases h with j8|⟨m',rfl,ml⟩
  ·
   obtain⟨_,adb,g',hgo,m₂,hk⟩:=j8 w (Go.ConcN.RW.refl w);refine lh I hx hg hgo (hm':=E) (λ_ _=>rfl) (bc _) (λy _ _=>.refl ..) (.refl w) (.tail (by decide) (.k1 hk)) (λe c=>?_) (λe c b k _=>?_) (λe c=>?_) (by rw[Vm];rfl) (λ_=>⟨t.size,RelBy.new hdk _ _⟩) (λ_=>I.gA.yD x hx hA) (λ_=>by grind) I.gA.pay I.wg
    (λ_ ht _=>(I.mode.counted hx (by omega) (.inl rfl) _ _).retag ht) (.inl ⟨by omega,by simp[cnt,Jv]⟩) (by omega)
   .simp at c;subst c;exact I.gA.BT
   .simp at c;subst c;simp[mk,aK,MemAct.touch?]at k
   .simp at c;subst c;simp[mk]
  .obtain⟨g',w',es,hgo,⟨rfl,rfl⟩,GK⟩:=ml w (Go.ConcN.RW.refl w);exact lh I hx hg hgo (hm':=E) (λ_ _=>rfl) (bc _) (λy _ _=>.refl ..) (.refl w') (.rel GK) (by simp) (by simp) (by simp) (by rw[Vm];rfl) (λh=>absurd h (by decide)) (λ_=>I.gA.yD x hx hA) (λh=>absurd h (by decide)) I.gA.pay I.wg (λ_ ht _=>(same _ _).retag ht)
    (.inr ⟨Jv.symm,hA.symm,by rw[hfu];exact Rk.EE _ s⟩) (by omega)
 |@tail sg m dd g w h6 h =>
  have QM:∀{g':av} {w':aA} {es:Array Event} {s' m' GJ:Nat} {qW H4:Int},aH P ae g w=.go g' w' es->Aside Y.Wg w w'->WgAt ty Y.Wg w' qW H4->(∀e∈es,Bk Y.Wg e) ->
    (∀jx e,es[jx]?=aa e->(aK e).touch?=af∨0<deafBehind dd (es.extract 0 jx))->s'<=6->WSit P ty Y.Wg Y.C N QK QK 0 (Y.kc*x+1) (val x 0) s' m' GJ g' w'->deafBehind dd es=GJ ->
    (∀tag',(tag'=tag∨(tag=.blk/\tag'=.w3))->(mayWake P g=ab->g'.status=.running->tag'≠.blk)->Go.ConcN.Mode j (upd D x ⟨s',0,GJ⟩) tag' qW H4)->((s'<sg/\cnt ⟨s',0,GJ⟩<=cnt (D x))∨(s'=sg/\m'+1=m)) ->
    ∃m₁ ops μ',runT P (crowd gs w sl) (Y.base+x)=(.next m₁,ops)/\GI (Y.base+n) μ' μ/\Inv P ty Y N val n T G μ' m₁ (t++ops):=by
   intro g' w' es s' m' GJ qW H4 hgo OC Kq H5 hd YN Vo hdd w9 u;obtain⟨cs,YO,YP⟩:=I.gA.pay;refine lh I hx hg hgo (hm':=E) (λ_ _=>rfl) (by rw[OC.size];grind) (λy hy _=>.wg OC I.gA.tl.Jt Kp (λb o v H=>(I.gA.tl.ms y hy b o v H).2.2.1) I.gA.tl.ne) (.wg OC) (.tail YN Vo) (Ko H5 (by rw[OC.size];exact I.gA.BT)) (Oz H5) (Cv H5) (by grind)
    (λ_=>let ⟨r,hr⟩:=I.gA.rel x hx (by omega);⟨r,hr.book hdk _ _ H5 hd⟩) (λ_ i hi1 NI=>(j7 (OC.block _ I.gA.tl.ne) _).trans (I.gA.yD x hx hA i hi1 NI)) (λ_=>(j7 (OC.block _ I.gA.tl.ne) _).trans (I.gA.Cu x hx (by omega))) ⟨cs,(OC.block _ I.gA.tl.ne).trans YO,YP⟩ Kq w9
    (u.imp (λh=>⟨by omega,h.2⟩) λh=>⟨by omega,hA.symm,by rw[hfu,<-h.2];exact Rk.EE _ s⟩) (by omega)
  have book:∀{g':av} {w':aA} {es:Array Event} {s' m' GJ:Nat} {qW H4:Int},aH P ae g w=.go g' w' es->Aside Y.Wg w w'->WgAt ty Y.Wg w' qW H4->(∀e∈es,Bk Y.Wg e) ->
    (∀jx e,es[jx]?=aa e->(aK e).touch?=af∨0<deafBehind dd (es.extract 0 jx))->s'<=6->WSit P ty Y.Wg Y.C N QK QK 0 (Y.kc*x+1) (val x 0) s' m' GJ g' w'->deafBehind dd es=GJ ->
    Go.ConcN.Mode j (upd D x ⟨s',0,GJ⟩) tag qW H4->((s'<sg/\cnt ⟨s',0,GJ⟩<=cnt (D x))∨(s'=sg/\m'+1=m)) ->
    ∃m₁ ops μ',runT P (crowd gs w sl) (Y.base+x)=(.next m₁,ops)/\GI (Y.base+n) μ' μ/\Inv P ty Y N val n T G μ' m₁ (t++ops) :=
   λhgo OC Kq H5 hd YN Vo hdd w9 u=>QM hgo OC Kq H5 hd YN Vo hdd (λ_ ht _=>w9.retag ht) u
  have idle:∀{g':av} {m':Nat},aH P ae g w=.go g' w #[]->WSit P ty Y.Wg Y.C N QK QK 0 (Y.kc*x+1) (val x 0) sg m' dd g' w->m'+1=m ->
    ∃m₁ ops μ',runT P (crowd gs w sl) (Y.base+x)=(.next m₁,ops)/\GI (Y.base+n) μ' μ/\Inv P ty Y N val n T G μ' m₁ (t++ops):=by intro g' m' hgo Vo E;exact book hgo (.refl Y.Wg w) I.wg (by simp) (by simp) h6 Vo rfl (same _ _) (.inr ⟨rfl,E⟩)
  cases h with
  |r0 h=>omega
  |k1 h =>
   rcases Goes.cases h with j8|⟨m',rfl,ml⟩
   .obtain⟨_,g',hgo,m₂,hk⟩:=j8 w (Go.ConcN.RW.refl w);exact book hgo (.refl Y.Wg w) I.wg (by intro e c;simp at c;subst c;exact .inl rfl) (by intro jx e c;exact .inl (by have:=vG c;simp at this;subst this;rfl)) (by decide) (.d1 hk) rfl (I.mode.counted hx (by omega) (.inr rfl) _ _) (.inl ⟨by omega,by simp[cnt,Jv]⟩)
   .obtain⟨g',w',es,hgo,⟨rfl,rfl⟩,GK⟩:=ml w (Go.ConcN.RW.refl w);exact idle hgo (.k1 GK) rfl
  |d1 h =>
   rcases Goes.cases h with j8|⟨m',rfl,ml⟩
   .obtain⟨_,RZ⟩:=j8 w (Go.ConcN.RW.refl w);have AB:=I.wg;have Kr:=I.mode;have XD:cnt (D x)=1:=by simp[cnt,Jv]
    have hV1:1<=Vc j D:=by have:=le_sumTo (f:=λx=>cnt (D x)) hx;simp only[Vc];omega
    have bk2:∀e∈#[rd (stA Y.Wg),wr (stA Y.Wg)],Bk Y.Wg e:=by intro e c;simp at c;rcases c with rfl|rfl<;>exact bk_cell _ _ rfl
    have XP:∀jx e,(#[rd (stA Y.Wg),wr (stA Y.Wg)]:Array Event)[jx]?=aa e->(aK e).touch?=af∨0<deafBehind 1 ((#[rd (stA Y.Wg),wr (stA Y.Wg)]:Array Event).extract 0 jx):=by
     intro jx e c
     match jx,c with
     |0,_=>exact .inr (by simp[deafBehind])
     |1,_=>exact .inr (by simp[deafBehind,rd])
     |jx+2,c=>simp at c
    have hq0:∀q,cnt (⟨1,q,1⟩:WD)=0:=λ_=>rfl;have cm:∀q,OpenSt j D->OpenSt j (upd D x ⟨1,q,1⟩):=λq h a J=>by
     by_cases e:a=x
     .subst e;rw[upd_same];simp
     .rw[upd_ne D _ e];exact h a J
    generalize adf:st=YQ at Kr AB;generalize adg:sm=sm0 at Kr AB;cases Kr with
    |opn p z l =>
     obtain⟨v,H⟩:∃v,Vc j D+pend tag=v+1:=⟨Vc j D+pend tag-1,by omega⟩
     rw[H]at AB;have RN:WgAt ty Y.Wg w (((v:Nat)+1)*KK+((0:Nat):Int)) 0:=by grind
     obtain⟨g',hgo,_,hq⟩:=RZ v 0 (by omega) (by omega) RN;obtain⟨q,hq⟩:=hq (by omega);have Xt:Vc j (upd D x ⟨1,0,1⟩)+pend tag=v:=by have:=Vc_upd D (⟨1,0,1⟩:WD) hx;grind
     refine book hgo (aside_setCell w (stA Y.Wg) _) (AB.setSt _) bk2 XP (by decide) (.quit hq) rfl ?_ (.inl ⟨by omega,by grind⟩);have e:((v:Nat):Int)*KK+((0:Nat):Int)=((Vc j (upd D x ⟨1,0,1⟩)+pend tag:Nat):Int)*KK:=by grind
     rw[e];exact .opn p (cm 0 z) (λvs ev=>by grind)
    |reg p z l =>
     obtain⟨v,H⟩:∃v,Vc j D=v+1:=⟨Vc j D-1,by omega⟩
     rw[H]at AB;have hp:pend tag=0:=by cases tag<;>first|rfl|exact p.elim
     have RN:WgAt ty Y.Wg w (((v:Nat)+1)*KK+((1:Nat):Int)) 0:=by grind
     obtain⟨g',hgo,W,hq⟩:=RZ v 1 (by omega) (by omega) RN;by_cases RI:v=0
     .subst RI;obtain⟨m₂,hk⟩:=W ⟨rfl,rfl⟩;refine book hgo (aside_setCell w (stA Y.Wg) _) (AB.setSt _) bk2 XP (by decide) (.d2 hk) rfl ?_ (.inl ⟨by omega,by simp[cnt]⟩);have Eo:∀a,a<j->a≠x->(D a).stage=1:=λa J e=>by have c0:=others_uncounted hx H XD a J e;have:=z a J;simp only[cnt]at c0;split at c0<;>omega
      have:=Go.ConcN.Mode.last (j:=j) (D:=upd D x ⟨4,0,1⟩) (tag:=tag) x p hx (by rw[upd_same];simp) (λa J e=>by rw[upd_ne D _ e];grind);rw[upd_same]at this;grind
     .obtain⟨q,hq⟩:=hq (by omega);have Xt:Vc j (upd D x ⟨1,0,1⟩)=v:=by have:=Vc_upd D (⟨1,0,1⟩:WD) hx;grind
      refine book hgo (aside_setCell w (stA Y.Wg) _) (AB.setSt _) bk2 XP (by decide) (.quit hq) rfl ?_ (.inl ⟨by omega,by grind⟩);have e:((v:Nat):Int)*KK+((1:Nat):Int)=((Vc j (upd D x ⟨1,0,1⟩):Nat):Int)*KK+1:=by grind
      rw[e];exact .reg p (cm 0 z) (by omega)
    |last L _ z l Z =>
     grind
    |sema z=>have:=z x hx;omega
    |fin _ z=>have:=z x hx;omega
   .obtain⟨g',w',es,hgo,⟨rfl,rfl⟩,GK⟩:=ml w (Go.ConcN.RW.refl w);exact idle hgo (.d1 GK) rfl
  |d2 h =>
   rcases Goes.cases h with j8|⟨m',rfl,ml⟩
   .obtain⟨_,QN⟩:=j8 w (Go.ConcN.RW.refl w);obtain⟨Vp,Eo,e1,e2⟩:=I.mode.isLast hx (by omega);have AB:=I.wg;rw[e1,e2,Jv]at AB;obtain⟨g',hgo,m₂,hk⟩:=QN (by grind);refine book hgo (.refl Y.Wg w) AB (by intro e c;simp at c;subst c;exact bk_cell _ _ rfl) (by intro jx e c;match jx,c with|0,_=>exact .inr (by simp[deafBehind])|jx+1,c=>grind) (by decide) (.d3 hk) rfl ?_ (.inl ⟨by omega,by simp[cnt]⟩);have:=Go.ConcN.Mode.last (j:=j) (D:=upd D x ⟨3,0,1⟩) (tag:=tag) x Vp hx (by rw[upd_same];simp) (λa J e=>by rw[upd_ne D _ e];grind);rw[upd_same]at this;grind
   .obtain⟨g',w',es,hgo,⟨rfl,rfl⟩,GK⟩:=ml w (Go.ConcN.RW.refl w);exact idle hgo (.d2 GK) rfl
  |d3 h =>
   rcases Goes.cases h with j8|⟨m',rfl,ml⟩
   .obtain⟨_,QN⟩:=j8 w (Go.ConcN.RW.refl w);obtain⟨Vp,Eo,e1,e2⟩:=I.mode.isLast hx (by omega);have AB:=I.wg;rw[e1,e2,Jv]at AB;obtain⟨g',hgo,m₂,hk⟩:=QN (by grind);refine book hgo (aside_setCell w (stA Y.Wg) _) (AB.setSt 0) (by intro e c;simp at c;subst c;exact bk_cell _ _ rfl) (by intro jx e c;match jx,c with|0,_=>exact .inr (by simp[deafBehind])|jx+1,c=>grind) (by decide) (.d4 hk) rfl ?_ (.inl ⟨by omega,by simp[cnt]⟩);have:=Go.ConcN.Mode.last (j:=j) (D:=upd D x ⟨2,0,1⟩) (tag:=tag) x Vp hx (by rw[upd_same];simp) (λa J e=>by rw[upd_ne D _ e];grind);rw[upd_same]at this;grind
   .obtain⟨g',w',es,hgo,⟨rfl,rfl⟩,GK⟩:=ml w (Go.ConcN.RW.refl w);exact idle hgo (.d3 GK) rfl
  |d4 h =>
   rcases Goes.cases h with j8|⟨m',rfl,ml⟩
   .obtain⟨_,hmw,QN⟩:=j8 w (Go.ConcN.RW.refl w);obtain⟨Vp,Eo,e1,e2⟩:=I.mode.isLast hx (by omega);have AB:=I.wg;rw[e1,e2,Jv]at AB;obtain⟨g',hgo,q,hq⟩:=QN (by grind);have xa:g'.status=.running:=by
     cases q with
     |zero=>exact absurd hq.2 (by decide)
     |succ q=>exact hq.elim (λx=>absurd x.2 (by decide)) (λx=>x.1)
    refine QM hgo (aside_setCell w (smA Y.Wg) _) (AB.setSm 1) (es:=semEvents (smA Y.Wg)) ?_ ?_ (by decide) (.quit hq) (by simp[deafBehind,semEvents]) ?_ (.inl ⟨by omega,by simp[cnt]⟩)
    .intro e c;simp[semEvents]at c;rcases c with rfl|rfl|rfl|rfl
     .exact .inl rfl
     .exact bk_cell _ _ rfl
     .exact bk_cell _ _ rfl
     .exact .inr (.inl rfl)
    .intro jx e c
     match jx,c with
     |0,c=>simp[semEvents]at c;subst c;exact .inl rfl
     |1,_=>exact .inr (by simp[deafBehind,semEvents])
     |2,_=>exact .inr (by simp[deafBehind,semEvents])
     |3,c=>simp[semEvents]at c;subst c;exact .inl rfl
     |jx+4,c=>simp[semEvents]at c
    .intro tag' ht U;have hnb:=U hmw xa;have e3:tag'=.w3:=by
      rcases ht with rfl|⟨_,rfl⟩
      .cases tag'<;>first|rfl|exact Vp.elim|grind
      .rfl
     subst e3;simp only[cq];exact .sema λa J=>by
      by_cases e:a=x
      .subst e;rw[upd_same]
      .rw[upd_ne D _ e];grind
   .obtain⟨g',w',es,hgo,⟨rfl,rfl⟩,GK⟩:=ml w (Go.ConcN.RW.refl w);exact idle hgo (.d4 GK) rfl
  |quit h =>
   cases m with
   |zero=>rw[h.1]at wS;cases wS
   |succ q =>
    rcases h with⟨hf,_⟩|⟨_,g',es,QO,ml,hq⟩
    .grind
    .have H5:∀e∈es,Bk Y.Wg e:=λe c=>bk_of_mute (QO e c);have hno:∀jx e,es[jx]?=aa e->(aK e).touch?=af∨0<deafBehind dd (es.extract 0 jx):=λjx e c=>.inl (touch_mute (QO e (vG c)));exact book (ml w) (.refl Y.Wg w) I.wg H5 hno (by decide) (.quit hq) rfl (same _ _) (.inr ⟨rfl,rfl⟩)
end
end
section
open Go.Conc
open Go.ConcN (WD CTag Vc Ssum pend phi cnt WgLive PayAt Has RW DWs WSit RelBy sumTo upd upd_same upd_ne AtR0 isW3 isOpen OpenSt deafBehind_idle bk_cell okW_none Vc_upd Vc_le le_sumTo others_uncounted sumTo_upd_out bk_dis bk_en bk_rd bk_rw bk_sem allQuit_of exists_counted)
open Go.ConcR (KK WgAt stA smA rd wr mk Payload g_of_ofEvents Bk bk_of_mute ofEvent_loc_mark ofEvent_cell ofEvent_mk)
variable [Payload]
section
variable {P:ar}{ty:aj}{Y:Lay}{N:Nat}{val:Nat->Nat->ah}{n:Nat}{T k:av->St->Prop}{l hm':Nat->Nat}{z G:Nat->Mem}{j:Nat}{tag:CTag}{rk:Rk}{d:Nat}{a:av}{s:St}{w w':aA}{R:Mu}{gs:Array av}{sl:Option (Nat×Nat)}{t:Trace}{D:Nat->WD}{A:Nat->Nat}{K:Nat->Rk}{st sm:Int}
omit [Payload]in
def TL.congr{B:Nat}(h:TL Y l z t j B)(e:∀y,y<j->G y=z y):TL Y l G t j B :=
 ⟨h.base,h.Jt,h.hC,h.ne,h.QJ,h.Sl,h.Ju,λx H=>by rw[e x H];exact h.ms x H,h.T0,h.nr,h.seen,h.old,h.Sm,h.H0,λi a hi W l=>(h.new i a hi W l).imp id λ⟨x,H,p,F⟩=>⟨x,H,p,by grind⟩,
  λx H=>by rw[e x H];exact h.mw x H,h.over⟩
def WS.congr{x a st d:Nat}{r:Rk}{g:av}(h:WS P ty Y N val l z x a st r d g w)(e:G x=z x):WS P ty Y N val l G x a st r d g w:=by
 cases h with
 |am p F J=>exact .am p F (by grind)
 |rel p=>exact .rel p
 |tail h0 p=>exact .tail h0 p
def Com.congr{q:Nat}(h:Com P ty Y N val l z j gs w t D A K q)(e:∀y,y<j->G y=z y):Com P ty Y N val l G j gs w t D A K q :=
 ⟨h.size,h.lv,h.above,λx H=>let ⟨g,p,F⟩:=h.wk x H;⟨g,p,F.congr (e x H)⟩,h.tl.congr e,h.norel,h.deaf0,h.deafW,h.rel,h.yD,h.Cu,h.pay,h.live,h.BT,h.Eg,h.NJ,h.kc,λy I=>by rw[e y I];exact h.Ox y I⟩
omit [Payload]in
def OD{σ σ':List aR}{s2:St}{es:Array Event}(X:j6 Y l z j s)(V:aF σ s)(O:fg s es)(st:Step σ s σ' s2):
  (∀e∈es,(aK e).low s2.w.heap.size)/\(∀e∈es,∀a,(aK e).touch?=aa a->a.loc.isMemory=ab->sW Y (nU l s.w.heap.size 0) a) /\
  (∀e∈es,∀a,(aK e).touch?=aa a->a.kind=.plain->a.write=ab->∀x,x<j->∀b o v,a.loc=.cell ⟨b,o,af⟩->z x b o≠aa v) /\
  (∀e∈es,e.loc≠.mark .disable/\e.loc≠.mark .enable)/\∀e∈es,∀a,e.loc≠.mark (.release a):=by
 have key:∀e∈es,(aK e).low s2.w.heap.size/\(∀a,(aK e).touch?=aa a->a.loc.isMemory=ab->sW Y (nU l s.w.heap.size 0) a) /\
   (∀a,(aK e).touch?=aa a->a.kind=.plain->a.write=ab->∀x,x<j->∀b o v,a.loc=.cell ⟨b,o,af⟩->z x b o≠aa v)/\(e.loc≠.mark .disable/\e.loc≠.mark .enable)/\∀a,e.loc≠.mark (.release a):=by
  intro e E;have h:=O e E;obtain⟨loc,wr,sy⟩:=e;cases loc with
  |cell ad =>
   obtain⟨p,F,J⟩:=h;simp only at p F J;subst p;have u:ad.block<s.w.heap.size/\l ad.block=0/\ad.block≠Y.C/\ad.block≠Y.Wg/\¬Y.Sh ad.block:=by
    rcases J with J|⟨⟨L,U,J⟩,_⟩|⟨_,v,J⟩
    .exact J.elim
    .obtain⟨k1,Z,Q,k4,k5⟩:=X.blk _ (.inr ⟨L,U,J⟩);grind
    .obtain⟨k1,Z,Q,k4,k5⟩:=X.M _ _ _ J;grind
   refine⟨by rw[ofEvent_cell];exact c7 u.1 st.size,λb c _=>?_,λb c _ hbw x H b' o v hl S=>?_,⟨by simp,by simp⟩,by simp⟩
   .rw[ofEvent_cell]at c;simp only[MemAct.touch?,dw]at c;subst c;exact .inr ⟨ad.block,rfl,by grind[fh],u.2.2.2.1,u.2.2.1,u.2.2.2.2,rfl⟩
   .rw[ofEvent_cell]at c;simp only[MemAct.touch?,dw]at c;subst c;simp only at hbw hl;have hM:=X.ms x H b' o v S;grind
  |obj r =>
   obtain⟨p,F⟩:=h;simp only at p F;subst p;obtain⟨L,U,J⟩:=F.resolve_left id;obtain⟨k1,Z,Q,k4,k5⟩:=X.blk _ (.inr ⟨L,U,J⟩);refine⟨?_,λb c _=>?_,λb c _ _ x _ b' o v hl=>?_,⟨by simp,by simp⟩,by simp⟩
   .simp[aK,MemAct.low,Loc.low];exact c7 k5 st.size
   .simp[aK,MemAct.touch?]at c;subst c;exact .inr ⟨r,rfl,by grind[fh],Q,Z,k4,rfl⟩
   .simp[aK,MemAct.touch?]at c;grind
  |mark m =>
   simp only[ox]at h;rcases h with rfl|⟨f,rfl⟩
   .exact⟨by simp[aK,MemAct.low],λb c=>by simp[aK,MemAct.touch?]at c,λb c=>by simp[aK,MemAct.touch?]at c,⟨by simp,by simp⟩,by simp⟩
   .exact⟨by simp[aK,MemAct.low],λb c=>by simp[aK,MemAct.touch?]at c,λb c=>by simp[aK,MemAct.touch?]at c,⟨by simp,by simp⟩,by simp⟩
  |_=>exact h.elim
 grind
def uc(I:ub P ty Y N val n T k R gs w t l z j D A K d tag rk a s st sm){a':av}{es:Array Event}{tag':CTag}{rk':Rk}{qW H4:Int}{s':St}(hgo:aH P ab a w=.go a' w' es)(V:∀b,b<w.heap.size->hm' b=l b)(B5:w.heap.size<=w'.heap.size)(YR:∀y,y<j->H3 Y l (z y) y w w')(Vl:∀e∈es,(aK e).low w'.heap.size)(htm:∀e∈es,∀a,(aK e).touch?=aa a->a.loc.isMemory=ab->sW Y hm' a)(XO:∀e∈es,∀a,(aK e).touch?=aa a->a.kind=.plain->a.write=ab->∀x,x<j->∀b o v,a.loc=.cell ⟨b,o,af⟩->z x b o≠aa v)(YS:∀e∈es,∀a,e.loc≠.mark (.release a))(Ks:PayAt Y.C N w')(AB:WgAt ty Y.Wg w' qW H4)(H6:CS P ty Y N val n T k tag' j rk' (deafBehind d es) a' s')(Vq:cv s' {s' with w:=w'})(g:j6 Y hm' z j s')(q:Go.ConcN.Mode j D tag' qW H4)(u:phi n (Vc j D) tag'<phi n (Vc j D) tag∨(phi n (Vc j D) tag'=phi n (Vc j D) tag/\Rk.lt rk' rk)):
  ∃m₁ ops μ',runT P (crowd gs w sl) 0=(.next m₁,ops)/\GI (Y.base+n) μ' R/\Inv P ty Y N val n T k μ' m₁ (t++ops):=by
 have c:=I.gA.tl.base;have wS:=runT_crowd_go (P:=P) (sl:=sl) (i:=0) I.a0 (by simpa using hgo)
 refine⟨_,_,(phi n (Vc j D) tag'+Ssum j D+sumTo j A,(K,rk')),wS,?_,_,w',sl,hm',z,j,D,A,K,deafBehind d es,tag',rk',a',s',qW,H4,rfl,
  ⟨Go.ConcN.get_map_set_same _ _ _ (by rw[I.gA.size];omega),H6,Vq,g,I.gA.step0 V B5 YR Vl htm XO YS Ks ⟨_,_,AB⟩,AB,q,rfl⟩⟩
 rw[I.mu];rcases u with h|⟨p,F⟩
 .exact Prod.Lex.left _ _ (by omega)
 .rw[p];exact Prod.Lex.right _ (Prod.Lex.right _ F)
def iJ(I:ub P ty Y N val n T k R gs w t l z j D A K d tag rk a s st sm){a':av}{es:Array Event}{rk':Rk}{s1 s':St}(p:cv s1 {s1 with w:=w})(q:j6 Y l z j s1)(hgo:aH P ab a w=.go a' s'.w es)(YM:rC {s1 with w:=w} s' es∨Es Y.Wg {s1 with w:=w} s' es)(H6:CS P ty Y N val n T k tag j rk' d a' s')(u:Rk.lt rk' rk):
  ∃m₁ ops μ',runT P (crowd gs w sl) 0=(.next m₁,ops)/\GI (Y.base+n) μ' R/\Inv P ty Y N val n T k μ' m₁ (t++ops):=by
 rcases YM with⟨⟨σ,σ',V,jh,g⟩,O⟩|⟨rfl,ad,had,YL⟩
 .have Q:j6 Y l z j {s1 with w:=w}:=q.rely p.size;obtain⟨e1,e2,e3,e4,e5⟩:=OD Q V O g;have w8:∀b,b<w.heap.size->(l b≠0∨b=Y.C∨b=Y.Wg)->s'.w.heap[b]?=w.heap[b]?:=λb c B6=>g.fy b c λL U NU=>by obtain⟨q1,q2,q3,_⟩:=Q.blk b (.inr ⟨L,U,NU⟩);grind
  have Kp:=I.gA.tl.base;refine uc I hgo (hm':=nU l w.heap.size 0) (λb c=>fh c) g.size (λy hy=>⟨g.size,λb c hby=>w8 b c (.inl (by omega)),λb o v S _=>jh.mem b o v (g.mem _ _ _ (q.ms y hy b o v S)),λo _ _=>j7 (w8 _ I.gA.Eg (.inr (.inl rfl))) o,g.os,g.tape,g.output⟩) e1 e2 e3 e5 ?_
   (I.wg.of_block (w8 _ I.gA.BT (.inr (.inr rfl)))) (s':=s') (tag':=tag) (rk':=rk') (by rw[deafBehind_idle e4];exact H6) (cv.w7 jh.mem) (Q.step jh g I.gA.BT I.gA.Eg I.gA.NJ) I.mode (.inr ⟨rfl,u⟩)
  obtain⟨cs,c1,c2⟩:=I.gA.pay;exact⟨cs,(w8 _ I.gA.Eg (.inr (.inl rfl))).trans c1,c2⟩
 .have OE:∀e∈es,e=mk (.read ad)∨e=mk (.write ad):=by grind
  refine uc I hgo (hm':=l) (λb c=>rfl) (bc _) (λy hy=>.refl ..) (λe E=>?_) (λe E b c _=>?_) (λe E b c hk=>?_) (λe E=>?_) I.gA.pay I.wg (s':={s1 with w:=w}) (tag':=tag) (rk':=rk') ?_ (p.trans' ) (q.rely p.size) I.mode (.inr ⟨rfl,u⟩)
  .have hW:=I.gA.BT;rcases OE e E with rfl|rfl<;>(rw[ofEvent_mk];show ad.block<_;grind)
  .rcases OE e E with rfl|rfl<;>(rw[ofEvent_mk]at c;simp[MemAct.touch?]at c;subst c;exact .inl ⟨ad,rfl,had,by simp⟩)
  .rcases OE e E with rfl|rfl<;>(rw[ofEvent_mk]at c;simp[MemAct.touch?]at c;grind)
  .rcases OE e E with rfl|rfl<;>simp[mk]
  .rw[deafBehind_idle (λe E=>by rcases OE e E with rfl|rfl<;>simp[mk])];exact H6
def gN(I:ub P ty Y N val n T k R gs w t l z j D A K d tag rk a s st sm){a':av}{es:Array Event}{tag':CTag}{rk':Rk}{qW H4:Int}{s1:St}(p:cv s1 {s1 with w:=w})(QP:j6 Y l z j s1)(hgo:aH P ab a w=.go a' w' es)(g:Aside Y.Wg w w')(Kq:WgAt ty Y.Wg w' qW H4)(H5:∀e∈es,Bk Y.Wg e)(H6:CS P ty Y N val n T k tag' j rk' (deafBehind d es) a' {s1 with w:=w'})(w9:Go.ConcN.Mode j D tag' qW H4)(u:phi n (Vc j D) tag'<phi n (Vc j D) tag∨(phi n (Vc j D) tag'=phi n (Vc j D) tag/\Rk.lt rk' rk)):
  ∃m₁ ops μ',runT P (crowd gs w sl) 0=(.next m₁,ops)/\GI (Y.base+n) μ' R/\Inv P ty Y N val n T k μ' m₁ (t++ops):=by
 obtain⟨cs,XD,Up⟩:=I.gA.pay;have F:cv s1 {s1 with w:=w'}:=QP.Km p (EF.wg g);refine uc I hgo (hm':=l) (λb c=>rfl) (by rw[g.size];grind) (λy hy=>.wg g I.gA.tl.Jt I.gA.tl.base (λb o v S=>(I.gA.tl.ms y hy b o v S).2.2.1) I.gA.tl.ne) (Ko H5 (by rw[g.size];exact I.gA.BT)) (λe E b c l=>?_) (λe E b c hk=>?_) (Cv H5)
  ⟨cs,(g.block _ I.gA.tl.ne).trans XD,Up⟩ Kq H6 F.trans' (QP.rely F.size) w9 u
 .rcases H5 e E with q|q|⟨ad,wr,rfl,W⟩
  .rw[ofEvent_loc_mark q]at c;cases c
  .rw[ofEvent_loc_mark q]at c;cases c
  .rw[ofEvent_cell]at c;simp only[MemAct.touch?,dw]at c;subst c;exact .inl ⟨ad,rfl,W,by simp⟩
 .rcases H5 e E with q|q|⟨ad,wr,rfl,W⟩
  .rw[ofEvent_loc_mark q]at c;cases c
  .rw[ofEvent_loc_mark q]at c;cases c
  .rw[ofEvent_cell]at c;simp only[MemAct.touch?,dw]at c;grind
end
section
variable {P:ar}{ty:aj}{Y:Lay}{N:Nat}{val:Nat->Nat->ah}{n:Nat}{T k:av->St->Prop}{p hm':Nat->Nat}{u f:Nat->Mem}{j:Nat}{tag:CTag}{rk:Rk}{d:Nat}{a:av}{s:St}{w w':aA}{C:Mu}{gs:Array av}{sl:Option (Nat×Nat)}{t:Trace}{D:Nat->WD}{A:Nat->Nat}{K:Nat->Rk}{st E:Int}
def CS.bound(h:CS P ty Y N val n T k tag j rk d a s):j+pend tag<=n:=by cases h<;>simp only[pend]<;>(try simp)<;>omega
omit [Payload]in
def iK{S:av->St->Prop}(h:kK (Cx.lead P ty Y.Wg) (Es Y.Wg) S rk a s)(l:cv s {s with w:=w})(G:j6 Y p u j s)(live:WgLive ty Y.Wg w):
  (∃s',cv s' {s' with w:=w}/\j6 Y p u j s'/\S a s')∨∃s',cv s' {s' with w:=w}/\j6 Y p u j s'/\∃g' s2 es r',aH P ab a w=.go g' s2.w es/\(rC {s' with w:=w} s2 es∨Es Y.Wg {s' with w:=w} s2 es)/\kK (Cx.lead P ty Y.Wg) (Es Y.Wg) S r' g' s2/\Rk.lt r' rk:=by
 rcases h.norm (λs0=>cv s0 {s0 with w:=w}/\j6 Y p u j s0) (λs0 s' B hi=>⟨hi.1.ghost B,hi.2.ghost B⟩) (λF=>False.elim F) ⟨l,G⟩with⟨s',⟨k1,c⟩,z⟩|⟨_,s',⟨k1,c⟩,z⟩
 .grind
 .exact .inr ⟨s',k1,c,z _ ⟨k1,λ_=>live⟩⟩
def WS.quits{x a st d:Nat}{r:Rk}{g:av}(h:WS P ty Y N val p u x a st r d g w)(b:st=1):∃m,QuitsD P m d g:=by
 cases h with
 |am _ _ _=>cases b
 |rel _=>cases b
 |tail _ h=>exact⟨_,h.quits b⟩
def WS.small{x a st d:Nat}{r:Rk}{g:av}(h:WS P ty Y N val p u x a st r d g w)(b:st=1):a=0:=by
 cases h with
 |am _ _ _=>cases b
 |rel _=>rfl
 |tail _ h=>rfl
def Kt(I:ub P ty Y N val n T k C gs w t p u j D A K d tag rk a s st E)(hn:n<2147483648)(XQ:∀g s,k g s->eC (Cx.lead P ty Y.Wg) (Es Y.Wg) (AtW1 P ty Y T k) g s)(wS:a.status=.running):
  ∃V ops,runT P (crowd gs w sl) 0=(.next V,ops)/\((∃hm' f,Oy P Y N val n T hm' f V (t++ops))∨∃μ',GI (Y.base+n) μ' C/\Inv P ty Y N val n T k μ' V (t++ops)):=by
 have hVj:=Vc_le j D;have Kp:=I.gA.tl.base;have live:=I.gA.live;have fin:∀{X:Prop},(∃V ops μ',runT P (crowd gs w sl) 0=(.next V,ops)/\GI (Y.base+n) μ' C/\Inv P ty Y N val n T k μ' V (t++ops)) ->
   ∃V ops,runT P (crowd gs w sl) 0=(.next V,ops)/\((∃hm' f,Oy P Y N val n T hm' f V (t++ops))∨∃μ',GI (Y.base+n) μ' C/\Inv P ty Y N val n T k μ' V (t++ops)) :=
  λ{_} ⟨V,ops,μ',l,h2,h3⟩=>⟨V,ops,l,.inr ⟨μ',h2,h3⟩⟩
 have hbound:=I.cs.bound;have cs:=I.cs;have O:=I.wg;have J:=I.mode;cases cs with
 |@skd r rk g s hr h =>
  rcases iK h I.rely I.lead live with⟨s',k1,c,_,g',H,hk⟩|⟨s',k1,c,g',s2,es,r',H,R,hk,Q⟩
  .obtain⟨r2,hk⟩:=hk {s' with w:=w} (gd k1 live);exact fin (X:=True) (gN I k1 c (H w) (.refl Y.Wg w) O bk_dis (.sa1 hr hk) (J.reopen ay ay rfl (by simp)) (.inl (by simp only[phi];omega)))
  .exact fin (X:=True) (iJ I k1 c H R (.skd hr hk) Q)
 |@sa1 r rk g s hr h =>
  rcases iK h I.rely I.lead live with⟨s',k1,c,_,U⟩|⟨s',k1,c,g',s2,es,r',H,R,hk,Q⟩
  .obtain⟨ho,e1,e2,_⟩:=J.open_inv ay;rw[e1,e2]at O;obtain⟨a',H,r2,hk⟩:=U {s' with w:=w} (gd k1 live) (Vc (n-(r+1)) D) (by omega) (by simpa[pend]using O);refine fin (X:=True) (gN I k1 c H (aside_setCell w (stA Y.Wg) _) (O.setSt _) bk_rw (.ske hr hk) ?_ (.inl (by simp only[phi];omega)));have e:(((Vc (n-(r+1)) D:Nat):Int)+1)*KK=((Vc (n-(r+1)) D+pend (.sp r 3):Nat):Int)*KK:=by simp[pend]
   rw[e];exact .opn ay ho (by simp)
  .exact fin (X:=True) (iJ I k1 c H R (.sa1 hr hk) Q)
 |@ske r rk g s hr h =>
  rcases iK h I.rely I.lead live with⟨s',k1,c,_,g',H,hk⟩|⟨s',k1,c,g',s2,es,r',H,R,hk,Q⟩
  .obtain⟨r2,hk⟩:=hk {s' with w:=w} (gd k1 live);exact fin (X:=True) (gN I k1 c (H w) (.refl Y.Wg w) O bk_en (.sgo hr hk) (J.reopen ay ay rfl (by simp)) (.inl (by simp only[phi];omega)))
  .exact fin (X:=True) (iJ I k1 c H R (.ske hr hk) Q)
 |@sgo r rk g s hr h =>
  rcases iK h I.rely I.lead live with⟨s',k1,c,_,U⟩|⟨s',k1,c,g',s2,es,r',H,R,hk,Q⟩
  .obtain⟨a',child,hsp,_,⟨rc,hwk⟩,QQ⟩:=U {s' with w:=w} (gd k1 live);obtain⟨ho,e1,e2,_⟩:=J.open_inv ay;rw[e1,e2]at O;have xa:=runT_crowd_spawn (P:=P) (sl:=sl) (i:=0) I.a0 (by simpa using hsp);rw[I.gA.size]at xa;have z:j6 Y p u (n-(r+1)) {s' with w:=w}:=c.rely k1.size;let f:=upd u (n-(r+1)) s'.M;have hMe:∀y,y<n-(r+1)->f y=u y:=λy hy=>upd_ne u _ (by omega);have YT:f (n-(r+1))=s'.M:=upd_same u _ _;have So:cv (St.child {s' with w:=w}) {St.child {s' with w:=w}with w:=w}:=cv.w7 k1.mem;have Vr:mh p (f (n-(r+1))) (Y.base+(n-(r+1))) (St.child {s' with w:=w}):=by
    refine⟨λb hb=>?_,λb o v hv=>⟨.inr (by rw[YT];exact hv),(z.M b o v hv).2.2.2.2⟩⟩;rcases hb with hb|⟨L,hL,_⟩
    .exact hb.elim
    .simp[St.child]at hL
   have GL:=(I.gA.congr hMe).spawn (a':=a') (x:={g:=0,fn:=a.frame.fn,pos:=a.frame.place,act:=.go (Y.base+(n-(r+1)))}) (y:={g:=Y.base+(n-(r+1)),fn:=child.frame.fn,pos:=a.frame.place,act:=.start}) ⟨rfl,rfl⟩ ⟨rfl,rfl⟩
    (λb o v hv=>by rw[YT]at hv;exact z.M b o v hv) hwk So Vr
   have eV:Vc (n-(r+1)+1) (upd D (n-(r+1)) ⟨7,0,0⟩)=Vc (n-(r+1)) D+1:=by simp only[Vc,sumTo,upd_same];rw[sumTo_upd_out D _ cnt (bc _)];rfl
   have eS:Ssum (n-(r+1)+1) (upd D (n-(r+1)) ⟨7,0,0⟩)=Ssum (n-(r+1)) D+7:=by simp only[Ssum,sumTo,upd_same];rw[sumTo_upd_out D _ WD.stage (bc _)]
   have eA:sumTo (n-(r+1)+1) (upd A (n-(r+1)) 1)=sumTo (n-(r+1)) A+1:=by have:sumTo (n-(r+1)) (upd A (n-(r+1)) 1)=sumTo (n-(r+1)) A:=sumTo_upd_out A 1 id (i:=n-(r+1)) (j:=n-(r+1)) (bc _);show sumTo (n-(r+1)) (upd A (n-(r+1)) 1)+upd A (n-(r+1)) 1 (n-(r+1))=_;rw[upd_same];grind
   have XR:OpenSt (n-(r+1)+1) (upd D (n-(r+1)) ⟨7,0,0⟩):=λi hi=>by
    by_cases e:i=n-(r+1)
    .subst e;rw[upd_same];simp
    .rw[upd_ne D _ e];exact ho i (by omega)
   have YU:((gs.setIfInBounds 0 a').push child)[0]?=aa a':=by
    have h0:0<gs.size:=by rw[I.gA.size];omega
    grind
   have Z:j6 Y p f (n-(r+1)+1) {s' with w:=w}:=⟨z.blk,z.M,λy hy b o v hv=>by
    rcases cM y (n-(r+1))with l|l
    .rw[hMe y l]at hv;exact z.ms y l b o v hv
    .obtain rfl:y=n-(r+1):=by omega
     rw[YT]at hv;exact hv⟩
   have ej:n-(r+1)+1=n-r:=by omega
   rw[ej]at GL eV eS eA XR Z;have YV:∀tag',pend tag'=0->((Vc (n-(r+1)) D+pend (.sp r 2):Nat):Int)*KK=((Vc (n-r) (upd D (n-(r+1)) ⟨7,0,0⟩)+pend tag':Nat):Int)*KK:=λtag' hp=>by rw[eV,hp];simp[pend]
   cases r with
   |zero =>
    obtain⟨r3,hk⟩:=QQ;simp only[lU]at GL eV eS eA XR YV Z;refine⟨_,_,xa,.inr ⟨(phi n (Vc n (upd D (n-(0+1)) ⟨7,0,0⟩)) .kd+Ssum n (upd D (n-(0+1)) ⟨7,0,0⟩)+sumTo n (upd A (n-(0+1)) 1),(upd K (Y.base+(n-(0+1))) rc,r3)),by rw[I.mu];exact Prod.Lex.left _ _ (by simp only[phi];omega),
     _,w,sl,p,f,n,_,_,_,0,.kd,r3,a',{s' with w:=w},_,_,rfl,⟨YU,.kd hk,k1.trans',Z,GL,O,?_,rfl⟩⟩⟩
    rw[YV .kd rfl];exact .opn ay XR (by simp)
   |succ r' =>
    obtain⟨r3,hk⟩:=QQ;refine⟨_,_,xa,.inr ⟨(phi n (Vc (n-(r'+1)) (upd D (n-(r'+1+1)) ⟨7,0,0⟩)) (.sp r' 5)+Ssum (n-(r'+1)) (upd D (n-(r'+1+1)) ⟨7,0,0⟩)+sumTo (n-(r'+1)) (upd A (n-(r'+1+1)) 1),(upd K (Y.base+(n-(r'+1+1))) rc,r3)),by rw[I.mu];exact Prod.Lex.left _ _ (by simp only[phi];omega),
     _,w,sl,p,f,n-(r'+1),_,_,_,0,.sp r' 5,r3,a',{s' with w:=w},_,_,rfl,⟨YU,.skd (by omega) hk,k1.trans',Z,GL,O,?_,rfl⟩⟩⟩
    rw[YV (.sp r' 5) rfl];exact .opn ay XR (by simp)
  .exact fin (X:=True) (iJ I k1 c H R (.sgo hr hk) Q)
 |kd h =>
  rcases iK h I.rely I.lead live with⟨s',k1,c,_,g',H,hk⟩|⟨s',k1,c,g',s2,es,r',H,R,hk,Q⟩
  .obtain⟨r2,hk⟩:=XQ _ _ (hk {s' with w:=w} (gd k1 live));exact fin (X:=True) (gN I k1 c (H w) (.refl Y.Wg w) O bk_dis (.w1 hk) (J.reopen ay ay rfl (by simp)) (.inl (by simp only[phi];omega)))
  .exact fin (X:=True) (iJ I k1 c H R (.kd hk) Q)
 |w1 h =>
  rcases iK h I.rely I.lead live with⟨s',k1,c,_,U⟩|⟨s',k1,c,g',s2,es,r',H,R,hk,Q⟩
  .obtain⟨ho,e1,e2,_⟩:=J.open_inv ay;rw[e1,e2]at O;have hV:=Vc_le n D;obtain⟨a',H,h0,B6⟩:=U {s' with w:=w} (gd k1 live) (Vc n D) (by omega) (by grind);by_cases hv:Vc n D=0
   .obtain⟨r2,hk⟩:=h0 hv;refine fin (X:=True) (gN I k1 c H (.refl Y.Wg w) O bk_rd (.ke hk) ?_ (.inl (by simp only[phi];omega)));have e:((Vc n D+pend .w1:Nat):Int)*KK=0:=by grind
    rw[e];exact .fin ay (allQuit_of ho hv)
   .obtain⟨r2,hk⟩:=B6 hv;refine fin (X:=True) (gN I k1 c H (.refl Y.Wg w) O bk_rd (.w2 hk) ?_ (.inl (by simp only[phi];omega)));have:=J.reopen (tag':=.w2 (Vc n D)) ay ay rfl (λvs e=>by grind);grind
  .exact fin (X:=True) (iJ I k1 c H R (.w1 hk) Q)
 |@w2 vs rk g s h =>
  rcases iK h I.rely I.lead live with⟨s',k1,c,_,U⟩|⟨s',k1,c,g',s2,es,r',H,R,hk,Q⟩
  .obtain⟨ho,e1,e2,YW⟩:=J.open_inv ay;rw[e1,e2]at O;obtain⟨hle,l⟩:=YW vs rfl;obtain⟨YX,Vs⟩:=U {s' with w:=w} (gd k1 live) (Vc n D) (by omega) (by grind);by_cases e:Vc n D=vs
   .obtain⟨a',H,r2,hk⟩:=YX e;exact fin (X:=True) (gN I k1 c H (aside_setCell w (stA Y.Wg) _) (O.setSt _) bk_rw (.w3 hk) (.reg ay ho (by omega)) (.inl (by simp only[phi];omega)))
   .obtain⟨a',H,hk⟩:=Vs e;obtain⟨r2,hk⟩:=XQ _ _ hk;refine fin (X:=True) (gN I k1 c H (.refl Y.Wg w) O bk_rd (.w1 hk) ?_ (.inl (by simp only[phi];omega)));have:=J.reopen (tag':=.w1) ay ay rfl (by simp);grind
  .exact fin (X:=True) (iJ I k1 c H R (.w2 hk) Q)
 |@w3 rk g s h =>
  rcases iK h I.rely I.lead live with⟨s',k1,c,j8⟩|⟨s',k1,c,g',s2,es,r',H,R,hk,Q⟩
  .obtain⟨_,U2,U⟩:=j8;obtain⟨OF,QR⟩:=U {s' with w:=w} (gd k1 live);obtain⟨x,hx⟩:=Rk.Kn s rk;have Vt:AtW3 P ty Y T a {s' with w:=w}:=AtW3.rely ⟨wS,U2,U⟩ (gd k1 live);generalize st=YQ at J O;generalize E=sm0 at J O;cases J with
   |opn l _ _=>exact l.elim
   |reg l h2 h3=>exact fin (X:=True) (gN I k1 c (OF ⟨_,O⟩) (.refl Y.Wg w) O (by simp) (.blk (rk:=x) Vt) (.reg ay h2 h3) (.inr ⟨rfl,hx⟩))
   |last L l h2 h3 h4=>exact fin (X:=True) (gN I k1 c (OF ⟨_,O⟩) (.refl Y.Wg w) O (by simp) (.blk (rk:=x) Vt) (.last L ay h2 h3 h4) (.inr ⟨rfl,hx⟩))
   |sema h2 =>
    obtain⟨a',H,r2,hk⟩:=QR O;exact fin (X:=True) (gN I k1 c H (aside_setCell w (smA Y.Wg) _) (O.setSm 0) bk_sem (.w4 hk) (.fin ay h2) (.inl (by simp only[phi];omega)))
   |fin l _=>exact l.elim
  .exact fin (X:=True) (iJ I k1 c H R (.w3 hk) (Rk.GH Q))
 |blk h=>grind
 |w4 h =>
  rcases iK h I.rely I.lead live with⟨s',k1,c,_,U⟩|⟨s',k1,c,g',s2,es,r',H,R,hk,Q⟩
  .obtain⟨hq,e1,e2⟩:=J.fin_inv ay;rw[e1,e2]at O;obtain⟨a',H,r2,hk⟩:=U {s' with w:=w} (gd k1 live) O;exact fin (X:=True) (gN I k1 c H (.refl Y.Wg w) O bk_rd (.ke hk) (.fin ay hq) (.inl (by simp only[phi];omega)))
  .exact fin (X:=True) (iJ I k1 c H R (.w4 hk) Q)
 |ke h =>
  rcases iK h I.rely I.lead live with⟨s',k1,c,_,g',H,hk⟩|⟨s',k1,c,g',s2,es,r',H,R,hk,Q⟩
  .obtain⟨r2,hk⟩:=hk {s' with w:=w} (gd k1 live);obtain⟨hq,e1,e2⟩:=J.fin_inv ay;rw[e1,e2]at O;exact fin (X:=True) (gN I k1 c (H w) (.refl Y.Wg w) O bk_en (.acq hk) (.fin ay hq) (.inl (by simp only[phi];omega)))
  .exact fin (X:=True) (iJ I k1 c H R (.ke hk) Q)
 |acq h =>
  rcases iK h I.rely I.lead live with⟨s',k1,c,_,a',H,hk⟩|⟨s',k1,c,g',s2,es,r',H,R,hk,Q⟩
  .obtain⟨hq,e1,e2⟩:=J.fin_inv ay;have xa:=runT_crowd_go (P:=P) (sl:=sl) (i:=0) I.a0 (by simpa using H w);have ev:MemOp.ofEvents 0 a.frame.fn a.frame.place #[mk (.acquire (stA Y.Wg))]=#[{g:=0,fn:=a.frame.fn,pos:=a.frame.place,act:=.mark (.acquire (stA Y.Wg))}]:=by rw[ofEvents_eq];simp[ofEvent_mk]
   have W:=I.gA.step0 (g:=a) (g':=a') (fn:=a.frame.fn) (pos:=a.frame.place) (es:=#[mk (.acquire (stA Y.Wg))]) (hm':=p) (w':=w) (λ_ _=>rfl) (bc _) (λy _=>.refl ..) (by simp;exact I.gA.BT) (by intro e he b hb;simp at he;subst he;simp[mk,aK,MemAct.touch?]at hb) (by intro e he b hb;simp at he;subst he;simp[mk,aK,MemAct.touch?]at hb) (by intro e he;simp at he;subst he;simp[mk]) I.gA.pay live;have hd0:deafBehind 0 #[mk (.acquire (stA Y.Wg))]=0:=rfl;have hy:(t++#[({g:=0,fn:=a.frame.fn,pos:=a.frame.place,act:=.mark (.acquire (stA Y.Wg))}:MemOp)])[t.size]?=aa {g:=0,fn:=a.frame.fn,pos:=a.frame.place,act:=.mark (.acquire (stA Y.Wg))}:=by simp
   have Vu:=W.tl.YJ (by rw[W.deaf0];rfl) (W.norel _) (q:=t.size) (by rw[ev,act?_of hy]) (by rw[ev];simp[Trace.g?]) (by rw[ev];exact⟨0,by simp[Trace.g?],by rw[deaf_old (bc _)];exact I.gA.deaf0⟩) (λx hx=>by
    obtain⟨r,hr⟩:=I.gA.rel x hx (by rw[hq x hx];omega)
    exact⟨r,hr.appOther g_of_ofEvents (by omega),lt_of_act? hr.act⟩)
   have HL:∃q,Leavers P (t++MemOp.ofEvents 0 a.frame.fn a.frame.place #[mk (.acquire (stA Y.Wg))]) ((gs.map (woken P a a' w)).setIfInBounds 0 a') q:=by
    have each:∀i,∃m,∀g,0<i->((gs.map (woken P a a' w)).setIfInBounds 0 a')[i]?=aa g->QuitsD P m (Deaf (t++MemOp.ofEvents 0 a.frame.fn a.frame.place #[mk (.acquire (stA Y.Wg))]) i) g:=by
     intro i;cases RY:((gs.map (woken P a a' w)).setIfInBounds 0 a')[i]? with
     |none=>exact⟨0,λg _ B=>by cases B⟩
     |some g =>
      rcases nj i with e|Ku
      .exact⟨0,λg' h=>by omega⟩
      .rcases cM i Y.base with Q|Ux
       .obtain⟨m,_,YY⟩:=W.lv i g Ku Q RY;exact⟨m,λg' _ GK=>by grind⟩
       .obtain⟨x,rfl⟩:∃x,i=Y.base+x:=⟨i-Y.base,by omega⟩
        have hx:x<n:=by have:=(iA.1 RY).1;rw[W.size]at this;omega
        obtain⟨g0,yE,YZ⟩:=W.wk x hx;rw[RY]at yE;cases yE;obtain⟨m,YY⟩:=YZ.quits (hq x hx);refine⟨m,λg' _ GK=>?_⟩;cases GK;rw[W.deafW x hx];exact YY
    exact⟨λi=>Classical.choose (each i),λi g hi B=>Classical.choose_spec (each i) g hi B,λi hi=>W.above i (by rw[W.size]at hi;exact hi)⟩
   obtain⟨q,HL⟩:=HL;refine⟨_,_,xa,.inl ⟨p,u,⟨_,w,sl,a',s',q,rfl,Go.ConcN.get_map_set_same _ _ _ (by rw[I.gA.size];omega),W.size,hk {s' with w:=w} (gd k1 live),k1,c,HL,Vu,W.norel,I.gA.pay,λx hx i hi=>?_,I.gA.Eg,I.gA.BT,I.gA.NJ⟩⟩⟩;obtain⟨g0,_,YZ⟩:=I.gA.wk x hx;rcases nj i with e|Ku
   .subst e;exact I.gA.Cu x hx (by rw[hq x hx];omega)
   .exact I.gA.yD x hx (YZ.small (hq x hx)) i Ku hi
  .exact fin (X:=True) (iJ I k1 c H R (.acq hk) Q)
end
end
section
open Go.Conc
open Go.ConcN (WD CTag Vc Ssum pend phi cnt WgLive PayAt Has WSit RelBy sumTo upd upd_same upd_ne exists_counted)
open Go.ConcR (KK WgAt stA smA Payload)
variable [Payload]
section
variable {P:ar}{ty:aj}{Y:Lay}{N:Nat}{val:Nat->Nat->ah}{n:Nat}{T c:av->St->Prop}{l:Nat->Nat}{p:Nat->Mem}{j:Nat}{tag:CTag}{rk:Rk}{d:Nat}{a:av}{s:St}{w:aA}{f:Mu}{gs:Array av}{sl:Option (Nat×Nat)}{t:Trace}{D:Nat->WD}{A:Nat->Nat}{K:Nat->Rk}{st u:Int}
def WS.running_of{x a st d:Nat}{r:Rk}{g:av}(h:WS P ty Y N val l p x a st r d g w)(b:st≠1):g.status=.running:=by
 cases h with
 |am h1 _ _=>exact h1.run λ_ _ x=>x.1
 |rel h1=>exact Goes.running (λ_ _ x=>x.1) w (Go.ConcN.RW.refl w) h1
 |tail _ h1=>exact h1.running_of b
def someone_runs(I:ub P ty Y N val n T c f gs w t l p j D A K d tag rk a s st u):∃(i:Nat)(g:av),gs[i]?=aa g/\g.status=.running:=by
 rcases I.cs.status with⟨e,_⟩|⟨_,rfl⟩
 .exact⟨0,a,I.a0,e⟩
 .have b:=I.mode;cases b with
  |opn h1 _ _=>exact h1.elim
  |reg _ _ k =>
   obtain⟨i,hi,o⟩:=exists_counted k;obtain⟨g,h,e⟩:=I.gA.wk i hi;exact⟨_,g,h,e.running_of (by omega)⟩
  |last L _ m k _ =>
   obtain⟨g,h,e⟩:=I.gA.wk L m;exact⟨_,g,h,e.running_of (by omega)⟩
  |fin h1 _=>exact h1.elim
def all_awake(I:ub P ty Y N val n T c f gs w t l p j D A K d tag rk a s st u):∀g∈gs,awake g:=by
 intro g v z;obtain⟨i,hi⟩:=Array.mem_iff_getElem?.1 v;rcases nj i with rfl|e
 .rw[I.a0]at hi;cases hi;rcases I.cs.status with⟨k,_⟩|⟨k,_⟩<;>rw[k]<;>simp
 .rcases cM i Y.base with o|q
  .obtain⟨m,_,y⟩:=I.gA.lv i g e o hi;rcases y.status with h|h<;>rw[h]<;>simp
  .obtain⟨x,rfl⟩:∃x,i=Y.base+x:=⟨i-Y.base,by omega⟩
   have r:x<j:=by have:=(iA.1 hi).1;rw[I.gA.size]at this;omega
   obtain⟨g',b,k⟩:=I.gA.wk x r;rw[hi]at b;cases b;rcases k.status with h|h<;>rw[h]<;>simp
def ub.at(I:ub P ty Y N val n T c f gs w t l p j D A K d tag rk a s st u)(b:Nat):ub P ty Y N val n T c f gs (w.at b) t l p j D A K d tag rk a s st u :=
 ⟨I.a0,I.cs,I.rely.more (bc _) (λ_ _=>rfl) (λ_ _ _ _ h=>h) rfl rfl rfl,I.lead,I.gA.at b,I.wg,I.mode,I.mu⟩
def EG(I:ub P ty Y N val n T c f gs w t l p j D A K d tag rk a s st u){i:Nat}(hi:0<i)(x:i<Y.base){g:av}(C:gs[i]?=aa g)(h:g.status=.running):
  ∃o ops μ',runT P (crowd gs w sl) i=(.next o,ops)/\GI (Y.base+n) μ' f/\Inv P ty Y N val n T c μ' o (t++ops):=by
 obtain⟨m,F,E⟩:=I.gA.lv i g hi x C;cases m with
 |zero=>rw[E.1]at h;cases h
 |succ m =>
  rcases E with⟨H,_⟩|⟨_,g',es,z,v,y⟩
  .grind
  .have B:(i==0)=ae:=by grind
   have q:=runT_crowd_go (P:=P) (sl:=sl) (i:=i) C (by rw[B];exact v w)
   obtain⟨tag',rk',r,e,G⟩:=I.cs.wokenBy g g' w;have b:Go.ConcN.Mode j D tag' st u:=I.mode.retag e;refine⟨_,_,(phi n (Vc j D) tag'+Ssum j D+sumTo j A,(upd K i (Rk.nat m),rk')),q,?_,_,w,sl,l,p,j,D,A,_,d,tag',rk',woken P g g' w a,s,st,u,rfl,
    ⟨by rw[Go.ConcN.get_map_set _ _ _ _ (by omega),I.a0];rfl,r,I.rely,I.lead,I.gA.leave hi x z y,I.wg,b,rfl⟩⟩
   rw[I.mu,Go.ConcN.phi_retag n _ e];exact Prod.Lex.right _ (Prod.Lex.left _ _ ⟨i,by omega,by rw[upd_same,F];exact Rk.EE _ s,λk hk=>upd_ne K _ hk⟩)
def Kv(C:n<2147483648)(z:∀g s,c g s->eC (Cx.lead P ty Y.Wg) (Es Y.Wg) (AtW1 P ty Y T c) g s){m:Machine}(h:Inv P ty Y N val n T c f m t):
  ∃b ops,stepT P m=(.next b,ops)/\((∃hm' OG,Oy P Y N val n T hm' OG b (t++ops))∨∃k,GI (Y.base+n) k f/\Inv P ty Y N val n T c k b (t++ops)):=by
 obtain⟨gs,w,sl,l,p,j,D,A,K,O,tag,rk,a,s,st,u,rfl,I⟩:=h;obtain⟨i,g,G,o,v,e,q⟩:=crowd_pick (P:=P) (w:=w) (sl:=sl) (all_awake I) (someone_runs I);rw[q];have y:=I.at G;have F:j<=n:=by have:=I.cs.bound;omega
 rcases nj i with rfl|r
 .rw[I.a0]at v;cases v;exact Kt (sl:=o) y C z e
 .rcases cM i Y.base with B|E
  .obtain⟨b,ops,k,M,L,J⟩:=EG (sl:=o) y r B v e;grind
  .obtain⟨x,rfl⟩:∃x,i=Y.base+x:=⟨i-Y.base,by omega⟩
   have H:x<j:=by have:=(iA.1 v).1;rw[I.gA.size]at this;omega
   obtain⟨b,ops,k,M,L,J⟩:=stepWorker (sl:=o) y C F I.cs.bound H v e;grind
def H7(z:n<2147483648)(o:∀g s,c g s->eC (Cx.lead P ty Y.Wg) (Es Y.Wg) (AtW1 P ty Y T c) g s):∀(f:Mu)(m:Machine)(t:Trace),Inv P ty Y N val n T c f m t ->
  ∃M i k hm' OG,runNT P M m t=(.next i,k)/\Oy P Y N val n T hm' OG i k:=by
 intro f;induction(Sn (Y.base+n)).apply f with
 |intro f _ y =>
  intro m t h;obtain⟨b,ops,r,e⟩:=Kv z o h;rcases e with⟨hm',OG,e⟩|⟨q,e,v⟩
  .exact⟨1,b,t++ops,hm',OG,by simp[runNT,r],e⟩
  .obtain⟨M,i,k,hm',OG,k1,x⟩:=y q e b (t++ops) v;exact⟨M+1,i,k,hm',OG,by simp only[runNT,r];exact k1,x⟩
def UR.fork{g:av}{s s0:St}{T':av->St->Prop}(kc:Nat)(hkc:0<kc)(Wg C:Nat)(hn:n<2147483648)(B6:C≠Wg)(hg:eF s s0)(wS:g.status=.running)(hC:∃L∈s.β,C∈L.bs)(hW:∃L∈s.β,Wg∈L.bs)(B:∀b,(s.own b∨∃L∈s.β,b∈L.bs)->b<s.w.heap.size)(h0:∀b,(b=C∨b=Wg)->¬s0.own b/\(∀L∈s0.β,b∉L.bs)/\∀o,s0.M b o=af)(S:WgAt ty Wg s.w 0 0)(Ks:PayAt C N s.w)(h:∀Y:Lay,Y.Wg=Wg->Y.C=C->Y.kc=kc->∃T c,(∀g s,c g s->eC (Cx.lead P ty Y.Wg) (Es Y.Wg) (AtW1 P ty Y T c) g s)/\Spawns P ty Y N val n c n g s0 /\
   ∀g' s',T g' s'->gX s'->PayAt C N s'.w->(∀x,x<n->∀i,i<kc->s'.w.cell? ⟨C,kc*x+i,af⟩=aa (val x i))->C<s'.w.heap.size->(∀b,(b=C∨b=Wg)->¬s'.own b/\(∀L∈s'.β,b∉L.bs)/\∀o,s'.M b o=af) ->
    ∃s2,T' g' s2/\s2.w=s'.w/\gX s2/\∀Sh:Nat->Prop,Clear Sh s'->¬Sh C->Clear Sh s2):UR P g s T':=by
 intro Sh gs sl t q l ha I hP hc YS;have Z:¬Sh C:=λhs=>let ⟨L,I,m⟩:=hC;hc.β C hs L I m
 have Y0:¬Sh Wg:=λhs=>let ⟨L,I,m⟩:=hW;hc.β Wg hs L I m
 have X:=B C (.inr hC);have Y1:=B Wg (.inr hW);have Ku:1<=gs.size:=(iA.1 ha).1;let Y:Lay:={Sh:=Sh,T0:=t.size,Wg:=Wg,C:=C,base:=gs.size,kc:=kc}
 obtain⟨T,c,XQ,z,Y2⟩:=h Y rfl rfl rfl;have R:=hc.ghost hg;have OE:gX s0:=.ghost hg;have F:j6 Y (λ_=>0) (λ_ _ _=>af) 0 s0:=by
  refine⟨λb m=>⟨rfl,λe=>?_,λe=>?_,λe=>?_,by rw[hg.w];exact B b (hg.blk b m)⟩,λb o v V=>⟨rfl,λe=>?_,λe=>?_,λe=>?_,gX.lt OE V⟩,λx y=>absurd y (fX x)⟩
  .grind
  .grind
  .rcases m with m|⟨L,I,m⟩
   .exact R.own b e m
   .exact R.β b e L I m
  .grind
  .grind
  .rw[R.M b e o]at V;cases V
 have Q:Com P ty Y N val (λ_=>0) (λ_ _ _=>af) 0 gs s.w t (λ_=>⟨0,0,0⟩) (λ_=>0) (λi=>Rk.nat (q i)) 0 :=
  ⟨rfl,λi g hi _ RY=>⟨q i,rfl,I.old i g hi RY⟩,I.above,λx y=>absurd y (fX x),TL.start hP rfl Ku B6 Y0 Z,YS,hP.hears,λx y=>absurd y (fX x),λx y=>absurd y (fX x),λx y=>absurd y (fX x),λx y=>absurd y (fX x),
   Ks,⟨_,_,S⟩,Y1,X,hc.lt,hkc,λx y=>absurd y (fX x)⟩
 have O:cv s0 {s0 with w:=s.w}:=by have:=cv.w7 OE;rw[<-hg.w];exact this
 have G:∃f,Inv P ty Y N val n T c f (crowd gs s.w sl) t:=by
  cases n with
  |zero =>
   obtain⟨r,z⟩:=z;exact⟨_,gs,s.w,sl,_,_,0,_,_,_,0,.kd,r,g,s0,_,_,rfl,⟨ha,.kd z,O,F,Q,S,by have:=Go.ConcN.Mode.opn (j:=0) (D:=λ_=>(⟨0,0,0⟩:WD)) (tag:=.kd) ay (λi hi=>absurd hi (fX i)) (by simp);simpa[Vc,sumTo,pend]using this,rfl⟩⟩
  |succ n =>
   obtain⟨r,z⟩:=z;have W:CS P ty Y N val (n+1) T c (.sp n 5) (n+1-(n+1)) r 0 g s0:=.skd (Nat.lt_succ_self n) z;rw[Nat.sub_self]at W;exact⟨_,gs,s.w,sl,_,_,0,_,_,_,0,.sp n 5,r,g,s0,_,_,rfl,⟨ha,W,O,F,Q,S,by have:=Go.ConcN.Mode.opn (j:=0) (D:=λ_=>(⟨0,0,0⟩:WD)) (tag:=.sp n 5) ay (λi hi=>absurd hi (fX i)) (by simp);simpa[Vc,sumTo,pend]using this,rfl⟩⟩
 obtain⟨f,G⟩:=G;obtain⟨M,m',t',hm',OG,aaX,⟨gs',w',sl',a',H,q',rfl,YU,_,hT,QS,Y3,fA,hP',ado,hp',J,hlC,hlW,hlS⟩⟩:=H7 hn XQ f _ _ G;have U:j6 Y hm' OG n {H with w:=w'}:=Y3.rely QS.size;have E:∀b,(b=C∨b=Wg∨Sh b)->¬H.own b/\(∀L∈H.β,b∉L.bs)/\∀o,H.M b o=af:=by
  intro b m;have key:∀x,(hm' x=0/\x≠Y.C/\x≠Y.Wg/\¬Y.Sh x/\x<w'.heap.size)->x≠b:=by grind
  refine⟨λho=>key b (U.blk b (.inl ho)) rfl,λL I NU=>key b (U.blk b (.inr ⟨L,I,NU⟩)) rfl,λo=>?_⟩;cases hM:H.M b o with
  |none=>rfl
  |some v=>exact absurd rfl (key b (U.M b o v hM))
 obtain⟨s2,hT2,YW,YY,Up⟩:=Y2 a' {H with w:=w'} hT (λb o v V=>QS.mem b o v V) hp' J hlC (λb m=>E b (m.elim .inl λe=>.inr (.inl e)));have NC:Clear (λb=>Sh b∨b=Wg) {H with w:=w'}:=by have k:∀b,(Sh b∨b=Wg)->¬H.own b/\(∀L∈H.β,b∉L.bs)/\∀o,H.M b o=af:=λb m=>E b (m.elim (λe=>.inr (.inr e)) λe=>.inr (.inl e));exact⟨λb m=>(k b m).1,λb m=>(k b m).2.1,λb m=>(k b m).2.2,λb m=>m.elim (hlS b) λe=>by grind⟩
 grind
end
end
end Go.AM
