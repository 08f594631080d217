/- Part 3. No condition. -/
import Derived.Test.YthilmklinlalbaaGreatDoorA2
import Derived.Maps.RangeRun
import Derived.Laws.Externs
import Derived.Conc.Beside
import Derived.Conc.CrowdRun
set_option linter.all false
set_option maxHeartbeats 8000000
open Go.Conc (G)
open Go renaming Value → ah, Program → ar, TypeId → aj, Oper → au, Operand → aq, undef → ai, execOp → aw, World → aA, Goroutine → av, stepG → aH, Frame → aU, FuncId → aJ
open Option renaming some → aa, none → af
open Bool renaming true → ab, false → ae
open Go.World renaming cell? → aV
open Go.Sem renaming events_bind → aM
open Go.Result renaming evThen_ok → aP
open Go.Instr renaming sliceBounds → bd, sureAddr → bq
open List renaming range → bh
open Go.Region renaming wanted → bg, ready → ba
open Go.MemAct renaming ofEvent → aK
open Nat renaming beq → aB, ble → bA
namespace Go.AM
def ey(i:Nat)(D:Nat->Bool):Nat->Bool:=λj=>match aB j i with|true=>ab|false=>D j
section
variable {P:ar}{X:Cx P}{N:Nat}{ops:Array au}{φ:Fr}{σ:List aR}{g:Type}{x:g->Nat->D}{idx:Nat->Option Nat}{S:g->(Nat->Bool)->List aR}{Inv:g->(Nat->Bool)->Prop}{c:Nat}
def lN(L:Array Bool):Nat->Bool:=λi=>L.getD i ae
def Ih{L:Array Bool}{i:Nat}(hi:i<L.size):lN (L.setIfInBounds i ab)=ey i (lN L):=by funext j;have h:=eW (L:=L) (i:=i) (j:=j) hi;simp only[lN,ey];grind[Nat.eq_of_beq_eq_true,Nat.beq_refl]
def SD{L:Array Bool}{n c:Nat}(d:L.size=n)(h:∀k,c<=k->¬L.getD k ae=ab):n-c<=(L.toList.filter (λb=>!b)).length:=by
 have e:(L.toList.drop c).filter (λb=>!b)=L.toList.drop c:=by rw[z9];intro b a;obtain⟨i,hi,rfl⟩:=dG a;have:=h (c+i) (by omega);simp only[sh,jA]at hi;simp only[dZ,gm (by omega:c+i<L.size),ij]at this;grind
 grind[List.drop_sublist]
theorem Names.VK(all:List au)(c:Nat):Names all (List.range' c (all.length-c)) (all.drop c):=by
 have key:∀(l:List au) (n:Nat),(∀j o,l[j]?=aa o->all[n+j]?=aa o)->Names all (List.range' n l.length) l:=by
  intro l;induction l with
  |nil=>intro n _;trivial
  |cons o r b =>
   intro n h;rw[fb,List.range'_succ];refine⟨by simpa using h 0 o rfl,b (n+1) λj a hj=>?_⟩;have:=h (j+1) a (by grind);grind
 have:=key (all.drop c) c λj o h=>by grind
 grind
structure VL{P:ar}(X:Cx P)(N:Nat)(ops:Array au)(φ:Fr){g:Type}(x:g->Nat->D)(S:g->(Nat->Bool)->List aR)(Inv:g->(Nat->Bool)->Prop)(idx:Nat->Option Nat)(c:Nat):Prop where
 back:∀i o,ops[i]?=aa o->∀e∈o.after,dr e=ab->e.on<i
 JW:∀i o d,ops[i]?=aa o->o.dst=aa d->idx d=aa i/\d<N
 yz:∀d i,idx d=aa i->∃o,ops[i]?=aa o/\o.dst=aa d
 one:∀κ (D:Nat->Bool) i o,Inv κ D->ops[i]?=aa o->i<c->D i=ae->(∀e∈o.after,dr e=ab->D e.on=ab)->(∀j o',ops[j]?=aa o'->D j=ab->∀e∈o'.after,dr e=ab->D e.on=ab)->mV X N ops.toList o (kr ops.toList φ (x κ) i) (S κ D) (λq:{κ':g // (∀j,D j=ab->x κ' j=x κ j)/\Inv κ' (ey i D)}=>x q.1 i) (λq=>S q.1 (ey i D))
 Us:∀(x:Nat->D) i o,ops[i]?=aa o->∀t σ s v,dt σ s v (match idx t with|some j=>(if ∃e∈o.after,dr e=ab/\e.on=j then x j else .any)|none=>look φ t)->dt σ s v (look (kr ops.toList φ x i) t)
 fin:∀(x:Nat->D) t σ s v,dt σ s v (match idx t with|some j=>x j|none=>look φ t)->dt σ s v (look (NA ops.toList φ x) t)
 Qx:∀i o,ops[i]?=aa o->c<=i->∀L:Array Bool,(∀i o,ops[i]?=aa o->L.getD i ae=ab->∀e∈o.after,dr e=ab->L.getD e.on ae=ab)->(∀e∈o.after,dr e=ab->L.getD e.on ae=ab)->∀k,k<i->L.getD k ae=ab
 cc:c<=ops.size
 SE:∀κ (D:Nat->Bool),Inv κ D->(∀i,i<c->D i=ab)->∀i,c<=i->i<ops.size->x κ i=.any
def GZ{L:Array Bool}{i n:Nat}(a:L.size=n)(hi:i<n):L.getD i ab=ae↔¬L.getD i ae=ab:=by grind
theorem VL.seq(h:VL X N ops φ x S Inv idx c):∀(a d:Nat)(L:Array Bool)(t:Nat),L.size=ops.size->c<=d->d<=ops.size->ops.size-d<=a->(∀k,k<ops.size->(L.getD k ae=ab↔k<d)) ->
  Region.linearise.go .any ops a t L []=List.range' d (ops.size-d):=by
 intro a;induction a with
 |zero =>
  grind[wO]
 |succ a z =>
  intro d L t w F A B v;by_cases C:d=ops.size
  .grind [CL]
  .rw[pC];have j:d<ops.size:=by omega
   have s:∀i o,ops[i]?=aa o->L.getD i ae=ab->∀e∈o.after,dr e=ab->L.getD e.on ae=ab:=λi o n hi e l q=>by have b:=(iA.1 n).1;have h1:=(v i b).1 hi;have h2:=h.back i o n e l q;grind
   have u:∀i,i∈ba .any ops L->i=d:=λi hi=>by
    obtain⟨o,n,hl,y⟩:=mem_ready.1 hi;have b:=(iA.1 n).1;have E:¬i<d:=λp=>(GZ w b).1 hl ((v i b).2 p);rcases cM d i with h1|h1
    .have:=h.Qx i o n (by omega) L s y d h1;grind
    .omega
   have r:d∈ba .any ops L:=mem_ready.2 ⟨ops[d],gm j,(GZ w j).2 (λhh=>by grind),λe l q=>by
    have:=h.back d _ (gm j) e l q
    grind⟩
   have m:0<(ba .any ops L).length:=List.length_pos_of_mem r;have f:=iS t m;rw[br f];have e1:=u _ (si f);simp only[e1];rw[z (d+1) _ _ (by grind) (by omega) (by omega) (by omega) (λk hk=>by grind[eW])]
   rw[show ops.size-d=(ops.size-(d+1))+1 by omega,List.range'_succ]
def VL.arr(h:VL X N ops φ x S Inv idx c){Q:av->St->Prop}{b:aU}{kk:List Item}{cs:List aU}(hb:b.kind≠.early){σ0:List aR}{s0:St}(hQ:∀l D s a,Inv l D->(∀i,i<c->D i=ab)->cu N (S l D) s (NA ops.toList φ (x l)) a->aF (S l D) s->cY σ0 s0 (S l D) s->fL X Q (G (b.aT a (.inRegion ops (List.range' c (ops.size-c))::kk)) cs) s):
  ∀(f:Nat) (l:g) (L:Array Bool),Inv l (lN L)->L.size=ops.size->(L.toList.filter (λb=>!b)).length<=f->(∀k,c<=k->¬L.getD k ae=ab) ->
   (∀i o,ops[i]?=aa o->L.getD i ae=ab->∀e∈o.after,dr e=ab->L.getD e.on ae=ab) ->
   ∀(s:St) (a:Act),Jq N (S l (lN L)) s (gz φ (x l) idx L) a->aF (S l (lN L)) s->cY σ0 s0 (S l (lN L)) s ->
   ∀t,fL X Q (G (b.aT a (.inRegion ops (Region.linearise.go .any ops f t L [])::kk)) cs) s:=by
 have fin:∀(l:g) (L:Array Bool) (s:St) (a:Act) (f t:Nat),Inv l (lN L)->L.size=ops.size->(L.toList.filter (λb=>!b)).length<=f->(∀k,c<=k->¬L.getD k ae=ab)->(∀i,i<c->L.getD i ae=ab)->Jq N (S l (lN L)) s (gz φ (x l) idx L) a->aF (S l (lN L)) s->cY σ0 s0 (S l (lN L)) s->fL X Q (G (b.aT a (.inRegion ops (Region.linearise.go .any ops f t L [])::kk)) cs) s:=by
  intro l L s a f t B E R r p m hh st;have Y:=h.cc;rw[h.seq f c L t E (bc _) Y (by
   have h2:=SD (n:=ops.size) (c:=c) E r;omega) (λk hk=>⟨λJ=>by grind,λJ=>p k J⟩)]
  exact hQ l _ s a B p (m.JV λt σ s v I=>h.fin (x l) t σ s v (by
   unfold gz at I;cases hi:idx t with
   |none=>grind
   |some k =>
    simp only[hi]at I⊢;obtain⟨o,A,_⟩:=h.yz _ _ hi;rcases cM k c with h1|h1
    .grind
    .rw[h.SE l _ B p k h1 (iA.1 A).1];trivial)) hh st
 intro f;induction f with
 |zero =>
  intro l L B E R r H s a m hh st t;have Y:=h.cc;grind[AQ]
 |succ f ih =>
  intro l L B E R r H s a m hh st t;have Y:=h.cc;cases u:(ba .any ops L)[t % (ba .any ops L).length]? with
  |none=>exact fin l L s a _ t B E R r (λi hi=>KF (back:=h.back) E (ER u) i (by omega)) m hh st
  |some i =>
   have hi:=bP u;obtain⟨o,A,Yk,w⟩:=mem_ready.1 hi;have vg:i<ops.size:=(iA.1 A).1;rcases cM i c with C|C
   rotate_left
   .exact fin l L s a _ t B E R r (λk hk=>h.Qx i o A C L H w k (by omega)) m hh st
   rw[pC,u];have M:¬L.getD i ae=ab:=by grind
   have z:((L.setIfInBounds i ab).toList.filter (λb=>!b)).length<=f:=by
    have h1:L.toList[i]?=aa ae:=by rw[zZ,gm (by omega:i<L.size)];simpa[dZ,gm (by omega:i<L.size)]using M
    grind[count_set]
   have K:∀j Z,ops[j]?=aa Z->(L.setIfInBounds i ab).getD j ae=ab->∀e∈Z.after,dr e=ab->(L.setIfInBounds i ab).getD e.on ae=ab:=by grind[eW]
   have V:cu N (S l (lN L)) s (kr ops.toList φ (x l) i) a:=OI (h.Us (x l) i o A) m w;have:=h.one l (lN L) i o B A C (by unfold lN;grind) w H s a V hh b kk cs Q i (Region.linearise.go .any ops f (t / (ba .any ops L).length) (L.setIfInBounds i ab) []) hb (by grind);simp only[pq]at this;refine this λq v s' I F y=>?_;obtain⟨T,W,O⟩:=q;have U:=Ih (L:=L) (i:=i) (by omega);simp only at I F y;rw[<-U]at I F y O;exact ih T _ O (by grind) z (λk hk=>by grind[eW]) K s' _ (Ia (λd hd=>h.JW i o d A hd) h.yz A (by omega) (λj hj=>W j hj) hh.len y m I) F (st.trans y) _
def AW.reg(hf:P.follows Departure.mixedOrders=ab){all:List au}(c:Nat)(x:g->Nat->D)(S:g->(Nat->Bool)->List aR)(Inv:g->(Nat->Bool)->Prop)(E:g)(hI0:Inv E λ_=>ae)(h0:S E (λ_=>ae)=σ)(Z:mS all=ab)(F:sG all 0=ab)(I:oE N all=ab)(hc:c<=all.length)(Qx:∀i,c<=i->i<all.length->∀L:Nat->Prop,(∀i,i<all.length->L i->∀e∈bZ (all.getD i jN).after.toList,L e)->(∀e∈bZ (all.getD i jN).after.toList,L e)->∀k,k<i->L k)(SE:∀p (D:Nat->Bool),Inv p D->(∀i,i<c->D i=ab)->∀i,c<=i->i<all.length->x p i=.any)(one:∀p (D:Nat->Bool) i o,Inv p D->all[i]?=aa o->i<c->D i=ae->(∀e∈bZ o.after.toList,D e=ab)->(∀j o',all[j]?=aa o'->D j=ab->∀e∈bZ o'.after.toList,D e=ab)->mV X N all o (kr all φ (x p) i) (S p D) (λq:{J:g // (∀j,D j=ab->x J j=x p j)/\Inv J (ey i D)}=>x q.1 i) (λq=>S q.1 (ey i D))){Q:Post}(hQ:∀p D,Inv p D->(∀i,i<c->D i=ab)->iw X N all (all.drop c) (Q .normal) (NA all φ (x p)) (S p D))(id:Nat):
  AW X N (.region id all.toArray ab) Q φ σ:=by
 have n:∀i:Nat,all.toArray[i]?=all[i]?:=λi=>by simp
 let idx:Nat->Option Nat:=λt=>(bh all.length).find? (λi=>decide ((all.getD i jN).dst=aa t));have K:∀t j,idx t=aa j->∃o,all[j]?=aa o/\o.dst=aa t:=by grind
 have z:∀i o d,all[i]?=aa o->o.dst=aa d->idx d=aa i:=by
  intro i o d f H;have hi:i<all.length:=(b6.1 f).1;cases hx:idx d with
  |none =>
   have:=qi.1 hx i (by grind);grind
  |some j =>
   grind[tT]
 have W:∀t,pD t all=ab↔∃j,idx t=aa j:=by grind[qB,sK]
 have O:∀i o,all[i]?=aa o->all.getD i jN=o:=λi o h=>by grind
 have H:VL X N all.toArray φ x S Inv idx c:=by
  refine⟨?_,?_,?_,?_,?_,?_,λi o f Y L hLc hLp k hk=>?_,by grind,λp D M hD i h1 h2=>SE p D M hD i h1 (by grind)⟩
  .intro i o f e T U;rw[n]at f;have:=CH F i o f e.on (eX.2 ⟨e,by grind,U,rfl⟩);omega
  .intro i o d f H;rw[n]at f;exact⟨z i o d f H,gK (y5 I i o f) d H⟩
  .grind
  .intro p D i o M f hic hDi RX Jo;rw[n]at f;exact one p D i o M f hic hDi (λe T=>by
    grind[eX]) λj o hj hDj e T=>by grind[eX]
  .intro x i o f t σ s v V;rw[n]at f;show dt σ s v (look (kr all φ x i) t);unfold kr;rw[O i o f];rcases nR (m:=λj=>iv j (bZ o.after.toList)) (φ:=vl all φ) (t:=t) (l:=AN all 0 x) (i:=0)with⟨j,y,h1,h2,C⟩|C
   .rw[C];rw[xg]at h1;cases hj:all[j]? with
    |none=>grind
    |some oj =>
     simp only[hj,lS,dw,l9,bF]at h1;rw[z j oj t hj h1.1]at V;simp only at V;rw[bl]at V
     .grind
     .simp only[bF]at h2;obtain⟨e,a,b,c⟩:=eX.1 (J1 h2);grind
   .rw[C,l5];split
    .trivial
    grind
  .intro x t σ s v V;show dt σ s v (look (NA all φ x) t);unfold NA;rcases nR (m:=λ_=>ab) (φ:=vl all φ) (t:=t) (l:=AN all 0 x) (i:=0)with⟨j,y,h1,h2,C⟩|C
   .rw[C];rw[xg]at h1;grind
   .rw[C,l5];split
    .trivial
    grind
  .rw[n]at f;refine Qx i Y (b6.1 f).1 (λk=>L.getD k ae=ab) (λi' hi' hl e T=>?_) (λe T=>?_) k hk
   .grind [eX]
   grind[eX]
 intro s a yW hh b kk cs SS U Yz;refine .next rfl λB A=>?_;have A:=X.iH A;have u:=hh.rely A;have R:=yW.rely A hh;have G:Step σ B σ {B with w:={B.w with drawn:=B.w.drawn+1}}:=Step.same rfl rfl rfl rfl;have Jp:aF σ {B with w:={B.w with drawn:=B.w.drawn+1}}:=u.same rfl;have stW:=A.stepW.trans (G.nD u);refine⟨_,{B with w:={B.w with drawn:=B.w.drawn+1}},#[],mb,⟨⟨σ,σ,u,Jp,G⟩,.nil⟩,?_⟩;simp only[Region.schedule,hf,Bool.true_or,cq];have hd0:lN (Array.replicate all.toArray.size ae)=λ_=>ae:=by funext i;simp[lN,dZ,nh];split<;>simp
 refine H.arr U (σ0:=σ) (s0:=s) (λp D s2 a2 M hD f2 h2 mI=>?_) all.toArray.size E _ (by grind) (by simp) (by simp) ?_ ?_ _ a ?_ (by grind) (by grind) _
 .refine hQ p D M hD s2 a2 f2 h2 b kk cs SS _ U ?_ λφ3 σ3 s3 a3 q3 f3 C SF=>Yz .normal _ _ s3 a3 q3 f3 C (mI.trans SF);grind[Names.VK]
 .intro i _ hi;simp[dZ,nh]at hi;split at hi<;>simp at hi
 .intro i o f hi;simp[dZ,nh]at hi;split at hi<;>simp at hi
 .rw[hd0,h0];have r:=R.mono (G.nD u) u.len;refine⟨r.size,r.defers,λt=>?_⟩;unfold gz;cases hix:idx t with
  |none=>exact r.slot t
  |some j =>
   simp only;rw[aY]
   .exact r.slot t
   .simp[dZ,nh];split<;>simp
def mV.to{all:List au}{o:au}{φ:Fr}{ι e:Type}{y:ι->D}{σ':ι->List aR}{z:e->D}{d:e->List aR}(h:mV X N all o φ σ y σ')(l:∀j,∃k,y j=z k/\σ' j=d k):mV X N all o φ σ z d:=by intro s a f hh b k cs S i rest hb hi hK;refine h s a f hh b k cs S i rest hb hi λj v s' r1 r2 r3=>?_;obtain⟨q,p2,p3⟩:=l j;grind
def OA.tO{all:List au}{o:au}{φ:Fr}{d:Type}{y:D}{σ':List aR}{z:d->D}{e:d->List aR}(h:OA X N all o φ σ y σ')(k:d)(h1:y=z k)(h2:σ'=e k):mV X N all o φ σ z e:=by subst h1 h2;exactλs a f hh b k' cs S i rest hb hi hK=>h s a f hh b k' cs S i rest hb hi λv s' r1 r2 r3=>hK k v s' r1 r2 r3
end
section
variable {P:ar}{X:Cx P}{N:Nat}{all:List au}{φ:Fr}{σ:List aR}{o:au}
theorem mV.kT{ι:Type}{x:ι->D}{σ':ι->List aR}(n:o.guard=af)(h:∀s e,aF σ s->(∀y,dt σ s (e y) (bU φ y))->∃(j:ι)(s':St)(v:ah),(aw e o).run P s.w=.ok (.value v) s'.w/\dt (σ' j) s' v (x j)/\aF (σ' j) s'/\Step σ s (σ' j) s'/\fg s ((aw e o).events P s.w #[])):mV X N all o φ σ x σ':=by intro s a f hh b k cs S i rest hb hi hK;refine rJ hb hi (dK n) λm d=>?_;have c:=hh.rely d;obtain⟨j,s',v,h1,h2,l,g,p⟩:=h m a.eval c (dg (f.rely d hh));exact⟨_,s',v,h1,.inl rfl,⟨⟨σ,σ' j,c,l,g⟩,p⟩,hK j v s' h2 l (d.stepW.trans (g.nD c))⟩
def mV.AH{x:D}{σ':List aR}(h:OA X N all o φ σ x σ'):mV X N all o φ σ (λ_:Unit=>x) (λ_=>σ') :=
 λs a f hh b k cs S i rest hb hi hK=>h s a f hh b k cs S i rest hb hi λv s'=>hK () v s'
def OA.law{x:D}{σ':List aR}(h:bM P o (bU φ) σ x σ')(a:o.guard=af):OA X N all o φ σ x σ':=.kT (λ_ _ _ _=>dK a) h
def OA.eval{T:List (Nat×TI)}{CT:List (Nat×dv)}{ds:List (Nat×Bool)}{x:D}{obs:List Prop}(hT:cW P T)(hC:bL X CT)(h:wP T CT ds all φ σ o=aa (x,af,obs))(a:az obs):OA X N all o φ σ x σ:=gL hT hC h a
def OA.cZ{T:List (Nat×TI)}{CT:List (Nat×dv)}{x:D}(hT:cW P T)(hC:bL X CT)(h:wP T CT [] all φ σ o=aa (x,af,[])):OA X N all o φ σ x σ:=gL hT hC h ay
def uc(X:Cx P)(N:Nat)(all:List au)(φ:Fr)(σ:List aR)(x:Nat->D)(pre:Nat->Bool):List au->Nat->Prop
 |[],_=>True
 |o::r,i=>(match pre i with|true=>OA X N all o (kr all φ x i) σ (x i) σ|false=>True)/\uc X N all φ σ x pre r (i+1)
def ud(X:Cx P)(N:Nat)(all:List au)(φ:Fr)(σ:List aR)(x:Nat->D)(m:Nat):List au->Nat->Prop
 |[],_=>True
 |o::r,i=>(match aB i m with|true=>True|false=>OA X N all o (kr all φ x i) σ (x i) σ)/\ud X N all φ σ x m r (i+1)
theorem uc.get{x:Nat->D}{pre:Nat->Bool}:∀{l:List au}{k:Nat},uc X N all φ σ x pre l k->∀(i:Nat)(o:au),l[i]?=aa o->pre (k+i)=ab->OA X N all o (kr all φ x (k+i)) σ (x (k+i)) σ
 |[],_,_,i,o,h=>by grind
 |p::r,k,h,0,o,hi=>λa=>by simp at hi;subst hi;have h1:=h.1;grind
 |p::r,k,h,i+1,o,hi=>λa=>by have:=uc.get h.2 i o (by grind) (by grind);grind
theorem ud.get{x:Nat->D}{m:Nat}:∀{l:List au}{k:Nat},ud X N all φ σ x m l k->∀(i:Nat)(o:au),l[i]?=aa o->k+i≠m->OA X N all o (kr all φ x (k+i)) σ (x (k+i)) σ
 |[],_,_,i,o,h=>by grind
 |p::r,k,h,0,o,hi=>λa=>by simp at hi;subst hi;have h1:=h.1;simp only[iE]at a;grind[Nat.eq_of_beq_eq_true]
 |p::r,k,h,i+1,o,hi=>λa=>by have:=ud.get h.2 i o (by grind) (by omega);grind
def ES{ι:Type}(pre:Nat->Bool)(x:Nat->D)(y:ι->Nat->D)(j:ι)(i:Nat):D:=match pre i with|true=>x i|false=>y j i
def GU{ι:Type}{m c:Nat}{pre:Nat->Bool}{x:Nat->D}{b:ι->Nat->D}{σ':ι->List aR}{S:ι->(Nat->Bool)->List aR}(w:pre m=ae)(y:AP pre m all 0=ab)(same:∀j i,pre i=ab->b j i=x i)(one:∀i o,all[i]?=aa o->pre i=ab->OA X N all o (kr all φ x i) σ (x i) σ)(two:∀j (D:Nat->Bool) i o,all[i]?=aa o->i≠m->i<c->D i=ae->(∀k f,all[k]?=aa f->D k=ab->∀e∈bZ f.after.toList,D e=ab)->OA X N all o (kr all φ (b j) i) (S j D) (b j i) (S j (ey i D)))(NH:∀o,all[m]?=aa o->mV X N all o (kr all φ x m) σ (λj=>b j m) σ')(z:∀j (D:Nat->Bool),(∀i,D i=ab->pre i=ab)->σ' j=S j (ey m D)):
  ∀(a:Option ι) (D:Nat->Bool) i o,(a.isSome=D m/\(a=af->∀i,D i=ab->pre i=ab))->all[i]?=aa o->i<c->D i=ae->(∀e∈bZ o.after.toList,D e=ab)->(∀j f,all[j]?=aa f->D j=ab->∀e∈bZ f.after.toList,D e=ab) ->
   mV X N all o (kr all φ (a.elim x b) i) (a.elim σ λj=>S j D) (λq:{d:Option ι // (∀j,D j=ab->d.elim x b j=a.elim x b j)/\(d.isSome=ey i D m/\(d=af->∀k,ey i D k=ab->pre k=ab))}=>q.1.elim x b i) (λq=>q.1.elim σ λj=>S j (ey i D)):=by
 intro a D i o u p s n t l;have A:∀{k},ey i D k=ab->k=i∨D k=ab:=λ{k} hk=>by unfold ey at hk;grind[Nat.eq_of_beq_eq_true]
 have v:∀{k},k≠i->ey i D k=D k:=λ{k} hk=>by unfold ey;grind[Nat.eq_of_beq_eq_true]
 by_cases g:i=m
 .subst g;cases a with
  |some j=>grind
  |none =>
   refine(NH o p).to λj=>⟨⟨aa j,λk hk=>same j k (u.2 rfl k hk),?_,λh=>by cases h⟩,rfl,z j D (u.2 rfl)⟩
   unfold ey;grind[Nat.beq_refl]
 .cases a with
  |none =>
   have r:pre i=ab:=by grind[GS]
   exact(one i o p r).tO ⟨af,λ_ _=>rfl,by grind,λ_ k hk=>by grind⟩ rfl rfl
  |some j=>exact(two j D i o p g s n l).tO ⟨aa j,λ_ _=>rfl,by grind,λh=>by cases h⟩ rfl rfl
def xh{ι:Type}{m c:Nat}{pre:Nat->Bool}{a:Option ι}{D:Nat->Bool}(e:a.isSome=D m/\(a=af->∀i,D i=ab->pre i=ab))(d:m<c)(b:∀i,i<c->D i=ab):∃j,a=aa j:=by
 cases a with
 |some j=>grind
 |none=>grind
def AK.NH{ι:Type}(q:P.follows Departure.mixedOrders=ab)(m:Nat)(pre:Nat->Bool)(x:Nat->D)(y:ι->Nat->D)(σ':ι->List aR){ops:Array au}{id:Nat}{K:List It}{Qf:Post}(b:mS ops.toList=ab)(c:sG ops.toList 0=ab)(d:oE N ops.toList=ab)(e:Nat.blt m ops.toList.length=ab)(f:pre m=ae)(g:AP pre m ops.toList 0=ab)(one:uc X N ops.toList φ σ x pre ops.toList 0)(two:∀j,ud X N ops.toList φ (σ' j) (ES pre x y j) m ops.toList 0)(NH:mV X N ops.toList (ops.toList.getD m jN) (kr ops.toList φ x m) σ (λj=>ES pre x y j m) σ')(k:∀j,AK X N Qf K .normal (NA ops.toList φ (ES pre x y j)) (σ' j)):AK X N Qf (.code (.region id ops ab)::K) .normal φ σ:=by
 have e:=db e;have:=AW.reg (X:=X) (N:=N) (φ:=φ) (σ:=σ) q (all:=ops.toList) ops.toList.length (λa:Option ι=>a.elim x (ES pre x y)) (λa _=>a.elim σ σ') (λa D=>a.isSome=D m/\(a=af->∀i,D i=ab->pre i=ab)) af ⟨rfl,λ_ _ h=>by cases h⟩ rfl b c d (bc _)
  (λi h1 h2=>absurd h2 (mN.2 h1)) (λa D _ _ i h1 h2=>absurd h2 (mN.2 h1))
  (GU (S:=λj _=>σ' j) f g (λj i l=>by simp only[ES,l]) (λi o hi l=>by have:=one.get i o hi (by grind);grind) (λj D i o hi B4 _ _ _=>by have:=(two j).get i o hi (by grind);grind)
   (λo r=>by grind) (λ_ _ _=>rfl))
  (Q:=AK X N Qf K) (λa D p n=>by obtain⟨j,rfl⟩:=xh p e n;rw[qn];exact .nil (k j)) id
 rw[pq]at this;exact this
end
def mn{B:aR}{r:List aR}(h:B≠.qX)(k:lM r=ab):lM (B::r)=ab:=by cases B<;>first|exact k|grind
section
variable {P:ar}{X:Cx P}{N:Nat}{Qf:Post}{φ:Fr}{σ:List aR}
def AK.iU{Q a:Post}(h:∀e φ σ,Q e φ σ->a e φ σ):∀{K:List It}{e:Exit}{φ:Fr}{σ:List aR},AK X N Q K e φ σ->AK X N a K e φ σ
 |[],e,φ,σ,q=>h e φ σ q
 |.code c::K,.normal,φ,σ,q=>AW.mono q λ_ _ _ q=>AK.iU h q
 |.code c::K,.exit _,φ,σ,q=>AK.iU (K:=K) h q
 |.code c::K,.ret,φ,σ,q=>AK.iU (K:=K) h q
 |.code c::K,.panic _,φ,σ,q=>AK.iU (K:=K) h q
 |.code c::K,.goto _,φ,σ,q=>AK.iU (K:=K) h q
 |.code c::K,.outgrown,φ,σ,q=>AK.iU (K:=K) h q
 |.blk id::K,.exit Jx,φ,σ,q=>by
  simp only[AK]at q⊢;split
  .rename_i e;rw[bl e]at q;exact AK.iU (K:=K) h q
  .rename_i e;rw[aY e]at q;exact AK.iU (K:=K) h q
 |.blk id::K,.normal,φ,σ,q=>AK.iU (K:=K) h q
 |.blk id::K,.ret,φ,σ,q=>AK.iU (K:=K) h q
 |.blk id::K,.panic _,φ,σ,q=>AK.iU (K:=K) h q
 |.blk id::K,.goto _,φ,σ,q=>AK.iU (K:=K) h q
 |.blk id::K,.outgrown,φ,σ,q=>AK.iU (K:=K) h q
 |.ops all rest::K,.normal,φ,σ,q=>iw.mono q λ_ _ q=>AK.iU h q
 |.ops all rest::K,.exit _,φ,σ,q=>AK.iU (K:=K) h q
 |.ops all rest::K,.ret,φ,σ,q=>AK.iU (K:=K) h q
 |.ops all rest::K,.panic _,φ,σ,q=>AK.iU (K:=K) h q
 |.ops all rest::K,.goto _,φ,σ,q=>AK.iU (K:=K) h q
 |.ops all rest::K,.outgrown,φ,σ,q=>AK.iU (K:=K) h q
def AK.EP{id:Nat}{A:Fr->List aR->Prop}{a c b:List It}(h1:j9 id a=af)(h2:j9 id c=aa b)(k:AK X N Qf b .normal φ σ):
  AK X N (Cy A (AK X N Qf c)) (.code (.exit id)::a) .normal φ σ :=
 AK.iU (λe φ' σ' q=>by cases e<;>exact q) (AK.leave (X:=X) (N:=N) (Qr:=Qf) (A:=A) (φ:=φ) (σ:=σ) h1 h2 k)
end
section
variable {P:ar}{X:Cx P}{N:Nat}{K:List It}{φ:Fr}{σ:List aR}
def AK.mY{ι:Type}{T:List (Nat×TI)}{fn:Func}{h:Nat}{res:ι->D}{σ':ι->List aR}(i:ι)(ks:List Nat){l:Nat}{E:aj}{cs:List A}{t:Tmp}{ty:aj}{b:TI}{ps:List Prop}(o:fn.results.toList=[.cell t ty])(hi:bG T ty=aa b)(p:b.agg=ab)(q:look φ t=.e (.one (.ptr l 0)))(hl:dC l σ=aa (.cells E cs))(a:aB cs.length b.size=ab)(g:iv l ks=ae)(c:Ed (.e (.agg cs)) (iu ks (res i))=aa ps)(n:az ps)(d:wC ks.length (res i)=ab)(m:j3 ks σ=aa (σ' i))(f:kJ (σ' i)=ab)(k:dH ks=ab)(hk:∀j,j<h->ks[j]?=aa j):
  AK X N (λe φ σ1=>∃j,KR T fn h (res j) (σ' j) e φ σ1) (.code .ret::K) .normal φ σ :=
 AK.ret ⟨i,.inl rfl,ks,l,E,cs,t,ty,b,ps,af,nofun,o,hi,p,bX a,q,b9 hl,CM g,c,n,d,m,f,k,hk⟩
def AK.lO{ι:Type}{T:List (Nat×TI)}{fn:Func}{k:Nat}{res:ι->D}{σ':ι->List aR}(i:ι)(ks:List Nat){l:Nat}{E:aj}{cs:List A}{t u:Tmp}{ty:aj}{b:TI}{x:E1}{ps:List Prop}(p:fn.results.toList=[.cell t ty,.tmp u])(hi:bG T ty=aa b)(r:b.agg=ab)(s:look φ t=.e (.one (.ptr l 0)))(q:look φ u=.e x)(hl:dC l σ=aa (.cells E cs))(a:aB cs.length b.size=ab)(g:iv l ks=ae)(c:Ed (.fa [.agg cs,x]) (iu ks (res i))=aa ps)(o:az ps)(d:wC ks.length (res i)=ab)(n:j3 ks σ=aa (σ' i))(f:kJ (σ' i)=ab)(m:dH ks=ab)(hk:∀j,j<k->ks[j]?=aa j):
  AK X N (λe φ σ1=>∃j,KR T fn k (res j) (σ' j) e φ σ1) (.code .ret::K) .normal φ σ :=
 AK.ret ⟨i,.inl rfl,ks,l,E,cs,t,ty,b,ps,aa (u,x),λ_ h=>by cases h;exact q,p,hi,r,bX a,s,b9 hl,CM g,c,o,d,n,f,m,hk⟩
def Ev.ri{T:List (Nat×TI)}(hT:cW P T){f:aJ}{fn:Func}{c:Code}{args:List D}{σ σ':List aR}{res:D}(d:P.funcs[f]?=aa fn)(b:(fn.name== "runtime.NumGoroutine")=ae)(g:fn.body=aa c)(a:bA args.length fn.ntmps=ab)(h:Fits args σ->AK X fn.ntmps (λe φ σ1=>∃_:Unit,KR T fn σ.length res σ' e φ σ1) [.code c] .normal (ji 0 args) σ):Ev X f args σ res σ' :=
 (ef.sH (ι:=Unit) (σ':=λ_=>σ') (res:=λ_=>res) hT d b g a h).Ce
end
section
variable {P:ar}{X:Cx P}{N:Nat}{Qf:Post}{K:List It}{φ:Fr}{σ:List aR}{all rest:List au}{o:au}
theorem mV.xb{ι:Type}{x:ι->D}{σ':ι->List aR}(m:o.guard=af)(h:ee P N o φ σ x σ'):mV X N all o φ σ x σ':=by intro s a f hh b k cs S i rest r hi hK;refine rJ r hi (dK m) λl d=>?_;have c:=hh.rely d;obtain⟨j,n,s',v,h1,h2,p,e,g,q⟩:=h l a (f.rely d hh) c;exact⟨n,s',v,h1,h2,⟨⟨σ,σ' j,c,e,g⟩,q⟩,hK j v s' p e (d.stepW.trans (g.nD c))⟩
def mV.Cg{ι:Type}{v:aq}{xs:Array aq}{B:Array aj}{f:aJ}{cap:List C}{d:List D}{m:List aR}{σ1:ι->List aR}{res:ι->D}(n:ef X f d m res σ1)(ks:List Nat)(x:o.guard=af)(H:o.op=.call {callee:=.value v,args:=xs,argTypes:=B})(u:eQ (bU φ v)=aa (f,cap))(l:∀s vs,cp σ s vs (xs.toList.map (bU φ)++fP cap)->cp σ s vs (fU ks d))(y:lE ks.length d=ab)(E:j3 ks σ=aa m)(L:cx m=ab)(A:∀j,cx (σ1 j)=ab)(J:dH ks=ab)(z:∀j,bA ks.length (σ1 j).length=ab):
  mV X N all o φ σ (λj=>iu (ks++k9 σ.length ((σ1 j).length-ks.length)) (res j)) (λj=>dW ks (σ1 j) σ):=by
 intro s a q hh b kk cs S i rest I hi hK;have r:=dg q v;unfold eQ at u;split at u
 case h_2=>cases u
 case h_1 f' NR he =>
  cases u;rw[he]at r;have g:=e9 r;generalize G:a.eval v=fv at g;cases g with
  |fn fs nF hl Eb f1 f2 h1 h2 r1 r2 =>
   have F:fs=[]:=jv hl;subst F;have k:cp σ s nF (fP cap):=nL (λj c hj=>⟨f2 j,h2 j (by grind),r2 j c hj⟩) Eb;have p:cp σ s (xs.toList.map a.eval++nF) (fU ks d):=l s _ ((lX (dg q) xs.toList).append k);obtain⟨fn,t,h,e⟩:=n.1;exact tP I hi (dK x) hh (λw=>(jK H t h e G w).1) (λw=>(jK H t h e G w).2) n p y E L A J (λj=>db (z j)) hK
def mV.qz{ι:Type}{n:aq}{xs:Array aq}{d:Array aj}{f:aJ}{cap:List C}{a:List D}{c:List aR}{σ1:ι->List aR}{res:ι->D}(g:ef X f a c res σ1)(ks:List Nat)(m:o.guard=af)(s:o.op=.call {callee:=.value n,args:=xs,argTypes:=d})(r:eQ (bU φ n)=aa (f,cap))(b:mR (xs.toList.map (bU φ)++fP cap)=fU ks a)(k:lE ks.length a=ab)(i:j3 ks σ=aa c)(q:cx c=ab)(e:∀j,cx (σ1 j)=ab)(p:dH ks=ab)(l:∀j,bA ks.length (σ1 j).length=ab):
  mV X N all o φ σ (λj=>iu (ks++k9 σ.length ((σ1 j).length-ks.length)) (res j)) (λj=>dW ks (σ1 j) σ):=.Cg g ks m s r (λ_ _ h=>b▸pz h) k i q e p l
def mV.j4{ι:Type}{p:aq}{xs:Array aq}{d:Array aj}{f:aJ}{cap:List C}{a:List D}{c:List aR}{σ1:ι->List aR}{res:ι->D}(g:ef X f a c res σ1)(ks:List Nat)(n:o.guard=af)(t:o.op=.call {callee:=.value p,args:=xs,argTypes:=d})(s:eQ (bU φ p)=aa (f,cap)){ps:List Prop}(b:wG (xs.toList.map (bU φ)++fP cap) (fU ks a)=aa ps)(k:az ps)(l:lE ks.length a=ab)(i:j3 ks σ=aa c)(r:cx c=ab)(e:∀j,cx (σ1 j)=ab)(q:dH ks=ab)(m:∀j,bA ks.length (σ1 j).length=ab):
  mV X N all o φ σ (λj=>iu (ks++k9 σ.length ((σ1 j).length-ks.length)) (res j)) (λj=>dW ks (σ1 j) σ):=.Cg g ks n t s (λ_ _ h=>vO b k h) l i r e q m
def ee.fresh{x y:aq}{E:aj}{J:TI}(h:lL P o x y E J){k0 k m:Nat}{tx:Bool}{es es':Nat->List C}(hs:J.size=k)(T:bU φ x=.e (.one (.c (.sl ab k0 0 es))))(hy:bU φ y=.e (.one (.c (.sl tx k m es'))))(Q:0<m)(F:m*J.bytes<=140737488355328)(hgn:∀i,i<m->∀c∈es' i,vj c=ab):
  ee P N o φ σ (ι:={q:nC×List ah // gy k m es' q.2}) (λq=>.e (.one (.v (lA q.1.1 m)))) (λq=>σ++[.cm (gf E k q.1.1 m q.1.2)]):=by
 intro s ρ Z hh;obtain⟨t,t2,i,i2,ho,hi,Y,H,I⟩:=h.op;have h1:=dg Z x;rw[T]at h1;have n:=Rd.vH (k:=k0) (k':=J.size) (.inr rfl) (e9 h1);have h2:=dg Z y;rw[hy]at h2;have h2:=e9 h2;obtain⟨a,cap,vs,hv,En,Nz,ht,hF,Oy⟩:=n.flat;have S:cap=0:=ht rfl;subst S;rw[hv]at n;have O:Rd s.M (ρ.eval y) (.sl tx J.size m es'):=by grind
 obtain⟨d,W,g,f,D,R,r,z⟩:=iG (P:=P) (ty:=o.type) hi Y H I h.elem hh n O (by omega) (by grind) h.bytes;have Qu:=jf (P:=P) (ty:=o.type) hi Y H I h.elem hh n O (by omega) (by grind) h.bytes;have e0:cK 0 es es'=es':=by funext i;simp[cK]
 rw[hs,bF,e0]at f;rw[hs]at r;rw[bF]at D z;have L:gy k m es' d:=⟨f.len,f.width,λi hi j c hj=>by
  obtain⟨u,U,u2⟩:=f.rd i hi j c hj
  grind[qx]⟩
 have A:∀x∈d,cN x=ab:=λx T=>by
  obtain⟨p,hp,rfl⟩:=dG T;have hk:0<k:=by grind
  have Qt:=f.len;have hi:p / k<m:=qc (by grind);have V:p / k*k+p % k=p:=ql p k;have hj:p % k<(es' (p / k)).length:=by rw[f.width _ hi];exact iS _ hk
  obtain⟨u,U,u2⟩:=L.at' _ hi _ _ (br hj);rw[V,br hp]at U;cases U;exact(u2 s.M).cell
 let w':aA:=s.w.drew.alloc (.cells (d++W).toArray E);have hB:eE (σ++[.cm (gf E k (.row s.w.heap.size g) m d)]) {s with w:=w',β:=s.β++[⟨.nilFunc,[s.w.heap.size]⟩]} (.cm (gf E k (.row s.w.heap.size g) m d)) ⟨.nilFunc,[s.w.heap.size]⟩:=by
  refine⟨λB=>if B=s.w.heap.size then aa (.cells (d++W).toArray E (0,0))else af,⟨rfl,A,f.len,D,R,W,r,rfl⟩,λB o l=>?_,λB=>?_,λB l o=>?_⟩
  .by_cases e:B=s.w.heap.size
   .subst e;simp only[cq]at l;cases l;exact dT s.w.drew _
   grind
  .by_cases e:B=s.w.heap.size<;>simp[e]
  .simp at l;subst l;cases Q:s.M s.w.heap.size o with
   |none=>rfl
   |some v=>have:=hh.block Q;omega
 have Ec:w'.heap.size=s.w.heap.size+1:=by show(s.w.drew.heap.push _).size=_;simp
 have G:aF σ {s with w:=w'}/\Step σ s σ {s with w:=w'} :=
  hh.grow (by omega) (λb F=>cR s.w.drew _ F) (λb F o=>rfl) (λb F o v Q=>by have:=hh.block Q;omega) rfl rfl rfl
 obtain⟨g1,g2⟩:=G.1.ik G.2 rfl hh hB (λb F=>by grind)
 refine⟨⟨(.row s.w.heap.size g,d),L⟩,.value (.slice (aa ⟨s.w.heap.size,0,af⟩) m g),_,_,?_,.inl rfl,Rd.val rfl,g1,g2,?_⟩
 .rw[dn ho,hv];simp[z];rfl
 grind[dn,eU]
def AK.fresh{x y:aq}{E:aj}{a:TI}(h:lL P o x y E a){j k m:Nat}{tx:Bool}{es es':Nat->List C}(g:a.size=k)(f:bU φ x=.e (.one (.c (.sl ab j 0 es))))(d:bU φ y=.e (.one (.c (.sl tx k m es'))))(l:0<m)(r:m*a.bytes<=140737488355328)(b:∀i,i<m->∀c∈es' i,vj c=ab)(n:o.guard=af)(p:gg N o.dst=ab)(kk:∀q:{q:nC×List ah // gy k m es' q.2},AK X N Qf (.ops all rest::K) .normal (kH o.dst (.e (.one (.v (lA q.1.1 m)))) φ) (σ++[.cm (gf E k q.1.1 m q.1.2)])):AK X N Qf (.ops all (o::rest)::K) .normal φ σ :=
 AK.hand _ _ n p (ee.fresh h g f d l r b) kk
def AK.spare(E:aj)(k:Nat){c:Code}(kk:AK X N Qf (.code c::K) .normal φ (σ++[.cm (gf E k (.nil af) 0 [])])):AK X N Qf (.code c::K) .normal φ σ:=by refine AK.ghost (λs a d hh=>?_) kk;obtain⟨e,b⟩:=hh.ik (B:=.cm (gf E k (.nil af) 0 [])) (L:=⟨.nilFunc,[]⟩) (.refl _ _) rfl hh ⟨λ_=>af,⟨rfl,by simp,by simp,rfl,rfl⟩,by simp,by simp,by simp⟩ (by simp);exact⟨{s with β:=s.β++[⟨.nilFunc,[]⟩]},rfl,⟨d.size,d.defers.imp λ_ h1=>h1.mono b.ext,λu=>(d.slot u).mono b.ext hh.len⟩,e,b⟩
end
def OJ(p:Nat->Bool):List Nat->Bool
 |[]=>ae
 |e::r=>match p e with|true=>ab|false=>OJ p r
def GV{p:Nat->Bool}:∀{l:List Nat},OJ p l=ab->∃e∈l,p e=ab
 |[],h=>by cases h
 |e::r,h=>by
  simp only[OJ]at h;split at h
  .grind
  .obtain⟨a,c,b⟩:=GV h;grind
def xi(all:List au)(k:Nat):Nat->List Nat->Bool
 |0,l=>iv k l
 |f+1,l=>match iv k l with|true=>ab|false=>OJ (λe=>xi all k f (bZ (all.getD e jN).after.toList)) l
def qA{all:List au}{k:Nat}{L:Nat->Prop}(a:∀i,i<all.length->L i->∀e∈bZ (all.getD i jN).after.toList,L e):∀{f:Nat}{l:List Nat},xi all k f l=ab->(∀e∈l,L e)->L k
 |0,l,h,d=>d k (J1 h)
 |f+1,l,h,d=>by
  simp only[xi]at h;split at h
  .grind [J1]
  .obtain⟨e,j,c⟩:=GV h;rcases cM e all.length with g|g
   .exact qA a c (a e g (d e j))
   .have:all.getD e jN=jN:=by grind
    rw[this]at c;exact qA a c (λm b=>by simp[jN,bZ]at b)
def xj(all:List au)(f:Nat)(l:List Nat):Nat->Bool
 |0=>ab
 |n+1=>match xi all n f l with|true=>xj all f l n|false=>ae
def tQ{all:List au}{f:Nat}{l:List Nat}:∀{n:Nat},xj all f l n=ab->∀k,k<n->xi all k f l=ab
 |0,_,k,hk=>by omega
 |n+1,h,k,hk=>by
  simp only[xj]at h;split at h
  .rename_i a;by_cases e:k=n
   .grind
   .exact tQ h k (by omega)
  grind
def wH(all:List au)(f:Nat):Nat->Nat->Bool
 |_,0=>ab
 |i,r+1=>match xj all f (bZ (all.getD i jN).after.toList) i with|true=>wH all f (i+1) r|false=>ae
def tR{all:List au}{f:Nat}:∀{i r:Nat},wH all f i r=ab->∀q,i<=q->q<i+r->xj all f (bZ (all.getD q jN).after.toList) q=ab
 |i,0,_,q,b,a=>by omega
 |i,r+1,h,q,b,a=>by
  simp only[wH]at h;split at h
  .rename_i c;by_cases e:q=i
   .grind
   .exact tR h q (by omega) (by omega)
  grind
section
variable {P:ar}{X:Cx P}{N:Nat}{φ:Fr}{σ:List aR}
def Ib{ι:Type}(c:Nat)(pre:Nat->Bool)(x:Nat->D)(y:ι->Nat->D)(j:ι)(i:Nat):D:=match Nat.blt i c with|true=>ES pre x y j i|false=>.any
def AK.KG{ι:Type}(z:P.follows Departure.mixedOrders=ab)(m c l:Nat)(pre:Nat->Bool)(x:Nat->D)(y:ι->Nat->D)(σ':ι->List aR){ops:Array au}{id:Nat}{K:List It}{Qf:Post}(b:mS ops.toList=ab)(d:sG ops.toList 0=ab)(f:oE N ops.toList=ab)(s:pre m=ae)(t:AP pre m ops.toList 0=ab)(u:Nat.blt c ops.toList.length=ab)(n:Nat.blt m c=ab)(e:∀i,pre i=ab->i<c)(Qx:wH ops.toList l c (ops.toList.length-c)=ab)(one:uc X N ops.toList φ σ x pre ops.toList 0)(two:∀j,ud X N ops.toList φ (σ' j) (Ib c pre x y j) m (ops.toList.take c) 0)(NH:mV X N ops.toList (ops.toList.getD m jN) (kr ops.toList φ x m) σ (λj=>Ib c pre x y j m) σ')(k:∀j,AK X N Qf (.ops ops.toList (ops.toList.drop c)::K) .normal (NA ops.toList φ (Ib c pre x y j)) (σ' j)):AK X N Qf (.code (.region id ops ab)::K) .normal φ σ:=by
 have u:=db u;have n:=db n;have:=AW.reg (X:=X) (N:=N) (φ:=φ) (σ:=σ) z (all:=ops.toList) c (λa:Option ι=>a.elim x (Ib c pre x y)) (λa _=>a.elim σ σ') (λa D=>a.isSome=D m/\(a=af->∀i,D i=ab->pre i=ab)) af ⟨rfl,λ_ _ h=>by cases h⟩ rfl b d f (by omega)
  (λi h1 h2 L v g k hk=>qA v (tQ (tR Qx i h1 (by omega)) k hk) g)
  (λa D r q i h1 h2=>by
   obtain⟨j,rfl⟩:=xh r n q;have:Nat.blt i c=ae:=by
    cases w:Nat.blt i c with
    |false=>rfl
    |true=>have:=db w;omega
   simp only[Option.elim,Ib,this])
  (GU (S:=λj _=>σ' j) s t (λj i g=>by have:Nat.blt i c=ab:=r8 (e i g);simp only[Ib,this,ES,g])
   (λi o hi g=>by have:=one.get i o hi (by grind);grind)
   (λj D i o hi B4 vg _ _=>by
    have p:(ops.toList.take c)[i]?=aa o:=by grind
    have:=(two j).get i o p (by grind);grind)
   (λo A=>by grind) (λ_ _ _=>rfl))
  (Q:=AK X N Qf K) (λa D r q=>by obtain⟨j,rfl⟩:=xh r n q;exact k j) id
 rw[pq]at this;exact this
end
section
variable {P:ar}{X:Cx P}{N:Nat}{ops:Array au}{φ:Fr}{σ:List aR}{x:Nat->D}{S:(Nat->Bool)->List aR}
def pJ:List au->List (List Bool)->List (List Bool)
 |[],a=>a
 |o::r,a=>qF (Gx a (bZ o.after.toList)) λc=>pJ r (a++[c])
 where qF:List Bool->(List Bool->List (List Bool))->List (List Bool)
 |[],q=>q []
 |true::r,q=>qF r λr=>q (ab::r)
 |false::r,q=>qF r λr=>q (ae::r)
theorem oH:∀(l:List Bool)(q:List Bool->List (List Bool)),pJ.qF l q=q l
 |[],q=>rfl
 |true::r,q=>by simp only[pJ.qF];rw[oH r]
 |false::r,q=>by simp only[pJ.qF];rw[oH r]
def Cp{all:List au}{D:Nat->Bool}(b:∀(j:Nat)(o:au),all[j]?=aa o->D j=ab->∀e∈bZ o.after.toList,D e=ab):
  ∀(r:List au) (a:List (List Bool)),(∀k,r[k]?=all[a.length+k]?)->(∀(j:Nat) (c:List Bool),a[j]?=aa c->∀o,all[j]?=aa o->(∀e∈bZ o.after.toList,D e=ab)->∀q,bit c q=ab->D q=ab) ->
   ∀(j:Nat) (c:List Bool),(pJ r a)[j]?=aa c->∀o,all[j]?=aa o->(∀e∈bZ o.after.toList,D e=ab)->∀q,bit c q=ab->D q=ab
 |[],a,_,h=>h
 |o::r,a,d,h=>by
  simp only[pJ];rw[oH];refine Cp b r _ (λk=>?_) ?_
  .have:=d (k+1);grind
  .intro j c f;have i:=d 0;simp only[kB,iE]at i;rcases Nat.lt_trichotomy j a.length with g|rfl|l
   .grind
   .rw[gk (bc _)]at f;grind[As]
   grind
def fZ(all:List au)(i j:Nat):Bool:=match(pJ all [])[i]? with|some c=>bit c j|none=>ae
def w5{all:List au}{D:Nat->Bool}(a:∀(j:Nat)(o:au),all[j]?=aa o->D j=ab->∀e∈bZ o.after.toList,D e=ab):∀(i:Nat) o,all[i]?=aa o->(∀e∈bZ o.after.toList,D e=ab)->∀j,fZ all i j=ab->D j=ab:=by
 intro i o g f j b;unfold fZ at b;split at b
 .rename_i c d;exact Cp a all [] (by simp) (by simp) i c d o g f j b
 grind
def GG{all:List au}{D:Nat->Bool}(c:∀(j:Nat)(o:au),all[j]?=aa o->D j=ab->∀e∈bZ o.after.toList,D e=ab){i:Nat}(g:D i=ae):∀j,(j=i∨fZ all j i=ab)->D j=ae:=by
 intro j f;rcases f with rfl|f
 .exact g
 .cases h:D j with
  |false=>rfl
  |true =>
   have a:∃d,all[j]?=aa d:=by
    cases a:all[j]? with
    |some d=>grind
    |none =>
     exfalso;have k:(pJ all []).length=all.length:=by
      have:∀(r:List au) (b:List (List Bool)),(pJ r b).length=b.length+r.length:=by
       intro r;induction r with
       |nil=>intro b;simp[pJ]
       |cons o r l=>intro b;simp only[pJ];grind[oH]
      grind
     unfold fZ at f;grind
   obtain⟨d,a⟩:=a;have:=w5 c j d a (c j d a h) i f;grind
def eh{P:ar}(X:Cx P)(N:Nat)(all:List au)(φ:Fr)(x:Nat->D)(S:(Nat->Bool)->List aR)(i:Nat)(o:au):Prop :=
 ∀D:Nat->Bool,(∀j,fZ all i j=ab->D j=ab)->(∀j,(j=i∨fZ all j i=ab)->D j=ae)->OA X N all o (kr all φ x i) (S D) (x i) (S (ey i D))
def Kh{P:ar}(X:Cx P)(N:Nat)(all:List au)(φ:Fr)(x:Nat->D)(S:(Nat->Bool)->List aR):List au->Nat->Prop
 |[],_=>True
 |o::r,i=>eh X N all φ x S i o/\Kh X N all φ x S r (i+1)
theorem Kh.get{all:List au}:∀{l:List au}{k:Nat},Kh X N all φ x S l k->∀i o,l[i]?=aa o->eh X N all φ x S (k+i) o
 |[],_,_,i,o,h=>by grind
 |p::r,k,h,0,o,a=>by simp at a;subst a;exact h.1
 |p::r,k,h,i+1,o,a=>by have:=Kh.get h.2 i o (by grind);grind
def AK.flags{ops:Array au}{id:Nat}{K:List It}{Qf:Post}(l:P.follows Departure.mixedOrders=ab)(x:Nat->D)(S:(Nat->Bool)->List aR)(m:S (λ_=>ae)=σ)(a:mS ops.toList=ab)(b:sG ops.toList 0=ab)(c:oE N ops.toList=ab)(one:Kh X N ops.toList φ x S ops.toList 0)(k:∀D,(∀i,i<ops.toList.length->D i=ab)->AK X N Qf K .normal (NA ops.toList φ x) (S D)):AK X N Qf (.code (.region id ops ab)::K) .normal φ σ:=by
 have:=AW.reg (X:=X) (N:=N) (φ:=φ) (σ:=σ) l (all:=ops.toList) ops.toList.length (λ_:Unit=>x) (λ_=>S) (λ_ _=>True) () ay m a b c (bc _)
  (λi h1 h2=>absurd h2 (mN.2 h1)) (λg D _ _ i h1 h2=>absurd h2 (mN.2 h1))
  (λg D i o _ h _ f d e=>by have h1:=one.get i o h;rw[bF]at h1;exact(h1 D (w5 e i o h d) (GG e f)).tO ⟨(),λ_ _=>rfl,ay⟩ rfl rfl)
  (Q:=AK X N Qf K) (λg D _ j=>by rw[qn];exact .nil (k D j)) id
 rw[pq]at this;exact this
end
section
variable {P:ar}{X:Cx P}{N:Nat}{Qf:Post}{φ:Fr}{σ:List aR}
def AK.CG{c:Code}{K:List It}{φ':Fr}{σ':List aR}(k:AK X N Qf (.code c::K) .normal φ' σ'){ps qs:List Prop}(h1:nU φ φ'=aa ps)(a:az ps)(h2:pg σ σ'=aa qs)(b:az qs):AK X N Qf (.code c::K) .normal φ σ :=
 AK.norm σ' h2 b (AW.le k (cD h1 a))
def uR:List It->List It
 |.blk _::K=>uR K
 |K=>K
def AK.uR:∀{K:List It},AK X N Qf (uR K) .normal φ σ->AK X N Qf K .normal φ σ
 |[],h=>h
 |.blk _::K,h=>AK.uR (K:=K) h
 |.code _::_,h=>h
 |.ops _ _::_,h=>h
def AK.lj{S S2:Type}{c c2:Code}(id:Nat){K e i:List It}(h2:j9 id K=aa e)(l:Go.AM.uR e=.code c2::i)(O:S2->Prop)(kr:S2->Fr)(a:S2->List aR)(n:Nat)(I:S->Prop)(fr:S->Fr)(st:S->List aR)(h:S->Nat)(x:S){ps qs:List Prop}(b:nU φ (fr x)=aa ps)(d:az ps)(g:pg σ (st x)=aa qs)(f:az qs)(j:σ.length=n)(m:I x)(round:(∀(y:S2) {φ:Fr} {σ:List aR} {ps qs:List Prop},O y->nU φ (kr y)=aa ps->az ps->pg σ (a y)=aa qs->az qs->AK X N Qf e .normal φ σ) ->
   ∀x,I x->AK X N (lF X N Qf K I fr st h n x) [.code c] .normal (fr x) (st x))(after:∀y,O y->AK X N Qf (.code c2::i) .normal (kr y) (a y)):AK X N Qf (.code (.loop c)::K) .normal φ σ :=
 AK.cE n I fr st h x b d g f j m (round λy _ _ _ _ k h1 d h2 f=>AK.uR (by rw[l];exact(after y k).CG h1 d h2 f))
end
def fR(a:Nat->Option Obj):Mem:=λb o=>match a b with
 |some (.cells cs _ _)=>cs[o]?
 |_=>af
def PM(K:Mem->Prop):ah->(Nat->Option Obj)->Prop:=λu a=>u=.nilFunc/\(∀b o,a b=aa o->∃cs E,o=.cells cs E (0,0))/\K (fR a)
section
variable {P:ar}{X:Cx P}{N:Nat}{Qf:Post}{d:List It}{φ:Fr}{σ:List aR}{all rest:List au}{o:au}
def AK.merge(i j:Nat){H1 H2 H:ah->(Nat->Option Obj)->Prop}{c:Code}(M:i≠j)(hi:σ[i]?=aa (.cm H1))(hj:σ[j]?=aa (.cm H2))(h1:∀v ch,H1 v ch->v=.nilFunc)(h:∀v f v2 k,H1 v f->H2 v2 k->(∀b,(f b).isSome=ab->(k b).isSome=ab->False)->H .nilFunc λb=>(f b).or (k b))(kk:AK X N Qf (.code c::d) .normal φ ((σ.set i (.cm H)).set j .dead)):AK X N Qf (.code c::d) .normal φ σ:=by
 refine AK.ghost (λs a K hh=>?_) kk;have W:i<σ.length:=(b6.1 hi).1;have Z:j<σ.length:=(b6.1 hj).1;have F:i<s.β.length:=by rw[hh.len];grind
 have G:j<s.β.length:=by rw[hh.len];grind
 obtain⟨z,n⟩:∃L,s.β[i]?=aa L:=⟨_,br F⟩;obtain⟨r,p⟩:∃L,s.β[j]?=aa L:=⟨_,br G⟩;have Y:=hh.box i _ z hi n;have bj:=hh.box j _ r hj p;have vi:z.v=.nilFunc:=by obtain⟨ch,hH,_⟩:=Y;grind
 let s':St:={s with β:=(s.β.set i ⟨.nilFunc,z.bs++r.bs⟩).set j ⟨r.v,[]⟩}
 have I:∀l,((σ.set i (.cm H)).set j .dead)[l]?=if l=j then aa .dead else if l=i then aa (.cm H)else σ[l]?:=λl=>by grind
 have C:∀l,s'.β[l]?=if l=j then aa ⟨r.v,[]⟩else if l=i then aa ⟨.nilFunc,z.bs++r.bs⟩else s.β[l]?:=λl=>by grind
 have mi:=bP n;have mj:=bP p;have T:∀L∈s'.β,∀b∈L.bs,∃y∈s.β,b∈y.bs:=λL g b m=>by grind
 have ex:Ext σ s ((σ.set i (.cm H)).set j .dead) s':=by
  refine⟨λ_ _ _ h=>h,λl B L hB g=>?_⟩;rw[I,C];by_cases e:l=j
  .subst e;rw[hj]at hB;cases hB;rw[p]at g;cases g;exact⟨.dead,⟨r.v,[]⟩,by simp,by simp,rfl⟩
  .by_cases E:l=i
   .subst E;rw[hi]at hB;cases hB;rw[n]at g;cases g;exact⟨.cm H,⟨.nilFunc,z.bs++r.bs⟩,by simp[e],by simp[e],vi.symm⟩
   .exact⟨B,L,by grind,by grind,.refl _ _⟩
 have st:Step σ s ((σ.set i (.cm H)).set j .dead) s' :=
  ⟨bc _,λ_ _ _=>rfl,λ_ _ _ h=>h,λ_ _ _ _=>rfl,λL h b m=>.inr (T L h b m),ex.box,rfl,rfl,rfl,rfl⟩
 obtain⟨f,a1,a2,a3,a4⟩:=Y;obtain⟨k,b1,b2,b3,b4⟩:=bj;have S:∀b,(f b).isSome=ab->(k b).isSome=ab->False:=λb J q2=>M (hh.eO i j z r n p b ((a3 b).2 J) ((b3 b).2 q2));refine⟨s',rfl,⟨K.size,K.defers.imp λ_ h1=>h1.mono ex,λu=>(K.slot u).mono ex hh.len⟩,⟨hh.mem,by simp[s',hh.len],?_,?_,λL g b m=>?_,λb m=>⟨(hh.own b m).1,λL g Q=>?_⟩⟩,st⟩
 .intro l B L hB g;rw[I]at hB;rw[C]at g;split at hB
  .cases hB;trivial
  .rename_i e;rw[aY e]at g;split at hB
   .rename_i E;rw[bl E]at g;cases hB;cases g;refine⟨λb=>(f b).or (k b),h _ f _ k a1 b1 S,λb o m=>?_,λb=>?_,λb m o=>?_⟩
    .cases h1:f b with
     |some x=>grind
     |none=>grind
    .grind
    grind
   .rename_i E;rw[aY E]at g;exact(hh.box l B L hB g).carry ex hh.len λb m=>⟨rfl,λ_=>rfl⟩
 .intro l l' L1 L2 J q2 b m U;rw[C]at J q2;have key:∀l L,(if l=j then aa (⟨r.v,[]⟩:Loc)else if l=i then aa ⟨.nilFunc,z.bs++r.bs⟩else s.β[l]?)=aa L->b∈L.bs->(l=i/\(b∈z.bs∨b∈r.bs))∨(l≠i/\l≠j/\∃y,s.β[l]?=aa y/\b∈y.bs):=λl L q m=>by
   split at q
   .grind
   .split at q
    .grind
    grind
  rcases key l L1 J m with⟨e1,w⟩|⟨n1,O,L3,w,A⟩<;>rcases key l' L2 q2 U with⟨e2,t⟩|⟨n2,R,L4,t,D⟩
  .grind
  .rcases w with w|w
   .exact absurd (hh.eO _ _ _ _ n t b w D).symm n2
   .exact absurd (hh.eO _ _ _ _ p t b w D).symm R
  .rcases t with t|t
   .exact absurd (hh.eO _ _ _ _ n w b t A).symm n1
   .exact absurd (hh.eO _ _ _ _ p w b t A).symm O
  .exact hh.eO _ _ _ _ w t b A D
 .obtain⟨y,V,h1⟩:=T L g b m;exact hh.lt y V b h1
 .obtain⟨y,V,h1⟩:=T L g b Q;exact(hh.own b m).2 y V h1
def xq(M M':Mem):Prop:=∀b o v,M b o=aa v->M' b o=aa v
def PM.add{K s:Mem->Prop}{E:aj}{k n:Nat}{bf:nC}{xs:List ah}(m:∀M M',xq M M'->K M->(∀b cap,bf=.row b cap->∀j v,xs[j]?=aa v->M' b j=aa v)->s M'):
  ∀v c l f,PM K v c->gf E k bf n xs l f->(∀b,(c b).isSome=ab->(f b).isSome=ab->False)->PM s .nilFunc λb=>(c b).or (f b):=by
 rintro v c l f ⟨_,h2,t⟩ i y;have g:xq (fR c) (fR λb=>(c b).or (f b)):=λb o v r=>by
  cases h:c b with
  |none=>simp[fR,h]at r
  |some x=>simpa[fR,h]using r
 cases bf with
 |nil a =>
  obtain⟨_,_,_,_,rfl⟩:=i;exact⟨rfl,λb o w=>h2 b o (by grind),m _ _ g t λb cap e=>by cases e⟩
 |row b cap =>
  obtain⟨_,q2,q3,q4,A,B,z,rfl⟩:=i;refine⟨rfl,λp o w=>?_,m _ _ g t λp q e j v hj=>?_⟩
  .cases h:c p with
   |some x=>grind
   |none =>
    grind
  .cases e;have u:c b=af:=by
    cases h:c b with
    |none=>rfl
    |some x=>grind
   have hl:j<xs.length:=(b6.1 hj).1;simp only[fR,u,Option.none_or,cq];grind
def PM.start{E:aj}{k n:Nat}{xs:List ah}{a:Option Addr}{K:Mem->Prop}(c:∀M,K M):∀v ch,gf E k (.nil a) n xs v ch->PM K v ch:=by rintro v ch ⟨h1,_,_,_,rfl⟩;exact⟨h1,λb o e=>by grind,c _⟩
def PM.Cc{e:Nat}{K:Mem->Prop}{u:ah}{k n:Nat}{es:Nat->List C}(hl:σ[e]?=aa (.cm (PM K)))(j:∀M,K M->Rd M u (.sl ae k n es)):hU σ e u k n es:=by
 intro s hh;have c:e<s.β.length:=by rw[hh.len];grind
 have f:=br c;generalize s.β[e]=L at f;obtain⟨ch,⟨h1,h2,p⟩,i,m,q⟩:=hh.box e _ L hl f;have g:∀b o v,fR ch b o=aa v->b∈L.bs/\s.w.cell? ⟨b,o,af⟩=aa v:=λb o v a=>by
  cases h:ch b with
  |none=>simp[fR,h]at a
  |some x =>
   obtain⟨cs,E,rfl⟩:=h2 b x h;have l:=i b _ h;simp only[fR,h]at a;exact⟨(m b).2 (by simp[h]),by simpa[aV,l]using a⟩
 refine⟨L,λb o=>(s.M b o).or (fR ch b o),f,λb o v a=>by grind,λb r o=>?_,λb o v a=>?_,q,(j _ p).mono λb o v a=>?_⟩
 .cases h:fR ch b o with
  |none=>simp[h]
  |some v=>grind
 .cases h:s.M b o with
  |some v'=>simp only[h,Option.some_or]at a;cases a;exact hh.mem b o v h
  |none=>grind
 grind
def gf.VF{E:aj}{k n l:Nat}{bf:nC}{xs:List ah}(hl:σ[l]?=aa (.cm (gf E k bf n xs)))(h:0<n)(s:St)(hh:aF σ s):∃b cap,bf=.row b cap/\n<=cap/\cap<=9223372036854775807:=by
 have c:l<s.β.length:=by rw[hh.len];grind
 obtain⟨ch,e,_⟩:=hh.box l _ _ hl (br c);cases bf with
 |nil a=>obtain⟨_,_,_,f,_⟩:=e;omega
 |row b cap=>obtain⟨_,_,_,f,g,_⟩:=e;grind
end
def wI(l k n:Nat)(es:Nat->List C):A->A×List Prop
 |.bp l' (.sl g k' o m)=>match aB l' l with
  |true=>match aB k' k with
   |true=>(.c (.sl ae k m (rE o es)),[g=n,o+m<=n])
   |false=>(.bp l' (.sl g k' o m),[])
  |false=>(.bp l' (.sl g k' o m),[])
 |a=>(a,[])
def oF(l k n:Nat)(es:Nat->List C):List A->List A×List Prop
 |[]=>([],[])
 |a::r=>match wI l k n es a with
  |(a',p)=>match oF l k n es r with
   |(r',q)=>(a'::r',la p q)
def Er(l k n:Nat)(es:Nat->List C):E1->E1×List Prop
 |.one a=>match wI l k n es a with|(a',p)=>(.one a',p)
 |.agg cs=>match oF l k n es cs with|(b,p)=>(.agg b,p)
def Et(l k n:Nat)(es:Nat->List C):D->D×List Prop
 |.e x=>match Er l k n es x with|(a,p)=>(.e a,p)
 |d=>(d,[])
def wJ(l k n:Nat)(es:Nat->List C):Fr->Fr×List Prop
 |[]=>([],[])
 |(t,d)::r=>match Et l k n es d with
  |(a,p)=>match wJ l k n es r with
   |(r',q)=>((t,a)::r',la p q)
def g8(l k n:Nat)(es:Nat->List C):Nat->List aR->List aR×List Prop
 |_,[]=>([],[])
 |i,b::r=>match g8 l k n es (i+1) r with
  |(r',q)=>match aB i l with
   |true=>(.dead::r',q)
   |false=>match b with
    |.cells E cs=>match oF l k n es cs with|(a,p)=>(.cells E a::r',la p q)
    |b=>(b::r',q)
section
variable {σ σ':List aR}{s s2:St}{E l k n:Nat}{es:Nat->List C}
structure jr(σ:List aR)(s:St)(l k n:Nat)(es:Nat->List C)(σ':List aR)(s2:St):Prop where
 fy:∀v a,gB σ s v a->gB σ' s2 v a
 JS:∀v k' o m,gB σ s v (.bp l (.sl n k' o m))->k'=k->o+m<=n->Rd s2.M v (.sl ae k m (rE o es))
def jr.a(h:jr σ s l k n es σ' s2){v:ah}{a:A}(b:az (wI l k n es a).2)(r:gB σ s v a):gB σ' s2 v (wI l k n es a).1:=by
 unfold wI at b⊢;split
 .rename_i l' g k' o m;split
  .rename_i e1;split
   .rename_i e2;simp only[e1,e2]at b;have e1:=bX e1;have e2:=bX e2;subst e1;obtain⟨rfl,h2⟩:g=n/\o+m<=n:=b;exact h.JS v _ _ _ r e2 h2
   .exact h.fy v _ r
  .exact h.fy v _ r
 .exact h.fy v _ r
def jr.ls(h:jr σ s l k n es σ' s2):∀{vs:List ah}{cs:List A},az (oF l k n es cs).2->ei σ s vs cs->ei σ' s2 vs (oF l k n es cs).1
 |[],[],_,_=>trivial
 |[],_::_,_,r=>r.elim
 |_::_,[],_,r=>r.elim
 |v::vs,c::cs,b,r=>by simp only[oF]at b⊢;rw[az.cat]at b;exact⟨h.a b.1 r.1,h.ls b.2 r.2⟩
def jr.e(h:jr σ s l k n es σ' s2){v:ah}{x:E1}(b:az (Er l k n es x).2)(r:nB σ s v x):nB σ' s2 v (Er l k n es x).1:=by
 cases x with
 |one a=>exact h.a b r
 |agg cs=>obtain⟨vs,f,d⟩:=r;exact⟨vs,f,h.ls b d⟩
def jr.d(h:jr σ s l k n es σ' s2)(hl:s.β.length=σ.length)(b:Ext σ s σ' s2){v:ah}{d:D}(a:az (Et l k n es d).2)(r:dt σ s v d):dt σ' s2 v (Et l k n es d).1:=by
 cases d with
 |e x=>exact h.e a r
 |fa xs=>exact r.mono b hl
 |any=>trivial
def jr.f(h:jr σ s l k n es σ' s2)(hl:s.β.length=σ.length)(g:Ext σ s σ' s2):∀{φ:Fr}{t:Nat}{v:ah},az (wJ l k n es φ).2->dt σ s v (look φ t)->dt σ' s2 v (look (wJ l k n es φ).1 t)
 |[],_,_,_,_=>trivial
 |(u,d)::r,t,v,b,a=>by
  simp only[wJ]at b⊢;rw[az.cat]at b;simp only[look]at a⊢;cases e:aB u t with
  |true=>rw[e]at a;exact h.d hl g b.1 a
  |false=>rw[e]at a;exact h.f hl g b.2 a
theorem rF:∀{σ:List aR}{i j:Nat},(g8 l k n es i σ).1[j]?=match σ[j]? with
  |none=>af
  |some b=>aa (match aB (i+j) l with|true=>.dead|false=>match b with|.cells E cs=>.cells E (oF l k n es cs).1|b=>b)
 |[],i,j=>by simp[g8]
 |b::r,i,0=>by simp only[g8,iE,kB];grind
 |b::r,i,j+1=>by
  have a:=rF (σ:=r) (i:=i+1) (j:=j);have e:i+1+j=i+(j+1):=by omega
  rw[e]at a;simp only[g8,og];grind
def wK:∀{σ:List aR}{i j:Nat}{E:aj}{cs:List A},az (g8 l k n es i σ).2->σ[j]?=aa (.cells E cs)->i+j≠l->az (oF l k n es cs).2
 |[],i,j,_,_,_,a,_=>by grind
 |b::r,i,0,E,cs,d,a,e=>by simp at a;subst a;simp only[g8]at d;grind[Nat.eq_of_beq_eq_true,az.cat]
 |b::r,i,j+1,E,cs,d,a,e=>by simp at a;refine wK (σ:=r) (i:=i+1) (j:=j) ?_ a (by omega);simp only[g8]at d;grind[az.cat]
theorem rG:∀{σ:List aR}{i:Nat},(g8 l k n es i σ).1.length=σ.length
 |[],_=>rfl
 |b::r,i=>by simp only[g8];have a:=rG (σ:=r) (i:=i+1);grind
def aF.oV(hh:aF σ s)(hB:σ[l]?=aa (.buf E k n es))(hq:az (g8 l k n es 0 σ).2):
  ∃s2:St,s2.w=s.w/\aF (g8 l k n es 0 σ).1 s2/\Step σ s (g8 l k n es 0 σ).1 s2/\jr σ s l k n es (g8 l k n es 0 σ).1 s2:=by
 have H:l<σ.length:=(b6.1 hB).1;have R:s.β[l]?=aa (s.β[l]'(by rw[hh.len];exact H)):=br _;generalize s.β[l]'(by grind)=L at R;have I:=hh.box _ _ L hB R;obtain⟨M',m1,m2,m3,m4⟩:∃M':Mem,(∀b o v,s.M b o=aa v->M' b o=aa v)/\(∀b,b∉L.bs->∀o,M' b o=s.M b o)/\(∀b o v,M' b o=aa v->s.w.cell? ⟨b,o,af⟩=aa v) /\
   (∀v k' o m,gB σ s v (.bp l (.sl n k' o m))->k'=k->o+m<=n->Rd M' v (.sl ae k m (rE o es))):=by
  rcases I with⟨rfl,rfl⟩|⟨b,c0,vs,zs,rfl,hw,Jo,Ye,Nz,hF,hM⟩
  .refine⟨s.M,λ_ _ _ h=>h,λ_ _ _=>rfl,hh.mem,λv k' o m r e y=>?_⟩;obtain⟨lv,⟨a,a0,cap,c0,z,h1,h2,Q,J,S⟩,_,Y⟩:=r;grind[Rd.jY]
  .let M':Mem:=λq o=>if q=b then vs[o]? else s.M q o;have mm:∀q o v,s.M q o=aa v->M' q o=aa v:=λq o v z=>by grind
   refine⟨M',mm,λq B6 o=>?_,λq o v z=>?_,λv k' o m r e y=>?_⟩
   .grind
   .by_cases e:q=b
    .subst e;simp only[M',cq]at z;simp only[aV,hw];grind
    .simp only[M',e,ck]at z;exact hh.mem q o v z
   .subst e;obtain⟨lv,⟨a,a0,cap,c1,z,h1,h2,Q,J,S⟩,_,Y⟩:=r;obtain⟨L',f,G⟩:=(Y _ _ _ _ hB).2 rfl;rw[R]at f;cases f;rw[J]at G;cases G;rw[z];have g:∀i,i<m->∀j c,(rE o es i)[j]?=aa c->∃u,vs[(o+i)*k'+j]?=aa u/\Rd s.M u c:=λi hi j c hj=>by rw[vP]at hj;exact hF.rd (o+i) (by omega) j c hj
    refine .sl b (o*k') (λi j=>(vs[(o+i)*k'+j]?).getD ai) h1 (by omega) (by simp) (λi hi=>by rw[vP];exact hF.width _ (by omega)) (λhm=>?_) (λi hi j c hj=>?_) (λi hi j c hj=>?_)
    .grind
    .grind
    .obtain⟨u,u1,u2⟩:=g i hi j c hj;rw[u1];exact u2.mono mm
 obtain⟨D,q2⟩:=hh.gJ (M':=M') (w':=s.w) (B':=.dead) (L':=⟨L.v,[]⟩) hB R ay (bc _) (λ_ _ _=>rfl) (λb _ T o=>m2 b T o) m1 m3 (by simp) rfl rfl rfl ay;let s2:St:=⟨s.β.set l ⟨L.v,[]⟩,M',s.w,s.own⟩
 have g:∀i B,σ[i]?=aa B->i≠l->(g8 l k n es 0 σ).1[i]?=aa (match B with|.cells E cs=>.cells E (oF l k n es cs).1|b=>b):=λi B hi B4=>by grind[rF,Nat.eq_of_beq_eq_true]
 have F:(g8 l k n es 0 σ).1[l]?=aa .dead:=by
  rw[rF,hB];have:aB (0+l) l=ab:=by rw[bF];exact ja l
  grind
 have wL:Step (σ.set l .dead) s2 (g8 l k n es 0 σ).1 s2:=by
  refine⟨bc _,λ_ _ _=>rfl,λ_ _ _ h=>h,λ_ _ _ _=>rfl,λL' f b T=>.inr ⟨L',f,T⟩,λi B L' hi f=>?_,rfl,rfl,rfl,rfl⟩;by_cases e:i=l
  .subst e;rw[gn H]at hi;cases hi;exact⟨.dead,L',F,f,rfl⟩
  .rw[kC (λh=>e h.symm)]at hi;refine⟨_,L',g i B hi e,f,?_⟩;cases B<;>first|exact gI.refl _ _|rfl
 have st:=q2.trans wL;have Z:jr σ s l k n es (g8 l k n es 0 σ).1 s2:=⟨λv a r=>r.mono st.ext hh.len,λv k' o m r e y=>m4 v k' o m r e y⟩
 refine⟨s2,rfl,⟨D.mem,by rw[rG,<-hh.len];grind,λi B L' hi f=>?_,D.eO,D.lt,D.own⟩,st,Z⟩;by_cases e:i=l
 .subst e;rw[F]at hi;cases hi;trivial
 .have A:i<σ.length:=by grind[rG]
  have x:=br A;have U:s.β[i]?=aa L':=by grind
  have V:=hh.box i _ L' x U;have p:=D.box i _ L' (by rw[kC (λh=>e h.symm)];exact x) f;have d:=g i _ x e;rw[hi]at d;have d:=sq d;generalize hBe:σ[i]=B0 at *;cases B0 with
  |cells E0 cs =>
   subst d;obtain⟨b,vs,h1,h2,Q,S⟩:=V;obtain⟨q,wF,O,Yi,_,W⟩:=p;rw[h1]at O;cases O;exact⟨b,vs,h1,h2,Z.ls (wK hq x (by omega)) Q,W⟩
  |vec=>subst d;exact p
  |cm=>subst d;exact p
  |dead=>subst d;trivial
  |loop N φ r =>
   subst d;obtain⟨l1,tmps,fn,df,h1,h2,Q,S,h5⟩:=p;exact⟨l1,tmps,fn,df,h1,h2,Q,λt=>(S t).mono wL.ext D.len,h5⟩
  |qX=>subst d;exact p
  |buf=>subst d;exact p
end
section
variable {P:ar}{X:Cx P}{N:Nat}{Qf:Post}{K:List It}{φ φ':Fr}{σ σ':List aR}{c:Code}
def AK.oV(l:Nat){E k n:Nat}{es:Nat->List C}{ps qs:List Prop}(hl:dC l σ=aa (.buf E k n es))(i:wJ l k n es φ=(φ',ps))(d:g8 l k n es 0 σ=(σ',qs))(j:az ps)(m:az qs)(kk:AK X N Qf (.code c::K) .normal φ' σ'):AK X N Qf (.code c::K) .normal φ σ:=by refine AK.ghost (λs a e hh=>?_) kk;obtain⟨s2,h1,h2,b,g⟩:=hh.oV (b9 hl) (by grind);rw[d]at h2 b g;refine⟨s2,h1,⟨e.size,e.defers.imp λ_ h=>h.mono b.ext,λt=>?_⟩,h2,b⟩;have:=g.f hh.len b.ext (φ:=φ) (t:=t) (by grind) (e.slot t);grind
end
section
variable {P:ar}{X:Cx P}
def ef.BT{ι:Type}{f:aJ}{args:List D}{E:aj}{k n:Nat}{a b:C}{ok:Bool}{es:ι->Nat->List C}{K:ι->Mem->Prop}(es':Nat->List C)(h:ef X f args [] (λ_=>.fa [.agg [.bp 0 (.sl n k 0 n),.c a,.c b],.one (.c (.bool ok))]) (λi=>[.buf E k n (es i),.cm (PM (K i))]))(hK:∀i M M',xq M M'->K i M->K i M')(u:∀i M,K i M->∀j,j<n->(es' j).length=k/\∀(p:Nat) (c:C),(es' j)[p]?=aa c->∃V,(es i j)[p]?=aa V/\∀v M0,Rd M0 v V->Rd M v c):
  ef (ι:=ah) X f args [] (λv=>.fa [.agg [.c (.val v),.c a,.c b],.one (.c (.bool ok))]) (λv=>[.dead,.cm (PM λM=>Rd M v (.sl ae k n es'))]):=by
 refine⟨h.1,λs vs hr hh S cs hS=>h.2 s vs hr hh S cs λi fr v s' hl mK jh st=>?_⟩;have Z:s'.β.length=2:=jh.len;obtain⟨t,L1,T⟩:∃t L1,s'.β=[t,L1]:=by
  match hq:s'.β with
  |[A,B]=>grind
  |[]=>grind
  |[_]=>grind
  |_::_::_::_=>grind
 have R:s'.β[0]?=aa t:=by grind
 have g1:s'.β[1]?=aa L1:=by grind
 obtain⟨ch,⟨p1,p2,p3⟩,p4,p5,p6⟩:=jh.box 1 _ L1 rfl g1;have b0:=jh.box 0 _ t rfl R;obtain⟨ws,rfl,hw⟩:=mK
 match ws,hw with
 |[w0,w1],⟨F,z,_⟩ =>
 obtain⟨us,rfl,Q⟩:=F
 match us,Q with
 |[u0,u1,u2],⟨Y,U,H,_⟩ =>
 obtain⟨lv,⟨a',a0,cap,V,rfl,k1,k2,k3,k4,k5⟩,_,I⟩:=Y;obtain⟨_,I⟩:=I E k n (es i) rfl;obtain⟨L0',e0,e1⟩:=I rfl;rw[R]at e0;cases e0;rw[k4]at e1;have adT:∀x,x∈t.bs->x∈L1.bs->False:=λx h1 h2=>absurd (jh.eO 0 1 t L1 R g1 x h1 h2) (by decide);obtain⟨m,q1,q2,q3,q4⟩:∃m:Nat->Option Obj,(∀x o,m x=aa o->s'.w.heap[x]?=aa o/\∃cs E,o=.cells cs E (0,0))/\(∀x,x∈t.bs↔(m x).isSome=ab)/\(∀x∈t.bs,∀o,s'.M x o=af) /\
   (∀d,(∀x,(m x).isSome=ab->d x=m x)->K i (fR d)->Rd (fR d) (.slice a' n cap) (.sl ae k n es')):=by
  rcases b0 with⟨rfl,rfl⟩|⟨bb,c1,xs,zs,rfl,z1,z2,z3,z4,z5,z6⟩
  .exact⟨λ_=>af,by simp,by simp,by simp,λd _ _=>.sl 0 0 (λ_ _=>ai) k1 (by omega) (λh=>by cases h) (λi hi=>by omega) (λh=>by omega) (λi hi=>by omega) λi hi=>by omega⟩
  .cases e1;refine⟨λx=>if x=bb then aa (.cells (xs++zs).toArray E (0,0))else af,λx o g=>?_,λx=>by by_cases e:x=bb<;>simp[e],λx g o=>?_,λd hc hk=>?_⟩
   .grind
   .grind
   .have J:d bb=aa (.cells (xs++zs).toArray E (0,0)):=by grind
    refine .sl bb 0 (λi' j'=>xs.getD (i'*k+j') ai) k1 (by omega) (λh=>by cases h) (λj hj=>(u i _ hk j hj).1) (λh=>?_) (λj hj p c N=>?_) λj hj p c N=>?_
    .grind
    .obtain⟨c2,h1,h2⟩:=(u i _ hk j hj).2 p c N;obtain⟨v,v1,v2⟩:=z5.rd j hj p c2 h1;have vg:=(b6.1 v1).1;simp only[fR,J,iB,bF];grind
    .obtain⟨c2,h1,h2⟩:=(u i _ hk j hj).2 p c N;obtain⟨v,v1,v2⟩:=z5.rd j hj p c2 h1;grind
 let d:Nat->Option Obj:=λx=>(ch x).or (m x);have W:∀x,(m x).isSome=ab->d x=m x:=λx g=>by
  have:ch x=af:=by
   cases h:ch x with
   |none=>rfl
   |some y=>grind
  grind
 have G:xq (fR ch) (fR d):=λx o v hv=>by
  cases h:ch x with
  |none=>simp[fR,h]at hv
  |some y=>simpa[fR,h,d]using hv
 let s2:St:={s' with β:=[⟨t.v,[]⟩,⟨.nilFunc,L1.bs++t.bs⟩]}
 have r:∀L∈s2.β,∀x∈L.bs,∃L'∈s'.β,x∈L'.bs:=λL q x g=>by rw[T];simp only[s2,eB,oq,mO]at q;grind
 have hG:eF s' s2:=⟨rfl,λ_ _ _ h=>h,λ_ _ _=>rfl,jh.mem,λx g=>g.imp id λ⟨L,q,g⟩=>r L q x g⟩
 refine .ghost hG (hS (.slice a' n cap) fr _ s2 (hl.mono λ_ _ _ h=>h) ⟨_,rfl,⟨_,rfl,Rd.val rfl,U,H,ay⟩,z,ay⟩ ⟨jh.mem,rfl,λl B L hB q=>?_,λl l' A B h1 h2 x g QL=>?_,λL q x g=>?_,λx g=>⟨(jh.own x g).1,λL q O=>?_⟩⟩
  ⟨st.size,st.fy,st.mem,λx g hn o=>st.je x g hn o,λL q x g=>?_,λl B L hB=>by grind,st.os,st.tape,st.output,st.own⟩)
 .match l,hB,q with
  |0,hB,q=>cases hB;trivial
  |1,hB,q =>
   cases hB;cases q;refine⟨d,⟨rfl,λx o g=>?_,q4 d W (hK i _ _ G p3)⟩,λx o g=>?_,λx=>?_,λx g o=>?_⟩
   .cases h:ch x with
    |some y=>simp only[d,h,Option.some_or]at g;exact p2 x o (h.trans g)
    |none=>simp only[d,h,Option.none_or]at g;exact(q1 x o g).2
   .cases h:ch x with
    |some y=>grind
    |none=>grind
   .grind
   grind
  |l+2,hB,q=>grind
 .match l,l',h1,h2 with
  |0,0,_,_=>rfl
  |1,1,_,_=>rfl
  |0,1,h1,_=>grind
  |1,0,_,h2=>grind
  |l+2,_,h1,_=>grind
  |_,l+2,_,h2=>grind
 .obtain⟨L',h1,h2⟩:=r L q x g;exact jh.lt L' h1 x h2
 .obtain⟨L',h1,h2⟩:=r L q x O;exact(jh.own x g).2 L' h1 h2
 .obtain⟨L',h1,h2⟩:=r L q x g;exact st.vJ L' h1 x h2
end
section
variable {P:ar}{X:Cx P}{N:Nat}{ops:Array au}{φ:Fr}{σ:List aR}{c:Type}{x:c->Nat->D}{S:c->(Nat->Bool)->List aR}{Inv:c->(Nat->Bool)->Prop}
def iy{P:ar}(X:Cx P)(N:Nat)(all:List au)(φ:Fr){c:Type}(x:c->Nat->D)(S:c->(Nat->Bool)->List aR)(Inv:c->(Nat->Bool)->Prop)(i:Nat)(o:au):Prop :=
 ∀b (D:Nat->Bool),Inv b D->(∀j,fZ all i j=ab->D j=ab)->(∀j,(j=i∨fZ all j i=ab)->D j=ae)->mV X N all o (kr all φ (x b) i) (S b D) (λq:{a:c // (∀j,D j=ab->x a j=x b j)/\Inv a (ey i D)}=>x q.1 i) (λq=>S q.1 (ey i D))
def Kg{P:ar}(X:Cx P)(N:Nat)(all:List au)(φ:Fr){c:Type}(x:c->Nat->D)(S:c->(Nat->Bool)->List aR)(Inv:c->(Nat->Bool)->Prop):List au->Nat->Prop
 |[],_=>True
 |o::r,i=>iy X N all φ x S Inv i o/\Kg X N all φ x S Inv r (i+1)
theorem Kg.get{all:List au}:∀{l:List au}{k:Nat},Kg X N all φ x S Inv l k->∀i o,l[i]?=aa o->iy X N all φ x S Inv (k+i) o
 |[],_,_,i,o,h=>by grind
 |p::r,k,h,0,o,a=>by simp at a;subst a;exact h.1
 |p::r,k,h,i+1,o,a=>by have:=Kg.get h.2 i o (by grind);grind
def AK.Sj{ops:Array au}{id:Nat}{K:List It}{Qf:Post}(q:P.follows Departure.mixedOrders=ab)(x:c->Nat->D)(S:c->(Nat->Bool)->List aR)(Inv:c->(Nat->Bool)->Prop)(d:c)(m:Inv d λ_=>ae)(r:S d (λ_=>ae)=σ)(b:mS ops.toList=ab)(e:sG ops.toList 0=ab)(f:oE N ops.toList=ab)(one:Kg X N ops.toList φ x S Inv ops.toList 0)(k:∀a D,Inv a D->(∀i,i<ops.toList.length->D i=ab)->AK X N Qf K .normal (NA ops.toList φ (x a)) (S a D)):AK X N Qf (.code (.region id ops ab)::K) .normal φ σ:=by
 have:=AW.reg (X:=X) (N:=N) (φ:=φ) (σ:=σ) q (all:=ops.toList) ops.toList.length x S Inv d m r b e f (bc _)
  (λi h1 h2=>absurd h2 (mN.2 h1)) (λa D _ _ i h1 h2=>absurd h2 (mN.2 h1))
  (λa D i o l n _ j g h=>by have h1:=one.get i o n;rw[bF]at h1;exact h1 a D l (w5 h i o n g) (GG h j))
  (Q:=AK X N Qf K) (λa D l p=>by rw[qn];exact .nil (k a D l p)) id
 rw[pq]at this;exact this
theorem iy.of{all:List au}{i:Nat}{o:au}(h:∀d (D:Nat->Bool),Inv d D->(∀j,fZ all i j=ab->D j=ab)->(∀j,(j=i∨fZ all j i=ab)->D j=ae)->Inv d (ey i D)/\OA X N all o (kr all φ (x d) i) (S d D) (x d i) (S d (ey i D))):iy X N all φ x S Inv i o:=by intro d D g h1 h2 s a f hh b k cs SS idx rest hb hi hK;obtain⟨e,q2⟩:=h d D g h1 h2;exact q2 s a f hh b k cs SS idx rest hb hi λv s' r1 r2 r3=>hK ⟨d,λ_ _=>rfl,e⟩ v s' r1 r2 r3
def iy.ofI{all:List au}{i:Nat}{o:au}(h:∀e (D:Nat->Bool),Inv e D->(∀j,fZ all i j=ab->D j=ab)->(∀j,(j=i∨fZ all j i=ab)->D j=ae) ->
  ∃(ι:Type) (y:ι->Go.AM.D) (σ':ι->List aR),mV X N all o (kr all φ (x e) i) (S e D) y σ'/\∀j,∃d,((∀q,D q=ab->x d q=x e q)/\Inv d (ey i D))/\y j=x d i/\σ' j=S d (ey i D)):iy X N all φ x S Inv i o:=by intro e D m h1 h2 s a f hh b k cs SS idx rest hb hi hK;obtain⟨ι,y,σ',l,q2⟩:=h e D m h1 h2;refine l s a f hh b k cs SS idx rest hb hi λj v s' r1 r2 r3=>?_;obtain⟨d,g,p2,p3⟩:=q2 j;rw[p2]at r1;rw[p3]at r1 r2 r3;exact hK ⟨d,g⟩ v s' r1 r2 r3
end
section
variable {P:ar}{X:Cx P}{N:Nat}{all:List au}{φ:Fr}{x:Nat->D}{l:Bool->Bool->Bool->Bool->List aR}{i k e g f:Nat}{o:au}
abbrev pI(l:Bool->Bool->Bool->Bool->List aR)(k e g f:Nat):(Nat->Bool)->List aR:=λD=>l (D k) (D e) (D g) (D f)
theorem rK{i j:Nat}{D:Nat->Bool}(h:aB j i=ae):ey i D j=D j:=by simp only[ey,h]
theorem Co{i:Nat}{D:Nat->Bool}:ey i D i=ab:=by simp only[ey,ja]
def eh.q4(h1:aB k i=ae)(h2:aB e i=ae)(m:aB g i=ae)(j:aB f i=ae)(h:∀a b c d,OA X N all o (kr all φ x i) (l a b c d) (x i) (l a b c d)):eh X N all φ x (pI l k e g f) i o:=by intro D _ _;grind[rK]
def eh.XO{T:List (Nat×TI)}{CT:List (Nat×dv)}{obs:List Prop}(hT:cW P T)(hC:bL X CT)(n:az obs)(h:∀a b c d,wP T CT [] all (kr all φ x i) (l a b c d) o=aa (x i,af,obs):=by intro a b c d;cases a<;>cases b<;>cases c<;>cases d<;>rfl)(h1:aB k i=ae:=by rfl)(h2:aB e i=ae:=by rfl)(j:aB g i=ae:=by rfl)(m:aB f i=ae:=by rfl):eh X N all φ x (pI l k e g f) i o:=.q4 h1 h2 j m λa b c d=>OA.eval hT hC (h a b c d) n
def eh.qW{T:List (Nat×TI)}{CT:List (Nat×dv)}(hT:cW P T)(hC:bL X CT)(h:∀a b c d,wP T CT [] all (kr all φ x i) (l a b c d) o=aa (x i,af,[]):=by intro a b c d;cases a<;>cases b<;>cases c<;>cases d<;>rfl)(h1:aB k i=ae:=by rfl)(h2:aB e i=ae:=by rfl)(m:aB g i=ae:=by rfl)(j:aB f i=ae:=by rfl):eh X N all φ x (pI l k e g f) i o:=.XO (obs:=[]) hT hC ay h h1 h2 m j
def eh.c1(h2:aB e k=ae)(d:aB g k=ae)(b:aB f k=ae)(a:fZ all e k=ab)(c:fZ all g k=ab)(j:fZ all f k=ab)(h:OA X N all o (kr all φ x k) (l ae ae ae ae) (x k) (l ab ae ae ae)):eh X N all φ x (pI l k e g f) k o:=by intro D hT hF;grind[Co,rK]
def eh.c2(h1:aB k e=ae)(d:aB g e=ae)(a:aB f e=ae)(b:fZ all e k=ab)(c:fZ all g e=ab)(j:fZ all f e=ab)(h:OA X N all o (kr all φ x e) (l ab ae ae ae) (x e) (l ab ab ae ae)):eh X N all φ x (pI l k e g f) e o:=by intro D hT hF;grind[Co,rK]
def eh.c3(h1:aB k g=ae)(h2:aB e g=ae)(c:aB f g=ae)(b:fZ all g k=ab)(a:fZ all g e=ab)(d:fZ all f g=ab)(h:OA X N all o (kr all φ x g) (l ab ab ae ae) (x g) (l ab ab ab ae)):eh X N all φ x (pI l k e g f) g o:=by intro D hT hF;grind[Co,rK]
def eh.c4(h1:aB k f=ae)(h2:aB e f=ae)(d:aB g f=ae)(b:fZ all f k=ab)(a:fZ all f e=ab)(c:fZ all f g=ab)(h:OA X N all o (kr all φ x f) (l ab ab ab ae) (x f) (l ab ab ab ab)):eh X N all φ x (pI l k e g f) f o:=by intro D hT hF;grind[Co,rK]
end
section
variable {P:ar}{X:Cx P}{N:Nat}{all:List au}{φ:Fr}{ι:Type}{x:Option ι->Nat->D}{s:Option ι->Bool->Bool->Bool->List aR}{i m f e d:Nat}{o:au}
abbrev SO(s:Option ι->Bool->Bool->Bool->List aR)(f e d:Nat):Option ι->(Nat->Bool)->List aR:=λa D=>s a (D f) (D e) (D d)
abbrev w6(ι:Type)(m:Nat):Option ι->(Nat->Bool)->Prop:=λa D=>a.isSome=D m
def iy.quiet(j:aB m i=ae)(h1:aB f i=ae)(h2:aB e i=ae)(k:aB d i=ae)(h:∀g a b c,OA X N all o (kr all φ (x g) i) (s g a b c) (x g i) (s g a b c)):
  iy X N all φ x (SO s f e d) (w6 ι m) i o:=by grind[iy.of,rK]
def iy.Sk(p:aB m i=ae)(h1:aB f i=ae)(h2:aB e i=ae)(l:aB d i=ae)(n:fZ all i m=ab)(h:∀j a b c,OA X N all o (kr all φ (x (aa j)) i) (s (aa j) a b c) (x (aa j) i) (s (aa j) a b c)):
  iy X N all φ x (SO s f e d) (w6 ι m) i o:=by
 refine iy.of λg D q hT _=>⟨?_,?_⟩
 .grind [rK]
 .show OA X N all o _ (s g (D f) (D e) (D d)) _ (s g (ey i D f) (ey i D e) (ey i D d));rw[rK h1,rK h2,rK l];have k:=hT m n;cases g with
  |none=>grind
  |some j=>exact h _ _ _ _
def iy.qo{T:List (Nat×TI)}{CT:List (Nat×dv)}{obs:List Prop}(hT:cW P T)(hC:bL X CT)(l:az obs)(h:∀g a b c,wP T CT [] all (kr all φ (x g) i) (s g a b c) o=aa (x g i,af,obs):=by intro g a b c;cases g<;>cases a<;>cases b<;>cases c<;>rfl)(j:aB m i=ae:=by rfl)(h1:aB f i=ae:=by rfl)(h2:aB e i=ae:=by rfl)(k:aB d i=ae:=by rfl):iy X N all φ x (SO s f e d) (w6 ι m) i o:=.quiet j h1 h2 k λg a b c=>OA.eval hT hC (h g a b c) l
def iy.qe{T:List (Nat×TI)}{CT:List (Nat×dv)}(hT:cW P T)(hC:bL X CT)(h:∀g a b c,wP T CT [] all (kr all φ (x g) i) (s g a b c) o=aa (x g i,af,[]):=by intro g a b c;cases g<;>cases a<;>cases b<;>cases c<;>rfl)(j:aB m i=ae:=by rfl)(h1:aB f i=ae:=by rfl)(h2:aB e i=ae:=by rfl)(k:aB d i=ae:=by rfl):iy X N all φ x (SO s f e d) (w6 ι m) i o:=.qo (obs:=[]) hT hC ay h j h1 h2 k
def iy.qs{T:List (Nat×TI)}{CT:List (Nat×dv)}(hT:cW P T)(hC:bL X CT)(h:∀j a b c,wP T CT [] all (kr all φ (x (aa j)) i) (s (aa j) a b c) o=aa (x (aa j) i,af,[]):=by intro j a b c;cases a<;>cases b<;>cases c<;>rfl)(g:aB m i=ae:=by rfl)(h1:aB f i=ae:=by rfl)(h2:aB e i=ae:=by rfl)(l:aB d i=ae:=by rfl)(k:fZ all i m=ab:=by rfl):iy X N all φ x (SO s f e d) (w6 ι m) i o:=.Sk g h1 h2 l k λj a b c=>OA.cZ hT hC (h j a b c)
def iy.YI(c:aB m e=ae)(h1:aB f e=ae)(j:aB d e=ae)(g:fZ all d e=ab)(h:∀b a,OA X N all o (kr all φ (x b) e) (s b a ae ae) (x b e) (s b a ab ae)):iy X N all φ x (SO s f e d) (w6 ι m) e o:=by grind[iy.of,rK,Co]
def iy.YJ(k:aB m d=ae)(h1:aB f d=ae)(h2:aB e d=ae)(c:fZ all d m=ab)(l:fZ all d f=ab)(g:fZ all d e=ab)(h:∀j,OA X N all o (kr all φ (x (aa j)) d) (s (aa j) ab ab ae) (x (aa j) d) (s (aa j) ab ab ab)):iy X N all φ x (SO s f e d) (w6 ι m) d o:=by
 refine iy.of λa D n hT hF=>?_;have b:=hT m c;cases a with
 |none=>grind
 |some j =>
  grind[rK,Co]
end
section
variable {P:ar}{X:Cx P}{N:Nat}{Qf:Post}{K:List It}{φ:Fr}{σ:List aR}{all rest:List au}{o:au}
def AK.VB{ι:Type}{x:ι->D}{σ':ι->List aR}(h:mV X N all o φ σ x σ')(l:gg N o.dst=ab)(k:∀i,AK X N Qf (.ops all rest::K) .normal (kH o.dst (x i) φ) (σ' i)):AK X N Qf (.ops all (o::rest)::K) .normal φ σ:=by
 intro s a f hh b kk cs S idx hb jE hQ;cases idx with
 |nil=>exact jE.elim
 |cons j idx =>
 refine h s a f hh b kk cs S j idx hb jE.1 λi v s' h1 h2 h3=>?_;refine k i s' _ ?_ h2 b kk cs S idx hb jE.2 λc σ2 s2 a2 q g e st=>hQ c σ2 s2 a2 q g e (h3.trans st);cases d:o.dst with
 |none=>exact f.mono h3 hh.len
 |some t=>exact(f.mono h3 hh.len).put (gK l t d) h1
def mV.qH[X.hU]{ι:Type}{fo:aq}{xs:Array aq}{ats:Array aj}{f:aJ}{cap:List C}{r:List D}{res:ι->D}{σ1:ι->List aR}(Qu:ef X f r [] res σ1){Gr:List D}(hgd:q8 all φ o=ab)(ho:o.op=.call {callee:=.value fo,args:=xs,argTypes:=ats})(hf:eQ (bU φ fo)=aa (f,cap))(hl:j1 σ (xs.toList.map (bU φ)++fP cap) Gr){ps:List Prop}(U:wG Gr (fU [] r)=aa ps)(hps:az ps)(hin:lE 0 r=ab)(W:∀j,N2 (res j)=ab)(mP:∀j,B8 (σ1 j)=ab):mV X N all o φ σ res (λj=>σ++σ1 j):=by
 intro s a yW hh b kx cs S i idx hb hi hQ;have XC:=dg yW fo;unfold eQ at hf;split at hf
 case h_2=>cases hf
 case h_1 f' NR he =>
  cases hf;rw[he]at XC;have G:=e9 XC;generalize E:a.eval fo=fv at G;cases G with
  |fn fs nF hlf Za f1 f2 h1 h2 r1 r2 =>
   have Zb:fs=[]:=jv hlf;subst Zb;have O:cp σ s nF (fP cap):=nL (λj c hj=>⟨f2 j,h2 j (by grind),r2 j c hj⟩) Za;have J:cp σ s (xs.toList.map a.eval++nF) (xs.toList.map (bU φ)++fP cap):=(lX (dg yW) xs.toList).append O;generalize Qv:xs.toList.map a.eval++nF=vs at J;obtain⟨⟨fn,Vw,OH,Q⟩,Y⟩:=Qu;have wS:∀w,(aw a.eval o).run P w=.ok (.enter f vs.toArray) w:=λw=>by grind[jK]
   have Zc:∀w,(aw a.eval o).events P w #[]=#[]:=λw=>(jK ho Vw OH Q E w).2;refine .next rfl λm QQ=>?_;have hr:=X.iH QQ;have e:=hh.rely hr;have f1':=yW.rely hr hh;have V:cp σ m vs (xs.toList.map (bU φ)++fP cap):=J.mono hr.stepW.ext hh.len;obtain⟨B,M',hBL,m1,m2,m3,m4,m5⟩:=hl m vs e V;let sc:St:={m with β:=[],M:=M',own:=λb=>m.own b∨∃L∈m.β,b∈L.bs}
   have hhc:aF [] sc:=by
    refine⟨m3,rfl,by simp,by grind,by grind,λb hb=>⟨?_,by grind⟩⟩;rcases hb with hb|⟨L',p,hb⟩
    .exact(e.own b hb).1
    .exact e.lt L' p b hb
   have Zd:eF m sc:=by refine⟨rfl,m1,λb hb o=>m2 b (λhB=>by grind) o,m3,λb hb=>?_⟩;grind
   have A:cp [] sc vs r:=by have a3:=vO U hps m5;exact(cp.sub (ks:=[]) (σ:=σ) (σ':=[]) (s:={m with M:=M'}) (β':=[]) rfl rfl a3 hin).mono (σ:=[]) (s:={m with β:=[],M:=M'}) (σ':=[]) (s':=sc) ⟨λ_ _ _ h=>h,λl B L hB hL=>by grind⟩ rfl
   refine⟨_,m,_,pw hi (fD hgd _ _ _ f1') hb (wS m.w),⟨⟨σ,σ,e,e,.refl _ _⟩,fg.seen (by rw[Zc];exact .nil)⟩,.ghost Zd (Y sc vs A hhc S _ λj fr v s2 HL mK Jp mI=>?_)⟩;refine qy (cs:=cs) (c:=b.aT a (.inRegion all.toArray (i::idx)::kx)) Jp HL λu Z=>?_;have q:=Jp.rely Z;have n:=mI.trans Z.stepW;have R:=mK.mono Z.stepW.ext Jp.len
   classical
   let I:Mem:=λb o=>if B b then m.M b o else u.M b o;have t:∀b,(m.own b∨∃L∈m.β,b∈L.bs)->u.own b:=λb hb=>by rw[n.own];exact hb
   have hFg:nk u {u with M:=I}:=by
    refine⟨rfl,rfl,rfl,λb o v E=>?_,λb o v E=>?_⟩
    .grind
    grind
   refine .forget Cx.hU.ok hFg ?_;have hM5:∀b o v,I b o=aa v->u.M b o=aa v:=hFg.less;let s5:St:={u with M:=I,β:=m.β++u.β,own:=m.own}
   have hMm:∀b o v,m.M b o=aa v->I b o=aa v:=λb o v E=>by
    by_cases d:B b
    .grind
    .simp only[I,d,ck];exact n.mem b o v (m1 b o v E)
   have hMk:∀b,b<m.w.heap.size->∀o,I b o=m.M b o:=λb hb o=>by
    by_cases d:B b
    .grind
    .simp only[I,d,ck];rw[n.je b hb (by grind) o];grind
   have T:u.β.length=(σ1 j).length:=q.len;have ex:Ext σ m (σ++σ1 j) s5:=by
    refine⟨hMm,λl B L hB hL=>⟨B,L,?_,?_,.refl _ _⟩⟩
    .grind
    grind
   have Ec:m.w.heap.size<=u.w.heap.size:=n.size;have y:∀(l:Nat) (L':Loc),(m.β++u.β)[l]?=aa L'->(l<m.β.length/\m.β[l]?=aa L')∨(m.β.length<=l/\u.β[l-m.β.length]?=aa L'):=λl L' h=>by grind
   have hh5:aF (σ++σ1 j) s5:=by
    refine⟨λb o v E=>q.mem b o v (hM5 b o v E),by simp[s5,e.len,T],?_,?_,?_,?_⟩
    .intro l B L' hB p;rcases y l L' p with⟨vg,h1⟩|⟨Uv,h1⟩
     .rw[jy (by rw[<-e.len];exact vg)]at hB;exact(e.box l B L' hB h1).carry ex e.len λg d=>⟨n.fy g (.inr ⟨L',bP h1,d⟩),hMk g (e.lt L' (bP h1) g d)⟩
     .rw[gk (by rw[<-e.len];exact Uv),<-e.len]at hB;have hbx:=q.box _ B L' hB h1;rcases B9 (mP j) B (bP hB)with⟨H,rfl⟩|rfl
      .obtain⟨ch,c1,c2,c3,c4⟩:=hbx;refine⟨ch,c1,c2,c3,λg d o=>?_⟩;grind
      .trivial
    .intro l l' L1 L2 hL1 hL2 g z F;rcases y l L1 hL1 with⟨vg,h1⟩|⟨Uv,h1⟩<;>rcases y l' L2 hL2 with⟨adK,h2⟩|⟨adL,h2⟩
     .exact e.eO l l' L1 L2 h1 h2 g z F
     .exact absurd F ((q.own g (t g (.inr ⟨L1,bP h1,z⟩))).2 L2 (bP h2))
     .exact absurd z ((q.own g (t g (.inr ⟨L2,bP h2,F⟩))).2 L1 (bP h1))
     .have:=q.eO _ _ L1 L2 h1 h2 g z F;omega
    .intro L' p g d;rcases fx.1 p with h|h
     .exact c7 (e.lt L' h g d) Ec
     .exact q.lt L' h g d
    .intro g d;refine⟨c7 (e.own g d).1 Ec,λL' p=>?_⟩;rcases fx.1 p with h|h
     .exact(e.own g d).2 L' h
     .exact(q.own g (t g (.inl d))).2 L' h
   have hg5:eF {u with M:=I} s5:=by refine⟨rfl,λ_ _ _ h=>h,λ_ _ _=>rfl,λb o v E=>q.mem b o v (hM5 b o v E),λg d=>?_⟩;grind
   have st5:cY σ m (σ++σ1 j) s5:=by
    refine⟨Ec,λg d=>n.fy g (.inl d),hMm,λg d _ o=>hMk g d o,λL' p g d=>?_,ex.box,n.os,n.tape,n.output,rfl⟩;rcases fx.1 p with h|h
    .grind
    .rcases n.vJ L' h g d with h1|⟨L0,h1,_⟩
     .grind
     grind
   refine .ghost hg5 ?_;have x:=kF (b:=b) (a:=a) (k:=kx) all.toArray i idx v;rw[hi]at x;simp only[oo]at x;rw[x];exact hQ j v s5 (N3 (W j) R) hh5 (hr.stepW.trans st5)
def AK.qH[X.hU]{ι:Type}{m:aq}{xs:Array aq}{e:Array aj}{f:aJ}{cap:List C}{a:List D}{res:ι->D}{σ1:ι->List aR}(g:ef X f a [] res σ1){d:List D}(l:q8 all φ o=ab)(q:o.op=.call {callee:=.value m,args:=xs,argTypes:=e})(p:eQ (bU φ m)=aa (f,cap))(hl:j1 σ (xs.toList.map (bU φ)++fP cap) d){ps:List Prop}(b:wG d (fU [] a)=aa ps)(h:az ps)(i:lE 0 a=ab)(c:∀j,N2 (res j)=ab)(k:∀j,B8 (σ1 j)=ab)(n:gg N o.dst=ab)(kk:∀j,AK X N Qf (.ops all rest::K) .normal (kH o.dst (res j) φ) (σ++σ1 j)):AK X N Qf (.ops all (o::rest)::K) .normal φ σ:=.VB (mV.qH g l q p hl b h i c k) n kk
def AK.KA[X.hU]{ι:Type}{s:aq}{xs:Array aq}{g:Array aj}{f:aJ}{cap:List C}{a:List D}{res:ι->D}{σ1:ι->List aR}(h:ef X f a [] res σ1)(r p:Nat){u:ah}{k n:Nat}{es:Nat->List C}(q:q8 all φ o=ab)(y:o.op=.call {callee:=.value s,args:=xs,argTypes:=g})(x:eQ (bU φ s)=aa (f,cap))(t:(xs.toList.map (bU φ)++fP cap)[p]?=aa (.e (.one (.v u))))(hl:hU σ r u k n es){ps:List Prop}(b:wG ((xs.toList.map (bU φ)++fP cap).set p (.e (.one (.c (.sl ae k n es))))) (fU [] a)=aa ps)(i:az ps)(l:lE 0 a=ab)(d:∀j,N2 (res j)=ab)(m:∀j,B8 (σ1 j)=ab)(w:gg N o.dst=ab)(kk:∀j,AK X N Qf (.ops all rest::K) .normal (kH o.dst (res j) φ) (σ++σ1 j)):AK X N Qf (.ops all (o::rest)::K) .normal φ σ :=
 AK.qH h q y x ((j1.refl _ _).step p r t hl) b i l d m w kk
end
section
variable {P:ar}{X:Cx P}{N:Nat}{Qf:Post}{d:List It}{φ:Fr}{σ:List aR}{all rest:List au}{o:au}
def ef.VG{ι:Type}{f:aJ}{args:List D}{res:ι->D}{H:ι->ah->(Nat->Option Obj)->Prop}{E:aj}{k:Nat}(h:ef X f args [] res (λi=>[.dead,.cm (H i)]))(F:∀i v ch,H i v ch->v=.nilFunc)(M:∀i,iu [] (res i)=res i)(r:∀i,wC 0 (res i)=ab)(I:lE 0 args=ab)(t:fU [] args=args):
  ef X f args [.cm (gf E k (.nil af) 0 [])] res (λi=>[.cm (H i)]):=by
 refine⟨h.1,λs vs hr hh S cs hS=>?_⟩;have w:s.β.length=1:=hh.len;obtain⟨g,O⟩:∃g,s.β=[g]:=by
  match z:s.β with
  |[A]=>grind
  |[]=>grind
  |_::_::_=>grind
 have y:s.β[0]?=aa g:=by grind
 obtain⟨J,c1,c2,c3,c4⟩:=hh.box 0 _ g rfl y;obtain⟨T,_,_,_,rfl⟩:=c1;have K:∀b,b∉g.bs:=λb c=>by grind
 let m:St:={s with β:=[]}
 have G:eF s m:=⟨rfl,λ_ _ _ h=>h,λ_ _ _=>rfl,hh.mem,λb c=>c.imp id λ⟨L,a,_⟩=>by grind⟩
 have u:aF [] m:=⟨hh.mem,rfl,by simp,by grind,by grind,λb c=>⟨(hh.own b c).1,by grind⟩⟩
 have e:cp [] m vs args:=by rw[<-t]at hr;exact cp.sub (ks:=[]) (σ:=[.cm (gf E k (.nil af) 0 [])]) (σ':=[]) (s:=s) (β':=[]) rfl rfl hr I
 refine .ghost G (h.2 m vs e u S cs λi fr v s' hl mK jh st=>?_);have n:s'.β.length=2:=jh.len;obtain⟨A,B,x⟩:∃A B,s'.β=[A,B]:=by
  match z:s'.β with
  |[A,B]=>grind
  |[]=>grind
  |[_]=>grind
  |_::_::_::_=>grind
 have Q:s'.β[1]?=aa B:=by grind
 obtain⟨ch,d1,d2,d3,d4⟩:=jh.box 1 _ B rfl Q;have hB:=F i _ _ d1;let s2:St:={s' with β:=[B]}
 have j:∀L∈s2.β,L∈s'.β:=λL a=>by grind
 have q:eF s' s2:=⟨rfl,λ_ _ _ h=>h,λ_ _ _=>rfl,jh.mem,λb c=>c.imp id λ⟨L,a,c⟩=>⟨L,j L a,c⟩⟩
 have p:dt [.cm (H i)] s2 v (res i):=by rw[<-M i]at mK;have:=dt.sub (ks:=[]) (σ:=[.dead,.cm (H i)]) (σ':=[]) (s:=s') (β':=[]) rfl rfl mK (r i);exact this.mono (σ:=[]) (s:={s' with β:=[]}) (σ':=[.cm (H i)]) (s':=s2) ⟨λ_ _ _ h=>h,λl B L hB=>by grind⟩ rfl
 refine .ghost q (hS i fr v s2 (hl.mono λ_ _ _ h=>h) p ⟨jh.mem,rfl,λl C L hC a=>?_,λl l' C D h1 h2 b c R=>?_,λL a b c=>jh.lt L (j L a) b c,λb c=>⟨(jh.own b c).1,λL a=>(jh.own b c).2 L (j L a)⟩⟩
  ⟨st.size,st.fy,st.mem,λb c _ o=>st.je b c (by grind) o,λL a b c=>?_,λl C L hC a=>?_,st.os,st.tape,st.output,st.own⟩)
 .match l,hC,a with
  |0,hC,a=>cases hC;cases a;exact⟨ch,d1,d2,d3,d4⟩
  |l+1,hC,_=>grind
 .match l,l',h1,h2 with
  |0,0,_,_=>rfl
  |l+1,_,h1,_=>grind
  |_,l+1,_,h2=>grind
 .rcases st.vJ L (j L a) b c with h1|⟨L1,h1,_⟩
  .grind
  grind
 .match l,hC,a with
  |0,hC,a =>
   cases hC;rw[y]at a;cases a;exact⟨_,B,rfl,rfl,by show B.v=g.v;grind⟩
  |l+1,hC,_=>grind
def AK.ON(l i j:Nat){K:Mem->Prop}{E0 E:aj}{k:Nat}{cs:List A}{R cl:C}{c:Code}(W:l≠i)(hl:dC l σ=aa (.cm (PM K)))(hi:dC i σ=aa (.cells E0 cs))(hj:dC j cs=aa (.c R))(hK:∀M M',K M->xq M M'->∀v,Rd M' v R->Rd M' v cl)(kk:AK X N Qf (.code c::d) .normal φ ((σ.set l (.cm (gf E k (.nil af) 0 []))).set i (.cells E0 (cs.set j (.c cl))))):AK X N Qf (.code c::d) .normal φ σ:=by
 refine AK.ghost (λs a O hh=>?_) kk;have hl:=b9 hl;have hi:=b9 hi;have V:=b9 hj;have t:l<s.β.length:=by rw[hh.len];grind
 have J:=br t;generalize s.β[l]=L at J;obtain⟨ch,⟨h1,h2,h3⟩,S,h5,h6⟩:=hh.box l _ L hl J;let M':Mem:=λb o=>(s.M b o).or (fR ch b o);have q:∀b o v,fR ch b o=aa v->b∈L.bs/\s.w.cell? ⟨b,o,af⟩=aa v:=λb o v f=>by
  cases h:ch b with
  |none=>simp[fR,h]at f
  |some x =>
   obtain⟨cs,E,rfl⟩:=h2 b x h;have Y:=S b _ h;simp only[fR,h]at f;exact⟨(h5 b).2 (by simp[h]),by simpa[aV,Y]using f⟩
 have m1:∀b o v,s.M b o=aa v->M' b o=aa v:=λb o v f=>by grind
 have T:∀b,b∉L.bs->∀o,M' b o=s.M b o:=λb y o=>by
  cases h:fR ch b o with
  |none=>grind
  |some v=>grind
 have m3:∀b o v,M' b o=aa v->s.w.cell? ⟨b,o,af⟩=aa v:=λb o v f=>by
  cases h:s.M b o with
  |some v'=>simp only[M',h,Option.some_or]at f;cases f;exact hh.mem b o v h
  |none=>grind
 have m4:=hK _ M' h3 λb o v f=>by have:=h6 b (q b o v f).1 o;simp[M',this,f]
 obtain⟨m,q2⟩:=hh.gJ (M':=M') (w':=s.w) (B':=.cm (gf E k (.nil af) 0 [])) (L':=⟨.nilFunc,[]⟩) hl J h1.symm (bc _) (λ_ _ _=>rfl) (λb _ y o=>T b y o) m1 m3 (by simp) rfl rfl rfl
  ⟨λ_=>af,⟨rfl,by simp,by simp,rfl,rfl⟩,by simp,by simp,by simp⟩
 have n:(σ.set l (.cm (gf E k (.nil af) 0 [])))[i]?=aa (.cells E0 cs):=by grind
 generalize hs1:(⟨s.β.set l ⟨.nilFunc,[]⟩,M',s.w,s.own⟩:St)=s1 at m q2;have F:i<s1.β.length:=by rw[m.len];grind
 have g:=br F;generalize s1.β[i]=L2 at g;obtain⟨b,vs,Q,r,I,Z⟩:=m.box i _ L2 n g;obtain⟨u,U,hr⟩:=I.get V;have H:s1.M=M':=by grind
 have G:s1.β.set i L2=s1.β:=by apply iY;grind
 obtain⟨t1,t2⟩:=m.gJ (M':=s1.M) (w':=s1.w) (B':=.cells E0 (cs.set j (.c cl))) (L':=L2) n g rfl (bc _) (λ_ _ _=>rfl) (λ_ _ _ _=>rfl) (λ_ _ _ h=>h) m.mem (λb y=>⟨.inl y,m.lt L2 (bP g) b y⟩) rfl rfl rfl (by
   rw[G];have ex:Ext (σ.set l (.cm (gf E k (.nil af) 0 []))) s1 ((σ.set l (.cm (gf E k (.nil af) 0 []))).set i (.cells E0 (cs.set j (.c cl)))) s1:=by
    refine⟨λ_ _ _ h=>h,λp B L z D=>?_⟩;by_cases e:i=p
    .subst e;rw[n]at z;cases z;exact⟨_,L,gn (by grind),D,rfl⟩
    .exact⟨B,L,by grind,D,.refl _ _⟩
   refine⟨b,vs,Q,r,ei.set (I.mono ex m.len) U ?_,Z⟩;show Rd s1.M u cl;rw[H];exact m4 u (H▸hr))
 have st:=q2.trans t2;exact⟨_,by grind,⟨O.size,O.defers.imp λ_ h1=>h1.mono st.ext,λu=>(O.slot u).mono st.ext hh.len⟩,t1,st⟩
def AK.rN(l i j:Nat){K:Mem->Prop}{E0 E:aj}{k:Nat}{cs:List A}{v:ah}{cl:C}{c:Code}(a:l≠i)(hl:dC l σ=aa (.cm (PM K)))(hi:dC i σ=aa (.cells E0 cs))(hj:dC j cs=aa (.c (.val v)))(b:∀M,K M->Rd M v cl)(kk:AK X N Qf (.code c::d) .normal φ ((σ.set l (.cm (gf E k (.nil af) 0 []))).set i (.cells E0 (cs.set j (.c cl))))):AK X N Qf (.code c::d) .normal φ σ :=
 AK.ON l i j a hl hi hj (λ_ _ h le _ r=>by rw[Rd.en r];exact(b _ h).mono le) kk
end
section
variable {P:ar}{X:Cx P}{N:Nat}{Qf:Post}{n:List It}{φ:Fr}{σ:List aR}
def AK.VH(l i j:Nat){E0 E:aj}{k Z:Nat}{cs:List A}{F:Nat->List C}(k1:Nat)(EN:Nat->List C){c:Code}(Yk:l≠i)(hl:dC l σ=aa (.cm (gf E k (.nil af) 0 [])))(hi:dC i σ=aa (.cells E0 cs))(hj:dC j cs=aa (.c (.sl ab Z 0 F)))(kk:∀v,AK X N Qf (.code c::n) .normal φ ((σ.set l (.cm (PM λM=>Rd M v (.sl ae k1 0 EN)))).set i (.cells E0 (cs.set j (.c (.val v)))))):AK X N Qf (.code c::n) .normal φ σ:=by
 refine AW.tM (ι:=ah) (φ':=λ_=>φ) (σ':=λv=>(σ.set l (.cm (PM λM=>Rd M v (.sl ae k1 0 EN)))).set i (.cells E0 (cs.set j (.c (.val v))))) (λs a T hh=>?_) kk;have hl:=b9 hl;have hi:=b9 hi;have hJ:=b9 hj;have y:i<s.β.length:=by rw[hh.len];grind
 have Q:=br y;generalize s.β[i]=Li at Q;obtain⟨b0,vs0,hLb,S,O,_⟩:=hh.box i _ Li hi Q;obtain⟨v,RH,W⟩:=O.get hJ;obtain⟨a0,cap,vs1,rfl,n1,n2,_,_,_⟩:=(show Rd s.M v (.sl ab Z 0 F)from W).flat;have hK:∀M:Mem,Rd M (.slice a0 0 cap) (.sl ae k1 0 EN):=λM=>.sl 0 0 (λ_ _=>ai) n1 n2 (λh=>by cases h) (λi hi=>by omega) (λh=>by omega) (λi hi=>by omega) λi hi=>by omega
 have G:l<s.β.length:=by rw[hh.len];grind
 have R:=br G;generalize s.β[l]=L at R;obtain⟨ch,hs,h4,h5,h6⟩:=hh.box l _ L hl R;obtain⟨z,q2⟩:=hh.gJ (M':=s.M) (w':=s.w) (B':=.cm (PM λM=>Rd M (.slice a0 0 cap) (.sl ae k1 0 EN))) (L':=L) hl R rfl (bc _) (λ_ _ _=>rfl) (λ_ _ _ _=>rfl) (λ_ _ _ h=>h) hh.mem (λb H=>⟨.inl H,hh.lt L (bP R) b H⟩) rfl rfl rfl
  ⟨ch,PM.start hK _ _ hs,h4,h5,h6⟩
 have r:(σ.set l (.cm (PM λM=>Rd M (.slice a0 0 cap) (.sl ae k1 0 EN))))[i]?=aa (.cells E0 cs):=by grind
 generalize hs1:(⟨s.β.set l L,s.M,s.w,s.own⟩:St)=s1 at z q2;have hiβ:i<s1.β.length:=by grind
 have q:s1.β[i]?=aa Li:=by grind
 obtain⟨b,vs,U,t,Y,hM⟩:=z.box i _ Li r q;have K:s1.β.set i Li=s1.β:=by apply iY;grind
 have V:vs[j]?=aa (.slice a0 0 cap):=by grind
 obtain⟨t1,t2⟩:=z.gJ (M':=s1.M) (w':=s1.w) (B':=.cells E0 (cs.set j (.c (.val (.slice a0 0 cap))))) (L':=Li) r q rfl (bc _) (λ_ _ _=>rfl) (λ_ _ _ _=>rfl) (λ_ _ _ h=>h) z.mem (λb H=>⟨.inl H,z.lt Li (bP q) b H⟩) rfl rfl rfl (by
   rw[K];have ex:Ext (σ.set l (.cm (PM λM=>Rd M (.slice a0 0 cap) (.sl ae k1 0 EN)))) s1 ((σ.set l (.cm (PM λM=>Rd M (.slice a0 0 cap) (.sl ae k1 0 EN)))).set i (.cells E0 (cs.set j (.c (.val (.slice a0 0 cap)))))) s1:=by
    refine⟨λ_ _ _ h=>h,λp B L I J=>?_⟩;by_cases e:i=p
    .subst e;rw[r]at I;cases I;exact⟨_,L,gn (by grind),J,rfl⟩
    .exact⟨B,L,by grind,J,.refl _ _⟩
   exact⟨b,vs,U,t,ei.set (Y.mono ex z.len) V (Rd.val rfl),hM⟩)
 have st:=q2.trans t2;exact⟨.slice a0 0 cap,_,by grind,⟨T.size,T.defers.imp λ_ h1=>h1.mono st.ext,λu=>(T.slot u).mono st.ext hh.len⟩,t1,st⟩
end
section
variable {P:ar}{X:Cx P}{N:Nat}{all:List au}{φ:Fr}{ι:Type}{x:Option ι->Nat->D}{s:Option ι->Bool->Bool->Bool->List aR}{i m f g d:Nat}{o:au}
def iy.pre(q:aB m f=ae)(h2:aB g f=ae)(r:aB d f=ae)(p:fZ all m f=ab)(l:fZ all d f=ab)(h:∀b,OA X N all o (kr all φ (x af) f) (s af ae b ae) (x af f) (s af ab b ae)):iy X N all φ x (SO s f g d) (w6 ι m) f o:=by
 refine iy.of λa D t hT hF=>?_;have c:=hF m (.inr p);have e:=hF d (.inr l);have k:=hF f (.inl rfl);cases a with
 |some j=>grind
 |none=>grind[rK,Co]
def iy.Zg(h1:aB f m=ae)(h2:aB g m=ae)(u:aB d m=ae)(r:fZ all m f=ab)(t:fZ all d m=ab)(c:∀j q,q=m∨fZ all q m=ab∨x (aa j) q=x af q)(h:∀b,mV X N all o (kr all φ (x af) m) (s af ab b ae) (λj=>x (aa j) m) (λj=>s (aa j) ab b ae)):iy X N all φ x (SO s f g d) (w6 ι m) m o:=by
 refine iy.ofI λa D v hT hF=>?_;have e:=hF m (.inl rfl);have p:=hT f r;have k:=hF d (.inr t);have l:a=af:=by
  cases a with
  |none=>rfl
  |some j=>grind
 grind[Co,rK]
def iy.last(b:aB m d=ae)(h1:aB f d=ae)(h2:aB g d=ae)(c:fZ all d m=ab)(e:fZ all d f=ab)(a:fZ all d g=ab)(h:∀j,OA X N all o (kr all φ (x (aa j)) d) (s (aa j) ab ab ae) (x (aa j) d) (s (aa j) ab ab ab)):iy X N all φ x (SO s f g d) (w6 ι m) d o:=.YJ b h1 h2 c e a h
end
theorem Rd.EW{M:Mem}{v:ah}{t:Bool}{k n:Nat}{es:Nat->List C}(h:Rd M v (.sl t k n es)):∃a cap b off,v=.slice a n cap/\n<=cap/\cap<=9223372036854775807/\(0<n->a=aa ⟨b,off,af⟩)/\(∀i,i<n->(es i).length=k)/\∀i,i<n->∀j c,(es i)[j]?=aa c->∃u,M b (off+i*k+j)=aa u/\Rd M u c:=by
 cases h with
 |@sl a _ cap _ _ _ b off f e g l hk ha hm hr=>exact⟨a,cap,b,off,rfl,e,g,ha,hk,λi hi j c hj=>⟨_,hm i hi j c hj,hr i hi j c hj⟩⟩
def Rd.SA{M:Mem}{a:Option Addr}{cap k n b off:Nat}{es:Nat->List C}(h1:n<=cap)(h2:cap<=9223372036854775807)(f:0<n->a=aa ⟨b,off,af⟩)(e:∀i,i<n->(es i).length=k)(g:∀i,i<n->∀j c,(es i)[j]?=aa c->∃u,M b (off+i*k+j)=aa u/\Rd M u c):Rd M (.slice a n cap) (.sl ae k n es):=by
 refine .sl b off (λi j=>(M b (off+i*k+j)).getD ai) h1 h2 (λh=>by cases h) e f (λi hi j c hj=>?_) λi hi j c hj=>?_
 .grind
 grind
section
variable {P:ar}{X:Cx P}{N:Nat}{Qf:Post}{d:List It}{φ:Fr}{σ:List aR}{all rest:List au}{o:au}
def AK.VI{ι:Type}{c:Code}{b K:List It}(φ':ι->Fr)(σ':ι->List aR)(h:(∀(i:ι)(a:Fr)(ps:List Prop),nU a (φ' i)=aa ps->az ps->AK X N Qf (.code c::b) .normal a (σ' i))->AK X N Qf K .normal φ σ)(k:∀i,AK X N Qf (.code c::b) .normal (φ' i) (σ' i)):AK X N Qf K .normal φ σ :=
 h λi _ _ h1 h2=>AW.le (k i) (cD h1 h2)
def j1.agg{ds:List D}(p q z:Nat){cs:List A}{u:ah}{k n:Nat}{es:Nat->List C}(I:ds[p]?=aa (.e (.agg cs)))(F:cs[q]?=aa (.c (.val u)))(hl:hU σ z u k n es):j1 σ ds (ds.set p (.e (.agg (cs.set q (.c (.sl ae k n es)))))):=by
 intro s vs hh hr;obtain⟨L,r,i,x,y,O,K,H⟩:=hl s hh;refine⟨λb=>b∈L.bs,r,λb G=>⟨L,bP i,G⟩,x,y,O,K,?_⟩;have e1:Ext σ s σ {s with M:=r}:=⟨x,λl B L hB i=>⟨B,L,hB,i,.refl _ _⟩⟩
 have w:=hr.mono e1 hh.len;obtain⟨J,t⟩:=cp.get w;have h:p<vs.length:=by grind
 have g:=t p;rw[I,br h]at g;obtain⟨E,j,f⟩:=g;obtain⟨v,a,m⟩:=f.get F;rw[Rd.en (show Rd r v (.val u)from m)]at a;refine cp.setAt w (br h) ⟨E,j,ei.set f a H⟩
theorem PM.of{l:Nat}{K:Mem->Prop}{p:Prop}(hl:σ[l]?=aa (.cm (PM K)))(h:∀M,K M->p)(s:St)(hh:aF σ s):p:=by
 have a:l<s.β.length:=by rw[hh.len];grind
 obtain⟨ch,⟨_,_,b⟩,_⟩:=hh.box l _ _ hl (br a);grind
def ee.SB{T:List (Nat×TI)}(hT:cW P T)(l:Nat){t:aj}{x:aq}{b off:Nat}{K:Mem->Prop}{i:TI}(h:o.op=.load t x)(hi:bG T t=aa i)(F:∀v,lb i [.c (.val v)]=aa (.one (.c (.val v))))(Q:bU φ x=.e (.one (.v (.pointer (aa ⟨b,off,af⟩)))))(hl:σ[l]?=aa (.cm (PM K)))(S:∀M,K M->∃w,M b off=aa w/\cN w=ab):ee P N o φ σ (λw:ah=>.e (.one (.v w))) (λw=>σ.set l (.cm (PM λM=>K M/\M b off=aa w))):=by
 intro s a J hh;have u:=dg J x;rw[Q]at u;have u:=Rd.en u;have m:l<s.β.length:=by rw[hh.len];grind
 have r:=br m;generalize s.β[l]=L at r;obtain⟨ch,⟨h1,h2,I⟩,D,H,W⟩:=hh.box l _ L hl r;obtain⟨w,z,R⟩:=S _ I;obtain⟨cs,E,C,A⟩:∃cs E,ch b=aa (.cells cs E (0,0))/\cs[off]?=aa w:=by
  cases e:ch b with
  |none=>simp[fR,e]at z
  |some x =>
   obtain⟨cs,E,rfl⟩:=h2 b x e;exact⟨cs,E,rfl,by simpa[fR,e]using z⟩
 have y:b∈L.bs:=(H b).2 (by grind);have p:=D b _ C;obtain⟨U,V⟩:=hh.jM (l:=l) (H':=PM λM=>K M/\M b off=aa w) (L':=L) (w':=s.w) hl r rfl (bc _) (λ_ _ _=>rfl) (λ_ O=>.inl O) ⟨ch,⟨h1,h2,I,z⟩,D,H⟩ rfl rfl rfl;have f:∀(j:Nat) (v:ah),[w][j]?=aa v->s.w.cell? ⟨b,off+j,af⟩=aa v:=by
  intro j v hj
  match j,hj with
  |0,hj=>cases hj;simp[aV,p,A]
 obtain⟨v,g,B⟩:=iL (s:=⟨s.β.set l L,s.M,s.w,s.own⟩) (σ:=σ.set l (.cm (PM λM=>K M/\M b off=aa w))) (P:=P) (hT t i hi) (b:=b) (off:=off) (vs:=[w]) (cs:=[.c (.val w)]) f ⟨Rd.val R,ay⟩ (F w);have g:(loadVar t ⟨b,off,af⟩).run P s.w=.ok v s.w:=g;have e1:aw a.eval o=(do pure (.value (<-loadVar t ⟨b,off,af⟩))):=by simp[aw,h,u,Instr.loadAt,bq]
 refine⟨w,.value v,_,v,by rw[e1];simp[g],.inl rfl,B,U,V,λG k=>?_⟩;rw[e1]at k;have q:G∈(loadVar t ⟨b,off,af⟩).events P s.w #[]:=by simpa[g]using k
 obtain⟨j,hj,rfl⟩:=gu (hT t i hi) (n:=1) (λj hj=>⟨w,f j w (by grind)⟩) (by have:=ld (F w);grind) G q;exact j0 (bP r) y
def Mem.up(M:Mem)(b o:Nat)(u:ah):Mem:=λa c=>if a=b/\c=o then aa u else M a c
def ee.GW{T:List (Nat×TI)}(hT:cW P T)(l:Nat){t:aj}{x y:aq}{b off:Nat}{K:Mem->Prop}{c:C}{i:TI}(h:o.op=.store t x y)(hi:bG T t=aa i)(hs1:i.size=1)(hx:bU φ x=.e (.one (.v (.pointer (aa ⟨b,off,af⟩)))))(hy:bU φ y=.e (.one (.c c)))(hg:vj c=ab)(hl:σ[l]?=aa (.cm (PM K)))(hK:∀M,K M->∃w,M b off=aa w):ee P N o φ σ (ι:={u:ah // ∀M,Rd M u c}) (λ_=>.any) (λu=>σ.set l (.cm (PM λM'=>∃M,K M/\M'=M.up b off u.1))):=by
 intro s a V hh;have G:=dg V x;rw[hx]at G;have G:=Rd.en G;have m:=l4 (show kI (bU φ y)=aa [.c c] by rw[hy];rfl) (dg V y);generalize R:(a.eval y).cells.toList=vs at m;obtain⟨u,rfl⟩:∃u,vs=[u]:=by
  match vs,m with
  |[u],_=>grind
  |_::_::_,h=>exact h.2.elim
 have hu:Rd s.M u c:=m.1;have U:∀M,Rd M u c:=λM=>qx hg hu;have A:l<s.β.length:=by rw[hh.len];grind
 have S:=br A;generalize s.β[l]=L at S;obtain⟨ch,⟨h1,h2,Z⟩,h4,h5,h6⟩:=hh.box l _ L hl S;obtain⟨w,W⟩:=hK _ Z;obtain⟨cs,E,Q,hcs⟩:∃cs E,ch b=aa (.cells cs E (0,0))/\cs[off]?=aa w:=by
  cases e:ch b with
  |none=>simp[fR,e]at W
  |some x =>
   obtain⟨cs,E,rfl⟩:=h2 b x e;exact⟨cs,E,rfl,by simpa[fR,e]using W⟩
 have D:b∈L.bs:=(h5 b).2 (by grind);have k:=h4 b _ Q;have p:off<cs.size:=by grind
 have z:=run_storeCells_at P b off E [u] 0 cs s.w k (show off+0+1<=cs.size from p) m.cell;simp only[iE,ig]at z;have I:=setRow_heap s.w b cs (cs.toList.take off++[u]++cs.toList.drop (off+1)).toArray E (0,0) k;generalize B:(cs.toList.take off++[u]++cs.toList.drop (off+1)).toArray=XV at z I;have J:∀j,XV[j]?=if j=off then aa u else cs[j]?:=λj=>by rw[<-B];grind
 have H:∀f F,fR (λf=>if f=b then aa (.cells XV E (0,0))else ch f) f F=(fR ch).up b off u f F:=λf F=>by
  by_cases e:f=b
  .subst e;simp only[fR,cq,Mem.up,aG,Q,J]
  .simp only[fR,aY e,Mem.up,e,false_and,ck]
 obtain⟨t1,t2⟩:=hh.jM (l:=l) (H':=PM λM'=>∃M,K M/\M'=M.up b off u) (L':=L) (w':=s.w.setRow b XV) hl S rfl (by simp)
  (λf n hn=>setRow_other s.w b f _ (λe=>hn (by grind))) (λf n=>.inl n)
  ⟨λf=>if f=b then aa (.cells XV E (0,0))else ch f,⟨h1,λf o n=>by
   grind,_,Z,funext λf=>funext λF=>H f F⟩,λf o n=>by
   grind[setRow_other],λf=>by grind⟩ rfl rfl rfl
 have O:(a.eval y).cells.size=i.size:=by grind
 have e1:aw a.eval o=(do storeVar t ⟨b,off,af⟩ (a.eval y);pure .skip):=by simp[aw,h,G,Instr.storeAt,bq]
 refine⟨⟨u,U⟩,.skip,_,ai,?_,.inr ⟨rfl,rfl⟩,ay,t1,t2,?_⟩
 .simp[aw,h,G,Instr.storeAt,bq,storeVar,(hT t i hi).run_sizeOf,O,R,z]
 .intro Y g;rw[e1]at g;have q:Y∈(storeCells ⟨b,off,af⟩ (a.eval y).cells.toList).events P s.w #[]:=by
   simp only[storeVar,aM,(hT t i hi).run_sizeOf,O,aP,events_sizeOf,dy,ft,ck,bT,b5,Sem.events_pure]at g;generalize(storeCells ⟨b,off,af⟩ (a.eval y).cells.toList).run P s.w=r at g;cases r with
   |ok v w'=>simpa using g
   |halt x w'=>simpa using g
  rw[R]at q;rcases dN [u] 0 cs s.w #[] k (show off+0+1<=cs.size from p) m.cell Y q with NV|⟨j,_,_,rfl⟩
  .grind
  .exact jX (bP S) D (h6 b D _)
end
def BV(p:Bs):ah:=.string ⟨p.toArray⟩
def TQ{a:ByteArray}{p:Bs}(h:a.data.toList=p):Value.string a=BV p:=by subst h;simp[BV]
theorem str_val{M:Mem}{v:ah}{p:Bs}(h:Rd M v (.str p)):v=BV p/\cN v=ab:=by
 cases h with
 |str e _=>exact⟨TQ e,rfl⟩
section
variable {P:ar}{X:Cx P}{N:Nat}{all:List au}{φ:Fr}{x:Nat->D}{k:Bool->Bool->Bool->List aR}{i g b f:Nat}{o:au}
abbrev uQ(k:Bool->Bool->Bool->List aR)(g b f:Nat):(Nat->Bool)->List aR:=λD=>k (D g) (D b) (D f)
def lY{i j:Nat}{D:Nat->Bool}(h:aB j i=ae):ey i D j=D j:=by simp only[ey,h]
def Az{i:Nat}{D:Nat->Bool}:ey i D i=ab:=by simp only[ey,ja]
def eh.q3(h1:aB g i=ae)(h2:aB b i=ae)(e:aB f i=ae)(h:∀a c d,OA X N all o (kr all φ x i) (k a c d) (x i) (k a c d)):eh X N all φ x (uQ k g b f) i o:=by intro D _ _;show OA X N all o _ (k (D g) (D b) (D f)) _ (k (ey i D g) (ey i D b) (ey i D f));rw[lY h1,lY h2,lY e];exact h _ _ _
def eh.q3o{T:List (Nat×TI)}{CT:List (Nat×dv)}{obs:List Prop}(hT:cW P T)(hC:bL X CT)(j:az obs)(h:∀a c d,wP T CT [] all (kr all φ x i) (k a c d) o=aa (x i,af,obs):=by intro a c d;cases a<;>cases c<;>cases d<;>rfl)(h1:aB g i=ae:=by rfl)(h2:aB b i=ae:=by rfl)(e:aB f i=ae:=by rfl):eh X N all φ x (uQ k g b f) i o:=.q3 h1 h2 e λa c d=>OA.eval hT hC (h a c d) j
def eh.Js{T:List (Nat×TI)}{CT:List (Nat×dv)}(hT:cW P T)(hC:bL X CT)(h:∀a c d,wP T CT [] all (kr all φ x i) (k a c d) o=aa (x i,af,[]):=by intro a c d;cases a<;>cases c<;>cases d<;>rfl)(h1:aB g i=ae:=by rfl)(h2:aB b i=ae:=by rfl)(e:aB f i=ae:=by rfl):eh X N all φ x (uQ k g b f) i o:=.q3o (obs:=[]) hT hC ay h h1 h2 e
def eh.e1(hi:aB g i=ab)(h1:aB g i=ab)(h2:aB b i=ae)(j:aB f i=ae)(h:∀c d,OA X N all o (kr all φ x i) (k ae c d) (x i) (k ab c d)):eh X N all φ x (uQ k g b f) i o:=by intro D _ a;have e:=bX hi;subst e;show OA X N all o _ (k (D g) (D b) (D f)) _ (k (ey g D g) (ey g D b) (ey g D f));rw[Az,lY h2,lY j,a g (.inl rfl)];exact h _ _
def eh.e2(hi:aB b i=ab)(h1:aB g i=ae)(j:aB f i=ae)(l:fZ all f i=ab)(d:aB b i=ab)(h:∀a,OA X N all o (kr all φ x i) (k a ae ae) (x i) (k a ab ae)):eh X N all φ x (uQ k g b f) i o:=by intro D _ c;have e:=bX hi;subst e;show OA X N all o _ (k (D g) (D b) (D f)) _ (k (ey b D g) (ey b D b) (ey b D f));rw[Az,lY h1,lY j,c b (.inl rfl),c f (.inr l)];exact h _
def eh.e3(hi:aB f i=ab)(h1:aB g i=ae)(h2:aB b i=ae)(d:fZ all i b=ab)(c:aB f i=ab)(h:∀a,OA X N all o (kr all φ x i) (k a ab ae) (x i) (k a ab ab)):eh X N all φ x (uQ k g b f) i o:=by intro D hT hF;have e:=bX hi;subst e;show OA X N all o _ (k (D g) (D b) (D f)) _ (k (ey f D g) (ey f D b) (ey f D f));rw[Az,lY h1,lY h2,hF f (.inl rfl),hT b d];exact h _
end
def dX(g:Nat)(E:aj)(v:ah):ah->(Nat->Option Obj)->Prop:=λu a=>u=.pointer (aa ⟨g,0,af⟩)/\a g=aa (.cells #[v] E (0,0))/\∀b,b≠g->a b=af
section
variable {P:ar}{X:Cx P}{N:Nat}{φ:Fr}{σ:List aR}{all:List au}{o:au}{T:List (Nat×TI)}
def OA.Ku(hT:cW P T){t g:Nat}(l:Nat){E:aj}{v:ah}{i:TI}(B:q8 all φ o=ab)(I:o.op=.load t (.global g))(hl:dC l σ=aa (.cm (dX g E v)))(hi:bG T t=aa i)(K:cN v=ab)(F:lb i [.c (.val v)]=aa (.one (.c (.val v)))):
  OA X N all o φ σ (.e (.one (.c (.val v)))) σ:=by
 intro s a f hh b k cs S q rest hb hq hK;refine rJ hb hq (fD B _ _ _ f) λh y=>?_;have d:=hh.rely y;have hB:=b9 hl;have A:l<h.β.length:=by rw[d.len];grind
 have z:=br A;generalize h.β[l]=L at z;obtain⟨ch,⟨h1,h2,Q⟩,J,O,R⟩:=d.box l _ L hB z;have G:=J g _ h2;have M:g∈L.bs:=(O g).2 (by grind)
 have m:a.eval (.global g)=.pointer (aa ⟨g,0,af⟩):=rfl;have D:ei σ h [v] [.c (.val v)]:=⟨Rd.val K,ay⟩;obtain⟨u,p,C⟩:=iL (s:=h) (σ:=σ) (P:=P) (hT t i hi) (b:=g) (off:=0) (vs:=[v]) (cs:=[.c (.val v)]) (e:=.one (.c (.val v))) (λj w hj=>by
  simp only[aV,G]
  grind) D F
 refine⟨.value u,h,u,by simp[aw,I,m,Instr.loadAt,bq,p],.inl rfl,⟨⟨σ,σ,d,d,.refl _ _⟩,?_⟩,hK u h C d y.stepW⟩;intro H r;have x:H∈(loadVar t ⟨g,0,af⟩).events P h.w #[]:=by
  have e:aw a.eval o=(do pure (.value (<-loadVar t ⟨g,0,af⟩))):=by simp[aw,I,m,Instr.loadAt,bq]
  rw[e]at r;simpa[p]using r
 obtain⟨j,hj,rfl⟩:=gu (hT t i hi) (n:=1) (λj hj=>⟨v,by simp only[aV,G];grind⟩) (by have:=ld F;grind) H x;exact j0 (bP z) M
end
section
variable {P:ar}{X:Cx P}{N:Nat}{φ:Fr}{σ:List aR}
def JP{P:ar}(X:Cx P)(N:Nat)(all:List au)(φ:Fr)(σ:List aR)(x:Nat->D):List D->List au->Nat->Prop
 |_::r,o::l,i=>OA X N all o (kr all φ x i) σ (x i) σ/\JP X N all φ σ x r l (i+1)
 |[],_,_=>True
 |_::_,[],_=>False
theorem JP.get{all:List au}{x:Nat->D}:∀{r:List D}{l:List au}{k:Nat},JP X N all φ σ x r l k->∀i o,l[i]?=aa o->i<r.length->OA X N all o (kr all φ x (k+i)) σ (x (k+i)) σ
 |[],_,_,_,i,o,_,hi=>absurd hi (fX _)
 |_::r,[],_,h,i,o,_,hi=>h.elim
 |d::r,p::l,k,h,0,o,a,_=>by cases a;exact h.1
 |d::r,p::l,k,h,i+1,o,a,hi=>by have:=JP.get h.2 i o a (by grind);grind
def AK.calm(j:P.follows Departure.mixedOrders=ab)(xs:List D)(d:Nat){ops:Array au}{id:Nat}{K:List It}{Qf:Post}(a:mS ops.toList=ab)(b:sG ops.toList 0=ab)(c:oE N ops.toList=ab)(e:bA xs.length ops.toList.length=ab)(Qx:wH ops.toList d xs.length (ops.toList.length-xs.length)=ab)(one:JP X N ops.toList φ σ (λi=>xs.getD i .any) xs ops.toList 0)(k:AK X N Qf (.ops ops.toList (ops.toList.drop xs.length)::K) .normal (NA ops.toList φ λi=>xs.getD i .any) σ):AK X N Qf (.code (.region id ops ab)::K) .normal φ σ:=by
 have e:=db e;have:=AW.reg (X:=X) (N:=N) (φ:=φ) (σ:=σ) j (all:=ops.toList) xs.length (λ_:Unit=>λi=>xs.getD i .any) (λ_ _=>σ) (λ_ _=>True) () ay rfl a b c e
  (λi h1 h2 L g h k hk=>qA g (tQ (tR Qx i h1 (by omega)) k hk) h)
  (λf D _ _ i h1 h2=>by grind)
  (λf D i o _ l hi _ _ _=>by have h1:=one.get i o l hi;rw[bF]at h1;exact h1.tO ⟨(),λ_ _=>rfl,ay⟩ rfl rfl)
  (Q:=AK X N Qf K) (λf D _ _=>k) id
 rw[pq]at this;exact this
end
section
variable {P:ar}{X:Cx P}{N:Nat}{Qf:Post}{K:List It}{φ:Fr}{σ:List aR}{all rest:List au}{o:au}{T:List (Nat×TI)}
def Ig{ι:Type}{S:av->St->Prop}{b:aU}{k:List Item}{cs:List aU}{a:Act}{s:St}{ops:Array au}{i:Nat}{rest:List Nat}{ks:List Nat}{n:List aR}{σ1:ι->List aR}{f:aJ}{e:List D}{res:ι->D}{vs:List ah}(hb:b.kind≠.early)(ho:ops[i]?=aa o)(hw:bg o (yielded ops a.tmps)=ab)(hh:aF σ s)(t:∀m,aF σ m->(aw a.eval o).run P m.w=.ok (.enter f vs.toArray) m.w/\fg m ((aw a.eval o).events P m.w #[]))(Q:ef X f e n res σ1)(u:cp σ s vs (fU ks e))(Y:lE ks.length e=ab)(r:j3 ks σ=aa n)(hp:cx n=ab)(Yw:∀j,cx (σ1 j)=ab)(hn:dH ks=ab)(Z:∀j,ks.length<=(σ1 j).length)(h:∀j v s',dt (dW ks (σ1 j) σ) s' v (iu (ks++k9 σ.length ((σ1 j).length-ks.length)) (res j))->aF (dW ks (σ1 j) σ) s'->cY σ s (dW ks (σ1 j) σ) s'->fL X S (G (b.aT (a.put o.dst v) (.inRegion ops rest::k)) cs) s'):
  fL X S (G (b.aT a (.inRegion ops (i::rest)::k)) cs) s:=by obtain⟨_,A⟩:=Q;refine .next rfl λm QQ=>?_;have hr:=X.iH QQ;have g:=hh.rely hr;obtain⟨p,E⟩:=wz (l':=m.β) r g.len;obtain⟨O,hgs⟩:=g.sub r E hp hn;have q:cp σ m vs (fU ks e):=u.mono hr.stepW.ext hh.len;have F:cp n {m with β:=p,own:=wE m p} vs e:=(q.sub (s:=m) r E Y).mono (σ:=n) (s:={m with β:=p}) (σ':=n) (s':={m with β:=p,own:=wE m p}) ⟨λ_ _ _ h=>h,λl B L hB hL=>⟨B,L,hB,hL,.refl _ _⟩⟩ O.len;refine⟨_,m,_,pw ho hw hb (t m g).1,⟨⟨σ,σ,g,g,.refl _ _⟩,fg.seen (t m g).2⟩,.ghost hgs (A _ vs F O S _ λj fr v s2 hl H y mI=>?_)⟩;refine qy (cs:=cs) (c:=b.aT a (.inRegion ops (i::rest)::k)) y hl λs3 C=>?_;have J:=y.rely C;have M:=mI.trans C.stepW;obtain⟨s4,R,hr4,Uw,W,U,ho4,I⟩:=frame g r E hn (Yw j) J M (Z j) (H.mono C.stepW.ext y.len);refine .ghost (eF.back g J M R U ho4 I) ?_;have V:=kF (b:=b) (a:=a) (k:=k) ops i rest v;rw[ho]at V;simp only[oo]at V;rw[V];exact h j v s4 hr4 Uw (hr.stepW.trans W)
def dX.cell(hT:cW P T){l t g:Nat}{E:aj}{v:ah}{i:TI}(hl:dC l σ=aa (.cm (dX g E v)))(hi:bG T t=aa i)(y:cN v=ab)(r:lb i [.c (.val v)]=aa (.one (.c (.val v)))){s:St}(hh:aF σ s):
  (loadVar t ⟨g,0,af⟩).run P s.w=.ok v s.w/\fg s ((loadVar t ⟨g,0,af⟩).events P s.w #[]):=by
 have hB:=b9 hl;have m:l<s.β.length:=by rw[hh.len];grind
 have a:=br m;generalize s.β[l]=L at a;obtain⟨ch,⟨h1,h2,H⟩,A,C,I⟩:=hh.box l _ L hB a;have q:=A g _ h2;have B:g∈L.bs:=(C g).2 (by grind)
 have p:ei σ s [v] [.c (.val v)]:=⟨Rd.val y,ay⟩;obtain⟨u,k,f⟩:=iL (s:=s) (σ:=σ) (P:=P) (hT t i hi) (b:=g) (off:=0) (vs:=[v]) (cs:=[.c (.val v)]) (e:=.one (.c (.val v))) (λj w hj=>by
  simp only[aV,q]
  grind) p r
 have G:u=v:=Rd.en f;subst G;refine⟨k,λF h=>?_⟩;obtain⟨j,hj,rfl⟩:=gu (hT t i hi) (n:=1) (λj hj=>⟨u,by simp only[aV,q];grind⟩) (by have:=ld r;grind) F h;exact j0 (bP a) B
def OA.zb(hT:cW P T){t g:Nat}(l:Nat){x:aq}{E:aj}{v:ah}{i:TI}(p:q8 all φ o=ab)(A:o.op=.load t x)(w:bU φ x=.e (.one (.c (.val (.pointer (aa ⟨g,0,af⟩))))))(hl:dC l σ=aa (.cm (dX g E v)))(hi:bG T t=aa i)(r:cN v=ab)(F:lb i [.c (.val v)]=aa (.one (.c (.val v)))):
  OA X N all o φ σ (.e (.one (.c (.val v)))) σ:=by
 intro s a f hh b k cs S q rest G C y;refine rJ G C (fD p _ _ _ f) λu n=>?_;have j:=hh.rely n;have h:=dg f x;rw[w]at h;have h:=Rd.en (e9 h);obtain⟨h1,h2⟩:=dX.cell hT hl hi r F j;have e:aw a.eval o=(do pure (.value (<-loadVar t ⟨g,0,af⟩))):=by simp[aw,A,h,Instr.loadAt,bq]
 refine⟨.value v,u,v,by rw[e];simp[h1],.inl rfl,⟨⟨σ,σ,j,j,.refl _ _⟩,?_⟩,y v u (Rd.val r) j n.stepW⟩;intro B m;rw[e]at m;exact h2 B (by simpa[h1]using m)
def GX(t:aj)(p:Addr)(a:String):Builtin.ssaWrapNilChk_ #[t] t #[.pointer (aa p),strVal "",strVal a]=pure (.pointer (aa p)):=rfl
def rh(P:ar)(σ:List aR)(T:aj)(v:ah)(name:String)(f:aJ)(r:ah):Prop:=∀s,aF σ s->∀n,(Go.method (n+1) T v name).run P s.w=.ok (f,r) s.w/\fg s ((Go.method (n+1) T v name).events P s.w #[])
def rh.ptr{a:aj}{name:String}{f:aJ}{i:TypeInfo}{m:Go.Method}{e:aj}{v:ah}(hi:P.info? a=aa i)(b:i.methods.find? (·.name==name)=aa m)(c:m.path=#[])(g:m.func=aa (f,ab))(h:P.underlying a=aa (.pointer e)):rh P σ a v name f v:=by
 intro s hh n;have h1:∀w,(typeInfo a).run P w=.ok i w:=λw=>by simp[typeInfo,hi]
 have h2:∀w,(underlying a).run P w=.ok (.pointer e) w:=λw=>by simp[underlying,h]
 unfold Go.method;constructor
 .simp only[bT,h1,b,c,g,b5,follow,dx,receiverAt,h2];rfl
 .have:∀es,((do pure (f,<-receiverAt a (.val v) ab (if m.path.isEmpty then aa ((name.splitOn ".").getLastD name)else af))):Sem (aJ×ah)).events P s.w es=es:=λes=>by simp[receiverAt,h2,Place.get]
  simp only[aM,bT,h1,b,c,g,b5,aP,follow,dx,Sem.events_pure,receiverAt,h2,events_typeInfo,events_underlying,Place.get];exact .nil
def rh.deref(hT:cW P T){l g:Nat}{b:aj}{name:String}{f:aJ}{i:TypeInfo}{m:Go.Method}{t E:aj}{v:ah}{q:TI}(hi:P.info? b=aa i)(h:i.methods.find? (·.name==name)=aa m)(k:m.path=#[])(p:m.func=aa (f,ae))(A:P.underlying b=aa (.pointer t))(hl:dC l σ=aa (.cm (dX g E v)))(e:bG T t=aa q)(r:cN v=ab)(C:lb q [.c (.val v)]=aa (.one (.c (.val v)))):rh P σ b (.pointer (aa ⟨g,0,af⟩)) name f v:=by
 intro s hh n;have h1:∀w,(typeInfo b).run P w=.ok i w:=λw=>by simp[typeInfo,hi]
 have h2:∀w,(underlying b).run P w=.ok (.pointer t) w:=λw=>by simp[underlying,A]
 obtain⟨j,u⟩:=dX.cell hT hl e r C hh;have B:m.path.isEmpty=ab:=by grind
 unfold Go.method;constructor
 .simp only[bT,h1,h,k,p,b5,follow,dx,receiverAt,h2,Place.get];simp[GX,asAddr,j]
 .intro y a;refine u y ?_;simp only[aM,bT,h1,h,k,p,b5,aP,follow,dx,Sem.events_pure,receiverAt,h2,events_typeInfo,events_underlying,Place.get]at a;simpa[GX,asAddr,j]using a
def pH{a:aq->ah}{x:aq}{b:Array aq}{e:Array aj}{name:String}(j:o.op=.call {callee:=.invoke x name,args:=b,argTypes:=e}){c:aj}{u:ah}(k:a x=.iface c u):
  aw a o=callMethod (.iface c u) name (b.toList.map a).toArray:=by
 have h:#[a x]++b.map a=(.iface c u::b.toList.map a).toArray:=by grind
 have g:(Value.iface c u::b.toList.map a).toArray.extract 1 (Value.iface c u::b.toList.map a).toArray.size=(b.toList.map a).toArray:=by grind
 have f:aw a o=invoke (.fn (.method name) #[]) (#[a x]++b.map a):=by simp only[aw,j];rfl
 rw[f,h];show callMethod (.iface c u) name ((Value.iface c u::b.toList.map a).toArray.extract 1 (Value.iface c u::b.toList.map a).toArray.size)=_;rw[g]
def AK.kV{ι:Type}{Tp:aj}{name:String}{f:aJ}{u r:ah}{g:List D}{B:List aR}{σ1:ι->List aR}{res:ι->D}(C:ef X f g B res σ1)(ks:List Nat)(hm:rh P σ Tp u name f r)(O:q8 all φ o=ab){x:aq}{H:Array aq}{W:Array aj}(ho:o.op=.call {callee:=.invoke x name,args:=H,argTypes:=W})(hx:bU φ x=.e (.one (.c (.ifs Tp (.val u)))))(hr:cN r=ab)(A:mR (.e (.one (.c (.val r)))::H.toList.map (bU φ))=fU ks g)(Q:lE ks.length g=ab)(Y:j3 ks σ=aa B)(hp:cx B=ab)(U:∀j,cx (σ1 j)=ab)(hn:dH ks=ab)(R:∀j,bA ks.length (σ1 j).length=ab)(hN:gg N o.dst=ab)(k:∀j,AK X N Qf (.ops all rest::K) .normal (kH o.dst (iu (ks++k9 σ.length ((σ1 j).length-ks.length)) (res j)) φ) (dW ks (σ1 j) σ)):AK X N Qf (.ops all (o::rest)::K) .normal φ σ:=by
 intro s a G hh b kk css S idx hb jE hQ;cases idx with
 |nil=>exact jE.elim
 |cons i idx =>
 have J:=dg G x;rw[hx]at J;have J:=e9 J;generalize Z:a.eval x=v at J;cases J with
 |@ifs _ u' _ h1 hc =>
  have hu:=Rd.en h1;subst hu;obtain⟨fn,I,OH,M⟩:=C.1;have l:fn.name≠ "runtime.NumGoroutine":=by grind
  have h:fn.body≠af:=by grind
  obtain⟨n,E⟩:∃n,P.types.size+Made.depth=n+1:=⟨P.types.size+Made.depth-1,by unfold Made.depth;omega⟩
  have p:∀w,(program:Sem ar).run P w=.ok P w:=λw=>by simp[program,Sem.run]
  have F:∀w es,(program:Sem ar).events P w es=es:=λw es=>by simp[program,Sem.events,Sem.runT]
  have m:cp σ s (r::H.toList.map a.eval) (fU ks g):=by rw[<-A];exact pz (σ:=σ) (s:=s) ⟨Rd.val hr,lX (dg G) H.toList⟩
  refine Ig (ks:=ks) hb jE.1 (fD O _ _ _ G) hh (vs:=r::H.toList.map a.eval) (λs1 L=>?_) C m Q Y hp U hn (λj=>db (R j)) λj v s' mK jh st=>?_
  .obtain⟨m1,m2⟩:=hm s1 L n;constructor
   .rw[pH ho Z];simp[callMethod,p,E,m1,callFunc,I,l,h]
   .intro ev y;refine m2 ev ?_;rw[pH ho Z]at y;simpa[callMethod,p,F,E,m1,callFunc,I,l,h]using y
  refine k j s' _ ?_ jh b kk css S idx hb jE.2 λV σ2 s2 a2 q d h2 mI=>hQ V σ2 s2 a2 q d h2 (st.trans mI);cases hd:o.dst with
  |none=>exact G.mono st hh.len
  |some t=>exact(G.mono st hh.len).put (gK hN t hd) mK
def bM.CJ{b:aq->D}{x:aq}(h:o.op=.nilCheck x){p:Addr}(f:b x=.e (.one (.c (.val (.pointer (aa p)))))):bM P o b σ (.e (.one (.c (.val (.pointer (aa p)))))) σ:=by refine .quiet λs g hh hr=>?_;have h1:=hr x;rw[f]at h1;have a:=Rd.en (e9 h1);exact⟨g x,by simp[aw,h,a],h1,by simp[aw,h,a]⟩
def bM.CK(hT:cW P T){W:aq->D}{t:aj}{x:aq}(h:o.op=.load t x){E:aj}{b cap off i f k n l:Nat}{es:Nat->List C}{xs:List ah}{I:TI}{e:E1}(hx:W x=.e (.one (.c (.val (.pointer (aa ⟨b,off,af⟩))))))(RP:off=i*k+f)(hl:σ[l]?=aa (.cm (gf E k (.row b cap) n xs)))(V:gy k n es xs)(hi:bG T t=aa I)(Y:lb I ((fV f (es i)).map A.c)=aa e)(R:i<n):bM P o W σ (.e e) σ:=by
 refine .oy λs ρ hh hr=>?_;have H:=hr x;rw[hx]at H;have H:=Rd.en (e9 H);have u:l<s.β.length:=by rw[hh.len];grind
 have J:=br u;generalize s.β[l]=L at J;obtain⟨ch,hH,p,S,XD⟩:=hh.box l _ L hl J;obtain⟨zs,XF,G,Z⟩:=gf.lookup hH;have Q:b∈L.bs:=(S b).2 (by grind);have B:=p b _ G;let g:Nat->ah:=λj=>xs.getD (i*k+j) ai;have hg:∀j c,(fV f (es i))[j]?=aa c->xs[i*k+(f+j)]?=aa (g (f+j))/\Rd s.M (g (f+j)) c:=by intro j c hj;rw[mo,pr]at hj;obtain⟨v,v1,v2⟩:=V.at' i R (f+j) c hj;grind
 have O:=EX (σ:=σ) (s:=s) (g:=g) (ds:=fV f (es i)) (m:=f) (λj c hj=>(hg j c hj).2);have a:∀(j:Nat) (v:ah),((bh (fV f (es i)).length).map λj=>g (f+j))[j]?=aa v->s.w.cell? ⟨b,off+j,af⟩=aa v:=by
  intro j v hj;simp only[nj]at hj;by_cases y:j<(fV f (es i)).length
  .simp[y]at hj;subst hj;have h2:=(hg j _ (br y)).1;simp only[aV,B];grind
  grind
 obtain⟨v,r,U⟩:=iL (s:=s) (σ:=σ) (P:=P) (hT t I hi) (b:=b) (off:=off) (e:=e) a O Y;have e1:aw ρ o=(do pure (.value (<-loadVar t ⟨b,off,af⟩))):=by simp[aw,h,H,Instr.loadAt,bq]
 refine⟨v,by rw[e1];simp[r],U,λev q=>?_⟩;rw[e1]at q;have F:ev∈(loadVar t ⟨b,off,af⟩).events P s.w #[]:=by simpa[r]using q
 obtain⟨j,hj,rfl⟩:=gu (hT t I hi) (n:=(fV f (es i)).length) (λj hj=>⟨_,a j (g (f+j)) (by grind)⟩) (by have:=ld Y;grind) ev F;exact j0 (bP J) Q
def bM.SC(hT:cW P T){f:aq->D}{t:aj}{x y:aq}(h:o.op=.slice t x af (aa y) af){i u:TI}{E:aj}(q:bG T t=aa i)(v:i.desc=.slice E)(G:bG T E=aa u){b n cap:Nat}{kd:IntKind}{m:Int}(F:f x=.e (.one (.c (.val (.slice (aa ⟨b,0,af⟩) n cap)))))(A:f y=.e (.one (.c (.int kd m))))(j:n<=cap)(I:0<=m)(h1:m<=n):bM P o f σ (.e (.one (.c (.val (.slice (aa ⟨b,0,af⟩) m.toNat cap))))) σ:=by
 refine .quiet λst ρ hh hr=>?_;have g:=hr x;rw[F]at g;have g:=Rd.en (e9 g);have hl:rI f af=aa af:=rfl;have r:rI f (aa y)=aa (aa m):=by simp[rI,A]
 have s:az (fY n af (aa m)):=⟨I,h1⟩;obtain⟨C,B,H⟩:=md (P:=P) (isS:=ab) j (gE hr hl) (gE hr r) s st.w;have a:=(hT t i q).run_underlying (w:=st.w);rw[v]at a;have k:(bd ab n cap af (aa (ρ y)) af).run P st.w=.ok (0,m.toNat,cap) st.w:=C;have p:=nH (P:=P) (isS:=ab) j (gE hr hl) (gE hr r) s st.w;have l:∀es,(bd ab n cap af (aa (ρ y)) af).events P st.w es=es:=p;refine⟨_,?_,Rd.val rfl,?_⟩
 .simp[aw,h,g,Instr.sliceAt,a,Instr.slice,k,(hT E u G).run_sizeOf,du]
 .simp[aw,h,g,Instr.sliceAt,a,Instr.slice,k,l]
def GY{s:St}:∀{vs:List ah}{cs:List C},vs.length=cs.length->∀f:Nat->ah,(∀j,j<vs.length->vs[j]?=aa (f j))->(∀(j:Nat)(c:C),cs[j]?=aa c->Rd s.M (f j) c)->ei σ s vs (cs.map A.c)
 |[],[],_,_,_,_=>trivial
 |[],_::_,b,_,_,_=>by grind
 |_::_,[],b,_,_,_=>by grind
 |v::vs,c::cs,b,f,h,a=>⟨by have:=h 0 (by simp);cases this;exact a 0 c rfl,GY (by grind) (λj=>f (j+1)) (λj e=>by grind) λj g e=>a (j+1) g (by grind)⟩
def bM.AR(hT:cW P T){p:aq->D}{x:aq}{l t:aj}(h:o.op=.typeAssert x l t ae){i:TI}(hi:bG T t=aa i)(n:pF i.desc=ae){cs:List C}(r:p x=.e (.one (.c (.Gw t cs)))):bM P o p σ (.e (.agg (cs.map A.c))) σ:=by
 refine .quiet λs u hh hr=>?_;have h1:=hr x;rw[r]at h1;replace h1:=e9 h1;generalize j:u x=vx at h1;have q:=(hT t i hi).run_underlying (w:=s.w);have b:∀m,i.desc≠.interface m:=by intro m e;rw[e]at n;cases n
 cases h1 with
 |@Gw t' vs cs hl f v k =>
  have a:(Instr.typeAssert (.iface t (.agg vs.toArray)) l t ae).run P s.w=.ok (.agg vs.toArray) s.w/\(Instr.typeAssert (.iface t (.agg vs.toArray)) l t ae).events P s.w #[]=#[]:=by
   constructor
   .unfold Instr.typeAssert;simp only[bT,q,b5];cases g:i.desc<;>first|(exact absurd g (b _))|simp
   .unfold Instr.typeAssert;simp only[q,aM,aP,events_underlying];cases g:i.desc<;>first|(exact absurd g (b _))|simp
  exact⟨.agg vs.toArray,by simp only[aw,h,j,bT,a.1,b5,dx],⟨vs,rfl,GY hl f v k⟩,by simp only[aw,h,j,aM,a.1,a.2,aP,Sem.events_pure]⟩
def AK.KP(hT:cW P T)(l:Nat){t g:Nat}{x y:aq}{E:aj}{v u:ah}{i:TI}(h:o.op=.store t x y)(hi:bG T t=aa i)(C:i.size=1)(Y:bU φ x=.e (.one (.c (.val (.pointer (aa ⟨g,0,af⟩))))))(V:bU φ y=.e (.one (.c (.val u))))(R:u.cells=#[u])(Z:cN u=ab)(hl:dC l σ=aa (.cm (dX g E v)))(hg:o.guard=af)(hN:gg N o.dst=ab)(kk:AK X N Qf (.ops all rest::K) .normal (kH o.dst .any φ) (σ.set l (.cm (dX g E u)))):AK X N Qf (.ops all (o::rest)::K) .normal φ σ:=by
 refine AK.hand (ι:=Unit) (λ_=>.any) (λ_=>σ.set l (.cm (dX g E u))) hg hN (λs a Q hh=>?_) λ_=>kk;have I:=dg Q x;rw[Y]at I;have I:=Rd.en (e9 I);have m:=dg Q y;rw[V]at m;have m:=Rd.en (e9 m);have hl:=b9 hl;have A:l<s.β.length:=by rw[hh.len];grind
 have H:=br A;generalize s.β[l]=L at H;obtain⟨ch,⟨h1,h2,h3⟩,q,J,O⟩:=hh.box l _ L hl H;have r:g∈L.bs:=(J g).2 (by grind);have k:=q g _ h2;have G:∀w∈[u],w.oneCell'=ab:=λw hw=>by
  have:cN w=ab:=by grind
  exact this
 have M:=run_storeCells_at P g 0 E [u] 0 #[v] s.w k (by simp) G;have F:∀b,b≠g->(s.w.setRow g #[u]).heap[b]?=s.w.heap[b]?:=λb f=>setRow_other s.w g b _ f;have S:=setRow_heap s.w g #[v] #[u] E (0,0) k;obtain⟨t1,t2⟩:=hh.jM (l:=l) (H':=dX g E u) (L':=L) (w':=s.w.setRow g #[u]) hl H rfl (by simp)
  (λb f hn=>F b (by grind)) (λb f=>.inl f)
  ⟨λb=>if b=g then aa (.cells #[u] E (0,0))else af,⟨h1,by simp,λb f=>by grind⟩,λb o f=>by
   grind,λb=>by grind⟩ rfl rfl rfl
 have e1:aw a.eval o=(do storeVar t ⟨g,0,af⟩ u;pure .skip):=by simp[aw,h,I,m,Instr.storeAt,bq]
 have n:(storeCells ⟨g,0,af⟩ [u] 0).run P s.w=.ok () (s.w.setRow g #[u]):=M;refine⟨(),.skip,_,ai,?_,.inr ⟨rfl,rfl⟩,ay,t1,t2,?_⟩
 .rw[e1];simp[storeVar,(hT t i hi).run_sizeOf,R,C,n]
 .intro U p;rw[e1]at p;have B:U∈(storeCells ⟨g,0,af⟩ [u] 0).events P s.w #[]:=by simp only[storeVar,aM,(hT t i hi).run_sizeOf,C,R,aP,events_sizeOf,dy,ft,ck,bT,b5,Sem.events_pure]at p;simpa[n]using p
  rcases dN [u] 0 #[v] s.w #[] k (by simp) G U B with W|⟨j,_,_,rfl⟩
  .grind
  .exact jX (bP H) r (O g r _)
def AK.KQ(t l:Nat){E:aj}(A k:Nat){I:Nat}{es:Nat->List C}{c:Code}(R:look φ t=.e (.one (.ptr l 0)))(hl:dC l σ=aa (.cells E [.c (.sl ab I 0 es)]))(kk:∀g a0,AK X N Qf (.code c::K) .normal ((t,.e (.one (.v (.pointer (aa ⟨g,0,af⟩)))))::φ) (σ.set l (.cm (dX g E (lA (.nil a0) 0)))++[.cm (gf A k (.nil a0) 0 [])])):AK X N Qf (.code c::K) .normal φ σ:=by
 refine AW.tM (ι:=Nat×Option Addr) (φ':=λq=>(t,.e (.one (.v (.pointer (aa ⟨q.1,0,af⟩)))))::φ) (σ':=λq=>σ.set l (.cm (dX q.1 E (lA (.nil q.2) 0)))++[aR.cm (gf A k (.nil q.2) 0 [])]) (λs a r hh=>?_) λ(q:Nat×Option Addr)=>kk q.1 q.2;have hl:=b9 hl;have m:l<s.β.length:=by rw[hh.len];grind
 have j:=br m;generalize s.β[l]=L at j;obtain⟨g,vs,rfl,Y,H,Z⟩:=hh.box l _ L hl j
 match vs,H with
 |[v],⟨Q,_⟩ =>
  obtain⟨a0,cap,O,rfl,_,_,G,_,_⟩:=(show Rd s.M v (.sl ab I 0 es)from Q).flat;have p:cap=0:=G rfl;subst p;obtain⟨J,q2⟩:=hh.gJ (M':=s.M) (w':=s.w) (B':=.cm (dX g E (lA (.nil a0) 0))) (L':=⟨.pointer (aa ⟨g,0,af⟩),[g]⟩) hl j rfl (bc _) (λ_ _ _=>rfl) (λ_ _ _ _=>rfl) (λ_ _ _ h=>h) hh.mem (λb f=>⟨.inl f,hh.lt _ (bP j) b f⟩) rfl rfl rfl
   ⟨λb=>if b=g then aa (.cells #[.slice a0 0 0] E (0,0))else af,⟨rfl,by simp[lA],λb f=>by grind⟩,λb o f=>by
    grind,λb=>by by_cases e:b=g<;>simp[e],λb f o=>by grind⟩
  obtain⟨U,S⟩:=J.ik (B:=.cm (gf A k (.nil a0) 0 [])) (L:=⟨.nilFunc,[]⟩) (.refl _ _) rfl J ⟨λ_=>af,⟨rfl,by simp,by simp,rfl,rfl⟩,by simp,by simp,by simp⟩ (by simp);have st:=q2.trans S;refine⟨(g,a0),{s with β:=s.β.set l ⟨.pointer (aa ⟨g,0,af⟩),[g]⟩++[⟨.nilFunc,[]⟩]},rfl,⟨r.size,r.defers.imp λ_ h1=>h1.mono st.ext,λu=>?_⟩,U,st⟩;simp only[look];cases f:aB t u with
  |false=>exact(r.slot u).mono st.ext hh.len
  |true =>
   have e:=bX f;subst e;have h1:=r.slot t;rw[R]at h1;obtain⟨_,V,W,n,y,F⟩:=(h1:gB σ s _ (.ptr l 0));rw[j]at n;cases n;cases y;rw[F];exact Rd.val rfl
theorem OA.xb{ι:Type}{x:D}{σ':List aR}(c:o.guard=af)(h:ee P N o φ σ (λ_:ι=>x) λ_=>σ'):OA X N all o φ σ x σ':=λs a f hh b kk cs S i rest e hi hK=>mV.xb c h s a f hh b kk cs S i rest e hi λ_=>hK
section
variable {x:Nat->D}{s2:Bool->Bool->List aR}{i z d:Nat}
abbrev xt(s2:Bool->Bool->List aR)(z d:Nat):(Nat->Bool)->List aR:=λD=>s2 (D z) (D d)
def eh.q2(h1:aB z i=ae)(h2:aB d i=ae)(h:∀a b,OA X N all o (kr all φ x i) (s2 a b) (x i) (s2 a b)):eh X N all φ x (xt s2 z d) i o:=by
 intro D _ _;have e1:ey i D z=D z:=by simp only[ey,h1]
 have e2:ey i D d=D d:=by simp only[ey,h2]
 grind
def eh.VJ{T:List (Nat×TI)}{CT:List (Nat×dv)}{obs:List Prop}(hT:cW P T)(hC:bL X CT)(h:∀a b,wP T CT [] all (kr all φ x i) (s2 a b) o=aa (x i,af,obs):=by intro a b;cases a<;>cases b<;>rfl)(h1:aB z i=ae:=by rfl)(h2:aB d i=ae:=by rfl)(c:az obs:=by simp only[az,aE];omega):eh X N all φ x (xt s2 z d) i o:=.q2 h1 h2 λa b=>OA.eval hT hC (h a b) c
def eh.QV{T:List (Nat×TI)}{CT:List (Nat×dv)}(hT:cW P T)(hC:bL X CT)(h:∀a b,wP T CT [] all (kr all φ x i) (s2 a b) o=aa (x i,af,[]):=by intro a b;cases a<;>cases b<;>rfl)(h1:aB z i=ae:=by rfl)(h2:aB d i=ae:=by rfl):eh X N all φ x (xt s2 z d) i o:=.VJ (obs:=[]) hT hC h h1 h2 ay
def eh.fw(h1:aB z i=ae)(h2:aB d i=ae)(b:fZ all z i=ab)(a:fZ all d i=ab)(h:OA X N all o (kr all φ x i) (s2 ae ae) (x i) (s2 ae ae)):eh X N all φ x (xt s2 z d) i o:=by
 intro D _ c;have e1:ey i D z=D z:=by simp only[ey,h1]
 have e2:ey i D d=D d:=by simp only[ey,h2]
 grind
def eh.sA(h2:aB d z=ae)(a:fZ all d z=ab)(h:OA X N all o (kr all φ x z) (s2 ae ae) (x z) (s2 ab ae)):eh X N all φ x (xt s2 z d) z o:=by
 intro D _ b;have e1:ey z D z=ab:=by simp only[ey,ja]
 have e2:ey z D d=D d:=by simp only[ey,h2]
 grind
def eh.sB(h1:aB z d=ae)(a:fZ all d z=ab)(h:OA X N all o (kr all φ x d) (s2 ab ae) (x d) (s2 ab ab)):eh X N all φ x (xt s2 z d) d o:=by
 intro D hT hF;have e1:ey d D z=D z:=by simp only[ey,h1]
 have e2:ey d D d=ab:=by simp only[ey,ja]
 grind
end
end
section
variable {P:ar}{X:Cx P}{N:Nat}{Qf:Post}{K:List It}{φ:Fr}{σ:List aR}{c:Code}
def pL{S:Type}{P:ar}(X:Cx P)(N:Nat)(Qf:Post)(K:List It)(I:S->Prop)(b:S->Fr)(st:S->List aR)(a:S->Nat)(d:Nat)(x:S):Post:=λe φ' σ'=>match e with
 |.normal=>∃y n,d<=n/\I y/\a y<a x/\oA φ' (b y)/\CF n (b y)=ab/\∃σ1 rest,σ'=σ1++rest/\σ1.length=n/\(sJ n σ1=ab/\lM rest=ab)/\EK σ1 (st y)
 |e=>AK X N Qf K e φ' σ'
def AK.QT{S:Type}(F:Nat)(I:S->Prop)(fr:S->Fr)(st:S->List aR)(k:S->Nat)(x:S){ps qs:List Prop}(l:nU φ (fr x)=aa ps)(Q:az ps)(v:pg σ (st x)=aa qs)(M:az qs)(hn:σ.length=F)(h0:I x)(round:∀x,I x->AK X N (pL X N Qf K I fr st k F x) [.code c] .normal (fr x) (st x)):AK X N Qf (.code (.loop c)::K) .normal φ σ:=by
 intro s a O hh b kk cs SS hb hQ;have i:=gD v M;obtain⟨p,w,_⟩:=i s hh;refine sZ (λm a' s'=>∃y,I y/\cu N (st y) s' (fr y) a'/\aF (st y) s'/\cY σ s (st y) s'/\k y=m) ?_ ?_ ⟨x,h0,(O.le (cD l Q)).bs i hh,p,w.nD hh,rfl⟩
 .rintro n a' s' ⟨y,r,C,j,d,e⟩;exact⟨st y,j,λs1 h1=>⟨y,r,C.rely h1 j,j.rely h1,d.trans h1.stepW,e⟩⟩
 rintro m a' s' ⟨y,r,C,j,d,rfl⟩ V;refine round y r s' a' C j b (.inLoop c::kk) cs SS hb ?_;intro e Y σ2 s2 a2 q G h2 mI;cases e with
 |normal =>
  obtain⟨z,nz,Z,hz,o,f,R,σ1,rest,rfl,T,⟨W,E⟩,D⟩:=q;have H:=h2.drop (by grind);obtain⟨B,g,A⟩:=D _ H;have u:=G.le f;have U:eF s2 (s2.cut σ1.length):=⟨rfl,λ_ _ _ h=>h,λ_ _ _=>rfl,h2.mem,λb hb=>hb.imp id λ⟨L,J,hb⟩=>⟨L,fM J,hb⟩⟩
  refine .ghost U (V a2 (s2.cut σ1.length) (k z) o ⟨z,hz,⟨u.size,u.defers.imp λ_ h1=>(h1.drop E).mono g.ext,λt=>A _ _ ((u.slot t).drop (nV (by grind)))⟩,B,?_,rfl⟩);exact((d.trans mI).drop (by omega)).trans (g.nD H)
 |_=>exact ends.cons (λ_ _=>rfl) (by simp) (hQ _ _ _ _ _ q G h2 (d.trans mI))
def AK.AJ{S:Type}{i:Nat}{I:S->Prop}{fr:S->Fr}{st:S->List aR}{a:S->Nat}{x:S}{m:List It}(n:Nat)(y:S){ps qs:List Prop}(j:i<=n)(d:nU φ (fr y)=aa ps)(k:az ps)(e:CF n (fr y)=ab)(f:xf n σ=ab)(h:pg (σ.take n) (st y)=aa qs)(o:az qs)(g:sJ n (σ.take n)=ab)(l:I y)(b:a y<a x):
  AK X N (pL X N Qf m I fr st a i x) [] .normal φ σ :=
 ⟨y,n,j,l,b,cD d k,e,σ.take n,σ.drop n,(jz n σ).symm,by grind[Nat.le_of_ble_eq_true,qG],⟨g,(qG f).2⟩,gD h o⟩
def AK.AL{S:Type}{d:Nat}{I:S->Prop}{fr:S->Fr}{st:S->List aR}{b:S->Nat}{x:S}{id:Nat}{f a g:List It}(h1:j9 id f=af)(h2:j9 id a=aa g)(k:AK X N Qf g .normal φ σ):
  AK X N (pL X N Qf a I fr st b d x) (.code (.exit id)::f) .normal φ σ :=
 AW.mono (AK.leave (A:=λφ' σ'=>pL X N Qf a I fr st b d x .normal φ' σ') h1 h2 k) λe φ' σ' q=>by
  have key:∀(K:List It) e,AK X N (λe φ' σ'=>match e with
    |.normal=>pL X N Qf a I fr st b d x .normal φ' σ'
    |e=>AK X N Qf a e φ' σ') K e φ' σ'->AK X N (pL X N Qf a I fr st b d x) K e φ' σ':=by
   have e:(λe φ' σ'=>match e with
    |.normal=>pL X N Qf a I fr st b d x .normal φ' σ'
    |e=>AK X N Qf a e φ' σ')=pL X N Qf a I fr st b d x:=by funext e φ' σ';cases e<;>rfl
   grind
  exact key _ _ q
end
def kp(φ:Fr)(ks:List Nat):Fr:=ks.map λk=>(k,look φ k)
section
variable {P:ar}{X:Cx P}{N:Nat}{Qf:Post}{K:List It}{φ:Fr}{σ:List aR}{c:Code}
def AK.sX{S:Type}(n:Nat)(ks:List Nat)(I:S->Prop)(fr:S->Fr)(st:S->List aR)(d:S->Nat)(x:S){ps qs:List Prop}(a:nU φ (kp φ ks++fr x)=aa ps)(f:az ps)(b:pg σ (st x)=aa qs)(g:az qs)(e:σ.length=n)(h:I x)(round:∀x,I x->AK X N (lF X N Qf K I (λx=>kp φ ks++fr x) st d n x) [.code c] .normal (kp φ ks++fr x) (st x)):AK X N Qf (.code (.loop c)::K) .normal φ σ :=
 .cE n I (λx=>kp φ ks++fr x) st d x a f b g e h round
end
inductive Tr where
 |nil
 |nd (l:Tr) (a b:Int) (r:Tr)
def nG(E:aj):Tr->ah->(Nat->Option Obj)->Prop
 |.nil,v,d=>v=.pointer af/\∀b,d b=af
 |.nd l a b r,v,d=>∃x f e cl cr,v=.pointer (aa ⟨x,0,af⟩)/\(bD .i64 a/\bD .i64 b)/\nG E l f cl/\nG E r e cr/\d x=aa (.cells #[.int .i64 a,.int .i64 b,f,e] E (0,0))/\cl x=af/\cr x=af /\
   (∀y o,cl y=aa o->cr y=af/\d y=aa o)/\(∀y o,cr y=aa o->d y=aa o)/\∀y o,d y=aa o->y=x∨cl y=aa o∨cr y=aa o
def nG.cell{E:aj}{t:Tr}{v:ah}{ch:Nat->Option Obj}(h:nG E t v ch):cN v=ab:=by
 cases t with
 |nil=>rw[h.1];rfl
 |nd=>obtain⟨_,_,_,_,_,rfl,_⟩:=h;rfl
section
variable {σ σ':List aR}{s s':St}
def aF.G2{T:Nat->Prop}(hh:aF σ s)(j:s'.w=s.w)(n:s'.M=s.M)(q:s'.own=s.own)(i:s'.β.length=σ'.length)(u:σ.length<=σ'.length)(out:∀l,l<σ.length->¬T l->σ'[l]?=σ[l]?/\s'.β[l]?=s.β[l]?)(m:∀(l:Nat) (L':Loc),(T l∨σ.length<=l)->s'.β[l]?=aa L'->∀b∈L'.bs,∃(k:Nat) (L:Loc),T k/\s.β[k]?=aa L/\b∈L.bs)(eO:∀(l l':Nat) (L L':Loc),(T l∨σ.length<=l)->(T l'∨σ.length<=l')->s'.β[l]?=aa L->s'.β[l']?=aa L'->∀b∈L.bs,b∈L'.bs->l=l')(box:∀l B L,T l->σ[l]?=aa B->s.β[l]?=aa L->∃B' L',σ'[l]?=aa B'/\s'.β[l]?=aa L'/\gI B L B' L')(ok:Ext σ s σ' s'->∀l B L,(T l∨σ.length<=l)->σ'[l]?=aa B->s'.β[l]?=aa L->eE σ' s' B L):aF σ' s'/\Step σ s σ' s':=by
 have hl:=hh.len;have p:∀(l:Nat) (B:aR) (L:Loc),σ[l]?=aa B->s.β[l]?=aa L->∃B' L',σ'[l]?=aa B'/\s'.β[l]?=aa L'/\gI B L B' L':=λl B L hB hL=>by
  by_cases h:T l
  .grind
  .obtain⟨h1,h2⟩:=out l (b6.1 hB).1 h;exact⟨B,L,h1.trans hB,h2.trans hL,.refl _ _⟩
 have ex:Ext σ s σ' s':=⟨λb o v h=>n▸h,p⟩
 have cls:∀(l:Nat) (L':Loc),s'.β[l]?=aa L'->(T l∨σ.length<=l)∨(l<σ.length/\¬T l/\s.β[l]?=aa L'):=λl L' h=>by grind
 have a:∀(l:Nat) (L':Loc),s'.β[l]?=aa L'->∀b∈L'.bs,∃(k:Nat) (L:Loc),s.β[k]?=aa L/\b∈L.bs:=λl L' h b d=>by grind
 have y:∀(l l':Nat) (L L':Loc),(T l∨σ.length<=l)->¬T l'->s'.β[l]?=aa L->s.β[l']?=aa L'->∀b∈L.bs,b∈L'.bs->False:=λl l' L L' h1 h2 hL fA b d f=>by obtain⟨k,K,g,q2,q3⟩:=m l L h1 hL b d;exact h2 (hh.eO k l' K L' q2 fA b q3 f▸g)
 refine⟨⟨λb o v h=>?_,i,λl B L hB hL=>?_,λl l' L L' hL fA b d f=>?_,λL hL b d=>?_,λb d=>?_⟩,⟨?_,?_,ex.mem,?_,λL' fA b d=>?_,p,?_,?_,?_,q⟩⟩
 .rw[n]at h;rw[j];exact hh.mem b o v h
 .rcases cls l L hL with h1|⟨h1,h2,x⟩
  .grind
  .rw[(out l h1 h2).1]at hB;exact(hh.box l B L hB x).carry ex hl λb _=>⟨by rw[j],λo=>by rw[n]⟩
 .rcases cls l L hL with h1|⟨_,h1,h2⟩<;>rcases cls l' L' fA with t|⟨_,t,r⟩
  .grind
  .grind
  .grind
  .exact hh.eO l l' L L' h2 r b d f
 .obtain⟨l,e,rfl⟩:=dG hL;obtain⟨k,K,g,q2⟩:=a l _ (br e) b d;rw[j];exact hh.lt K (bP g) b q2
 .rw[q]at d;refine⟨j▸(hh.own b d).1,λL hL NO=>?_⟩;obtain⟨l,e,rfl⟩:=dG hL;obtain⟨k,K,g,q2⟩:=a l _ (br e) b NO;exact(hh.own b d).2 K (bP g) q2
 .grind
 .grind
 .grind
 .obtain⟨l,e,rfl⟩:=dG fA;obtain⟨k,K,g,q2⟩:=a l _ (br e) b d;grind
 all_goals rw[j]
def aF.KW(hh:aF σ s){l:Nat}{B B':aR}{L L':Loc}{Bs:List aR}{a:List Loc}(hB:σ[l]?=aa B)(q:s.β[l]?=aa L)(j:gI B L B' L')(e:a.length=Bs.length)(sub:∀M∈L'::a,∀b∈M.bs,b∈L.bs)(p:(L'::a).Pairwise λM N=>∀b∈M.bs,b∉N.bs)(ok:∀s':St,s'.w=s.w->s'.M=s.M->s'.β=s.β.set l L'++a->eE (σ.set l B'++Bs) s' B' L'/\∀(i:Nat) (X:aR) (Y:Loc),Bs[i]?=aa X->a[i]?=aa Y->eE (σ.set l B'++Bs) s' X Y):
  aF (σ.set l B'++Bs) {s with β:=s.β.set l L'++a}/\Step σ s (σ.set l B'++Bs) {s with β:=s.β.set l L'++a}:=by
 have hl:=hh.len;have d:l<σ.length:=(b6.1 hB).1;have o:=jB.1 p;have at':∀(k:Nat) (K:Loc),(k=l∨σ.length<=k)->(s.β.set l L'++a)[k]?=aa K->(k=l/\K=L')∨(σ.length<=k/\a[k-σ.length]?=aa K):=λk K hk hK=>by grind
 refine aF.G2 (T:=λk=>k=l) hh rfl rfl rfl (by grind) (by simp) (λk hk hkl=>?_) (λk K hk hK y g=>?_) (λk k' K n hk U3 hK Zk y g m=>?_) (λk X K hk hX hK=>?_) (λex k X K hk hX hK=>?_)
 .grind
 .grind
 .rcases at' k K hk hK with⟨h1,rfl⟩|⟨h1,h2⟩<;>rcases at' k' n U3 Zk with⟨h,rfl⟩|⟨h,f⟩
  .omega
  .grind
  .grind
  .obtain⟨a1,a2⟩:=b6.1 h2;obtain⟨c1,c2⟩:=b6.1 f;grind[List.pairwise_iff_getElem]
 .grind
 grind
def zd:Tr->Nat->A
 |.nil,_=>.c .fz
 |.nd ..,n=>.ref n
def vX(E:aj):Tr->List aR
 |.nil=>[]
 |.nd l a b r=>[.cm (nG E (.nd l a b r))]
def Jy(bs:List Nat):Tr->ah->(Nat->Option Obj)->List Loc
 |.nil,_,_=>[]
 |.nd ..,v,c=>[⟨v,bs.filter λy=>(c y).isSome⟩]
def BU:Tr->Nat->List aR->List aR
 |.nil,_,σ=>σ
 |.nd ..,i,σ=>σ.set i .dead
def aF.KX(hh:aF σ s){E:aj}{l:Nat}{lt rt:Tr}{a b:Int}(hB:σ[l]?=aa (.cm (nG E (.nd lt a b rt)))):
  ∃s',s'.w=s.w/\(∃x L,s.β[l]?=aa L/\L.v=.pointer (aa ⟨x,0,af⟩)/\s'.β[l]?=aa ⟨L.v,[x]⟩)/\aF (σ.set l (.cells E [.c (.int .i64 a),.c (.int .i64 b),zd lt σ.length,zd rt (σ.length+(vX E lt).length)])++(vX E lt++vX E rt)) s' /\
   Step σ s (σ.set l (.cells E [.c (.int .i64 a),.c (.int .i64 b),zd lt σ.length,zd rt (σ.length+(vX E lt).length)])++(vX E lt++vX E rt)) s':=by
 have z:l<σ.length:=(b6.1 hB).1;have j:l<s.β.length:=by rw[hh.len];grind
 have q:=br j;generalize s.β[l]=L at q;obtain⟨ch,⟨x,p,m,cl,n,e1,⟨C,F⟩,h1,h2,h3,S,h5,R,h7,Z⟩,Q,e,W⟩:=hh.box l _ L hB q;have u:=hh.len;have D:x∈L.bs:=(e x).2 (by grind);refine⟨{s with β:=s.β.set l ⟨.pointer (aa ⟨x,0,af⟩),[x]⟩++(Jy L.bs lt p cl++Jy L.bs rt m n)},rfl,⟨x,L,q,e1,?_⟩,hh.KW hB q (show _=_ from e1.symm) ?_ ?_ ?_ λs' V d f=>?_⟩
 .grind
 .cases lt<;>cases rt<;>rfl
 .intro M d y g;rcases eB.1 d with rfl|d
  .grind
  .rcases fx.1 d with d|d
   .cases lt with
    |nil=>cases d
    |nd=>rw[Jy,fN]at d;grind
   .cases rt with
    |nil=>cases d
    |nd=>rw[Jy,fN]at d;grind
 .refine jB.2 ⟨λM d y g J=>?_,?_⟩
  .rw[fN]at g;subst g;rcases fx.1 d with d|d
   .cases lt with
    |nil=>cases d
    |nd=>rw[Jy,fN]at d;grind
   .cases rt with
    |nil=>cases d
    |nd=>rw[Jy,fN]at d;grind
  .cases lt<;>cases rt<;>simp only[Jy,mL,iD,sk,jB,List.Pairwise.nil,fN,forall_eq,oq,false_implies,implies_true,aE]
   grind[Option.isSome_iff_exists]
 .have O:∀y o,cl y=aa o->ch y=aa o:=λy o h=>(R y o h).2;have T:eE (σ.set l (.cells E [.c (.int .i64 a),.c (.int .i64 b),zd lt σ.length,zd rt (σ.length+(vX E lt).length)])++(vX E lt++vX E rt)) s' (.cm (nG E lt)) ⟨p,L.bs.filter λy=>(cl y).isSome⟩ :=
   ⟨cl,h1,λy o h=>by grind,λy=>⟨λh=>(jS.1 h).2,λh=>jS.2 ⟨(e y).2 (by grind[Option.isSome_iff_exists]),h⟩⟩,λy g o=>by rw[d];grind⟩
  have U:eE (σ.set l (.cells E [.c (.int .i64 a),.c (.int .i64 b),zd lt σ.length,zd rt (σ.length+(vX E lt).length)])++(vX E lt++vX E rt)) s' (.cm (nG E rt)) ⟨m,L.bs.filter λy=>(n y).isSome⟩ :=
   ⟨n,h2,λy o h=>by grind,λy=>⟨λh=>(jS.1 h).2,λh=>jS.2 ⟨(e y).2 (by grind[Option.isSome_iff_exists]),h⟩⟩,λy g o=>by rw[d];grind⟩
  have c1:=h1.cell;have c2:=h2.cell;have A:s'.w.heap[x]?=aa (.cells (List.toArray [.int .i64 a,.int .i64 b,p,m]) E (0,0)):=by grind
  have H:∀o,s'.M x o=af:=λo=>by rw[d];grind
  have r:∀k,(s.β.set l ⟨.pointer (aa ⟨x,0,af⟩),[x]⟩++(Jy L.bs lt p cl++Jy L.bs rt m n))[σ.length+k]?=(Jy L.bs lt p cl++Jy L.bs rt m n)[k]?:=λk=>by grind
  have e2:∀k,(σ.set l (.cells E [.c (.int .i64 a),.c (.int .i64 b),zd lt σ.length,zd rt (σ.length+(vX E lt).length)])++(vX E lt++vX E rt))[σ.length+k]?=(vX E lt++vX E rt)[k]?:=λk=>by grind
  refine⟨⟨x,_,rfl,A,⟨Rd.int C,Rd.int F,?_,?_,ay⟩,H⟩,?_⟩
  .cases lt with
   |nil=>rw[h1.1];exact Rd.fz
   |nd=>exact⟨λB hB=>by have I:=(e2 0).symm.trans hB;cases I;rfl,_,by rw[f];exact r 0,rfl,c1⟩
  .cases rt with
   |nil=>rw[h2.1];exact Rd.fz
   |nd =>
    cases lt with
    |nil=>exact⟨λB hB=>by rw[e2]at hB;cases hB;rfl,_,by rw[f];exact r 0,rfl,c2⟩
    |nd=>exact⟨λB hB=>by rw[e2]at hB;cases hB;rfl,_,by rw[f];exact r 1,rfl,c2⟩
  .intro i X Y t G;cases lt<;>cases rt<;>simp only[vX,Jy,mL,iD,sk,List.getElem?_nil]at t G
   .cases t
   .grind
   .grind
   grind
def ze(b:aF σ s){E:aj}{t:Tr}{i:Nat}{v:ah}(r:gB σ s v (zd t i))(hi:t≠.nil->σ[i]?=aa (.cm (nG E t))):
  ∃c bs,nG E t v c/\(∀y o,c y=aa o->s.w.heap[y]?=aa o)/\(∀y,y∈bs↔(c y).isSome=ab)/\(∀y∈bs,∀o,s.M y o=af)/\(match t with|.nil=>bs=[]|.nd ..=>s.β[i]?=aa ⟨v,bs⟩):=by
 cases t with
 |nil =>
  have r:Rd s.M v .fz:=r;cases r;exact⟨λ_=>af,[],⟨rfl,λ_=>rfl⟩,by simp,by simp,by simp,rfl⟩
 |nd =>
  obtain⟨_,L,a,rfl,_⟩:=r;obtain⟨c,f,d,q2,e⟩:=b.box i _ L (hi nofun) a;exact⟨c,L.bs,f,d,q2,e,a⟩
def SK:Tr->Nat->ah->List Loc->List Loc
 |.nil,_,_,a=>a
 |.nd ..,i,v,a=>a.set i ⟨v,[]⟩
def aF.jG(hh:aF σ s){E:aj}{l i j:Nat}{lt rt:Tr}{a b:Int}(hB:σ[l]?=aa (.cells E [.c (.int .i64 a),.c (.int .i64 b),zd lt i,zd rt j]))(hi:lt≠.nil->σ[i]?=aa (.cm (nG E lt)))(hj:rt≠.nil->σ[j]?=aa (.cm (nG E rt)))(G:lt≠.nil->rt≠.nil->i≠j):
  ∃s',s'.w=s.w/\(∃L,s.β[l]?=aa L/\∃L',s'.β[l]?=aa L'/\L'.v=L.v)/\aF (BU rt j (BU lt i (σ.set l (.cm (nG E (.nd lt a b rt)))))) s'/\Step σ s (BU rt j (BU lt i (σ.set l (.cm (nG E (.nd lt a b rt)))))) s':=by
 have Q:l<σ.length:=(b6.1 hB).1;have O:=hh.len;have z:l<s.β.length:=by omega
 have u:=br z;generalize s.β[l]=L at u;obtain⟨x,vs,rfl,h1,h2,h3⟩:=hh.box l _ L hB u
 match vs,h2 with
 |[V,U,q,p],⟨I,H,W,r4,_⟩ =>
 obtain⟨cl,m,a1,a2,a3,a4,a5⟩:=ze hh W hi;obtain⟨r,g,d1,d2,d3,d4,d5⟩:=ze hh r4 hj;have I:Rd s.M V (.int .i64 a):=I;have H:Rd s.M U (.int .i64 b):=H;cases I with|int ra =>
 cases H with|int rb =>
 have xl:x∉m:=λh=>by
  cases lt with
  |nil=>grind
  |nd=>have:=hh.eO l i _ _ u a5 x (by simp) h;grind
 have xr:x∉g:=λh=>by
  cases rt with
  |nil=>grind
  |nd=>have:=hh.eO l j _ _ u d5 x (by simp) h;grind
 have lr:∀y∈m,y∉g:=λy h Z=>by
  cases lt with
  |nil=>grind
  |nd =>
   cases rt with
   |nil=>grind
   |nd=>exact G nofun nofun (hh.eO i j _ _ a5 d5 y h Z)
 have A:cl x=af:=by cases h:cl x with|none=>rfl|some o=>grind
 have C:r x=af:=by cases h:r x with|none=>rfl|some o=>grind
 have F:∀y o,cl y=aa o->r y=af:=λy o h=>by
  cases h2:r y with
  |none=>rfl
  |some o2=>grind
 have ok:∀(σ':List aR) (s':St),s'.w=s.w->s'.M=s.M->eE σ' s' (.cm (nG E (.nd lt a b rt))) ⟨.pointer (aa ⟨x,0,af⟩),x::(m++g)⟩:=λσ' s' R S=>by
  refine⟨λy=>if y=x then aa (.cells #[.int .i64 a,.int .i64 b,q,p] E (0,0))else(cl y).or (r y),⟨x,q,p,cl,r,rfl,⟨ra,rb⟩,a1,d1,bl rfl,A,C,λy o h=>⟨F y o h,?_⟩,λy o h=>?_,λy o h=>?_⟩,λy o h=>?_,λy=>?_,λy f o=>?_⟩
  .grind
  .have:y≠x:=by grind
   dsimp only;rw[aY this,h];cases h2:cl y with
   |none=>rfl
   |some o2=>grind
  .by_cases e:y=x
   .grind
   .dsimp only at h;rw[aY e]at h;cases h2:cl y with
    |none=>grind
    |some o2=>grind
  .rw[R];by_cases e:y=x
   .grind
   .dsimp only at h;rw[aY e]at h;cases h2:cl y with
    |none=>grind
    |some o2=>grind
  .grind
  .rw[S];grind
 refine⟨{s with β:=SK rt j p (SK lt i q (s.β.set l ⟨.pointer (aa ⟨x,0,af⟩),x::(m++g)⟩))},rfl,?_⟩
 classical
 have il:lt≠.nil->i<σ.length/\i≠l:=λh=>⟨(b6.1 (hi h)).1,λe=>by grind⟩
 have jl:rt≠.nil->j<σ.length/\j≠l:=λh=>⟨(b6.1 (hj h)).1,λe=>by grind⟩
 have n:s.β[l]?=aa ⟨.pointer (aa ⟨x,0,af⟩),[x]⟩:=u;let T:Nat->Prop:=λk=>k=l∨(lt≠.nil/\k=i)∨(rt≠.nil/\k=j);have D:∀k,(BU rt j (BU lt i (σ.set l (.cm (nG E (.nd lt a b rt))))))[k]?=if k=l then aa (.cm (nG E (.nd lt a b rt)))else if(lt≠.nil/\k=i)∨(rt≠.nil/\k=j)then aa .dead else σ[k]?:=λk=>by cases lt<;>cases rt<;>simp only[BU,List.getElem?_set,List.length_set]<;>grind
 have d:∀k,(SK rt j p (SK lt i q (s.β.set l ⟨.pointer (aa ⟨x,0,af⟩),x::(m++g)⟩)))[k]?=if k=l then aa ⟨.pointer (aa ⟨x,0,af⟩),x::(m++g)⟩else if rt≠.nil/\k=j then aa ⟨p,[]⟩else if lt≠.nil/\k=i then aa ⟨q,[]⟩else s.β[k]?:=λk=>by cases lt<;>cases rt<;>simp only[SK,List.getElem?_set,List.length_set]<;>grind
 have nq:∀(t:Tr) (i:Nat) (l:List aR),(BU t i l).length=l.length:=λt i l=>by cases t<;>simp[BU]
 have xx:∀(t:Tr) (i:Nat) (v:ah) (l:List Loc),(SK t i v l).length=l.length:=λt i v l=>by cases t<;>simp[SK]
 have eL:∀y∈m,lt≠.nil/\s.β[i]?=aa ⟨q,m⟩:=λy f=>by grind
 have eR:∀y∈g,rt≠.nil/\s.β[j]?=aa ⟨p,g⟩:=λy f=>by grind
 refine⟨⟨_,n,_,(d l).trans (bl rfl),rfl⟩,aF.G2 (T:=T) hh rfl rfl rfl (by grind) (by grind) (λk hk hT=>?_) (λk K hk hK y f=>?_) (λk k' K K' hk U3 hK Zk y f Y=>?_) (λk B K hk kv hK=>?_) (λ_ k B K hk kv hK=>?_)⟩
 .grind
 .rw[d]at hK;split at hK
  .cases hK;rcases eB.1 f with rfl|f
   .grind
   .rcases fx.1 f with f|f
    .grind
    grind
  .have:k<s.β.length∨s.β.length<=k:=cM _ _;grind
 .rw[d]at hK Zk;grind
 .rw[D,d];rcases hk with rfl|⟨h,rfl⟩|⟨h,rfl⟩
  .rw[n]at hK;cases hK;rw[hB]at kv;cases kv;exact⟨_,_,bl rfl,bl rfl,rfl⟩
  .have J:s.β[k]?=aa ⟨q,m⟩:=by grind
   rw[hi h]at kv;rw[J]at hK;cases kv;cases hK;grind[gI]
  .have J:s.β[k]?=aa ⟨p,g⟩:=by grind
   rw[hj h]at kv;rw[J]at hK;cases kv;cases hK;grind[gI]
 .rw[D]at kv;rw[d]at hK;split at kv
  .grind
  .split at kv
   .cases kv;trivial
   grind
def tC:Tr->C
 |.nil=>.fz
 |.nd l a b r=>.rp [.int .i64 a,.int .i64 b,tC l,tC r]
def nG.rd{E:aj}{M:Mem}:∀{t:Tr}{v:ah}{ch:Nat->Option Obj},nG E t v ch->(∀y vs E' z,ch y=aa (.cells vs E' z)->∀o u,vs[o]?=aa u->M y o=aa u)->Rd M v (tC t)
 |.nil,_,_,h,_=>by rw[h.1];exact .fz
 |.nd l a b r,_,ch,⟨x,k,p,cl,B,e,⟨g,f⟩,h1,h2,i,_,_,m,n,_⟩,d=>by
  subst e;have A:=h1.rd (M:=M) λy vs E' z h=>d y vs E' z (m y _ h).2;have q:=h2.rd (M:=M) λy vs E' z h=>d y vs E' z (n y _ h);have w:=d x _ _ _ i;refine Rd.rp x 0 (λj=>[Value.int .i64 a,.int .i64 b,k,p].getD j ai) (λj c hj=>?_) (λj c hj=>?_)
  .match j,hj with
   |0,_|1,_|2,_|3,_=>grind
  .match j,hj with
   |0,hj=>cases hj;exact Rd.int g
   |1,hj=>cases hj;exact Rd.int f
   |2,hj=>grind
   |3,hj=>grind
def aF.AS(hh:aF σ s){E:aj}{l:Nat}{t:Tr}(hB:σ[l]?=aa (.cm (nG E t))):
  ∃s',s'.w=s.w/\s'.β=s.β/\(∀L,s.β[l]?=aa L->Rd s'.M L.v (tC t))/\aF (σ.set l .dead) s'/\Step σ s (σ.set l .dead) s':=by
 have j:l<σ.length:=(b6.1 hB).1;have m:=hh.len;have i:=br (show l<s.β.length by omega);generalize s.β[l]=L at i;obtain⟨ch,A,h1,h2,C⟩:=hh.box l _ L hB i;let M':Mem:=λy o=>match ch y with|some (.cells vs _ _)=>vs[o]?|_=>s.M y o
 have g:∀y,y∉L.bs->∀o,M' y o=s.M y o:=λy d o=>by grind
 have n:∀y o v,s.M y o=aa v->M' y o=aa v:=λy o v f=>by grind
 have st:Step σ s (σ.set l .dead) {s with M:=M'}:=by
  refine⟨bc _,λ_ _ _=>rfl,n,λy _ r o=>g y (r L (bP i)) o,λK b y d=>.inr ⟨K,b,d⟩,λk B K a b=>?_,rfl,rfl,rfl,rfl⟩;by_cases e:l=k
  .subst e;rw[hB]at a;cases a;exact⟨.dead,K,by grind,b,rfl⟩
  .exact⟨B,K,by grind,b,.refl _ _⟩
 refine⟨{s with M:=M'},rfl,rfl,λK b=>?_,⟨λy o v f=>?_,by grind,λk B K a b=>?_,hh.eO,hh.lt,hh.own⟩,st⟩
 .rw[i]at b;cases b;exact A.rd λy vs E' z d o u D=>by grind
 .by_cases d:y∈L.bs
  .have f:M' y o=aa v:=f;cases p:ch y with
   |none=>grind
   |some q =>
    have x:=h1 y q p;simp only[M',p]at f;split at f
    .rename_i vs E' z e;cases e;show s.w.cell? _=_;simp[aV,x,f]
    grind
  .exact hh.mem y o v ((g y d o).symm.trans f)
 .by_cases e:l=k
  .subst e;rw[gn j]at a;cases a;trivial
  .rw[kC e]at a;exact(hh.box k B K a b).carry st.ext m λy d=>⟨rfl,λo=>g y (λh=>e (hh.eO l k L K i b y h d)) o⟩
end
section
variable {P:ar}{X:Cx P}{N:Nat}{φ:Fr}{σ:List aR}{Qf:Post}{K:List It}{c:Code}
def cu.SL{σ':List aR}{s s':St}{a:Act}{t:Nat}{d:D}(f:cu N σ s φ a)(hl:s.β.length=σ.length)(st:Step σ s σ' s')(h:dt σ' s' (a.tmps.getD t ai) d):cu N σ' s' ((t,d)::φ) a :=
 ⟨f.size,f.defers.imp λ_ h1=>h1.mono st.ext,λu=>by
  simp only[look];cases b:aB t u with
  |false=>exact(f.slot u).mono st.ext hl
  |true=>grind[Nat.eq_of_beq_eq_true]⟩
def AK.KX(t l:Nat){E:aj}{lt rt:Tr}{a b:Int}(o:look φ t=.e (.one (.ref l)))(hl:dC l σ=aa (.cm (nG E (.nd lt a b rt))))(kk:AK X N Qf (.code c::K) .normal ((t,.e (.one (.ptr l 0)))::φ) (σ.set l (.cells E [.c (.int .i64 a),.c (.int .i64 b),zd lt σ.length,zd rt (σ.length+(vX E lt).length)])++(vX E lt++vX E rt))):AK X N Qf (.code c::K) .normal φ σ:=by refine AK.ghost (λs q g hh=>?_) kk;have f:=g.slot t;rw[o]at f;obtain⟨_,L,j,m,_⟩:=f;obtain⟨s',h1,⟨x,p,h2,h,k⟩,n,i⟩:=hh.KX (b9 hl);rw[j]at h2;cases h2;have d:l<σ.length:=(b6.1 (b9 hl)).1;refine⟨s',h1,g.SL hh.len i ⟨λB hB=>?_,_,x,k,h,m.trans h⟩,n,i⟩;rw[jy (by grind),gn d]at hB;cases hB;rfl
def AK.jG(t l i j:Nat){E:aj}{lt rt:Tr}{a b:Int}(z:look φ t=.e (.one (.ptr l 0)))(hl:dC l σ=aa (.cells E [.c (.int .i64 a),.c (.int .i64 b),zd lt i,zd rt j]))(hi:lt≠.nil->dC i σ=aa (.cm (nG E lt)))(hj:rt≠.nil->dC j σ=aa (.cm (nG E rt)))(g:lt≠.nil->rt≠.nil->i≠j)(kk:AK X N Qf (.code c::K) .normal ((t,.e (.one (.ref l)))::φ) (BU rt j (BU lt i (σ.set l (.cm (nG E (.nd lt a b rt))))))):AK X N Qf (.code c::K) .normal φ σ:=by
 refine AK.ghost (λs q n hh=>?_) kk;have m:=n.slot t;rw[z]at m;obtain⟨_,L,x,p,D,r⟩:=m;obtain⟨s',h1,⟨A,h2,L',w,C⟩,v,o⟩:=hh.jG (b9 hl) (λh=>b9 (hi h)) (λh=>b9 (hj h)) g;rw[p]at h2;cases h2;have d:l<σ.length:=(b6.1 (b9 hl)).1;have e:(BU rt j (BU lt i (σ.set l (.cm (nG E (.nd lt a b rt))))))[l]?=aa (.cm (nG E (.nd lt a b rt)))∨(BU rt j (BU lt i (σ.set l (.cm (nG E (.nd lt a b rt))))))[l]?=aa .dead:=by
  have y:(σ.set l (.cm (nG E (.nd lt a b rt))))[l]?=aa (.cm (nG E (.nd lt a b rt))):=gn d;have F:∀(u:Tr) (k:Nat) (f:List aR),f[l]?=aa (.cm (nG E (.nd lt a b rt)))∨f[l]?=aa .dead->(BU u k f)[l]?=aa (.cm (nG E (.nd lt a b rt)))∨(BU u k f)[l]?=aa .dead:=λu k f h=>by
   cases u with
   |nil=>exact h
   |nd=>simp only[BU,List.getElem?_set];grind
  grind
 refine⟨s',h1,n.SL hh.len o ⟨λB hB=>?_,L',w,?_,?_⟩,v,o⟩
 .rcases e with e|e<;>(rw[e]at hB;cases hB;rfl)
 .grind
 .rw[r];rfl
def AK.AS(t l:Nat){E:aj}{u:Tr}(j:look φ t=.e (.one (.ref l)))(hl:dC l σ=aa (.cm (nG E u)))(kk:AK X N Qf (.code c::K) .normal ((t,.e (.one (.c (tC u))))::φ) (dW.qU l .dead σ)):AK X N Qf (.code c::K) .normal φ σ:=by rw[jq]at kk;refine AK.ghost (λs q d hh=>?_) kk;have a:=d.slot t;rw[j]at a;obtain⟨_,L,f,h,_⟩:=a;obtain⟨s',h1,_,i,g,b⟩:=hh.AS (b9 hl);exact⟨s',h1,d.SL hh.len b (show Rd _ _ _ from h▸i L f),g,b⟩
end
section
variable {P:ar}{X:Cx P}
def Yields.sO{ι:Type}{e:Nat}{ds:List D}{σ:List aR}{res:Bool}{σ1 rest:ι->List aR}(h:Yields X e ds σ res λi=>σ1 i++rest i)(hl:∀i,(σ1 i).length=σ.length)(g:∀i (l:Nat)(B:aR),(σ1 i)[l]?=aa B->Ew (σ1 i).length σ l B):Yields X e ds σ res σ1:=by
 intro s vs l j hh Eb;obtain⟨fn,tmps,a,b,h1,h2,m⟩:=h s vs l j hh Eb;refine⟨fn,tmps,a,b,h1,h2,λS c cs hS=>m S c cs λi s' jh st=>?_⟩;have k:eF s' (s'.cut (σ1 i).length):=⟨rfl,λ_ _ _ h=>h,λ_ _ _=>rfl,jh.mem,λb d=>d.imp id λ⟨L,f,d⟩=>⟨L,fM f,d⟩⟩
 exact .ghost k (hS i _ (hh.QB (hl i).symm (g i) jh) (st.drop (Nat.le_of_eq (hl i).symm)))
end
section
variable {P:ar}{X:Cx P}{N:Nat}{φ:Fr}{σ:List aR}{Qf:Post}{K:List It}{all rest:List au}
def AK.s8(t l:Nat){E:aj}{cs:List A}{cc:List C}(b:look φ t=.e (.one (.ptr l 0)))(hl:dC l σ=aa (.cells E cs))(a:gM cs=aa cc)(kk:AK X N Qf (.ops all rest::K) .normal ((t,.e (.one (.c (.rp cc))))::φ) (dW.qU l .dead σ)):AK X N Qf (.ops all rest::K) .normal φ σ:=by grind[jq,AK.KB,cu.freeze]
def oA.cons{φ φ':Fr}{t:Nat}{d:D}(h:look φ t=d)(r:oA φ φ'):oA φ ((t,d)::φ'):=by
 intro σ s v u a;simp only[look];cases b:aB t u with
 |false=>exact r _ _ _ _ a
 |true =>
  grind[Nat.eq_of_beq_eq_true]
end
section
variable {P:ar}{T:List (Nat×TI)}{o:au}{d:aq->D}{σ:List aR}
def bM.OO(hT:cW P T){t:aj}{x w y z:aq}(h:o.op=.slice t x (aa w) (aa y) (aa z)){K B:TI}{E:aj}(L:bG T t=aa K)(S:K.desc=.slice E)(hE:bG T E=aa B){tt:Bool}{n:Nat}{es:Nat->List C}{A r p:IntKind}{i j m:Int}(X:∀s v,dt σ s v (d x)->Rd s.M v (.sl tt B.size n es))(Y:d w=.e (.one (.c (.int A i))))(U:d y=.e (.one (.c (.int r j))))(hz:d z=.e (.one (.c (.int p m))))(R:0<=i)(V:i<=j)(h1:j<=m)(h2:m<=n):
  bM P o d σ (.e (.one (.c (.sl ae B.size (j.toNat-i.toNat) (mf i.toNat es))))) σ:=by
 refine .quiet λst ρ hh hr=>?_;have u:=X st _ (hr x);have get:∀(q:aq) (k:IntKind) (v:Int),d q=.e (.one (.c (.int k v)))->ρ q=.int k v:=λq k v I=>by have l:=hr q;rw[I]at l;replace l:=e9 l;generalize ρ q=vq at l;cases l;rfl
 have G:=get w A i Y;have H:=get y r j U;have F:=get z p m hz;obtain⟨a,cap,vs,J,Q,Z,ht,hF,hm⟩:=u.flat;rw[J]at u;have g:=(hT t K L).run_underlying (w:=st.w);rw[S]at g;have em:((m.toNat:Nat):Int)=m:=sd (by omega);have ej:((j.toNat:Nat):Int)=j:=sd (by omega);have N:(bd ab n cap (aa (.int A i)) (aa (.int r j)) (aa (.int p m))).run P st.w=.ok (i.toNat,j.toNat,m.toNat) st.w:=by simp[bd,run_sliceBound (P:=P) st.w p m cap _ (by omega) (by omega),run_sliceBound (P:=P) st.w r j m.toNat _ (by omega) (by omega),run_sliceBound (P:=P) st.w A i j.toNat _ R (by omega)]
 have W:(bd ab n cap (aa (.int A i)) (aa (.int r j)) (aa (.int p m))).events P st.w #[]=#[]:=by simp[bd,run_sliceBound (P:=P) st.w p m cap _ (by omega) (by omega),run_sliceBound (P:=P) st.w r j m.toNat _ (by omega) (by omega),dO (P:=P) st.w p m cap _ (by omega) (by omega),dO (P:=P) st.w r j m.toNat _ (by omega) (by omega),dO (P:=P) st.w A i j.toNat _ R (by omega)]
 refine⟨.slice (if m.toNat=i.toNat then a else a.map (·.add (i.toNat*B.size))) (j.toNat-i.toNat) (m.toNat-i.toNat),?_,?_,by simp[aw,h,J,G,H,F,Instr.sliceAt,g,Instr.slice,N,W]⟩
 .simp[aw,h,J,G,H,F,Instr.sliceAt,g,Instr.slice,N,(hT E B hE).run_sizeOf]
 .cases u with
  |sl b off f _ _ _ hk ha hm' NB =>
   refine Rd.sl b (off+i.toNat*B.size) (λq j=>f (i.toNat+q) j) (by omega) (by omega) (by simp) (λq I=>hk _ (by omega)) (λO=>?_) (λq I j c hj=>?_) (λq I j c hj=>NB _ (by omega) j c hj)
   .rw[aY (by omega),ha (by omega)];simp[du]
   .have:=hm' (i.toNat+q) (by omega) j c hj;grind
end
section
variable {P:ar}{X:Cx P}{N:Nat}{Q:Post}{φ:Fr}{σ:List aR}{e:Exit}
def NG(N:Nat)(Q:Post):Post:=λe φ σ=>∃φ' σ',(∀s a,cu N σ s φ a->aF σ s->∃s':St,s'.w=s.w/\cu N σ' s' φ' a/\aF σ' s'/\Step σ s σ' s')/\Q e φ' σ'
theorem NG.of(h:Q e φ σ):NG N Q e φ σ:=⟨φ,σ,λs a b hh=>⟨s,rfl,b,hh,.refl _ _⟩,h⟩
def NG.step{φ':Fr}{σ':List aR}(h:∀s a,cu N σ s φ a->aF σ s->∃s':St,s'.w=s.w/\cu N σ' s' φ' a/\aF σ' s'/\Step σ s σ' s')(k:NG N Q e φ' σ'):NG N Q e φ σ:=by obtain⟨d,σ2,h2,q⟩:=k;refine⟨d,σ2,λs a j hh=>?_,q⟩;obtain⟨f,e1,m,h1,c⟩:=h s a j hh;obtain⟨i,e3,g,l,b⟩:=h2 f a m h1;exact⟨i,e3.trans e1,g,l,c.trans b⟩
theorem NG.freeze(t l:Nat){E:aj}{cs:List A}{cc:List C}(f:look φ t=.e (.one (.ptr l 0)))(hl:dC l σ=aa (.cells E cs))(b:gM cs=aa cc)(k:NG N Q e ((t,.e (.one (.c (.rp cc))))::φ) (dW.qU l .dead σ)):NG N Q e φ σ:=by rw[jq]at k;exact .step (λs a d hh=>cu.freeze t l f hl b d hh) k
def jO.gh{c:Code}(h:jO X N c (NG N Q) φ σ):jO X N c Q φ σ:=by
 intro s a r hh b k cs S m l u;refine h s a r hh b k cs S m l λe t σ2 s2 a2 q n h2 mI=>?_;obtain⟨φ',σ',o,q⟩:=q;obtain⟨s',p,i,d,st⟩:=o s2 a2 n h2;have f:=st.nD h2;have g:=u e φ' σ' s' a2 q i d (mI.trans f);have j:eF s2 s':=.of h2 d p f;cases e<;>first
  |exact g.elim
  |exact .ghost j g
  |exactλpre=>.ghost j (g pre)
  |exactλpre hp=>.ghost j (g pre hp)
def jO.norm{c:Code}(φ':Fr)(σ':List aR){ps qs:List Prop}(h1:nU φ φ'=aa ps)(j:az ps)(h2:pg σ σ'=aa qs)(l:az qs)(k:jO X N c Q φ' σ'):jO X N c Q φ σ:=by intro s a m hh b kk cs S n f h;have d:=gD h2 l;have st:=(d s hh).2.1;exact k s a ((m.le (cD h1 j)).bs d hh) (d s hh).1 b kk cs S n f λe g σ2 s2 a2 q i h2 mI=>h e g σ2 s2 a2 q i h2 ((st.nD hh).trans mI)
def jO.EH{ι:Type}{f:aq}{ps:Array Tmp}{assign body:Code}{F:aJ}{capD:List D}{res:ι->D}{σ':ι->List aR}(d:∀s a,cu N σ s φ a->aF σ s->∃b:List ah,a.eval f=.func (.func F) #[] b.toArray/\cp σ s b capD)(c:ef X F (.e (.one (.ref σ.length))::capD) (σ++[.loop N φ {state:=.ready,pending:=af,fn:=0,tmps:=#[],params:=ps,assign:=assign,body:=body,defers:=0}]) res σ')(hk:∀i,∃r',(σ' i)[σ.length]?=aa (.loop N φ r')/\r'.state≠.busy/\∃e,GM r'.pending=aa e/\Q e φ ((σ' i).set σ.length .dead++[.qX])):jO X N (.rangeFunc f ps assign body) Q φ σ :=
 jO.rangeFunc (r':=λi=>(hk i).choose) d c (λi=>⟨(hk i).choose_spec.1,(hk i).choose_spec.2.1⟩) λi=>(hk i).choose_spec.2.2
def ef.OC{ι:Type}{f:aJ}{fn:Func}{c:Code}{args:List D}{σ':ι->List aR}{res:ι->D}(l:P.funcs[f]?=aa fn)(g:(fn.name== "runtime.NumGoroutine")=ae)(m:fn.body=aa c)(d:bA args.length fn.ntmps=ab)(h:jO X fn.ntmps c (NG fn.ntmps λe φ σ1=>∃j,rD P fn σ.length (res j) (σ' j) e φ σ1) (ji 0 args) σ):ef X f args σ res σ' :=
 ef.EI l g m (db d) λs a f i b k cs S hk OD hQ=>jO.gh h s a f i b k cs S hk OD hQ
def rD.cells{T:List (Nat×TI)}(hT:cW P T){fn:Func}{a:Nat}{res:D}{σ':List aR}(ks:List Nat){ps:List Prop}(h:HR T fn.results.toList ks φ res=aa ps)(f:az ps)(d:j3 ks σ=aa σ')(b:kJ σ'=ab)(c:dH ks=ab)(hk:∀j,j<a->ks[j]?=aa j):rD P fn a res σ' .ret φ σ:=by refine⟨.inl rfl,ks,?_⟩;unfold HR at h;grind[Al.U5]
end
def XM:A->Option ah
 |.c (.val v)=>aa v
 |_=>af
def Vi:List A->Option (List ah)
 |[]=>aa []
 |a::r=>match XM a with
  |some v=>match Vi r with
   |some q=>aa (v::q)
   |none=>af
  |none=>af
def XN:D->Option ah
 |.e (.one a)=>XM a
 |.e (.agg cs)=>match Vi cs with
  |some l=>aa (.agg l.toArray)
  |none=>af
 |_=>af
def HW:List D->Option (List ah)
 |[]=>aa []
 |a::r=>match XN a with
  |some v=>match HW r with
   |some q=>aa (v::q)
   |none=>af
  |none=>af
section
variable {P:ar}{X:Cx P}{N:Nat}{Qf:Post}{K:List It}{φ:Fr}{σ:List aR}{all rest:List au}{o:au}{s:St}
def Kd{v u:ah}:∀{a:A},gB σ s v a->XM a=aa u->v=u
 |.c (.val x),h,e=>by cases e;exact Rd.en h
theorem Ke:∀{cs:List A}{vs us:List ah},ei σ s vs cs->Vi cs=aa us->vs=us
 |[],[],us,_,e=>by cases e;rfl
 |[],_::_,_,h,_=>h.elim
 |_::_,[],_,h,_=>h.elim
 |a::r,v::vs,us,h,e=>by
  simp only[Vi]at e;cases b:XM a with
  |none=>grind
  |some x =>
   cases c:Vi r with
   |none=>grind
   |some q =>
    simp[b,c]at e;subst e;rw[Kd h.1 b,Ke h.2 c]
def Sf{v u:ah}:∀{d:D},dt σ s v d->XN d=aa u->v=u
 |.e (.one a),h,e=>Kd h e
 |.e (.agg cs),⟨vs,b,h⟩,e=>by simp only[XN]at e;grind[Ke]
def Ay:∀{ds:List D}{vs us:List ah},cp σ s vs ds->HW ds=aa us->vs=us
 |[],[],us,_,e=>by cases e;rfl
 |[],_::_,_,h,_=>h.elim
 |_::_,[],_,h,_=>h.elim
 |a::r,v::vs,us,h,e=>by
  simp only[HW]at e;cases b:XN a with
  |none=>grind
  |some x =>
   cases c:HW r with
   |none=>grind
   |some q =>
    simp[b,c]at e;subst e;rw[Sf h.1 b,Ay h.2 c]
def gw(P:ar)(N:Nat)(o:au)(φ:Fr)(σ:List aR)(f:aJ)(args:List ah):Prop:=∀s a,cu N σ s φ a->∀w,(aw a.eval o).run P w=(callFunc f args.toArray).run P w/\(aw a.eval o).events P w #[]=(callFunc f args.toArray).events P w #[]
def gw.direct{f:aJ}{xs:Array aq}{b:Array aj}{args:List ah}(h:o.op=.call {callee:=.value (.func f),args:=xs,argTypes:=b})(c:HW (xs.toList.map (bU φ))=aa args):gw P N o φ σ f args:=by
 intro s a g w;have h1:=Ay (lX (dg g) xs.toList) c;have h2:xs.map a.eval=args.toArray:=by grind
 have d:a.eval (.func f)=.func (.func f) #[] #[]:=rfl;have e:aw a.eval o=callFunc f args.toArray:=by simp[aw,h,resolve,d,Deferred.ofValue,invoke,h2]
 grind
def gw.invoke{f:aJ}{x:aq}{j:Array aq}{h:Array aj}{name:String}{i:aj}{u r:ah}{args:List ah}(p:o.op=.call {callee:=.invoke x name,args:=j,argTypes:=h})(n:bU φ x=.e (.one (.c (.val (.iface i u)))))(m:HW (j.toList.map (bU φ))=aa args)(k:∀w,(Go.method (P.types.size+Made.depth) i u name).run P w=.ok (f,r) w/\∀es,(Go.method (P.types.size+Made.depth) i u name).events P w es=es):gw P N o φ σ f (r::args):=by
 intro s a l w;have g:=dg l x;rw[n]at g;have g:=Rd.en (e9 g);have h1:=Ay (lX (dg l) j.toList) m;have b:∀w,(program:Sem ar).run P w=.ok P w:=λw=>by simp[program,Sem.run]
 have d:∀w es,(program:Sem ar).events P w es=es:=λw es=>by simp[program,Sem.events,Sem.runT]
 rw[pH p g,h1];constructor
 .simp[callMethod,b,(k w).1]
 .simp[callMethod,b,d,(k w).1,(k w).2]
structure lg(P:ar)(f:aJ)(e:Array ah->Sem ah):Prop where
 fn:∃fn,P.funcs[f]?=aa fn/\(fn.name== "runtime.NumGoroutine")=ae/\fn.body.isNone=ab/\Extern.findNext fn=af/\Extern.find fn=aa e
def lg.run{f:aJ}{e:Array ah->Sem ah}(h:lg P f e){args:Array ah}{w w':aA}{v:ah}(c:(e args).run P w=.ok v w'):(callFunc f args).run P w=.ok (.value v) w'/\∀es,(callFunc f args).events P w es=(e args).events P w (es.push ⟨.mark (.extern f),ae,ab⟩):=by
 obtain⟨fn,d,a,i,b,g⟩:=h.fn;have h1:fn.name≠ "runtime.NumGoroutine":=by grind
 have h2:fn.body=af:=by simpa using i
 constructor
 .rw[run_callFunc_extern d a i b g,c];rfl
 .intro es;simp[callFunc,d,h1,h2,b,g,c]
def ee.ext{ι:Type}{x:ι->D}{σ':ι->List aR}{f:aJ}{e:Array ah->Sem ah}{args:List ah}(d:gw P N o φ σ f args)(n:lg P f e)(h:∀s,aF σ s->∃i s' v,(e args.toArray).run P s.w=.ok v s'.w/\dt (σ' i) s' v (x i)/\aF (σ' i) s'/\Step σ s (σ' i) s'/\∀es,∀c∈(e args.toArray).events P s.w es,c∈es∨ow s c):ee P N o φ σ x σ':=by
 intro s a l hh;obtain⟨h1,h2⟩:=d s a l s.w;obtain⟨i,s',v,k,q2,q3,q4,j⟩:=h s hh;obtain⟨m,g⟩:=n.run k;refine⟨i,.value v,s',v,h1.trans m,.inl rfl,q2,q3,q4,λc b=>?_⟩;rw[h2,g]at b;rcases j _ c b with h|h
 .simp at h;subst h;exact .inr ⟨f,rfl⟩
 grind
def ee.ED{f:aJ}{e:Array ah->Sem ah}{args:List ah}{v:ah}{x:D}(a:gw P N o φ σ f args)(d:lg P f e)(c:∀w,(e args.toArray).run P w=.ok v w)(g:∀w es,(e args.toArray).events P w es=es)(b:∀s,dt σ s v x):ee P N o φ σ (λ_:Unit=>x) λ_=>σ :=
 .ext a d λs hh=>⟨(),s,v,c s.w,b s,hh,.refl _ _,λes ev h=>.inl (by grind)⟩
def ee.Kf{f:aJ}{e:Array ah->Sem ah}{args:List ah}{v:Nat->ah}{x:Nat->D}{E:aj}{u:ah}(i:gw P N o φ σ f args)(p:lg P f e)(n:∀w,(e args.toArray).run P w=.ok (v w.heap.size) (w.alloc (.cells #[u] E)))(q:∀w es,(e args.toArray).events P w es=es)(k:∀g σ s,dt σ s (v g) (x g)):
  ee P N o φ σ x λg=>σ++[.cm (dX g E u)] :=
 .ext i p λs hh=>by
  have st:Step σ s σ {s with w:=s.w.alloc (.cells #[u] E)}:=⟨by show _<=(s.w.heap.push _).size;simp,λb a _=>cR _ _ a,λ_ _ _ h=>h,λ_ _ _ _=>rfl,λL d b a=>.inr ⟨L,d,a⟩,λl B L h1 h2=>⟨B,L,h1,h2,.refl _ _⟩,rfl,rfl,rfl,rfl⟩
  have r:∀o,s.M s.w.heap.size o=af:=λo=>by
   cases c:s.M s.w.heap.size o with
   |none=>rfl
   |some v=>exact absurd (hh.block c) (Nat.lt_irrefl _)
  have h1:=(hh.grow (w':=s.w.alloc (.cells #[u] E)) (M':=s.M) (by simp) (λb a=>cR s.w _ a) (λb a o=>rfl) (λb a o v c=>by have:=hh.block c;omega) rfl rfl rfl).1;obtain⟨m,j⟩:=h1.ik (B:=.cm (dX s.w.heap.size E u)) (L:=⟨.pointer (aa ⟨s.w.heap.size,0,af⟩),[s.w.heap.size]⟩) st rfl hh
   ⟨λb=>if b=s.w.heap.size then aa (.cells #[u] E (0,0))else af,⟨rfl,by simp,λb a=>by grind⟩,λb o a=>by
    by_cases e:b=s.w.heap.size
    .subst e;simp only[cq]at a;grind[dT]
    grind,λb=>by by_cases e:b=s.w.heap.size<;>simp[e],λb a o=>by grind⟩
   (λb a=>by simp at a;subst a;exact⟨bc _,by show _<(s.w.heap.push _).size;simp⟩)
  exact⟨s.w.heap.size,_,_,n s.w,k _ _ _,m,j,λes ev h=>.inl (by grind)⟩
def dX.own{l g:Nat}{E:aj}{v:ah}(hl:dC l σ=aa (.cm (dX g E v)))(hh:aF σ s):s.w.heap[g]?=aa (.cells #[v] E (0,0))/\s.w.cell? ⟨g,0,af⟩=aa v/\(∀j,ow s ⟨.cell ⟨g,j,af⟩,ae,ae⟩)/\∀j,ow s ⟨.cell ⟨g,j,af⟩,ab,ae⟩:=by
 have hB:=b9 hl;have c:l<s.β.length:=by rw[hh.len];grind
 have a:=br c;generalize s.β[l]=L at a;obtain⟨ch,⟨h1,h2,i⟩,e,f,h⟩:=hh.box l _ L hB a;have d:=e g _ h2;have b:g∈L.bs:=(f g).2 (by grind);exact⟨d,by simp[aV,d],λj=>j0 (bP a) b,λj=>jX (bP a) b (h g b _)⟩
def dX.jM{l g:Nat}{E:aj}{v u:ah}(hl:dC l σ=aa (.cm (dX g E v)))(hh:aF σ s):aF (σ.set l (.cm (dX g E u))) {s with w:=s.w.setRow g #[u]}/\Step σ s (σ.set l (.cm (dX g E u))) {s with w:=s.w.setRow g #[u]}:=by
 have hl:=b9 hl;have e:l<s.β.length:=by rw[hh.len];grind
 have h:=br e;generalize s.β[l]=L at h;obtain⟨ch,⟨h1,h2,r⟩,c,i,n⟩:=hh.box l _ L hl h;have m:g∈L.bs:=(i g).2 (by grind);have f:=c g _ h2;have d:∀a,a≠g->(s.w.setRow g #[u]).heap[a]?=s.w.heap[a]?:=λa b=>setRow_other s.w g a _ b;have j:=setRow_heap s.w g #[v] #[u] E (0,0) f;have k:s.β.set l L=s.β:=by apply iY;grind
 have q:=hh.jM (l:=l) (H':=dX g E u) (L':=L) (w':=s.w.setRow g #[u]) hl h rfl (by simp)
  (λa b p=>d a (by grind)) (λa b=>.inl b)
  ⟨λa=>if a=g then aa (.cells #[u] E (0,0))else af,⟨h1,by simp,λa b=>by grind⟩,λa o b=>by
   grind,λa=>by grind⟩ rfl rfl rfl
 grind
def ee.QF{f:aJ}{e:Array ah->Sem ah}{args:List ah}{v u:ah}{x:D}(l:Nat){g:Nat}{E:aj}(hl:dC l σ=aa (.cm (dX g E u)))(b:gw P N o φ σ f args)(m:lg P f e)(i:∀w,w.cell? ⟨g,0,af⟩=aa u->(e args.toArray).run P w=.ok v w/\∀es,∀a∈(e args.toArray).events P w es,a∈es∨a=⟨.cell ⟨g,0,af⟩,ae,ae⟩)(d:∀s,dt σ s v x):ee P N o φ σ (λ_:Unit=>x) λ_=>σ :=
 .ext b m λs hh=>by obtain⟨_,j,q2,_⟩:=dX.own hl hh;obtain⟨k,c⟩:=i s.w j;exact⟨(),s,v,k,d s,hh,.refl _ _,λes a h=>(c es a h).imp id λn=>by grind⟩
def ee.Sg{f:aJ}{e:Array ah->Sem ah}{args:List ah}{v u w0:ah}{x:D}(l p:Nat){g c:Nat}{E E2:aj}(hl:dC l σ=aa (.cm (dX g E w0)))(b:dC p σ=aa (.cm (dX c E2 u)))(d:gw P N o φ σ f args)(t:lg P f e)(k:∀w,w.heap[g]?=aa (.cells #[w0] E (0,0))->w.cell? ⟨c,0,af⟩=aa u->(e args.toArray).run P w=.ok v (w.setRow g #[u])/\∀es,∀a∈(e args.toArray).events P w es,a∈es∨a=⟨.cell ⟨c,0,af⟩,ae,ae⟩∨a=⟨.cell ⟨g,0,af⟩,ab,ae⟩)(i:∀σ s,dt σ s v x):ee P N o φ σ (λ_:Unit=>x) λ_=>σ.set l (.cm (dX g E u)) :=
 .ext d t λs hh=>by obtain⟨m,_,_,p4⟩:=dX.own hl hh;obtain⟨_,n,q2,_⟩:=dX.own b hh;obtain⟨r,y⟩:=k s.w m n;obtain⟨q,j⟩:=dX.jM (u:=u) hl hh;refine⟨(),_,v,r,i _ _,q,j,λes a h=>?_⟩;grind
def AK.oX{ι:Type}{x:ι->D}{σ':ι->List aR}(e:q8 all φ o=ab)(y:gg N o.dst=ab)(h:ee P N o φ σ x σ')(k:∀i,AK X N Qf (.ops all rest::K) .normal (kH o.dst (x i) φ) (σ' i)):AK X N Qf (.ops all (o::rest)::K) .normal φ σ:=by
 intro s a f hh b kk cs S idx hb jE hQ;cases idx with
 |nil=>exact jE.elim
 |cons j idx =>
 refine rJ hb jE.1 (fD e _ _ _ f) λu d=>?_;have c:=hh.rely d;have m:=f.rely d hh;obtain⟨i,z,s',v,h1,h2,A,n,p,B⟩:=h u a m c;have g:=p.nD c;refine⟨z,s',v,h1,h2,⟨⟨σ,σ' i,c,n,p⟩,B⟩,?_⟩;refine k i s' _ ?_ n b kk cs S idx hb jE.2 λl σ2 s2 a2 q w h2 st=>hQ l σ2 s2 a2 q w h2 ((d.stepW.trans g).trans st);cases r:o.dst with
 |none=>exact m.mono g c.len
 |some t=>exact(m.mono g c.len).put (gK y t r) A
def AK.Si(t:Nat){T:aj}{cs:List C}{c:Code}(i:look φ t=.e (.one (.c (.ifs T (.rp cs)))))(kk:∀p:Addr,AK X N Qf (.code c::K) .normal ((t,.e (.one (.v (.iface T (.pointer (aa p))))))::φ) σ):AK X N Qf (.code c::K) .normal φ σ:=by
 refine AW.tM (ι:=Addr) (φ':=λp=>(t,.e (.one (.v (.iface T (.pointer (aa p))))))::φ) (σ':=λ_=>σ) (λs a d hh=>?_) kk;have h1:=d.slot t;rw[i]at h1;have h1:=e9 h1;generalize h:a.tmps.getD t ai=v at h1;cases h1 with
 |@ifs _ u _ h2 hc =>
  cases h2 with
  |rp b off f j k =>
   refine⟨⟨b,off,af⟩,s,rfl,⟨d.size,d.defers,λu=>?_⟩,hh,.refl _ _⟩;simp only[look];cases g:aB t u with
   |false=>exact d.slot u
   |true =>
    have e:=bX g;subst e;rw[h];exact Rd.val rfl
def AK.QG(t:Nat){T:aj}{x:ah}(d:look φ t=.e (.one (.c (.ifs T (.val x)))))(kk:AK X N Qf (.ops all rest::K) .normal ((t,.e (.one (.v (.iface T x))))::φ) σ):AK X N Qf (.ops all rest::K) .normal φ σ:=by
 refine iw.le kk λσ s v u a=>?_;simp only[look];cases b:aB t u with
 |false=>exact a
 |true =>
  have e:=bX b;subst e;rw[d]at a;have h1:Rd s.M v (.ifs T (.val x)):=a;cases h1 with
  |@ifs _ f _ h2 hc =>
   obtain rfl:=Rd.en h2;exact Rd.val rfl
def AK.GF(t l:Nat){E:aj}{c:Code}(x:look φ t=.e (.one (.ptr l 0)))(hl:dC l σ=aa (.cells E [.c .fz]))(kk:∀g,AK X N Qf (.code c::K) .normal ((t,.e (.one (.v (.pointer (aa ⟨g,0,af⟩)))))::φ) (σ.set l (.cm (dX g E (.pointer af))))):AK X N Qf (.code c::K) .normal φ σ:=by
 refine AW.tM (ι:=Nat) (φ':=λg=>(t,.e (.one (.v (.pointer (aa ⟨g,0,af⟩)))))::φ) (σ':=λg=>σ.set l (.cm (dX g E (.pointer af)))) (λs a k hh=>?_) kk;have hl:=b9 hl;have i:l<s.β.length:=by rw[hh.len];grind
 have f:=br i;generalize s.β[l]=L at f;obtain⟨g,vs,rfl,A,q,B⟩:=hh.box l _ L hl f
 match vs,q with
 |[v],⟨p,_⟩ =>
  have p:Rd s.M v .fz:=p;cases p;obtain⟨r,q2⟩:=hh.gJ (M':=s.M) (w':=s.w) (B':=.cm (dX g E (.pointer af))) (L':=⟨.pointer (aa ⟨g,0,af⟩),[g]⟩) hl f rfl (bc _) (λ_ _ _=>rfl) (λ_ _ _ _=>rfl) (λ_ _ _ h=>h) hh.mem (λb d=>⟨.inl d,hh.lt _ (bP f) b d⟩) rfl rfl rfl
   ⟨λb=>if b=g then aa (.cells #[.pointer af] E (0,0))else af,⟨rfl,by simp,λb d=>by grind⟩,λb o d=>by
    grind,λb=>by by_cases e:b=g<;>simp[e],λb d o=>by grind⟩
  refine⟨g,{s with β:=s.β.set l ⟨.pointer (aa ⟨g,0,af⟩),[g]⟩},rfl,⟨k.size,k.defers.imp λ_ h1=>h1.mono q2.ext,λu=>?_⟩,r,q2⟩;simp only[look];cases d:aB t u with
  |false=>exact(k.slot u).mono q2.ext hh.len
  |true =>
   have e:=bX d;subst e;have h1:=k.slot t;rw[x]at h1;obtain⟨_,y,z,j,n,m⟩:=(h1:gB σ s _ (.ptr l 0));rw[f]at j;cases j;cases n;rw[m];exact Rd.val rfl
end
def aF.Cj{σ1:List aR}{s:St}{E:aj}{k n:Nat}{bf:nC}{xs:List ah}{es:Nat->List C}(hh:aF (σ1++[.cm (gf E k bf n xs)]) s)(d:gy k n es xs)(h:sJ σ1.length σ1=ab):
  ∃s2:St,aF σ1 s2/\eF s s2/\Rd s2.M (lA bf n) (.sl ae k n es)/\∀{σ0:List aR} {s0:St},cY σ0 s0 (σ1++[.cm (gf E k bf n xs)]) s->σ0.length<=σ1.length->cY σ0 s0 σ1 s2:=by
 have hB:(σ1++[aR.cm (gf E k bf n xs)])[σ1.length]?=aa (.cm (gf E k bf n xs)):=by simp
 obtain⟨L,M',m,q,p,t,B,u⟩:=gf.Cc hB es (λi hi=>⟨d.wid i hi,λM j c x hj hx=>by
  obtain⟨y,z,A⟩:=d.at' i hi j c hj
  grind⟩) s hh
 obtain⟨r,q2⟩:=hh.gJ (M':=M') (w':=s.w) (B':=.dead) (L':=⟨L.v,[]⟩) hB m rfl (bc _) (λ_ _ _=>rfl) (λb _ a o=>p b a o) q t (by simp) rfl rfl rfl ay;have e:(σ1++[aR.cm (gf E k bf n xs)]).set σ1.length .dead=σ1++[.dead]:=by simp
 rw[e]at r q2;refine⟨_,r.drop (rest:=[.dead]) h,⟨rfl,q,λb a o=>p b (a L (bP m)) o,t,λb a=>?_⟩,u,λ{σ0 s0} f g=>(f.trans (q2.nD hh)).drop (rest:=[.dead]) g⟩;rcases a with a|⟨L',l,a⟩
 .exact .inl a
 .have h1:=fM l;grind
def ef.Cj{P:ar}{ι:Type}{X:Cx P}{f:aJ}{args:List D}{σ:List aR}{σ1:ι->List aR}{E k:Nat}{n:ι->Nat}{bf:ι->nC}{xs:ι->List ah}{es:ι->Nat->List C}(h:ef X f args σ (λi=>.e (.one (.v (lA (bf i) (n i))))) (λi=>σ1 i++[.cm (gf E k (bf i) (n i) (xs i))]))(d:∀i,gy k (n i) (es i) (xs i))(b:∀i,sJ (σ1 i).length (σ1 i)=ab)(a:∀i,σ.length<=(σ1 i).length):ef X f args σ (λi=>.e (.one (.c (.sl ae k (n i) (es i))))) σ1:=by refine⟨h.1,λs vs hr hh S cs hS=>h.2 s vs hr hh S cs λi fr v s' hl mK jh st=>?_⟩;obtain⟨s2,c1,c2,c3,c4⟩:=jh.Cj (d i) (b i);have g:v=lA (bf i) (n i):=Rd.en mK;exact .ghost c2 (hS i fr v s2 (hl.mono c2.mem) (by rw[g];exact c3) c1 (c4 st (a i)))
section
open Go.Conc
def gX(s:St):Prop:=∀b o v,s.M b o=aa v->s.w.cell? ⟨b,o,af⟩=aa v
def mc(c:Nat->Prop):Go.Loc->Prop
  | .cell a=>c a.block
  | .obj r=>c r
  | _=>False
structure Clear(c:Nat->Prop)(s:St):Prop where
  own:∀b,c b->¬s.own b
  β:∀b,c b->∀L∈s.β,b∉L.bs
  M:∀b,c b->∀o,s.M b o=af
  lt:∀b,c b->b<s.w.heap.size
section
variable {c:Nat->Prop}{s s':St}
def Clear.step{σ σ':List aR}(h:Clear c s)(st:Step σ s σ' s'):Clear c s':=by
  refine⟨λb a=>by rw[st.own];exact h.own b a,λb a L e d=>?_,λb a o=>by rw[st.je b (h.lt b a) (h.β b a)];exact h.M b a o,λb a=>c7 (h.lt b a) st.size⟩;rcases st.vJ L e b d with h1|⟨f,g,h1⟩
  · exact absurd (h.lt b a) (mN.2 h1)
  · exact h.β b a f g h1
theorem Clear.ghost(h:Clear c s)(k:eF s s'):Clear c s':=by
  have f:∀b,c b->¬(s'.own b∨∃L∈s'.β,b∈L.bs):=λb a e=>by
    rcases k.blk b e with e|⟨L,d,e⟩
    · exact h.own b a e
    · exact h.β b a L d e
  exact⟨λb a e=>f b a (.inl e),λb a L d e=>f b a (.inr ⟨L,d,e⟩),λb a o=>by rw[k.je b (h.β b a)];exact h.M b a o,λb a=>by rw[k.w];exact h.lt b a⟩
def Clear.forget(h:Clear c s)(k:nk s s'):Clear c s':=by
  refine⟨λb a=>by rw[k.own];exact h.own b a,λb a=>by rw[k.β];exact h.β b a,λb a o=>?_,λb a=>by rw[k.w];exact h.lt b a⟩;cases e:s'.M b o with
  | none=>rfl
  | some v=>rw[<-k.less b o v e,h.M b a o]
def Clear.at(h:Clear c s)(d:Nat):Clear c {s with w:=s.w.at d}:=⟨h.own,h.β,h.M,h.lt⟩
def gX.at(h:gX s)(d:Nat):gX {s with w:=s.w.at d}:=h
theorem gX.ghost(k:eF s s'):gX s':=λb o v a=>by rw[k.w];exact k.cell b o v a
def gX.forget(h:gX s)(k:nk s s'):gX s':=λb o v a=>by rw[k.w];exact h b o v (k.less b o v a)
def gX.lt(h:gX s){b o:Nat}{v:ah}(a:s.M b o=aa v):b<s.w.heap.size:=by
  have:=h b o v a;rcases cM b s.w.heap.size with h1|h1
  · exact h1
  · simp[aV,zY h1]at this
def cv.at(h:gX s)(d:Nat):cv s {s with w:=s.w.at d}:=⟨rfl,rfl,rfl,bc _,λ_ _=>rfl,h,rfl,rfl,rfl⟩
def RJ{σ:List aR}{e:Event}(k:aF σ s)(l:Clear c s)(i:ow s e){B:Nat}(hB:s.w.heap.size<=B):EvL (mc c) B e:=by
  obtain⟨n,wr,p⟩:=e;cases n with
  | cell a =>
    obtain⟨h,j,b⟩:=i;simp only at h j b;subst h;have key:¬c a.block/\a.block<s.w.heap.size:=by
      rcases b with b|⟨⟨L,g,b⟩,_⟩|⟨_,v,b⟩
      · exact b.elim
      · exact⟨λx=>l.β _ x L g b,k.lt L g _ b⟩
      · refine⟨λx=>?_,gX.lt k.mem b⟩
        rw[l.M _ x]at b;cases b
    exact evL_cell a wr key.1 (c7 key.2 hB)
  | obj r =>
    obtain⟨h,j⟩:=i;simp only at h j;subst h;obtain⟨L,g,b⟩:=j.resolve_left id;refine⟨λx d o=>?_,by simp,by simp,?_⟩
    · simp[aK,MemAct.touch?]at d
      subst d;exact absurd b (l.β _ o L g)
    · simp[aK,MemAct.low,Loc.low]
      exact c7 (k.lt L g _ b) hB
  | mark m =>
    simp only[ow]at i;rcases i with rfl|⟨f,rfl⟩
    · exact⟨λx d=>by simp[aK,MemAct.touch?]at d,by simp,by simp,by simp[aK,MemAct.low]⟩
    · exact⟨λx d=>by simp[aK,MemAct.touch?]at d,by simp,by simp,by simp[aK,MemAct.low]⟩
  | _=>exact i.elim
end
def sE(t:Trace):Prop:=∀a,NoRelease a t
def sE.app{t:Trace}(h:sE t){g:Nat}{fn:aJ}{pos:String}{es:Array Event}(b:∀e∈es,∀a,e.loc≠.mark (.release a)):sE (t++MemOp.ofEvents g fn pos es) :=
  λa=>(h a).app λop mP hx=>by grind[Go.Conc.mem_ofEvents,Go.ConcR.loc_of_ofEvent]
def Em{s:St}{e:Event}(d:ow s e)(a:Addr):e.loc≠.mark (.release a):=by intro b;obtain⟨loc,wr,g⟩:=e;simp only at b;subst b;rcases d with h|⟨f,h⟩<;>cases h
def wu{e:Event}(d:e.mute=ab)(a:Addr):e.loc≠.mark (.release a):=by intro b;obtain⟨loc,wr,f⟩:=e;simp only at b;subst b;simp[Event.mute]at d
def UQ(P:ar)(g:av)(s:St)(T:av->St->Prop):Prop :=
  ∀(c:Nat->Prop) (gs:Array av) (sl:Option (Nat×Nat)) (t:Trace) (q:Nat->Nat),gX s->gs[0]?=aa g->Leavers P t gs q->Past (mc c) s.w.heap.size t->Clear c s->sE t ->
    ∃(N:Nat) (b:Nat->Prop) (a:Array av) (g':av) (s':St) (e:Option (Nat×Nat)) (d:Trace) (f:Nat->Nat),
      runNT P N (crowd gs s.w sl) t=(.next (crowd a s'.w e),d)/\gX s'/\a[0]?=aa g'/\Leavers P d a f/\Past (mc b) s'.w.heap.size d/\Clear b s'/\sE d/\T g' s'
def Cx.beside(P:ar):Cx P:={main:=ab,rely:=λs s'=>cv s s'/\∃d,s'={s with w:=s.w.at d},yv:=UQ P,iH:=λh=>h.1,BZ:=True}
instance (P:ar):(Cx.beside P).hU:=⟨ay⟩
theorem runNT_add{P:ar}:∀(N M:Nat) {m a:Machine} {t b:Trace},runNT P N m t=(.next a,b)->runNT P (N+M) m t=runNT P M a b
  | 0,M,m,a,t,b,h=>by simp[runNT]at h;grind
  | N+1,M,m,a,t,b,h=>by
    rw[show N+1+M=(N+M)+1 by omega];simp only[runNT]at h⊢;cases d:stepT P m with
    | mk r ops =>
      rw[d]at h;cases r with
      | next m1=>exact runNT_add N M h
      | ended o w=>grind
def fL.beside{P:ar}{S:av->St->Prop}{g:av}{s:St}(h:fL (Cx.beside P) S g s):UQ P g s S:=by
  induction h with
  | stop h=>intro c gs sl t q B u m p r F;exact⟨0,c,gs,_,_,sl,t,q,rfl,B,u,m,p,r,F,h⟩
  | ghost hg _ I =>
    intro c gs sl t q B u m p r F;have:=I c gs sl t q (.ghost hg) u m (by rw[hg.w];exact p) (r.ghost hg) F
    rwa [hg.w]at this
  | forget _ hg _ I =>
    intro c gs sl t q B u m p r F;have:=I c gs sl t q (B.forget hg) u m (by rw[hg.w];exact p) (r.forget hg) F
    rwa [hg.w]at this
  | yv hj _ I =>
    intro c gs sl t q B u m p r F;obtain⟨N,f,b,g',s',l,D,K,h1,h2,h3,h4,h5,h6,h6n,h7⟩:=hj c gs sl t q B u m p r F;obtain⟨M,Sh2,gs2,g2,s2,sl2,t2,q2,k1,V⟩:=I g' s' h7 f b l D K h2 h3 h4 h5 h6 h6n;exact⟨N+M,Sh2,gs2,g2,s2,sl2,t2,q2,by grind[runNT_add],V⟩
  | @step g s Y ns ne hr h1 h2 _ I =>
    intro c gs sl t q;have key:∀(n:Nat) (gs:Array av) (d:Nat) (sl:Option (Nat×Nat)) (t:Trace) (q:Nat->Nat),Go.ConcN.sumTo gs.size q<=n->gX s->gs[0]?=aa g->Leavers P t gs q->Past (mc c) s.w.heap.size t->Clear c s->sE t ->
        ∃(N:Nat) (f:Nat->Prop) (b:Array av) (g':av) (s':St) (l:Option (Nat×Nat)) (D:Trace) (K:Nat->Nat),
          runNT P N (crowd gs (s.w.at d) sl) t=(.next (crowd b s'.w l),D)/\gX s'/\b[0]?=aa g'/\Leavers P D b K/\Past (mc f) s'.w.heap.size D/\Clear f s'/\sE D/\S g' s':=by
      intro n;induction n with
      | zero=>?_
      | succ n ihn=>?_
      all_goals
        intro gs d sl t q F B u m p r E;have haw:∀g∈gs,awake g:=by
          intro x hx;obtain⟨i,hi,rfl⟩:=Array.mem_iff_getElem.1 hx;rcases ni i with rfl|C
          · grind[awake_of]
          · exact awake_of ((m.old i _ C (gm hi)).status.elim .inl λx=>.inr (.inr x))
        obtain⟨i,x,d2,l,hi,hg,L⟩:=crowd_pick (P:=P) (w:=s.w.at d) (sl:=sl) haw ⟨0,g,u,hr⟩;rw[show(s.w.at d).at d2=s.w.at d2 from rfl]at L;rcases ni i with rfl|C
        · obtain rfl:x=g:=by grind
          have v:(Cx.beside P).rely s {s with w:=s.w.at d2}:=⟨cv.at B d2,d2,rfl⟩;have Z:=h1 _ v;obtain⟨⟨σ,σ',hh,jh,st⟩,O⟩:=h2 _ v;have o:=runT_crowd_go (P:=P) (sl:=l) (i:=0) hi (show aH P (0==0) x (s.w.at d2)=_ from Z)
          have Ec:((gs.map (woken P x (Y {s with w:=s.w.at d2}) (ns {s with w:=s.w.at d2}).w)).setIfInBounds 0 (Y {s with w:=s.w.at d2})).size=gs.size:=by simp
          have Q:0<gs.size:=(iA.1 u).1;have W:Clear c {s with w:=s.w.at d2}:=r.at d2;obtain⟨N,f,b,g',s',A,D,K,k1,V⟩:=I _ v c ((gs.map (woken P x (Y {s with w:=s.w.at d2}) (ns {s with w:=s.w.at d2}).w)).setIfInBounds 0 (Y {s with w:=s.w.at d2})) l
            (t++MemOp.ofEvents 0 x.frame.fn x.frame.place (ne {s with w:=s.w.at d2})) q jh.mem (by grind)
            ⟨λj y hj hy=>by
              have B4:0≠j:=by omega
              rw[wo B4,Array.getElem?_map]at hy;obtain⟨z,hz,rfl⟩:=ry.1 hy;have H:=m.old j z hj hz;rw[woken_quitsD H,Deaf_other t (by omega) _ (λop mP=>by grind[Go.Conc.mem_ofEvents])];exact H,λj hj=>by
              rw[Deaf_other t (g':=0) (by grind) _ (λop mP=>by grind[Go.Conc.mem_ofEvents])]
              exact m.above j (by grind)⟩
            ((p.mono st.size).own λe U=>RJ hh W (O e U) st.size) (W.step st) (E.app λe U a=>Em (O e U) a)
          exact⟨N+1,f,b,g',s',A,D,K,by simp only[runNT,L,o];exact k1,V⟩
        · have H:=m.old i x C hi
          have Yf:(i==0)=ae:=by grind
          have Q:i<gs.size:=(iA.1 hi).1;cases J:q i with
          | zero=>rw[J]at H;rw[H.1]at hg;cases hg
          | succ k =>
            rw[J]at H;rcases H with⟨hf,_⟩|⟨_,g',es,X,R,hq'⟩
            · grind
            have aci:Go.ConcN.sumTo gs.size (Go.ConcN.upd q i k)+(k+1)=Go.ConcN.sumTo gs.size q+k:=by have:=Go.ConcN.sumTo_upd q k id Q;simpa[J]using this
            first
            | (exfalso;omega)
            | (have o:=runT_crowd_go (P:=P) (sl:=l) (i:=i) hi (by rw[Yf];exact R (s.w.at d2))
               have Ec:((gs.map (woken P x g' (s.w.at d2))).setIfInBounds i g').size=gs.size:=by simp
               obtain⟨N,f,b,g2,s',A,D,K,k1,V⟩:=ihn ((gs.map (woken P x g' (s.w.at d2))).setIfInBounds i g') d2 l (t++MemOp.ofEvents i x.frame.fn x.frame.place es) (Go.ConcN.upd q i k) (by grind) B
                (by grind[woken_run])
                ⟨λj y hj hy=>by
                  by_cases G:i=j
                  · grind[Go.ConcN.upd_same,Deaf_own]
                  · rw[wo G,Array.getElem?_map]at hy
                    obtain⟨z,hz,rfl⟩:=ry.1 hy;have T:=m.old j z hj hz;rw[woken_quitsD T,Go.ConcN.upd_ne q k (Ne.symm G),Deaf_other t G _ (λop mP=>by grind[Go.Conc.mem_ofEvents])];exact T,λj hj=>by
                  rw[Deaf_other t (g':=i) (by grind) _ (λop mP=>by grind[Go.Conc.mem_ofEvents])]
                  exact m.above j (by grind)⟩
                (p.mute (by omega) X) r (E.app λe U a=>wu (X e U) a)
               exact⟨N+1,f,b,g2,s',A,D,K,by simp only[runNT,L,o];exact k1,V⟩)
    intro B u m p r E;have:=key _ gs s.w.drawn sl t q (bc _) B u m p r E
    rwa [show s.w.at s.w.drawn=s.w from rfl]at this
inductive Rk where
 |leaf
 |node (f:St->Rk)
def Rk.lt:Rk->Rk->Prop
 |_,.leaf=>False
 |x,.node f=>∃s,x=f s∨Rk.lt x (f s)
def Rk.acc:∀r:Rk,Acc Rk.lt r
 |.leaf=>⟨_,λ_ h=>h.elim⟩
 |.node f=>⟨_,λ_ ⟨s,e⟩=>e.elim (λe=>e▸Rk.acc (f s)) λh=>(Rk.acc (f s)).inv h⟩
def Rk.nat:Nat->Rk
 |0=>.leaf
 |n+1=>.node λ_=>Rk.nat n
def Rk.EE(n:Nat)(s:St):Rk.lt (Rk.nat n) (Rk.nat (n+1)):=⟨s,.inl rfl⟩
def Vec(j:Nat)(a D:Nat->Rk):Prop:=∃i,i<j/\Rk.lt (a i) (D i)/\∀k,k≠i->a k=D k
def Ki:∀j,WellFounded (Vec j)
 |0=>⟨λ_=>⟨_,λ_ ⟨i,h,_⟩=>absurd h (fX i)⟩⟩
 |j+1=>by
  have k:=Ki j;have key:∀a:Rk,∀D:Nat->Rk,D j=a->Acc (Vec (j+1)) D:=by
   intro a;induction Rk.acc a with
   |intro a _ f =>
    intro D;induction k.apply D with
    |intro D _ d =>
     intro l;refine⟨_,λg h=>?_⟩;obtain⟨i,hi,b,hk⟩:=h;rcases cM i j with e|e
     .exact d g ⟨i,e,b,hk⟩ (by grind)
     grind
  exact⟨λD=>key _ D rfl⟩
section
variable {P:ar}
def kK(X:Cx P)(E:St->St->Array Event->Prop)(S:av->St->Prop):Rk->av->St->Prop
 |.leaf,g,s=>S g s
 |.node f,g,s=>S g s∨(∃s',(eF s s'∨(X.BZ/\nk s s'))/\kK X E S (f s) g s') ∨
   (g.status=.running/\∀a,X.rely s a->∃g' s' es,aH P X.main g a.w=.go g' s'.w es/\(rB a s' es∨E a s' es)/\kK X E S (f a) g' s')
variable {X:Cx P}{E:St->St->Array Event->Prop}{S c:av->St->Prop}
def eC(X:Cx P)(E:St->St->Array Event->Prop)(S:av->St->Prop)(g:av)(s:St):Prop:=∃r,kK X E S r g s
theorem eC.ghost{g:av}{s s':St}(h:eF s s')(k:eC X E S g s'):eC X E S g s:=by obtain⟨r,k⟩:=k;exact⟨.node λ_=>r,.inr (.inl ⟨s',.inl h,k⟩)⟩
def eC.forget{g:av}{s s':St}(hl:X.BZ)(h:nk s s')(k:eC X E S g s'):eC X E S g s:=by obtain⟨r,k⟩:=k;exact⟨.node λ_=>r,.inr (.inl ⟨s',.inr ⟨hl,h⟩,k⟩)⟩
def eC.step{g:av}{s:St}(e:g.status=.running)(h:∀a,X.rely s a->∃g' s' es,aH P X.main g a.w=.go g' s'.w es/\(rB a s' es∨E a s' es)/\eC X E S g' s'):eC X E S g s:=by
 classical
 have hh:∀a,∃r:Rk,X.rely s a->∃g' s' es,aH P X.main g a.w=.go g' s'.w es/\(rB a s' es∨E a s' es)/\kK X E S r g' s':=by
  intro a;by_cases b:X.rely s a
  .obtain⟨g',s',es,h1,h2,r,d⟩:=h a b;exact⟨r,λ_=>⟨g',s',es,h1,h2,d⟩⟩
  .exact⟨.leaf,λh=>absurd h b⟩
 exact⟨.node λa=>Classical.choose (hh a),.inr (.inr ⟨e,λa b=>Classical.choose_spec (hh a) b⟩)⟩
def eC.bind{g:av}{s:St}(h:eC X E S g s)(k:∀g s,S g s->eC X E c g s):eC X E c g s:=by
 obtain⟨r,h⟩:=h;induction r generalizing g s with
 |leaf=>exact k g s h
 |node f a =>
  rcases h with h|⟨s',h1,h2⟩|⟨b,h⟩
  .grind
  .rcases h1 with h1|⟨hl,h1⟩
   .exact .ghost h1 (a _ h2)
   .exact .forget hl h1 (a _ h2)
  .exact .step b λe d=>by grind
def fL.toE{g:av}{s:St}(hj:∀g s T,¬X.yv g s T)(h:fL X S g s):eC X E S g s:=by
 induction h with
 |stop h=>exact⟨.leaf,h⟩
 |step ng ns ne hr h1 h2 _ a=>exact .step hr λd b=>⟨_,_,_,h1 d b,.inl (h2 d b),a d b⟩
 |ghost hg _ a=>exact .ghost hg a
 |forget hl hg _ a=>exact .forget hl hg a
 |yv hjj _ _=>grind
def kK.norm(I:St->Prop)(k:∀s s',eF s s'->I s->I s')(l:X.BZ->∀s s',nk s s'->I s->I s'):∀{r:Rk}{g:av}{s:St},kK X E S r g s->I s ->
  (∃s',I s'/\S g s')∨(g.status=.running/\∃s',I s'/\∀a,X.rely s' a->∃g' s2 es r',aH P X.main g a.w=.go g' s2.w es/\(rB a s2 es∨E a s2 es)/\kK X E S r' g' s2/\Rk.lt r' r)
 |.leaf,_,s,h,hi=>.inl ⟨s,hi,h⟩
 |.node f,g,s,h,hi=>by
  rcases h with h|⟨s',h1,h2⟩|⟨o,h⟩
  .grind
  .have e:I s':=h1.elim (λx=>k s s' x hi) λx=>l x.1 s s' x.2 hi;rcases kK.norm I k l h2 e with m|⟨m,s2,n,q⟩
   .grind
   .refine .inr ⟨m,s2,n,λa d=>?_⟩;obtain⟨g',j,es,r',k1,i,b,p⟩:=q a d;exact⟨g',j,es,r',k1,i,b,s,.inr p⟩
  .refine .inr ⟨o,s,hi,λa d=>?_⟩;obtain⟨g',j,es,k1,i,b⟩:=h a d;exact⟨g',j,es,f a,k1,i,b,a,.inl rfl⟩
def eC.goes{R:aA->aA->Prop}{D:aA->aA->Array Event->Prop}{Stop:av->aA->Prop}(I:St->Prop)(m:∀s a,I s->X.rely s a->I a)(e:∀s a,I s->X.rely s a->R s.w a.w)(l:∀s es,I s->∀w',D s.w w' es->w'=s.w/\(rB s s es∨E s s es))(j:∀s,I s->X.rely s s)(k:∀g s,I s->Stop g s.w->eC X E S g s):
  ∀(n:Nat) (g:av) (s:St),I s->Goes P X.main R D Stop n g s.w->eC X E S g s
 |0,g,s,hi,h=>k g s hi (h s.w (e s s hi (j s hi)))
 |n+1,g,s,hi,h=>by
  rcases h with h|⟨o,h⟩
  .grind
  .refine .step o λa i=>?_;have h1:=h a.w (e s a hi i);have d:=m s a hi i;cases b:aH P X.main g a.w with
   |go g' w' es =>
    rw[b,goes_go]at h1;obtain⟨p,q⟩:=h1;obtain⟨rfl,f⟩:=l a es d w' p;exact⟨g',a,es,rfl,f,eC.goes I m e l j k n g' a d q⟩
   |_=>rw[b]at h1;exact h1.elim
end
theorem cv.ghost{s s':St}{w:aA}(h:cv s {s with w:=w})(k:eF s s'):cv s' {s' with w:=w}:=by
 refine⟨rfl,rfl,rfl,by rw[k.w];exact h.size,λb a=>by rw[k.w];exact h.fy b (k.blk b a),λb o v e=>?_,by rw[k.w];exact h.os,by rw[k.w];exact h.tape,by rw[k.w];exact h.output⟩;have g:=k.cell b o v e;by_cases a:∃L∈s.β,b∈L.bs
 .have:=h.fy b (.inr a);simp only[aV]at g⊢;grind
 .have:s.M b o=aa v:=by rw[<-k.je b (λL f d=>a ⟨L,f,d⟩)];exact e
  exact h.mem b o v this
def cv.forget{s s':St}{w:aA}(h:cv s {s with w:=w})(k:nk s s'):cv s' {s' with w:=w} :=
 ⟨rfl,rfl,rfl,by rw[k.w];exact h.size,λb d=>by rw[k.w];exact h.fy b (by rw[<-k.own,<-k.β];exact d),λb o v a=>h.mem b o v (k.less b o v a),by rw[k.w];exact h.os,by rw[k.w];exact h.tape,by rw[k.w];exact h.output⟩
def cv.w7{s:St}(h:gX s):cv s s:=⟨rfl,rfl,rfl,bc _,λ_ _=>rfl,h,rfl,rfl,rfl⟩
def cv.trans'{s:St}{w:aA}(h:cv s {s with w:=w}):cv {s with w:=w} {s with w:=w}:=cv.w7 h.mem
def cv.trans{s a s2:St}(h:cv s a)(k:cv a s2):cv s s2 :=
 ⟨k.β.trans h.β,k.M.trans h.M,k.own.trans h.own,iZ h.size k.size,λb d=>by rw[k.fy b (by rw[h.own,h.β];exact d),h.fy b d],λb o v e=>k.mem b o v (by rw[h.M];exact e),k.os.trans h.os,k.tape.trans h.tape,k.output.trans h.output⟩
end
section
open Go.Conc
open Go.ConcN (fork_knows RelBy)
open Go.ConcR (stA smA)
def mg:Go.Loc->Option Nat
 |.cell a=>aa a.block
 |.obj r=>aa r
 |_=>af
def Cq{l:Go.Loc}(h:l.isMemory=ab):∃b,mg l=aa b:=by cases l<;>simp[Go.Loc.isMemory]at h<;>exact⟨_,rfl⟩
def HX{x:MemAct}{a:Touch}{B b:Nat}(h:x.touch?=aa a)(g:x.low B)(c:mg a.loc=aa b):b<B:=by
 cases x with
 |access e =>
  simp[MemAct.touch?]at h;subst h;simp only at c;obtain⟨loc,wr,i⟩:=e;cases loc<;>simp[mg]at c<;>subst c<;>exact g
 |mark m =>
  cases m<;>simp[MemAct.touch?]at h<;>subst h<;>simp[mg]at c<;>subst c<;>exact g
 |_=>simp[MemAct.touch?]at h
structure Lay where
 Sh:Nat->Prop
 T0:Nat
 Wg:Nat
 C:Nat
 base:Nat
 kc:Nat
def sV(Y:Lay)(d:Nat->Nat)(a:Touch):Prop :=
 (∃ad,a.loc=.cell ad/\ad.block=Y.Wg/\a.kind≠.plain)∨(∃b,mg a.loc=aa b/\d b=0/\b≠Y.Wg/\b≠Y.C/\¬Y.Sh b/\a.kind=.plain)
def rf(Y:Lay)(d:Nat->Nat)(f:Mem)(x:Nat)(a:Touch):Prop :=
 (∃ad,a.loc=.cell ad/\ad.block=Y.Wg/\a.kind=.atomic) ∨
 (a.kind=.plain/\((∃b,mg a.loc=aa b/\d b=Y.base+x)∨(∃o,a.loc=.cell ⟨Y.C,o,af⟩/\Y.kc*x<=o/\o<Y.kc*x+Y.kc)∨(a.write=ae/\∃b o v,a.loc=.cell ⟨b,o,af⟩/\f b o=aa v)))
structure TL(Y:Lay)(d:Nat->Nat)(f:Nat->Mem)(t:Trace)(j B:Nat):Prop where
 base:1<=Y.base
 Jt:d Y.Wg=0
 hC:d Y.C=0
 ne:Y.C≠Y.Wg
 QH:¬Y.Sh Y.Wg
 Sl:¬Y.Sh Y.C
 Ju:∀b,Y.Sh b->d b=0
 ms:∀x,x<j->∀b o v,f x b o=aa v->d b=0/\b≠Y.C/\b≠Y.Wg/\¬Y.Sh b
 T0:Y.T0<=t.size
 nr:∀said,¬Race said t
 seen:∀op∈t,op.act.low B
 old:∀i a,i<Y.T0->touchAt t i=aa a->a.loc.isMemory=ab->Knows t 0 i∨(mc Y.Sh a.loc/\a.kind=.atomic)
 Sm:∀x,x<j->∀i a,i<Y.T0->touchAt t i=aa a->a.loc.isMemory=ab->Knows t (Y.base+x) i∨(mc Y.Sh a.loc/\a.kind=.atomic)
 HY:∀i a b,i<Y.T0->touchAt t i=aa a->mg a.loc=aa b->d b=0
 new:∀i a,Y.T0<=i->touchAt t i=aa a->a.loc.isMemory=ab->(t.g? i=aa 0/\sV Y d a)∨(∃x,x<j/\t.g? i=aa (Y.base+x)/\rf Y d (f x) x a)
 mw:∀x,x<j->∀i a,Y.T0<=i->touchAt t i=aa a->t.g? i=aa 0->a.write=ab->∀b o v,a.loc=.cell ⟨b,o,af⟩->f x b o=aa v->Knows t (Y.base+x) i
 over:∀i g,i<Y.T0->t.g? i=aa g->g≠0->t.counts i->∃k,t.g? k=aa 0/\HappensBefore t i k
section
variable {Y:Lay}{d hm':Nat->Nat}{f:Nat->Mem}{t u:Trace}{j B B':Nat}
theorem vT{i:Nat}{a:Touch}{g:Nat}(h:touchAt t i=aa a)(c:t.g? i=aa g):Knows t g i:=by
 obtain⟨x,b,_⟩:=touch_of h;have:x.g=g:=by simpa[Trace.g?,b]using c
 grind[knows_own]
def TL.low(h:TL Y d f t j B){i:Nat}{a:Touch}{b:Nat}(g:touchAt t i=aa a)(k:mg a.loc=aa b):b<B:=by obtain⟨x,e,c⟩:=touch_of g;exact HX c (h.seen x (vF e)) k
def TL.tX(h:TL Y d f t j B)(hh:∀b,b<B->hm' b=d b)(hB:B<=B')(r:Y.Wg<B)(hC:Y.C<B)(s:∀b,Y.Sh b->b<B)(q:∀x,x<j->∀b o v,f x b o=aa v->b<B):TL Y hm' f t j B':=by
 have k:∀i a,touchAt t i=aa a->sV Y d a->sV Y hm' a:=λi a c h1=>by
  rcases h1 with h1|⟨b,h1,h2,n⟩
  .exact .inl h1
  .exact .inr ⟨b,h1,by rw[hh b (h.low c h1)];exact h2,n⟩
 have g:∀x i a,touchAt t i=aa a->rf Y d (f x) x a->rf Y hm' (f x) x a:=λx i a c h1=>by
  rcases h1 with h1|⟨p,⟨b,h1,h2⟩|h1⟩
  .exact .inl h1
  .exact .inr ⟨p,.inl ⟨b,h1,by rw[hh b (h.low c h1)];exact h2⟩⟩
  .exact .inr ⟨p,.inr h1⟩
 refine⟨h.base,by rw[hh _ r];exact h.Jt,by rw[hh _ hC];exact h.hC,h.ne,h.QH,h.Sl,λb e=>by rw[hh b (s b e)];exact h.Ju b e,λx l b o v m=>by rw[hh b (q x l b o v m)];exact h.ms x l b o v m,
  h.T0,h.nr,λop mP=>MemAct.low_mono hB (h.seen op mP),h.old,h.Sm,λi a b hi c e=>by rw[hh b (h.low c e)];exact h.HY i a b hi c e,λi a hi c d=>?_,h.mw,h.over⟩
 rcases h.new i a hi c d with⟨h1,h2⟩|⟨x,h1,h2,n⟩
 .grind
 grind
def TL.Oq(h:TL Y d f t j B):Y.T0<=(t++u).size:=iZ h.T0 (by simp)
theorem kU{i:Nat}(h:i<t.size):(t++u).g? i=t.g? i:=by simp[Trace.g?,getElem?_append_old h]
def TL.sW(h:TL Y d f t j B)(u:Trace):∀i g,i<Y.T0->(t++u).g? i=aa g->g≠0->(t++u).counts i->∃k,(t++u).g? k=aa 0/\HappensBefore (t++u) i k:=by
 intro i g hi hg B4 hc;have a:=c7 hi h.T0;rw[kU a]at hg;obtain⟨k,hk,c⟩:=h.over i g hi hg B4 ((counts_old a).1 hc);have b:k<t.size:=by unfold Trace.g? at hk;grind
 exact⟨k,by grind[kU],hb_app u c⟩
def Cr{c:Nat->Prop}{l:Go.Loc}{b:Nat}(h:mc c l)(a:mg l=aa b):c b:=by cases l<;>simp[mg]at a<;>subst a<;>exact h
def TL.apart(h:TL Y d f t j B){x:Nat}(q:x<j){a b:Touch}{said:Bool}(hT:sV Y d b)(m:rf Y d (f x) x a)(hl:a.loc=b.loc)(hk:a.kind=.plain∨b.kind=.plain∨(said=ab/\a.kind=.said/\b.kind=.said))(A:b.kind=.plain->b.write=ab->∀l o v,b.loc=.cell ⟨l,o,af⟩->f x l o≠aa v)(p:a.write=ab∨b.write=ab):False:=by
 have s:=h.base;rcases m with⟨ad,e1,e2,e3⟩|⟨D,⟨c,e1,e2⟩|⟨o,e1,_⟩|⟨e1,l,o,v,e2,e3⟩⟩
 .rcases hT with⟨i,e,g,k⟩|⟨c,e,g,k,_⟩
  .grind
  .rw[<-hl,e1]at e;simp only[mg,dw]at e;grind
 .rcases hT with⟨i,e,g,k⟩|⟨n,e,g,k,_⟩
  .rw[hl,e]at e1;simp only[mg,dw]at e1;rw[<-e1,g,h.Jt]at e2;omega
  grind
 .rcases hT with⟨i,e,g,k⟩|⟨n,e,g,k,r,_⟩
  .rw[<-hl,e1]at e;cases e;exact h.ne g
  .rw[<-hl,e1]at e;simp only[mg,dw]at e;grind
 .obtain⟨w,y,E,C⟩:=h.ms x q l o v e3;rcases hT with⟨i,e,g,k⟩|⟨n,e,g,k,r,_,z⟩
  .grind
  grind
def TL.app0(h:TL Y d f t j B)(F:∀op∈u,op.g=0)(hl:∀op∈u,op.act.low B)(H:∀op∈u,∀a,op.act.touch?=aa a->a.loc.isMemory=ab->sV Y d a)(K:∀op∈u,∀a,op.act.touch?=aa a->a.kind=.plain->a.write=ab->∀x,x<j->∀b o v,a.loc=.cell ⟨b,o,af⟩->f x b o≠aa v):TL Y d f (t++u) j B:=by
 have k:∀{i:Nat} {a:Touch},touchAt (t++u) i=aa a->(i<t.size/\touchAt t i=aa a)∨(t.size<=i/\(t++u).g? i=aa 0/\∃op∈u,op.act.touch?=aa a):=by
  intro i a e;obtain⟨x,p,C⟩:=touch_of e;rcases getElem?_append_cases p with⟨hi,N⟩|⟨hi,s⟩
  .grind [touchAt_of]
  .exact .inr ⟨hi,by simp[Trace.g?,p,F x s],x,s,C⟩
 refine⟨h.base,h.Jt,h.hC,h.ne,h.QH,h.Sl,h.Ju,h.ms,h.Oq,λsaid=>?_,seen_app h.seen hl,λi a hi e d=>?_,λx p i a hi e d=>?_,λi a b hi e y=>?_,λi a hi e d=>?_,λx p i a hi e z A b o v l G=>?_,h.sW u⟩
 .refine noRace_append (h.nr said) F λi a e op mP b y q=>?_;have E:b.loc.isMemory=ab:=by rw[<-q.1];exact q.2.1
  have hT:=H op mP b y E;rcases cM i Y.T0 with hi|hi
  .rcases h.old i a hi e q.2.1 with hk|⟨L,I⟩
   .exact hk
   .exfalso;obtain⟨c,m⟩:=Cq q.2.1;have w:=Cr L m;rcases hT with⟨ad,e1,e2,e3⟩|⟨J,e1,e2,e3,O,P,M⟩
    .rw[q.1,e1]at m;simp only[mg,dw]at m;rw[<-m,e2]at w;exact h.QH w
    .rw[q.1,e1]at m;grind
  .rcases h.new i a hi e q.2.1 with⟨z,_⟩|⟨x,p,z,D⟩
   .grind [vT]
   .exact(h.apart p hT D q.1 q.2.2.2 (λh1 h2=>K op mP b y h1 h2 x p) q.2.2.1).elim
 .have n:touchAt t i=aa a:=by rw[<-touchAt_old (u:=u) (c7 hi h.T0)];exact e
  exact(h.old i a hi n d).imp (·.app u) id
 .have n:touchAt t i=aa a:=by rw[<-touchAt_old (u:=u) (c7 hi h.T0)];exact e
  exact(h.Sm x p i a hi n d).imp (·.app u) id
 .have n:touchAt t i=aa a:=by rw[<-touchAt_old (u:=u) (c7 hi h.T0)];exact e
  exact h.HY i a b hi n y
 .rcases k e with⟨h1,h2⟩|⟨_,h2,op,mP,r⟩
  .rw[kU h1];exact h.new i a hi h2 d
  grind
 .rcases k e with⟨h1,h2⟩|⟨_,h2,op,mP,r⟩
  .rw[kU h1]at z;exact(h.mw x p i a hi h2 z A b o v l G).app u
  .exfalso;rcases H op mP a r (by rw[l];rfl)with⟨ad,e1,e2,e3⟩|⟨J,_,_,_,_,_,M⟩
   .rw[l]at e1;cases e1;exact(h.ms x p b o v G).2.2.1 e2
   grind
def TL.appW(h:TL Y d f t j B){x:Nat}(C:x<j)(W:∀op∈u,op.g=Y.base+x)(hl:∀op∈u,op.act.low B)(ht:∀op∈u,∀a,op.act.touch?=aa a->a.loc.isMemory=ab->rf Y d (f x) x a):TL Y d f (t++u) j B:=by
 have hb1:=h.base;have r:∀{i:Nat} {a:Touch},touchAt (t++u) i=aa a->(i<t.size/\touchAt t i=aa a)∨(t.size<=i/\(t++u).g? i=aa (Y.base+x)/\∃op∈u,op.act.touch?=aa a):=by
  intro i a q;obtain⟨y,w,J⟩:=touch_of q;rcases getElem?_append_cases w with⟨hi,hy'⟩|⟨hi,I⟩
  .grind [touchAt_of]
  .exact .inr ⟨hi,by simp[Trace.g?,w,W y I],y,I,J⟩
 refine⟨h.base,h.Jt,h.hC,h.ne,h.QH,h.Sl,h.Ju,h.ms,h.Oq,λsaid=>?_,seen_app h.seen hl,λi a hi q d=>?_,λy w i a hi q d=>?_,λi a b hi q L=>?_,λi a hi q d=>?_,λy w i a hi q G E b o v F P=>?_,h.sW u⟩
 .refine noRace_append (h.nr said) W λi a q op mP b L A=>?_;have S:b.loc.isMemory=ab:=by rw[<-A.1];exact A.2.1
  have hT:=ht op mP b L S;obtain⟨c,l⟩:=Cq A.2.1;rcases cM i Y.T0 with hi|hi
  .rcases h.Sm x C i a hi q A.2.1 with hk|⟨hs,hka⟩
   .exact hk
   .exfalso;have n:=Cr hs l;rw[A.1]at l;rcases hT with⟨ad,e1,e2,e3⟩|⟨e0,⟨c',e1,e2⟩|⟨o,e1,_⟩|⟨e1,p,o,v,e2,e3⟩⟩
    .rw[e1]at l;simp only[mg,dw]at l;rw[<-l,e2]at n;exact h.QH n
    .rw[e1]at l;simp only[dw]at l;rw[<-l]at n;rw[h.Ju _ n]at e2;omega
    .rw[e1]at l;simp only[mg,dw]at l;rw[<-l]at n;exact h.Sl n
    .rw[e2]at l;simp only[mg,dw]at l;rw[<-l]at n;exact(h.ms x C p o v e3).2.2.2 n
  .rcases h.new i a hi q A.2.1 with⟨G,V⟩|⟨y,w,G,N⟩
   ·
    by_cases H:a.write=ab/\∃p o v,a.loc=.cell ⟨p,o,af⟩/\f x p o=aa v
    .obtain⟨h1,p,o,v,h2,Z⟩:=H;exact h.mw x C i a hi q G h1 p o v h2 Z
    .exfalso;refine h.apart (said:=said) C V hT A.1.symm ?_ (λ_ U p o v k P=>H ⟨U,p,o,v,k,P⟩) A.2.2.1.symm;rcases A.2.2.2 with hk|hk|⟨h1,h2,Z⟩
     .grind
     .grind
     grind
   .by_cases T:y=x
    .grind [vT]
    .exfalso;obtain⟨k,_,E,Q⟩:=A;rcases N with⟨ad,e1,e2,e3⟩|⟨e0,⟨c1,e1,e2⟩|⟨o,e1,e1l,e1u⟩|⟨e1,p,o,v,e2,e3⟩⟩
     .rcases hT with⟨D,e,m,z⟩|⟨O,⟨c2,e,m⟩|⟨o,e,_⟩|⟨e,p,o,v,m,z⟩⟩
      .grind
      .rw[<-k,e1]at e;simp only[mg,dw]at e;rw[<-e,e2,h.Jt]at m;omega
      .rw[<-k,e1]at e;cases e;exact h.ne e2
      .rw[<-k,e1]at m;cases m;exact(h.ms x C p o v z).2.2.1 e2
     .rcases hT with⟨D,e,m,z⟩|⟨O,⟨c2,e,m⟩|⟨o,e,_⟩|⟨e,p,o,v,m,z⟩⟩
      .rw[k,e]at e1;simp only[mg,dw]at e1;rw[<-e1,m,h.Jt]at e2;omega
      .grind
      .rw[k,e]at e1;simp only[mg,dw]at e1;rw[<-e1,h.hC]at e2;omega
      .rw[k,m]at e1;simp only[mg,dw]at e1;rw[<-e1,(h.ms x C p o v z).1]at e2;omega
     .rcases hT with⟨D,e,m,z⟩|⟨O,⟨c2,e,m⟩|⟨M,e,K,R⟩|⟨e,p,M,v,m,z⟩⟩
      .rw[<-k,e1]at e;cases e;exact h.ne m
      .rw[<-k,e1]at e;simp only[mg,dw]at e;rw[<-e,h.hC]at m;omega
      .rw[<-k,e1]at e;cases e;rcases Nat.lt_or_gt_of_ne T with h1|h1
       .have:=vG Y.kc (show y+1<=x from h1);grind
       .have:=vG Y.kc (show x+1<=y from h1);grind
      .rw[<-k,e1]at m;cases m;exact(h.ms x C _ _ v z).2.1 rfl
     .rcases hT with⟨D,e,m,z⟩|⟨O,⟨c2,e,m⟩|⟨M,e,K,R⟩|⟨e,b2,M,v',m,z⟩⟩
      .rw[<-k,e2]at e;cases e;exact(h.ms y w p o v e3).2.2.1 m
      .rw[<-k,e2]at e;simp only[mg,dw]at e;rw[<-e,(h.ms y w p o v e3).1]at m;omega
      .rw[<-k,e2]at e;cases e;exact(h.ms y w _ _ v e3).2.1 rfl
      grind
 .have s:touchAt t i=aa a:=by rw[<-touchAt_old (u:=u) (c7 hi h.T0)];exact q
  exact(h.old i a hi s d).imp (·.app u) id
 .have s:touchAt t i=aa a:=by rw[<-touchAt_old (u:=u) (c7 hi h.T0)];exact q
  exact(h.Sm y w i a hi s d).imp (·.app u) id
 .have s:touchAt t i=aa a:=by rw[<-touchAt_old (u:=u) (c7 hi h.T0)];exact q
  exact h.HY i a b hi s L
 .rcases r q with⟨h1,h2⟩|⟨_,h2,op,mP,X⟩
  .rw[kU h1];exact h.new i a hi h2 d
  grind
 .rcases r q with⟨h1,h2⟩|⟨_,h2,_⟩
  .rw[kU h1]at G;exact(h.mw y w i a hi h2 G E b o v F P).app u
  grind
def TL.mute(h:TL Y d f t j B){g:Nat}(r:∀op∈u,op.g=g)(hl:∀op∈u,op.act.low B)(s:∀op∈u,op.act.touch?=af):TL Y d f (t++u) j B:=by
 have old:∀{i:Nat} {a:Touch},touchAt (t++u) i=aa a->i<t.size/\touchAt t i=aa a:=by intro i a c;obtain⟨y,w,p⟩:=touch_of c;grind[touchAt_of]
 refine⟨h.base,h.Jt,h.hC,h.ne,h.QH,h.Sl,h.Ju,h.ms,h.Oq,λsaid=>noRace_append (h.nr said) r λi a _ op mP b n _=>(by grind),seen_app h.seen hl,λi a hi c d=>(h.old i a hi (old c).2 d).imp (·.app u) id,
  λx l i a hi c d=>(h.Sm x l i a hi (old c).2 d).imp (·.app u) id,λi a b hi c n=>h.HY i a b hi (old c).2 n,λi a hi c d=>?_,λx l i a hi c m k b o v e q=>?_,h.sW u⟩
 .rw[kU (old c).1];exact h.new i a hi (old c).2 d
 .rw[kU (old c).1]at m;exact(h.mw x l i a hi (old c).2 m k b o v e q).app u
def TL.fork(h:TL Y d f t j B){x y:MemOp}(n:x.g=0/\x.act=.go (Y.base+j))(m:y.g=Y.base+j/\y.act=.start)(D:Deaf t 0=0)(hk:Deaf t (Y.base+j)=0)(G:∀b o v,f j b o=aa v->d b=0/\b≠Y.C/\b≠Y.Wg/\¬Y.Sh b):TL Y d f (t++#[x,y]) (j+1) B:=by
 have F:∀op∈#[x,y],op.act.touch?=af:=by
  intro op mP;simp only[List.mem_toArray,eB,oq,mO]at mP;rcases mP with rfl|rfl
  .rw[n.2];rfl
  .rw[m.2];rfl
 have l:∀op∈#[x,y],op.act.low B:=by
  intro op mP;simp only[List.mem_toArray,eB,oq,mO]at mP;rcases mP with rfl|rfl
  .rw[n.2];trivial
  .rw[m.2];trivial
 have old:∀{i:Nat} {a:Touch},touchAt (t++#[x,y]) i=aa a->i<t.size/\touchAt t i=aa a:=by intro i a c;obtain⟨z,w,E⟩:=touch_of c;grind[touchAt_of]
 have q:∀z,z<j+1->∀b o v,f z b o=aa v->d b=0/\b≠Y.C/\b≠Y.Wg/\¬Y.Sh b:=λz w b o v s=>by
  rcases cM z j with h1|h1
  .exact h.ms z h1 b o v s
  grind
 refine⟨h.base,h.Jt,h.hC,h.ne,h.QH,h.Sl,h.Ju,q,h.Oq,λsaid=>?_,seen_app h.seen l,λi a hi c d=>(h.old i a hi (old c).2 d).imp (·.app _) id,
  λz w i a hi c d=>?_,λi a b hi c A=>h.HY i a b hi (old c).2 A,λi a hi c d=>?_,λz w i a hi c r p b o v k s=>?_,h.sW _⟩
 .have e:t++#[x,y]=(t++#[x])++#[y]:=by grind
  rw[e];refine noRace_append (g:=Y.base+j) (noRace_append (g:=0) (h.nr said) (λop mP=>by grind) (λi a _ op mP b A _=>?_)) (λop mP=>by grind) (λi a _ op mP b A _=>?_)
  .grind
  grind
 .rcases cM z j with h1|h1
  .exact(h.Sm z h1 i a hi (old c).2 d).imp (·.app _) id
  .obtain rfl:z=j:=by omega
   exact(h.old i a hi (old c).2 d).imp (fork_knows n m D hk) id
 .rw[kU (old c).1];rcases h.new i a hi (old c).2 d with h1|⟨z,h1,h2⟩
  .grind
  grind
 .rw[kU (old c).1]at r;rcases cM z j with h1|h1
  .exact(h.mw z h1 i a hi (old c).2 r p b o v k s).app _
  .obtain rfl:z=j:=by omega
   exact fork_knows n m D hk (vT (old c).2 r)
def TL.YK(h:TL Y d f t j B)(M:Deaf t 0=0)(J:NoRelease (stA Y.Wg) t){q:Nat}(I:t.act? q=aa (.mark (.acquire (stA Y.Wg))))(y:t.g? q=aa 0)(D:t.heard q)(K:∀x,x<j->∃r,RelBy (stA Y.Wg) t (Y.base+x) r/\r<q):Past (mc λb=>Y.Sh b∨b=Y.Wg) B t:=by
 have m:∀x,x<j->∀i,t.g? i=aa (Y.base+x)->t.counts i->HappensBefore t i q:=by
  intro x w i v s;obtain⟨r,c,A⟩:=K x w;have e:HappensBefore t r q:=.single (.inr ⟨.marked A (.inr c.act) I (λk _ _=>J k),c.heard,D⟩);have H:i<=r:=Nat.le_of_not_lt λn=>c.after i n v s;rcases cM i r with n|G
  .exact .trans (.single (.inl ⟨n,_,v,c.g⟩)) e
  grind
 have o:∀{l:Go.Loc},mc Y.Sh l->mc (λb=>Y.Sh b∨b=Y.Wg) l:=λ{l} hl=>by cases l<;>first|exact .inl hl|exact hl
 refine⟨h.nr,λi a p d=>?_,λi g v F s=>?_,M,h.seen⟩
 .rcases cM i Y.T0 with hi|hi
  .exact(h.old i a hi p d).imp id λ⟨h1,h2⟩=>⟨o h1,h2⟩
  .rcases h.new i a hi p d with⟨h1,_⟩|⟨x,w,v,hT⟩
   .grind [vT]
   .rcases hT with⟨ad,e1,e2,e3⟩|⟨N,_⟩
    .exact .inr ⟨by rw[e1];exact .inr e2,e3⟩
    .left;have s:t.counts i:=⟨a,p,d,.inl (by grind)⟩
     obtain⟨z,L,C⟩:=ry.1 y;exact⟨q,z,L,C,.inr (m x w i v s)⟩
 .rcases cM i Y.T0 with hi|hi
  .exact h.over i g hi v F s
  .obtain⟨a,p,d,hk⟩:=s;rcases h.new i a hi p d with⟨h1,_⟩|⟨x,w,E,hT⟩
   .grind
   .exact⟨q,y,m x w i E ⟨a,p,d,hk⟩⟩
def TL.start{Y:Lay}{t:Trace}{B:Nat}{f:Nat->Mem}(e:Past (mc Y.Sh) B t)(hT:Y.T0=t.size)(o:1<=Y.base)(b:Y.C≠Y.Wg)(h:¬Y.Sh Y.Wg)(l:¬Y.Sh Y.C):TL Y (λ_=>0) f t 0 B :=
 ⟨o,rfl,rfl,b,h,l,λ_ _=>rfl,λx c=>absurd c (fX x),by omega,e.clean,e.seen,λi a _ k d=>e.known i a k d,λx c=>absurd c (fX x),λ_ _ _ _ _ _=>rfl,
  λi a hi k _=>by
   obtain⟨x,c,_⟩:=touch_of k
   grind,λx c=>absurd c (fX x),λi g _ n b m=>e.over i g n b m⟩
end
end
section
open Go.Conc
open Go.ConcN (WD CTag Mode Vc Ssum pend phi cnt WgLive PayAt Has RW DWs WSit RelBy sumTo upd upd_same upd_ne AtR0 get_map_set get_map_set_same norel_of Deaf_still)
open Go.ConcR (KK WgAt stA smA rd wr mk Payload g_of_ofEvents)
def Cx.work(P:ar):Cx P:={main:=ae,rely:=cv,yv:=λ_ _ _=>False,iH:=id,BZ:=True}
def Cx.lead(P:ar)(ty:aj)(Wg:Nat):Cx P:={main:=ab,rely:=λs s'=>cv s s'/\(WgLive ty Wg s.w->WgLive ty Wg s'.w),yv:=λ_ _ _=>False,iH:=λh=>h.1,BZ:=False}
instance (P:ar):(Cx.work P).hU:=⟨ay⟩
def E0:St->St->Array Event->Prop:=λ_ _ _=>False
def Es(Wg:Nat):St->St->Array Event->Prop:=λs s' es=>s'=s/\∃a:Addr,a.block=Wg/\(es=#[mk (.read a)]∨es=#[mk (.write a)])
def QI:Nat->Go.Loc->Prop:=λ_ _=>False
variable [Payload]
structure Vj(C N lo k:Nat)(vs:Nat->ah)(w w':aA):Prop where
 tape:w'.tape=w.tape
 os:w'.os=w.os
 output:w'.output=w.output
 size:w'.heap.size=w.heap.size
 block:∀b,b≠C->w'.heap[b]?=w.heap[b]?
 pay:PayAt C N w'
 out:∀o,(o<lo∨lo+k<=o)->w'.cell? ⟨C,o,af⟩=w.cell? ⟨C,o,af⟩
 new:∀i,i<k->w'.cell? ⟨C,lo+i,af⟩=aa (vs i)
section
variable (P:ar)(ty:aj)(Y:Lay)(N:Nat)(val:Nat->Nat->ah)
def Kj(x:Nat)(g:av)(s:St):Prop :=
 g.status=.running/\∀w1,cv s {s with w:=w1}->PayAt Y.C N w1->WgLive ty Y.Wg w1 ->
  ∃g' w2 es,aH P ae g w1=.go g' w2 es/\Vj Y.C N (Y.kc*x) Y.kc (val x) w1 w2/\(∀e∈es,∃o,e=⟨.cell ⟨Y.C,o,af⟩,ab,ae⟩/\Y.kc*x<=o/\o<Y.kc*x+Y.kc) /\
   ∃m,Goes P ae (RW ty Y.Wg Y.C N 0 (Y.kc*x)) Go.ConcR.DC0 (AtR0 P ty Y.Wg Y.C N 0 (Y.kc*x+1) (val x 0)) m g' w2
end
structure mh(f:Nat->Nat)(r:Mem)(g:Nat)(s:St):Prop where
 blk:∀b,(s.own b∨∃L∈s.β,b∈L.bs)->f b=g/\b<s.w.heap.size
 M:∀b o v,s.M b o=aa v->(f b=g∨r b o=aa v)/\b<s.w.heap.size
structure j6(Y:Lay)(f:Nat->Nat)(A:Nat->Mem)(j:Nat)(s:St):Prop where
 blk:∀b,(s.own b∨∃L∈s.β,b∈L.bs)->f b=0/\b≠Y.C/\b≠Y.Wg/\¬Y.Sh b/\b<s.w.heap.size
 M:∀b o v,s.M b o=aa v->f b=0/\b≠Y.C/\b≠Y.Wg/\¬Y.Sh b/\b<s.w.heap.size
 ms:∀x,x<j->∀b o v,A x b o=aa v->s.M b o=aa v
structure HZ(Y:Lay)(f:Nat->Nat)(r:Mem)(y:Nat)(w w':aA):Prop where
 size:w.heap.size<=w'.heap.size
 blk:∀b,b<w.heap.size->f b=Y.base+y->w'.heap[b]?=w.heap[b]?
 cell:∀b o v,r b o=aa v->w.cell? ⟨b,o,af⟩=aa v->w'.cell? ⟨b,o,af⟩=aa v
 pay:∀o,Y.kc*y<=o->o<Y.kc*y+Y.kc->w'.cell? ⟨Y.C,o,af⟩=w.cell? ⟨Y.C,o,af⟩
 os:w'.os=w.os
 tape:w'.tape=w.tape
 output:w'.output=w.output
omit [Payload]in
def HZ.refl(Y:Lay)(f:Nat->Nat)(r:Mem)(y:Nat)(w:aA):HZ Y f r y w w:=⟨bc _,λ_ _ _=>rfl,λ_ _ _ _ h=>h,λ_ _ _=>rfl,rfl,rfl,rfl⟩
omit [Payload]in
def HZ.at(Y:Lay)(f:Nat->Nat)(r:Mem)(y:Nat)(w:aA)(d:Nat):HZ Y f r y w (w.at d):=⟨bc _,λ_ _ _=>rfl,λ_ _ _ _ h=>h,λ_ _ _=>rfl,rfl,rfl,rfl⟩
structure EF(Y:Lay)(f:Nat->Nat)(w w':aA):Prop where
 size:w.heap.size<=w'.heap.size
 blk:∀b,b<w.heap.size->f b=0->b≠Y.C->b≠Y.Wg->w'.heap[b]?=w.heap[b]?
 os:w'.os=w.os
 tape:w'.tape=w.tape
 output:w'.output=w.output
omit [Payload]in
def j7{w w':aA}{b:Nat}(h:w'.heap[b]?=w.heap[b]?)(o:Nat):w'.cell? ⟨b,o,af⟩=w.cell? ⟨b,o,af⟩:=by simp[aV,h]
omit [Payload]in
def cv.more{s:St}{w w':aA}(h:cv s {s with w:=w})(t:w.heap.size<=w'.heap.size)(c:∀b,(s.own b∨∃L∈s.β,b∈L.bs)->w'.heap[b]?=w.heap[b]?)(X:∀b o v,s.M b o=aa v->w.cell? ⟨b,o,af⟩=aa v->w'.cell? ⟨b,o,af⟩=aa v)(l:w'.os=w.os)(p:w'.tape=w.tape)(u:w'.output=w.output):cv s {s with w:=w'} :=
 ⟨rfl,rfl,rfl,iZ h.size t,λb J=>by show w'.heap[b]?=_;rw[c b J];exact h.fy b J,λb o v q=>X b o v q (h.mem b o v q),l.trans h.os,p.trans h.tape,u.trans h.output⟩
section
variable {Y:Lay}{f hm':Nat->Nat}{A:Nat->Mem}{j y:Nat}{s:St}{w w':aA}
omit [Payload]in
def mh.Kk(n:mh f (A y) (Y.base+y) s)(h:cv s {s with w:=w})(k:HZ Y f (A y) y w w'):cv s {s with w:=w'}:=by
 have t:=h.size;refine h.more k.size (λb c=>?_) (λb o v q K=>?_) k.os k.tape k.output
 .obtain⟨l,p⟩:=n.blk b c;exact k.blk b (c7 p t) l
 .obtain⟨l,p⟩:=n.M b o v q;rcases l with l|l
  .rw[j7 (k.blk b (c7 p t) l) o];exact K
  .exact k.cell b o v l K
omit [Payload]in
def mh.tX{r:Mem}{g:Nat}(n:mh f r g s)(h:s.w.heap.size<=w.heap.size)(W:∀b,b<w.heap.size->hm' b=f b):mh hm' r g s :=
 ⟨λb c=>let ⟨l,p⟩:=n.blk b c;⟨by grind,p⟩,λb o v q=>let ⟨l,p⟩:=n.M b o v q;⟨by grind,p⟩⟩
omit [Payload]in
def j6.Kk(n:j6 Y f A j s)(h:cv s {s with w:=w})(k:EF Y f w w'):cv s {s with w:=w'}:=by
 have t:=h.size;refine h.more k.size (λb c=>?_) (λb o v q K=>?_) k.os k.tape k.output
 .obtain⟨l,p,u,G,E⟩:=n.blk b c;exact k.blk b (c7 E t) l p u
 .obtain⟨l,p,u,G,E⟩:=n.M b o v q;rw[j7 (k.blk b (c7 E t) l p u) o];exact K
omit [Payload]in
def j6.tX(n:j6 Y f A j s)(h:s.w.heap.size<=w.heap.size)(W:∀b,b<w.heap.size->hm' b=f b):j6 Y hm' A j s :=
 ⟨λb c=>let ⟨l,p,u,G,E⟩:=n.blk b c;⟨by grind,p,u,G,E⟩,
  λb o v q=>let ⟨l,p,u,G,E⟩:=n.M b o v q;⟨by grind,p,u,G,E⟩,n.ms⟩
omit [Payload]in
def mh.rely{r:Mem}{g:Nat}(n:mh f r g s)(h:s.w.heap.size<=w.heap.size):mh f r g {s with w:=w} :=
 ⟨λb c=>let ⟨l,p⟩:=n.blk b c;⟨l,c7 p h⟩,λb o v q=>let ⟨l,p⟩:=n.M b o v q;⟨l,c7 p h⟩⟩
omit [Payload]in
def j6.rely(n:j6 Y f A j s)(h:s.w.heap.size<=w.heap.size):j6 Y f A j {s with w:=w} :=
 ⟨λb c=>let ⟨l,p,u,G,E⟩:=n.blk b c;⟨l,p,u,G,c7 E h⟩,λb o v q=>let ⟨l,p,u,G,E⟩:=n.M b o v q;⟨l,p,u,G,c7 E h⟩,n.ms⟩
omit [Payload]in
theorem mh.ghost{r:Mem}{g:Nat}{s':St}(n:mh f r g s)(k:eF s s'):mh f r g s':=by
 refine⟨λb c=>by rw[k.w];exact n.blk b (k.blk b c),λb o v q=>?_⟩;rw[k.w];by_cases c:∃L∈s.β,b∈L.bs
 .obtain⟨l,p⟩:=n.blk b (.inr c);grind
 .exact n.M b o v (by rw[<-k.je b (λL D z=>c ⟨L,D,z⟩)];exact q)
omit [Payload]in
def mh.forget{r:Mem}{g:Nat}{s':St}(n:mh f r g s)(k:nk s s'):mh f r g s' :=
 ⟨λb c=>by rw[k.w];exact n.blk b (by rw[<-k.own,<-k.β];exact c),λb o v q=>by rw[k.w];exact n.M b o v (k.less b o v q)⟩
omit [Payload]in
theorem j6.ghost{s':St}(n:j6 Y f A j s)(k:eF s s'):j6 Y f A j s':=by
 refine⟨λb c=>by rw[k.w];exact n.blk b (k.blk b c),λb o v q=>?_,λx Q b o v q=>k.mem _ _ _ (n.ms x Q b o v q)⟩;rw[k.w];by_cases c:∃L∈s.β,b∈L.bs
 .exact n.blk b (.inr c)
 .exact n.M b o v (by rw[<-k.je b (λL D z=>c ⟨L,D,z⟩)];exact q)
def nT(f:Nat->Nat)(B g:Nat):Nat->Nat:=λb=>if b<B then f b else g
omit [Payload]in
theorem fh{f:Nat->Nat}{B g b:Nat}(h:b<B):nT f B g b=f b:=by simp[nT,h]
omit [Payload]in
theorem tY{f:Nat->Nat}{B g b:Nat}(h:B<=b):nT f B g b=g:=by simp[nT,mN.2 h]
omit [Payload]in
def mh.step{r:Mem}{g:Nat}{s':St}{σ σ':List aR}(n:mh f r g s)(H:aF σ' s')(st:Step σ s σ' s'):mh (nT f s.w.heap.size g) r g s':=by
 refine⟨λb c=>?_,λb o v q=>?_⟩
 .rcases c with c|⟨L,D,c⟩
  .rw[st.own]at c;obtain⟨l,p⟩:=n.blk b (.inl c);exact⟨by grind[fh],c7 p st.size⟩
  .have F:=H.lt L D b c;rcases st.vJ L D b c with l|⟨O,I,l⟩
   .grind [tY]
   .obtain⟨k1,R⟩:=n.blk b (.inr ⟨O,I,l⟩);grind[fh]
 .have F:=gX.lt H.mem q;rcases cM b s.w.heap.size with l|l
  .rw[fh l];by_cases c:∃L∈s.β,b∈L.bs
   .exact⟨.inl (n.blk b (.inr c)).1,F⟩
   .rw[st.je b l (λL D z=>c ⟨L,D,z⟩)]at q;exact⟨(n.M b o v q).1,F⟩
  grind[tY]
omit [Payload]in
def j6.step{s':St}{σ σ':List aR}(n:j6 Y f A j s)(H:aF σ' s')(st:Step σ s σ' s')(hW:Y.Wg<s.w.heap.size)(Z:Y.C<s.w.heap.size)(hS:∀b,Y.Sh b->b<s.w.heap.size):j6 Y (nT f s.w.heap.size 0) A j s':=by
 have S:∀b,s.w.heap.size<=b->b<s'.w.heap.size->nT f s.w.heap.size 0 b=0/\b≠Y.C/\b≠Y.Wg/\¬Y.Sh b/\b<s'.w.heap.size:=λb l p =>
  ⟨tY l,by omega,by omega,λh=>by grind,p⟩
 refine⟨λb c=>?_,λb o v q=>?_,λx Q b o v q=>st.mem _ _ _ (n.ms x Q b o v q)⟩
 .rcases c with c|⟨L,D,c⟩
  .rw[st.own]at c;obtain⟨l,p,u,G,E⟩:=n.blk b (.inl c);exact⟨by grind[fh],p,u,G,c7 E st.size⟩
  .have F:=H.lt L D b c;rcases st.vJ L D b c with l|⟨O,I,l⟩
   .grind
   .obtain⟨k1,R,T,U,V⟩:=n.blk b (.inr ⟨O,I,l⟩);grind[fh]
 .have F:=gX.lt H.mem q;rcases cM b s.w.heap.size with l|l
  .by_cases c:∃L∈s.β,b∈L.bs
   .obtain⟨k1,R,T,U,V⟩:=n.blk b (.inr c);grind[fh]
   .rw[st.je b l (λL D z=>c ⟨L,D,z⟩)]at q;obtain⟨k1,R,T,U,V⟩:=n.M b o v q;grind[fh]
  grind
end
end
section
open Go.Conc
open Go.ConcN (WD CTag Mode Vc Ssum pend phi cnt WgLive PayAt Has RW DWs WSit RelBy sumTo upd upd_same upd_ne AtR0 get_map_set get_map_set_same norel_of Deaf_still)
open Go.ConcR (KK WgAt stA smA rd wr mk Payload g_of_ofEvents)
variable [Payload]
section
variable (P:ar)(ty:aj)(Y:Lay)(N:Nat)(val:Nat->Nat->ah)(l:Nat->Nat)(c:Nat->Mem)
inductive WS (x:Nat):Nat->Nat->Rk->Nat->av->aA->Prop
 |am {r:Rk} {g:av} {s:St} {w:aA}:kK (Cx.work P) E0 (Kj P ty Y N val x) r g s->cv s {s with w:=w}->mh l (c x) (Y.base+x) s->WS x 1 7 r 0 g w
 |rel {m:Nat} {g:av} {w:aA}:Goes P ae (RW ty Y.Wg Y.C N 0 (Y.kc*x)) Go.ConcR.DC0 (AtR0 P ty Y.Wg Y.C N 0 (Y.kc*x+1) (val x 0)) m g w->WS x 0 7 (Rk.nat m) 0 g w
 |tail {st m d:Nat} {g:av} {w:aA}:st<=6->WSit P ty Y.Wg Y.C N QI QI 0 (Y.kc*x+1) (val x 0) st m d g w->WS x 0 st (Rk.nat m) d g w
structure Com(j:Nat)(gs:Array av)(w:aA)(t:Trace)(D:Nat->WD)(A:Nat->Nat)(K:Nat->Rk)(n:Nat):Prop where
 size:gs.size=Y.base+j
 lv:∀i g,0<i->i<Y.base->gs[i]?=aa g->∃m,K i=Rk.nat m/\QuitsD P m (Deaf t i) g
 above:∀i,Y.base+j<=i->Deaf t i=0
 wk:∀x,x<j->∃g,gs[Y.base+x]?=aa g/\WS P ty Y N val l c x (A x) (D x).stage (K (Y.base+x)) (D x).deaf g w
 tl:TL Y l c t j w.heap.size
 norel:sE t
 deaf0:Deaf t 0=n
 deafW:∀x,x<j->Deaf t (Y.base+x)=(D x).deaf
 rel:∀x,x<j->(D x).stage<=6->∃r,RelBy (stA Y.Wg) t (Y.base+x) r
 yD:∀x,x<j->A x=0->∀i,1<=i->i<Y.kc->w.cell? ⟨Y.C,Y.kc*x+i,af⟩=aa (val x i)
 Cs:∀x,x<j->(D x).stage<=6->Has Y.C (Y.kc*x) (val x 0) w
 pay:PayAt Y.C N w
 live:WgLive ty Y.Wg w
 BS:Y.Wg<w.heap.size
 Ef:Y.C<w.heap.size
 NF:∀b,Y.Sh b->b<w.heap.size
 kc:0<Y.kc
 Ot:∀y,y<j->∀b o v,c y b o=aa v->b<w.heap.size
end
section
variable {P:ar}{ty:aj}{Y:Lay}{N:Nat}{val:Nat->Nat->ah}{l hm':Nat->Nat}{c:Nat->Mem}{j x:Nat}{gs:Array av}{w w':aA}{t:Trace}{D:Nat->WD}{A:Nat->Nat}{K:Nat->Rk}{n:Nat}
def RW.Kk(k:HZ Y l (c x) x w w')(hl:WgLive ty Y.Wg w')(a:PayAt Y.C N w')(hk:0<Y.kc):RW ty Y.Wg Y.C N 0 (Y.kc*x+1-1) w w' :=
 ⟨λb d=>absurd d (fX b),λ_=>hl,λ_=>a,k.pay _ (bc _) (by grind)⟩
def WS.Kk{a st d:Nat}{r:Rk}{g:av}(h:WS P ty Y N val l c x a st r d g w)(k:HZ Y l (c x) x w w')(hl:WgLive ty Y.Wg w')(e:PayAt Y.C N w')(hk:0<Y.kc)(hh:∀b,b<w.heap.size->hm' b=l b):
  WS P ty Y N val hm' c x a st r d g w':=by
 cases h with
 |am h1 h2 h3=>exact .am h1 (h3.Kk h2 k) (h3.tX h2.size hh)
 |rel h1=>exact .rel (Goes.rely (λ_ _ _ h1 h2=>h1.trans h2) h1 (RW.Kk k hl e hk))
 |tail h0 h1=>exact .tail h0 (h1.rely (RW.Kk k hl e hk))
omit [Payload]in
def kK.run{X:Cx P}{E:St->St->Array Event->Prop}{S:av->St->Prop}(p:∀g s,S g s->g.status=.running):∀{r:Rk}{g:av}{s:St},kK X E S r g s->g.status=.running
 |.leaf,_,_,h=>p _ _ h
 |.node f,g,s,h=>by
  rcases h with h|⟨s',_,h⟩|⟨h,_⟩
  .grind
  .exact kK.run p (r:=f s) h
  grind
def WS.status{a st d:Nat}{r:Rk}{g:av}(h:WS P ty Y N val l c x a st r d g w):g.status=.running∨g.status=.finished:=by
 cases h with
 |am h1 _ _=>exact .inl (h1.run λg s h=>h.1)
 |rel h1=>exact .inl (Goes.running (λ_ _ x=>x.1) w (Go.ConcN.RW.refl w) h1)
 |tail _ h1=>exact h1.status
def WS.woken{a st d:Nat}{r:Rk}{g:av}(h:WS P ty Y N val l c x a st r d g w)(b e:av)(w':aA):woken P b e w' g=g:=by
 unfold Go.Conc.woken;split
 .exact again_running _ h.status
 .rfl
def Com.at(h:Com P ty Y N val l c j gs w t D A K n)(d:Nat):Com P ty Y N val l c j gs (w.at d) t D A K n :=
 ⟨h.size,h.lv,h.above,λx a=>let ⟨g,h1,h2⟩:=h.wk x a;⟨g,h1,h2.Kk (.at ..) h.live h.pay h.kc λ_ _=>rfl⟩,h.tl,h.norel,h.deaf0,h.deafW,h.rel,h.yD,h.Cs,h.pay,h.live,h.BS,h.Ef,h.NF,h.kc,h.Ot⟩
def Com.stepW(h:Com P ty Y N val l c j gs w t D A K n)(hx:x<j){g g':av}{fn:aJ}{pos:String}{es:Array Event}{a' qV d':Nat}{r':Rk}(hh:∀b,b<w.heap.size->hm' b=l b)(B:w.heap.size<=w'.heap.size)(u:∀y,y<j->y≠x->HZ Y l (c y) y w w')(O:WS P ty Y N val hm' c x a' qV r' d' g' w')(Vk:∀e∈es,(aK e).low w'.heap.size)(XP:∀e∈es,∀a,(aK e).touch?=aa a->a.loc.isMemory=ab->rf Y hm' (c x) x a)(T:∀e∈es,∀a,e.loc≠.mark (.release a))(I:deafBehind (D x).deaf es=d')(ac4:qV<=6->∃r,RelBy (stA Y.Wg) (t++MemOp.ofEvents (Y.base+x) fn pos es) (Y.base+x) r)(h1:a'=0->∀i,1<=i->i<Y.kc->w'.cell? ⟨Y.C,Y.kc*x+i,af⟩=aa (val x i))(h0:qV<=6->Has Y.C (Y.kc*x) (val x 0) w')(H:PayAt Y.C N w')(q:WgLive ty Y.Wg w'):
  Com P ty Y N val hm' c j ((gs.map (woken P g g' w')).setIfInBounds (Y.base+x) g') w' (t++MemOp.ofEvents (Y.base+x) fn pos es) (upd D x ⟨qV,0,d'⟩) (upd A x a') (upd K (Y.base+x) r') n:=by
 have Z:=h.tl.base;have F:∀y,y≠x->Y.base+x≠Y.base+y:=λy d e=>d (by omega);have V:∀i G,0<i->i<Y.base->((gs.map (Go.Conc.woken P g g' w')).setIfInBounds (Y.base+x) g')[i]?=aa G->gs[i]?=aa G:=by intro i G hi QJ yE;rw[get_map_set _ _ _ _ (by omega)]at yE;obtain⟨z,hz,rfl⟩:=ry.1 yE;obtain⟨m,_,hq⟩:=h.lv i z hi QJ hz;grind[woken_quitsD]
 refine⟨by simp[h.size],λi G hi QJ yE=>?_,λi hi=>?_,λy d=>?_,?_,h.norel.app T,by rw[Deaf_other t (by omega) _ g_of_ofEvents,h.deaf0],λy d=>?_,λy d k=>?_,λy d L i U R=>?_,λy d k=>?_,H,q,c7 h.BS B,c7 h.Ef B,λb Z=>c7 (h.NF b Z) B,h.kc,λy d b o v Q=>c7 (h.Ot y d b o v Q) B⟩
 .obtain⟨m,M,W⟩:=h.lv i G hi QJ (V i G hi QJ yE);refine⟨m,by rw[upd_ne K _ (by omega)];exact M,?_⟩;rw[Deaf_other t (by omega) _ g_of_ofEvents];exact W
 .rw[Deaf_other t (by omega) _ g_of_ofEvents];exact h.above i hi
 .by_cases e:y=x
  .subst e;exact⟨g',get_map_set_same _ _ _ (by rw[h.size];omega),by rw[upd_same,upd_same,upd_same];exact O⟩
  .obtain⟨G,yE,J⟩:=h.wk y d;refine⟨G,by rw[get_map_set _ _ _ _ (F y e),yE,lS,J.woken],?_⟩;rw[upd_ne A _ e,upd_ne D _ e,upd_ne K _ (F y e).symm];exact J.Kk (u y d e) q H h.kc hh
 .refine(h.tl.tX hh B h.BS h.Ef h.NF λy d b o v Q=>?_).appW hx (λop mP=>by grind[Go.Conc.mem_ofEvents]) (λop mP=>?_) (λop mP a L hma=>?_)
  .exact h.Ot y d b o v Q
  .grind [Go.Conc.mem_ofEvents]
  grind[Go.Conc.mem_ofEvents]
 .by_cases e:y=x
  .subst e;rw[Deaf_own,h.deafW y d,upd_same];exact I
  .rw[Deaf_other t (F y e) _ g_of_ofEvents,h.deafW y d,upd_ne D _ e]
 .by_cases e:y=x
  .subst e;rw[upd_same]at k;grind
  .rw[upd_ne D _ e]at k;obtain⟨r,hr⟩:=h.rel y d k;exact⟨r,hr.appOther g_of_ofEvents (F y e)⟩
 .by_cases e:y=x
  .subst e;rw[upd_same]at L;grind
  .rw[upd_ne A _ e]at L;rw[(u y d e).pay _ (by omega) (by omega)];exact h.yD y d L i U R
 .by_cases e:y=x
  .subst e;rw[upd_same]at k;grind
  .rw[upd_ne D _ e]at k;have:=h.Cs y d k;have hk:=h.kc;simp only[Has]at this⊢;rw[(u y d e).pay _ (by omega) (by omega)];exact this
def Com.step0(h:Com P ty Y N val l c j gs w t D A K n){g g':av}{fn:aJ}{pos:String}{es:Array Event}(hh:∀b,b<w.heap.size->hm' b=l b)(u:w.heap.size<=w'.heap.size)(q:∀y,y<j->HZ Y l (c y) y w w')(T:∀e∈es,(aK e).low w'.heap.size)(Z:∀e∈es,∀a,(aK e).touch?=aa a->a.loc.isMemory=ab->sV Y hm' a)(U:∀e∈es,∀a,(aK e).touch?=aa a->a.kind=.plain->a.write=ab->∀x,x<j->∀b o v,a.loc=.cell ⟨b,o,af⟩->c x b o≠aa v)(M:∀e∈es,∀a,e.loc≠.mark (.release a))(B:PayAt Y.C N w')(k:WgLive ty Y.Wg w'):
  Com P ty Y N val hm' c j ((gs.map (woken P g g' w')).setIfInBounds 0 g') w' (t++MemOp.ofEvents 0 fn pos es) D A K (deafBehind n es):=by
 have Q:=h.tl.base;have hk:=h.kc;refine⟨by simp[h.size],λi R hi QJ yE=>?_,λi hi=>?_,λy d=>?_,?_,h.norel.app M,by rw[Deaf_own,h.deaf0],λy d=>by rw[Deaf_other t (by omega) _ g_of_ofEvents,h.deafW y d],λy d F=>?_,λy d J i O L=>?_,λy d F=>?_,B,k,c7 h.BS u,c7 h.Ef u,λb Q=>c7 (h.NF b Q) u,h.kc,λy d b o v V=>c7 (h.Ot y d b o v V) u⟩
 .rw[get_map_set _ _ _ _ (by omega)]at yE;obtain⟨z,hz,rfl⟩:=ry.1 yE;obtain⟨m,I,H⟩:=h.lv i z hi QJ hz;exact⟨m,I,by rw[woken_quitsD H,Deaf_other t (by omega) _ g_of_ofEvents];exact H⟩
 .rw[Deaf_other t (by omega) _ g_of_ofEvents];exact h.above i hi
 .obtain⟨R,yE,G⟩:=h.wk y d;exact⟨R,by rw[get_map_set _ _ _ _ (by omega),yE,lS,G.woken],G.Kk (q y d) k B h.kc hh⟩
 .refine(h.tl.tX hh u h.BS h.Ef h.NF h.Ot).app0 (λop mP=>by grind[Go.Conc.mem_ofEvents]) (λop mP=>?_) (λop mP a J W=>?_) (λop mP a J=>?_)
  .grind [Go.Conc.mem_ofEvents]
  .grind [Go.Conc.mem_ofEvents]
  grind[Go.Conc.mem_ofEvents]
 .obtain⟨r,hr⟩:=h.rel y d F;exact⟨r,hr.appOther g_of_ofEvents (by omega)⟩
 .rw[(q y d).pay _ (by omega) (by omega)];exact h.yD y d J i O L
 .have:=h.Cs y d F;simp only[Has]at this⊢;rw[(q y d).pay _ (by omega) (by omega)];exact this
def Com.leave(h:Com P ty Y N val l c j gs w t D A K n){i m:Nat}(hi:0<i)(F:i<Y.base){g g':av}{fn:aJ}{pos:String}{es:Array Event}(v:∀e∈es,e.mute=ab)(L:QuitsD P m (deafBehind (Deaf t i) es) g'):
  Com P ty Y N val l c j ((gs.map (woken P g g' w)).setIfInBounds i g') w (t++MemOp.ofEvents i fn pos es) D A (upd K i (Rk.nat m)) n:=by
 have M:=h.tl.base;have q:∀e∈es,∀a,e.loc≠.mark (.release a):=λe J a=>wu (v e J) a;refine⟨by simp[h.size],λk C hk hkb yE=>?_,λk hk=>?_,λy d=>?_,?_,h.norel.app q,by rw[Deaf_other t (by omega) _ g_of_ofEvents,h.deaf0],λy d=>by rw[Deaf_other t (by omega) _ g_of_ofEvents,h.deafW y d],λy d B=>?_,h.yD,h.Cs,h.pay,h.live,h.BS,h.Ef,h.NF,h.kc,h.Ot⟩
 .by_cases e:k=i
  .subst e;rw[get_map_set_same _ _ _ (by grind)]at yE;cases yE;exact⟨m,by rw[upd_same],by grind[Deaf_own]⟩
  .rw[get_map_set _ _ _ _ (Ne.symm e)]at yE;obtain⟨z,H,rfl⟩:=ry.1 yE;obtain⟨I,u,o⟩:=h.lv k z hk hkb H;exact⟨I,by rw[upd_ne K _ e];exact u,by rw[woken_quitsD o,Deaf_other t (Ne.symm e) _ g_of_ofEvents];exact o⟩
 .rw[Deaf_other t (by omega) _ g_of_ofEvents];exact h.above k hk
 .obtain⟨C,yE,b⟩:=h.wk y d;exact⟨C,by rw[get_map_set _ _ _ _ (by omega),yE,lS,b.woken],by rw[upd_ne K _ (by omega)];exact b⟩
 .exact h.tl.mute (g:=i) (λop mP=>by grind[Go.Conc.mem_ofEvents]) (λop mP=>by grind[Go.Conc.mem_ofEvents,low_mute]) (λop mP=>by grind[Go.Conc.mem_ofEvents,touch_mute])
 .obtain⟨r,G⟩:=h.rel y d B;exact⟨r,G.appOther g_of_ofEvents (by omega)⟩
def Com.spawn(h:Com P ty Y N val l c j gs w t D A K 0){a' child:av}{x y:MemOp}{r:Rk}{s:St}(J:x.g=0/\x.act=.go (Y.base+j))(I:y.g=Y.base+j/\y.act=.start)(O:∀b o v,c j b o=aa v->l b=0/\b≠Y.C/\b≠Y.Wg/\¬Y.Sh b/\b<w.heap.size)(H:kK (Cx.work P) E0 (Kj P ty Y N val j) r child s)(B:cv s {s with w:=w})(M:mh l (c j) (Y.base+j) s):
  Com P ty Y N val l c (j+1) ((gs.setIfInBounds 0 a').push child) w (t++#[x,y]) (upd D j ⟨7,0,0⟩) (upd A j 1) (upd K (Y.base+j) r) 0:=by
 have T:=h.tl.base;have R:∀op∈#[x,y],op=x∨op=y:=by grind
 have d:∀op∈#[x,y],op.act≠.mark .disable/\op.act≠.mark .enable:=by grind
 have q:∀i,0<i->i<Y.base+j->((gs.setIfInBounds 0 a').push child)[i]?=gs[i]?:=λi hi vg=>by rw[Array.getElem?_push_lt (by simp[h.size];omega),<-gm,wo (by omega)]
 refine⟨by simp[h.size];omega,λi g hi QJ hg=>?_,λi hi=>?_,λz k=>?_,h.tl.fork J I h.deaf0 (h.above _ (bc _)) λb o v F=>let ⟨h1,h2,Q,L,_⟩:=O b o v F;⟨h1,h2,Q,L⟩,λad=>(h.norel ad).app λop mP=>?_,by rw[Deaf_still t 0 _ d,h.deaf0],λz k=>?_,λz k e=>?_,λz k G=>?_,λz k e=>?_,h.pay,h.live,h.BS,h.Ef,h.NF,h.kc,λz k b o v F=>?_⟩
 .rw[q i hi (by omega)]at hg;obtain⟨m,h1,h2⟩:=h.lv i g hi QJ hg;exact⟨m,by rw[upd_ne K _ (by omega)];exact h1,by rw[Deaf_still t _ _ d];exact h2⟩
 .rw[Deaf_still t _ _ d];exact h.above i (by omega)
 .rcases cM z j with vg|a
  .obtain⟨g,hg,u⟩:=h.wk z vg;exact⟨g,by grind,by rw[upd_ne D _ (by omega),upd_ne A _ (by omega),upd_ne K _ (by omega)];exact u⟩
  .obtain rfl:z=j:=by omega
   refine⟨child,?_,by rw[upd_same,upd_same,upd_same];exact .am H B M⟩;rw[show Y.base+z=(gs.setIfInBounds 0 a').size by simp[h.size],Array.getElem?_push_size]
 .grind
 .rw[Deaf_still t _ _ d];rcases cM z j with vg|a
  .rw[h.deafW z vg,upd_ne D _ (by omega)]
  .obtain rfl:z=j:=by omega
   rw[upd_same];exact h.above _ (bc _)
 .rcases cM z j with vg|a
  .rw[upd_ne D _ (by omega)]at e;obtain⟨r,B⟩:=h.rel z vg e;refine⟨r,B.appNot λop mP=>?_⟩;grind
  .obtain rfl:z=j:=by omega
   rw[upd_same]at e;grind
 .rcases cM z j with vg|a
  .rw[upd_ne A _ (by omega)]at G;exact h.yD z vg G
  .obtain rfl:z=j:=by omega
   rw[upd_same]at G;grind
 .rcases cM z j with vg|a
  .rw[upd_ne D _ (by omega)]at e;exact h.Cs z vg e
  .obtain rfl:z=j:=by omega
   rw[upd_same]at e;grind
 .rcases cM z j with vg|a
  .exact h.Ot z vg b o v F
  grind
end
end
section
open Go.Conc
open Go.ConcN (WD CTag Mode Vc Ssum pend phi cnt WgLive PayAt Has RW DWs WSit RelBy sumTo upd upd_same upd_ne AtR0)
open Go.ConcR (KK WgAt stA smA rd wr mk Payload g_of_ofEvents again_blocked)
variable [Payload]
section
variable (P:ar)(ty:aj)(Y:Lay)(N:Nat)(val:Nat->Nat->ah)(n:Nat)(T l:av->St->Prop)
def AtAcq(g:av)(s:St):Prop:=g.status=.running/\∃g',(∀w,aH P ab g w=.go g' w #[mk (.acquire (stA Y.Wg))])/\∀c,(Cx.lead P ty Y.Wg).rely s c->T g' c
def AtKe(g:av)(s:St):Prop:=g.status=.running/\∃g',(∀w,aH P ab g w=.go g' w #[mk .enable])/\∀c,(Cx.lead P ty Y.Wg).rely s c->(eC (Cx.lead P ty Y.Wg) (Es Y.Wg)) (AtAcq P ty Y T) g' c
def AtW4(g:av)(s:St):Prop:=g.status=.running/\∀c,(Cx.lead P ty Y.Wg).rely s c->WgAt ty Y.Wg c.w 0 0->∃g',aH P ab g c.w=.go g' c.w #[rd (stA Y.Wg)]/\(eC (Cx.lead P ty Y.Wg) (Es Y.Wg)) (AtKe P ty Y T) g' c
def AtW3(g:av)(s:St):Prop:=g.status=.running/\g.offers=af/\∀c,(Cx.lead P ty Y.Wg).rely s c ->
 ((∃st,WgAt ty Y.Wg c.w st 0)->aH P ab g c.w=.go {g with status:=.blocked} c.w #[]) /\
 (WgAt ty Y.Wg c.w 0 1->∃g',aH P ab g c.w=.go g' (c.w.setCell (smA Y.Wg) (.int .u32 0)) (semEvents (smA Y.Wg))/\(eC (Cx.lead P ty Y.Wg) (Es Y.Wg)) (AtW4 P ty Y T) g' {c with w:=c.w.setCell (smA Y.Wg) (.int .u32 0)})
def AtW2(vs:Nat)(g:av)(s:St):Prop:=g.status=.running/\∀c,(Cx.lead P ty Y.Wg).rely s c->∀v:Nat,v<2147483648->WgAt ty Y.Wg c.w (v*KK) 0 ->
 (v=vs->∃g',aH P ab g c.w=.go g' (c.w.setCell (stA Y.Wg) (.int .u64 (v*KK+1))) #[rd (stA Y.Wg),wr (stA Y.Wg)]/\(eC (Cx.lead P ty Y.Wg) (Es Y.Wg)) (AtW3 P ty Y T) g' {c with w:=c.w.setCell (stA Y.Wg) (.int .u64 (v*KK+1))}) /\
 (v≠vs->∃g',aH P ab g c.w=.go g' c.w #[rd (stA Y.Wg)]/\l g' c)
def AtW1(g:av)(s:St):Prop:=g.status=.running/\∀c,(Cx.lead P ty Y.Wg).rely s c->∀v:Nat,v<2147483648->WgAt ty Y.Wg c.w (v*KK) 0 ->
 ∃g',aH P ab g c.w=.go g' c.w #[rd (stA Y.Wg)]/\(v=0->(eC (Cx.lead P ty Y.Wg) (Es Y.Wg)) (AtKe P ty Y T) g' c)/\(v≠0->(eC (Cx.lead P ty Y.Wg) (Es Y.Wg)) (AtW2 P ty Y T l v) g' c)
def AtKd(g:av)(s:St):Prop:=g.status=.running/\∃g',(∀w,aH P ab g w=.go g' w #[mk .disable])/\∀c,(Cx.lead P ty Y.Wg).rely s c->l g' c
def St.child(s:St):St:={β:=[],M:=s.M,w:=s.w,own:=λ_=>False}
def AtGo(j:Nat)(Next:av->St->Prop)(g:av)(s:St):Prop:=g.status=.running/\∀c,(Cx.lead P ty Y.Wg).rely s c ->
 ∃g' child,aH P ab g c.w=.spawn g' child c.w #[]/\child.status=.running/\eC (Cx.work P) E0 (Kj P ty Y N val j) child c.child/\Next g' c
def AtKeS(j:Nat)(Next:av->St->Prop)(g:av)(s:St):Prop:=g.status=.running/\∃g',(∀w,aH P ab g w=.go g' w #[mk .enable])/\∀c,(Cx.lead P ty Y.Wg).rely s c->(eC (Cx.lead P ty Y.Wg) (Es Y.Wg)) (AtGo P ty Y N val j Next) g' c
def AtA1(j:Nat)(Next:av->St->Prop)(g:av)(s:St):Prop:=g.status=.running/\∀c,(Cx.lead P ty Y.Wg).rely s c->∀v:Nat,v<2147483647->WgAt ty Y.Wg c.w (v*KK) 0 ->
 ∃g',aH P ab g c.w=.go g' (c.w.setCell (stA Y.Wg) (.int .u64 ((v+1)*KK))) #[rd (stA Y.Wg),wr (stA Y.Wg)]/\(eC (Cx.lead P ty Y.Wg) (Es Y.Wg)) (AtKeS P ty Y N val j Next) g' {c with w:=c.w.setCell (stA Y.Wg) (.int .u64 ((v+1)*KK))}
def AtKdS(j:Nat)(Next:av->St->Prop)(g:av)(s:St):Prop:=g.status=.running/\∃g',(∀w,aH P ab g w=.go g' w #[mk .disable])/\∀c,(Cx.lead P ty Y.Wg).rely s c->(eC (Cx.lead P ty Y.Wg) (Es Y.Wg)) (AtA1 P ty Y N val j Next) g' c
def Spawns:Nat->av->St->Prop
 |0,g,s=>(eC (Cx.lead P ty Y.Wg) (Es Y.Wg)) (AtKd P ty Y l) g s
 |r+1,g,s=>(eC (Cx.lead P ty Y.Wg) (Es Y.Wg)) (AtKdS P ty Y N val (n-(r+1)) (Spawns r)) g s
def Rk.lift:Rk->Rk
 |.leaf=>.node λ_=>.leaf
 |.node f=>.node λs=>Rk.lift (f s)
omit [Payload]in
def Rk.GH:∀{x r:Rk},Rk.lt x r->Rk.lt x.lift r.lift
 |_,.leaf,h=>h.elim
 |_,.node _,⟨s,h⟩=>⟨s,h.elim (λe=>.inl (by rw[e])) λh=>.inr (Rk.GH h)⟩
omit [Payload]in
def Rk.Kl(s:St):∀r:Rk,∃x,Rk.lt x r.lift
 |.leaf=>⟨.leaf,s,.inl rfl⟩
 |.node f=>⟨(f s).lift,s,.inl rfl⟩
inductive CS:CTag->Nat->Rk->Nat->av->St->Prop
 |skd {r:Nat} {rk:Rk} {g:av} {s:St}:r<n->(kK (Cx.lead P ty Y.Wg) (Es Y.Wg)) (AtKdS P ty Y N val (n-(r+1)) (Spawns P ty Y N val n l r)) rk g s->CS (.sp r 5) (n-(r+1)) rk 0 g s
 |sa1 {r:Nat} {rk:Rk} {g:av} {s:St}:r<n->(kK (Cx.lead P ty Y.Wg) (Es Y.Wg)) (AtA1 P ty Y N val (n-(r+1)) (Spawns P ty Y N val n l r)) rk g s->CS (.sp r 4) (n-(r+1)) rk 1 g s
 |ske {r:Nat} {rk:Rk} {g:av} {s:St}:r<n->(kK (Cx.lead P ty Y.Wg) (Es Y.Wg)) (AtKeS P ty Y N val (n-(r+1)) (Spawns P ty Y N val n l r)) rk g s->CS (.sp r 3) (n-(r+1)) rk 1 g s
 |sgo {r:Nat} {rk:Rk} {g:av} {s:St}:r<n->(kK (Cx.lead P ty Y.Wg) (Es Y.Wg)) (AtGo P ty Y N val (n-(r+1)) (Spawns P ty Y N val n l r)) rk g s->CS (.sp r 2) (n-(r+1)) rk 0 g s
 |kd {rk:Rk} {g:av} {s:St}:(kK (Cx.lead P ty Y.Wg) (Es Y.Wg)) (AtKd P ty Y l) rk g s->CS .kd n rk 0 g s
 |w1 {rk:Rk} {g:av} {s:St}:(kK (Cx.lead P ty Y.Wg) (Es Y.Wg)) (AtW1 P ty Y T l) rk g s->CS .w1 n rk 1 g s
 |w2 {vs:Nat} {rk:Rk} {g:av} {s:St}:(kK (Cx.lead P ty Y.Wg) (Es Y.Wg)) (AtW2 P ty Y T l vs) rk g s->CS (.w2 vs) n rk 1 g s
 |w3 {rk:Rk} {g:av} {s:St}:(kK (Cx.lead P ty Y.Wg) (Es Y.Wg)) (AtW3 P ty Y T) rk g s->CS .w3 n rk.lift 1 g s
 |blk {rk:Rk} {g:av} {s:St}:AtW3 P ty Y T g s->CS .blk n rk 1 {g with status:=.blocked} s
 |w4 {rk:Rk} {g:av} {s:St}:(kK (Cx.lead P ty Y.Wg) (Es Y.Wg)) (AtW4 P ty Y T) rk g s->CS .w4 n rk 1 g s
 |ke {rk:Rk} {g:av} {s:St}:(kK (Cx.lead P ty Y.Wg) (Es Y.Wg)) (AtKe P ty Y T) rk g s->CS .ke n rk 1 g s
 |acq {rk:Rk} {g:av} {s:St}:(kK (Cx.lead P ty Y.Wg) (Es Y.Wg)) (AtAcq P ty Y T) rk g s->CS .acq n rk 0 g s
structure Fin(p:Nat->Nat)(o:Nat->Mem)(m:Machine)(t:Trace):Prop where
 out:∃(gs:Array av) (w:aA) (sl:Option (Nat×Nat)) (a:av) (s:St) (q:Nat->Nat),m=crowd gs w sl/\gs[0]?=aa a/\gs.size=Y.base+n/\T a {s with w:=w}/\cv s {s with w:=w}/\j6 Y p o n s /\
  Leavers P t gs q/\Past (mc λb=>Y.Sh b∨b=Y.Wg) w.heap.size t/\sE t/\PayAt Y.C N w/\(∀x,x<n->∀i,i<Y.kc->w.cell? ⟨Y.C,Y.kc*x+i,af⟩=aa (val x i))/\Y.C<w.heap.size/\Y.Wg<w.heap.size/\∀b,Y.Sh b->b<w.heap.size
abbrev Mu:=Nat×((Nat->Rk)×Rk)
def GI(M:Nat):Mu->Mu->Prop:=Prod.Lex (· < ·) (Prod.Lex (Vec M) Rk.lt)
omit [Payload]in
def Sn(M:Nat):WellFounded (GI M):=(Prod.lex Nat.lt_wfRel ⟨_,(Prod.lex ⟨Vec M,Ki M⟩ ⟨Rk.lt,⟨Rk.acc⟩⟩).wf⟩).wf
structure tZ(μ:Mu)(gs:Array av)(w:aA)(t:Trace)(p:Nat->Nat)(o:Nat->Mem)(j:Nat)(D:Nat->WD)(A:Nat->Nat)(K:Nat->Rk)(d0:Nat)(tag:CTag)(rk:Rk)(a:av)(s:St)(st sm:Int):Prop where
 a0:gs[0]?=aa a
 cs:CS P ty Y N val n T l tag j rk d0 a s
 rely:cv s {s with w:=w}
 lead:j6 Y p o j s
 gA:Com P ty Y N val p o j gs w t D A K d0
 wg:WgAt ty Y.Wg w st sm
 mode:Go.ConcN.Mode j D tag st sm
 mu:μ=(phi n (Vc j D) tag+Ssum j D+sumTo j A,(K,rk))
def Inv(b:Mu)(m:Machine)(t:Trace):Prop :=
 ∃(gs:Array av) (w:aA) (sl:Option (Nat×Nat)) (p:Nat->Nat) (o:Nat->Mem) (j:Nat) (D:Nat->WD) (A:Nat->Nat) (K:Nat->Rk) (i:Nat) (tag:CTag) (rk:Rk) (a:av) (s:St) (st sm:Int),
  m=crowd gs w sl/\tZ P ty Y N val n T l b gs w t p o j D A K i tag rk a s st sm
end
section
variable {P:ar}{ty:aj}{Y:Lay}{N:Nat}{val:Nat->Nat->ah}{n:Nat}{T l:av->St->Prop}{p hm':Nat->Nat}{o:Nat->Mem}{j:Nat}{tag:CTag}{rk:Rk}{d:Nat}{a:av}{s:St}{w w':aA}
omit [Payload]in
def gd{s:St}(h:cv s {s with w:=w})(B:WgLive ty Y.Wg w):(Cx.lead P ty Y.Wg).rely s {s with w:=w}:=⟨h,λ_=>B⟩
omit [Payload]in
def AtW3.rely{g:av}{c:St}(h:AtW3 P ty Y T g s)(u:(Cx.lead P ty Y.Wg).rely s c):AtW3 P ty Y T g c :=
 ⟨h.1,h.2.1,λs2 z=>h.2.2 s2 ⟨u.1.trans z.1,λx=>z.2 (u.2 x)⟩⟩
def CS.status(h:CS P ty Y N val n T l tag j rk d a s):(a.status=.running/\tag≠.blk)∨(a.status=.blocked/\tag=.blk):=by
 cases h with
 |skd _ h=>exact .inl ⟨h.run λ_ _ x=>x.1,by simp⟩
 |sa1 _ h=>exact .inl ⟨h.run λ_ _ x=>x.1,by simp⟩
 |ske _ h=>exact .inl ⟨h.run λ_ _ x=>x.1,by simp⟩
 |sgo _ h=>exact .inl ⟨h.run λ_ _ x=>x.1,by simp⟩
 |kd h=>exact .inl ⟨h.run λ_ _ x=>x.1,by simp⟩
 |w1 h=>exact .inl ⟨h.run λ_ _ x=>x.1,by simp⟩
 |w2 h=>exact .inl ⟨h.run λ_ _ x=>x.1,by simp⟩
 |w3 h=>exact .inl ⟨h.run λ_ _ x=>x.1,by simp⟩
 |blk h=>grind
 |w4 h=>exact .inl ⟨h.run λ_ _ x=>x.1,by simp⟩
 |ke h=>exact .inl ⟨h.run λ_ _ x=>x.1,by simp⟩
 |acq h=>exact .inl ⟨h.run λ_ _ x=>x.1,by simp⟩
def CS.wokenBy(h:CS P ty Y N val n T l tag j rk d a s)(g g':av)(w':aA):
  ∃tag' rk',CS P ty Y N val n T l tag' j rk' d (woken P g g' w' a) s/\(tag'=tag∨(tag=.blk/\tag'=.w3))/\(mayWake P g=ab->g'.status=.running->tag'≠.blk):=by
 unfold Go.Conc.woken;split
 .rcases h.status with⟨i,b⟩|⟨_,rfl⟩
  .grind [again_running]
  .cases h with
   |blk hb=>exact⟨.w3,Rk.lift .leaf,by rw[again_blocked hb.1 hb.2.1];exact .w3 (show kK _ _ _ .leaf _ _ from hb),.inr ⟨rfl,rfl⟩,λ_ _=>by simp⟩
 grind
def lh{μ:Mu}{gs:Array av}{sl:Option (Nat×Nat)}{t:Trace}{D:Nat->WD}{A:Nat->Nat}{K:Nat->Rk}{st sm:Int}(I:tZ P ty Y N val n T l μ gs w t p o j D A K d tag rk a s st sm){x:Nat}(W:x<j){g g':av}{es:Array Event}{a' s' d':Nat}{r':Rk}{G F:Int}(hg:gs[Y.base+x]?=aa g)(X:aH P ae g w=.go g' w' es)(hh:∀b,b<w.heap.size->hm' b=p b)(Ec:w.heap.size<=w'.heap.size)(Q:∀y,y<j->y≠x->HZ Y p (o y) y w w')(H:EF Y p w w')(hws:WS P ty Y N val hm' o x a' s' r' d' g' w')(U:∀e∈es,(aK e).low w'.heap.size)(XP:∀e∈es,∀a,(aK e).touch?=aa a->a.loc.isMemory=ab->rf Y hm' (o x) x a)(Vl:∀e∈es,∀a,e.loc≠.mark (.release a))(E:deafBehind (D x).deaf es=d')(O:s'<=6->∃r,RelBy (stA Y.Wg) (t++MemOp.ofEvents (Y.base+x) g.frame.fn g.frame.place es) (Y.base+x) r)(h1:a'=0->∀i,1<=i->i<Y.kc->w'.cell? ⟨Y.C,Y.kc*x+i,af⟩=aa (val x i))(h0:s'<=6->Has Y.C (Y.kc*x) (val x 0) w')(V:PayAt Y.C N w')(L:WgAt ty Y.Wg w' G F)(J:∀tag',(tag'=tag∨(tag=.blk/\tag'=.w3))->(mayWake P g=ab->g'.status=.running->tag'≠.blk)->Go.ConcN.Mode j (upd D x ⟨s',0,d'⟩) tag' G F)(Z:(s'+a'<(D x).stage+A x/\cnt ⟨s',0,d'⟩<=cnt (D x))∨(s'=(D x).stage/\a'=A x/\Rk.lt r' (K (Y.base+x))))(hjn:Y.base+j<=Y.base+n):
  ∃m ops μ',runT P (crowd gs w sl) (Y.base+x)=(.next m,ops)/\GI (Y.base+n) μ' μ/\Inv P ty Y N val n T l μ' m (t++ops):=by
 have hb:=I.gA.tl.base;obtain⟨tag',rk',R,q,YL⟩:=I.cs.wokenBy g g' w';have Yf:(Y.base+x==0)=ae:=by grind
 have S:=runT_crowd_go (P:=P) (sl:=sl) (i:=Y.base+x) hg (by rw[Yf];exact X)
 have e1:=Go.ConcN.sumTo_upd D (⟨s',0,d'⟩:WD) cnt W;have e2:=Go.ConcN.sumTo_upd D (⟨s',0,d'⟩:WD) WD.stage W;have e3:sumTo j (upd A x a')+A x=sumTo j A+a':=Go.ConcN.sumTo_upd A a' id W;refine⟨_,_,(phi n (Vc j (upd D x ⟨s',0,d'⟩)) tag'+Ssum j (upd D x ⟨s',0,d'⟩)+sumTo j (upd A x a'),(upd K (Y.base+x) r',rk')),S,?_,
  _,w',sl,hm',o,j,_,_,_,d,tag',rk',woken P g g' w' a,s,G,F,rfl,⟨by rw[Go.ConcN.get_map_set _ _ _ _ (by omega),I.a0];rfl,R,I.lead.Kk I.rely H,I.lead.tX I.rely.size hh,
   I.gA.stepW W hh Ec Q hws U XP Vl E O h1 h0 V ⟨_,_,L⟩,L,J tag' q YL,rfl⟩⟩
 rw[I.mu,Go.ConcN.phi_retag n _ q];simp only[Vc,Ssum]at *;rcases Z with⟨q1,q2⟩|⟨q1,q2,q3⟩
 .refine Prod.Lex.left _ _ ?_;have:=Go.ConcN.phi_mono n (v':=sumTo j λa=>cnt (upd D x ⟨s',0,d'⟩ a)) (v:=sumTo j λa=>cnt (D a)) (by omega) tag;omega
 .have ec:cnt (⟨s',0,d'⟩:WD)=cnt (D x):=by simp only[cnt,q1]
  have ev:(sumTo j λa=>cnt (upd D x ⟨s',0,d'⟩ a))=sumTo j λa=>cnt (D a):=by omega
  have es':(sumTo j λa=>(upd D x ⟨s',0,d'⟩ a).stage)=sumTo j λa=>(D a).stage:=by omega
  have ea:sumTo j (upd A x a')=sumTo j A:=by omega
  rw[ev,es',ea];exact Prod.Lex.right _ (Prod.Lex.left _ _ ⟨Y.base+x,by omega,by rw[upd_same];exact q3,λk hk=>upd_ne K _ hk⟩)
end
end
section
open Go.Conc
open Go.ConcN (WD CTag Vc Ssum pend phi cnt WgLive PayAt Has RW DWs WSit RelBy sumTo upd upd_same upd_ne AtR0 isW3 isOpen OpenSt deafBehind_idle bk_cell okW_none Vc_upd Vc_le le_sumTo others_uncounted)
open Go.ConcR (KK WgAt stA smA rd wr mk Payload g_of_ofEvents Bk bk_of_mute ofEvent_loc_mark ofEvent_cell)
variable [Payload]
section
variable {P:ar}{ty:aj}{Y:Lay}{N:Nat}{val:Nat->Nat->ah}{n:Nat}{T G:av->St->Prop}{E hm':Nat->Nat}{O:Nat->Mem}{j:Nat}{tag:CTag}{rk:Rk}{d:Nat}{a:av}{s:St}{w w':aA}
omit [Payload]in
def HZ.wg(h:Aside Y.Wg w w')(F:E Y.Wg=0)(k:1<=Y.base)(hM:∀b o v,O j b o=aa v->b≠Y.Wg)(hC:Y.C≠Y.Wg):HZ Y E (O j) j w w' :=
 ⟨by rw[h.size];grind,λb _ B6=>h.block b (λe=>by grind),λb o v H U=>by rw[j7 (h.block b (hM b o v H))];exact U,λo _ _=>j7 (h.block _ hC) o,h.os,h.tape,h.output⟩
omit [Payload]in
def EF.wg(h:Aside Y.Wg w w'):EF Y E w w':=⟨by rw[h.size];grind,λb _ _ _ z=>h.block b z,h.os,h.tape,h.output⟩
omit [Payload]in
def EF.refl(w:aA):EF Y E w w:=⟨bc _,λ_ _ _ _ _=>rfl,rfl,rfl,rfl⟩
omit [Payload]in
def Km{B:Nat}{es:Array Event}(h:∀e∈es,Bk Y.Wg e)(F:Y.Wg<B):∀e∈es,(aK e).low B:=by
 intro e c;rcases h e c with l|l|⟨ad,wr,rfl,J⟩
 .rw[ofEvent_loc_mark l];trivial
 .rw[ofEvent_loc_mark l];trivial
 .rw[ofEvent_cell];show ad.block<B;grind
omit [Payload]in
def Ou{x:Nat}{es:Array Event}(h:∀e∈es,Bk Y.Wg e):∀e∈es,∀a,(aK e).touch?=aa a->a.loc.isMemory=ab->rf Y E (O x) x a:=by
 intro e c b k _;rcases h e c with l|l|⟨ad,wr,rfl,J⟩
 .rw[ofEvent_loc_mark l]at k;cases k
 .rw[ofEvent_loc_mark l]at k;cases k
 .rw[ofEvent_cell]at k;simp only[MemAct.touch?,dw]at k;subst k;exact .inl ⟨ad,rfl,J,rfl⟩
omit [Payload]in
def Ct{es:Array Event}(h:∀e∈es,Bk Y.Wg e):∀e∈es,∀a,e.loc≠.mark (.release a):=by
 intro e c a W;rcases h e c with l|l|⟨ad,wr,rfl,_⟩
 .grind
 .grind
 grind
omit [Payload]in
def Ov{x:Nat}{σ σ':List aR}{s2:St}{es:Array Event}(V:mh E (O x) (Y.base+x) s)(S:aF σ s)(R:fg s es)(st:Step σ s σ' s2):
  (∀e∈es,(aK e).low s2.w.heap.size)/\(∀e∈es,∀a,(aK e).touch?=aa a->a.loc.isMemory=ab->rf Y (nT E s.w.heap.size (Y.base+x)) (O x) x a) /\
  (∀e∈es,e.loc≠.mark .disable/\e.loc≠.mark .enable)/\∀e∈es,∀a,e.loc≠.mark (.release a):=by
 have key:∀e∈es,(aK e).low s2.w.heap.size/\(∀a,(aK e).touch?=aa a->a.loc.isMemory=ab->rf Y (nT E s.w.heap.size (Y.base+x)) (O x) x a)/\(e.loc≠.mark .disable/\e.loc≠.mark .enable)/\∀a,e.loc≠.mark (.release a):=by
  intro e c;have h:=R e c;obtain⟨loc,wr,sy⟩:=e;cases loc with
  |cell ad =>
   obtain⟨l,z,p⟩:=h;simp only at l z p;subst l;have u:ad.block<s.w.heap.size:=by
    rcases p with p|⟨⟨L,Q,p⟩,_⟩|⟨_,v,p⟩
    .exact p.elim
    .exact S.lt L Q _ p
    .exact gX.lt S.mem p
   refine⟨by rw[ofEvent_cell];exact c7 u st.size,λb k _=>?_,⟨by simp,by simp⟩,by simp⟩;rw[ofEvent_cell]at k;simp only[MemAct.touch?,dw]at k;subst k;refine .inr ⟨rfl,?_⟩;rcases p with p|⟨⟨L,Q,p⟩,_⟩|⟨X,v,p⟩
   .exact p.elim
   .exact .inl ⟨ad.block,rfl,by rw[fh u];exact(V.blk _ (.inr ⟨L,Q,p⟩)).1⟩
   .rcases(V.M _ _ _ p).1 with Z|Z
    .exact .inl ⟨ad.block,rfl,by grind[fh]⟩
    .refine .inr (.inr ⟨X,ad.block,ad.off,v,?_,Z⟩);obtain⟨b,o,sp⟩:=ad;grind
  |obj r =>
   obtain⟨l,z⟩:=h;simp only at l z;subst l;obtain⟨L,Q,p⟩:=z.resolve_left id;have u:=S.lt L Q _ p;refine⟨?_,λb k _=>?_,⟨by simp,by simp⟩,by simp⟩
   .simp[aK,MemAct.low,Loc.low];exact c7 u st.size
   .simp[aK,MemAct.touch?]at k;subst k;exact .inr ⟨rfl,.inl ⟨r,rfl,by rw[fh u];exact(V.blk _ (.inr ⟨L,Q,p⟩)).1⟩⟩
  |mark m =>
   simp only[ow]at h;rcases h with rfl|⟨f,rfl⟩
   .exact⟨by simp[aK,MemAct.low],λb k=>by simp[aK,MemAct.touch?]at k,⟨by simp,by simp⟩,by simp⟩
   .exact⟨by simp[aK,MemAct.low],λb k=>by simp[aK,MemAct.touch?]at k,⟨by simp,by simp⟩,by simp⟩
  |_=>exact h.elim
 grind
def stepWorker{μ:Mu}{gs:Array av}{sl:Option (Nat×Nat)}{t:Trace}{D:Nat->WD}{A:Nat->Nat}{K:Nat->Rk}{st sm:Int}(I:tZ P ty Y N val n T G μ gs w t E O j D A K d tag rk a s st sm)(hn:n<2147483648)(hj:j<=n)(hpd:j+pend tag<=n){x:Nat}(hx:x<j){g:av}(hg:gs[Y.base+x]?=aa g)(wS:g.status=.running):
  ∃m₁ ops μ',runT P (crowd gs w sl) (Y.base+x)=(.next m₁,ops)/\GI (Y.base+n) μ' μ/\Inv P ty Y N val n T G μ' m₁ (t++ops):=by
 have Kn:=I.gA.tl.base;obtain⟨g₁,hg₁,hs⟩:=I.gA.wk x hx;obtain rfl:g=g₁:=by grind
 generalize Jv:(D x).stage=sg at hs;generalize hfu:K (Y.base+x)=r at hs;generalize Vm:(D x).deaf=dd at hs;generalize hA:A x=ax at hs;have hdk:Deaf t (Y.base+x)=dd:=by rw[I.gA.deafW x hx,Vm]
 have hVj:=Vc_le j D;have same:∀m' GJ,Go.ConcN.Mode j (upd D x ⟨sg,m',GJ⟩) tag st sm:=λm' GJ=>by have:=I.mode.same (i:=x) m' GJ;grind
 cases hs with
 |@am r g s0 w l z p =>
  rcases l.norm (λs0=>cv s0 {s0 with w:=w}/\mh E (O x) (Y.base+x) s0) (λs0 s' Vn hi=>⟨hi.1.ghost Vn,hi.2.ghost Vn⟩) (λ_ s0 s' Vn hi=>⟨hi.1.forget Vn,hi.2.forget Vn⟩) ⟨z,p⟩with⟨s',⟨k1,k2⟩,j8⟩|⟨_,s',⟨k1,k2⟩,ml⟩
  ·
   obtain⟨g',w2,es,hgo,F,YN,m,hk⟩:=j8.2 w k1 I.gA.pay I.gA.live;have hkc:=I.gA.kc;refine lh I hx hg hgo (hm':=E) (λ_ _=>rfl) (by rw[F.size];grind) (λy hy hyx=>⟨by rw[F.size];grind,λb _ k=>F.block b (λe=>by rw[e,I.gA.tl.hC]at k;omega),λb o v H U=>?_,λo ho1 ho2=>F.out o ?_,F.os,F.tape,F.output⟩)
    ⟨by rw[F.size];grind,λb _ _ z _=>F.block b z,F.os,F.tape,F.output⟩ (.rel hk) (λe c=>?_) (λe c b k _=>?_) (λe c=>?_) ?_ (λh=>absurd h (by decide)) (λ_ i _ hi=>F.new i hi) (λh=>absurd h (by decide)) F.pay
    (I.wg.of_block (F.block _ (Ne.symm I.gA.tl.ne))) (λ_ ht _=>(same _ _).retag ht) (.inl ⟨by omega,by simp[cnt,Jv]⟩) (by omega)
   .rw[j7 (F.block b (I.gA.tl.ms y hy b o v H).2.1)];exact U
   .rcases Nat.lt_or_gt_of_ne hyx with h|h
    .have:=vG Y.kc (show y+1<=x from h);grind
    .have:=vG Y.kc (show x+1<=y from h);grind
   .obtain⟨o,rfl,_⟩:=YN e c;rw[ofEvent_cell];show Y.C<_;rw[F.size];exact I.gA.Ef
   .obtain⟨o,rfl,ho1,ho2⟩:=YN e c;rw[ofEvent_cell]at k;simp only[MemAct.touch?,dw]at k;subst k;exact .inr ⟨rfl,.inr (.inl ⟨o,rfl,ho1,ho2⟩)⟩
   .grind
   .rw[Vm];exact deafBehind_idle (λe c=>by grind) 0
  ·
   obtain⟨g',s2,es,r',hgo,YO,NB,u⟩:=ml _ k1;obtain⟨⟨σ,σ',S,jh,Jw⟩,R⟩:=YO.resolve_right id;have k3:mh E (O x) (Y.base+x) {s' with w:=w}:=k2.rely k1.size;obtain⟨e1,e2,e3,e4⟩:=Ov k3 S R Jw;have w8:∀b,b<w.heap.size->E b≠Y.base+x->s2.w.heap[b]?=w.heap[b]?:=λb k B4=>Jw.fy b k λL Q NO=>B4 (k3.blk b (.inr ⟨L,Q,NO⟩)).1;refine lh I hx hg hgo (hm':=nT E w.heap.size (Y.base+x)) (λb k=>fh k) Jw.size (λy hy hyx=>⟨Jw.size,λb k hby=>w8 b k (by omega),λb o v H U=>?_,λo _ _=>j7 (w8 _ I.gA.Ef (by rw[I.gA.tl.hC];omega)) o,Jw.os,Jw.tape,Jw.output⟩)
    ⟨Jw.size,λb k h0 _ _=>w8 b k (by omega),Jw.os,Jw.tape,Jw.output⟩ (.am NB (cv.w7 jh.mem) (k3.step jh Jw)) e1 e2 e4 (by rw[Vm];exact deafBehind_idle e3 0) (λh=>absurd h (by decide)) (λh=>absurd h (by decide)) (λh=>absurd h (by decide)) ?_
    (I.wg.of_block (w8 _ I.gA.BS (by rw[I.gA.tl.Jt];omega))) (λ_ ht _=>(same _ _).retag ht) (.inr ⟨Jv.symm,hA.symm,by grind⟩) (by omega)
   .rw[j7 (w8 b (I.gA.Ot y hy b o v H) (by rw[(I.gA.tl.ms y hy b o v H).1];omega))];exact U
   .obtain⟨cs,c1,c2⟩:=I.gA.pay;exact⟨cs,(w8 _ I.gA.Ef (by rw[I.gA.tl.hC];omega)).trans c1,c2⟩
 |@rel m g w h =>
  rcases Goes.cases h with j8|⟨m',rfl,ml⟩
  ·
   obtain⟨_,ac8,g',hgo,m₂,hk⟩:=j8 w (Go.ConcN.RW.refl w);refine lh I hx hg hgo (hm':=E) (λ_ _=>rfl) (bc _) (λy _ _=>.refl ..) (.refl w) (.tail (by decide) (.k1 hk)) (λe c=>?_) (λe c b k _=>?_) (λe c=>?_) (by rw[Vm];rfl) (λ_=>⟨t.size,RelBy.new hdk _ _⟩) (λ_=>I.gA.yD x hx hA) (λ_=>by grind) I.gA.pay I.wg
    (λ_ ht _=>(I.mode.counted hx (by omega) (.inl rfl) _ _).retag ht) (.inl ⟨by omega,by simp[cnt,Jv]⟩) (by omega)
   .simp at c;subst c;exact I.gA.BS
   .simp at c;subst c;simp[mk,aK,MemAct.touch?]at k
   .simp at c;subst c;simp[mk]
  .obtain⟨g',w',es,hgo,⟨rfl,rfl⟩,GK⟩:=ml w (Go.ConcN.RW.refl w);exact lh I hx hg hgo (hm':=E) (λ_ _=>rfl) (bc _) (λy _ _=>.refl ..) (.refl w') (.rel GK) (by simp) (by simp) (by simp) (by rw[Vm];rfl) (λh=>absurd h (by decide)) (λ_=>I.gA.yD x hx hA) (λh=>absurd h (by decide)) I.gA.pay I.wg (λ_ ht _=>(same _ _).retag ht)
    (.inr ⟨Jv.symm,hA.symm,by rw[hfu];exact Rk.EE _ s⟩) (by omega)
 |@tail sg m dd g w h6 h =>
  have QK:∀{g':av} {w':aA} {es:Array Event} {s' m' GJ:Nat} {qV H0:Int},aH P ae g w=.go g' w' es->Aside Y.Wg w w'->WgAt ty Y.Wg w' qV H0->(∀e∈es,Bk Y.Wg e) ->
    (∀jx e,es[jx]?=aa e->(aK e).touch?=af∨0<deafBehind dd (es.extract 0 jx))->s'<=6->WSit P ty Y.Wg Y.C N QI QI 0 (Y.kc*x+1) (val x 0) s' m' GJ g' w'->deafBehind dd es=GJ ->
    (∀tag',(tag'=tag∨(tag=.blk/\tag'=.w3))->(mayWake P g=ab->g'.status=.running->tag'≠.blk)->Go.ConcN.Mode j (upd D x ⟨s',0,GJ⟩) tag' qV H0)->((s'<sg/\cnt ⟨s',0,GJ⟩<=cnt (D x))∨(s'=sg/\m'+1=m)) ->
    ∃m₁ ops μ',runT P (crowd gs w sl) (Y.base+x)=(.next m₁,ops)/\GI (Y.base+n) μ' μ/\Inv P ty Y N val n T G μ' m₁ (t++ops):=by
   intro g' w' es s' m' GJ qV H0 hgo Ow Ko H3 hd YP Vo hdd w9 u;obtain⟨cs,YQ,YR⟩:=I.gA.pay;refine lh I hx hg hgo (hm':=E) (λ_ _=>rfl) (by rw[Ow.size];grind) (λy hy _=>.wg Ow I.gA.tl.Jt Kn (λb o v H=>(I.gA.tl.ms y hy b o v H).2.2.1) I.gA.tl.ne) (.wg Ow) (.tail YP Vo) (Km H3 (by rw[Ow.size];exact I.gA.BS)) (Ou H3) (Ct H3) (by grind)
    (λ_=>let ⟨r,hr⟩:=I.gA.rel x hx (by omega);⟨r,hr.book hdk _ _ H3 hd⟩) (λ_ i hi1 ND=>(j7 (Ow.block _ I.gA.tl.ne) _).trans (I.gA.yD x hx hA i hi1 ND)) (λ_=>(j7 (Ow.block _ I.gA.tl.ne) _).trans (I.gA.Cs x hx (by omega))) ⟨cs,(Ow.block _ I.gA.tl.ne).trans YQ,YR⟩ Ko w9
    (u.imp (λh=>⟨by omega,h.2⟩) λh=>⟨by omega,hA.symm,by rw[hfu,<-h.2];exact Rk.EE _ s⟩) (by omega)
  have book:∀{g':av} {w':aA} {es:Array Event} {s' m' GJ:Nat} {qV H0:Int},aH P ae g w=.go g' w' es->Aside Y.Wg w w'->WgAt ty Y.Wg w' qV H0->(∀e∈es,Bk Y.Wg e) ->
    (∀jx e,es[jx]?=aa e->(aK e).touch?=af∨0<deafBehind dd (es.extract 0 jx))->s'<=6->WSit P ty Y.Wg Y.C N QI QI 0 (Y.kc*x+1) (val x 0) s' m' GJ g' w'->deafBehind dd es=GJ ->
    Go.ConcN.Mode j (upd D x ⟨s',0,GJ⟩) tag qV H0->((s'<sg/\cnt ⟨s',0,GJ⟩<=cnt (D x))∨(s'=sg/\m'+1=m)) ->
    ∃m₁ ops μ',runT P (crowd gs w sl) (Y.base+x)=(.next m₁,ops)/\GI (Y.base+n) μ' μ/\Inv P ty Y N val n T G μ' m₁ (t++ops) :=
   λhgo Ow Ko H3 hd YP Vo hdd w9 u=>QK hgo Ow Ko H3 hd YP Vo hdd (λ_ ht _=>w9.retag ht) u
  have idle:∀{g':av} {m':Nat},aH P ae g w=.go g' w #[]->WSit P ty Y.Wg Y.C N QI QI 0 (Y.kc*x+1) (val x 0) sg m' dd g' w->m'+1=m ->
    ∃m₁ ops μ',runT P (crowd gs w sl) (Y.base+x)=(.next m₁,ops)/\GI (Y.base+n) μ' μ/\Inv P ty Y N val n T G μ' m₁ (t++ops):=by intro g' m' hgo Vo E;exact book hgo (.refl Y.Wg w) I.wg (by simp) (by simp) h6 Vo rfl (same _ _) (.inr ⟨rfl,E⟩)
  cases h with
  |r0 h=>omega
  |k1 h =>
   rcases Goes.cases h with j8|⟨m',rfl,ml⟩
   .obtain⟨_,g',hgo,m₂,hk⟩:=j8 w (Go.ConcN.RW.refl w);exact book hgo (.refl Y.Wg w) I.wg (by intro e c;simp at c;subst c;exact .inl rfl) (by intro jx e c;exact .inl (by have:=vF c;simp at this;subst this;rfl)) (by decide) (.d1 hk) rfl (I.mode.counted hx (by omega) (.inr rfl) _ _) (.inl ⟨by omega,by simp[cnt,Jv]⟩)
   .obtain⟨g',w',es,hgo,⟨rfl,rfl⟩,GK⟩:=ml w (Go.ConcN.RW.refl w);exact idle hgo (.k1 GK) rfl
  |d1 h =>
   rcases Goes.cases h with j8|⟨m',rfl,ml⟩
   .obtain⟨_,RZ⟩:=j8 w (Go.ConcN.RW.refl w);have AA:=I.wg;have Kp:=I.mode;have Qq:cnt (D x)=1:=by simp[cnt,Jv]
    have hV1:1<=Vc j D:=by have:=le_sumTo (f:=λx=>cnt (D x)) hx;simp only[Vc];omega
    have bk2:∀e∈#[rd (stA Y.Wg),wr (stA Y.Wg)],Bk Y.Wg e:=by intro e c;simp at c;rcases c with rfl|rfl<;>exact bk_cell _ _ rfl
    have XQ:∀jx e,(#[rd (stA Y.Wg),wr (stA Y.Wg)]:Array Event)[jx]?=aa e->(aK e).touch?=af∨0<deafBehind 1 ((#[rd (stA Y.Wg),wr (stA Y.Wg)]:Array Event).extract 0 jx):=by
     intro jx e c
     match jx,c with
     |0,_=>exact .inr (by simp[deafBehind])
     |1,_=>exact .inr (by simp[deafBehind,rd])
     |jx+2,c=>simp at c
    have hq0:∀q,cnt (⟨1,q,1⟩:WD)=0:=λ_=>rfl;have cm:∀q,OpenSt j D->OpenSt j (upd D x ⟨1,q,1⟩):=λq h a J=>by
     by_cases e:a=x
     .subst e;rw[upd_same];simp
     .rw[upd_ne D _ e];exact h a J
    generalize ada:st=YS at Kp AA;generalize adb:sm=sm0 at Kp AA;cases Kp with
    |opn l z p =>
     obtain⟨v,H⟩:∃v,Vc j D+pend tag=v+1:=⟨Vc j D+pend tag-1,by omega⟩
     rw[H]at AA;have RN:WgAt ty Y.Wg w (((v:Nat)+1)*KK+((0:Nat):Int)) 0:=by grind
     obtain⟨g',hgo,_,hq⟩:=RZ v 0 (by omega) (by omega) RN;obtain⟨q,hq⟩:=hq (by omega);have Xw:Vc j (upd D x ⟨1,0,1⟩)+pend tag=v:=by have:=Vc_upd D (⟨1,0,1⟩:WD) hx;grind
     refine book hgo (aside_setCell w (stA Y.Wg) _) (AA.setSt _) bk2 XQ (by decide) (.quit hq) rfl ?_ (.inl ⟨by omega,by grind⟩);have e:((v:Nat):Int)*KK+((0:Nat):Int)=((Vc j (upd D x ⟨1,0,1⟩)+pend tag:Nat):Int)*KK:=by grind
     rw[e];exact .opn l (cm 0 z) (λvs ev=>by grind)
    |reg l z p =>
     obtain⟨v,H⟩:∃v,Vc j D=v+1:=⟨Vc j D-1,by omega⟩
     rw[H]at AA;have hp:pend tag=0:=by cases tag<;>first|rfl|exact l.elim
     have RN:WgAt ty Y.Wg w (((v:Nat)+1)*KK+((1:Nat):Int)) 0:=by grind
     obtain⟨g',hgo,W,hq⟩:=RZ v 1 (by omega) (by omega) RN;by_cases RH:v=0
     .subst RH;obtain⟨m₂,hk⟩:=W ⟨rfl,rfl⟩;refine book hgo (aside_setCell w (stA Y.Wg) _) (AA.setSt _) bk2 XQ (by decide) (.d2 hk) rfl ?_ (.inl ⟨by omega,by simp[cnt]⟩);have Eo:∀a,a<j->a≠x->(D a).stage=1:=λa J e=>by have c0:=others_uncounted hx H Qq a J e;have:=z a J;simp only[cnt]at c0;split at c0<;>omega
      have:=Go.ConcN.Mode.last (j:=j) (D:=upd D x ⟨4,0,1⟩) (tag:=tag) x l hx (by rw[upd_same];simp) (λa J e=>by rw[upd_ne D _ e];grind);rw[upd_same]at this;grind
     .obtain⟨q,hq⟩:=hq (by omega);have Xw:Vc j (upd D x ⟨1,0,1⟩)=v:=by have:=Vc_upd D (⟨1,0,1⟩:WD) hx;grind
      refine book hgo (aside_setCell w (stA Y.Wg) _) (AA.setSt _) bk2 XQ (by decide) (.quit hq) rfl ?_ (.inl ⟨by omega,by grind⟩);have e:((v:Nat):Int)*KK+((1:Nat):Int)=((Vc j (upd D x ⟨1,0,1⟩):Nat):Int)*KK+1:=by grind
      rw[e];exact .reg l (cm 0 z) (by omega)
    |last L _ z p X =>
     grind
    |sema z=>have:=z x hx;omega
    |fin _ z=>have:=z x hx;omega
   .obtain⟨g',w',es,hgo,⟨rfl,rfl⟩,GK⟩:=ml w (Go.ConcN.RW.refl w);exact idle hgo (.d1 GK) rfl
  |d2 h =>
   rcases Goes.cases h with j8|⟨m',rfl,ml⟩
   .obtain⟨_,QL⟩:=j8 w (Go.ConcN.RW.refl w);obtain⟨Vp,Eo,e1,e2⟩:=I.mode.isLast hx (by omega);have AA:=I.wg;rw[e1,e2,Jv]at AA;obtain⟨g',hgo,m₂,hk⟩:=QL (by grind);refine book hgo (.refl Y.Wg w) AA (by intro e c;simp at c;subst c;exact bk_cell _ _ rfl) (by intro jx e c;match jx,c with|0,_=>exact .inr (by simp[deafBehind])|jx+1,c=>grind) (by decide) (.d3 hk) rfl ?_ (.inl ⟨by omega,by simp[cnt]⟩);have:=Go.ConcN.Mode.last (j:=j) (D:=upd D x ⟨3,0,1⟩) (tag:=tag) x Vp hx (by rw[upd_same];simp) (λa J e=>by rw[upd_ne D _ e];grind);rw[upd_same]at this;grind
   .obtain⟨g',w',es,hgo,⟨rfl,rfl⟩,GK⟩:=ml w (Go.ConcN.RW.refl w);exact idle hgo (.d2 GK) rfl
  |d3 h =>
   rcases Goes.cases h with j8|⟨m',rfl,ml⟩
   .obtain⟨_,QL⟩:=j8 w (Go.ConcN.RW.refl w);obtain⟨Vp,Eo,e1,e2⟩:=I.mode.isLast hx (by omega);have AA:=I.wg;rw[e1,e2,Jv]at AA;obtain⟨g',hgo,m₂,hk⟩:=QL (by grind);refine book hgo (aside_setCell w (stA Y.Wg) _) (AA.setSt 0) (by intro e c;simp at c;subst c;exact bk_cell _ _ rfl) (by intro jx e c;match jx,c with|0,_=>exact .inr (by simp[deafBehind])|jx+1,c=>grind) (by decide) (.d4 hk) rfl ?_ (.inl ⟨by omega,by simp[cnt]⟩);have:=Go.ConcN.Mode.last (j:=j) (D:=upd D x ⟨2,0,1⟩) (tag:=tag) x Vp hx (by rw[upd_same];simp) (λa J e=>by rw[upd_ne D _ e];grind);rw[upd_same]at this;grind
   .obtain⟨g',w',es,hgo,⟨rfl,rfl⟩,GK⟩:=ml w (Go.ConcN.RW.refl w);exact idle hgo (.d3 GK) rfl
  |d4 h =>
   rcases Goes.cases h with j8|⟨m',rfl,ml⟩
   .obtain⟨_,hmw,QL⟩:=j8 w (Go.ConcN.RW.refl w);obtain⟨Vp,Eo,e1,e2⟩:=I.mode.isLast hx (by omega);have AA:=I.wg;rw[e1,e2,Jv]at AA;obtain⟨g',hgo,q,hq⟩:=QL (by grind);have xa:g'.status=.running:=by
     cases q with
     |zero=>exact absurd hq.2 (by decide)
     |succ q=>exact hq.elim (λx=>absurd x.2 (by decide)) (λx=>x.1)
    refine QK hgo (aside_setCell w (smA Y.Wg) _) (AA.setSm 1) (es:=semEvents (smA Y.Wg)) ?_ ?_ (by decide) (.quit hq) (by simp[deafBehind,semEvents]) ?_ (.inl ⟨by omega,by simp[cnt]⟩)
    .intro e c;simp[semEvents]at c;rcases c with rfl|rfl|rfl|rfl
     .exact .inl rfl
     .exact bk_cell _ _ rfl
     .exact bk_cell _ _ rfl
     .exact .inr (.inl rfl)
    .intro jx e c
     match jx,c with
     |0,c=>simp[semEvents]at c;subst c;exact .inl rfl
     |1,_=>exact .inr (by simp[deafBehind,semEvents])
     |2,_=>exact .inr (by simp[deafBehind,semEvents])
     |3,c=>simp[semEvents]at c;subst c;exact .inl rfl
     |jx+4,c=>simp[semEvents]at c
    .intro tag' ht V;have hnb:=V hmw xa;have e3:tag'=.w3:=by
      rcases ht with rfl|⟨_,rfl⟩
      .cases tag'<;>first|rfl|exact Vp.elim|grind
      .rfl
     subst e3;simp only[cq];exact .sema λa J=>by
      by_cases e:a=x
      .subst e;rw[upd_same]
      .rw[upd_ne D _ e];grind
   .obtain⟨g',w',es,hgo,⟨rfl,rfl⟩,GK⟩:=ml w (Go.ConcN.RW.refl w);exact idle hgo (.d4 GK) rfl
  |quit h =>
   cases m with
   |zero=>rw[h.1]at wS;cases wS
   |succ q =>
    rcases h with⟨hf,_⟩|⟨_,g',es,QM,ml,hq⟩
    .grind
    .have H3:∀e∈es,Bk Y.Wg e:=λe c=>bk_of_mute (QM e c);have Yy:∀jx e,es[jx]?=aa e->(aK e).touch?=af∨0<deafBehind dd (es.extract 0 jx):=λjx e c=>.inl (touch_mute (QM e (vF c)));exact book (ml w) (.refl Y.Wg w) I.wg H3 Yy (by decide) (.quit hq) rfl (same _ _) (.inr ⟨rfl,rfl⟩)
end
end
section
open Go.Conc
open Go.ConcN (WD CTag Vc Ssum pend phi cnt WgLive PayAt Has RW DWs WSit RelBy sumTo upd upd_same upd_ne AtR0 isW3 isOpen OpenSt deafBehind_idle bk_cell okW_none Vc_upd Vc_le le_sumTo others_uncounted sumTo_upd_out bk_dis bk_en bk_rd bk_rw bk_sem allQuit_of exists_counted)
open Go.ConcR (KK WgAt stA smA rd wr mk Payload g_of_ofEvents Bk bk_of_mute ofEvent_loc_mark ofEvent_cell ofEvent_mk)
variable [Payload]
section
variable {P:ar}{ty:aj}{Y:Lay}{N:Nat}{val:Nat->Nat->ah}{n:Nat}{T k:av->St->Prop}{l hm':Nat->Nat}{z G:Nat->Mem}{j:Nat}{tag:CTag}{rk:Rk}{d:Nat}{a:av}{s:St}{w w':aA}{R:Mu}{gs:Array av}{sl:Option (Nat×Nat)}{t:Trace}{D:Nat->WD}{A:Nat->Nat}{K:Nat->Rk}{st Z:Int}
omit [Payload]in
def TL.congr{B:Nat}(h:TL Y l z t j B)(e:∀y,y<j->G y=z y):TL Y l G t j B :=
 ⟨h.base,h.Jt,h.hC,h.ne,h.QH,h.Sl,h.Ju,λx H=>by rw[e x H];exact h.ms x H,h.T0,h.nr,h.seen,h.old,h.Sm,h.HY,λi a hi W l=>(h.new i a hi W l).imp id λ⟨x,H,p,F⟩=>⟨x,H,p,by grind⟩,
  λx H=>by rw[e x H];exact h.mw x H,h.over⟩
def WS.congr{x a st d:Nat}{r:Rk}{g:av}(h:WS P ty Y N val l z x a st r d g w)(e:G x=z x):WS P ty Y N val l G x a st r d g w:=by
 cases h with
 |am p F J=>exact .am p F (by grind)
 |rel p=>exact .rel p
 |tail h0 p=>exact .tail h0 p
def Com.congr{I:Nat}(h:Com P ty Y N val l z j gs w t D A K I)(e:∀y,y<j->G y=z y):Com P ty Y N val l G j gs w t D A K I :=
 ⟨h.size,h.lv,h.above,λx H=>let ⟨g,p,F⟩:=h.wk x H;⟨g,p,F.congr (e x H)⟩,h.tl.congr e,h.norel,h.deaf0,h.deafW,h.rel,h.yD,h.Cs,h.pay,h.live,h.BS,h.Ef,h.NF,h.kc,λy q=>by rw[e y q];exact h.Ot y q⟩
omit [Payload]in
def Ox{σ σ':List aR}{s2:St}{es:Array Event}(X:j6 Y l z j s)(V:aF σ s)(Q:fg s es)(st:Step σ s σ' s2):
  (∀e∈es,(aK e).low s2.w.heap.size)/\(∀e∈es,∀a,(aK e).touch?=aa a->a.loc.isMemory=ab->sV Y (nT l s.w.heap.size 0) a) /\
  (∀e∈es,∀a,(aK e).touch?=aa a->a.kind=.plain->a.write=ab->∀x,x<j->∀b o v,a.loc=.cell ⟨b,o,af⟩->z x b o≠aa v) /\
  (∀e∈es,e.loc≠.mark .disable/\e.loc≠.mark .enable)/\∀e∈es,∀a,e.loc≠.mark (.release a):=by
 have key:∀e∈es,(aK e).low s2.w.heap.size/\(∀a,(aK e).touch?=aa a->a.loc.isMemory=ab->sV Y (nT l s.w.heap.size 0) a) /\
   (∀a,(aK e).touch?=aa a->a.kind=.plain->a.write=ab->∀x,x<j->∀b o v,a.loc=.cell ⟨b,o,af⟩->z x b o≠aa v)/\(e.loc≠.mark .disable/\e.loc≠.mark .enable)/\∀a,e.loc≠.mark (.release a):=by
  intro e E;have h:=Q e E;obtain⟨loc,wr,sy⟩:=e;cases loc with
  |cell ad =>
   obtain⟨p,F,J⟩:=h;simp only at p F J;subst p;have u:ad.block<s.w.heap.size/\l ad.block=0/\ad.block≠Y.C/\ad.block≠Y.Wg/\¬Y.Sh ad.block:=by
    rcases J with J|⟨⟨L,S,J⟩,_⟩|⟨_,v,J⟩
    .exact J.elim
    .obtain⟨k1,k2,O,k4,k5⟩:=X.blk _ (.inr ⟨L,S,J⟩);grind
    .obtain⟨k1,k2,O,k4,k5⟩:=X.M _ _ _ J;grind
   refine⟨by rw[ofEvent_cell];exact c7 u.1 st.size,λb c _=>?_,λb c _ hbw x H b' o v hl U=>?_,⟨by simp,by simp⟩,by simp⟩
   .rw[ofEvent_cell]at c;simp only[MemAct.touch?,dw]at c;subst c;exact .inr ⟨ad.block,rfl,by grind[fh],u.2.2.2.1,u.2.2.1,u.2.2.2.2,rfl⟩
   .rw[ofEvent_cell]at c;simp only[MemAct.touch?,dw]at c;subst c;simp only at hbw hl;have hM:=X.ms x H b' o v U;grind
  |obj r =>
   obtain⟨p,F⟩:=h;simp only at p F;subst p;obtain⟨L,S,J⟩:=F.resolve_left id;obtain⟨k1,k2,O,k4,k5⟩:=X.blk _ (.inr ⟨L,S,J⟩);refine⟨?_,λb c _=>?_,λb c _ _ x _ b' o v hl=>?_,⟨by simp,by simp⟩,by simp⟩
   .simp[aK,MemAct.low,Loc.low];exact c7 k5 st.size
   .simp[aK,MemAct.touch?]at c;subst c;exact .inr ⟨r,rfl,by grind[fh],O,k2,k4,rfl⟩
   .simp[aK,MemAct.touch?]at c;grind
  |mark m =>
   simp only[ow]at h;rcases h with rfl|⟨f,rfl⟩
   .exact⟨by simp[aK,MemAct.low],λb c=>by simp[aK,MemAct.touch?]at c,λb c=>by simp[aK,MemAct.touch?]at c,⟨by simp,by simp⟩,by simp⟩
   .exact⟨by simp[aK,MemAct.low],λb c=>by simp[aK,MemAct.touch?]at c,λb c=>by simp[aK,MemAct.touch?]at c,⟨by simp,by simp⟩,by simp⟩
  |_=>exact h.elim
 grind
def ua(I:tZ P ty Y N val n T k R gs w t l z j D A K d tag rk a s st Z){a':av}{es:Array Event}{tag':CTag}{rk':Rk}{qV H0:Int}{s':St}(hgo:aH P ab a w=.go a' w' es)(V:∀b,b<w.heap.size->hm' b=l b)(Ec:w.heap.size<=w'.heap.size)(YT:∀y,y<j->HZ Y l (z y) y w w')(Vk:∀e∈es,(aK e).low w'.heap.size)(htm:∀e∈es,∀a,(aK e).touch?=aa a->a.loc.isMemory=ab->sV Y hm' a)(XP:∀e∈es,∀a,(aK e).touch?=aa a->a.kind=.plain->a.write=ab->∀x,x<j->∀b o v,a.loc=.cell ⟨b,o,af⟩->z x b o≠aa v)(Vl:∀e∈es,∀a,e.loc≠.mark (.release a))(Kq:PayAt Y.C N w')(AA:WgAt ty Y.Wg w' qV H0)(H4:CS P ty Y N val n T k tag' j rk' (deafBehind d es) a' s')(Vq:cv s' {s' with w:=w'})(q:j6 Y hm' z j s')(g:Go.ConcN.Mode j D tag' qV H0)(u:phi n (Vc j D) tag'<phi n (Vc j D) tag∨(phi n (Vc j D) tag'=phi n (Vc j D) tag/\Rk.lt rk' rk)):
  ∃m₁ ops μ',runT P (crowd gs w sl) 0=(.next m₁,ops)/\GI (Y.base+n) μ' R/\Inv P ty Y N val n T k μ' m₁ (t++ops):=by
 have c:=I.gA.tl.base;have wS:=runT_crowd_go (P:=P) (sl:=sl) (i:=0) I.a0 (by simpa using hgo)
 refine⟨_,_,(phi n (Vc j D) tag'+Ssum j D+sumTo j A,(K,rk')),wS,?_,_,w',sl,hm',z,j,D,A,K,deafBehind d es,tag',rk',a',s',qV,H0,rfl,
  ⟨Go.ConcN.get_map_set_same _ _ _ (by rw[I.gA.size];omega),H4,Vq,q,I.gA.step0 V Ec YT Vk htm XP Vl Kq ⟨_,_,AA⟩,AA,g,rfl⟩⟩
 rw[I.mu];rcases u with h|⟨p,F⟩
 .exact Prod.Lex.left _ _ (by omega)
 .rw[p];exact Prod.Lex.right _ (Prod.Lex.right _ F)
def iJ(I:tZ P ty Y N val n T k R gs w t l z j D A K d tag rk a s st Z){a':av}{es:Array Event}{rk':Rk}{s1 s':St}(p:cv s1 {s1 with w:=w})(q:j6 Y l z j s1)(hgo:aH P ab a w=.go a' s'.w es)(YO:rB {s1 with w:=w} s' es∨Es Y.Wg {s1 with w:=w} s' es)(H4:CS P ty Y N val n T k tag j rk' d a' s')(u:Rk.lt rk' rk):
  ∃m₁ ops μ',runT P (crowd gs w sl) 0=(.next m₁,ops)/\GI (Y.base+n) μ' R/\Inv P ty Y N val n T k μ' m₁ (t++ops):=by
 rcases YO with⟨⟨σ,σ',V,jh,g⟩,Q⟩|⟨rfl,ad,had,YN⟩
 .have O:j6 Y l z j {s1 with w:=w}:=q.rely p.size;obtain⟨e1,e2,e3,e4,e5⟩:=Ox O V Q g;have w8:∀b,b<w.heap.size->(l b≠0∨b=Y.C∨b=Y.Wg)->s'.w.heap[b]?=w.heap[b]?:=λb c B4=>g.fy b c λL S NO=>by obtain⟨q1,q2,q3,_⟩:=O.blk b (.inr ⟨L,S,NO⟩);grind
  have Kn:=I.gA.tl.base;refine ua I hgo (hm':=nT l w.heap.size 0) (λb c=>fh c) g.size (λy hy=>⟨g.size,λb c hby=>w8 b c (.inl (by omega)),λb o v U _=>jh.mem b o v (g.mem _ _ _ (q.ms y hy b o v U)),λo _ _=>j7 (w8 _ I.gA.Ef (.inr (.inl rfl))) o,g.os,g.tape,g.output⟩) e1 e2 e3 e5 ?_
   (I.wg.of_block (w8 _ I.gA.BS (.inr (.inr rfl)))) (s':=s') (tag':=tag) (rk':=rk') (by rw[deafBehind_idle e4];exact H4) (cv.w7 jh.mem) (O.step jh g I.gA.BS I.gA.Ef I.gA.NF) I.mode (.inr ⟨rfl,u⟩)
  obtain⟨cs,c1,c2⟩:=I.gA.pay;exact⟨cs,(w8 _ I.gA.Ef (.inr (.inl rfl))).trans c1,c2⟩
 .have Oy:∀e∈es,e=mk (.read ad)∨e=mk (.write ad):=by grind
  refine ua I hgo (hm':=l) (λb c=>rfl) (bc _) (λy hy=>.refl ..) (λe E=>?_) (λe E b c _=>?_) (λe E b c hk=>?_) (λe E=>?_) I.gA.pay I.wg (s':={s1 with w:=w}) (tag':=tag) (rk':=rk') ?_ (p.trans' ) (q.rely p.size) I.mode (.inr ⟨rfl,u⟩)
  .have hW:=I.gA.BS;rcases Oy e E with rfl|rfl<;>(rw[ofEvent_mk];show ad.block<_;grind)
  .rcases Oy e E with rfl|rfl<;>(rw[ofEvent_mk]at c;simp[MemAct.touch?]at c;subst c;exact .inl ⟨ad,rfl,had,by simp⟩)
  .rcases Oy e E with rfl|rfl<;>(rw[ofEvent_mk]at c;simp[MemAct.touch?]at c;grind)
  .rcases Oy e E with rfl|rfl<;>simp[mk]
  .rw[deafBehind_idle (λe E=>by rcases Oy e E with rfl|rfl<;>simp[mk])];exact H4
def gN(I:tZ P ty Y N val n T k R gs w t l z j D A K d tag rk a s st Z){a':av}{es:Array Event}{tag':CTag}{rk':Rk}{qV H0:Int}{s1:St}(p:cv s1 {s1 with w:=w})(QN:j6 Y l z j s1)(hgo:aH P ab a w=.go a' w' es)(g:Aside Y.Wg w w')(Ko:WgAt ty Y.Wg w' qV H0)(H3:∀e∈es,Bk Y.Wg e)(H4:CS P ty Y N val n T k tag' j rk' (deafBehind d es) a' {s1 with w:=w'})(w9:Go.ConcN.Mode j D tag' qV H0)(u:phi n (Vc j D) tag'<phi n (Vc j D) tag∨(phi n (Vc j D) tag'=phi n (Vc j D) tag/\Rk.lt rk' rk)):
  ∃m₁ ops μ',runT P (crowd gs w sl) 0=(.next m₁,ops)/\GI (Y.base+n) μ' R/\Inv P ty Y N val n T k μ' m₁ (t++ops):=by
 obtain⟨cs,Qq,Up⟩:=I.gA.pay;have F:cv s1 {s1 with w:=w'}:=QN.Kk p (EF.wg g);refine ua I hgo (hm':=l) (λb c=>rfl) (by rw[g.size];grind) (λy hy=>.wg g I.gA.tl.Jt I.gA.tl.base (λb o v U=>(I.gA.tl.ms y hy b o v U).2.2.1) I.gA.tl.ne) (Km H3 (by rw[g.size];exact I.gA.BS)) (λe E b c l=>?_) (λe E b c hk=>?_) (Ct H3)
  ⟨cs,(g.block _ I.gA.tl.ne).trans Qq,Up⟩ Ko H4 F.trans' (QN.rely F.size) w9 u
 .rcases H3 e E with q|q|⟨ad,wr,rfl,W⟩
  .rw[ofEvent_loc_mark q]at c;cases c
  .rw[ofEvent_loc_mark q]at c;cases c
  .rw[ofEvent_cell]at c;simp only[MemAct.touch?,dw]at c;subst c;exact .inl ⟨ad,rfl,W,by simp⟩
 .rcases H3 e E with q|q|⟨ad,wr,rfl,W⟩
  .rw[ofEvent_loc_mark q]at c;cases c
  .rw[ofEvent_loc_mark q]at c;cases c
  .rw[ofEvent_cell]at c;simp only[MemAct.touch?,dw]at c;grind
end
section
variable {P:ar}{ty:aj}{Y:Lay}{N:Nat}{val:Nat->Nat->ah}{n:Nat}{T f:av->St->Prop}{p hm':Nat->Nat}{u k:Nat->Mem}{j:Nat}{tag:CTag}{rk:Rk}{d:Nat}{a:av}{s:St}{w w':aA}{C:Mu}{gs:Array av}{sl:Option (Nat×Nat)}{t:Trace}{D:Nat->WD}{A:Nat->Nat}{K:Nat->Rk}{st E:Int}
def CS.bound(h:CS P ty Y N val n T f tag j rk d a s):j+pend tag<=n:=by cases h<;>simp only[pend]<;>(try simp)<;>omega
omit [Payload]in
def iK{S:av->St->Prop}(h:kK (Cx.lead P ty Y.Wg) (Es Y.Wg) S rk a s)(l:cv s {s with w:=w})(G:j6 Y p u j s)(live:WgLive ty Y.Wg w):
  (∃s',cv s' {s' with w:=w}/\j6 Y p u j s'/\S a s')∨∃s',cv s' {s' with w:=w}/\j6 Y p u j s'/\∃g' s2 es r',aH P ab a w=.go g' s2.w es/\(rB {s' with w:=w} s2 es∨Es Y.Wg {s' with w:=w} s2 es)/\kK (Cx.lead P ty Y.Wg) (Es Y.Wg) S r' g' s2/\Rk.lt r' rk:=by
 rcases h.norm (λs0=>cv s0 {s0 with w:=w}/\j6 Y p u j s0) (λs0 s' B hi=>⟨hi.1.ghost B,hi.2.ghost B⟩) (λF=>False.elim F) ⟨l,G⟩with⟨s',⟨k1,c⟩,z⟩|⟨_,s',⟨k1,c⟩,z⟩
 .grind
 .exact .inr ⟨s',k1,c,z _ ⟨k1,λ_=>live⟩⟩
def WS.quits{x a st d:Nat}{r:Rk}{g:av}(h:WS P ty Y N val p u x a st r d g w)(b:st=1):∃m,QuitsD P m d g:=by
 cases h with
 |am _ _ _=>cases b
 |rel _=>cases b
 |tail _ h=>exact⟨_,h.quits b⟩
def WS.small{x a st d:Nat}{r:Rk}{g:av}(h:WS P ty Y N val p u x a st r d g w)(b:st=1):a=0:=by
 cases h with
 |am _ _ _=>cases b
 |rel _=>rfl
 |tail _ h=>rfl
def Kr(I:tZ P ty Y N val n T f C gs w t p u j D A K d tag rk a s st E)(hn:n<2147483648)(XR:∀g s,f g s->eC (Cx.lead P ty Y.Wg) (Es Y.Wg) (AtW1 P ty Y T f) g s)(wS:a.status=.running):
  ∃V ops,runT P (crowd gs w sl) 0=(.next V,ops)/\((∃hm' k,Fin P Y N val n T hm' k V (t++ops))∨∃μ',GI (Y.base+n) μ' C/\Inv P ty Y N val n T f μ' V (t++ops)):=by
 have hVj:=Vc_le j D;have Kn:=I.gA.tl.base;have live:=I.gA.live;have fin:∀{X:Prop},(∃V ops μ',runT P (crowd gs w sl) 0=(.next V,ops)/\GI (Y.base+n) μ' C/\Inv P ty Y N val n T f μ' V (t++ops)) ->
   ∃V ops,runT P (crowd gs w sl) 0=(.next V,ops)/\((∃hm' k,Fin P Y N val n T hm' k V (t++ops))∨∃μ',GI (Y.base+n) μ' C/\Inv P ty Y N val n T f μ' V (t++ops)) :=
  λ{_} ⟨V,ops,μ',l,h2,h3⟩=>⟨V,ops,l,.inr ⟨μ',h2,h3⟩⟩
 have hbound:=I.cs.bound;have cs:=I.cs;have O:=I.wg;have J:=I.mode;cases cs with
 |@skd r rk g s hr h =>
  rcases iK h I.rely I.lead live with⟨s',k1,c,_,g',H,hk⟩|⟨s',k1,c,g',s2,es,r',H,R,hk,Q⟩
  .obtain⟨r2,hk⟩:=hk {s' with w:=w} (gd k1 live);exact fin (X:=True) (gN I k1 c (H w) (.refl Y.Wg w) O bk_dis (.sa1 hr hk) (J.reopen ay ay rfl (by simp)) (.inl (by simp only[phi];omega)))
  .exact fin (X:=True) (iJ I k1 c H R (.skd hr hk) Q)
 |@sa1 r rk g s hr h =>
  rcases iK h I.rely I.lead live with⟨s',k1,c,_,U⟩|⟨s',k1,c,g',s2,es,r',H,R,hk,Q⟩
  .obtain⟨ho,e1,e2,_⟩:=J.open_inv ay;rw[e1,e2]at O;obtain⟨a',H,r2,hk⟩:=U {s' with w:=w} (gd k1 live) (Vc (n-(r+1)) D) (by omega) (by simpa[pend]using O);refine fin (X:=True) (gN I k1 c H (aside_setCell w (stA Y.Wg) _) (O.setSt _) bk_rw (.ske hr hk) ?_ (.inl (by simp only[phi];omega)));have e:(((Vc (n-(r+1)) D:Nat):Int)+1)*KK=((Vc (n-(r+1)) D+pend (.sp r 3):Nat):Int)*KK:=by simp[pend]
   rw[e];exact .opn ay ho (by simp)
  .exact fin (X:=True) (iJ I k1 c H R (.sa1 hr hk) Q)
 |@ske r rk g s hr h =>
  rcases iK h I.rely I.lead live with⟨s',k1,c,_,g',H,hk⟩|⟨s',k1,c,g',s2,es,r',H,R,hk,Q⟩
  .obtain⟨r2,hk⟩:=hk {s' with w:=w} (gd k1 live);exact fin (X:=True) (gN I k1 c (H w) (.refl Y.Wg w) O bk_en (.sgo hr hk) (J.reopen ay ay rfl (by simp)) (.inl (by simp only[phi];omega)))
  .exact fin (X:=True) (iJ I k1 c H R (.ske hr hk) Q)
 |@sgo r rk g s hr h =>
  rcases iK h I.rely I.lead live with⟨s',k1,c,_,U⟩|⟨s',k1,c,g',s2,es,r',H,R,hk,Q⟩
  .obtain⟨a',child,hsp,_,⟨rc,YL⟩,QO⟩:=U {s' with w:=w} (gd k1 live);obtain⟨ho,e1,e2,_⟩:=J.open_inv ay;rw[e1,e2]at O;have xa:=runT_crowd_spawn (P:=P) (sl:=sl) (i:=0) I.a0 (by simpa using hsp);rw[I.gA.size]at xa;have z:j6 Y p u (n-(r+1)) {s' with w:=w}:=c.rely k1.size;let k:=upd u (n-(r+1)) s'.M;have hMe:∀y,y<n-(r+1)->k y=u y:=λy hy=>upd_ne u _ (by omega);have YU:k (n-(r+1))=s'.M:=upd_same u _ _;have So:cv (St.child {s' with w:=w}) {St.child {s' with w:=w}with w:=w}:=cv.w7 k1.mem;have Vr:mh p (k (n-(r+1))) (Y.base+(n-(r+1))) (St.child {s' with w:=w}):=by
    refine⟨λb hb=>?_,λb o v hv=>⟨.inr (by rw[YU];exact hv),(z.M b o v hv).2.2.2.2⟩⟩;rcases hb with hb|⟨L,hL,_⟩
    .exact hb.elim
    .simp[St.child]at hL
   have GL:=(I.gA.congr hMe).spawn (a':=a') (x:={g:=0,fn:=a.frame.fn,pos:=a.frame.place,act:=.go (Y.base+(n-(r+1)))}) (y:={g:=Y.base+(n-(r+1)),fn:=child.frame.fn,pos:=a.frame.place,act:=.start}) ⟨rfl,rfl⟩ ⟨rfl,rfl⟩
    (λb o v hv=>by rw[YU]at hv;exact z.M b o v hv) YL So Vr
   have eV:Vc (n-(r+1)+1) (upd D (n-(r+1)) ⟨7,0,0⟩)=Vc (n-(r+1)) D+1:=by simp only[Vc,sumTo,upd_same];rw[sumTo_upd_out D _ cnt (bc _)];rfl
   have eS:Ssum (n-(r+1)+1) (upd D (n-(r+1)) ⟨7,0,0⟩)=Ssum (n-(r+1)) D+7:=by simp only[Ssum,sumTo,upd_same];rw[sumTo_upd_out D _ WD.stage (bc _)]
   have eA:sumTo (n-(r+1)+1) (upd A (n-(r+1)) 1)=sumTo (n-(r+1)) A+1:=by have:sumTo (n-(r+1)) (upd A (n-(r+1)) 1)=sumTo (n-(r+1)) A:=sumTo_upd_out A 1 id (i:=n-(r+1)) (j:=n-(r+1)) (bc _);show sumTo (n-(r+1)) (upd A (n-(r+1)) 1)+upd A (n-(r+1)) 1 (n-(r+1))=_;rw[upd_same];grind
   have XS:OpenSt (n-(r+1)+1) (upd D (n-(r+1)) ⟨7,0,0⟩):=λi hi=>by
    by_cases e:i=n-(r+1)
    .subst e;rw[upd_same];simp
    .rw[upd_ne D _ e];exact ho i (by omega)
   have YV:((gs.setIfInBounds 0 a').push child)[0]?=aa a':=by
    have h0:0<gs.size:=by rw[I.gA.size];omega
    grind
   have Z:j6 Y p k (n-(r+1)+1) {s' with w:=w}:=⟨z.blk,z.M,λy hy b o v hv=>by
    rcases cM y (n-(r+1))with l|l
    .rw[hMe y l]at hv;exact z.ms y l b o v hv
    .obtain rfl:y=n-(r+1):=by omega
     rw[YU]at hv;exact hv⟩
   have ej:n-(r+1)+1=n-r:=by omega
   rw[ej]at GL eV eS eA XS Z;have YW:∀tag',pend tag'=0->((Vc (n-(r+1)) D+pend (.sp r 2):Nat):Int)*KK=((Vc (n-r) (upd D (n-(r+1)) ⟨7,0,0⟩)+pend tag':Nat):Int)*KK:=λtag' hp=>by rw[eV,hp];simp[pend]
   cases r with
   |zero =>
    obtain⟨r3,hk⟩:=QO;simp only[lU]at GL eV eS eA XS YW Z;refine⟨_,_,xa,.inr ⟨(phi n (Vc n (upd D (n-(0+1)) ⟨7,0,0⟩)) .kd+Ssum n (upd D (n-(0+1)) ⟨7,0,0⟩)+sumTo n (upd A (n-(0+1)) 1),(upd K (Y.base+(n-(0+1))) rc,r3)),by rw[I.mu];exact Prod.Lex.left _ _ (by simp only[phi];omega),
     _,w,sl,p,k,n,_,_,_,0,.kd,r3,a',{s' with w:=w},_,_,rfl,⟨YV,.kd hk,k1.trans',Z,GL,O,?_,rfl⟩⟩⟩
    rw[YW .kd rfl];exact .opn ay XS (by simp)
   |succ r' =>
    obtain⟨r3,hk⟩:=QO;refine⟨_,_,xa,.inr ⟨(phi n (Vc (n-(r'+1)) (upd D (n-(r'+1+1)) ⟨7,0,0⟩)) (.sp r' 5)+Ssum (n-(r'+1)) (upd D (n-(r'+1+1)) ⟨7,0,0⟩)+sumTo (n-(r'+1)) (upd A (n-(r'+1+1)) 1),(upd K (Y.base+(n-(r'+1+1))) rc,r3)),by rw[I.mu];exact Prod.Lex.left _ _ (by simp only[phi];omega),
     _,w,sl,p,k,n-(r'+1),_,_,_,0,.sp r' 5,r3,a',{s' with w:=w},_,_,rfl,⟨YV,.skd (by omega) hk,k1.trans',Z,GL,O,?_,rfl⟩⟩⟩
    rw[YW (.sp r' 5) rfl];exact .opn ay XS (by simp)
  .exact fin (X:=True) (iJ I k1 c H R (.sgo hr hk) Q)
 |kd h =>
  rcases iK h I.rely I.lead live with⟨s',k1,c,_,g',H,hk⟩|⟨s',k1,c,g',s2,es,r',H,R,hk,Q⟩
  .obtain⟨r2,hk⟩:=XR _ _ (hk {s' with w:=w} (gd k1 live));exact fin (X:=True) (gN I k1 c (H w) (.refl Y.Wg w) O bk_dis (.w1 hk) (J.reopen ay ay rfl (by simp)) (.inl (by simp only[phi];omega)))
  .exact fin (X:=True) (iJ I k1 c H R (.kd hk) Q)
 |w1 h =>
  rcases iK h I.rely I.lead live with⟨s',k1,c,_,U⟩|⟨s',k1,c,g',s2,es,r',H,R,hk,Q⟩
  .obtain⟨ho,e1,e2,_⟩:=J.open_inv ay;rw[e1,e2]at O;have hV:=Vc_le n D;obtain⟨a',H,h0,B4⟩:=U {s' with w:=w} (gd k1 live) (Vc n D) (by omega) (by grind);by_cases hv:Vc n D=0
   .obtain⟨r2,hk⟩:=h0 hv;refine fin (X:=True) (gN I k1 c H (.refl Y.Wg w) O bk_rd (.ke hk) ?_ (.inl (by simp only[phi];omega)));have e:((Vc n D+pend .w1:Nat):Int)*KK=0:=by grind
    rw[e];exact .fin ay (allQuit_of ho hv)
   .obtain⟨r2,hk⟩:=B4 hv;refine fin (X:=True) (gN I k1 c H (.refl Y.Wg w) O bk_rd (.w2 hk) ?_ (.inl (by simp only[phi];omega)));have:=J.reopen (tag':=.w2 (Vc n D)) ay ay rfl (λvs e=>by grind);grind
  .exact fin (X:=True) (iJ I k1 c H R (.w1 hk) Q)
 |@w2 vs rk g s h =>
  rcases iK h I.rely I.lead live with⟨s',k1,c,_,U⟩|⟨s',k1,c,g',s2,es,r',H,R,hk,Q⟩
  .obtain⟨ho,e1,e2,YX⟩:=J.open_inv ay;rw[e1,e2]at O;obtain⟨hle,l⟩:=YX vs rfl;obtain⟨YY,Vs⟩:=U {s' with w:=w} (gd k1 live) (Vc n D) (by omega) (by grind);by_cases e:Vc n D=vs
   .obtain⟨a',H,r2,hk⟩:=YY e;exact fin (X:=True) (gN I k1 c H (aside_setCell w (stA Y.Wg) _) (O.setSt _) bk_rw (.w3 hk) (.reg ay ho (by omega)) (.inl (by simp only[phi];omega)))
   .obtain⟨a',H,hk⟩:=Vs e;obtain⟨r2,hk⟩:=XR _ _ hk;refine fin (X:=True) (gN I k1 c H (.refl Y.Wg w) O bk_rd (.w1 hk) ?_ (.inl (by simp only[phi];omega)));have:=J.reopen (tag':=.w1) ay ay rfl (by simp);grind
  .exact fin (X:=True) (iJ I k1 c H R (.w2 hk) Q)
 |@w3 rk g s h =>
  rcases iK h I.rely I.lead live with⟨s',k1,c,j8⟩|⟨s',k1,c,g',s2,es,r',H,R,hk,Q⟩
  .obtain⟨_,RP,U⟩:=j8;obtain⟨Oz,QP⟩:=U {s' with w:=w} (gd k1 live);obtain⟨x,hx⟩:=Rk.Kl s rk;have Vt:AtW3 P ty Y T a {s' with w:=w}:=AtW3.rely ⟨wS,RP,U⟩ (gd k1 live);generalize st=YS at J O;generalize E=sm0 at J O;cases J with
   |opn l _ _=>exact l.elim
   |reg l h2 h3=>exact fin (X:=True) (gN I k1 c (Oz ⟨_,O⟩) (.refl Y.Wg w) O (by simp) (.blk (rk:=x) Vt) (.reg ay h2 h3) (.inr ⟨rfl,hx⟩))
   |last L l h2 h3 h4=>exact fin (X:=True) (gN I k1 c (Oz ⟨_,O⟩) (.refl Y.Wg w) O (by simp) (.blk (rk:=x) Vt) (.last L ay h2 h3 h4) (.inr ⟨rfl,hx⟩))
   |sema h2 =>
    obtain⟨a',H,r2,hk⟩:=QP O;exact fin (X:=True) (gN I k1 c H (aside_setCell w (smA Y.Wg) _) (O.setSm 0) bk_sem (.w4 hk) (.fin ay h2) (.inl (by simp only[phi];omega)))
   |fin l _=>exact l.elim
  .exact fin (X:=True) (iJ I k1 c H R (.w3 hk) (Rk.GH Q))
 |blk h=>grind
 |w4 h =>
  rcases iK h I.rely I.lead live with⟨s',k1,c,_,U⟩|⟨s',k1,c,g',s2,es,r',H,R,hk,Q⟩
  .obtain⟨hq,e1,e2⟩:=J.fin_inv ay;rw[e1,e2]at O;obtain⟨a',H,r2,hk⟩:=U {s' with w:=w} (gd k1 live) O;exact fin (X:=True) (gN I k1 c H (.refl Y.Wg w) O bk_rd (.ke hk) (.fin ay hq) (.inl (by simp only[phi];omega)))
  .exact fin (X:=True) (iJ I k1 c H R (.w4 hk) Q)
 |ke h =>
  rcases iK h I.rely I.lead live with⟨s',k1,c,_,g',H,hk⟩|⟨s',k1,c,g',s2,es,r',H,R,hk,Q⟩
  .obtain⟨r2,hk⟩:=hk {s' with w:=w} (gd k1 live);obtain⟨hq,e1,e2⟩:=J.fin_inv ay;rw[e1,e2]at O;exact fin (X:=True) (gN I k1 c (H w) (.refl Y.Wg w) O bk_en (.acq hk) (.fin ay hq) (.inl (by simp only[phi];omega)))
  .exact fin (X:=True) (iJ I k1 c H R (.ke hk) Q)
 |acq h =>
  rcases iK h I.rely I.lead live with⟨s',k1,c,_,a',H,hk⟩|⟨s',k1,c,g',s2,es,r',H,R,hk,Q⟩
  .obtain⟨hq,e1,e2⟩:=J.fin_inv ay;have xa:=runT_crowd_go (P:=P) (sl:=sl) (i:=0) I.a0 (by simpa using H w);have ev:MemOp.ofEvents 0 a.frame.fn a.frame.place #[mk (.acquire (stA Y.Wg))]=#[{g:=0,fn:=a.frame.fn,pos:=a.frame.place,act:=.mark (.acquire (stA Y.Wg))}]:=by rw[ofEvents_eq];simp[ofEvent_mk]
   have W:=I.gA.step0 (g:=a) (g':=a') (fn:=a.frame.fn) (pos:=a.frame.place) (es:=#[mk (.acquire (stA Y.Wg))]) (hm':=p) (w':=w) (λ_ _=>rfl) (bc _) (λy _=>.refl ..) (by simp;exact I.gA.BS) (by intro e he b hb;simp at he;subst he;simp[mk,aK,MemAct.touch?]at hb) (by intro e he b hb;simp at he;subst he;simp[mk,aK,MemAct.touch?]at hb) (by intro e he;simp at he;subst he;simp[mk]) I.gA.pay live;have hd0:deafBehind 0 #[mk (.acquire (stA Y.Wg))]=0:=rfl;have hy:(t++#[({g:=0,fn:=a.frame.fn,pos:=a.frame.place,act:=.mark (.acquire (stA Y.Wg))}:MemOp)])[t.size]?=aa {g:=0,fn:=a.frame.fn,pos:=a.frame.place,act:=.mark (.acquire (stA Y.Wg))}:=by simp
   have Vu:=W.tl.YK (by rw[W.deaf0];rfl) (W.norel _) (q:=t.size) (by rw[ev,act?_of hy]) (by rw[ev];simp[Trace.g?]) (by rw[ev];exact⟨0,by simp[Trace.g?],by rw[deaf_old (bc _)];exact I.gA.deaf0⟩) (λx hx=>by
    obtain⟨r,hr⟩:=I.gA.rel x hx (by rw[hq x hx];omega)
    exact⟨r,hr.appOther g_of_ofEvents (by omega),lt_of_act? hr.act⟩)
   have HL:∃q,Leavers P (t++MemOp.ofEvents 0 a.frame.fn a.frame.place #[mk (.acquire (stA Y.Wg))]) ((gs.map (woken P a a' w)).setIfInBounds 0 a') q:=by
    have each:∀i,∃m,∀g,0<i->((gs.map (woken P a a' w)).setIfInBounds 0 a')[i]?=aa g->QuitsD P m (Deaf (t++MemOp.ofEvents 0 a.frame.fn a.frame.place #[mk (.acquire (stA Y.Wg))]) i) g:=by
     intro i;cases RY:((gs.map (woken P a a' w)).setIfInBounds 0 a')[i]? with
     |none=>exact⟨0,λg _ B=>by cases B⟩
     |some g =>
      rcases ni i with e|Ks
      .exact⟨0,λg' h=>by omega⟩
      .rcases cM i Y.base with Q|Uv
       .obtain⟨m,_,YZ⟩:=W.lv i g Ks Q RY;exact⟨m,λg' _ GK=>by grind⟩
       .obtain⟨x,rfl⟩:∃x,i=Y.base+x:=⟨i-Y.base,by omega⟩
        have hx:x<n:=by have:=(iA.1 RY).1;rw[W.size]at this;omega
        obtain⟨g0,yE,Y0⟩:=W.wk x hx;rw[RY]at yE;cases yE;obtain⟨m,YZ⟩:=Y0.quits (hq x hx);refine⟨m,λg' _ GK=>?_⟩;cases GK;rw[W.deafW x hx];exact YZ
    exact⟨λi=>Classical.choose (each i),λi g hi B=>Classical.choose_spec (each i) g hi B,λi hi=>W.above i (by rw[W.size]at hi;exact hi)⟩
   obtain⟨q,HL⟩:=HL;refine⟨_,_,xa,.inl ⟨p,u,⟨_,w,sl,a',s',q,rfl,Go.ConcN.get_map_set_same _ _ _ (by rw[I.gA.size];omega),W.size,hk {s' with w:=w} (gd k1 live),k1,c,HL,Vu,W.norel,I.gA.pay,λx hx i hi=>?_,I.gA.Ef,I.gA.BS,I.gA.NF⟩⟩⟩;obtain⟨g0,_,Y0⟩:=I.gA.wk x hx;rcases ni i with e|Ks
   .subst e;exact I.gA.Cs x hx (by rw[hq x hx];omega)
   .exact I.gA.yD x hx (Y0.small (hq x hx)) i Ks hi
  .exact fin (X:=True) (iJ I k1 c H R (.acq hk) Q)
end
end
section
open Go.Conc
open Go.ConcN (WD CTag Vc Ssum pend phi cnt WgLive PayAt Has WSit RelBy sumTo upd upd_same upd_ne exists_counted)
open Go.ConcR (KK WgAt stA smA Payload)
variable [Payload]
section
variable {P:ar}{ty:aj}{Y:Lay}{N:Nat}{val:Nat->Nat->ah}{n:Nat}{T c:av->St->Prop}{l:Nat->Nat}{u:Nat->Mem}{j:Nat}{tag:CTag}{rk:Rk}{d:Nat}{a:av}{s:St}{w:aA}{f:Mu}{gs:Array av}{sl:Option (Nat×Nat)}{t:Trace}{D:Nat->WD}{A:Nat->Nat}{K:Nat->Rk}{st p:Int}
def WS.running_of{x a st d:Nat}{r:Rk}{g:av}(h:WS P ty Y N val l u x a st r d g w)(b:st≠1):g.status=.running:=by
 cases h with
 |am h1 _ _=>exact h1.run λ_ _ x=>x.1
 |rel h1=>exact Goes.running (λ_ _ x=>x.1) w (Go.ConcN.RW.refl w) h1
 |tail _ h1=>exact h1.running_of b
def someone_runs(I:tZ P ty Y N val n T c f gs w t l u j D A K d tag rk a s st p):∃(i:Nat)(g:av),gs[i]?=aa g/\g.status=.running:=by
 rcases I.cs.status with⟨e,_⟩|⟨_,rfl⟩
 .exact⟨0,a,I.a0,e⟩
 .have b:=I.mode;cases b with
  |opn h1 _ _=>exact h1.elim
  |reg _ _ k =>
   obtain⟨i,hi,o⟩:=exists_counted k;obtain⟨g,h,e⟩:=I.gA.wk i hi;exact⟨_,g,h,e.running_of (by omega)⟩
  |last L _ m k _ =>
   obtain⟨g,h,e⟩:=I.gA.wk L m;exact⟨_,g,h,e.running_of (by omega)⟩
  |fin h1 _=>exact h1.elim
def all_awake(I:tZ P ty Y N val n T c f gs w t l u j D A K d tag rk a s st p):∀g∈gs,awake g:=by
 intro g v z;obtain⟨i,hi⟩:=Array.mem_iff_getElem?.1 v;rcases ni i with rfl|e
 .rw[I.a0]at hi;cases hi;rcases I.cs.status with⟨k,_⟩|⟨k,_⟩<;>rw[k]<;>simp
 .rcases cM i Y.base with o|r
  .obtain⟨m,_,y⟩:=I.gA.lv i g e o hi;rcases y.status with h|h<;>rw[h]<;>simp
  .obtain⟨x,rfl⟩:∃x,i=Y.base+x:=⟨i-Y.base,by omega⟩
   have q:x<j:=by have:=(iA.1 hi).1;rw[I.gA.size]at this;omega
   obtain⟨g',b,k⟩:=I.gA.wk x q;rw[hi]at b;cases b;rcases k.status with h|h<;>rw[h]<;>simp
def tZ.at(I:tZ P ty Y N val n T c f gs w t l u j D A K d tag rk a s st p)(b:Nat):tZ P ty Y N val n T c f gs (w.at b) t l u j D A K d tag rk a s st p :=
 ⟨I.a0,I.cs,I.rely.more (bc _) (λ_ _=>rfl) (λ_ _ _ _ h=>h) rfl rfl rfl,I.lead,I.gA.at b,I.wg,I.mode,I.mu⟩
def EG(I:tZ P ty Y N val n T c f gs w t l u j D A K d tag rk a s st p){i:Nat}(hi:0<i)(r:i<Y.base){g:av}(C:gs[i]?=aa g)(o:g.status=.running):
  ∃h ops μ',runT P (crowd gs w sl) i=(.next h,ops)/\GI (Y.base+n) μ' f/\Inv P ty Y N val n T c μ' h (t++ops):=by
 obtain⟨m,F,E⟩:=I.gA.lv i g hi r C;cases m with
 |zero=>rw[E.1]at o;cases o
 |succ m =>
  rcases E with⟨H,_⟩|⟨_,g',es,z,v,B⟩
  .grind
  .have y:(i==0)=ae:=by grind
   have q:=runT_crowd_go (P:=P) (sl:=sl) (i:=i) C (by rw[y];exact v w)
   obtain⟨tag',rk',x,e,G⟩:=I.cs.wokenBy g g' w;have b:Go.ConcN.Mode j D tag' st p:=I.mode.retag e;refine⟨_,_,(phi n (Vc j D) tag'+Ssum j D+sumTo j A,(upd K i (Rk.nat m),rk')),q,?_,_,w,sl,l,u,j,D,A,_,d,tag',rk',woken P g g' w a,s,st,p,rfl,
    ⟨by rw[Go.ConcN.get_map_set _ _ _ _ (by omega),I.a0];rfl,x,I.rely,I.lead,I.gA.leave hi r z B,I.wg,b,rfl⟩⟩
   rw[I.mu,Go.ConcN.phi_retag n _ e];exact Prod.Lex.right _ (Prod.Lex.left _ _ ⟨i,by omega,by rw[upd_same,F];exact Rk.EE _ s,λk hk=>upd_ne K _ hk⟩)
def Kt(C:n<2147483648)(z:∀g s,c g s->eC (Cx.lead P ty Y.Wg) (Es Y.Wg) (AtW1 P ty Y T c) g s){m:Machine}(h:Inv P ty Y N val n T c f m t):
  ∃b ops,stepT P m=(.next b,ops)/\((∃hm' OB,Fin P Y N val n T hm' OB b (t++ops))∨∃k,GI (Y.base+n) k f/\Inv P ty Y N val n T c k b (t++ops)):=by
 obtain⟨gs,w,sl,l,u,j,D,A,K,O,tag,rk,a,s,st,p,rfl,I⟩:=h;obtain⟨i,g,J,o,r,e,q⟩:=crowd_pick (P:=P) (w:=w) (sl:=sl) (all_awake I) (someone_runs I);rw[q];have B:=I.at J;have L:j<=n:=by have:=I.cs.bound;omega
 rcases ni i with rfl|v
 .rw[I.a0]at r;cases r;exact Kr (sl:=o) B C z e
 .rcases cM i Y.base with y|F
  .obtain⟨b,ops,k,E,H,M⟩:=EG (sl:=o) B v y r e;grind
  .obtain⟨x,rfl⟩:∃x,i=Y.base+x:=⟨i-Y.base,by omega⟩
   have G:x<j:=by have:=(iA.1 r).1;rw[I.gA.size]at this;omega
   obtain⟨b,ops,k,E,H,M⟩:=stepWorker (sl:=o) B C L I.cs.bound G r e;grind
def H5(v:n<2147483648)(q:∀g s,c g s->eC (Cx.lead P ty Y.Wg) (Es Y.Wg) (AtW1 P ty Y T c) g s):∀(f:Mu)(m:Machine)(t:Trace),Inv P ty Y N val n T c f m t ->
  ∃M k i hm' OB,runNT P M m t=(.next k,i)/\Fin P Y N val n T hm' OB k i:=by
 intro f;induction(Sn (Y.base+n)).apply f with
 |intro f _ y =>
  intro m t h;obtain⟨b,ops,r,e⟩:=Kt v q h;rcases e with⟨hm',OB,e⟩|⟨o,e,z⟩
  .exact⟨1,b,t++ops,hm',OB,by simp[runNT,r],e⟩
  .obtain⟨M,k,i,hm',OB,k1,x⟩:=y o e b (t++ops) z;exact⟨M+1,k,i,hm',OB,by simp only[runNT,r];exact k1,x⟩
def UQ.fork{g:av}{s s0:St}{T':av->St->Prop}(kc:Nat)(hkc:0<kc)(Wg C:Nat)(hn:n<2147483648)(B4:C≠Wg)(hg:eF s s0)(wS:g.status=.running)(hC:∃L∈s.β,C∈L.bs)(hW:∃L∈s.β,Wg∈L.bs)(B:∀b,(s.own b∨∃L∈s.β,b∈L.bs)->b<s.w.heap.size)(h0:∀b,(b=C∨b=Wg)->¬s0.own b/\(∀L∈s0.β,b∉L.bs)/\∀o,s0.M b o=af)(S:WgAt ty Wg s.w 0 0)(Kq:PayAt C N s.w)(h:∀Y:Lay,Y.Wg=Wg->Y.C=C->Y.kc=kc->∃T c,(∀g s,c g s->eC (Cx.lead P ty Y.Wg) (Es Y.Wg) (AtW1 P ty Y T c) g s)/\Spawns P ty Y N val n c n g s0 /\
   ∀g' s',T g' s'->gX s'->PayAt C N s'.w->(∀x,x<n->∀i,i<kc->s'.w.cell? ⟨C,kc*x+i,af⟩=aa (val x i))->C<s'.w.heap.size->(∀b,(b=C∨b=Wg)->¬s'.own b/\(∀L∈s'.β,b∉L.bs)/\∀o,s'.M b o=af) ->
    ∃s2,T' g' s2/\s2.w=s'.w/\gX s2/\∀Sh:Nat->Prop,Clear Sh s'->¬Sh C->Clear Sh s2):UQ P g s T':=by
 intro Sh gs sl t q l ha H hP hc Vl;have Y1:¬Sh C:=λhs=>let ⟨L,H,m⟩:=hC;hc.β C hs L H m
 have Y2:¬Sh Wg:=λhs=>let ⟨L,H,m⟩:=hW;hc.β Wg hs L H m
 have X:=B C (.inr hC);have V:=B Wg (.inr hW);have Ks:1<=gs.size:=(iA.1 ha).1;let Y:Lay:={Sh:=Sh,T0:=t.size,Wg:=Wg,C:=C,base:=gs.size,kc:=kc}
 obtain⟨T,c,XR,z,Y3⟩:=h Y rfl rfl rfl;have U:=hc.ghost hg;have Oy:gX s0:=.ghost hg;have G:j6 Y (λ_=>0) (λ_ _ _=>af) 0 s0:=by
  refine⟨λb m=>⟨rfl,λe=>?_,λe=>?_,λe=>?_,by rw[hg.w];exact B b (hg.blk b m)⟩,λb o v W=>⟨rfl,λe=>?_,λe=>?_,λe=>?_,gX.lt Oy W⟩,λx y=>absurd y (fX x)⟩
  .grind
  .grind
  .rcases m with m|⟨L,H,m⟩
   .exact U.own b e m
   .exact U.β b e L H m
  .grind
  .grind
  .rw[U.M b e o]at W;cases W
 have Q:Com P ty Y N val (λ_=>0) (λ_ _ _=>af) 0 gs s.w t (λ_=>⟨0,0,0⟩) (λ_=>0) (λi=>Rk.nat (q i)) 0 :=
  ⟨rfl,λi g hi _ RY=>⟨q i,rfl,H.old i g hi RY⟩,H.above,λx y=>absurd y (fX x),TL.start hP rfl Ks B4 Y2 Y1,Vl,hP.hears,λx y=>absurd y (fX x),λx y=>absurd y (fX x),λx y=>absurd y (fX x),λx y=>absurd y (fX x),
   Kq,⟨_,_,S⟩,V,X,hc.lt,hkc,λx y=>absurd y (fX x)⟩
 have O:cv s0 {s0 with w:=s.w}:=by have:=cv.w7 Oy;rw[<-hg.w];exact this
 have E:∃f,Inv P ty Y N val n T c f (crowd gs s.w sl) t:=by
  cases n with
  |zero =>
   obtain⟨r,z⟩:=z;exact⟨_,gs,s.w,sl,_,_,0,_,_,_,0,.kd,r,g,s0,_,_,rfl,⟨ha,.kd z,O,G,Q,S,by have:=Go.ConcN.Mode.opn (j:=0) (D:=λ_=>(⟨0,0,0⟩:WD)) (tag:=.kd) ay (λi hi=>absurd hi (fX i)) (by simp);simpa[Vc,sumTo,pend]using this,rfl⟩⟩
  |succ n =>
   obtain⟨r,z⟩:=z;have Z:CS P ty Y N val (n+1) T c (.sp n 5) (n+1-(n+1)) r 0 g s0:=.skd (Nat.lt_succ_self n) z;rw[Nat.sub_self]at Z;exact⟨_,gs,s.w,sl,_,_,0,_,_,_,0,.sp n 5,r,g,s0,_,_,rfl,⟨ha,Z,O,G,Q,S,by have:=Go.ConcN.Mode.opn (j:=0) (D:=λ_=>(⟨0,0,0⟩:WD)) (tag:=.sp n 5) ay (λi hi=>absurd hi (fX i)) (by simp);simpa[Vc,sumTo,pend]using this,rfl⟩⟩
 obtain⟨f,E⟩:=E;obtain⟨M,m',t',hm',OB,aaW,⟨gs',w',sl',a',I,q',rfl,YV,_,hT,QQ,Vv,fA,hP',adk,hp',J,hlC,hlW,hlS⟩⟩:=H5 hn XR f _ _ E;have R:j6 Y hm' OB n {I with w:=w'}:=Vv.rely QQ.size;have F:∀b,(b=C∨b=Wg∨Sh b)->¬I.own b/\(∀L∈I.β,b∉L.bs)/\∀o,I.M b o=af:=by
  intro b m;have key:∀x,(hm' x=0/\x≠Y.C/\x≠Y.Wg/\¬Y.Sh x/\x<w'.heap.size)->x≠b:=by grind
  refine⟨λho=>key b (R.blk b (.inl ho)) rfl,λL H NO=>key b (R.blk b (.inr ⟨L,H,NO⟩)) rfl,λo=>?_⟩;cases hM:I.M b o with
  |none=>rfl
  |some v=>exact absurd rfl (key b (R.M b o v hM))
 obtain⟨s2,hT2,YX,YZ,Up⟩:=Y3 a' {I with w:=w'} hT (λb o v W=>QQ.mem b o v W) hp' J hlC (λb m=>F b (m.elim .inl λe=>.inr (.inl e)));have Jo:Clear (λb=>Sh b∨b=Wg) {I with w:=w'}:=by have k:∀b,(Sh b∨b=Wg)->¬I.own b/\(∀L∈I.β,b∉L.bs)/\∀o,I.M b o=af:=λb m=>F b (m.elim (λe=>.inr (.inr e)) λe=>.inr (.inl e));exact⟨λb m=>(k b m).1,λb m=>(k b m).2.1,λb m=>(k b m).2.2,λb m=>m.elim (hlS b) λe=>by grind⟩
 grind
end
end
end Go.AM
