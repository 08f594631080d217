/- Part 3. No condition. -/
import Derived.Test.YtbaopamghpnebaaGreatDoorA2
import Derived.Maps.RangeRun
import Derived.Laws.Externs
import Derived.Conc.Beside
import Derived.Conc.CrowdRun
set_option linter.all false
set_option maxHeartbeats 8000000
open Go.Conc (G)
open Go renaming Value → ah, Program → aq, TypeId → aj, Oper → au, Operand → ak, undef → ai, execOp → aw, World → aA, Goroutine → av, stepG → aH, Frame → aR, FuncId → aJ
open Option renaming some → aa, none → ae
open Bool renaming true → ab, false → af
open Go.World renaming cell? → aV
open Go.Sem renaming events_bind → aM
open Go.Result renaming evThen_ok → aO
open Go.Instr renaming sliceBounds → bc, sureAddr → bq
open List renaming range → bg
open Go.Region renaming wanted → bd, ready → a9
open Go.MemAct renaming ofEvent → aK
open Nat renaming beq → aB, ble → bu
namespace Go.AM
def eg(i:Nat)(D:Nat->Bool):Nat->Bool:=λj=>match aB j i with|true=>ab|false=>D j
section
variable {P:aq}{X:Cx P}{N:Nat}{ops:Array au}{φ:Fr}{σ:List aP}{g:Type}{x:g->Nat->D}{idx:Nat->Option Nat}{S:g->(Nat->Bool)->List aP}{Inv:g->(Nat->Bool)->Prop}{c:Nat}
def lB(L:Array Bool):Nat->Bool:=λi=>L.getD i af
def HB{L:Array Bool}{i:Nat}(hi:i<L.size):lB (L.setIfInBounds i ab)=eg i (lB L):=by funext j;have h:=eJ (L:=L) (i:=i) (j:=j) hi;simp only[lB,eg];grind[Nat.eq_of_beq_eq_true,Nat.beq_refl]
def RQ{L:Array Bool}{n c:Nat}(d:L.size=n)(h:∀k,c<=k->¬L.getD k af=ab):n-c<=(L.toList.filter (λb=>!b)).length:=by
 have e:(L.toList.drop c).filter (λb=>!b)=L.toList.drop c:=by rw[zr];intro b a;obtain⟨i,hi,rfl⟩:=dM a;have:=h (c+i) (by omega);simp only[rG,jh]at hi;simp only[dO,fT (by omega:c+i<L.size),im]at this;grind
 grind[List.drop_sublist]
theorem Names.U7(all:List au)(c:Nat):Names all (List.range' c (all.length-c)) (all.drop c):=by
 have key:∀(l:List au) (n:Nat),(∀j o,l[j]?=aa o->all[n+j]?=aa o)->Names all (List.range' n l.length) l:=by
  intro l;induction l with
  |nil=>intro n _;trivial
  |cons o r a =>
   intro n h;rw[eU,List.range'_succ];refine⟨by simpa using h 0 o rfl,a (n+1) λj b hj=>?_⟩;have:=h (j+1) b (by grind);grind
 have:=key (all.drop c) c λj o h=>by grind
 grind
structure U8{P:aq}(X:Cx P)(N:Nat)(ops:Array au)(φ:Fr){g:Type}(x:g->Nat->D)(S:g->(Nat->Bool)->List aP)(Inv:g->(Nat->Bool)->Prop)(idx:Nat->Option Nat)(c:Nat):Prop where
 back:∀i o,ops[i]?=aa o->∀e∈o.after,di e=ab->e.on<i
 Jn:∀i o d,ops[i]?=aa o->o.dst=aa d->idx d=aa i/\d<N
 x4:∀d i,idx d=aa i->∃o,ops[i]?=aa o/\o.dst=aa d
 one:∀κ (D:Nat->Bool) i o,Inv κ D->ops[i]?=aa o->i<c->D i=af->(∀e∈o.after,di e=ab->D e.on=ab)->(∀j o',ops[j]?=aa o'->D j=ab->∀e∈o'.after,di e=ab->D e.on=ab)->mD X N ops.toList o (jY ops.toList φ (x κ) i) (S κ D) (λq:{κ':g // (∀j,D j=ab->x κ' j=x κ j)/\Inv κ' (eg i D)}=>x q.1 i) (λq=>S q.1 (eg i D))
 TH:∀(x:Nat->D) i o,ops[i]?=aa o->∀t σ s v,dj σ s v (match idx t with|some j=>(if ∃e∈o.after,di e=ab/\e.on=j then x j else .any)|none=>look φ t)->dj σ s v (look (jY ops.toList φ x i) t)
 fin:∀(x:Nat->D) t σ s v,dj σ s v (match idx t with|some j=>x j|none=>look φ t)->dj σ s v (look (MV ops.toList φ x) t)
 PN:∀i o,ops[i]?=aa o->c<=i->∀L:Array Bool,(∀i o,ops[i]?=aa o->L.getD i af=ab->∀e∈o.after,di e=ab->L.getD e.on af=ab)->(∀e∈o.after,di e=ab->L.getD e.on af=ab)->∀k,k<i->L.getD k af=ab
 cc:c<=ops.size
 RR:∀κ (D:Nat->Bool),Inv κ D->(∀i,i<c->D i=ab)->∀i,c<=i->i<ops.size->x κ i=.any
def F9{L:Array Bool}{i n:Nat}(a:L.size=n)(hi:i<n):L.getD i ab=af↔¬L.getD i af=ab:=by grind
theorem U8.seq(h:U8 X N ops φ x S Inv idx c):∀(a d:Nat)(L:Array Bool)(t:Nat),L.size=ops.size->c<=d->d<=ops.size->ops.size-d<=a->(∀k,k<ops.size->(L.getD k af=ab↔k<d)) ->
  Region.linearise.go .any ops a t L []=List.range' d (ops.size-d):=by
 intro a;induction a with
 |zero =>
  grind[wc]
 |succ a y =>
  intro d L t v C B A w;by_cases E:d=ops.size
  .grind [B8]
  .rw[pb];have j:d<ops.size:=by omega
   have q:∀i o,ops[i]?=aa o->L.getD i af=ab->∀e∈o.after,di e=ab->L.getD e.on af=ab:=λi o p hi e l r=>by have b:=(ij.1 p).1;have h1:=(w i b).1 hi;have h2:=h.back i o p e l r;grind
   have s:∀i,i∈a9 .any ops L->i=d:=λi hi=>by
    obtain⟨o,p,hl,z⟩:=mem_ready.1 hi;have b:=(ij.1 p).1;have F:¬i<d:=λn=>(F9 v b).1 hl ((w i b).2 n);rcases cD d i with h1|h1
    .have:=h.PN i o p (by omega) L q z d h1;grind
    .omega
   have u:d∈a9 .any ops L:=mem_ready.2 ⟨ops[d],fT j,(F9 v j).2 (λhh=>by grind),λe l r=>by
    have:=h.back d _ (fT j) e l r
    grind⟩
   have m:0<(a9 .any ops L).length:=List.length_pos_of_mem u;have f:=j9 t m;rw[br f];have e1:=s _ (rH f);simp only[e1];rw[y (d+1) _ _ (by grind) (by omega) (by omega) (by omega) (λk hk=>by grind[eJ])]
   rw[show ops.size-d=(ops.size-(d+1))+1 by omega,List.range'_succ]
def U8.arr(h:U8 X N ops φ x S Inv idx c){R:av->St->Prop}{b:aR}{kk:List Item}{cs:List aR}(hb:b.kind≠.early){σ0:List aP}{s0:St}(hQ:∀l D s a,Inv l D->(∀i,i<c->D i=ab)->cm N (S l D) s (MV ops.toList φ (x l)) a->aF (S l D) s->cR σ0 s0 (S l D) s->fA X R (G (b.aT a (.inRegion ops (List.range' c (ops.size-c))::kk)) cs) s):
  ∀(f:Nat) (l:g) (L:Array Bool),Inv l (lB L)->L.size=ops.size->(L.toList.filter (λb=>!b)).length<=f->(∀k,c<=k->¬L.getD k af=ab) ->
   (∀i o,ops[i]?=aa o->L.getD i af=ab->∀e∈o.after,di e=ab->L.getD e.on af=ab) ->
   ∀(s:St) (a:Act),IP N (S l (lB L)) s (gj φ (x l) idx L) a->aF (S l (lB L)) s->cR σ0 s0 (S l (lB L)) s ->
   ∀t,fA X R (G (b.aT a (.inRegion ops (Region.linearise.go .any ops f t L [])::kk)) cs) s:=by
 have fin:∀(l:g) (L:Array Bool) (s:St) (a:Act) (f t:Nat),Inv l (lB L)->L.size=ops.size->(L.toList.filter (λb=>!b)).length<=f->(∀k,c<=k->¬L.getD k af=ab)->(∀i,i<c->L.getD i af=ab)->IP N (S l (lB L)) s (gj φ (x l) idx L) a->aF (S l (lB L)) s->cR σ0 s0 (S l (lB L)) s->fA X R (G (b.aT a (.inRegion ops (Region.linearise.go .any ops f t L [])::kk)) cs) s:=by
  intro l L s a f t F C Q w p m hh st;have U:=h.cc;rw[h.seq f c L t C (bh _) U (by
   have h2:=RQ (n:=ops.size) (c:=c) C w;omega) (λk hk=>⟨λK=>by grind,λK=>p k K⟩)]
  exact hQ l _ s a F p (m.Jm λt σ s v I=>h.fin (x l) t σ s v (by
   unfold gj at I;cases hi:idx t with
   |none=>grind
   |some k =>
    simp only[hi]at I⊢;obtain⟨o,A,_⟩:=h.x4 _ _ hi;rcases cD k c with h1|h1
    .grind
    .rw[h.RR l _ F p k h1 (ij.1 A).1];trivial)) hh st
 intro f;induction f with
 |zero =>
  intro l L F C Q w E s a m hh st t;have U:=h.cc;grind[Ag]
 |succ f ih =>
  intro l L F C Q w E s a m hh st t;have U:=h.cc;cases r:(a9 .any ops L)[t % (a9 .any ops L).length]? with
  |none=>exact fin l L s a _ t F C Q w (λi hi=>J7 (back:=h.back) C (Eb r) i (by omega)) m hh st
  |some i =>
   have hi:=bH r;obtain⟨o,A,W5,u⟩:=mem_ready.1 hi;have s9:i<ops.size:=(ij.1 A).1;rcases cD i c with B|B
   rotate_left
   .exact fin l L s a _ t F C Q w (λk hk=>h.PN i o A B L E u k (by omega)) m hh st
   rw[pb,r];have O:¬L.getD i af=ab:=by grind
   have y:((L.setIfInBounds i ab).toList.filter (λb=>!b)).length<=f:=by
    have h1:L.toList[i]?=aa af:=by rw[zo,fT (by omega:i<L.size)];simpa[dO,fT (by omega:i<L.size)]using O
    grind[count_set]
   have J:∀j Z,ops[j]?=aa Z->(L.setIfInBounds i ab).getD j af=ab->∀e∈Z.after,di e=ab->(L.setIfInBounds i ab).getD e.on af=ab:=by grind[eJ]
   have Y:cm N (S l (lB L)) s (jY ops.toList φ (x l) i) a:=N2 (h.TH (x l) i o A) m u;have:=h.one l (lB L) i o F A B (by unfold lB;grind) u E s a Y hh b kk cs R i (Region.linearise.go .any ops f (t / (a9 .any ops L).length) (L.setIfInBounds i ab) []) hb (by grind);simp only[oT]at this;refine this λq v s' I H z=>?_;obtain⟨W,V,M⟩:=q;have T:=HB (L:=L) (i:=i) (by omega);simp only at I H z;rw[<-T]at I H z M;exact ih W _ M (by grind) y (λk hk=>by grind[eJ]) J s' _ (Hw (λd hd=>h.Jn i o d A hd) h.x4 A (by omega) (λj hj=>V j hj) hh.len z m I) H (st.trans z) _
def AW.reg(hf:P.follows Departure.mixedOrders=ab){all:List au}(c:Nat)(x:g->Nat->D)(S:g->(Nat->Bool)->List aP)(Inv:g->(Nat->Bool)->Prop)(E:g)(hI0:Inv E λ_=>af)(h0:S E (λ_=>af)=σ)(Uq:mx all=ab)(G:rV all 0=ab)(J:om N all=ab)(hc:c<=all.length)(PN:∀i,c<=i->i<all.length->∀L:Nat->Prop,(∀i,i<all.length->L i->∀e∈bT (all.getD i jw).after.toList,L e)->(∀e∈bT (all.getD i jw).after.toList,L e)->∀k,k<i->L k)(RR:∀p (D:Nat->Bool),Inv p D->(∀i,i<c->D i=ab)->∀i,c<=i->i<all.length->x p i=.any)(one:∀p (D:Nat->Bool) i o,Inv p D->all[i]?=aa o->i<c->D i=af->(∀e∈bT o.after.toList,D e=ab)->(∀j o',all[j]?=aa o'->D j=ab->∀e∈bT o'.after.toList,D e=ab)->mD X N all o (jY all φ (x p) i) (S p D) (λq:{O:g // (∀j,D j=ab->x O j=x p j)/\Inv O (eg i D)}=>x q.1 i) (λq=>S q.1 (eg i D))){Q:Post}(hQ:∀p D,Inv p D->(∀i,i<c->D i=ab)->ib X N all (all.drop c) (Q .normal) (MV all φ (x p)) (S p D))(id:Nat):
  AW X N (.region id all.toArray ab) Q φ σ:=by
 have n:∀i:Nat,all.toArray[i]?=all[i]?:=λi=>by simp
 let idx:Nat->Option Nat:=λt=>(bg all.length).find? (λi=>decide ((all.getD i jw).dst=aa t));have K:∀t j,idx t=aa j->∃o,all[j]?=aa o/\o.dst=aa t:=by grind
 have z:∀i o d,all[i]?=aa o->o.dst=aa d->idx d=aa i:=by
  intro i o d f M;have hi:i<all.length:=(bY.1 f).1;cases hx:idx d with
  |none =>
   have:=List.find?_eq_none.1 hx i (by grind);grind
  |some j =>
   grind[tj]
 have T:∀t,pd t all=ab↔∃j,idx t=aa j:=by grind[qb,rY]
 have I:∀i o,all[i]?=aa o->all.getD i jw=o:=λi o h=>by grind
 have M:U8 X N all.toArray φ x S Inv idx c:=by
  refine⟨?_,?_,?_,?_,?_,?_,λi o f Z L hLc hLp k hk=>?_,by grind,λp D R hD i h1 h2=>RR p D R hD i h1 (by grind)⟩
  .intro i o f e W V;rw[n]at f;have:=B4 G i o f e.on (eN.2 ⟨e,by grind,V,rfl⟩);omega
  .intro i o d f M;rw[n]at f;exact⟨z i o d f M,gA (yx J i o f) d M⟩
  .grind
  .intro p D i o R f hic hDi Q8 IM;rw[n]at f;exact one p D i o R f hic hDi (λe W=>by
    grind[eN]) λj o hj hDj e W=>by grind[eN]
  .intro x i o f t σ s v U;rw[n]at f;show dj σ s v (look (jY all φ x i) t);unfold jY;rw[I i o f];rcases nt (m:=λj=>ia j (bT o.after.toList)) (φ:=uM all φ) (t:=t) (l:=Ad all 0 x) (i:=0)with⟨j,y,h1,h2,C⟩|C
   .rw[C];rw[wK]at h1;cases hj:all[j]? with
    |none=>grind
    |some oj =>
     simp only[hj,nZ,dm,lT,bC]at h1;rw[z j oj t hj h1.1]at U;simp only at U;rw[bm]at U
     .grind
     .simp only[bC]at h2;obtain⟨e,a,b,c⟩:=eN.1 (Js h2);grind
   .rw[C,lP];split
    .trivial
    grind
  .intro x t σ s v U;show dj σ s v (look (MV all φ x) t);unfold MV;rcases nt (m:=λ_=>ab) (φ:=uM all φ) (t:=t) (l:=Ad all 0 x) (i:=0)with⟨j,y,h1,h2,C⟩|C
   .rw[C];rw[wK]at h1;grind
   .rw[C,lP];split
    .trivial
    grind
  .rw[n]at f;refine PN i Z (bY.1 f).1 (λk=>L.getD k af=ab) (λi' hi' hl e W=>?_) (λe W=>?_) k hk
   .grind [eN]
   grind[eN]
 intro s a Dv hh b kk cs SS V XX;refine .next rfl λB u=>?_;have u:=X.iv u;have A:=hh.rely u;have H:=Dv.rely u hh;have F:Step σ B σ {B with w:={B.w with drawn:=B.w.drawn+1}}:=Step.same rfl rfl rfl rfl;have IN:aF σ {B with w:={B.w with drawn:=B.w.drawn+1}}:=A.same rfl;have Z8:=u.stepW.trans (F.m9 A);refine⟨_,{B with w:={B.w with drawn:=B.w.drawn+1}},#[],lV,⟨⟨σ,σ,A,IN,F⟩,.nil⟩,?_⟩;simp only[Region.schedule,hf,Bool.true_or,cj];have hd0:lB (Array.replicate all.toArray.size af)=λ_=>af:=by funext i;simp[lB,dO,mR];split<;>simp
 refine M.arr V (σ0:=σ) (s0:=s) (λp D s2 a2 R hD f2 h2 mf=>?_) all.toArray.size E _ (by grind) (by simp) (by simp) ?_ ?_ _ a ?_ (by grind) (by grind) _
 .refine hQ p D R hD s2 a2 f2 h2 b kk cs SS _ V ?_ λφ3 σ3 s3 a3 q3 f3 C Y=>XX .normal _ _ s3 a3 q3 f3 C (mf.trans Y);grind[Names.U7]
 .intro i _ hi;simp[dO,mR]at hi;split at hi<;>simp at hi
 .intro i o f hi;simp[dO,mR]at hi;split at hi<;>simp at hi
 .rw[hd0,h0];have r:=H.mono (F.m9 A) A.len;refine⟨r.size,r.defers,λt=>?_⟩;unfold gj;cases hix:idx t with
  |none=>exact r.slot t
  |some j =>
   simp only;rw[aZ]
   .exact r.slot t
   .simp[dO,mR];split<;>simp
def mD.to{all:List au}{o:au}{φ:Fr}{ι d:Type}{y:ι->D}{σ':ι->List aP}{z:d->D}{e:d->List aP}(h:mD X N all o φ σ y σ')(l:∀j,∃k,y j=z k/\σ' j=e k):mD X N all o φ σ z e:=by intro s a f hh b k cs S i rest hb hi hK;refine h s a f hh b k cs S i rest hb hi λj v s' r1 r2 r3=>?_;obtain⟨q,p2,p3⟩:=l j;grind
def OA.tc{all:List au}{o:au}{φ:Fr}{d:Type}{y:D}{σ':List aP}{z:d->D}{e:d->List aP}(h:OA X N all o φ σ y σ')(k:d)(h1:y=z k)(h2:σ'=e k):mD X N all o φ σ z e:=by subst h1 h2;exactλs a f hh b k' cs S i rest hb hi hK=>h s a f hh b k' cs S i rest hb hi λv s' r1 r2 r3=>hK k v s' r1 r2 r3
end
section
variable {P:aq}{X:Cx P}{N:Nat}{all:List au}{φ:Fr}{σ:List aP}{o:au}
theorem mD.kQ{ι:Type}{x:ι->D}{σ':ι->List aP}(p:o.guard=ae)(h:∀s e,aF σ s->(∀y,dj σ s (e y) (bM φ y))->∃(j:ι)(s':St)(v:ah),(aw e o).run P s.w=.ok (.value v) s'.w/\dj (σ' j) s' v (x j)/\aF (σ' j) s'/\Step σ s (σ' j) s'/\eY s ((aw e o).events P s.w #[])):mD X N all o φ σ x σ':=by intro s a f hh b k cs S i rest hb hi hK;refine qY hb hi (dC p) λn d=>?_;have c:=hh.rely d;obtain⟨j,s',v,h1,h2,l,g,m⟩:=h n a.eval c (cX (f.rely d hh));exact⟨_,s',v,h1,.inl rfl,⟨⟨σ,σ' j,c,l,g⟩,m⟩,hK j v s' h2 l (d.stepW.trans (g.m9 c))⟩
def mD.z9{x:D}{σ':List aP}(h:OA X N all o φ σ x σ'):mD X N all o φ σ (λ_:Unit=>x) (λ_=>σ') :=
 λs a f hh b k cs S i rest hb hi hK=>h s a f hh b k cs S i rest hb hi λv s'=>hK () v s'
def OA.law{x:D}{σ':List aP}(h:bF P o (bM φ) σ x σ')(a:o.guard=ae):OA X N all o φ σ x σ':=.kQ (λ_ _ _ _=>dC a) h
def OA.eval{T:List (Nat×TI)}{CT:List (Nat×dr)}{ds:List (Nat×Bool)}{x:D}{obs:List Prop}(hT:cN P T)(hC:bE X CT)(h:we T CT ds all φ σ o=aa (x,ae,obs))(a:az obs):OA X N all o φ σ x σ:=gB hT hC h a
def OA.cT{T:List (Nat×TI)}{CT:List (Nat×dr)}{x:D}(hT:cN P T)(hC:bE X CT)(h:we T CT [] all φ σ o=aa (x,ae,[])):OA X N all o φ σ x σ:=gB hT hC h ay
def tz(X:Cx P)(N:Nat)(all:List au)(φ:Fr)(σ:List aP)(x:Nat->D)(pre:Nat->Bool):List au->Nat->Prop
 |[],_=>True
 |o::r,i=>(match pre i with|true=>OA X N all o (jY all φ x i) σ (x i) σ|false=>True)/\tz X N all φ σ x pre r (i+1)
def tA(X:Cx P)(N:Nat)(all:List au)(φ:Fr)(σ:List aP)(x:Nat->D)(m:Nat):List au->Nat->Prop
 |[],_=>True
 |o::r,i=>(match aB i m with|true=>True|false=>OA X N all o (jY all φ x i) σ (x i) σ)/\tA X N all φ σ x m r (i+1)
theorem tz.get{x:Nat->D}{pre:Nat->Bool}:∀{l:List au}{k:Nat},tz X N all φ σ x pre l k->∀(i:Nat)(o:au),l[i]?=aa o->pre (k+i)=ab->OA X N all o (jY all φ x (k+i)) σ (x (k+i)) σ
 |[],_,_,i,o,h=>by grind
 |p::r,k,h,0,o,hi=>λa=>by simp at hi;subst hi;have h1:=h.1;grind
 |p::r,k,h,i+1,o,hi=>λa=>by have:=tz.get h.2 i o (by grind) (by grind);grind
theorem tA.get{x:Nat->D}{m:Nat}:∀{l:List au}{k:Nat},tA X N all φ σ x m l k->∀(i:Nat)(o:au),l[i]?=aa o->k+i≠m->OA X N all o (jY all φ x (k+i)) σ (x (k+i)) σ
 |[],_,_,i,o,h=>by grind
 |p::r,k,h,0,o,hi=>λa=>by simp at hi;subst hi;have h1:=h.1;simp only[iq]at a;grind[Nat.eq_of_beq_eq_true]
 |p::r,k,h,i+1,o,hi=>λa=>by have:=tA.get h.2 i o (by grind) (by omega);grind
def Ec{ι:Type}(pre:Nat->Bool)(x:Nat->D)(y:ι->Nat->D)(j:ι)(i:Nat):D:=match pre i with|true=>x i|false=>y j i
def F4{ι:Type}{m c:Nat}{pre:Nat->Bool}{x:Nat->D}{b:ι->Nat->D}{σ':ι->List aP}{S:ι->(Nat->Bool)->List aP}(y:pre m=af)(z:Af pre m all 0=ab)(same:∀j i,pre i=ab->b j i=x i)(one:∀i o,all[i]?=aa o->pre i=ab->OA X N all o (jY all φ x i) σ (x i) σ)(two:∀j (D:Nat->Bool) i o,all[i]?=aa o->i≠m->i<c->D i=af->(∀k g,all[k]?=aa g->D k=ab->∀e∈bT g.after.toList,D e=ab)->OA X N all o (jY all φ (b j) i) (S j D) (b j i) (S j (eg i D)))(M4:∀o,all[m]?=aa o->mD X N all o (jY all φ x m) σ (λj=>b j m) σ')(w:∀j (D:Nat->Bool),(∀i,D i=ab->pre i=ab)->σ' j=S j (eg m D)):
  ∀(a:Option ι) (D:Nat->Bool) i o,(a.isSome=D m/\(a=ae->∀i,D i=ab->pre i=ab))->all[i]?=aa o->i<c->D i=af->(∀e∈bT o.after.toList,D e=ab)->(∀j g,all[j]?=aa g->D j=ab->∀e∈bT g.after.toList,D e=ab) ->
   mD X N all o (jY all φ (a.elim x b) i) (a.elim σ λj=>S j D) (λq:{d:Option ι // (∀j,D j=ab->d.elim x b j=a.elim x b j)/\(d.isSome=eg i D m/\(d=ae->∀k,eg i D k=ab->pre k=ab))}=>q.1.elim x b i) (λq=>q.1.elim σ λj=>S j (eg i D)):=by
 intro a D i o t r n p u f;have A:∀{k},eg i D k=ab->k=i∨D k=ab:=λ{k} hk=>by unfold eg at hk;grind[Nat.eq_of_beq_eq_true]
 have v:∀{k},k≠i->eg i D k=D k:=λ{k} hk=>by unfold eg;grind[Nat.eq_of_beq_eq_true]
 by_cases l:i=m
 .subst l;cases a with
  |some j=>grind
  |none =>
   refine(M4 o r).to λj=>⟨⟨aa j,λk hk=>same j k (t.2 rfl k hk),?_,λh=>by cases h⟩,rfl,w j D (t.2 rfl)⟩
   unfold eg;grind[Nat.beq_refl]
 .cases a with
  |none =>
   have s:pre i=ab:=by grind[F3]
   exact(one i o r s).tc ⟨ae,λ_ _=>rfl,by grind,λ_ k hk=>by grind⟩ rfl rfl
  |some j=>exact(two j D i o r l n p f).tc ⟨aa j,λ_ _=>rfl,by grind,λh=>by cases h⟩ rfl rfl
def wL{ι:Type}{m c:Nat}{pre:Nat->Bool}{a:Option ι}{D:Nat->Bool}(e:a.isSome=D m/\(a=ae->∀i,D i=ab->pre i=ab))(d:m<c)(b:∀i,i<c->D i=ab):∃j,a=aa j:=by
 cases a with
 |some j=>grind
 |none=>grind
def AK.M4{ι:Type}(q:P.follows Departure.mixedOrders=ab)(m:Nat)(pre:Nat->Bool)(x:Nat->D)(y:ι->Nat->D)(σ':ι->List aP){ops:Array au}{id:Nat}{K:List It}{Qf:Post}(c:mx ops.toList=ab)(b:rV ops.toList 0=ab)(d:om N ops.toList=ab)(e:Nat.blt m ops.toList.length=ab)(f:pre m=af)(g:Af pre m ops.toList 0=ab)(one:tz X N ops.toList φ σ x pre ops.toList 0)(two:∀j,tA X N ops.toList φ (σ' j) (Ec pre x y j) m ops.toList 0)(M4:mD X N ops.toList (ops.toList.getD m jw) (jY ops.toList φ x m) σ (λj=>Ec pre x y j m) σ')(k:∀j,AK X N Qf K .normal (MV ops.toList φ (Ec pre x y j)) (σ' j)):AK X N Qf (.code (.region id ops ab)::K) .normal φ σ:=by
 have e:=cV e;have:=AW.reg (X:=X) (N:=N) (φ:=φ) (σ:=σ) q (all:=ops.toList) ops.toList.length (λa:Option ι=>a.elim x (Ec pre x y)) (λa _=>a.elim σ σ') (λa D=>a.isSome=D m/\(a=ae->∀i,D i=ab->pre i=ab)) ae ⟨rfl,λ_ _ h=>by cases h⟩ rfl c b d (bh _)
  (λi h1 h2=>absurd h2 (mn.2 h1)) (λa D _ _ i h1 h2=>absurd h2 (mn.2 h1))
  (F4 (S:=λj _=>σ' j) f g (λj i l=>by simp only[Ec,l]) (λi o hi l=>by have:=one.get i o hi (by grind);grind) (λj D i o hi Bo _ _ _=>by have:=(two j).get i o hi (by grind);grind)
   (λo r=>by grind) (λ_ _ _=>rfl))
  (Q:=AK X N Qf K) (λa D p n=>by obtain⟨j,rfl⟩:=wL p e n;rw[u7];exact .nil (k j)) id
 rw[oT]at this;exact this
end
def rf{B:aP}{r:List aP}(h:B≠.qP)(k:lA r=ab):lA (B::r)=ab:=by cases B<;>first|exact k|grind
section
variable {P:aq}{X:Cx P}{N:Nat}{Qf:Post}{φ:Fr}{σ:List aP}
def AK.iI{Q a:Post}(h:∀e φ σ,Q e φ σ->a e φ σ):∀{K:List It}{e:Exit}{φ:Fr}{σ:List aP},AK X N Q K e φ σ->AK X N a K e φ σ
 |[],e,φ,σ,q=>h e φ σ q
 |.code c::K,.normal,φ,σ,q=>AW.mono q λ_ _ _ q=>AK.iI h q
 |.code c::K,.exit _,φ,σ,q=>AK.iI (K:=K) h q
 |.code c::K,.ret,φ,σ,q=>AK.iI (K:=K) h q
 |.code c::K,.panic _,φ,σ,q=>AK.iI (K:=K) h q
 |.code c::K,.goto _,φ,σ,q=>AK.iI (K:=K) h q
 |.code c::K,.outgrown,φ,σ,q=>AK.iI (K:=K) h q
 |.blk id::K,.exit IX,φ,σ,q=>by
  simp only[AK]at q⊢;split
  .rename_i e;rw[bm e]at q;exact AK.iI (K:=K) h q
  .rename_i e;rw[aZ e]at q;exact AK.iI (K:=K) h q
 |.blk id::K,.normal,φ,σ,q=>AK.iI (K:=K) h q
 |.blk id::K,.ret,φ,σ,q=>AK.iI (K:=K) h q
 |.blk id::K,.panic _,φ,σ,q=>AK.iI (K:=K) h q
 |.blk id::K,.goto _,φ,σ,q=>AK.iI (K:=K) h q
 |.blk id::K,.outgrown,φ,σ,q=>AK.iI (K:=K) h q
 |.ops all rest::K,.normal,φ,σ,q=>ib.mono q λ_ _ q=>AK.iI h q
 |.ops all rest::K,.exit _,φ,σ,q=>AK.iI (K:=K) h q
 |.ops all rest::K,.ret,φ,σ,q=>AK.iI (K:=K) h q
 |.ops all rest::K,.panic _,φ,σ,q=>AK.iI (K:=K) h q
 |.ops all rest::K,.goto _,φ,σ,q=>AK.iI (K:=K) h q
 |.ops all rest::K,.outgrown,φ,σ,q=>AK.iI (K:=K) h q
def AK.J3{id:Nat}{A:Fr->List aP->Prop}{b a c:List It}(h1:jP id b=ae)(h2:jP id a=aa c)(k:AK X N Qf c .normal φ σ):
  AK X N (BT A (AK X N Qf a)) (.code (.exit id)::b) .normal φ σ :=
 AK.iI (λe φ' σ' q=>by cases e<;>exact q) (AK.leave (X:=X) (N:=N) (Qr:=Qf) (A:=A) (φ:=φ) (σ:=σ) h1 h2 k)
end
section
variable {P:aq}{X:Cx P}{N:Nat}{K:List It}{φ:Fr}{σ:List aP}
def AK.mG{ι:Type}{T:List (Nat×TI)}{fn:Func}{h:Nat}{res:ι->D}{σ':ι->List aP}(i:ι)(ks:List Nat){l:Nat}{E:aj}{cs:List A}{t:Tmp}{ty:aj}{b:TI}{ps:List Prop}(k:fn.results.toList=[.cell t ty])(hi:bD T ty=aa b)(p:b.agg=ab)(q:look φ t=.e (.one (.ptr l 0)))(hl:dt l σ=aa (.cells E cs))(a:aB cs.length b.size=ab)(c:ia l ks=af)(g:Du (.e (.agg cs)) (hZ ks (res i))=aa ps)(n:az ps)(f:vP ks.length (res i)=ab)(o:jJ ks σ=aa (σ' i))(d:kn (σ' i)=ab)(m:dw ks=ab)(hk:∀j,j<h->ks[j]?=aa j):
  AK X N (λe φ σ1=>∃j,Ki T fn h (res j) (σ' j) e φ σ1) (.code .ret::K) .normal φ σ :=
 AK.ret ⟨i,.inl rfl,ks,l,E,cs,t,ty,b,ps,ae,nofun,k,hi,p,bP a,q,b5 hl,B9 c,g,n,f,o,d,m,hk⟩
def AK.lC{ι:Type}{T:List (Nat×TI)}{fn:Func}{k:Nat}{res:ι->D}{σ':ι->List aP}(i:ι)(ks:List Nat){l:Nat}{E:aj}{cs:List A}{t u:Tmp}{ty:aj}{b:TI}{x:E1}{ps:List Prop}(m:fn.results.toList=[.cell t ty,.tmp u])(hi:bD T ty=aa b)(r:b.agg=ab)(s:look φ t=.e (.one (.ptr l 0)))(p:look φ u=.e x)(hl:dt l σ=aa (.cells E cs))(a:aB cs.length b.size=ab)(c:ia l ks=af)(g:Du (.eX [.agg cs,x]) (hZ ks (res i))=aa ps)(o:az ps)(f:vP ks.length (res i)=ab)(q:jJ ks σ=aa (σ' i))(d:kn (σ' i)=ab)(n:dw ks=ab)(hk:∀j,j<k->ks[j]?=aa j):
  AK X N (λe φ σ1=>∃j,Ki T fn k (res j) (σ' j) e φ σ1) (.code .ret::K) .normal φ σ :=
 AK.ret ⟨i,.inl rfl,ks,l,E,cs,t,ty,b,ps,aa (u,x),λ_ h=>by cases h;exact p,m,hi,r,bP a,s,b5 hl,B9 c,g,o,f,q,d,n,hk⟩
def Ev.qG{T:List (Nat×TI)}(hT:cN P T){f:aJ}{fn:Func}{c:Code}{args:List D}{σ σ':List aP}{res:D}(g:P.funcs[f]?=aa fn)(b:(fn.name== "runtime.NumGoroutine")=af)(d:fn.body=aa c)(a:bu args.length fn.ntmps=ab)(h:Fits args σ->AK X fn.ntmps (λe φ σ1=>∃_:Unit,Ki T fn σ.length res σ' e φ σ1) [.code c] .normal (iY 0 args) σ):Ev X f args σ res σ' :=
 (eb.rW (ι:=Unit) (σ':=λ_=>σ') (res:=λ_=>res) hT g b d a h).DL
end
section
variable {P:aq}{X:Cx P}{N:Nat}{Qf:Post}{K:List It}{φ:Fr}{σ:List aP}{all rest:List au}{o:au}
theorem mD.wF{ι:Type}{x:ι->D}{σ':ι->List aP}(q:o.guard=ae)(h:dT P N o φ σ x σ'):mD X N all o φ σ x σ':=by intro s a f hh b k cs S i rest n hi hK;refine qY n hi (dC q) λm d=>?_;have c:=hh.rely d;obtain⟨j,p,s',v,h1,h2,r,g,e,l⟩:=h m a (f.rely d hh) c;exact⟨p,s',v,h1,h2,⟨⟨σ,σ' j,c,g,e⟩,l⟩,hK j v s' r g (d.stepW.trans (e.m9 c))⟩
def mD.Bz{ι:Type}{v:ak}{xs:Array ak}{y:Array aj}{f:aJ}{cap:List C}{d:List D}{l:List aP}{σ1:ι->List aP}{res:ι->D}(r:eb X f d l res σ1)(ks:List Nat)(z:o.guard=ae)(H:o.op=.call {callee:=.value v,args:=xs,argTypes:=y})(u:eG (bM φ v)=aa (f,cap))(k:∀s vs,cg σ s vs (xs.toList.map (bM φ)++fJ cap)->cg σ s vs (fI ks d))(F:ll ks.length d=ab)(E:jJ ks σ=aa l)(I:cq l=ab)(A:∀j,cq (σ1 j)=ab)(L:dw ks=ab)(B:∀j,bu ks.length (σ1 j).length=ab):
  mD X N all o φ σ (λj=>hZ (ks++kL σ.length ((σ1 j).length-ks.length)) (res j)) (λj=>dH ks (σ1 j) σ):=by
 intro s a t hh b kk cs S i rest J hi hK;have n:=cX t v;unfold eG at u;split at u
 case h_2=>cases u
 case h_1 f' Nf he =>
  cases u;rw[he]at n;have g:=eT n;generalize G:a.eval v=fv at g;cases g with
  |fn fs na hl Ds f1 f2 h1 h2 r1 r2 =>
   have x:fs=[]:=jf hl;subst x;have m:cg σ s na (fJ cap):=nj (λj c hj=>⟨f2 j,h2 j (by grind),r2 j c hj⟩) Ds;have q:cg σ s (xs.toList.map a.eval++na) (fI ks d):=k s _ ((lJ (cX t) xs.toList).append m);obtain⟨fn,p,h,e⟩:=r.1;exact te J hi (dC z) hh (λw=>(jr H p h e G w).1) (λw=>(jr H p h e G w).2) r q F E I A L (λj=>cV (B j)) hK
def mD.p9{ι:Type}{n:ak}{xs:Array ak}{l:Array aj}{f:aJ}{cap:List C}{a:List D}{b:List aP}{σ1:ι->List aP}{res:ι->D}(m:eb X f a b res σ1)(ks:List Nat)(g:o.guard=ae)(r:o.op=.call {callee:=.value n,args:=xs,argTypes:=l})(q:eG (bM φ n)=aa (f,cap))(c:mv (xs.toList.map (bM φ)++fJ cap)=fI ks a)(k:ll ks.length a=ab)(e:jJ ks σ=aa b)(p:cq b=ab)(i:∀j,cq (σ1 j)=ab)(s:dw ks=ab)(d:∀j,bu ks.length (σ1 j).length=ab):
  mD X N all o φ σ (λj=>hZ (ks++kL σ.length ((σ1 j).length-ks.length)) (res j)) (λj=>dH ks (σ1 j) σ):=.Bz m ks g r q (λ_ _ h=>c▸o7 h) k e p i s d
def mD.jK{ι:Type}{p:ak}{xs:Array ak}{m:Array aj}{f:aJ}{cap:List C}{a:List D}{b:List aP}{σ1:ι->List aP}{res:ι->D}(n:eb X f a b res σ1)(ks:List Nat)(i:o.guard=ae)(s:o.op=.call {callee:=.value p,args:=xs,argTypes:=m})(r:eG (bM φ p)=aa (f,cap)){ps:List Prop}(c:vS (xs.toList.map (bM φ)++fJ cap) (fI ks a)=aa ps)(d:az ps)(l:ll ks.length a=ab)(g:jJ ks σ=aa b)(q:cq b=ab)(k:∀j,cq (σ1 j)=ab)(t:dw ks=ab)(e:∀j,bu ks.length (σ1 j).length=ab):
  mD X N all o φ σ (λj=>hZ (ks++kL σ.length ((σ1 j).length-ks.length)) (res j)) (λj=>dH ks (σ1 j) σ):=.Bz n ks i s r (λ_ _ h=>vg c d h) l g q k t e
def dT.fresh{x y:ak}{E:aj}{H:TI}(h:lz P o x y E H){k0 k m:Nat}{tx:Bool}{es es':Nat->List C}(Y:H.size=k)(S:bM φ x=.e (.one (.c (.sl ab k0 0 es))))(hy:bM φ y=.e (.one (.c (.sl tx k m es'))))(Q:0<m)(I:m*H.bytes<=140737488355328)(ZZ:∀i,i<m->∀c∈es' i,uK c=ab):
  dT P N o φ σ (ι:={q:m8×List ah // gi k m es' q.2}) (λq=>.e (.one (.v (k9 q.1.1 m)))) (λq=>σ++[.b8 (fQ E k q.1.1 m q.1.2)]):=by
 intro s ρ Z hh;obtain⟨t,t2,i,i2,ho,hi,hd,L,J⟩:=h.op;have h1:=cX Z x;rw[S]at h1;have n:=Rd.u9 (k:=k0) (k':=H.size) (.inr rfl) (eT h1);have h2:=cX Z y;rw[hy]at h2;have h2:=eT h2;obtain⟨a,cap,vs,hv,DI,Nd,ht,hF,NU⟩:=n.flat;have T:cap=0:=ht rfl;subst T;rw[hv]at n;have D:Rd s.M (ρ.eval y) (.sl tx H.size m es'):=by grind
 obtain⟨f,V,g,d,F,W,z,r⟩:=iu (P:=P) (ty:=o.type) hi hd L J h.elem hh n D (by omega) (by grind) h.bytes;have G8:=iV (P:=P) (ty:=o.type) hi hd L J h.elem hh n D (by omega) (by grind) h.bytes;have e0:cC 0 es es'=es':=by funext i;simp[cC]
 rw[Y,bC,e0]at d;rw[Y]at z;rw[bC]at F r;have O:gi k m es' f:=⟨d.len,d.width,λi hi j c hj=>by
  obtain⟨u,U,u2⟩:=d.rd i hi j c hj
  grind[pY]⟩
 have A:∀x∈f,cE x=ab:=λx S=>by
  obtain⟨p,hp,rfl⟩:=dM S;have hk:0<k:=by grind
  have PK:=d.len;have hi:p / k<m:=pL (by grind);have R:p / k*k+p % k=p:=pQ p k;have hj:p % k<(es' (p / k)).length:=by rw[d.width _ hi];exact j9 _ hk
  obtain⟨u,U,u2⟩:=O.at' _ hi _ _ (br hj);rw[R,br hp]at U;cases U;exact(u2 s.M).cell
 let w':aA:=s.w.drew.alloc (.cells (f++V).toArray E);have hB:et (σ++[.b8 (fQ E k (.row s.w.heap.size g) m f)]) {s with w:=w',β:=s.β++[⟨.nilFunc,[s.w.heap.size]⟩]} (.b8 (fQ E k (.row s.w.heap.size g) m f)) ⟨.nilFunc,[s.w.heap.size]⟩:=by
  refine⟨λB=>if B=s.w.heap.size then aa (.cells (f++V).toArray E (0,0))else ae,⟨rfl,A,d.len,F,W,V,z,rfl⟩,λB o l=>?_,λB=>?_,λB l o=>?_⟩
  .by_cases e:B=s.w.heap.size
   .subst e;simp only[cj]at l;cases l;exact dG s.w.drew _
   grind
  .by_cases e:B=s.w.heap.size<;>simp[e]
  .simp at l;subst l;cases Q:s.M s.w.heap.size o with
   |none=>rfl
   |some v=>have:=hh.block Q;omega
 have Nh:w'.heap.size=s.w.heap.size+1:=by show(s.w.drew.heap.push _).size=_;simp
 have G:aF σ {s with w:=w'}/\Step σ s σ {s with w:=w'} :=
  hh.grow (by omega) (λb I=>cJ s.w.drew _ I) (λb I o=>rfl) (λb I o v Q=>by have:=hh.block Q;omega) rfl rfl rfl
 obtain⟨g1,g2⟩:=G.1.hO G.2 rfl hh hB (λb I=>by grind)
 refine⟨⟨(.row s.w.heap.size g,f),O⟩,.value (.slice (aa ⟨s.w.heap.size,0,ae⟩) m g),_,_,?_,.inl rfl,Rd.val rfl,g1,g2,?_⟩
 .rw[de ho,hv];simp[r];rfl
 grind[de,eH]
def AK.fresh{x y:ak}{E:aj}{a:TI}(h:lz P o x y E a){r k m:Nat}{tx:Bool}{es es':Nat->List C}(n:a.size=k)(d:bM φ x=.e (.one (.c (.sl ab r 0 es))))(g:bM φ y=.e (.one (.c (.sl tx k m es'))))(j:0<m)(f:m*a.bytes<=140737488355328)(b:∀i,i<m->∀c∈es' i,uK c=ab)(p:o.guard=ae)(l:fR N o.dst=ab)(kk:∀q:{q:m8×List ah // gi k m es' q.2},AK X N Qf (.ops all rest::K) .normal (kl o.dst (.e (.one (.v (k9 q.1.1 m)))) φ) (σ++[.b8 (fQ E k q.1.1 m q.1.2)])):AK X N Qf (.ops all (o::rest)::K) .normal φ σ :=
 AK.hand _ _ p l (dT.fresh h n d g j f b) kk
def AK.spare(E:aj)(k:Nat){c:Code}(kk:AK X N Qf (.code c::K) .normal φ (σ++[.b8 (fQ E k (.nil ae) 0 [])])):AK X N Qf (.code c::K) .normal φ σ:=by refine AK.ghost (λs a d hh=>?_) kk;obtain⟨e,b⟩:=hh.hO (B:=.b8 (fQ E k (.nil ae) 0 [])) (L:=⟨.nilFunc,[]⟩) (.refl _ _) rfl hh ⟨λ_=>ae,⟨rfl,by simp,by simp,rfl,rfl⟩,by simp,by simp,by simp⟩ (by simp);exact⟨{s with β:=s.β++[⟨.nilFunc,[]⟩]},rfl,⟨d.size,d.defers.imp λ_ h1=>h1.mono b.ext,λu=>(d.slot u).mono b.ext hh.len⟩,e,b⟩
end
def N3(p:Nat->Bool):List Nat->Bool
 |[]=>af
 |e::r=>match p e with|true=>ab|false=>N3 p r
def F5{p:Nat->Bool}:∀{l:List Nat},N3 p l=ab->∃e∈l,p e=ab
 |[],h=>by cases h
 |e::r,h=>by
  simp only[N3]at h;split at h
  .grind
  .obtain⟨b,c,a⟩:=F5 h;grind
def wM(all:List au)(k:Nat):Nat->List Nat->Bool
 |0,l=>ia k l
 |f+1,l=>match ia k l with|true=>ab|false=>N3 (λe=>wM all k f (bT (all.getD e jw).after.toList)) l
def qa{all:List au}{k:Nat}{L:Nat->Prop}(b:∀i,i<all.length->L i->∀e∈bT (all.getD i jw).after.toList,L e):∀{f:Nat}{l:List Nat},wM all k f l=ab->(∀e∈l,L e)->L k
 |0,l,h,a=>a k (Js h)
 |f+1,l,h,a=>by
  simp only[wM]at h;split at h
  .grind [Js]
  .obtain⟨e,j,c⟩:=F5 h;rcases cD e all.length with g|g
   .exact qa b c (b e g (a e j))
   .have:all.getD e jw=jw:=by grind
    rw[this]at c;exact qa b c (λm d=>by simp[jw,bT]at d)
def wN(all:List au)(f:Nat)(l:List Nat):Nat->Bool
 |0=>ab
 |n+1=>match wM all n f l with|true=>wN all f l n|false=>af
def tf{all:List au}{f:Nat}{l:List Nat}:∀{n:Nat},wN all f l n=ab->∀k,k<n->wM all k f l=ab
 |0,_,k,hk=>by omega
 |n+1,h,k,hk=>by
  simp only[wN]at h;split at h
  .rename_i a;by_cases e:k=n
   .grind
   .exact tf h k (by omega)
  grind
def vT(all:List au)(f:Nat):Nat->Nat->Bool
 |_,0=>ab
 |i,r+1=>match wN all f (bT (all.getD i jw).after.toList) i with|true=>vT all f (i+1) r|false=>af
def tg{all:List au}{f:Nat}:∀{i r:Nat},vT all f i r=ab->∀q,i<=q->q<i+r->wN all f (bT (all.getD q jw).after.toList) q=ab
 |i,0,_,q,b,a=>by omega
 |i,r+1,h,q,b,a=>by
  simp only[vT]at h;split at h
  .rename_i c;by_cases e:q=i
   .grind
   .exact tg h q (by omega) (by omega)
  grind
section
variable {P:aq}{X:Cx P}{N:Nat}{φ:Fr}{σ:List aP}
def Hx{ι:Type}(c:Nat)(pre:Nat->Bool)(x:Nat->D)(y:ι->Nat->D)(j:ι)(i:Nat):D:=match Nat.blt i c with|true=>Ec pre x y j i|false=>.any
def AK.J8{ι:Type}(z:P.follows Departure.mixedOrders=ab)(m c l:Nat)(pre:Nat->Bool)(x:Nat->D)(y:ι->Nat->D)(σ':ι->List aP){ops:Array au}{id:Nat}{K:List It}{Qf:Post}(d:mx ops.toList=ab)(b:rV ops.toList 0=ab)(g:om N ops.toList=ab)(s:pre m=af)(t:Af pre m ops.toList 0=ab)(u:Nat.blt c ops.toList.length=ab)(n:Nat.blt m c=ab)(f:∀i,pre i=ab->i<c)(PN:vT ops.toList l c (ops.toList.length-c)=ab)(one:tz X N ops.toList φ σ x pre ops.toList 0)(two:∀j,tA X N ops.toList φ (σ' j) (Hx c pre x y j) m (ops.toList.take c) 0)(M4:mD X N ops.toList (ops.toList.getD m jw) (jY ops.toList φ x m) σ (λj=>Hx c pre x y j m) σ')(k:∀j,AK X N Qf (.ops ops.toList (ops.toList.drop c)::K) .normal (MV ops.toList φ (Hx c pre x y j)) (σ' j)):AK X N Qf (.code (.region id ops ab)::K) .normal φ σ:=by
 have u:=cV u;have n:=cV n;have:=AW.reg (X:=X) (N:=N) (φ:=φ) (σ:=σ) z (all:=ops.toList) c (λa:Option ι=>a.elim x (Hx c pre x y)) (λa _=>a.elim σ σ') (λa D=>a.isSome=D m/\(a=ae->∀i,D i=ab->pre i=ab)) ae ⟨rfl,λ_ _ h=>by cases h⟩ rfl d b g (by omega)
  (λi h1 h2 L v e k hk=>qa v (tf (tg PN i h1 (by omega)) k hk) e)
  (λa D r p i h1 h2=>by
   obtain⟨j,rfl⟩:=wL r n p;have:Nat.blt i c=af:=by
    cases w:Nat.blt i c with
    |false=>rfl
    |true=>have:=cV w;omega
   simp only[Option.elim,Hx,this])
  (F4 (S:=λj _=>σ' j) s t (λj i e=>by have:Nat.blt i c=ab:=rC (f i e);simp only[Hx,this,Ec,e])
   (λi o hi e=>by have:=one.get i o hi (by grind);grind)
   (λj D i o hi Bo s9 _ _=>by
    have q:(ops.toList.take c)[i]?=aa o:=by grind
    have:=(two j).get i o q (by grind);grind)
   (λo A=>by grind) (λ_ _ _=>rfl))
  (Q:=AK X N Qf K) (λa D r p=>by obtain⟨j,rfl⟩:=wL r n p;exact k j) id
 rw[oT]at this;exact this
end
section
variable {P:aq}{X:Cx P}{N:Nat}{ops:Array au}{φ:Fr}{σ:List aP}{x:Nat->D}{S:(Nat->Bool)->List aP}
def pn:List au->List (List Bool)->List (List Bool)
 |[],a=>a
 |o::r,a=>qg (FK a (bT o.after.toList)) λc=>pn r (a++[c])
 where qg:List Bool->(List Bool->List (List Bool))->List (List Bool)
 |[],q=>q []
 |true::r,q=>qg r λr=>q (ab::r)
 |false::r,q=>qg r λr=>q (af::r)
theorem ot:∀(l:List Bool)(q:List Bool->List (List Bool)),pn.qg l q=q l
 |[],q=>rfl
 |true::r,q=>by simp only[pn.qg];rw[ot r]
 |false::r,q=>by simp only[pn.qg];rw[ot r]
def BK{all:List au}{D:Nat->Bool}(b:∀(j:Nat)(o:au),all[j]?=aa o->D j=ab->∀e∈bT o.after.toList,D e=ab):
  ∀(r:List au) (a:List (List Bool)),(∀k,r[k]?=all[a.length+k]?)->(∀(j:Nat) (c:List Bool),a[j]?=aa c->∀o,all[j]?=aa o->(∀e∈bT o.after.toList,D e=ab)->∀q,bit c q=ab->D q=ab) ->
   ∀(j:Nat) (c:List Bool),(pn r a)[j]?=aa c->∀o,all[j]?=aa o->(∀e∈bT o.after.toList,D e=ab)->∀q,bit c q=ab->D q=ab
 |[],a,_,h=>h
 |o::r,a,d,h=>by
  simp only[pn];rw[ot];refine BK b r _ (λk=>?_) ?_
  .have:=d (k+1);grind
  .intro j c l;have f:=d 0;simp only[la,iq]at f;rcases Nat.lt_trichotomy j a.length with i|rfl|g
   .grind
   .rw[gw (bh _)]at l;grind[zO]
   grind
def fN(all:List au)(i j:Nat):Bool:=match(pn all [])[i]? with|some c=>bit c j|none=>af
def wz{all:List au}{D:Nat->Bool}(a:∀(j:Nat)(o:au),all[j]?=aa o->D j=ab->∀e∈bT o.after.toList,D e=ab):∀(i:Nat) o,all[i]?=aa o->(∀e∈bT o.after.toList,D e=ab)->∀j,fN all i j=ab->D j=ab:=by
 intro i o g d j b;unfold fN at b;split at b
 .rename_i c f;exact BK a all [] (by simp) (by simp) i c f o g d j b
 grind
def FQ{all:List au}{D:Nat->Bool}(c:∀(j:Nat)(o:au),all[j]?=aa o->D j=ab->∀e∈bT o.after.toList,D e=ab){i:Nat}(g:D i=af):∀j,(j=i∨fN all j i=ab)->D j=af:=by
 intro j f;rcases f with rfl|f
 .exact g
 .cases h:D j with
  |false=>rfl
  |true =>
   have a:∃d,all[j]?=aa d:=by
    cases a:all[j]? with
    |some d=>grind
    |none =>
     exfalso;have k:(pn all []).length=all.length:=by
      have:∀(r:List au) (b:List (List Bool)),(pn r b).length=b.length+r.length:=by
       intro r;induction r with
       |nil=>intro b;simp[pn]
       |cons o r l=>intro b;simp only[pn];grind[ot]
      grind
     unfold fN at f;grind
   obtain⟨d,a⟩:=a;have:=wz c j d a (c j d a h) i f;grind
def dW{P:aq}(X:Cx P)(N:Nat)(all:List au)(φ:Fr)(x:Nat->D)(S:(Nat->Bool)->List aP)(i:Nat)(o:au):Prop :=
 ∀D:Nat->Bool,(∀j,fN all i j=ab->D j=ab)->(∀j,(j=i∨fN all j i=ab)->D j=af)->OA X N all o (jY all φ x i) (S D) (x i) (S (eg i D))
def JI{P:aq}(X:Cx P)(N:Nat)(all:List au)(φ:Fr)(x:Nat->D)(S:(Nat->Bool)->List aP):List au->Nat->Prop
 |[],_=>True
 |o::r,i=>dW X N all φ x S i o/\JI X N all φ x S r (i+1)
theorem JI.get{all:List au}:∀{l:List au}{k:Nat},JI X N all φ x S l k->∀i o,l[i]?=aa o->dW X N all φ x S (k+i) o
 |[],_,_,i,o,h=>by grind
 |p::r,k,h,0,o,a=>by simp at a;subst a;exact h.1
 |p::r,k,h,i+1,o,a=>by have:=JI.get h.2 i o (by grind);grind
def AK.flags{ops:Array au}{id:Nat}{K:List It}{Qf:Post}(m:P.follows Departure.mixedOrders=ab)(x:Nat->D)(S:(Nat->Bool)->List aP)(l:S (λ_=>af)=σ)(b:mx ops.toList=ab)(a:rV ops.toList 0=ab)(e:om N ops.toList=ab)(one:JI X N ops.toList φ x S ops.toList 0)(k:∀D,(∀i,i<ops.toList.length->D i=ab)->AK X N Qf K .normal (MV ops.toList φ x) (S D)):AK X N Qf (.code (.region id ops ab)::K) .normal φ σ:=by
 have:=AW.reg (X:=X) (N:=N) (φ:=φ) (σ:=σ) m (all:=ops.toList) ops.toList.length (λ_:Unit=>x) (λ_=>S) (λ_ _=>True) () ay l b a e (bh _)
  (λi h1 h2=>absurd h2 (mn.2 h1)) (λh D _ _ i h1 h2=>absurd h2 (mn.2 h1))
  (λh D i o _ g _ f c d=>by have h1:=one.get i o g;rw[bC]at h1;exact(h1 D (wz d i o g c) (FQ d f)).tc ⟨(),λ_ _=>rfl,ay⟩ rfl rfl)
  (Q:=AK X N Qf K) (λh D _ j=>by rw[u7];exact .nil (k D j)) id
 rw[oT]at this;exact this
end
section
variable {P:aq}{X:Cx P}{N:Nat}{Qf:Post}{φ:Fr}{σ:List aP}
def AK.BZ{c:Code}{K:List It}{φ':Fr}{σ':List aP}(k:AK X N Qf (.code c::K) .normal φ' σ'){ps qs:List Prop}(h1:ny φ φ'=aa ps)(b:az ps)(h2:oP σ σ'=aa qs)(a:az qs):AK X N Qf (.code c::K) .normal φ σ :=
 AK.norm σ' h2 a (AW.le k (cA h1 b))
def uk:List It->List It
 |.blk _::K=>uk K
 |K=>K
def AK.uk:∀{K:List It},AK X N Qf (uk K) .normal φ σ->AK X N Qf K .normal φ σ
 |[],h=>h
 |.blk _::K,h=>AK.uk (K:=K) h
 |.code _::_,h=>h
 |.ops _ _::_,h=>h
def AK.kU{S S2:Type}{c c2:Code}(id:Nat){K b i:List It}(h2:jP id K=aa b)(m:Go.AM.uk b=.code c2::i)(O:S2->Prop)(jY:S2->Fr)(a:S2->List aP)(n:Nat)(I:S->Prop)(fr:S->Fr)(st:S->List aP)(h:S->Nat)(x:S){ps qs:List Prop}(g:ny φ (fr x)=aa ps)(e:az ps)(f:oP σ (st x)=aa qs)(d:az qs)(l:σ.length=n)(j:I x)(round:(∀(y:S2) {φ:Fr} {σ:List aP} {ps qs:List Prop},O y->ny φ (jY y)=aa ps->az ps->oP σ (a y)=aa qs->az qs->AK X N Qf b .normal φ σ) ->
   ∀x,I x->AK X N (ln X N Qf K I fr st h n x) [.code c] .normal (fr x) (st x))(after:∀y,O y->AK X N Qf (.code c2::i) .normal (jY y) (a y)):AK X N Qf (.code (.loop c)::K) .normal φ σ :=
 AK.cz n I fr st h x g e f d l j (round λy _ _ _ _ k h1 e h2 d=>AK.uk (by rw[m];exact(after y k).BZ h1 e h2 d))
end
def fG(a:Nat->Option Obj):Mem:=λb o=>match a b with
 |some (.cells cs _ _)=>cs[o]?
 |_=>ae
def PM(K:Mem->Prop):ah->(Nat->Option Obj)->Prop:=λu a=>u=.nilFunc/\(∀b o,a b=aa o->∃cs E,o=.cells cs E (0,0))/\K (fG a)
section
variable {P:aq}{X:Cx P}{N:Nat}{Qf:Post}{d:List It}{φ:Fr}{σ:List aP}{all rest:List au}{o:au}
def AK.merge(i j:Nat){H1 H2 H:ah->(Nat->Option Obj)->Prop}{c:Code}(T:i≠j)(hi:σ[i]?=aa (.b8 H1))(hj:σ[j]?=aa (.b8 H2))(h1:∀v ch,H1 v ch->v=.nilFunc)(h:∀v f v2 k,H1 v f->H2 v2 k->(∀b,(f b).isSome=ab->(k b).isSome=ab->False)->H .nilFunc λb=>(f b).or (k b))(kk:AK X N Qf (.code c::d) .normal φ ((σ.set i (.b8 H)).set j .dead)):AK X N Qf (.code c::d) .normal φ σ:=by
 refine AK.ghost (λs a Q hh=>?_) kk;have W:i<σ.length:=(bY.1 hi).1;have Y:j<σ.length:=(bY.1 hj).1;have I:i<s.β.length:=by rw[hh.len];grind
 have E:j<s.β.length:=by rw[hh.len];grind
 obtain⟨y,p⟩:∃L,s.β[i]?=aa L:=⟨_,br I⟩;obtain⟨r,m⟩:∃L,s.β[j]?=aa L:=⟨_,br E⟩;have Z:=hh.box i _ y hi p;have bj:=hh.box j _ r hj m;have vi:y.v=.nilFunc:=by obtain⟨ch,hH,_⟩:=Z;grind
 let s':St:={s with β:=(s.β.set i ⟨.nilFunc,y.bs++r.bs⟩).set j ⟨r.v,[]⟩}
 have G:∀l,((σ.set i (.b8 H)).set j .dead)[l]?=if l=j then aa .dead else if l=i then aa (.b8 H)else σ[l]?:=λl=>by grind
 have D:∀l,s'.β[l]?=if l=j then aa ⟨r.v,[]⟩else if l=i then aa ⟨.nilFunc,y.bs++r.bs⟩else s.β[l]?:=λl=>by grind
 have mi:=bH p;have mj:=bH m;have R:∀L∈s'.β,∀b∈L.bs,∃z∈s.β,b∈z.bs:=λL g b n=>by grind
 have ex:Ext σ s ((σ.set i (.b8 H)).set j .dead) s':=by
  refine⟨λ_ _ _ h=>h,λl B L hB g=>?_⟩;rw[G,D];by_cases e:l=j
  .subst e;rw[hj]at hB;cases hB;rw[m]at g;cases g;exact⟨.dead,⟨r.v,[]⟩,by simp,by simp,rfl⟩
  .by_cases F:l=i
   .subst F;rw[hi]at hB;cases hB;rw[p]at g;cases g;exact⟨.b8 H,⟨.nilFunc,y.bs++r.bs⟩,by simp[e],by simp[e],vi.symm⟩
   .exact⟨B,L,by grind,by grind,.refl _ _⟩
 have st:Step σ s ((σ.set i (.b8 H)).set j .dead) s' :=
  ⟨bh _,λ_ _ _=>rfl,λ_ _ _ h=>h,λ_ _ _ _=>rfl,λL h b n=>.inr (R L h b n),ex.box,rfl,rfl,rfl,rfl⟩
 obtain⟨f,a1,a2,a3,a4⟩:=Z;obtain⟨k,b1,b2,b3,b4⟩:=bj;have S:∀b,(f b).isSome=ab->(k b).isSome=ab->False:=λb J q2=>T (hh.eB i j y r p m b ((a3 b).2 J) ((b3 b).2 q2));refine⟨s',rfl,⟨Q.size,Q.defers.imp λ_ h1=>h1.mono ex,λu=>(Q.slot u).mono ex hh.len⟩,⟨hh.mem,by simp[s',hh.len],?_,?_,λL g b n=>?_,λb n=>⟨(hh.own b n).1,λL g M=>?_⟩⟩,st⟩
 .intro l B L hB g;rw[G]at hB;rw[D]at g;split at hB
  .cases hB;trivial
  .rename_i e;rw[aZ e]at g;split at hB
   .rename_i F;rw[bm F]at g;cases hB;cases g;refine⟨λb=>(f b).or (k b),h _ f _ k a1 b1 S,λb o n=>?_,λb=>?_,λb n o=>?_⟩
    .cases h1:f b with
     |some x=>grind
     |none=>grind
    .grind
    grind
   .rename_i F;rw[aZ F]at g;exact(hh.box l B L hB g).carry ex hh.len λb n=>⟨rfl,λ_=>rfl⟩
 .intro l l' L1 L2 J q2 b n K;rw[D]at J q2;have key:∀l L,(if l=j then aa (⟨r.v,[]⟩:Loc)else if l=i then aa ⟨.nilFunc,y.bs++r.bs⟩else s.β[l]?)=aa L->b∈L.bs->(l=i/\(b∈y.bs∨b∈r.bs))∨(l≠i/\l≠j/\∃z,s.β[l]?=aa z/\b∈z.bs):=λl L q n=>by
   split at q
   .grind
   .split at q
    .grind
    grind
  rcases key l L1 J n with⟨e1,t⟩|⟨n1,V,L3,t,C⟩<;>rcases key l' L2 q2 K with⟨e2,w⟩|⟨n2,U,L4,w,A⟩
  .grind
  .rcases t with t|t
   .exact absurd (hh.eB _ _ _ _ p w b t A).symm n2
   .exact absurd (hh.eB _ _ _ _ m w b t A).symm U
  .rcases w with w|w
   .exact absurd (hh.eB _ _ _ _ p t b w C).symm n1
   .exact absurd (hh.eB _ _ _ _ m t b w C).symm V
  .exact hh.eB _ _ _ _ t w b C A
 .obtain⟨z,O,h1⟩:=R L g b n;exact hh.lt z O b h1
 .obtain⟨z,O,h1⟩:=R L g b M;exact(hh.own b n).2 z O h1
def wT(M M':Mem):Prop:=∀b o v,M b o=aa v->M' b o=aa v
def PM.add{K i:Mem->Prop}{E:aj}{k n:Nat}{bf:m8}{xs:List ah}(s:∀M M',wT M M'->K M->(∀b cap,bf=.row b cap->∀j v,xs[j]?=aa v->M' b j=aa v)->i M'):
  ∀v c r f,PM K v c->fQ E k bf n xs r f->(∀b,(c b).isSome=ab->(f b).isSome=ab->False)->PM i .nilFunc λb=>(c b).or (f b):=by
 rintro v c r f ⟨_,h2,t⟩ q y;have g:wT (fG c) (fG λb=>(c b).or (f b)):=λb o v l=>by
  cases h:c b with
  |none=>simp[fG,h]at l
  |some x=>simpa[fG,h]using l
 cases bf with
 |nil a =>
  obtain⟨_,_,_,_,rfl⟩:=q;exact⟨rfl,λb o u=>h2 b o (by grind),s _ _ g t λb cap e=>by cases e⟩
 |row b cap =>
  obtain⟨_,q2,q3,q4,A,z,B,rfl⟩:=q;refine⟨rfl,λp o u=>?_,s _ _ g t λp m e j v hj=>?_⟩
  .cases h:c p with
   |some x=>grind
   |none =>
    grind
  .cases e;have w:c b=ae:=by
    cases h:c b with
    |none=>rfl
    |some x=>grind
   have hl:j<xs.length:=(bY.1 hj).1;simp only[fG,w,Option.none_or,cj];grind
def PM.start{E:aj}{k n:Nat}{xs:List ah}{a:Option Addr}{K:Mem->Prop}(c:∀M,K M):∀v ch,fQ E k (.nil a) n xs v ch->PM K v ch:=by rintro v ch ⟨h1,_,_,_,rfl⟩;exact⟨h1,λb o e=>by grind,c _⟩
def PM.Bw{c:Nat}{K:Mem->Prop}{u:ah}{k n:Nat}{es:Nat->List C}(hl:σ[c]?=aa (.b8 (PM K)))(p:∀M,K M->Rd M u (.sl af k n es)):gY σ c u k n es:=by
 intro s hh;have e:c<s.β.length:=by rw[hh.len];grind
 have f:=br e;generalize s.β[c]=L at f;obtain⟨ch,⟨h1,h2,q⟩,l,i,j⟩:=hh.box c _ L hl f;have g:∀b o v,fG ch b o=aa v->b∈L.bs/\s.w.cell? ⟨b,o,ae⟩=aa v:=λb o v a=>by
  cases h:ch b with
  |none=>simp[fG,h]at a
  |some x =>
   obtain⟨cs,E,rfl⟩:=h2 b x h;have m:=l b _ h;simp only[fG,h]at a;exact⟨(i b).2 (by simp[h]),by simpa[aV,m]using a⟩
 refine⟨L,λb o=>(s.M b o).or (fG ch b o),f,λb o v a=>by grind,λb r o=>?_,λb o v a=>?_,j,(p _ q).mono λb o v a=>?_⟩
 .cases h:fG ch b o with
  |none=>simp[h]
  |some v=>grind
 .cases h:s.M b o with
  |some v'=>simp only[h,Option.some_or]at a;cases a;exact hh.mem b o v h
  |none=>grind
 grind
def fQ.U2{E:aj}{k n l:Nat}{bf:m8}{xs:List ah}(hl:σ[l]?=aa (.b8 (fQ E k bf n xs)))(h:0<n)(s:St)(hh:aF σ s):∃b cap,bf=.row b cap/\n<=cap/\cap<=9223372036854775807:=by
 have c:l<s.β.length:=by rw[hh.len];grind
 obtain⟨ch,e,_⟩:=hh.box l _ _ hl (br c);cases bf with
 |nil a=>obtain⟨_,_,_,f,_⟩:=e;omega
 |row b cap=>obtain⟨_,_,_,f,g,_⟩:=e;grind
end
def vU(l k n:Nat)(es:Nat->List C):A->A×List Prop
 |.bp l' (.sl g k' o m)=>match aB l' l with
  |true=>match aB k' k with
   |true=>(.c (.sl af k m (qT o es)),[g=n,o+m<=n])
   |false=>(.bp l' (.sl g k' o m),[])
  |false=>(.bp l' (.sl g k' o m),[])
 |a=>(a,[])
def oo(l k n:Nat)(es:Nat->List C):List A->List A×List Prop
 |[]=>([],[])
 |a::r=>match vU l k n es a with
  |(a',p)=>match oo l k n es r with
   |(r',q)=>(a'::r',kM p q)
def DM(l k n:Nat)(es:Nat->List C):E1->E1×List Prop
 |.one a=>match vU l k n es a with|(a',p)=>(.one a',p)
 |.agg cs=>match oo l k n es cs with|(b,p)=>(.agg b,p)
def DN(l k n:Nat)(es:Nat->List C):D->D×List Prop
 |.e x=>match DM l k n es x with|(a,p)=>(.e a,p)
 |d=>(d,[])
def vW(l k n:Nat)(es:Nat->List C):Fr->Fr×List Prop
 |[]=>([],[])
 |(t,d)::r=>match DN l k n es d with
  |(a,p)=>match vW l k n es r with
   |(r',q)=>((t,a)::r',kM p q)
def gR(l k n:Nat)(es:Nat->List C):Nat->List aP->List aP×List Prop
 |_,[]=>([],[])
 |i,b::r=>match gR l k n es (i+1) r with
  |(r',q)=>match aB i l with
   |true=>(.dead::r',q)
   |false=>match b with
    |.cells E cs=>match oo l k n es cs with|(a,p)=>(.cells E a::r',kM p q)
    |b=>(b::r',q)
section
variable {σ σ':List aP}{s s2:St}{E l k n:Nat}{es:Nat->List C}
structure jd(σ:List aP)(s:St)(l k n:Nat)(es:Nat->List C)(σ':List aP)(s2:St):Prop where
 fe:∀v a,gn σ s v a->gn σ' s2 v a
 Jk:∀v k' o m,gn σ s v (.bp l (.sl n k' o m))->k'=k->o+m<=n->Rd s2.M v (.sl af k m (qT o es))
def jd.a(h:jd σ s l k n es σ' s2){v:ah}{a:A}(b:az (vU l k n es a).2)(r:gn σ s v a):gn σ' s2 v (vU l k n es a).1:=by
 unfold vU at b⊢;split
 .rename_i l' g k' o m;split
  .rename_i e1;split
   .rename_i e2;simp only[e1,e2]at b;have e1:=bP e1;have e2:=bP e2;subst e1;obtain⟨rfl,h2⟩:g=n/\o+m<=n:=b;exact h.Jk v _ _ _ r e2 h2
   .exact h.fe v _ r
  .exact h.fe v _ r
 .exact h.fe v _ r
def jd.ls(h:jd σ s l k n es σ' s2):∀{vs:List ah}{cs:List A},az (oo l k n es cs).2->dX σ s vs cs->dX σ' s2 vs (oo l k n es cs).1
 |[],[],_,_=>trivial
 |[],_::_,_,r=>r.elim
 |_::_,[],_,r=>r.elim
 |v::vs,c::cs,b,r=>by simp only[oo]at b⊢;rw[az.cat]at b;exact⟨h.a b.1 r.1,h.ls b.2 r.2⟩
def jd.e(h:jd σ s l k n es σ' s2){v:ah}{x:E1}(b:az (DM l k n es x).2)(r:m7 σ s v x):m7 σ' s2 v (DM l k n es x).1:=by
 cases x with
 |one a=>exact h.a b r
 |agg cs=>obtain⟨vs,d,f⟩:=r;exact⟨vs,d,h.ls b f⟩
def jd.d(h:jd σ s l k n es σ' s2)(hl:s.β.length=σ.length)(a:Ext σ s σ' s2){v:ah}{d:D}(b:az (DN l k n es d).2)(r:dj σ s v d):dj σ' s2 v (DN l k n es d).1:=by
 cases d with
 |e x=>exact h.e b r
 |eX xs=>exact r.mono a hl
 |any=>trivial
def jd.f(h:jd σ s l k n es σ' s2)(hl:s.β.length=σ.length)(e:Ext σ s σ' s2):∀{φ:Fr}{t:Nat}{v:ah},az (vW l k n es φ).2->dj σ s v (look φ t)->dj σ' s2 v (look (vW l k n es φ).1 t)
 |[],_,_,_,_=>trivial
 |(u,d)::r,t,v,b,a=>by
  simp only[vW]at b⊢;rw[az.cat]at b;simp only[look]at a⊢;cases g:aB u t with
  |true=>rw[g]at a;exact h.d hl e b.1 a
  |false=>rw[g]at a;exact h.f hl e b.2 a
theorem qU:∀{σ:List aP}{i j:Nat},(gR l k n es i σ).1[j]?=match σ[j]? with
  |none=>ae
  |some b=>aa (match aB (i+j) l with|true=>.dead|false=>match b with|.cells E cs=>.cells E (oo l k n es cs).1|b=>b)
 |[],i,j=>by simp[gR]
 |b::r,i,0=>by simp only[gR,iq,la];grind
 |b::r,i,j+1=>by
  have a:=qU (σ:=r) (i:=i+1) (j:=j);have e:i+1+j=i+(j+1):=by omega
  rw[e]at a;simp only[gR,nT];grind
def vX:∀{σ:List aP}{i j:Nat}{E:aj}{cs:List A},az (gR l k n es i σ).2->σ[j]?=aa (.cells E cs)->i+j≠l->az (oo l k n es cs).2
 |[],i,j,_,_,_,a,_=>by grind
 |b::r,i,0,E,cs,e,a,d=>by simp at a;subst a;simp only[gR]at e;grind[Nat.eq_of_beq_eq_true,az.cat]
 |b::r,i,j+1,E,cs,e,a,d=>by simp at a;refine vX (σ:=r) (i:=i+1) (j:=j) ?_ a (by omega);simp only[gR]at e;grind[az.cat]
theorem qV:∀{σ:List aP}{i:Nat},(gR l k n es i σ).1.length=σ.length
 |[],_=>rfl
 |b::r,i=>by simp only[gR];have a:=qV (σ:=r) (i:=i+1);grind
def aF.oE(hh:aF σ s)(hB:σ[l]?=aa (.buf E k n es))(hq:az (gR l k n es 0 σ).2):
  ∃s2:St,s2.w=s.w/\aF (gR l k n es 0 σ).1 s2/\Step σ s (gR l k n es 0 σ).1 s2/\jd σ s l k n es (gR l k n es 0 σ).1 s2:=by
 have H:l<σ.length:=(bY.1 hB).1;have R:s.β[l]?=aa (s.β[l]'(by rw[hh.len];exact H)):=br _;generalize s.β[l]'(by grind)=L at R;have F:=hh.box _ _ L hB R;obtain⟨M',m1,m2,m3,m4⟩:∃M':Mem,(∀b o v,s.M b o=aa v->M' b o=aa v)/\(∀b,b∉L.bs->∀o,M' b o=s.M b o)/\(∀b o v,M' b o=aa v->s.w.cell? ⟨b,o,ae⟩=aa v) /\
   (∀v k' o m,gn σ s v (.bp l (.sl n k' o m))->k'=k->o+m<=n->Rd M' v (.sl af k m (qT o es))):=by
  rcases F with⟨rfl,rfl⟩|⟨b,c0,vs,zs,rfl,hw,IM,ZW,Nd,hF,hM⟩
  .refine⟨s.M,λ_ _ _ h=>h,λ_ _ _=>rfl,hh.mem,λv k' o m r e y=>?_⟩;obtain⟨lv,⟨a,a0,cap,c0,z,h1,h2,I,G,S⟩,_,Z⟩:=r;grind[Rd.jF]
  .let M':Mem:=λq o=>if q=b then vs[o]? else s.M q o;have Y:∀q o v,s.M q o=aa v->M' q o=aa v:=λq o v z=>by grind
   refine⟨M',Y,λq Dt o=>?_,λq o v z=>?_,λv k' o m r e y=>?_⟩
   .grind
   .by_cases e:q=b
    .subst e;simp only[M',cj]at z;simp only[aV,hw];grind
    .simp only[M',e,b7]at z;exact hh.mem q o v z
   .subst e;obtain⟨lv,⟨a,a0,cap,c1,z,h1,h2,I,G,S⟩,_,Z⟩:=r;obtain⟨L',f,J⟩:=(Z _ _ _ _ hB).2 rfl;rw[R]at f;cases f;rw[G]at J;cases J;rw[z];have g:∀i,i<m->∀j c,(qT o es i)[j]?=aa c->∃u,vs[(o+i)*k'+j]?=aa u/\Rd s.M u c:=λi hi j c hj=>by rw[vh]at hj;exact hF.rd (o+i) (by omega) j c hj
    refine .sl b (o*k') (λi j=>(vs[(o+i)*k'+j]?).getD ai) h1 (by omega) (by simp) (λi hi=>by rw[vh];exact hF.width _ (by omega)) (λhm=>?_) (λi hi j c hj=>?_) (λi hi j c hj=>?_)
    .grind
    .grind
    .obtain⟨u,u1,u2⟩:=g i hi j c hj;rw[u1];exact u2.mono Y
 obtain⟨D,q2⟩:=hh.gz (M':=M') (w':=s.w) (B':=.dead) (L':=⟨L.v,[]⟩) hB R ay (bh _) (λ_ _ _=>rfl) (λb _ U o=>m2 b U o) m1 m3 (by simp) rfl rfl rfl ay;let s2:St:=⟨s.β.set l ⟨L.v,[]⟩,M',s.w,s.own⟩
 have g:∀i B,σ[i]?=aa B->i≠l->(gR l k n es 0 σ).1[i]?=aa (match B with|.cells E cs=>.cells E (oo l k n es cs).1|b=>b):=λi B hi Bo=>by grind[qU,Nat.eq_of_beq_eq_true]
 have O:(gR l k n es 0 σ).1[l]?=aa .dead:=by
  rw[qU,hB];have:aB (0+l) l=ab:=by rw[bC];exact iQ l
  grind
 have vY:Step (σ.set l .dead) s2 (gR l k n es 0 σ).1 s2:=by
  refine⟨bh _,λ_ _ _=>rfl,λ_ _ _ h=>h,λ_ _ _ _=>rfl,λL' f b U=>.inr ⟨L',f,U⟩,λi B L' hi f=>?_,rfl,rfl,rfl,rfl⟩;by_cases e:i=l
  .subst e;rw[fU H]at hi;cases hi;exact⟨.dead,L',O,f,rfl⟩
  .rw[j6 (λh=>e h.symm)]at hi;refine⟨_,L',g i B hi e,f,?_⟩;cases B<;>first|exact gy.refl _ _|rfl
 have st:=q2.trans vY;have hc:jd σ s l k n es (gR l k n es 0 σ).1 s2:=⟨λv a r=>r.mono st.ext hh.len,λv k' o m r e y=>m4 v k' o m r e y⟩
 refine⟨s2,rfl,⟨D.mem,by rw[qV,<-hh.len];grind,λi B L' hi f=>?_,D.eB,D.lt,D.own⟩,st,hc⟩;by_cases e:i=l
 .subst e;rw[O]at hi;cases hi;trivial
 .have A:i<σ.length:=by grind[qV]
  have x:=br A;have V:s.β[i]?=aa L':=by grind
  have W:=hh.box i _ L' x V;have p:=D.box i _ L' (by rw[j6 (λh=>e h.symm)];exact x) f;have d:=g i _ x e;rw[hi]at d;have d:=rK d;generalize hBe:σ[i]=B0 at *;cases B0 with
  |cells E0 cs =>
   subst d;obtain⟨b,vs,h1,h2,I,S⟩:=W;obtain⟨q,zD,Q,XI,_,T⟩:=p;rw[h1]at Q;cases Q;exact⟨b,vs,h1,h2,hc.ls (vX hq x (by omega)) I,T⟩
  |vec=>subst d;exact p
  |b8=>subst d;exact p
  |dead=>subst d;trivial
  |loop N φ r =>
   subst d;obtain⟨l1,tmps,fn,df,h1,h2,I,S,h5⟩:=p;exact⟨l1,tmps,fn,df,h1,h2,I,λt=>(S t).mono vY.ext D.len,h5⟩
  |qP=>subst d;exact p
  |buf=>subst d;exact p
end
section
variable {P:aq}{X:Cx P}{N:Nat}{Qf:Post}{K:List It}{φ φ':Fr}{σ σ':List aP}{c:Code}
def AK.oE(l:Nat){E k n:Nat}{es:Nat->List C}{ps qs:List Prop}(hl:dt l σ=aa (.buf E k n es))(i:vW l k n es φ=(φ',ps))(d:gR l k n es 0 σ=(σ',qs))(m:az ps)(j:az qs)(kk:AK X N Qf (.code c::K) .normal φ' σ'):AK X N Qf (.code c::K) .normal φ σ:=by refine AK.ghost (λs a e hh=>?_) kk;obtain⟨s2,h1,h2,b,g⟩:=hh.oE (b5 hl) (by grind);rw[d]at h2 b g;refine⟨s2,h1,⟨e.size,e.defers.imp λ_ h=>h.mono b.ext,λt=>?_⟩,h2,b⟩;have:=g.f hh.len b.ext (φ:=φ) (t:=t) (by grind) (e.slot t);grind
end
section
variable {P:aq}{X:Cx P}
def eb.Bg{ι:Type}{f:aJ}{args:List D}{E:aj}{k n:Nat}{a b:C}{ok:Bool}{es:ι->Nat->List C}{K:ι->Mem->Prop}(es':Nat->List C)(h:eb X f args [] (λ_=>.eX [.agg [.bp 0 (.sl n k 0 n),.c a,.c b],.one (.c (.bool ok))]) (λi=>[.buf E k n (es i),.b8 (PM (K i))]))(hK:∀i M M',wT M M'->K i M->K i M')(u:∀i M,K i M->∀j,j<n->(es' j).length=k/\∀(p:Nat) (c:C),(es' j)[p]?=aa c->∃W,(es i j)[p]?=aa W/\∀v M0,Rd M0 v W->Rd M v c):
  eb (ι:=ah) X f args [] (λv=>.eX [.agg [.c (.val v),.c a,.c b],.one (.c (.bool ok))]) (λv=>[.dead,.b8 (PM λM=>Rd M v (.sl af k n es'))]):=by
 refine⟨h.1,λs vs hr hh S cs hS=>h.2 s vs hr hh S cs λi fr v s' hl mh iX st=>?_⟩;have hlen:s'.β.length=2:=iX.len;obtain⟨t,L1,Y⟩:∃t L1,s'.β=[t,L1]:=by
  match hq:s'.β with
  |[A,B]=>grind
  |[]=>grind
  |[_]=>grind
  |_::_::_::_=>grind
 have G:s'.β[0]?=aa t:=by grind
 have g1:s'.β[1]?=aa L1:=by grind
 obtain⟨ch,⟨p1,p2,p3⟩,p4,p5,p6⟩:=iX.box 1 _ L1 rfl g1;have b0:=iX.box 0 _ t rfl G;obtain⟨ws,rfl,hw⟩:=mh
 match ws,hw with
 |[w0,w1],⟨z,F,_⟩ =>
 obtain⟨us,rfl,T⟩:=z
 match us,T with
 |[u0,u1,u2],⟨U,J,Q,_⟩ =>
 obtain⟨lv,⟨a',a0,cap,W,rfl,k1,k2,k3,k4,k5⟩,_,I⟩:=U;obtain⟨_,I⟩:=I E k n (es i) rfl;obtain⟨L0',e0,e1⟩:=I rfl;rw[G]at e0;cases e0;rw[k4]at e1;have adg:∀x,x∈t.bs->x∈L1.bs->False:=λx h1 h2=>absurd (iX.eB 0 1 t L1 G g1 x h1 h2) (by decide);obtain⟨m,q1,q2,q3,q4⟩:∃m:Nat->Option Obj,(∀x o,m x=aa o->s'.w.heap[x]?=aa o/\∃cs E,o=.cells cs E (0,0))/\(∀x,x∈t.bs↔(m x).isSome=ab)/\(∀x∈t.bs,∀o,s'.M x o=ae) /\
   (∀d,(∀x,(m x).isSome=ab->d x=m x)->K i (fG d)->Rd (fG d) (.slice a' n cap) (.sl af k n es')):=by
  rcases b0 with⟨rfl,rfl⟩|⟨bb,c1,xs,zs,rfl,z1,z2,z3,z4,Z,z6⟩
  .exact⟨λ_=>ae,by simp,by simp,by simp,λd _ _=>.sl 0 0 (λ_ _=>ai) k1 (by omega) (λh=>by cases h) (λi hi=>by omega) (λh=>by omega) (λi hi=>by omega) λi hi=>by omega⟩
  .cases e1;refine⟨λx=>if x=bb then aa (.cells (xs++zs).toArray E (0,0))else ae,λx o g=>?_,λx=>by by_cases e:x=bb<;>simp[e],λx g o=>?_,λd hc hk=>?_⟩
   .grind
   .grind
   .have O:d bb=aa (.cells (xs++zs).toArray E (0,0)):=by grind
    refine .sl bb 0 (λi' j'=>xs.getD (i'*k+j') ai) k1 (by omega) (λh=>by cases h) (λj hj=>(u i _ hk j hj).1) (λh=>?_) (λj hj p c H=>?_) λj hj p c H=>?_
    .grind
    .obtain⟨c2,h1,h2⟩:=(u i _ hk j hj).2 p c H;obtain⟨v,v1,v2⟩:=Z.rd j hj p c2 h1;have s9:=(bY.1 v1).1;simp only[fG,O,ik,bC];grind
    .obtain⟨c2,h1,h2⟩:=(u i _ hk j hj).2 p c H;obtain⟨v,v1,v2⟩:=Z.rd j hj p c2 h1;grind
 let d:Nat->Option Obj:=λx=>(ch x).or (m x);have N:∀x,(m x).isSome=ab->d x=m x:=λx g=>by
  have:ch x=ae:=by
   cases h:ch x with
   |none=>rfl
   |some y=>grind
  grind
 have V:wT (fG ch) (fG d):=λx o v hv=>by
  cases h:ch x with
  |none=>simp[fG,h]at hv
  |some y=>simpa[fG,h,d]using hv
 let s2:St:={s' with β:=[⟨t.v,[]⟩,⟨.nilFunc,L1.bs++t.bs⟩]}
 have r:∀L∈s2.β,∀x∈L.bs,∃L'∈s'.β,x∈L'.bs:=λL q x g=>by rw[Y];simp only[s2,eE,n5,mo]at q;grind
 have hG:eu s' s2:=⟨rfl,λ_ _ _ h=>h,λ_ _ _=>rfl,iX.mem,λx g=>g.imp id λ⟨L,q,g⟩=>r L q x g⟩
 refine .ghost hG (hS (.slice a' n cap) fr _ s2 (hl.mono λ_ _ _ h=>h) ⟨_,rfl,⟨_,rfl,Rd.val rfl,J,Q,ay⟩,F,ay⟩ ⟨iX.mem,rfl,λl B L hB q=>?_,λl l' A B h1 h2 x g P2=>?_,λL q x g=>?_,λx g=>⟨(iX.own x g).1,λL q R=>?_⟩⟩
  ⟨st.size,st.fe,st.mem,λx g hn o=>st.iU x g hn o,λL q x g=>?_,λl B L hB=>by grind,st.os,st.tape,st.output,st.own⟩)
 .match l,hB,q with
  |0,hB,q=>cases hB;trivial
  |1,hB,q =>
   cases hB;cases q;refine⟨d,⟨rfl,λx o g=>?_,q4 d N (hK i _ _ V p3)⟩,λx o g=>?_,λx=>?_,λx g o=>?_⟩
   .cases h:ch x with
    |some y=>simp only[d,h,Option.some_or]at g;exact p2 x o (h.trans g)
    |none=>simp only[d,h,Option.none_or]at g;exact(q1 x o g).2
   .cases h:ch x with
    |some y=>grind
    |none=>grind
   .grind
   grind
  |l+2,hB,q=>grind
 .match l,l',h1,h2 with
  |0,0,_,_=>rfl
  |1,1,_,_=>rfl
  |0,1,h1,_=>grind
  |1,0,_,h2=>grind
  |l+2,_,h1,_=>grind
  |_,l+2,_,h2=>grind
 .obtain⟨L',h1,h2⟩:=r L q x g;exact iX.lt L' h1 x h2
 .obtain⟨L',h1,h2⟩:=r L q x R;exact(iX.own x g).2 L' h1 h2
 .obtain⟨L',h1,h2⟩:=r L q x g;exact st.vb L' h1 x h2
end
section
variable {P:aq}{X:Cx P}{N:Nat}{ops:Array au}{φ:Fr}{σ:List aP}{c:Type}{x:c->Nat->D}{S:c->(Nat->Bool)->List aP}{Inv:c->(Nat->Bool)->Prop}
def ic{P:aq}(X:Cx P)(N:Nat)(all:List au)(φ:Fr){c:Type}(x:c->Nat->D)(S:c->(Nat->Bool)->List aP)(Inv:c->(Nat->Bool)->Prop)(i:Nat)(o:au):Prop :=
 ∀b (D:Nat->Bool),Inv b D->(∀j,fN all i j=ab->D j=ab)->(∀j,(j=i∨fN all j i=ab)->D j=af)->mD X N all o (jY all φ (x b) i) (S b D) (λq:{a:c // (∀j,D j=ab->x a j=x b j)/\Inv a (eg i D)}=>x q.1 i) (λq=>S q.1 (eg i D))
def JH{P:aq}(X:Cx P)(N:Nat)(all:List au)(φ:Fr){c:Type}(x:c->Nat->D)(S:c->(Nat->Bool)->List aP)(Inv:c->(Nat->Bool)->Prop):List au->Nat->Prop
 |[],_=>True
 |o::r,i=>ic X N all φ x S Inv i o/\JH X N all φ x S Inv r (i+1)
theorem JH.get{all:List au}:∀{l:List au}{k:Nat},JH X N all φ x S Inv l k->∀i o,l[i]?=aa o->ic X N all φ x S Inv (k+i) o
 |[],_,_,i,o,h=>by grind
 |p::r,k,h,0,o,a=>by simp at a;subst a;exact h.1
 |p::r,k,h,i+1,o,a=>by have:=JH.get h.2 i o (by grind);grind
def AK.Rt{ops:Array au}{id:Nat}{K:List It}{Qf:Post}(r:P.follows Departure.mixedOrders=ab)(x:c->Nat->D)(S:c->(Nat->Bool)->List aP)(Inv:c->(Nat->Bool)->Prop)(b:c)(m:Inv b λ_=>af)(q:S b (λ_=>af)=σ)(e:mx ops.toList=ab)(d:rV ops.toList 0=ab)(h:om N ops.toList=ab)(one:JH X N ops.toList φ x S Inv ops.toList 0)(k:∀a D,Inv a D->(∀i,i<ops.toList.length->D i=ab)->AK X N Qf K .normal (MV ops.toList φ (x a)) (S a D)):AK X N Qf (.code (.region id ops ab)::K) .normal φ σ:=by
 have:=AW.reg (X:=X) (N:=N) (φ:=φ) (σ:=σ) r (all:=ops.toList) ops.toList.length x S Inv b m q e d h (bh _)
  (λi h1 h2=>absurd h2 (mn.2 h1)) (λa D _ _ i h1 h2=>absurd h2 (mn.2 h1))
  (λa D i o j n _ l f g=>by have h1:=one.get i o n;rw[bC]at h1;exact h1 a D j (wz g i o n f) (FQ g l))
  (Q:=AK X N Qf K) (λa D j p=>by rw[u7];exact .nil (k a D j p)) id
 rw[oT]at this;exact this
theorem ic.of{all:List au}{i:Nat}{o:au}(h:∀d (D:Nat->Bool),Inv d D->(∀j,fN all i j=ab->D j=ab)->(∀j,(j=i∨fN all j i=ab)->D j=af)->Inv d (eg i D)/\OA X N all o (jY all φ (x d) i) (S d D) (x d i) (S d (eg i D))):ic X N all φ x S Inv i o:=by intro d D g h1 h2 s a f hh b k cs SS idx rest hb hi hK;obtain⟨e,q2⟩:=h d D g h1 h2;exact q2 s a f hh b k cs SS idx rest hb hi λv s' r1 r2 r3=>hK ⟨d,λ_ _=>rfl,e⟩ v s' r1 r2 r3
def ic.ofI{all:List au}{i:Nat}{o:au}(h:∀e (D:Nat->Bool),Inv e D->(∀j,fN all i j=ab->D j=ab)->(∀j,(j=i∨fN all j i=ab)->D j=af) ->
  ∃(ι:Type) (y:ι->Go.AM.D) (σ':ι->List aP),mD X N all o (jY all φ (x e) i) (S e D) y σ'/\∀j,∃d,((∀q,D q=ab->x d q=x e q)/\Inv d (eg i D))/\y j=x d i/\σ' j=S d (eg i D)):ic X N all φ x S Inv i o:=by intro e D g h1 h2 s a f hh b k cs SS idx rest hb hi hK;obtain⟨ι,y,σ',m,q2⟩:=h e D g h1 h2;refine m s a f hh b k cs SS idx rest hb hi λj v s' r1 r2 r3=>?_;obtain⟨d,l,p2,p3⟩:=q2 j;rw[p2]at r1;rw[p3]at r1 r2 r3;exact hK ⟨d,l⟩ v s' r1 r2 r3
end
section
variable {P:aq}{X:Cx P}{N:Nat}{all:List au}{φ:Fr}{x:Nat->D}{l:Bool->Bool->Bool->Bool->List aP}{i g e k f:Nat}{o:au}
abbrev pj(l:Bool->Bool->Bool->Bool->List aP)(g e k f:Nat):(Nat->Bool)->List aP:=λD=>l (D g) (D e) (D k) (D f)
theorem qZ{i j:Nat}{D:Nat->Bool}(h:aB j i=af):eg i D j=D j:=by simp only[eg,h]
theorem BJ{i:Nat}{D:Nat->Bool}:eg i D i=ab:=by simp only[eg,iQ]
def dW.q4(h1:aB g i=af)(h2:aB e i=af)(m:aB k i=af)(j:aB f i=af)(h:∀a b c d,OA X N all o (jY all φ x i) (l a b c d) (x i) (l a b c d)):dW X N all φ x (pj l g e k f) i o:=by intro D _ _;grind[qZ]
def dW.Xe{T:List (Nat×TI)}{CT:List (Nat×dr)}{obs:List Prop}(hT:cN P T)(hC:bE X CT)(m:az obs)(h:∀a b c d,we T CT [] all (jY all φ x i) (l a b c d) o=aa (x i,ae,obs):=by intro a b c d;cases a<;>cases b<;>cases c<;>cases d<;>rfl)(h1:aB g i=af:=by rfl)(h2:aB e i=af:=by rfl)(n:aB k i=af:=by rfl)(j:aB f i=af:=by rfl):dW X N all φ x (pj l g e k f) i o:=.q4 h1 h2 n j λa b c d=>OA.eval hT hC (h a b c d) m
def dW.qy{T:List (Nat×TI)}{CT:List (Nat×dr)}(hT:cN P T)(hC:bE X CT)(h:∀a b c d,we T CT [] all (jY all φ x i) (l a b c d) o=aa (x i,ae,[]):=by intro a b c d;cases a<;>cases b<;>cases c<;>cases d<;>rfl)(h1:aB g i=af:=by rfl)(h2:aB e i=af:=by rfl)(m:aB k i=af:=by rfl)(j:aB f i=af:=by rfl):dW X N all φ x (pj l g e k f) i o:=.Xe (obs:=[]) hT hC ay h h1 h2 m j
def dW.c1(h2:aB e g=af)(j:aB k g=af)(a:aB f g=af)(d:fN all e g=ab)(c:fN all k g=ab)(b:fN all f g=ab)(h:OA X N all o (jY all φ x g) (l af af af af) (x g) (l ab af af af)):dW X N all φ x (pj l g e k f) g o:=by intro D hT hF;grind[BJ,qZ]
def dW.c2(h1:aB g e=af)(j:aB k e=af)(b:aB f e=af)(a:fN all e g=ab)(d:fN all k e=ab)(c:fN all f e=ab)(h:OA X N all o (jY all φ x e) (l ab af af af) (x e) (l ab ab af af)):dW X N all φ x (pj l g e k f) e o:=by intro D hT hF;grind[BJ,qZ]
def dW.c3(h1:aB g k=af)(h2:aB e k=af)(d:aB f k=af)(c:fN all k g=ab)(a:fN all k e=ab)(b:fN all f k=ab)(h:OA X N all o (jY all φ x k) (l ab ab af af) (x k) (l ab ab ab af)):dW X N all φ x (pj l g e k f) k o:=by intro D hT hF;grind[BJ,qZ]
def dW.c4(h1:aB g f=af)(h2:aB e f=af)(d:aB k f=af)(c:fN all f g=ab)(a:fN all f e=ab)(b:fN all f k=ab)(h:OA X N all o (jY all φ x f) (l ab ab ab af) (x f) (l ab ab ab ab)):dW X N all φ x (pj l g e k f) f o:=by intro D hT hF;grind[BJ,qZ]
end
section
variable {P:aq}{X:Cx P}{N:Nat}{all:List au}{φ:Fr}{ι:Type}{x:Option ι->Nat->D}{s:Option ι->Bool->Bool->Bool->List aP}{i m f e d:Nat}{o:au}
abbrev SO(s:Option ι->Bool->Bool->Bool->List aP)(f e d:Nat):Option ι->(Nat->Bool)->List aP:=λa D=>s a (D f) (D e) (D d)
abbrev wA(ι:Type)(m:Nat):Option ι->(Nat->Bool)->Prop:=λa D=>a.isSome=D m
def ic.quiet(j:aB m i=af)(h1:aB f i=af)(h2:aB e i=af)(k:aB d i=af)(h:∀g a b c,OA X N all o (jY all φ (x g) i) (s g a b c) (x g i) (s g a b c)):
  ic X N all φ x (SO s f e d) (wA ι m) i o:=by grind[ic.of,qZ]
def ic.Ru(p:aB m i=af)(h1:aB f i=af)(h2:aB e i=af)(n:aB d i=af)(k:fN all i m=ab)(h:∀j a b c,OA X N all o (jY all φ (x (aa j)) i) (s (aa j) a b c) (x (aa j) i) (s (aa j) a b c)):
  ic X N all φ x (SO s f e d) (wA ι m) i o:=by
 refine ic.of λg D q hT _=>⟨?_,?_⟩
 .grind [qZ]
 .show OA X N all o _ (s g (D f) (D e) (D d)) _ (s g (eg i D f) (eg i D e) (eg i D d));rw[qZ h1,qZ h2,qZ n];have l:=hT m k;cases g with
  |none=>grind
  |some j=>exact h _ _ _ _
def ic.qo{T:List (Nat×TI)}{CT:List (Nat×dr)}{obs:List Prop}(hT:cN P T)(hC:bE X CT)(k:az obs)(h:∀g a b c,we T CT [] all (jY all φ (x g) i) (s g a b c) o=aa (x g i,ae,obs):=by intro g a b c;cases g<;>cases a<;>cases b<;>cases c<;>rfl)(j:aB m i=af:=by rfl)(h1:aB f i=af:=by rfl)(h2:aB e i=af:=by rfl)(l:aB d i=af:=by rfl):ic X N all φ x (SO s f e d) (wA ι m) i o:=.quiet j h1 h2 l λg a b c=>OA.eval hT hC (h g a b c) k
def ic.qe{T:List (Nat×TI)}{CT:List (Nat×dr)}(hT:cN P T)(hC:bE X CT)(h:∀g a b c,we T CT [] all (jY all φ (x g) i) (s g a b c) o=aa (x g i,ae,[]):=by intro g a b c;cases g<;>cases a<;>cases b<;>cases c<;>rfl)(j:aB m i=af:=by rfl)(h1:aB f i=af:=by rfl)(h2:aB e i=af:=by rfl)(k:aB d i=af:=by rfl):ic X N all φ x (SO s f e d) (wA ι m) i o:=.qo (obs:=[]) hT hC ay h j h1 h2 k
def ic.qs{T:List (Nat×TI)}{CT:List (Nat×dr)}(hT:cN P T)(hC:bE X CT)(h:∀j a b c,we T CT [] all (jY all φ (x (aa j)) i) (s (aa j) a b c) o=aa (x (aa j) i,ae,[]):=by intro j a b c;cases a<;>cases b<;>cases c<;>rfl)(k:aB m i=af:=by rfl)(h1:aB f i=af:=by rfl)(h2:aB e i=af:=by rfl)(l:aB d i=af:=by rfl)(g:fN all i m=ab:=by rfl):ic X N all φ x (SO s f e d) (wA ι m) i o:=.Ru k h1 h2 l g λj a b c=>OA.cT hT hC (h j a b c)
def ic.X7(g:aB m e=af)(h1:aB f e=af)(j:aB d e=af)(c:fN all d e=ab)(h:∀b a,OA X N all o (jY all φ (x b) e) (s b a af af) (x b e) (s b a ab af)):ic X N all φ x (SO s f e d) (wA ι m) e o:=by grind[ic.of,qZ,BJ]
def ic.X8(k:aB m d=af)(h1:aB f d=af)(h2:aB e d=af)(a:fN all d m=ab)(g:fN all d f=ab)(n:fN all d e=ab)(h:∀j,OA X N all o (jY all φ (x (aa j)) d) (s (aa j) ab ab af) (x (aa j) d) (s (aa j) ab ab ab)):ic X N all φ x (SO s f e d) (wA ι m) d o:=by
 refine ic.of λc D l hT hF=>?_;have b:=hT m a;cases c with
 |none=>grind
 |some j =>
  grind[qZ,BJ]
end
section
variable {P:aq}{X:Cx P}{N:Nat}{Qf:Post}{K:List It}{φ:Fr}{σ:List aP}{all rest:List au}{o:au}
def AK.UX{ι:Type}{x:ι->D}{σ':ι->List aP}(h:mD X N all o φ σ x σ')(g:fR N o.dst=ab)(k:∀i,AK X N Qf (.ops all rest::K) .normal (kl o.dst (x i) φ) (σ' i)):AK X N Qf (.ops all (o::rest)::K) .normal φ σ:=by
 intro s a f hh b kk cs S idx hb jk hQ;cases idx with
 |nil=>exact jk.elim
 |cons j idx =>
 refine h s a f hh b kk cs S j idx hb jk.1 λi v s' h1 h2 h3=>?_;refine k i s' _ ?_ h2 b kk cs S idx hb jk.2 λc σ2 s2 a2 q l d st=>hQ c σ2 s2 a2 q l d (h3.trans st);cases e:o.dst with
 |none=>exact f.mono h3 hh.len
 |some t=>exact(f.mono h3 hh.len).put (gA g t e) h1
def mD.qi[X.gY]{ι:Type}{fo:ak}{xs:Array ak}{ats:Array aj}{f:aJ}{cap:List C}{r:List D}{res:ι->D}{σ1:ι->List aP}(G8:eb X f r [] res σ1){FE:List D}(hgd:qD all φ o=ab)(ho:o.op=.call {callee:=.value fo,args:=xs,argTypes:=ats})(hf:eG (bM φ fo)=aa (f,cap))(hl:jI σ (xs.toList.map (bM φ)++fJ cap) FE){ps:List Prop}(Q:vS FE (fI [] r)=aa ps)(hps:az ps)(Xk:ll 0 r=ab)(BF:∀j,Np (res j)=ab)(mq:∀j,Br (σ1 j)=ab):mD X N all o φ σ res (λj=>σ++σ1 j):=by
 intro s a V hh b kx cs S i idx hb hi hQ;have hfo:=cX V fo;unfold eG at hf;split at hf
 case h_2=>cases hf
 case h_1 f' Nf he =>
  cases hf;rw[he]at hfo;have G:=eT hfo;generalize E:a.eval fo=fv at G;cases G with
  |fn fs na hlf YC f1 f2 h1 h2 r1 r2 =>
   have YD:fs=[]:=jf hlf;subst YD;have Y:cg σ s na (fJ cap):=nj (λj c hj=>⟨f2 j,h2 j (by grind),r2 j c hj⟩) YC;have I:cg σ s (xs.toList.map a.eval++na) (xs.toList.map (bM φ)++fJ cap):=(lJ (cX V) xs.toList).append Y;generalize TE:xs.toList.map a.eval++na=vs at I;obtain⟨⟨fn,UR,Ht,UY⟩,W⟩:=G8;have wj:∀w,(aw a.eval o).run P w=.ok (.enter f vs.toArray) w:=λw=>by grind[jr]
   have YE:∀w,(aw a.eval o).events P w #[]=#[]:=λw=>(jr ho UR Ht UY E w).2;refine .next rfl λm Yt=>?_;have hr:=X.iv Yt;have e:=hh.rely hr;have f1':=V.rely hr hh;have Z:cg σ m vs (xs.toList.map (bM φ)++fJ cap):=I.mono hr.stepW.ext hh.len;obtain⟨B,M',hBL,m1,m2,m3,m4,m5⟩:=hl m vs e Z;let sc:St:={m with β:=[],M:=M',own:=λb=>m.own b∨∃L∈m.β,b∈L.bs}
   have hhc:aF [] sc:=by
    refine⟨m3,rfl,by simp,by grind,by grind,λb hb=>⟨?_,by grind⟩⟩;rcases hb with hb|⟨L',q,hb⟩
    .exact(e.own b hb).1
    .exact e.lt L' q b hb
   have hg1:eu m sc:=by refine⟨rfl,m1,λb hb o=>m2 b (λhB=>by grind) o,m3,λb hb=>?_⟩;grind
   have z:cg [] sc vs r:=by have a3:=vg Q hps m5;exact(cg.sub (ks:=[]) (σ:=σ) (σ':=[]) (s:={m with M:=M'}) (β':=[]) rfl rfl a3 Xk).mono (σ:=[]) (s:={m with β:=[],M:=M'}) (σ':=[]) (s':=sc) ⟨λ_ _ _ h=>h,λl B L hB hL=>by grind⟩ rfl
   refine⟨_,m,_,oY hi (fD hgd _ _ _ f1') hb (wj m.w),⟨⟨σ,σ,e,e,.refl _ _⟩,eY.seen (by rw[YE];exact .nil)⟩,.ghost hg1 (W sc vs z hhc S _ λj fr v s2 G7 mh IN mf=>?_)⟩;refine pZ (cs:=cs) (c:=b.aT a (.inRegion all.toArray (i::idx)::kx)) IN G7 λu U=>?_;have p:=IN.rely U;have n:=mf.trans U.stepW;have R:=mh.mono U.stepW.ext IN.len
   classical
   let J:Mem:=λb o=>if B b then m.M b o else u.M b o;have t:∀b,(m.own b∨∃L∈m.β,b∈L.bs)->u.own b:=λb hb=>by rw[n.own];exact hb
   have hFg:mV u {u with M:=J}:=by
    refine⟨rfl,rfl,rfl,λb o v E=>?_,λb o v E=>?_⟩
    .grind
    grind
   refine .forget Cx.gY.ok hFg ?_;have hM5:∀b o v,J b o=aa v->u.M b o=aa v:=hFg.less;let s5:St:={u with M:=J,β:=m.β++u.β,own:=m.own}
   have hMm:∀b o v,m.M b o=aa v->J b o=aa v:=λb o v E=>by
    by_cases d:B b
    .grind
    .simp only[J,d,b7];exact n.mem b o v (m1 b o v E)
   have hMk:∀b,b<m.w.heap.size->∀o,J b o=m.M b o:=λb hb o=>by
    by_cases d:B b
    .grind
    .simp only[J,d,b7];rw[n.iU b hb (by grind) o];grind
   have T:u.β.length=(σ1 j).length:=p.len;have ex:Ext σ m (σ++σ1 j) s5:=by
    refine⟨hMm,λl B L hB hL=>⟨B,L,?_,?_,.refl _ _⟩⟩
    .grind
    grind
   have O:m.w.heap.size<=u.w.heap.size:=n.size;have x:∀(l:Nat) (L':Loc),(m.β++u.β)[l]?=aa L'->(l<m.β.length/\m.β[l]?=aa L')∨(m.β.length<=l/\u.β[l-m.β.length]?=aa L'):=λl L' h=>by grind
   have hh5:aF (σ++σ1 j) s5:=by
    refine⟨λb o v E=>p.mem b o v (hM5 b o v E),by simp[s5,e.len,T],?_,?_,?_,?_⟩
    .intro l B L' hB q;rcases x l L' q with⟨s9,h1⟩|⟨TM,h1⟩
     .rw[jy (by rw[<-e.len];exact s9)]at hB;exact(e.box l B L' hB h1).carry ex e.len λg d=>⟨n.fe g (.inr ⟨L',bH h1,d⟩),hMk g (e.lt L' (bH h1) g d)⟩
     .rw[gw (by rw[<-e.len];exact TM),<-e.len]at hB;have hbx:=p.box _ B L' hB h1;rcases Bt (mq j) B (bH hB)with⟨H,rfl⟩|rfl
      .obtain⟨ch,c1,c2,c3,c4⟩:=hbx;refine⟨ch,c1,c2,c3,λg d o=>?_⟩;grind
      .trivial
    .intro l l' L1 L2 hL1 hL2 g F A;rcases x l L1 hL1 with⟨s9,h1⟩|⟨TM,h1⟩<;>rcases x l' L2 hL2 with⟨ac5,h2⟩|⟨ac6,h2⟩
     .exact e.eB l l' L1 L2 h1 h2 g F A
     .exact absurd A ((p.own g (t g (.inr ⟨L1,bH h1,F⟩))).2 L2 (bH h2))
     .exact absurd F ((p.own g (t g (.inr ⟨L2,bH h2,A⟩))).2 L1 (bH h1))
     .have:=p.eB _ _ L1 L2 h1 h2 g F A;omega
    .intro L' q g d;rcases fX.1 q with h|h
     .exact cU (e.lt L' h g d) O
     .exact p.lt L' h g d
    .intro g d;refine⟨cU (e.own g d).1 O,λL' q=>?_⟩;rcases fX.1 q with h|h
     .exact(e.own g d).2 L' h
     .exact(p.own g (t g (.inl d))).2 L' h
   have hg5:eu {u with M:=J} s5:=by refine⟨rfl,λ_ _ _ h=>h,λ_ _ _=>rfl,λb o v E=>p.mem b o v (hM5 b o v E),λg d=>?_⟩;grind
   have st5:cR σ m (σ++σ1 j) s5:=by
    refine⟨O,λg d=>n.fe g (.inl d),hMm,λg d _ o=>hMk g d o,λL' q g d=>?_,ex.box,n.os,n.tape,n.output,rfl⟩;rcases fX.1 q with h|h
    .grind
    .rcases n.vb L' h g d with h1|⟨L0,h1,_⟩
     .grind
     grind
   refine .ghost hg5 ?_;have y:=kh (b:=b) (a:=a) (k:=kx) all.toArray i idx v;rw[hi]at y;simp only[nY]at y;rw[y];exact hQ j v s5 (Nq (BF j) R) hh5 (hr.stepW.trans st5)
def AK.qi[X.gY]{ι:Type}{m:ak}{xs:Array ak}{i:Array aj}{f:aJ}{cap:List C}{a:List D}{res:ι->D}{σ1:ι->List aP}(l:eb X f a [] res σ1){d:List D}(g:qD all φ o=ab)(p:o.op=.call {callee:=.value m,args:=xs,argTypes:=i})(q:eG (bM φ m)=aa (f,cap))(hl:jI σ (xs.toList.map (bM φ)++fJ cap) d){ps:List Prop}(b:vS d (fI [] a)=aa ps)(e:az ps)(h:ll 0 a=ab)(c:∀j,Np (res j)=ab)(k:∀j,Br (σ1 j)=ab)(n:fR N o.dst=ab)(kk:∀j,AK X N Qf (.ops all rest::K) .normal (kl o.dst (res j) φ) (σ++σ1 j)):AK X N Qf (.ops all (o::rest)::K) .normal φ σ:=.UX (mD.qi l g p q hl b e h c k) n kk
def AK.J1[X.gY]{ι:Type}{s:ak}{xs:Array ak}{l:Array aj}{f:aJ}{cap:List C}{a:List D}{res:ι->D}{σ1:ι->List aP}(q:eb X f a [] res σ1)(r p:Nat){u:ah}{k n:Nat}{es:Nat->List C}(h:qD all φ o=ab)(y:o.op=.call {callee:=.value s,args:=xs,argTypes:=l})(x:eG (bM φ s)=aa (f,cap))(t:(xs.toList.map (bM φ)++fJ cap)[p]?=aa (.e (.one (.v u))))(hl:gY σ r u k n es){ps:List Prop}(b:vS ((xs.toList.map (bM φ)++fJ cap).set p (.e (.one (.c (.sl af k n es))))) (fI [] a)=aa ps)(g:az ps)(i:ll 0 a=ab)(d:∀j,Np (res j)=ab)(m:∀j,Br (σ1 j)=ab)(w:fR N o.dst=ab)(kk:∀j,AK X N Qf (.ops all rest::K) .normal (kl o.dst (res j) φ) (σ++σ1 j)):AK X N Qf (.ops all (o::rest)::K) .normal φ σ :=
 AK.qi q h y x ((jI.refl _ _).step p r t hl) b g i d m w kk
end
section
variable {P:aq}{X:Cx P}{N:Nat}{Qf:Post}{d:List It}{φ:Fr}{σ:List aP}{all rest:List au}{o:au}
def eb.U3{ι:Type}{f:aJ}{args:List D}{res:ι->D}{H:ι->ah->(Nat->Option Obj)->Prop}{E:aj}{k:Nat}(h:eb X f args [] res (λi=>[.dead,.b8 (H i)]))(M:∀i v ch,H i v ch->v=.nilFunc)(I:∀i,hZ [] (res i)=res i)(p:∀i,vP 0 (res i)=ab)(Q:ll 0 args=ab)(u:fI [] args=args):
  eb X f args [.b8 (fQ E k (.nil ae) 0 [])] res (λi=>[.b8 (H i)]):=by
 refine⟨h.1,λs vs hr hh S cs hS=>?_⟩;have y:s.β.length=1:=hh.len;obtain⟨g,R⟩:∃g,s.β=[g]:=by
  match O:s.β with
  |[A]=>grind
  |[]=>grind
  |_::_::_=>grind
 have w:s.β[0]?=aa g:=by grind
 obtain⟨K,c1,c2,c3,c4⟩:=hh.box 0 _ g rfl w;obtain⟨T,_,_,_,rfl⟩:=c1;have z:∀b,b∉g.bs:=λb c=>by grind
 let j:St:={s with β:=[]}
 have G:eu s j:=⟨rfl,λ_ _ _ h=>h,λ_ _ _=>rfl,hh.mem,λb c=>c.imp id λ⟨L,a,_⟩=>by grind⟩
 have q:aF [] j:=⟨hh.mem,rfl,by simp,by grind,by grind,λb c=>⟨(hh.own b c).1,by grind⟩⟩
 have e:cg [] j vs args:=by rw[<-u]at hr;exact cg.sub (ks:=[]) (σ:=[.b8 (fQ E k (.nil ae) 0 [])]) (σ':=[]) (s:=s) (β':=[]) rfl rfl hr Q
 refine .ghost G (h.2 j vs e q S cs λi fr v s' hl mh iX st=>?_);have t:s'.β.length=2:=iX.len;obtain⟨A,B,x⟩:∃A B,s'.β=[A,B]:=by
  match O:s'.β with
  |[A,B]=>grind
  |[]=>grind
  |[_]=>grind
  |_::_::_::_=>grind
 have J:s'.β[1]?=aa B:=by grind
 obtain⟨ch,d1,d2,d3,d4⟩:=iX.box 1 _ B rfl J;have hB:=M i _ _ d1;let s2:St:={s' with β:=[B]}
 have m:∀L∈s2.β,L∈s'.β:=λL a=>by grind
 have n:eu s' s2:=⟨rfl,λ_ _ _ h=>h,λ_ _ _=>rfl,iX.mem,λb c=>c.imp id λ⟨L,a,c⟩=>⟨L,m L a,c⟩⟩
 have r:dj [.b8 (H i)] s2 v (res i):=by rw[<-I i]at mh;have:=dj.sub (ks:=[]) (σ:=[.dead,.b8 (H i)]) (σ':=[]) (s:=s') (β':=[]) rfl rfl mh (p i);exact this.mono (σ:=[]) (s:={s' with β:=[]}) (σ':=[.b8 (H i)]) (s':=s2) ⟨λ_ _ _ h=>h,λl B L hB=>by grind⟩ rfl
 refine .ghost n (hS i fr v s2 (hl.mono λ_ _ _ h=>h) r ⟨iX.mem,rfl,λl C L hC a=>?_,λl l' C D h1 h2 b c F=>?_,λL a b c=>iX.lt L (m L a) b c,λb c=>⟨(iX.own b c).1,λL a=>(iX.own b c).2 L (m L a)⟩⟩
  ⟨st.size,st.fe,st.mem,λb c _ o=>st.iU b c (by grind) o,λL a b c=>?_,λl C L hC a=>?_,st.os,st.tape,st.output,st.own⟩)
 .match l,hC,a with
  |0,hC,a=>cases hC;cases a;exact⟨ch,d1,d2,d3,d4⟩
  |l+1,hC,_=>grind
 .match l,l',h1,h2 with
  |0,0,_,_=>rfl
  |l+1,_,h1,_=>grind
  |_,l+1,_,h2=>grind
 .rcases st.vb L (m L a) b c with h1|⟨L1,h1,_⟩
  .grind
  grind
 .match l,hC,a with
  |0,hC,a =>
   cases hC;rw[w]at a;cases a;exact⟨_,B,rfl,rfl,by show B.v=g.v;grind⟩
  |l+1,hC,_=>grind
def AK.N7(l i j:Nat){K:Mem->Prop}{E0 E:aj}{k:Nat}{cs:List A}{R cl:C}{c:Code}(W5:l≠i)(hl:dt l σ=aa (.b8 (PM K)))(hi:dt i σ=aa (.cells E0 cs))(hj:dt j cs=aa (.c R))(hK:∀M M',K M->wT M M'->∀v,Rd M' v R->Rd M' v cl)(kk:AK X N Qf (.code c::d) .normal φ ((σ.set l (.b8 (fQ E k (.nil ae) 0 []))).set i (.cells E0 (cs.set j (.c cl))))):AK X N Qf (.code c::d) .normal φ σ:=by
 refine AK.ghost (λs a Q hh=>?_) kk;have hl:=b5 hl;have hi:=b5 hi;have hJ:=b5 hj;have y:l<s.β.length:=by rw[hh.len];grind
 have J:=br y;generalize s.β[l]=L at J;obtain⟨ch,⟨h1,h2,h3⟩,h4,T,h6⟩:=hh.box l _ L hl J;let M':Mem:=λb o=>(s.M b o).or (fG ch b o);have q:∀b o v,fG ch b o=aa v->b∈L.bs/\s.w.cell? ⟨b,o,ae⟩=aa v:=λb o v f=>by
  cases h:ch b with
  |none=>simp[fG,h]at f
  |some x =>
   obtain⟨cs,E,rfl⟩:=h2 b x h;have W:=h4 b _ h;simp only[fG,h]at f;exact⟨(T b).2 (by simp[h]),by simpa[aV,W]using f⟩
 have m1:∀b o v,s.M b o=aa v->M' b o=aa v:=λb o v f=>by grind
 have Z:∀b,b∉L.bs->∀o,M' b o=s.M b o:=λb F o=>by
  cases h:fG ch b o with
  |none=>grind
  |some v=>grind
 have m3:∀b o v,M' b o=aa v->s.w.cell? ⟨b,o,ae⟩=aa v:=λb o v f=>by
  cases h:s.M b o with
  |some v'=>simp only[M',h,Option.some_or]at f;cases f;exact hh.mem b o v h
  |none=>grind
 have U:=hK _ M' h3 λb o v f=>by have:=h6 b (q b o v f).1 o;simp[M',this,f]
 obtain⟨r,q2⟩:=hh.gz (M':=M') (w':=s.w) (B':=.b8 (fQ E k (.nil ae) 0 [])) (L':=⟨.nilFunc,[]⟩) hl J h1.symm (bh _) (λ_ _ _=>rfl) (λb _ F o=>Z b F o) m1 m3 (by simp) rfl rfl rfl
  ⟨λ_=>ae,⟨rfl,by simp,by simp,rfl,rfl⟩,by simp,by simp,by simp⟩
 have n:(σ.set l (.b8 (fQ E k (.nil ae) 0 [])))[i]?=aa (.cells E0 cs):=by grind
 generalize V:(⟨s.β.set l ⟨.nilFunc,[]⟩,M',s.w,s.own⟩:St)=s1 at r q2;have G:i<s1.β.length:=by rw[r.len];grind
 have g:=br G;generalize s1.β[i]=L2 at g;obtain⟨b,vs,O,m,t,Y⟩:=r.box i _ L2 n g;obtain⟨u,hu,S⟩:=t.get hJ;have H:s1.M=M':=by grind
 have I:s1.β.set i L2=s1.β:=by apply iM;grind
 obtain⟨t1,t2⟩:=r.gz (M':=s1.M) (w':=s1.w) (B':=.cells E0 (cs.set j (.c cl))) (L':=L2) n g rfl (bh _) (λ_ _ _=>rfl) (λ_ _ _ _=>rfl) (λ_ _ _ h=>h) r.mem (λb F=>⟨.inl F,r.lt L2 (bH g) b F⟩) rfl rfl rfl (by
   rw[I];have ex:Ext (σ.set l (.b8 (fQ E k (.nil ae) 0 []))) s1 ((σ.set l (.b8 (fQ E k (.nil ae) 0 []))).set i (.cells E0 (cs.set j (.c cl)))) s1:=by
    refine⟨λ_ _ _ h=>h,λp B L D z=>?_⟩;by_cases e:i=p
    .subst e;rw[n]at D;cases D;exact⟨_,L,fU (by grind),z,rfl⟩
    .exact⟨B,L,by grind,z,.refl _ _⟩
   refine⟨b,vs,O,m,dX.set (t.mono ex r.len) hu ?_,Y⟩;show Rd s1.M u cl;rw[H];exact U u (H▸S))
 have st:=q2.trans t2;exact⟨_,by grind,⟨Q.size,Q.defers.imp λ_ h1=>h1.mono st.ext,λu=>(Q.slot u).mono st.ext hh.len⟩,t1,st⟩
def AK.ri(l i j:Nat){K:Mem->Prop}{E0 E:aj}{k:Nat}{cs:List A}{v:ah}{cl:C}{c:Code}(a:l≠i)(hl:dt l σ=aa (.b8 (PM K)))(hi:dt i σ=aa (.cells E0 cs))(hj:dt j cs=aa (.c (.val v)))(b:∀M,K M->Rd M v cl)(kk:AK X N Qf (.code c::d) .normal φ ((σ.set l (.b8 (fQ E k (.nil ae) 0 []))).set i (.cells E0 (cs.set j (.c cl))))):AK X N Qf (.code c::d) .normal φ σ :=
 AK.N7 l i j a hl hi hj (λ_ _ h le _ r=>by rw[Rd.dZ r];exact(b _ h).mono le) kk
end
section
variable {P:aq}{X:Cx P}{N:Nat}{Qf:Post}{n:List It}{φ:Fr}{σ:List aP}
def AK.U4(l i j:Nat){E0 E:aj}{k k0:Nat}{cs:List A}{K:Nat->List C}(k1:Nat)(D9:Nat->List C){c:Code}(W5:l≠i)(hl:dt l σ=aa (.b8 (fQ E k (.nil ae) 0 [])))(hi:dt i σ=aa (.cells E0 cs))(hj:dt j cs=aa (.c (.sl ab k0 0 K)))(kk:∀v,AK X N Qf (.code c::n) .normal φ ((σ.set l (.b8 (PM λM=>Rd M v (.sl af k1 0 D9)))).set i (.cells E0 (cs.set j (.c (.val v)))))):AK X N Qf (.code c::n) .normal φ σ:=by
 refine AW.ta (ι:=ah) (φ':=λ_=>φ) (σ':=λv=>(σ.set l (.b8 (PM λM=>Rd M v (.sl af k1 0 D9)))).set i (.cells E0 (cs.set j (.c (.val v))))) (λs a W hh=>?_) kk;have hl:=b5 hl;have hi:=b5 hi;have hJ:=b5 hj;have q:i<s.β.length:=by rw[hh.len];grind
 have O:=br q;generalize s.β[i]=Li at O;obtain⟨b0,vs0,hLb,S,G,_⟩:=hh.box i _ Li hi O;obtain⟨v,QV,Y⟩:=G.get hJ;obtain⟨a0,cap,vs1,rfl,n1,n2,_,_,_⟩:=(show Rd s.M v (.sl ab k0 0 K)from Y).flat;have hK:∀M:Mem,Rd M (.slice a0 0 cap) (.sl af k1 0 D9):=λM=>.sl 0 0 (λ_ _=>ai) n1 n2 (λh=>by cases h) (λi hi=>by omega) (λh=>by omega) (λi hi=>by omega) λi hi=>by omega
 have F:l<s.β.length:=by rw[hh.len];grind
 have R:=br F;generalize s.β[l]=L at R;obtain⟨ch,hs,h4,h5,h6⟩:=hh.box l _ L hl R;obtain⟨z,q2⟩:=hh.gz (M':=s.M) (w':=s.w) (B':=.b8 (PM λM=>Rd M (.slice a0 0 cap) (.sl af k1 0 D9))) (L':=L) hl R rfl (bh _) (λ_ _ _=>rfl) (λ_ _ _ _=>rfl) (λ_ _ _ h=>h) hh.mem (λb J=>⟨.inl J,hh.lt L (bH R) b J⟩) rfl rfl rfl
  ⟨ch,PM.start hK _ _ hs,h4,h5,h6⟩
 have y:(σ.set l (.b8 (PM λM=>Rd M (.slice a0 0 cap) (.sl af k1 0 D9))))[i]?=aa (.cells E0 cs):=by grind
 generalize hs1:(⟨s.β.set l L,s.M,s.w,s.own⟩:St)=s1 at z q2;have Z:i<s1.β.length:=by grind
 have t:s1.β[i]?=aa Li:=by grind
 obtain⟨b,vs,U,r,T,hM⟩:=z.box i _ Li y t;have Q:s1.β.set i Li=s1.β:=by apply iM;grind
 have V:vs[j]?=aa (.slice a0 0 cap):=by grind
 obtain⟨t1,t2⟩:=z.gz (M':=s1.M) (w':=s1.w) (B':=.cells E0 (cs.set j (.c (.val (.slice a0 0 cap))))) (L':=Li) y t rfl (bh _) (λ_ _ _=>rfl) (λ_ _ _ _=>rfl) (λ_ _ _ h=>h) z.mem (λb J=>⟨.inl J,z.lt Li (bH t) b J⟩) rfl rfl rfl (by
   rw[Q];have ex:Ext (σ.set l (.b8 (PM λM=>Rd M (.slice a0 0 cap) (.sl af k1 0 D9)))) s1 ((σ.set l (.b8 (PM λM=>Rd M (.slice a0 0 cap) (.sl af k1 0 D9)))).set i (.cells E0 (cs.set j (.c (.val (.slice a0 0 cap)))))) s1:=by
    refine⟨λ_ _ _ h=>h,λp B L I H=>?_⟩;by_cases e:i=p
    .subst e;rw[y]at I;cases I;exact⟨_,L,fU (by grind),H,rfl⟩
    .exact⟨B,L,by grind,H,.refl _ _⟩
   exact⟨b,vs,U,r,dX.set (T.mono ex z.len) V (Rd.val rfl),hM⟩)
 have st:=q2.trans t2;exact⟨.slice a0 0 cap,_,by grind,⟨W.size,W.defers.imp λ_ h1=>h1.mono st.ext,λu=>(W.slot u).mono st.ext hh.len⟩,t1,st⟩
end
section
variable {P:aq}{X:Cx P}{N:Nat}{all:List au}{φ:Fr}{ι:Type}{x:Option ι->Nat->D}{s:Option ι->Bool->Bool->Bool->List aP}{i m f g d:Nat}{o:au}
def ic.pre(q:aB m f=af)(h2:aB g f=af)(t:aB d f=af)(e:fN all m f=ab)(l:fN all d f=ab)(h:∀b,OA X N all o (jY all φ (x ae) f) (s ae af b af) (x ae f) (s ae ab b af)):ic X N all φ x (SO s f g d) (wA ι m) f o:=by
 refine ic.of λp D r hT hF=>?_;have k:=hF m (.inr e);have a:=hF d (.inr l);have c:=hF f (.inl rfl);cases p with
 |some j=>grind
 |none=>grind[qZ,BJ]
def ic.YH(h1:aB f m=af)(h2:aB g m=af)(v:aB d m=af)(k:fN all m f=ab)(t:fN all d m=ab)(p:∀j q,q=m∨fN all q m=ab∨x (aa j) q=x ae q)(h:∀b,mD X N all o (jY all φ (x ae) m) (s ae ab b af) (λj=>x (aa j) m) (λj=>s (aa j) ab b af)):ic X N all φ x (SO s f g d) (wA ι m) m o:=by
 refine ic.ofI λa D u hT hF=>?_;have r:=hF m (.inl rfl);have l:=hT f k;have e:=hF d (.inr t);have c:a=ae:=by
  cases a with
  |none=>rfl
  |some j=>grind
 grind[BJ,qZ]
def ic.last(e:aB m d=af)(h1:aB f d=af)(h2:aB g d=af)(b:fN all d m=ab)(c:fN all d f=ab)(a:fN all d g=ab)(h:∀j,OA X N all o (jY all φ (x (aa j)) d) (s (aa j) ab ab af) (x (aa j) d) (s (aa j) ab ab ab)):ic X N all φ x (SO s f g d) (wA ι m) d o:=.X8 e h1 h2 b c a h
end
theorem Rd.Ef{M:Mem}{v:ah}{t:Bool}{k n:Nat}{es:Nat->List C}(h:Rd M v (.sl t k n es)):∃a cap b off,v=.slice a n cap/\n<=cap/\cap<=9223372036854775807/\(0<n->a=aa ⟨b,off,ae⟩)/\(∀i,i<n->(es i).length=k)/\∀i,i<n->∀j c,(es i)[j]?=aa c->∃u,M b (off+i*k+j)=aa u/\Rd M u c:=by
 cases h with
 |@sl a _ cap _ _ _ b off f e g l hk ha hm hr=>exact⟨a,cap,b,off,rfl,e,g,ha,hk,λi hi j c hj=>⟨_,hm i hi j c hj,hr i hi j c hj⟩⟩
def Rd.RN{M:Mem}{a:Option Addr}{cap k n b off:Nat}{es:Nat->List C}(h1:n<=cap)(h2:cap<=9223372036854775807)(f:0<n->a=aa ⟨b,off,ae⟩)(e:∀i,i<n->(es i).length=k)(g:∀i,i<n->∀j c,(es i)[j]?=aa c->∃u,M b (off+i*k+j)=aa u/\Rd M u c):Rd M (.slice a n cap) (.sl af k n es):=by
 refine .sl b off (λi j=>(M b (off+i*k+j)).getD ai) h1 h2 (λh=>by cases h) e f (λi hi j c hj=>?_) λi hi j c hj=>?_
 .grind
 grind
section
variable {P:aq}{X:Cx P}{N:Nat}{Qf:Post}{d:List It}{φ:Fr}{σ:List aP}{all rest:List au}{o:au}
def AK.U5{ι:Type}{c:Code}{b K:List It}(φ':ι->Fr)(σ':ι->List aP)(h:(∀(i:ι)(a:Fr)(ps:List Prop),ny a (φ' i)=aa ps->az ps->AK X N Qf (.code c::b) .normal a (σ' i))->AK X N Qf K .normal φ σ)(k:∀i,AK X N Qf (.code c::b) .normal (φ' i) (σ' i)):AK X N Qf K .normal φ σ :=
 h λi _ _ h1 h2=>AW.le (k i) (cA h1 h2)
def jI.agg{ds:List D}(p q z:Nat){cs:List A}{u:ah}{k n:Nat}{es:Nat->List C}(F:ds[p]?=aa (.e (.agg cs)))(O:cs[q]?=aa (.c (.val u)))(hl:gY σ z u k n es):jI σ ds (ds.set p (.e (.agg (cs.set q (.c (.sl af k n es)))))):=by
 intro s vs hh hr;obtain⟨L,t,j,w,E,I,y,J⟩:=hl s hh;refine⟨λb=>b∈L.bs,t,λb H=>⟨L,bH j,H⟩,w,E,I,y,?_⟩;have e1:Ext σ s σ {s with M:=t}:=⟨w,λl B L hB j=>⟨B,L,hB,j,.refl _ _⟩⟩
 have x:=hr.mono e1 hh.len;obtain⟨G,r⟩:=cg.get x;have g:p<vs.length:=by grind
 have h:=r p;rw[F,br g]at h;obtain⟨K,m,f⟩:=h;obtain⟨v,a,i⟩:=f.get O;rw[Rd.dZ (show Rd t v (.val u)from i)]at a;refine cg.setAt x (br g) ⟨K,m,dX.set f a J⟩
theorem PM.of{l:Nat}{K:Mem->Prop}{p:Prop}(hl:σ[l]?=aa (.b8 (PM K)))(h:∀M,K M->p)(s:St)(hh:aF σ s):p:=by
 have a:l<s.β.length:=by rw[hh.len];grind
 obtain⟨ch,⟨_,_,b⟩,_⟩:=hh.box l _ _ hl (br a);grind
def dT.RO{T:List (Nat×TI)}(hT:cN P T)(l:Nat){t:aj}{x:ak}{b off:Nat}{K:Mem->Prop}{i:TI}(h:o.op=.load t x)(hi:bD T t=aa i)(H:∀v,kN i [.c (.val v)]=aa (.one (.c (.val v))))(O:bM φ x=.e (.one (.v (.pointer (aa ⟨b,off,ae⟩)))))(hl:σ[l]?=aa (.b8 (PM K)))(R:∀M,K M->∃w,M b off=aa w/\cE w=ab):dT P N o φ σ (λw:ah=>.e (.one (.v w))) (λw=>σ.set l (.b8 (PM λM=>K M/\M b off=aa w))):=by
 intro s a Q hh;have u:=cX Q x;rw[O]at u;have u:=Rd.dZ u;have m:l<s.β.length:=by rw[hh.len];grind
 have r:=br m;generalize s.β[l]=L at r;obtain⟨ch,⟨h1,h2,I⟩,G,D,W⟩:=hh.box l _ L hl r;obtain⟨w,z,U⟩:=R _ I;obtain⟨cs,E,C,B⟩:∃cs E,ch b=aa (.cells cs E (0,0))/\cs[off]?=aa w:=by
  cases e:ch b with
  |none=>simp[fG,e]at z
  |some x =>
   obtain⟨cs,E,rfl⟩:=h2 b x e;exact⟨cs,E,rfl,by simpa[fG,e]using z⟩
 have A:b∈L.bs:=(D b).2 (by grind);have k:=G b _ C;obtain⟨J,V⟩:=hh.jv (l:=l) (H':=PM λM=>K M/\M b off=aa w) (L':=L) (w':=s.w) hl r rfl (bh _) (λ_ _ _=>rfl) (λ_ S=>.inl S) ⟨ch,⟨h1,h2,I,z⟩,G,D⟩ rfl rfl rfl;have f:∀(j:Nat) (v:ah),[w][j]?=aa v->s.w.cell? ⟨b,off+j,ae⟩=aa v:=by
  intro j v hj
  match j,hj with
  |0,hj=>cases hj;simp[aV,k,B]
 obtain⟨v,g,y⟩:=iA (s:=⟨s.β.set l L,s.M,s.w,s.own⟩) (σ:=σ.set l (.b8 (PM λM=>K M/\M b off=aa w))) (P:=P) (hT t i hi) (b:=b) (off:=off) (vs:=[w]) (cs:=[.c (.val w)]) f ⟨Rd.val U,ay⟩ (H w);have g:(loadVar t ⟨b,off,ae⟩).run P s.w=.ok v s.w:=g;have e1:aw a.eval o=(do pure (.value (<-loadVar t ⟨b,off,ae⟩))):=by simp[aw,h,u,Instr.loadAt,bq]
 refine⟨w,.value v,_,v,by rw[e1];simp[g],.inl rfl,y,J,V,λF q=>?_⟩;rw[e1]at q;have p:F∈(loadVar t ⟨b,off,ae⟩).events P s.w #[]:=by simpa[g]using q
 obtain⟨j,hj,rfl⟩:=fZ (hT t i hi) (n:=1) (λj hj=>⟨w,f j w (by grind)⟩) (by have:=kO (H w);grind) F p;exact jH (bH r) A
def Mem.up(M:Mem)(b o:Nat)(u:ah):Mem:=λa c=>if a=b/\c=o then aa u else M a c
def dT.F6{T:List (Nat×TI)}(hT:cN P T)(l:Nat){t:aj}{x y:ak}{b off:Nat}{K:Mem->Prop}{c:C}{i:TI}(h:o.op=.store t x y)(hi:bD T t=aa i)(hs1:i.size=1)(hx:bM φ x=.e (.one (.v (.pointer (aa ⟨b,off,ae⟩)))))(hy:bM φ y=.e (.one (.c c)))(hg:uK c=ab)(hl:σ[l]?=aa (.b8 (PM K)))(hK:∀M,K M->∃w,M b off=aa w):dT P N o φ σ (ι:={u:ah // ∀M,Rd M u c}) (λ_=>.any) (λu=>σ.set l (.b8 (PM λM'=>∃M,K M/\M'=M.up b off u.1))):=by
 intro s a Y hh;have H:=cX Y x;rw[hx]at H;have H:=Rd.dZ H;have m:=lO (show km (bM φ y)=aa [.c c] by rw[hy];rfl) (cX Y y);generalize A:(a.eval y).cells.toList=vs at m;obtain⟨u,rfl⟩:∃u,vs=[u]:=by
  match vs,m with
  |[u],_=>grind
  |_::_::_,h=>exact h.2.elim
 have hu:Rd s.M u c:=m.1;have U:∀M,Rd M u c:=λM=>pY hg hu;have D:l<s.β.length:=by rw[hh.len];grind
 have S:=br D;generalize s.β[l]=L at S;obtain⟨ch,⟨h1,h2,Z⟩,h4,h5,h6⟩:=hh.box l _ L hl S;obtain⟨w,V⟩:=hK _ Z;obtain⟨cs,E,Q,UP⟩:∃cs E,ch b=aa (.cells cs E (0,0))/\cs[off]?=aa w:=by
  cases e:ch b with
  |none=>simp[fG,e]at V
  |some x =>
   obtain⟨cs,E,rfl⟩:=h2 b x e;exact⟨cs,E,rfl,by simpa[fG,e]using V⟩
 have F:b∈L.bs:=(h5 b).2 (by grind);have g:=h4 b _ Q;have p:off<cs.size:=by grind
 have z:=run_storeCells_at P b off E [u] 0 cs s.w g (show off+0+1<=cs.size from p) m.cell;simp only[iq,jg]at z;have R:=setRow_heap s.w b cs (cs.toList.take off++[u]++cs.toList.drop (off+1)).toArray E (0,0) g;generalize O:(cs.toList.take off++[u]++cs.toList.drop (off+1)).toArray=Xm at z R;have G:∀j,Xm[j]?=if j=off then aa u else cs[j]?:=λj=>by rw[<-O];grind
 have J:∀f I,fG (λf=>if f=b then aa (.cells Xm E (0,0))else ch f) f I=(fG ch).up b off u f I:=λf I=>by
  by_cases e:f=b
  .subst e;simp only[fG,cj,Mem.up,aG,Q,G]
  .simp only[fG,aZ e,Mem.up,e,false_and,b7]
 obtain⟨t1,t2⟩:=hh.jv (l:=l) (H':=PM λM'=>∃M,K M/\M'=M.up b off u) (L':=L) (w':=s.w.setRow b Xm) hl S rfl (by simp)
  (λf n hn=>setRow_other s.w b f _ (λe=>hn (by grind))) (λf n=>.inl n)
  ⟨λf=>if f=b then aa (.cells Xm E (0,0))else ch f,⟨h1,λf o n=>by
   grind,_,Z,funext λf=>funext λI=>J f I⟩,λf o n=>by
   grind[setRow_other],λf=>by grind⟩ rfl rfl rfl
 have B:(a.eval y).cells.size=i.size:=by grind
 have e1:aw a.eval o=(do storeVar t ⟨b,off,ae⟩ (a.eval y);pure .skip):=by simp[aw,h,H,Instr.storeAt,bq]
 refine⟨⟨u,U⟩,.skip,_,ai,?_,.inr ⟨rfl,rfl⟩,ay,t1,t2,?_⟩
 .simp[aw,h,H,Instr.storeAt,bq,storeVar,(hT t i hi).run_sizeOf,B,A,z]
 .intro W k;rw[e1]at k;have q:W∈(storeCells ⟨b,off,ae⟩ (a.eval y).cells.toList).events P s.w #[]:=by
   simp only[storeVar,aM,(hT t i hi).run_sizeOf,B,aO,events_sizeOf,dq,fb,b7,bL,bU,Sem.events_pure]at k;generalize(storeCells ⟨b,off,ae⟩ (a.eval y).cells.toList).run P s.w=r at k;cases r with
   |ok v w'=>simpa using k
   |halt x w'=>simpa using k
  rw[A]at q;rcases dE [u] 0 cs s.w #[] g (show off+0+1<=cs.size from p) m.cell W q with Ja|⟨j,_,_,rfl⟩
  .grind
  .exact jE (bH S) F (h6 b F _)
end
def Bi(p:Bs):ah:=.string ⟨p.toArray⟩
def S5{a:ByteArray}{p:Bs}(h:a.data.toList=p):Value.string a=Bi p:=by subst h;simp[Bi]
theorem str_val{M:Mem}{v:ah}{p:Bs}(h:Rd M v (.str p)):v=Bi p/\cE v=ab:=by
 cases h with
 |str e _=>exact⟨S5 e,rfl⟩
section
variable {P:aq}{X:Cx P}{N:Nat}{all:List au}{φ:Fr}{x:Nat->D}{k:Bool->Bool->Bool->List aP}{i g b f:Nat}{o:au}
abbrev uj(k:Bool->Bool->Bool->List aP)(g b f:Nat):(Nat->Bool)->List aP:=λD=>k (D g) (D b) (D f)
def lK{i j:Nat}{D:Nat->Bool}(h:aB j i=af):eg i D j=D j:=by simp only[eg,h]
def zW{i:Nat}{D:Nat->Bool}:eg i D i=ab:=by simp only[eg,iQ]
def dW.q3(h1:aB g i=af)(h2:aB b i=af)(e:aB f i=af)(h:∀a c d,OA X N all o (jY all φ x i) (k a c d) (x i) (k a c d)):dW X N all φ x (uj k g b f) i o:=by intro D _ _;show OA X N all o _ (k (D g) (D b) (D f)) _ (k (eg i D g) (eg i D b) (eg i D f));rw[lK h1,lK h2,lK e];exact h _ _ _
def dW.Z9{T:List (Nat×TI)}{CT:List (Nat×dr)}{obs:List Prop}(hT:cN P T)(hC:bE X CT)(e:az obs)(h:∀a c d,we T CT [] all (jY all φ x i) (k a c d) o=aa (x i,ae,obs):=by intro a c d;cases a<;>cases c<;>cases d<;>rfl)(h1:aB g i=af:=by rfl)(h2:aB b i=af:=by rfl)(j:aB f i=af:=by rfl):dW X N all φ x (uj k g b f) i o:=.q3 h1 h2 j λa c d=>OA.eval hT hC (h a c d) e
def dW.IS{T:List (Nat×TI)}{CT:List (Nat×dr)}(hT:cN P T)(hC:bE X CT)(h:∀a c d,we T CT [] all (jY all φ x i) (k a c d) o=aa (x i,ae,[]):=by intro a c d;cases a<;>cases c<;>cases d<;>rfl)(h1:aB g i=af:=by rfl)(h2:aB b i=af:=by rfl)(e:aB f i=af:=by rfl):dW X N all φ x (uj k g b f) i o:=.Z9 (obs:=[]) hT hC ay h h1 h2 e
def dW.e1(hi:aB g i=ab)(h1:aB g i=ab)(h2:aB b i=af)(j:aB f i=af)(h:∀c d,OA X N all o (jY all φ x i) (k af c d) (x i) (k ab c d)):dW X N all φ x (uj k g b f) i o:=by intro D _ a;have e:=bP hi;subst e;show OA X N all o _ (k (D g) (D b) (D f)) _ (k (eg g D g) (eg g D b) (eg g D f));rw[zW,lK h2,lK j,a g (.inl rfl)];exact h _ _
def dW.e2(hi:aB b i=ab)(h1:aB g i=af)(l:aB f i=af)(j:fN all f i=ab)(d:aB b i=ab)(h:∀a,OA X N all o (jY all φ x i) (k a af af) (x i) (k a ab af)):dW X N all φ x (uj k g b f) i o:=by intro D _ c;have e:=bP hi;subst e;show OA X N all o _ (k (D g) (D b) (D f)) _ (k (eg b D g) (eg b D b) (eg b D f));rw[zW,lK h1,lK l,c b (.inl rfl),c f (.inr j)];exact h _
def dW.e3(hi:aB f i=ab)(h1:aB g i=af)(h2:aB b i=af)(d:fN all i b=ab)(c:aB f i=ab)(h:∀a,OA X N all o (jY all φ x i) (k a ab af) (x i) (k a ab ab)):dW X N all φ x (uj k g b f) i o:=by intro D hT hF;have e:=bP hi;subst e;show OA X N all o _ (k (D g) (D b) (D f)) _ (k (eg f D g) (eg f D b) (eg f D f));rw[zW,lK h1,lK h2,hF f (.inl rfl),hT b d];exact h _
end
def dJ(g:Nat)(E:aj)(v:ah):ah->(Nat->Option Obj)->Prop:=λu a=>u=.pointer (aa ⟨g,0,ae⟩)/\a g=aa (.cells #[v] E (0,0))/\∀b,b≠g->a b=ae
section
variable {P:aq}{X:Cx P}{N:Nat}{φ:Fr}{σ:List aP}{all:List au}{o:au}{T:List (Nat×TI)}
def OA.JU(hT:cN P T){t g:Nat}(l:Nat){E:aj}{v:ah}{i:TI}(B:qD all φ o=ab)(I:o.op=.load t (.global g))(hl:dt l σ=aa (.b8 (dJ g E v)))(hi:bD T t=aa i)(O:cE v=ab)(H:kN i [.c (.val v)]=aa (.one (.c (.val v)))):
  OA X N all o φ σ (.e (.one (.c (.val v)))) σ:=by
 intro s a f hh b k cs S q rest hb hq hK;refine qY hb hq (fD B _ _ _ f) λh p=>?_;have d:=hh.rely p;have hB:=b5 hl;have C:l<h.β.length:=by rw[d.len];grind
 have A:=br C;generalize h.β[l]=L at A;obtain⟨ch,⟨h1,h2,R⟩,M,J,Q⟩:=d.box l _ L hB A;have F:=M g _ h2;have K:g∈L.bs:=(J g).2 (by grind)
 have x:a.eval (.global g)=.pointer (aa ⟨g,0,ae⟩):=rfl;have D:dX σ h [v] [.c (.val v)]:=⟨Rd.val O,ay⟩;obtain⟨u,m,z⟩:=iA (s:=h) (σ:=σ) (P:=P) (hT t i hi) (b:=g) (off:=0) (vs:=[v]) (cs:=[.c (.val v)]) (e:=.one (.c (.val v))) (λj w hj=>by
  simp only[aV,F]
  grind) D H
 refine⟨.value u,h,u,by simp[aw,I,x,Instr.loadAt,bq,m],.inl rfl,⟨⟨σ,σ,d,d,.refl _ _⟩,?_⟩,hK u h z d p.stepW⟩;intro G y;have r:G∈(loadVar t ⟨g,0,ae⟩).events P h.w #[]:=by
  have e:aw a.eval o=(do pure (.value (<-loadVar t ⟨g,0,ae⟩))):=by simp[aw,I,x,Instr.loadAt,bq]
  rw[e]at y;simpa[m]using y
 obtain⟨j,hj,rfl⟩:=fZ (hT t i hi) (n:=1) (λj hj=>⟨v,by simp only[aV,F];grind⟩) (by have:=kO H;grind) G r;exact jH (bH A) K
end
section
variable {P:aq}{X:Cx P}{N:Nat}{φ:Fr}{σ:List aP}
def Jh{P:aq}(X:Cx P)(N:Nat)(all:List au)(φ:Fr)(σ:List aP)(x:Nat->D):List D->List au->Nat->Prop
 |_::r,o::l,i=>OA X N all o (jY all φ x i) σ (x i) σ/\Jh X N all φ σ x r l (i+1)
 |[],_,_=>True
 |_::_,[],_=>False
theorem Jh.get{all:List au}{x:Nat->D}:∀{r:List D}{l:List au}{k:Nat},Jh X N all φ σ x r l k->∀i o,l[i]?=aa o->i<r.length->OA X N all o (jY all φ x (k+i)) σ (x (k+i)) σ
 |[],_,_,_,i,o,_,hi=>absurd hi (fL _)
 |_::r,[],_,h,i,o,_,hi=>h.elim
 |d::r,p::l,k,h,0,o,a,_=>by cases a;exact h.1
 |d::r,p::l,k,h,i+1,o,a,hi=>by have:=Jh.get h.2 i o a (by grind);grind
def AK.calm(j:P.follows Departure.mixedOrders=ab)(xs:List D)(d:Nat){ops:Array au}{id:Nat}{K:List It}{Qf:Post}(b:mx ops.toList=ab)(a:rV ops.toList 0=ab)(c:om N ops.toList=ab)(e:bu xs.length ops.toList.length=ab)(PN:vT ops.toList d xs.length (ops.toList.length-xs.length)=ab)(one:Jh X N ops.toList φ σ (λi=>xs.getD i .any) xs ops.toList 0)(k:AK X N Qf (.ops ops.toList (ops.toList.drop xs.length)::K) .normal (MV ops.toList φ λi=>xs.getD i .any) σ):AK X N Qf (.code (.region id ops ab)::K) .normal φ σ:=by
 have e:=cV e;have:=AW.reg (X:=X) (N:=N) (φ:=φ) (σ:=σ) j (all:=ops.toList) xs.length (λ_:Unit=>λi=>xs.getD i .any) (λ_ _=>σ) (λ_ _=>True) () ay rfl b a c e
  (λi h1 h2 L g h k hk=>qa g (tf (tg PN i h1 (by omega)) k hk) h)
  (λf D _ _ i h1 h2=>by grind)
  (λf D i o _ l hi _ _ _=>by have h1:=one.get i o l hi;rw[bC]at h1;exact h1.tc ⟨(),λ_ _=>rfl,ay⟩ rfl rfl)
  (Q:=AK X N Qf K) (λf D _ _=>k) id
 rw[oT]at this;exact this
end
section
variable {P:aq}{X:Cx P}{N:Nat}{Qf:Post}{K:List It}{φ:Fr}{σ:List aP}{all rest:List au}{o:au}{T:List (Nat×TI)}
def HA{ι:Type}{S:av->St->Prop}{b:aR}{k:List Item}{cs:List aR}{a:Act}{s:St}{ops:Array au}{i:Nat}{rest:List Nat}{ks:List Nat}{n:List aP}{σ1:ι->List aP}{f:aJ}{e:List D}{res:ι->D}{vs:List ah}(hb:b.kind≠.early)(ho:ops[i]?=aa o)(hw:bd o (yielded ops a.tmps)=ab)(hh:aF σ s)(t:∀m,aF σ m->(aw a.eval o).run P m.w=.ok (.enter f vs.toArray) m.w/\eY m ((aw a.eval o).events P m.w #[]))(G8:eb X f e n res σ1)(y:cg σ s vs (fI ks e))(Xk:ll ks.length e=ab)(r:jJ ks σ=aa n)(hp:cq n=ab)(XU:∀j,cq (σ1 j)=ab)(hn:dw ks=ab)(RB:∀j,ks.length<=(σ1 j).length)(h:∀j v s',dj (dH ks (σ1 j) σ) s' v (hZ (ks++kL σ.length ((σ1 j).length-ks.length)) (res j))->aF (dH ks (σ1 j) σ) s'->cR σ s (dH ks (σ1 j) σ) s'->fA X S (G (b.aT (a.put o.dst v) (.inRegion ops rest::k)) cs) s'):
  fA X S (G (b.aT a (.inRegion ops (i::rest)::k)) cs) s:=by obtain⟨_,C⟩:=G8;refine .next rfl λm R=>?_;have Q:=X.iv R;have g:=hh.rely Q;obtain⟨p,E⟩:=vM (l':=m.β) r g.len;obtain⟨M,U⟩:=g.sub r E hp hn;have q:cg σ m vs (fI ks e):=y.mono Q.stepW.ext hh.len;have I:cg n {m with β:=p,own:=vR m p} vs e:=(q.sub (s:=m) r E Xk).mono (σ:=n) (s:={m with β:=p}) (σ':=n) (s':={m with β:=p,own:=vR m p}) ⟨λ_ _ _ h=>h,λl B L hB hL=>⟨B,L,hB,hL,.refl _ _⟩⟩ M.len;refine⟨_,m,_,oY ho hw hb (t m g).1,⟨⟨σ,σ,g,g,.refl _ _⟩,eY.seen (t m g).2⟩,.ghost U (C _ vs I M S _ λj fr v s2 hl O u mf=>?_)⟩;refine pZ (cs:=cs) (c:=b.aT a (.inRegion ops (i::rest)::k)) u hl λs3 A=>?_;have H:=u.rely A;have F:=mf.trans A.stepW;obtain⟨s4,Z,hr4,V,Yv,W,ho4,J⟩:=frame g r E hn (XU j) H F (RB j) (O.mono A.stepW.ext u.len);refine .ghost (eu.back g H F Z W ho4 J) ?_;have Y:=kh (b:=b) (a:=a) (k:=k) ops i rest v;rw[ho]at Y;simp only[nY]at Y;rw[Y];exact h j v s4 hr4 V (Q.stepW.trans Yv)
def dJ.cell(hT:cN P T){l t g:Nat}{E:aj}{v:ah}{i:TI}(hl:dt l σ=aa (.b8 (dJ g E v)))(hi:bD T t=aa i)(C:cE v=ab)(r:kN i [.c (.val v)]=aa (.one (.c (.val v)))){s:St}(hh:aF σ s):
  (loadVar t ⟨g,0,ae⟩).run P s.w=.ok v s.w/\eY s ((loadVar t ⟨g,0,ae⟩).events P s.w #[]):=by
 have hB:=b5 hl;have k:l<s.β.length:=by rw[hh.len];grind
 have m:=br k;generalize s.β[l]=L at m;obtain⟨ch,⟨h1,h2,I⟩,A,y,H⟩:=hh.box l _ L hB m;have q:=A g _ h2;have F:g∈L.bs:=(y g).2 (by grind)
 have p:dX σ s [v] [.c (.val v)]:=⟨Rd.val C,ay⟩;obtain⟨u,h,f⟩:=iA (s:=s) (σ:=σ) (P:=P) (hT t i hi) (b:=g) (off:=0) (vs:=[v]) (cs:=[.c (.val v)]) (e:=.one (.c (.val v))) (λj w hj=>by
  simp only[aV,q]
  grind) p r
 have G:u=v:=Rd.dZ f;subst G;refine⟨h,λB a=>?_⟩;obtain⟨j,hj,rfl⟩:=fZ (hT t i hi) (n:=1) (λj hj=>⟨u,by simp only[aV,q];grind⟩) (by have:=kO r;grind) B a;exact jH (bH m) F
def OA.yD(hT:cN P T){t g:Nat}(l:Nat){x:ak}{E:aj}{v:ah}{i:TI}(p:qD all φ o=ab)(C:o.op=.load t x)(w:bM φ x=.e (.one (.c (.val (.pointer (aa ⟨g,0,ae⟩))))))(hl:dt l σ=aa (.b8 (dJ g E v)))(hi:bD T t=aa i)(u:cE v=ab)(B:kN i [.c (.val v)]=aa (.one (.c (.val v)))):
  OA X N all o φ σ (.e (.one (.c (.val v)))) σ:=by
 intro s a f hh b k cs S q rest A y G;refine qY A y (fD p _ _ _ f) λr n=>?_;have h:=hh.rely n;have j:=cX f x;rw[w]at j;have j:=Rd.dZ (eT j);obtain⟨h1,h2⟩:=dJ.cell hT hl hi u B h;have e:aw a.eval o=(do pure (.value (<-loadVar t ⟨g,0,ae⟩))):=by simp[aw,C,j,Instr.loadAt,bq]
 refine⟨.value v,r,v,by rw[e];simp[h1],.inl rfl,⟨⟨σ,σ,h,h,.refl _ _⟩,?_⟩,G v r (Rd.val u) h n.stepW⟩;intro F m;rw[e]at m;exact h2 F (by simpa[h1]using m)
def F7(t:aj)(p:Addr)(a:String):Builtin.ssaWrapNilChk_ #[t] t #[.pointer (aa p),strVal "",strVal a]=pure (.pointer (aa p)):=rfl
def qF(P:aq)(σ:List aP)(T:aj)(v:ah)(name:String)(f:aJ)(r:ah):Prop:=∀s,aF σ s->∀n,(Go.method (n+1) T v name).run P s.w=.ok (f,r) s.w/\eY s ((Go.method (n+1) T v name).events P s.w #[])
def qF.ptr{a:aj}{name:String}{f:aJ}{i:TypeInfo}{m:Go.Method}{e:aj}{v:ah}(hi:P.info? a=aa i)(c:i.methods.find? (·.name==name)=aa m)(b:m.path=#[])(g:m.func=aa (f,ab))(h:P.underlying a=aa (.pointer e)):qF P σ a v name f v:=by
 intro s hh n;have h1:∀w,(typeInfo a).run P w=.ok i w:=λw=>by simp[typeInfo,hi]
 have h2:∀w,(underlying a).run P w=.ok (.pointer e) w:=λw=>by simp[underlying,h]
 unfold Go.method;constructor
 .simp only[bL,h1,c,b,g,bU,follow,dn,receiverAt,h2];rfl
 .have:∀es,((do pure (f,<-receiverAt a (.val v) ab (if m.path.isEmpty then aa ((name.splitOn ".").getLastD name)else ae))):Sem (aJ×ah)).events P s.w es=es:=λes=>by simp[receiverAt,h2,Place.get]
  simp only[aM,bL,h1,c,b,g,bU,aO,follow,dn,Sem.events_pure,receiverAt,h2,events_typeInfo,events_underlying,Place.get];exact .nil
def qF.deref(hT:cN P T){l g:Nat}{a:aj}{name:String}{f:aJ}{i:TypeInfo}{m:Go.Method}{t E:aj}{v:ah}{h:TI}(hi:P.info? a=aa i)(k:i.methods.find? (·.name==name)=aa m)(j:m.path=#[])(p:m.func=aa (f,af))(B:P.underlying a=aa (.pointer t))(hl:dt l σ=aa (.b8 (dJ g E v)))(e:bD T t=aa h)(u:cE v=ab)(A:kN h [.c (.val v)]=aa (.one (.c (.val v)))):qF P σ a (.pointer (aa ⟨g,0,ae⟩)) name f v:=by
 intro s hh n;have h1:∀w,(typeInfo a).run P w=.ok i w:=λw=>by simp[typeInfo,hi]
 have h2:∀w,(underlying a).run P w=.ok (.pointer t) w:=λw=>by simp[underlying,B]
 obtain⟨q,r⟩:=dJ.cell hT hl e u A hh;have y:m.path.isEmpty=ab:=by grind
 unfold Go.method;constructor
 .simp only[bL,h1,k,j,p,bU,follow,dn,receiverAt,h2,Place.get];simp[F7,asAddr,q]
 .intro C b;refine r C ?_;simp only[aM,bL,h1,k,j,p,bU,aO,follow,dn,Sem.events_pure,receiverAt,h2,events_typeInfo,events_underlying,Place.get]at b;simpa[F7,asAddr,q]using b
def ph{a:ak->ah}{x:ak}{b:Array ak}{e:Array aj}{name:String}(g:o.op=.call {callee:=.invoke x name,args:=b,argTypes:=e}){c:aj}{u:ah}(k:a x=.iface c u):
  aw a o=callMethod (.iface c u) name (b.toList.map a).toArray:=by
 have h:#[a x]++b.map a=(.iface c u::b.toList.map a).toArray:=by grind
 have j:(Value.iface c u::b.toList.map a).toArray.extract 1 (Value.iface c u::b.toList.map a).toArray.size=(b.toList.map a).toArray:=by grind
 have f:aw a o=invoke (.fn (.method name) #[]) (#[a x]++b.map a):=by simp only[aw,g];rfl
 rw[f,h];show callMethod (.iface c u) name ((Value.iface c u::b.toList.map a).toArray.extract 1 (Value.iface c u::b.toList.map a).toArray.size)=_;rw[j]
def AK.kD{ι:Type}{Z:aj}{name:String}{f:aJ}{u r:ah}{g:List D}{B:List aP}{σ1:ι->List aP}{res:ι->D}(I:eb X f g B res σ1)(ks:List Nat)(hm:qF P σ Z u name f r)(M:qD all φ o=ab){x:ak}{E:Array ak}{L:Array aj}(ho:o.op=.call {callee:=.invoke x name,args:=E,argTypes:=L})(hx:bM φ x=.e (.one (.c (.ifs Z (.val u)))))(hr:cE r=ab)(A:mv (.e (.one (.c (.val r)))::E.toList.map (bM φ))=fI ks g)(W:ll ks.length g=ab)(V:jJ ks σ=aa B)(hp:cq B=ab)(Q:∀j,cq (σ1 j)=ab)(hn:dw ks=ab)(U:∀j,bu ks.length (σ1 j).length=ab)(hN:fR N o.dst=ab)(k:∀j,AK X N Qf (.ops all rest::K) .normal (kl o.dst (hZ (ks++kL σ.length ((σ1 j).length-ks.length)) (res j)) φ) (dH ks (σ1 j) σ)):AK X N Qf (.ops all (o::rest)::K) .normal φ σ:=by
 intro s a H hh b kk css S idx hb jk hQ;cases idx with
 |nil=>exact jk.elim
 |cons i idx =>
 have F:=cX H x;rw[hx]at F;have F:=eT F;generalize hv:a.eval x=v at F;cases F with
 |@ifs _ u' _ h1 hc =>
  have hu:=Rd.dZ h1;subst hu;obtain⟨fn,G,Ht,Y⟩:=I.1;have l:fn.name≠ "runtime.NumGoroutine":=by grind
  have h:fn.body≠ae:=by grind
  obtain⟨n,C⟩:∃n,P.types.size+Made.depth=n+1:=⟨P.types.size+Made.depth-1,by unfold Made.depth;omega⟩
  have p:∀w,(program:Sem aq).run P w=.ok P w:=λw=>by simp[program,Sem.run]
  have J:∀w es,(program:Sem aq).events P w es=es:=λw es=>by simp[program,Sem.events,Sem.runT]
  have m:cg σ s (r::E.toList.map a.eval) (fI ks g):=by rw[<-A];exact o7 (σ:=σ) (s:=s) ⟨Rd.val hr,lJ (cX H) E.toList⟩
  refine HA (ks:=ks) hb jk.1 (fD M _ _ _ H) hh (vs:=r::E.toList.map a.eval) (λs1 R=>?_) I m W V hp Q hn (λj=>cV (U j)) λj v s' mh iX st=>?_
  .obtain⟨m1,m2⟩:=hm s1 R n;constructor
   .rw[ph ho hv];simp[callMethod,p,C,m1,callFunc,G,l,h]
   .intro ev y;refine m2 ev ?_;rw[ph ho hv]at y;simpa[callMethod,p,J,C,m1,callFunc,G,l,h]using y
  refine k j s' _ ?_ iX b kk css S idx hb jk.2 λO σ2 s2 a2 q d h2 mf=>hQ O σ2 s2 a2 q d h2 (st.trans mf);cases hd:o.dst with
  |none=>exact H.mono st hh.len
  |some t=>exact(H.mono st hh.len).put (gA hN t hd) mh
def bF.B6{a:ak->D}{x:ak}(h:o.op=.nilCheck x){p:Addr}(g:a x=.e (.one (.c (.val (.pointer (aa p)))))):bF P o a σ (.e (.one (.c (.val (.pointer (aa p)))))) σ:=by refine .quiet λs f hh hr=>?_;have h1:=hr x;rw[g]at h1;have b:=Rd.dZ (eT h1);exact⟨f x,by simp[aw,h,b],h1,by simp[aw,h,b]⟩
def bF.B7(hT:cN P T){η:ak->D}{t:aj}{x:ak}(h:o.op=.load t x){E:aj}{b cap off i f k n l:Nat}{es:Nat->List C}{xs:List ah}{I:TI}{e:E1}(hx:η x=.e (.one (.c (.val (.pointer (aa ⟨b,off,ae⟩))))))(W:off=i*k+f)(hl:σ[l]?=aa (.b8 (fQ E k (.row b cap) n xs)))(S:gi k n es xs)(hi:bD T t=aa I)(he:kN I ((fK f (es i)).map A.c)=aa e)(V:i<n):bF P o η σ (.e e) σ:=by
 refine .od λs ρ hh hr=>?_;have H:=hr x;rw[hx]at H;have H:=Rd.dZ (eT H);have r:l<s.β.length:=by rw[hh.len];grind
 have Q:=br r;generalize s.β[l]=L at Q;obtain⟨ch,hH,p,O,W0⟩:=hh.box l _ L hl Q;obtain⟨zs,W2,G,Q2⟩:=fQ.lookup hH;have R:b∈L.bs:=(O b).2 (by grind);have q:=p b _ G;let g:Nat->ah:=λj=>xs.getD (i*k+j) ai;have Y:∀j c,(fK f (es i))[j]?=aa c->xs[i*k+(f+j)]?=aa (g (f+j))/\Rd s.M (g (f+j)) c:=by intro j c hj;rw[l5,oU]at hj;obtain⟨v,v1,v2⟩:=S.at' i V (f+j) c hj;grind
 have U:=Eg (σ:=σ) (s:=s) (g:=g) (ds:=fK f (es i)) (m:=f) (λj c hj=>(Y j c hj).2);have a:∀(j:Nat) (v:ah),((bg (fK f (es i)).length).map λj=>g (f+j))[j]?=aa v->s.w.cell? ⟨b,off+j,ae⟩=aa v:=by
  intro j v hj;simp only[mU]at hj;by_cases B:j<(fK f (es i)).length
  .simp[B]at hj;subst hj;have h2:=(Y j _ (br B)).1;simp only[aV,q];grind
  grind
 obtain⟨v,u,J⟩:=iA (s:=s) (σ:=σ) (P:=P) (hT t I hi) (b:=b) (off:=off) (e:=e) a U he;have e1:aw ρ o=(do pure (.value (<-loadVar t ⟨b,off,ae⟩))):=by simp[aw,h,H,Instr.loadAt,bq]
 refine⟨v,by rw[e1];simp[u],J,λZ F=>?_⟩;rw[e1]at F;have y:Z∈(loadVar t ⟨b,off,ae⟩).events P s.w #[]:=by simpa[u]using F
 obtain⟨j,hj,rfl⟩:=fZ (hT t I hi) (n:=(fK f (es i)).length) (λj hj=>⟨_,a j (g (f+j)) (by grind)⟩) (by have:=kO he;grind) Z y;exact jH (bH Q) R
def bF.RP(hT:cN P T){k:ak->D}{t:aj}{x y:ak}(h:o.op=.slice t x ae (aa y) ae){i s:TI}{E:aj}(p:bD T t=aa i)(F:i.desc=.slice E)(I:bD T E=aa s){b n cap:Nat}{kd:IntKind}{m:Int}(v:k x=.e (.one (.c (.val (.slice (aa ⟨b,0,ae⟩) n cap)))))(B:k y=.e (.one (.c (.int kd m))))(g:n<=cap)(A:0<=m)(h1:m<=n):bF P o k σ (.e (.one (.c (.val (.slice (aa ⟨b,0,ae⟩) m.toNat cap))))) σ:=by
 refine .quiet λst ρ hh hr=>?_;have j:=hr x;rw[v]at j;have j:=Rd.dZ (eT j);have hl:qX k ae=aa ae:=rfl;have r:qX k (aa y)=aa (aa m):=by simp[qX,B]
 have u:az (fM n ae (aa m)):=⟨A,h1⟩;obtain⟨G,H,C⟩:=lX (P:=P) (isS:=ab) g (gq hr hl) (gq hr r) u st.w;have a:=(hT t i p).run_underlying (w:=st.w);rw[F]at a;have f:(bc ab n cap ae (aa (ρ y)) ae).run P st.w=.ok (0,m.toNat,cap) st.w:=G;have l:=nc (P:=P) (isS:=ab) g (gq hr hl) (gq hr r) u st.w;have q:∀es,(bc ab n cap ae (aa (ρ y)) ae).events P st.w es=es:=l;refine⟨_,?_,Rd.val rfl,?_⟩
 .simp[aw,h,j,Instr.sliceAt,a,Instr.slice,f,(hT E s I).run_sizeOf,dk]
 .simp[aw,h,j,Instr.sliceAt,a,Instr.slice,f,q]
def F8{s:St}:∀{vs:List ah}{cs:List C},vs.length=cs.length->∀f:Nat->ah,(∀j,j<vs.length->vs[j]?=aa (f j))->(∀(j:Nat)(c:C),cs[j]?=aa c->Rd s.M (f j) c)->dX σ s vs (cs.map A.c)
 |[],[],_,_,_,_=>trivial
 |[],_::_,b,_,_,_=>by grind
 |_::_,[],b,_,_,_=>by grind
 |v::vs,c::cs,b,f,e,a=>⟨by have:=e 0 (by simp);cases this;exact a 0 c rfl,F8 (by grind) (λj=>f (j+1)) (λj h=>by grind) λj g h=>a (j+1) g (by grind)⟩
def bF.Ai(hT:cN P T){q:ak->D}{x:ak}{l t:aj}(h:o.op=.typeAssert x l t af){i:TI}(hi:bD T t=aa i)(n:pf i.desc=af){cs:List C}(r:q x=.e (.one (.c (.FJ t cs)))):bF P o q σ (.e (.agg (cs.map A.c))) σ:=by
 refine .quiet λs v hh hr=>?_;have h1:=hr x;rw[r]at h1;replace h1:=eT h1;generalize j:v x=vx at h1;have p:=(hT t i hi).run_underlying (w:=s.w);have b:∀m,i.desc≠.interface m:=by intro m e;rw[e]at n;cases n
 cases h1 with
 |@FJ t' vs cs hl f u k =>
  have a:(Instr.typeAssert (.iface t (.agg vs.toArray)) l t af).run P s.w=.ok (.agg vs.toArray) s.w/\(Instr.typeAssert (.iface t (.agg vs.toArray)) l t af).events P s.w #[]=#[]:=by
   constructor
   .unfold Instr.typeAssert;simp only[bL,p,bU];cases g:i.desc<;>first|(exact absurd g (b _))|simp
   .unfold Instr.typeAssert;simp only[p,aM,aO,events_underlying];cases g:i.desc<;>first|(exact absurd g (b _))|simp
  exact⟨.agg vs.toArray,by simp only[aw,h,j,bL,a.1,bU,dn],⟨vs,rfl,F8 hl f u k⟩,by simp only[aw,h,j,aM,a.1,a.2,aO,Sem.events_pure]⟩
def AK.Kg(hT:cN P T)(l:Nat){t g:Nat}{x y:ak}{E:aj}{v u:ah}{i:TI}(h:o.op=.store t x y)(hi:bD T t=aa i)(A:i.size=1)(Z:bM φ x=.e (.one (.c (.val (.pointer (aa ⟨g,0,ae⟩))))))(hy:bM φ y=.e (.one (.c (.val u))))(R:u.cells=#[u])(hcu:cE u=ab)(hl:dt l σ=aa (.b8 (dJ g E v)))(Y:o.guard=ae)(V:fR N o.dst=ab)(kk:AK X N Qf (.ops all rest::K) .normal (kl o.dst .any φ) (σ.set l (.b8 (dJ g E u)))):AK X N Qf (.ops all (o::rest)::K) .normal φ σ:=by
 refine AK.hand (ι:=Unit) (λ_=>.any) (λ_=>σ.set l (.b8 (dJ g E u))) Y V (λs a S hh=>?_) λ_=>kk;have I:=cX S x;rw[Z]at I;have I:=Rd.dZ (eT I);have m:=cX S y;rw[hy]at m;have m:=Rd.dZ (eT m);have hl:=b5 hl;have B:l<s.β.length:=by rw[hh.len];grind
 have H:=br B;generalize s.β[l]=L at H;obtain⟨ch,⟨h1,h2,h3⟩,p,J,O⟩:=hh.box l _ L hl H;have r:g∈L.bs:=(J g).2 (by grind);have k:=p g _ h2;have G:∀w∈[u],w.oneCell'=ab:=λw hw=>by
  have:cE w=ab:=by grind
  exact this
 have M:=run_storeCells_at P g 0 E [u] 0 #[v] s.w k (by simp) G;have F:∀f,f≠g->(s.w.setRow g #[u]).heap[f]?=s.w.heap[f]?:=λf b=>setRow_other s.w g f _ b;have U:=setRow_heap s.w g #[v] #[u] E (0,0) k;obtain⟨W,t2⟩:=hh.jv (l:=l) (H':=dJ g E u) (L':=L) (w':=s.w.setRow g #[u]) hl H rfl (by simp)
  (λf b hn=>F f (by grind)) (λf b=>.inl b)
  ⟨λf=>if f=g then aa (.cells #[u] E (0,0))else ae,⟨h1,by simp,λf b=>by grind⟩,λf o b=>by
   grind,λf=>by grind⟩ rfl rfl rfl
 have e1:aw a.eval o=(do storeVar t ⟨g,0,ae⟩ u;pure .skip):=by simp[aw,h,I,m,Instr.storeAt,bq]
 have n:(storeCells ⟨g,0,ae⟩ [u] 0).run P s.w=.ok () (s.w.setRow g #[u]):=M;refine⟨(),.skip,_,ai,?_,.inr ⟨rfl,rfl⟩,ay,W,t2,?_⟩
 .rw[e1];simp[storeVar,(hT t i hi).run_sizeOf,R,A,n]
 .intro Q q;rw[e1]at q;have C:Q∈(storeCells ⟨g,0,ae⟩ [u] 0).events P s.w #[]:=by simp only[storeVar,aM,(hT t i hi).run_sizeOf,A,R,aO,events_sizeOf,dq,fb,b7,bL,bU,Sem.events_pure]at q;simpa[n]using q
  rcases dE [u] 0 #[v] s.w #[] k (by simp) G Q C with Ja|⟨j,_,_,rfl⟩
  .grind
  .exact jE (bH H) r (O g r _)
def AK.Kh(t l:Nat){E:aj}(F k:Nat){I:Nat}{es:Nat->List C}{c:Code}(U:look φ t=.e (.one (.ptr l 0)))(hl:dt l σ=aa (.cells E [.c (.sl ab I 0 es)]))(kk:∀g a0,AK X N Qf (.code c::K) .normal ((t,.e (.one (.v (.pointer (aa ⟨g,0,ae⟩)))))::φ) (σ.set l (.b8 (dJ g E (k9 (.nil a0) 0)))++[.b8 (fQ F k (.nil a0) 0 [])])):AK X N Qf (.code c::K) .normal φ σ:=by
 refine AW.ta (ι:=Nat×Option Addr) (φ':=λq=>(t,.e (.one (.v (.pointer (aa ⟨q.1,0,ae⟩)))))::φ) (σ':=λq=>σ.set l (.b8 (dJ q.1 E (k9 (.nil q.2) 0)))++[aP.b8 (fQ F k (.nil q.2) 0 [])]) (λs a r hh=>?_) λ(q:Nat×Option Addr)=>kk q.1 q.2;have hl:=b5 hl;have j:l<s.β.length:=by rw[hh.len];grind
 have m:=br j;generalize s.β[l]=L at m;obtain⟨g,vs,rfl,V,y,W⟩:=hh.box l _ L hl m
 match vs,y with
 |[v],⟨S,_⟩ =>
  obtain⟨a0,cap,O,rfl,_,_,G,_,_⟩:=(show Rd s.M v (.sl ab I 0 es)from S).flat;have p:cap=0:=G rfl;subst p;obtain⟨J,q2⟩:=hh.gz (M':=s.M) (w':=s.w) (B':=.b8 (dJ g E (k9 (.nil a0) 0))) (L':=⟨.pointer (aa ⟨g,0,ae⟩),[g]⟩) hl m rfl (bh _) (λ_ _ _=>rfl) (λ_ _ _ _=>rfl) (λ_ _ _ h=>h) hh.mem (λb f=>⟨.inl f,hh.lt _ (bH m) b f⟩) rfl rfl rfl
   ⟨λb=>if b=g then aa (.cells #[.slice a0 0 0] E (0,0))else ae,⟨rfl,by simp[k9],λb f=>by grind⟩,λb o f=>by
    grind,λb=>by by_cases e:b=g<;>simp[e],λb f o=>by grind⟩
  obtain⟨Q,R⟩:=J.hO (B:=.b8 (fQ F k (.nil a0) 0 [])) (L:=⟨.nilFunc,[]⟩) (.refl _ _) rfl J ⟨λ_=>ae,⟨rfl,by simp,by simp,rfl,rfl⟩,by simp,by simp,by simp⟩ (by simp);have st:=q2.trans R;refine⟨(g,a0),{s with β:=s.β.set l ⟨.pointer (aa ⟨g,0,ae⟩),[g]⟩++[⟨.nilFunc,[]⟩]},rfl,⟨r.size,r.defers.imp λ_ h1=>h1.mono st.ext,λu=>?_⟩,Q,st⟩;simp only[look];cases f:aB t u with
  |false=>exact(r.slot u).mono st.ext hh.len
  |true =>
   have e:=bP f;subst e;have h1:=r.slot t;rw[U]at h1;obtain⟨_,Y,Z,n,H,A⟩:=(h1:gn σ s _ (.ptr l 0));rw[m]at n;cases n;cases H;rw[A];exact Rd.val rfl
theorem OA.wF{ι:Type}{x:D}{σ':List aP}(c:o.guard=ae)(h:dT P N o φ σ (λ_:ι=>x) λ_=>σ'):OA X N all o φ σ x σ':=λs a f hh b kk cs S i rest e hi hK=>mD.wF c h s a f hh b kk cs S i rest e hi λ_=>hK
section
variable {x:Nat->D}{s2:Bool->Bool->List aP}{i z d:Nat}
abbrev wU(s2:Bool->Bool->List aP)(z d:Nat):(Nat->Bool)->List aP:=λD=>s2 (D z) (D d)
def dW.q2(h1:aB z i=af)(h2:aB d i=af)(h:∀a b,OA X N all o (jY all φ x i) (s2 a b) (x i) (s2 a b)):dW X N all φ x (wU s2 z d) i o:=by
 intro D _ _;have e1:eg i D z=D z:=by simp only[eg,h1]
 have e2:eg i D d=D d:=by simp only[eg,h2]
 grind
def dW.U6{T:List (Nat×TI)}{CT:List (Nat×dr)}{obs:List Prop}(hT:cN P T)(hC:bE X CT)(h:∀a b,we T CT [] all (jY all φ x i) (s2 a b) o=aa (x i,ae,obs):=by intro a b;cases a<;>cases b<;>rfl)(h1:aB z i=af:=by rfl)(h2:aB d i=af:=by rfl)(c:az obs:=by simp only[az,aE];omega):dW X N all φ x (wU s2 z d) i o:=.q2 h1 h2 λa b=>OA.eval hT hC (h a b) c
def dW.Qb{T:List (Nat×TI)}{CT:List (Nat×dr)}(hT:cN P T)(hC:bE X CT)(h:∀a b,we T CT [] all (jY all φ x i) (s2 a b) o=aa (x i,ae,[]):=by intro a b;cases a<;>cases b<;>rfl)(h1:aB z i=af:=by rfl)(h2:aB d i=af:=by rfl):dW X N all φ x (wU s2 z d) i o:=.U6 (obs:=[]) hT hC h h1 h2 ay
def dW.fw(h1:aB z i=af)(h2:aB d i=af)(c:fN all z i=ab)(a:fN all d i=ab)(h:OA X N all o (jY all φ x i) (s2 af af) (x i) (s2 af af)):dW X N all φ x (wU s2 z d) i o:=by
 intro D _ b;have e1:eg i D z=D z:=by simp only[eg,h1]
 have e2:eg i D d=D d:=by simp only[eg,h2]
 grind
def dW.sA(h2:aB d z=af)(a:fN all d z=ab)(h:OA X N all o (jY all φ x z) (s2 af af) (x z) (s2 ab af)):dW X N all φ x (wU s2 z d) z o:=by
 intro D _ b;have e1:eg z D z=ab:=by simp only[eg,iQ]
 have e2:eg z D d=D d:=by simp only[eg,h2]
 grind
def dW.sB(h1:aB z d=af)(a:fN all d z=ab)(h:OA X N all o (jY all φ x d) (s2 ab af) (x d) (s2 ab ab)):dW X N all φ x (wU s2 z d) d o:=by
 intro D hT hF;have e1:eg d D z=D z:=by simp only[eg,h1]
 have e2:eg d D d=ab:=by simp only[eg,iQ]
 grind
end
end
section
variable {P:aq}{X:Cx P}{N:Nat}{Qf:Post}{K:List It}{φ:Fr}{σ:List aP}{c:Code}
def pq{S:Type}{P:aq}(X:Cx P)(N:Nat)(Qf:Post)(K:List It)(I:S->Prop)(a:S->Fr)(st:S->List aP)(b:S->Nat)(d:Nat)(x:S):Post:=λe φ' σ'=>match e with
 |.normal=>∃y n,d<=n/\I y/\b y<b x/\og φ' (a y)/\BY n (a y)=ab/\∃σ1 rest,σ'=σ1++rest/\σ1.length=n/\(rX n σ1=ab/\lA rest=ab)/\D5 σ1 (st y)
 |e=>AK X N Qf K e φ' σ'
def AK.P9{S:Type}(F:Nat)(I:S->Prop)(fr:S->Fr)(st:S->List aP)(k:S->Nat)(x:S){ps qs:List Prop}(D:ny φ (fr x)=aa ps)(T:az ps)(o:oP σ (st x)=aa qs)(hq:az qs)(hn:σ.length=F)(R:I x)(round:∀x,I x->AK X N (pq X N Qf K I fr st k F x) [.code c] .normal (fr x) (st x)):AK X N Qf (.code (.loop c)::K) .normal φ σ:=by
 intro s a V hh b kk cs SS hb hQ;have j:=gT o hq;obtain⟨r,C,_⟩:=j s hh;refine sk (λm a' s'=>∃y,I y/\cm N (st y) s' (fr y) a'/\aF (st y) s'/\cR σ s (st y) s'/\k y=m) ?_ ?_ ⟨x,R,(V.le (cA D T)).bs j hh,r,C.m9 hh,rfl⟩
 .rintro n a' s' ⟨y,E,l,g,d,e⟩;exact⟨st y,g,λs1 h1=>⟨y,E,l.rely h1 g,g.rely h1,d.trans h1.stepW,e⟩⟩
 rintro m a' s' ⟨y,E,l,g,d,rfl⟩ Q;refine round y E s' a' l g b (.inLoop c::kk) cs SS hb ?_;intro e W σ2 s2 a2 q G h2 mf;cases e with
 |normal =>
  obtain⟨z,nz,O,Y,u,f,Xk,σ1,rest,rfl,Z,⟨U,w⟩,A⟩:=q;have H:=h2.drop (by grind);obtain⟨p,i,B⟩:=A _ H;have v:=G.le f;have J:eu s2 (s2.cut σ1.length):=⟨rfl,λ_ _ _ h=>h,λ_ _ _=>rfl,h2.mem,λb hb=>hb.imp id λ⟨L,M,hb⟩=>⟨L,fV M,hb⟩⟩
  refine .ghost J (Q a2 (s2.cut σ1.length) (k z) u ⟨z,Y,⟨v.size,v.defers.imp λ_ h1=>(h1.drop w).mono i.ext,λt=>B _ _ ((v.slot t).drop (nA (by grind)))⟩,p,?_,rfl⟩);exact((d.trans mf).drop (by omega)).trans (i.m9 H)
 |_=>exact ends.cons (λ_ _=>rfl) (by simp) (hQ _ _ _ _ _ q G h2 (d.trans mf))
def AK.Ab{S:Type}{i:Nat}{I:S->Prop}{fr:S->Fr}{st:S->List aP}{a:S->Nat}{x:S}{j:List It}(n:Nat)(y:S){ps qs:List Prop}(o:i<=n)(g:ny φ (fr y)=aa ps)(l:az ps)(f:BY n (fr y)=ab)(h:wJ n σ=ab)(d:oP (σ.take n) (st y)=aa qs)(k:az qs)(b:rX n (σ.take n)=ab)(m:I y)(e:a y<a x):
  AK X N (pq X N Qf j I fr st a i x) [] .normal φ σ :=
 ⟨y,n,o,m,e,cA g l,f,σ.take n,σ.drop n,(lb n σ).symm,by grind[Nat.le_of_ble_eq_true,qh],⟨b,(qh h).2⟩,gT d k⟩
def AK.Ac{S:Type}{d:Nat}{I:S->Prop}{fr:S->Fr}{st:S->List aP}{b:S->Nat}{x:S}{id:Nat}{f a g:List It}(h1:jP id f=ae)(h2:jP id a=aa g)(k:AK X N Qf g .normal φ σ):
  AK X N (pq X N Qf a I fr st b d x) (.code (.exit id)::f) .normal φ σ :=
 AW.mono (AK.leave (A:=λφ' σ'=>pq X N Qf a I fr st b d x .normal φ' σ') h1 h2 k) λe φ' σ' q=>by
  have key:∀(K:List It) e,AK X N (λe φ' σ'=>match e with
    |.normal=>pq X N Qf a I fr st b d x .normal φ' σ'
    |e=>AK X N Qf a e φ' σ') K e φ' σ'->AK X N (pq X N Qf a I fr st b d x) K e φ' σ':=by
   have e:(λe φ' σ'=>match e with
    |.normal=>pq X N Qf a I fr st b d x .normal φ' σ'
    |e=>AK X N Qf a e φ' σ')=pq X N Qf a I fr st b d x:=by funext e φ' σ';cases e<;>rfl
   grind
  exact key _ _ q
end
def kp(φ:Fr)(ks:List Nat):Fr:=ks.map λk=>(k,look φ k)
section
variable {P:aq}{X:Cx P}{N:Nat}{Qf:Post}{K:List It}{φ:Fr}{σ:List aP}{c:Code}
def AK.si{S:Type}(n:Nat)(ks:List Nat)(I:S->Prop)(fr:S->Fr)(st:S->List aP)(d:S->Nat)(x:S){ps qs:List Prop}(b:ny φ (kp φ ks++fr x)=aa ps)(g:az ps)(a:oP σ (st x)=aa qs)(e:az qs)(h:σ.length=n)(f:I x)(round:∀x,I x->AK X N (ln X N Qf K I (λx=>kp φ ks++fr x) st d n x) [.code c] .normal (kp φ ks++fr x) (st x)):AK X N Qf (.code (.loop c)::K) .normal φ σ :=
 .cz n I (λx=>kp φ ks++fr x) st d x b g a e h f round
end
inductive Tr where
 |nil
 |nd (l:Tr) (a b:Int) (r:Tr)
def nb(E:aj):Tr->ah->(Nat->Option Obj)->Prop
 |.nil,v,d=>v=.pointer ae/\∀b,d b=ae
 |.nd l a b r,v,d=>∃x f e cl cr,v=.pointer (aa ⟨x,0,ae⟩)/\(bA .i64 a/\bA .i64 b)/\nb E l f cl/\nb E r e cr/\d x=aa (.cells #[.int .i64 a,.int .i64 b,f,e] E (0,0))/\cl x=ae/\cr x=ae /\
   (∀y o,cl y=aa o->cr y=ae/\d y=aa o)/\(∀y o,cr y=aa o->d y=aa o)/\∀y o,d y=aa o->y=x∨cl y=aa o∨cr y=aa o
def nb.cell{E:aj}{t:Tr}{v:ah}{ch:Nat->Option Obj}(h:nb E t v ch):cE v=ab:=by
 cases t with
 |nil=>rw[h.1];rfl
 |nd=>obtain⟨_,_,_,_,_,rfl,_⟩:=h;rfl
section
variable {σ σ':List aP}{s s':St}
def aF.Gc{T:Nat->Prop}(hh:aF σ s)(i:s'.w=s.w)(m:s'.M=s.M)(q:s'.own=s.own)(j:s'.β.length=σ'.length)(u:σ.length<=σ'.length)(out:∀l,l<σ.length->¬T l->σ'[l]?=σ[l]?/\s'.β[l]?=s.β[l]?)(n:∀(l:Nat) (L':Loc),(T l∨σ.length<=l)->s'.β[l]?=aa L'->∀b∈L'.bs,∃(k:Nat) (L:Loc),T k/\s.β[k]?=aa L/\b∈L.bs)(eB:∀(l l':Nat) (L L':Loc),(T l∨σ.length<=l)->(T l'∨σ.length<=l')->s'.β[l]?=aa L->s'.β[l']?=aa L'->∀b∈L.bs,b∈L'.bs->l=l')(box:∀l B L,T l->σ[l]?=aa B->s.β[l]?=aa L->∃B' L',σ'[l]?=aa B'/\s'.β[l]?=aa L'/\gy B L B' L')(ok:Ext σ s σ' s'->∀l B L,(T l∨σ.length<=l)->σ'[l]?=aa B->s'.β[l]?=aa L->et σ' s' B L):aF σ' s'/\Step σ s σ' s':=by
 have hl:=hh.len;have p:∀(l:Nat) (B:aP) (L:Loc),σ[l]?=aa B->s.β[l]?=aa L->∃B' L',σ'[l]?=aa B'/\s'.β[l]?=aa L'/\gy B L B' L':=λl B L hB hL=>by
  by_cases h:T l
  .grind
  .obtain⟨h1,h2⟩:=out l (bY.1 hB).1 h;exact⟨B,L,h1.trans hB,h2.trans hL,.refl _ _⟩
 have ex:Ext σ s σ' s':=⟨λb o v h=>m▸h,p⟩
 have cls:∀(l:Nat) (L':Loc),s'.β[l]?=aa L'->(T l∨σ.length<=l)∨(l<σ.length/\¬T l/\s.β[l]?=aa L'):=λl L' h=>by grind
 have a:∀(l:Nat) (L':Loc),s'.β[l]?=aa L'->∀b∈L'.bs,∃(k:Nat) (L:Loc),s.β[k]?=aa L/\b∈L.bs:=λl L' h b d=>by grind
 have x:∀(l l':Nat) (L L':Loc),(T l∨σ.length<=l)->¬T l'->s'.β[l]?=aa L->s.β[l']?=aa L'->∀b∈L.bs,b∈L'.bs->False:=λl l' L L' h1 h2 hL ff b d f=>by obtain⟨k,K,g,q2,q3⟩:=n l L h1 hL b d;exact h2 (hh.eB k l' K L' q2 ff b q3 f▸g)
 refine⟨⟨λb o v h=>?_,j,λl B L hB hL=>?_,λl l' L L' hL ff b d f=>?_,λL hL b d=>?_,λb d=>?_⟩,⟨?_,?_,ex.mem,?_,λL' ff b d=>?_,p,?_,?_,?_,q⟩⟩
 .rw[m]at h;rw[i];exact hh.mem b o v h
 .rcases cls l L hL with h1|⟨h1,h2,t⟩
  .grind
  .rw[(out l h1 h2).1]at hB;exact(hh.box l B L hB t).carry ex hl λb _=>⟨by rw[i],λo=>by rw[m]⟩
 .rcases cls l L hL with h1|⟨_,h1,h2⟩<;>rcases cls l' L' ff with y|⟨_,y,r⟩
  .grind
  .grind
  .grind
  .exact hh.eB l l' L L' h2 r b d f
 .obtain⟨l,e,rfl⟩:=dM hL;obtain⟨k,K,g,q2⟩:=a l _ (br e) b d;rw[i];exact hh.lt K (bH g) b q2
 .rw[q]at d;refine⟨i▸(hh.own b d).1,λL hL Nb=>?_⟩;obtain⟨l,e,rfl⟩:=dM hL;obtain⟨k,K,g,q2⟩:=a l _ (br e) b Nb;exact(hh.own b d).2 K (bH g) q2
 .grind
 .grind
 .grind
 .obtain⟨l,e,rfl⟩:=dM ff;obtain⟨k,K,g,q2⟩:=a l _ (br e) b d;grind
 all_goals rw[i]
def aF.Kn(hh:aF σ s){l:Nat}{B B':aP}{L L':Loc}{Bs:List aP}{a:List Loc}(hB:σ[l]?=aa B)(q:s.β[l]?=aa L)(m:gy B L B' L')(e:a.length=Bs.length)(sub:∀M∈L'::a,∀b∈M.bs,b∈L.bs)(p:(L'::a).Pairwise λM N=>∀b∈M.bs,b∉N.bs)(ok:∀s':St,s'.w=s.w->s'.M=s.M->s'.β=s.β.set l L'++a->et (σ.set l B'++Bs) s' B' L'/\∀(i:Nat) (X:aP) (Y:Loc),Bs[i]?=aa X->a[i]?=aa Y->et (σ.set l B'++Bs) s' X Y):
  aF (σ.set l B'++Bs) {s with β:=s.β.set l L'++a}/\Step σ s (σ.set l B'++Bs) {s with β:=s.β.set l L'++a}:=by
 have hl:=hh.len;have d:l<σ.length:=(bY.1 hB).1;have f:=ji.1 p;have at':∀(k:Nat) (K:Loc),(k=l∨σ.length<=k)->(s.β.set l L'++a)[k]?=aa K->(k=l/\K=L')∨(σ.length<=k/\a[k-σ.length]?=aa K):=λk K hk hK=>by grind
 refine aF.Gc (T:=λk=>k=l) hh rfl rfl rfl (by grind) (by simp) (λk hk hkl=>?_) (λk K hk hK y j=>?_) (λk k' K o hk Um hK YM y j h=>?_) (λk X K hk hX hK=>?_) (λex k X K hk hX hK=>?_)
 .grind
 .grind
 .rcases at' k K hk hK with⟨h1,rfl⟩|⟨h1,h2⟩<;>rcases at' k' o Um YM with⟨n,rfl⟩|⟨n,g⟩
  .omega
  .grind
  .grind
  .obtain⟨a1,a2⟩:=bY.1 h2;obtain⟨c1,c2⟩:=bY.1 g;grind[List.pairwise_iff_getElem]
 .grind
 grind
def yF:Tr->Nat->A
 |.nil,_=>.c .hY
 |.nd ..,n=>.ref n
def vr(E:aj):Tr->List aP
 |.nil=>[]
 |.nd l a b r=>[.b8 (nb E (.nd l a b r))]
def IY(bs:List Nat):Tr->ah->(Nat->Option Obj)->List Loc
 |.nil,_,_=>[]
 |.nd ..,v,c=>[⟨v,bs.filter λy=>(c y).isSome⟩]
def Bh:Tr->Nat->List aP->List aP
 |.nil,_,σ=>σ
 |.nd ..,i,σ=>σ.set i .dead
def aF.Ko(hh:aF σ s){E:aj}{l:Nat}{lt rt:Tr}{a b:Int}(hB:σ[l]?=aa (.b8 (nb E (.nd lt a b rt)))):
  ∃s',s'.w=s.w/\(∃x L,s.β[l]?=aa L/\L.v=.pointer (aa ⟨x,0,ae⟩)/\s'.β[l]?=aa ⟨L.v,[x]⟩)/\aF (σ.set l (.cells E [.c (.int .i64 a),.c (.int .i64 b),yF lt σ.length,yF rt (σ.length+(vr E lt).length)])++(vr E lt++vr E rt)) s' /\
   Step σ s (σ.set l (.cells E [.c (.int .i64 a),.c (.int .i64 b),yF lt σ.length,yF rt (σ.length+(vr E lt).length)])++(vr E lt++vr E rt)) s':=by
 have t:l<σ.length:=(bY.1 hB).1;have g:l<s.β.length:=by rw[hh.len];grind
 have q:=br g;generalize s.β[l]=L at q;obtain⟨ch,⟨x,m,j,cl,p,e1,⟨C,D⟩,h1,h2,h3,h4,S,G,Z,T⟩,O,e,V⟩:=hh.box l _ L hB q;have u:=hh.len;have Q:x∈L.bs:=(e x).2 (by grind);refine⟨{s with β:=s.β.set l ⟨.pointer (aa ⟨x,0,ae⟩),[x]⟩++(IY L.bs lt m cl++IY L.bs rt j p)},rfl,⟨x,L,q,e1,?_⟩,hh.Kn hB q (show _=_ from e1.symm) ?_ ?_ ?_ λs' U d f=>?_⟩
 .grind
 .cases lt<;>cases rt<;>rfl
 .intro M d y n;rcases eE.1 d with rfl|d
  .grind
  .rcases fX.1 d with d|d
   .cases lt with
    |nil=>cases d
    |nd=>rw[IY,fW]at d;grind
   .cases rt with
    |nil=>cases d
    |nd=>rw[IY,fW]at d;grind
 .refine ji.2 ⟨λM d y n R=>?_,?_⟩
  .rw[fW]at n;subst n;rcases fX.1 d with d|d
   .cases lt with
    |nil=>cases d
    |nd=>rw[IY,fW]at d;grind
   .cases rt with
    |nil=>cases d
    |nd=>rw[IY,fW]at d;grind
  .cases lt<;>cases rt<;>simp only[IY,mm,iO,rJ,ji,List.Pairwise.nil,fW,forall_eq,n5,false_implies,implies_true,aE]
   grind[Option.isSome_iff_exists]
 .have F:∀y o,cl y=aa o->ch y=aa o:=λy o h=>(G y o h).2;have W:et (σ.set l (.cells E [.c (.int .i64 a),.c (.int .i64 b),yF lt σ.length,yF rt (σ.length+(vr E lt).length)])++(vr E lt++vr E rt)) s' (.b8 (nb E lt)) ⟨m,L.bs.filter λy=>(cl y).isSome⟩ :=
   ⟨cl,h1,λy o h=>by grind,λy=>⟨λh=>(lf.1 h).2,λh=>lf.2 ⟨(e y).2 (by grind[Option.isSome_iff_exists]),h⟩⟩,λy n o=>by rw[d];grind⟩
  have b2:et (σ.set l (.cells E [.c (.int .i64 a),.c (.int .i64 b),yF lt σ.length,yF rt (σ.length+(vr E lt).length)])++(vr E lt++vr E rt)) s' (.b8 (nb E rt)) ⟨j,L.bs.filter λy=>(p y).isSome⟩ :=
   ⟨p,h2,λy o h=>by grind,λy=>⟨λh=>(lf.1 h).2,λh=>lf.2 ⟨(e y).2 (by grind[Option.isSome_iff_exists]),h⟩⟩,λy n o=>by rw[d];grind⟩
  have c1:=h1.cell;have c2:=h2.cell;have H:s'.w.heap[x]?=aa (.cells (List.toArray [.int .i64 a,.int .i64 b,m,j]) E (0,0)):=by grind
  have J:∀o,s'.M x o=ae:=λo=>by rw[d];grind
  have r:∀k,(s.β.set l ⟨.pointer (aa ⟨x,0,ae⟩),[x]⟩++(IY L.bs lt m cl++IY L.bs rt j p))[σ.length+k]?=(IY L.bs lt m cl++IY L.bs rt j p)[k]?:=λk=>by grind
  have e2:∀k,(σ.set l (.cells E [.c (.int .i64 a),.c (.int .i64 b),yF lt σ.length,yF rt (σ.length+(vr E lt).length)])++(vr E lt++vr E rt))[σ.length+k]?=(vr E lt++vr E rt)[k]?:=λk=>by grind
  refine⟨⟨x,_,rfl,H,⟨Rd.int C,Rd.int D,?_,?_,ay⟩,J⟩,?_⟩
  .cases lt with
   |nil=>rw[h1.1];exact Rd.hY
   |nd=>exact⟨λB hB=>by have A:=(e2 0).symm.trans hB;cases A;rfl,_,by rw[f];exact r 0,rfl,c1⟩
  .cases rt with
   |nil=>rw[h2.1];exact Rd.hY
   |nd =>
    cases lt with
    |nil=>exact⟨λB hB=>by rw[e2]at hB;cases hB;rfl,_,by rw[f];exact r 0,rfl,c2⟩
    |nd=>exact⟨λB hB=>by rw[e2]at hB;cases hB;rfl,_,by rw[f];exact r 1,rfl,c2⟩
  .intro i X Y z I;cases lt<;>cases rt<;>simp only[vr,IY,mm,iO,rJ,List.getElem?_nil]at z I
   .cases z
   .grind
   .grind
   grind
def yG(d:aF σ s){E:aj}{t:Tr}{i:Nat}{v:ah}(r:gn σ s v (yF t i))(hi:t≠.nil->σ[i]?=aa (.b8 (nb E t))):
  ∃c bs,nb E t v c/\(∀y o,c y=aa o->s.w.heap[y]?=aa o)/\(∀y,y∈bs↔(c y).isSome=ab)/\(∀y∈bs,∀o,s.M y o=ae)/\(match t with|.nil=>bs=[]|.nd ..=>s.β[i]?=aa ⟨v,bs⟩):=by
 cases t with
 |nil =>
  have r:Rd s.M v .hY:=r;cases r;exact⟨λ_=>ae,[],⟨rfl,λ_=>rfl⟩,by simp,by simp,by simp,rfl⟩
 |nd =>
  obtain⟨_,L,a,rfl,_⟩:=r;obtain⟨c,e,f,q2,b⟩:=d.box i _ L (hi nofun) a;exact⟨c,L.bs,e,f,q2,b,a⟩
def RY:Tr->Nat->ah->List Loc->List Loc
 |.nil,_,_,a=>a
 |.nd ..,i,v,a=>a.set i ⟨v,[]⟩
def aF.jo(hh:aF σ s){E:aj}{l i j:Nat}{lt rt:Tr}{a b:Int}(hB:σ[l]?=aa (.cells E [.c (.int .i64 a),.c (.int .i64 b),yF lt i,yF rt j]))(hi:lt≠.nil->σ[i]?=aa (.b8 (nb E lt)))(hj:rt≠.nil->σ[j]?=aa (.b8 (nb E rt)))(H:lt≠.nil->rt≠.nil->i≠j):
  ∃s',s'.w=s.w/\(∃L,s.β[l]?=aa L/\∃L',s'.β[l]?=aa L'/\L'.v=L.v)/\aF (Bh rt j (Bh lt i (σ.set l (.b8 (nb E (.nd lt a b rt)))))) s'/\Step σ s (Bh rt j (Bh lt i (σ.set l (.b8 (nb E (.nd lt a b rt)))))) s':=by
 have O:l<σ.length:=(bY.1 hB).1;have Q:=hh.len;have u:l<s.β.length:=by omega
 have A:=br u;generalize s.β[l]=L at A;obtain⟨x,vs,rfl,h1,h2,h3⟩:=hh.box l _ L hB A
 match vs,h2 with
 |[u1,Z,q,p],⟨I,J,V,R,_⟩ =>
 obtain⟨cl,g,a1,a2,a3,a4,a5⟩:=yG hh V hi;obtain⟨r,m,d1,d2,d3,d4,d5⟩:=yG hh R hj;have I:Rd s.M u1 (.int .i64 a):=I;have J:Rd s.M Z (.int .i64 b):=J;cases I with|int ra =>
 cases J with|int rb =>
 have xl:x∉g:=λh=>by
  cases lt with
  |nil=>grind
  |nd=>have:=hh.eB l i _ _ A a5 x (by simp) h;grind
 have xr:x∉m:=λh=>by
  cases rt with
  |nil=>grind
  |nd=>have:=hh.eB l j _ _ A d5 x (by simp) h;grind
 have lr:∀y∈g,y∉m:=λy h Y=>by
  cases lt with
  |nil=>grind
  |nd =>
   cases rt with
   |nil=>grind
   |nd=>exact H nofun nofun (hh.eB i j _ _ a5 d5 y h Y)
 have D:cl x=ae:=by cases h:cl x with|none=>rfl|some o=>grind
 have z:r x=ae:=by cases h:r x with|none=>rfl|some o=>grind
 have G:∀y o,cl y=aa o->r y=ae:=λy o h=>by
  cases h2:r y with
  |none=>rfl
  |some o2=>grind
 have ok:∀(σ':List aP) (s':St),s'.w=s.w->s'.M=s.M->et σ' s' (.b8 (nb E (.nd lt a b rt))) ⟨.pointer (aa ⟨x,0,ae⟩),x::(g++m)⟩:=λσ' s' S U=>by
  refine⟨λy=>if y=x then aa (.cells #[.int .i64 a,.int .i64 b,q,p] E (0,0))else(cl y).or (r y),⟨x,q,p,cl,r,rfl,⟨ra,rb⟩,a1,d1,bm rfl,D,z,λy o h=>⟨G y o h,?_⟩,λy o h=>?_,λy o h=>?_⟩,λy o h=>?_,λy=>?_,λy f o=>?_⟩
  .grind
  .have:y≠x:=by grind
   dsimp only;rw[aZ this,h];cases h2:cl y with
   |none=>rfl
   |some o2=>grind
  .by_cases e:y=x
   .grind
   .dsimp only at h;rw[aZ e]at h;cases h2:cl y with
    |none=>grind
    |some o2=>grind
  .rw[S];by_cases e:y=x
   .grind
   .dsimp only at h;rw[aZ e]at h;cases h2:cl y with
    |none=>grind
    |some o2=>grind
  .grind
  .rw[U];grind
 refine⟨{s with β:=RY rt j p (RY lt i q (s.β.set l ⟨.pointer (aa ⟨x,0,ae⟩),x::(g++m)⟩))},rfl,?_⟩
 classical
 have il:lt≠.nil->i<σ.length/\i≠l:=λh=>⟨(bY.1 (hi h)).1,λe=>by grind⟩
 have jl:rt≠.nil->j<σ.length/\j≠l:=λh=>⟨(bY.1 (hj h)).1,λe=>by grind⟩
 have n:s.β[l]?=aa ⟨.pointer (aa ⟨x,0,ae⟩),[x]⟩:=A;let T:Nat->Prop:=λk=>k=l∨(lt≠.nil/\k=i)∨(rt≠.nil/\k=j);have C:∀k,(Bh rt j (Bh lt i (σ.set l (.b8 (nb E (.nd lt a b rt))))))[k]?=if k=l then aa (.b8 (nb E (.nd lt a b rt)))else if(lt≠.nil/\k=i)∨(rt≠.nil/\k=j)then aa .dead else σ[k]?:=λk=>by cases lt<;>cases rt<;>simp only[Bh,List.getElem?_set,List.length_set]<;>grind
 have d:∀k,(RY rt j p (RY lt i q (s.β.set l ⟨.pointer (aa ⟨x,0,ae⟩),x::(g++m)⟩)))[k]?=if k=l then aa ⟨.pointer (aa ⟨x,0,ae⟩),x::(g++m)⟩else if rt≠.nil/\k=j then aa ⟨p,[]⟩else if lt≠.nil/\k=i then aa ⟨q,[]⟩else s.β[k]?:=λk=>by cases lt<;>cases rt<;>simp only[RY,List.getElem?_set,List.length_set]<;>grind
 have mX:∀(t:Tr) (i:Nat) (l:List aP),(Bh t i l).length=l.length:=λt i l=>by cases t<;>simp[Bh]
 have wX:∀(t:Tr) (i:Nat) (v:ah) (l:List Loc),(RY t i v l).length=l.length:=λt i v l=>by cases t<;>simp[RY]
 have eL:∀y∈g,lt≠.nil/\s.β[i]?=aa ⟨q,g⟩:=λy f=>by grind
 have eR:∀y∈m,rt≠.nil/\s.β[j]?=aa ⟨p,m⟩:=λy f=>by grind
 refine⟨⟨_,n,_,(d l).trans (bm rfl),rfl⟩,aF.Gc (T:=T) hh rfl rfl rfl (by grind) (by grind) (λk hk hT=>?_) (λk K hk hK y f=>?_) (λk k' K K' hk Um hK YM y f W=>?_) (λk B K hk j0 hK=>?_) (λ_ k B K hk j0 hK=>?_)⟩
 .grind
 .rw[d]at hK;split at hK
  .cases hK;rcases eE.1 f with rfl|f
   .grind
   .rcases fX.1 f with f|f
    .grind
    grind
  .have:k<s.β.length∨s.β.length<=k:=cD _ _;grind
 .rw[d]at hK YM;grind
 .rw[C,d];rcases hk with rfl|⟨h,rfl⟩|⟨h,rfl⟩
  .rw[n]at hK;cases hK;rw[hB]at j0;cases j0;exact⟨_,_,bm rfl,bm rfl,rfl⟩
  .have F:s.β[k]?=aa ⟨q,g⟩:=by grind
   rw[hi h]at j0;rw[F]at hK;cases j0;cases hK;grind[gy]
  .have F:s.β[k]?=aa ⟨p,m⟩:=by grind
   rw[hj h]at j0;rw[F]at hK;cases j0;cases hK;grind[gy]
 .rw[C]at j0;rw[d]at hK;split at j0
  .grind
  .split at j0
   .cases j0;trivial
   grind
def tC:Tr->C
 |.nil=>.hY
 |.nd l a b r=>.rp [.int .i64 a,.int .i64 b,tC l,tC r]
def nb.rd{E:aj}{M:Mem}:∀{t:Tr}{v:ah}{ch:Nat->Option Obj},nb E t v ch->(∀y vs E' z,ch y=aa (.cells vs E' z)->∀o u,vs[o]?=aa u->M y o=aa u)->Rd M v (tC t)
 |.nil,_,_,h,_=>by rw[h.1];exact .hY
 |.nd l a b r,_,ch,⟨x,m,g,cl,A,e,⟨k,i⟩,h1,h2,p,_,_,f,n,_⟩,d=>by
  subst e;have B:=h1.rd (M:=M) λy vs E' z h=>d y vs E' z (f y _ h).2;have w:=h2.rd (M:=M) λy vs E' z h=>d y vs E' z (n y _ h);have q:=d x _ _ _ p;refine Rd.rp x 0 (λj=>[Value.int .i64 a,.int .i64 b,m,g].getD j ai) (λj c hj=>?_) (λj c hj=>?_)
  .match j,hj with
   |0,_|1,_|2,_|3,_=>grind
  .match j,hj with
   |0,hj=>cases hj;exact Rd.int k
   |1,hj=>cases hj;exact Rd.int i
   |2,hj=>grind
   |3,hj=>grind
def aF.Aj(hh:aF σ s){E:aj}{l:Nat}{t:Tr}(hB:σ[l]?=aa (.b8 (nb E t))):
  ∃s',s'.w=s.w/\s'.β=s.β/\(∀L,s.β[l]?=aa L->Rd s'.M L.v (tC t))/\aF (σ.set l .dead) s'/\Step σ s (σ.set l .dead) s':=by
 have j:l<σ.length:=(bY.1 hB).1;have m:=hh.len;have i:=br (show l<s.β.length by omega);generalize s.β[l]=L at i;obtain⟨ch,r,h1,h2,D⟩:=hh.box l _ L hB i;let M':Mem:=λy o=>match ch y with|some (.cells vs _ _)=>vs[o]?|_=>s.M y o
 have f:∀y,y∉L.bs->∀o,M' y o=s.M y o:=λy g o=>by grind
 have n:∀y o v,s.M y o=aa v->M' y o=aa v:=λy o v d=>by grind
 have st:Step σ s (σ.set l .dead) {s with M:=M'}:=by
  refine⟨bh _,λ_ _ _=>rfl,n,λy _ A o=>f y (A L (bH i)) o,λK b y g=>.inr ⟨K,b,g⟩,λk B K a b=>?_,rfl,rfl,rfl,rfl⟩;by_cases e:l=k
  .subst e;rw[hB]at a;cases a;exact⟨.dead,K,by grind,b,rfl⟩
  .exact⟨B,K,by grind,b,.refl _ _⟩
 refine⟨{s with M:=M'},rfl,rfl,λK b=>?_,⟨λy o v d=>?_,by grind,λk B K a b=>?_,hh.eB,hh.lt,hh.own⟩,st⟩
 .rw[i]at b;cases b;exact r.rd λy vs E' z g o u C=>by grind
 .by_cases g:y∈L.bs
  .have d:M' y o=aa v:=d;cases p:ch y with
   |none=>grind
   |some q =>
    have x:=h1 y q p;simp only[M',p]at d;split at d
    .rename_i vs E' z e;cases e;show s.w.cell? _=_;simp[aV,x,d]
    grind
  .exact hh.mem y o v ((f y g o).symm.trans d)
 .by_cases e:l=k
  .subst e;rw[fU j]at a;cases a;trivial
  .rw[j6 e]at a;exact(hh.box k B K a b).carry st.ext m λy g=>⟨rfl,λo=>f y (λh=>e (hh.eB l k L K i b y h g)) o⟩
end
section
variable {P:aq}{X:Cx P}{N:Nat}{φ:Fr}{σ:List aP}{Qf:Post}{K:List It}{c:Code}
def cm.RZ{σ':List aP}{s s':St}{a:Act}{t:Nat}{d:D}(f:cm N σ s φ a)(hl:s.β.length=σ.length)(st:Step σ s σ' s')(h:dj σ' s' (a.tmps.getD t ai) d):cm N σ' s' ((t,d)::φ) a :=
 ⟨f.size,f.defers.imp λ_ h1=>h1.mono st.ext,λu=>by
  simp only[look];cases b:aB t u with
  |false=>exact(f.slot u).mono st.ext hl
  |true=>grind[Nat.eq_of_beq_eq_true]⟩
def AK.Ko(t l:Nat){E:aj}{lt rt:Tr}{a b:Int}(o:look φ t=.e (.one (.ref l)))(hl:dt l σ=aa (.b8 (nb E (.nd lt a b rt))))(kk:AK X N Qf (.code c::K) .normal ((t,.e (.one (.ptr l 0)))::φ) (σ.set l (.cells E [.c (.int .i64 a),.c (.int .i64 b),yF lt σ.length,yF rt (σ.length+(vr E lt).length)])++(vr E lt++vr E rt))):AK X N Qf (.code c::K) .normal φ σ:=by refine AK.ghost (λs q g hh=>?_) kk;have h:=g.slot t;rw[o]at h;obtain⟨_,L,n,m,_⟩:=h;obtain⟨s',h1,⟨x,p,h2,i,k⟩,j,f⟩:=hh.Ko (b5 hl);rw[n]at h2;cases h2;have d:l<σ.length:=(bY.1 (b5 hl)).1;refine⟨s',h1,g.RZ hh.len f ⟨λB hB=>?_,_,x,k,i,m.trans i⟩,j,f⟩;rw[jy (by grind),fU d]at hB;cases hB;rfl
def AK.jo(t l i j:Nat){E:aj}{lt rt:Tr}{a b:Int}(y:look φ t=.e (.one (.ptr l 0)))(hl:dt l σ=aa (.cells E [.c (.int .i64 a),.c (.int .i64 b),yF lt i,yF rt j]))(hi:lt≠.nil->dt i σ=aa (.b8 (nb E lt)))(hj:rt≠.nil->dt j σ=aa (.b8 (nb E rt)))(g:lt≠.nil->rt≠.nil->i≠j)(kk:AK X N Qf (.code c::K) .normal ((t,.e (.one (.ref l)))::φ) (Bh rt j (Bh lt i (σ.set l (.b8 (nb E (.nd lt a b rt))))))):AK X N Qf (.code c::K) .normal φ σ:=by
 refine AK.ghost (λs q n hh=>?_) kk;have o:=n.slot t;rw[y]at o;obtain⟨_,L,x,w,C,r⟩:=o;obtain⟨s',h1,⟨D,h2,L',z,A⟩,p,m⟩:=hh.jo (b5 hl) (λh=>b5 (hi h)) (λh=>b5 (hj h)) g;rw[w]at h2;cases h2;have f:l<σ.length:=(bY.1 (b5 hl)).1;have e:(Bh rt j (Bh lt i (σ.set l (.b8 (nb E (.nd lt a b rt))))))[l]?=aa (.b8 (nb E (.nd lt a b rt)))∨(Bh rt j (Bh lt i (σ.set l (.b8 (nb E (.nd lt a b rt))))))[l]?=aa .dead:=by
  have v:(σ.set l (.b8 (nb E (.nd lt a b rt))))[l]?=aa (.b8 (nb E (.nd lt a b rt))):=fU f;have F:∀(u:Tr) (k:Nat) (d:List aP),d[l]?=aa (.b8 (nb E (.nd lt a b rt)))∨d[l]?=aa .dead->(Bh u k d)[l]?=aa (.b8 (nb E (.nd lt a b rt)))∨(Bh u k d)[l]?=aa .dead:=λu k d h=>by
   cases u with
   |nil=>exact h
   |nd=>simp only[Bh,List.getElem?_set];grind
  grind
 refine⟨s',h1,n.RZ hh.len m ⟨λB hB=>?_,L',z,?_,?_⟩,p,m⟩
 .rcases e with e|e<;>(rw[e]at hB;cases hB;rfl)
 .grind
 .rw[r];rfl
def AK.Aj(t l:Nat){E:aj}{u:Tr}(i:look φ t=.e (.one (.ref l)))(hl:dt l σ=aa (.b8 (nb E u)))(kk:AK X N Qf (.code c::K) .normal ((t,.e (.one (.c (tC u))))::φ) (dH.qw l .dead σ)):AK X N Qf (.code c::K) .normal φ σ:=by rw[jc]at kk;refine AK.ghost (λs q b hh=>?_) kk;have d:=b.slot t;rw[i]at d;obtain⟨_,L,h,g,_⟩:=d;obtain⟨s',h1,_,j,f,a⟩:=hh.Aj (b5 hl);exact⟨s',h1,b.RZ hh.len a (show Rd _ _ _ from g▸j L h),f,a⟩
end
section
variable {P:aq}{X:Cx P}
def Yields.tn{ι:Type}{e:Nat}{ds:List D}{σ:List aP}{res:Bool}{σ1 rest:ι->List aP}(h:Yields X e ds σ res λi=>σ1 i++rest i)(hl:∀i,(σ1 i).length=σ.length)(f:∀i (l:Nat)(B:aP),(σ1 i)[l]?=aa B->DQ (σ1 i).length σ l B):Yields X e ds σ res σ1:=by
 intro s vs l g hh Ds;obtain⟨fn,tmps,a,b,h1,h2,m⟩:=h s vs l g hh Ds;refine⟨fn,tmps,a,b,h1,h2,λS c cs hS=>m S c cs λi s' iX st=>?_⟩;have j:eu s' (s'.cut (σ1 i).length):=⟨rfl,λ_ _ _ h=>h,λ_ _ _=>rfl,iX.mem,λb d=>d.imp id λ⟨L,k,d⟩=>⟨L,fV k,d⟩⟩
 exact .ghost j (hS i _ (hh.PS (hl i).symm (f i) iX) (st.drop (Nat.le_of_eq (hl i).symm)))
end
section
variable {P:aq}{X:Cx P}{N:Nat}{φ:Fr}{σ:List aP}{Qf:Post}{K:List It}{all rest:List au}
def AK.vn(t l:Nat){E:aj}{cs:List A}{cc:List C}(a:look φ t=.e (.one (.ptr l 0)))(hl:dt l σ=aa (.cells E cs))(b:gC cs=aa cc)(kk:AK X N Qf (.ops all rest::K) .normal ((t,.e (.one (.c (.rp cc))))::φ) (dH.qw l .dead σ)):AK X N Qf (.ops all rest::K) .normal φ σ:=by grind[jc,AK.J2,cm.freeze]
def og.cons{φ φ':Fr}{t:Nat}{d:D}(h:look φ t=d)(r:og φ φ'):og φ ((t,d)::φ'):=by
 intro σ s v u a;simp only[look];cases b:aB t u with
 |false=>exact r _ _ _ _ a
 |true =>
  grind[Nat.eq_of_beq_eq_true]
end
section
variable {P:aq}{T:List (Nat×TI)}{o:au}{d:ak->D}{σ:List aP}
def bF.N8(hT:cN P T){t:aj}{x w y z:ak}(h:o.op=.slice t x (aa w) (aa y) (aa z)){L B:TI}{E:aj}(J:bD T t=aa L)(X:L.desc=.slice E)(hE:bD T E=aa B){tt:Bool}{n:Nat}{es:Nat->List C}{A p u:IntKind}{i j m:Int}(V:∀s v,dj σ s v (d x)->Rd s.M v (.sl tt B.size n es))(U:d w=.e (.one (.c (.int A i))))(W:d y=.e (.one (.c (.int p j))))(hz:d z=.e (.one (.c (.int u m))))(O:0<=i)(Z:i<=j)(h1:j<=m)(h2:m<=n):
  bF P o d σ (.e (.one (.c (.sl af B.size (j.toNat-i.toNat) (lZ i.toNat es))))) σ:=by
 refine .quiet λst ρ hh hr=>?_;have r:=V st _ (hr x);have get:∀(q:ak) (k:IntKind) (v:Int),d q=.e (.one (.c (.int k v)))->ρ q=.int k v:=λq k v I=>by have l:=hr q;rw[I]at l;replace l:=eT l;generalize ρ q=vq at l;cases l;rfl
 have G:=get w A i U;have F:=get y p j W;have H:=get z u m hz;obtain⟨a,cap,vs,K,R,S,ht,hF,hm⟩:=r.flat;rw[K]at r;have g:=(hT t L J).run_underlying (w:=st.w);rw[X]at g;have em:((m.toNat:Nat):Int)=m:=rF (by omega);have ej:((j.toNat:Nat):Int)=j:=rF (by omega);have Q:(bc ab n cap (aa (.int A i)) (aa (.int p j)) (aa (.int u m))).run P st.w=.ok (i.toNat,j.toNat,m.toNat) st.w:=by simp[bc,run_sliceBound (P:=P) st.w u m cap _ (by omega) (by omega),run_sliceBound (P:=P) st.w p j m.toNat _ (by omega) (by omega),run_sliceBound (P:=P) st.w A i j.toNat _ O (by omega)]
 have Y:(bc ab n cap (aa (.int A i)) (aa (.int p j)) (aa (.int u m))).events P st.w #[]=#[]:=by simp[bc,run_sliceBound (P:=P) st.w u m cap _ (by omega) (by omega),run_sliceBound (P:=P) st.w p j m.toNat _ (by omega) (by omega),dF (P:=P) st.w u m cap _ (by omega) (by omega),dF (P:=P) st.w p j m.toNat _ (by omega) (by omega),dF (P:=P) st.w A i j.toNat _ O (by omega)]
 refine⟨.slice (if m.toNat=i.toNat then a else a.map (·.add (i.toNat*B.size))) (j.toNat-i.toNat) (m.toNat-i.toNat),?_,?_,by simp[aw,h,K,G,F,H,Instr.sliceAt,g,Instr.slice,Q,Y]⟩
 .simp[aw,h,K,G,F,H,Instr.sliceAt,g,Instr.slice,Q,(hT E B hE).run_sizeOf]
 .cases r with
  |sl b off f _ _ _ hk ha hm' MW =>
   refine Rd.sl b (off+i.toNat*B.size) (λq j=>f (i.toNat+q) j) (by omega) (by omega) (by simp) (λq I=>hk _ (by omega)) (λN=>?_) (λq I j c hj=>?_) (λq I j c hj=>MW _ (by omega) j c hj)
   .rw[aZ (by omega),ha (by omega)];simp[dk]
   .have:=hm' (i.toNat+q) (by omega) j c hj;grind
end
section
variable {P:aq}{X:Cx P}{N:Nat}{Q:Post}{φ:Fr}{σ:List aP}{e:Exit}
def M3(N:Nat)(Q:Post):Post:=λe φ σ=>∃φ' σ',(∀s a,cm N σ s φ a->aF σ s->∃s':St,s'.w=s.w/\cm N σ' s' φ' a/\aF σ' s'/\Step σ s σ' s')/\Q e φ' σ'
theorem M3.of(h:Q e φ σ):M3 N Q e φ σ:=⟨φ,σ,λs a b hh=>⟨s,rfl,b,hh,.refl _ _⟩,h⟩
def M3.step{φ':Fr}{σ':List aP}(h:∀s a,cm N σ s φ a->aF σ s->∃s':St,s'.w=s.w/\cm N σ' s' φ' a/\aF σ' s'/\Step σ s σ' s')(k:M3 N Q e φ' σ'):M3 N Q e φ σ:=by obtain⟨d,σ2,h2,q⟩:=k;refine⟨d,σ2,λs a j hh=>?_,q⟩;obtain⟨f,e1,i,h1,c⟩:=h s a j hh;obtain⟨g,e3,l,m,b⟩:=h2 f a i h1;exact⟨g,e3.trans e1,l,m,c.trans b⟩
theorem M3.freeze(t l:Nat){E:aj}{cs:List A}{cc:List C}(d:look φ t=.e (.one (.ptr l 0)))(hl:dt l σ=aa (.cells E cs))(f:gC cs=aa cc)(k:M3 N Q e ((t,.e (.one (.c (.rp cc))))::φ) (dH.qw l .dead σ)):M3 N Q e φ σ:=by rw[jc]at k;exact .step (λs a b hh=>cm.freeze t l d hl f b hh) k
def kT.gh{c:Code}(h:kT X N c (M3 N Q) φ σ):kT X N c Q φ σ:=by
 intro s a r hh b k cs S n i m;refine h s a r hh b k cs S n i λe u σ2 s2 a2 q t h2 mf=>?_;obtain⟨φ',σ',p,q⟩:=q;obtain⟨s',o,j,d,st⟩:=p s2 a2 t h2;have f:=st.m9 h2;have g:=m e φ' σ' s' a2 q j d (mf.trans f);have l:eu s2 s':=.of h2 d o f;cases e<;>first
  |exact g.elim
  |exact .ghost l g
  |exactλpre=>.ghost l (g pre)
  |exactλpre hp=>.ghost l (g pre hp)
def kT.norm{c:Code}(φ':Fr)(σ':List aP){ps qs:List Prop}(h1:ny φ φ'=aa ps)(j:az ps)(h2:oP σ σ'=aa qs)(i:az qs)(k:kT X N c Q φ' σ'):kT X N c Q φ σ:=by intro s a m hh b kk cs S l f h;have d:=gT h2 i;have st:=(d s hh).2.1;exact k s a ((m.le (cA h1 j)).bs d hh) (d s hh).1 b kk cs S l f λe g σ2 s2 a2 q n h2 mf=>h e g σ2 s2 a2 q n h2 ((st.m9 hh).trans mf)
def kT.D2{ι:Type}{f:ak}{ps:Array Tmp}{assign body:Code}{F:aJ}{capD:List D}{res:ι->D}{σ':ι->List aP}(c:∀s a,cm N σ s φ a->aF σ s->∃b:List ah,a.eval f=.func (.func F) #[] b.toArray/\cg σ s b capD)(d:eb X F (.e (.one (.ref σ.length))::capD) (σ++[.loop N φ {state:=.ready,pending:=ae,fn:=0,tmps:=#[],params:=ps,assign:=assign,body:=body,defers:=0}]) res σ')(hk:∀i,∃r',(σ' i)[σ.length]?=aa (.loop N φ r')/\r'.state≠.busy/\∃e,FX r'.pending=aa e/\Q e φ ((σ' i).set σ.length .dead++[.qP])):kT X N (.rangeFunc f ps assign body) Q φ σ :=
 kT.rangeFunc (r':=λi=>(hk i).choose) c d (λi=>⟨(hk i).choose_spec.1,(hk i).choose_spec.2.1⟩) λi=>(hk i).choose_spec.2.2
def eb.NX{ι:Type}{f:aJ}{fn:Func}{c:Code}{args:List D}{σ':ι->List aP}{res:ι->D}(m:P.funcs[f]?=aa fn)(d:(fn.name== "runtime.NumGoroutine")=af)(l:fn.body=aa c)(g:bu args.length fn.ntmps=ab)(h:kT X fn.ntmps c (M3 fn.ntmps λe φ σ1=>∃j,qR P fn σ.length (res j) (σ' j) e φ σ1) (iY 0 args) σ):eb X f args σ res σ' :=
 eb.D3 m d l (cV g) λs a f i b k cs S hk UQ hQ=>kT.gh h s a f i b k cs S hk UQ hQ
def qR.cells{T:List (Nat×TI)}(hT:cN P T){fn:Func}{a:Nat}{res:D}{σ':List aP}(ks:List Nat){ps:List Prop}(h:He T fn.results.toList ks φ res=aa ps)(c:az ps)(d:jJ ks σ=aa σ')(b:kn σ'=ab)(f:dw ks=ab)(hk:∀j,j<a->ks[j]?=aa j):qR P fn a res σ' .ret φ σ:=by refine⟨.inl rfl,ks,?_⟩;unfold He at h;grind[zG.Uo]
end
def Xc:A->Option ah
 |.c (.val v)=>aa v
 |_=>ae
def UB:List A->Option (List ah)
 |[]=>aa []
 |a::r=>match Xc a with
  |some v=>match UB r with
   |some q=>aa (v::q)
   |none=>ae
  |none=>ae
def Xd:D->Option ah
 |.e (.one a)=>Xc a
 |.e (.agg cs)=>match UB cs with
  |some l=>aa (.agg l.toArray)
  |none=>ae
 |_=>ae
def Hj:List D->Option (List ah)
 |[]=>aa []
 |a::r=>match Xd a with
  |some v=>match Hj r with
   |some q=>aa (v::q)
   |none=>ae
  |none=>ae
section
variable {P:aq}{X:Cx P}{N:Nat}{Qf:Post}{K:List It}{φ:Fr}{σ:List aP}{all rest:List au}{o:au}{s:St}
def JE{v u:ah}:∀{a:A},gn σ s v a->Xc a=aa u->v=u
 |.c (.val x),h,e=>by cases e;exact Rd.dZ h
theorem JF:∀{cs:List A}{vs us:List ah},dX σ s vs cs->UB cs=aa us->vs=us
 |[],[],us,_,e=>by cases e;rfl
 |[],_::_,_,h,_=>h.elim
 |_::_,[],_,h,_=>h.elim
 |a::r,v::vs,us,h,e=>by
  simp only[UB]at e;cases c:Xc a with
  |none=>grind
  |some x =>
   cases b:UB r with
   |none=>grind
   |some q =>
    simp[c,b]at e;subst e;rw[JE h.1 c,JF h.2 b]
def Rq{v u:ah}:∀{d:D},dj σ s v d->Xd d=aa u->v=u
 |.e (.one a),h,e=>JE h e
 |.e (.agg cs),⟨vs,b,h⟩,e=>by simp only[Xd]at e;grind[JF]
def zV:∀{ds:List D}{vs us:List ah},cg σ s vs ds->Hj ds=aa us->vs=us
 |[],[],us,_,e=>by cases e;rfl
 |[],_::_,_,h,_=>h.elim
 |_::_,[],_,h,_=>h.elim
 |a::r,v::vs,us,h,e=>by
  simp only[Hj]at e;cases c:Xd a with
  |none=>grind
  |some x =>
   cases b:Hj r with
   |none=>grind
   |some q =>
    simp[c,b]at e;subst e;rw[Rq h.1 c,zV h.2 b]
def gb(P:aq)(N:Nat)(o:au)(φ:Fr)(σ:List aP)(f:aJ)(args:List ah):Prop:=∀s a,cm N σ s φ a->∀w,(aw a.eval o).run P w=(callFunc f args.toArray).run P w/\(aw a.eval o).events P w #[]=(callFunc f args.toArray).events P w #[]
def gb.direct{f:aJ}{xs:Array ak}{b:Array aj}{args:List ah}(h:o.op=.call {callee:=.value (.func f),args:=xs,argTypes:=b})(c:Hj (xs.toList.map (bM φ))=aa args):gb P N o φ σ f args:=by
 intro s a g w;have h1:=zV (lJ (cX g) xs.toList) c;have h2:xs.map a.eval=args.toArray:=by grind
 have d:a.eval (.func f)=.func (.func f) #[] #[]:=rfl;have e:aw a.eval o=callFunc f args.toArray:=by simp[aw,h,resolve,d,Deferred.ofValue,invoke,h2]
 grind
def gb.invoke{f:aJ}{x:ak}{i:Array ak}{j:Array aj}{name:String}{k:aj}{u r:ah}{args:List ah}(p:o.op=.call {callee:=.invoke x name,args:=i,argTypes:=j})(m:bM φ x=.e (.one (.c (.val (.iface k u)))))(n:Hj (i.toList.map (bM φ))=aa args)(h:∀w,(Go.method (P.types.size+Made.depth) k u name).run P w=.ok (f,r) w/\∀es,(Go.method (P.types.size+Made.depth) k u name).events P w es=es):gb P N o φ σ f (r::args):=by
 intro s a l w;have g:=cX l x;rw[m]at g;have g:=Rd.dZ (eT g);have h1:=zV (lJ (cX l) i.toList) n;have b:∀w,(program:Sem aq).run P w=.ok P w:=λw=>by simp[program,Sem.run]
 have d:∀w es,(program:Sem aq).events P w es=es:=λw es=>by simp[program,Sem.events,Sem.runT]
 rw[ph p g,h1];constructor
 .simp[callMethod,b,(h w).1]
 .simp[callMethod,b,d,(h w).1,(h w).2]
structure kR(P:aq)(f:aJ)(e:Array ah->Sem ah):Prop where
 fn:∃fn,P.funcs[f]?=aa fn/\(fn.name== "runtime.NumGoroutine")=af/\fn.body.isNone=ab/\Extern.findNext fn=ae/\Extern.find fn=aa e
def kR.run{f:aJ}{e:Array ah->Sem ah}(h:kR P f e){args:Array ah}{w w':aA}{v:ah}(b:(e args).run P w=.ok v w'):(callFunc f args).run P w=.ok (.value v) w'/\∀es,(callFunc f args).events P w es=(e args).events P w (es.push ⟨.mark (.extern f),af,ab⟩):=by
 obtain⟨fn,g,a,c,i,d⟩:=h.fn;have h1:fn.name≠ "runtime.NumGoroutine":=by grind
 have h2:fn.body=ae:=by simpa using c
 constructor
 .rw[run_callFunc_extern g a c i d,b];rfl
 .intro es;simp[callFunc,g,h1,h2,i,d,b]
def dT.ext{ι:Type}{x:ι->D}{σ':ι->List aP}{f:aJ}{e:Array ah->Sem ah}{args:List ah}(d:gb P N o φ σ f args)(g:kR P f e)(h:∀s,aF σ s->∃i s' v,(e args.toArray).run P s.w=.ok v s'.w/\dj (σ' i) s' v (x i)/\aF (σ' i) s'/\Step σ s (σ' i) s'/\∀es,∀c∈(e args.toArray).events P s.w es,c∈es∨oa s c):dT P N o φ σ x σ':=by
 intro s a k hh;obtain⟨h1,h2⟩:=d s a k s.w;obtain⟨i,s',v,n,q2,q3,q4,l⟩:=h s hh;obtain⟨j,m⟩:=g.run n;refine⟨i,.value v,s',v,h1.trans j,.inl rfl,q2,q3,q4,λc b=>?_⟩;rw[h2,m]at b;rcases l _ c b with h|h
 .simp at h;subst h;exact .inr ⟨f,rfl⟩
 grind
def dT.DX{f:aJ}{e:Array ah->Sem ah}{args:List ah}{v:ah}{x:D}(c:gb P N o φ σ f args)(d:kR P f e)(a:∀w,(e args.toArray).run P w=.ok v w)(g:∀w es,(e args.toArray).events P w es=es)(b:∀s,dj σ s v x):dT P N o φ σ (λ_:Unit=>x) λ_=>σ :=
 .ext c d λs hh=>⟨(),s,v,a s.w,b s,hh,.refl _ _,λes ev h=>.inl (by grind)⟩
def dT.JG{f:aJ}{e:Array ah->Sem ah}{args:List ah}{v:Nat->ah}{x:Nat->D}{E:aj}{u:ah}(k:gb P N o φ σ f args)(m:kR P f e)(d:∀w,(e args.toArray).run P w=.ok (v w.heap.size) (w.alloc (.cells #[u] E)))(r:∀w es,(e args.toArray).events P w es=es)(i:∀g σ s,dj σ s (v g) (x g)):
  dT P N o φ σ x λg=>σ++[.b8 (dJ g E u)] :=
 .ext k m λs hh=>by
  have st:Step σ s σ {s with w:=s.w.alloc (.cells #[u] E)}:=⟨by show _<=(s.w.heap.push _).size;simp,λb a _=>cJ _ _ a,λ_ _ _ h=>h,λ_ _ _ _=>rfl,λL p b a=>.inr ⟨L,p,a⟩,λl B L h1 h2=>⟨B,L,h1,h2,.refl _ _⟩,rfl,rfl,rfl,rfl⟩
  have q:∀o,s.M s.w.heap.size o=ae:=λo=>by
   cases c:s.M s.w.heap.size o with
   |none=>rfl
   |some v=>exact absurd (hh.block c) (Nat.lt_irrefl _)
  have h1:=(hh.grow (w':=s.w.alloc (.cells #[u] E)) (M':=s.M) (by simp) (λb a=>cJ s.w _ a) (λb a o=>rfl) (λb a o v c=>by have:=hh.block c;omega) rfl rfl rfl).1;obtain⟨n,j⟩:=h1.hO (B:=.b8 (dJ s.w.heap.size E u)) (L:=⟨.pointer (aa ⟨s.w.heap.size,0,ae⟩),[s.w.heap.size]⟩) st rfl hh
   ⟨λb=>if b=s.w.heap.size then aa (.cells #[u] E (0,0))else ae,⟨rfl,by simp,λb a=>by grind⟩,λb o a=>by
    by_cases e:b=s.w.heap.size
    .subst e;simp only[cj]at a;grind[dG]
    grind,λb=>by by_cases e:b=s.w.heap.size<;>simp[e],λb a o=>by grind⟩
   (λb a=>by simp at a;subst a;exact⟨bh _,by show _<(s.w.heap.push _).size;simp⟩)
  exact⟨s.w.heap.size,_,_,d s.w,i _ _ _,n,j,λes ev h=>.inl (by grind)⟩
def dJ.own{l g:Nat}{E:aj}{v:ah}(hl:dt l σ=aa (.b8 (dJ g E v)))(hh:aF σ s):s.w.heap[g]?=aa (.cells #[v] E (0,0))/\s.w.cell? ⟨g,0,ae⟩=aa v/\(∀j,oa s ⟨.cell ⟨g,j,ae⟩,af,af⟩)/\∀j,oa s ⟨.cell ⟨g,j,ae⟩,ab,af⟩:=by
 have hB:=b5 hl;have c:l<s.β.length:=by rw[hh.len];grind
 have a:=br c;generalize s.β[l]=L at a;obtain⟨ch,⟨h1,h2,i⟩,h,e,f⟩:=hh.box l _ L hB a;have d:=h g _ h2;have b:g∈L.bs:=(e g).2 (by grind);exact⟨d,by simp[aV,d],λj=>jH (bH a) b,λj=>jE (bH a) b (f g b _)⟩
def dJ.jv{l g:Nat}{E:aj}{v u:ah}(hl:dt l σ=aa (.b8 (dJ g E v)))(hh:aF σ s):aF (σ.set l (.b8 (dJ g E u))) {s with w:=s.w.setRow g #[u]}/\Step σ s (σ.set l (.b8 (dJ g E u))) {s with w:=s.w.setRow g #[u]}:=by
 have hl:=b5 hl;have e:l<s.β.length:=by rw[hh.len];grind
 have i:=br e;generalize s.β[l]=L at i;obtain⟨ch,⟨h1,h2,r⟩,c,h,n⟩:=hh.box l _ L hl i;have m:g∈L.bs:=(h g).2 (by grind);have d:=c g _ h2;have f:∀b,b≠g->(s.w.setRow g #[u]).heap[b]?=s.w.heap[b]?:=λb a=>setRow_other s.w g b _ a;have k:=setRow_heap s.w g #[v] #[u] E (0,0) d;have j:s.β.set l L=s.β:=by apply iM;grind
 have q:=hh.jv (l:=l) (H':=dJ g E u) (L':=L) (w':=s.w.setRow g #[u]) hl i rfl (by simp)
  (λb a p=>f b (by grind)) (λb a=>.inl a)
  ⟨λb=>if b=g then aa (.cells #[u] E (0,0))else ae,⟨h1,by simp,λb a=>by grind⟩,λb o a=>by
   grind,λb=>by grind⟩ rfl rfl rfl
 grind
def dT.PW{f:aJ}{e:Array ah->Sem ah}{args:List ah}{v u:ah}{x:D}(l:Nat){g:Nat}{E:aj}(hl:dt l σ=aa (.b8 (dJ g E u)))(d:gb P N o φ σ f args)(i:kR P f e)(b:∀w,w.cell? ⟨g,0,ae⟩=aa u->(e args.toArray).run P w=.ok v w/\∀es,∀a∈(e args.toArray).events P w es,a∈es∨a=⟨.cell ⟨g,0,ae⟩,af,af⟩)(c:∀s,dj σ s v x):dT P N o φ σ (λ_:Unit=>x) λ_=>σ :=
 .ext d i λs hh=>by obtain⟨_,m,q2,_⟩:=dJ.own hl hh;obtain⟨j,k⟩:=b s.w m;exact⟨(),s,v,j,c s,hh,.refl _ _,λes a h=>(k es a h).imp id λn=>by grind⟩
def dT.Rr{f:aJ}{e:Array ah->Sem ah}{args:List ah}{v u w0:ah}{x:D}(l q:Nat){g b:Nat}{E E2:aj}(hl:dt l σ=aa (.b8 (dJ g E w0)))(c:dt q σ=aa (.b8 (dJ b E2 u)))(j:gb P N o φ σ f args)(m:kR P f e)(d:∀w,w.heap[g]?=aa (.cells #[w0] E (0,0))->w.cell? ⟨b,0,ae⟩=aa u->(e args.toArray).run P w=.ok v (w.setRow g #[u])/\∀es,∀a∈(e args.toArray).events P w es,a∈es∨a=⟨.cell ⟨b,0,ae⟩,af,af⟩∨a=⟨.cell ⟨g,0,ae⟩,ab,af⟩)(i:∀σ s,dj σ s v x):dT P N o φ σ (λ_:Unit=>x) λ_=>σ.set l (.b8 (dJ g E u)) :=
 .ext j m λs hh=>by obtain⟨r,_,_,p4⟩:=dJ.own hl hh;obtain⟨_,t,q2,_⟩:=dJ.own c hh;obtain⟨n,y⟩:=d s.w r t;obtain⟨p,k⟩:=dJ.jv (u:=u) hl hh;refine⟨(),_,v,n,i _ _,p,k,λes a h=>?_⟩;grind
def AK.oF{ι:Type}{x:ι->D}{σ':ι->List aP}(e:qD all φ o=ab)(z:fR N o.dst=ab)(h:dT P N o φ σ x σ')(k:∀i,AK X N Qf (.ops all rest::K) .normal (kl o.dst (x i) φ) (σ' i)):AK X N Qf (.ops all (o::rest)::K) .normal φ σ:=by
 intro s a f hh b kk cs S idx hb jk hQ;cases idx with
 |nil=>exact jk.elim
 |cons j idx =>
 refine qY hb jk.1 (fD e _ _ _ f) λw d=>?_;have c:=hh.rely d;have l:=f.rely d hh;obtain⟨i,y,s',v,h1,h2,B,p,n,r⟩:=h w a l c;have g:=n.m9 c;refine⟨y,s',v,h1,h2,⟨⟨σ,σ' i,c,p,n⟩,r⟩,?_⟩;refine k i s' _ ?_ p b kk cs S idx hb jk.2 λm σ2 s2 a2 q A h2 st=>hQ m σ2 s2 a2 q A h2 ((d.stepW.trans g).trans st);cases u:o.dst with
 |none=>exact l.mono g c.len
 |some t=>exact(l.mono g c.len).put (gA z t u) B
def AK.Rs(t:Nat){T:aj}{cs:List C}{c:Code}(i:look φ t=.e (.one (.c (.ifs T (.rp cs)))))(kk:∀p:Addr,AK X N Qf (.code c::K) .normal ((t,.e (.one (.v (.iface T (.pointer (aa p))))))::φ) σ):AK X N Qf (.code c::K) .normal φ σ:=by
 refine AW.ta (ι:=Addr) (φ':=λp=>(t,.e (.one (.v (.iface T (.pointer (aa p))))))::φ) (σ':=λ_=>σ) (λs a d hh=>?_) kk;have h1:=d.slot t;rw[i]at h1;have h1:=eT h1;generalize g:a.tmps.getD t ai=v at h1;cases h1 with
 |@ifs _ u _ h2 hc =>
  cases h2 with
  |rp b off f k j =>
   refine⟨⟨b,off,ae⟩,s,rfl,⟨d.size,d.defers,λu=>?_⟩,hh,.refl _ _⟩;simp only[look];cases h:aB t u with
   |false=>exact d.slot u
   |true =>
    have e:=bP h;subst e;rw[g];exact Rd.val rfl
def AK.PX(t:Nat){T:aj}{x:ah}(d:look φ t=.e (.one (.c (.ifs T (.val x)))))(kk:AK X N Qf (.ops all rest::K) .normal ((t,.e (.one (.v (.iface T x))))::φ) σ):AK X N Qf (.ops all rest::K) .normal φ σ:=by
 refine ib.le kk λσ s v u a=>?_;simp only[look];cases b:aB t u with
 |false=>exact a
 |true =>
  have e:=bP b;subst e;rw[d]at a;have h1:Rd s.M v (.ifs T (.val x)):=a;cases h1 with
  |@ifs _ f _ h2 hc =>
   obtain rfl:=Rd.dZ h2;exact Rd.val rfl
def AK.FP(t l:Nat){E:aj}{c:Code}(r:look φ t=.e (.one (.ptr l 0)))(hl:dt l σ=aa (.cells E [.c .hY]))(kk:∀g,AK X N Qf (.code c::K) .normal ((t,.e (.one (.v (.pointer (aa ⟨g,0,ae⟩)))))::φ) (σ.set l (.b8 (dJ g E (.pointer ae))))):AK X N Qf (.code c::K) .normal φ σ:=by
 refine AW.ta (ι:=Nat) (φ':=λg=>(t,.e (.one (.v (.pointer (aa ⟨g,0,ae⟩)))))::φ) (σ':=λg=>σ.set l (.b8 (dJ g E (.pointer ae)))) (λs a k hh=>?_) kk;have hl:=b5 hl;have f:l<s.β.length:=by rw[hh.len];grind
 have i:=br f;generalize s.β[l]=L at i;obtain⟨g,vs,rfl,y,n,z⟩:=hh.box l _ L hl i
 match vs,n with
 |[v],⟨q,_⟩ =>
  have q:Rd s.M v .hY:=q;cases q;obtain⟨x,q2⟩:=hh.gz (M':=s.M) (w':=s.w) (B':=.b8 (dJ g E (.pointer ae))) (L':=⟨.pointer (aa ⟨g,0,ae⟩),[g]⟩) hl i rfl (bh _) (λ_ _ _=>rfl) (λ_ _ _ _=>rfl) (λ_ _ _ h=>h) hh.mem (λb d=>⟨.inl d,hh.lt _ (bH i) b d⟩) rfl rfl rfl
   ⟨λb=>if b=g then aa (.cells #[.pointer ae] E (0,0))else ae,⟨rfl,by simp,λb d=>by grind⟩,λb o d=>by
    grind,λb=>by by_cases e:b=g<;>simp[e],λb d o=>by grind⟩
  refine⟨g,{s with β:=s.β.set l ⟨.pointer (aa ⟨g,0,ae⟩),[g]⟩},rfl,⟨k.size,k.defers.imp λ_ h1=>h1.mono q2.ext,λu=>?_⟩,x,q2⟩;simp only[look];cases d:aB t u with
  |false=>exact(k.slot u).mono q2.ext hh.len
  |true =>
   have e:=bP d;subst e;have h1:=k.slot t;rw[r]at h1;obtain⟨_,A,B,j,m,p⟩:=(h1:gn σ s _ (.ptr l 0));rw[i]at j;cases j;cases m;rw[p];exact Rd.val rfl
end
def aF.BD{σ1:List aP}{s:St}{E:aj}{k n:Nat}{bf:m8}{xs:List ah}{es:Nat->List C}(hh:aF (σ1++[.b8 (fQ E k bf n xs)]) s)(e:gi k n es xs)(f:rX σ1.length σ1=ab):
  ∃s2:St,aF σ1 s2/\eu s s2/\Rd s2.M (k9 bf n) (.sl af k n es)/\∀{σ0:List aP} {s0:St},cR σ0 s0 (σ1++[.b8 (fQ E k bf n xs)]) s->σ0.length<=σ1.length->cR σ0 s0 σ1 s2:=by
 have hB:(σ1++[aP.b8 (fQ E k bf n xs)])[σ1.length]?=aa (.b8 (fQ E k bf n xs)):=by simp
 obtain⟨L,M',r,q,p,m,A,u⟩:=fQ.Bw hB es (λi hi=>⟨e.wid i hi,λM j c x hj hx=>by
  obtain⟨y,z,B⟩:=e.at' i hi j c hj
  grind⟩) s hh
 obtain⟨t,q2⟩:=hh.gz (M':=M') (w':=s.w) (B':=.dead) (L':=⟨L.v,[]⟩) hB r rfl (bh _) (λ_ _ _=>rfl) (λb _ a o=>p b a o) q m (by simp) rfl rfl rfl ay;have d:(σ1++[aP.b8 (fQ E k bf n xs)]).set σ1.length .dead=σ1++[.dead]:=by simp
 rw[d]at t q2;refine⟨_,t.drop (rest:=[.dead]) f,⟨rfl,q,λb a o=>p b (a L (bH r)) o,m,λb a=>?_⟩,u,λ{σ0 s0} g h=>(g.trans (q2.m9 hh)).drop (rest:=[.dead]) h⟩;rcases a with a|⟨L',l,a⟩
 .exact .inl a
 .have h1:=fV l;grind
def eb.BD{P:aq}{ι:Type}{X:Cx P}{f:aJ}{args:List D}{σ:List aP}{σ1:ι->List aP}{E k:Nat}{n:ι->Nat}{bf:ι->m8}{xs:ι->List ah}{es:ι->Nat->List C}(h:eb X f args σ (λi=>.e (.one (.v (k9 (bf i) (n i))))) (λi=>σ1 i++[.b8 (fQ E k (bf i) (n i) (xs i))]))(b:∀i,gi k (n i) (es i) (xs i))(d:∀i,rX (σ1 i).length (σ1 i)=ab)(a:∀i,σ.length<=(σ1 i).length):eb X f args σ (λi=>.e (.one (.c (.sl af k (n i) (es i))))) σ1:=by refine⟨h.1,λs vs hr hh S cs hS=>h.2 s vs hr hh S cs λi fr v s' hl mh iX st=>?_⟩;obtain⟨s2,c1,c2,c3,c4⟩:=iX.BD (b i) (d i);have g:v=k9 (bf i) (n i):=Rd.dZ mh;exact .ghost c2 (hS i fr v s2 (hl.mono c2.mem) (by rw[g];exact c3) c1 (c4 st (a i)))
section
open Go.Conc
def gL(s:St):Prop:=∀b o v,s.M b o=aa v->s.w.cell? ⟨b,o,ae⟩=aa v
def lW(c:Nat->Prop):Go.Loc->Prop
  | .cell a=>c a.block
  | .obj r=>c r
  | _=>False
structure Clear(c:Nat->Prop)(s:St):Prop where
  own:∀b,c b->¬s.own b
  β:∀b,c b->∀L∈s.β,b∉L.bs
  M:∀b,c b->∀o,s.M b o=ae
  lt:∀b,c b->b<s.w.heap.size
section
variable {c:Nat->Prop}{s s':St}
def Clear.step{σ σ':List aP}(h:Clear c s)(st:Step σ s σ' s'):Clear c s':=by
  refine⟨λb a=>by rw[st.own];exact h.own b a,λb a L g d=>?_,λb a o=>by rw[st.iU b (h.lt b a) (h.β b a)];exact h.M b a o,λb a=>cU (h.lt b a) st.size⟩;rcases st.vb L g b d with h1|⟨f,e,h1⟩
  · exact absurd (h.lt b a) (mn.2 h1)
  · exact h.β b a f e h1
theorem Clear.ghost(h:Clear c s)(k:eu s s'):Clear c s':=by
  have f:∀b,c b->¬(s'.own b∨∃L∈s'.β,b∈L.bs):=λb a e=>by
    rcases k.blk b e with e|⟨L,d,e⟩
    · exact h.own b a e
    · exact h.β b a L d e
  exact⟨λb a e=>f b a (.inl e),λb a L d e=>f b a (.inr ⟨L,d,e⟩),λb a o=>by rw[k.iU b (h.β b a)];exact h.M b a o,λb a=>by rw[k.w];exact h.lt b a⟩
def Clear.forget(h:Clear c s)(k:mV s s'):Clear c s':=by
  refine⟨λb a=>by rw[k.own];exact h.own b a,λb a=>by rw[k.β];exact h.β b a,λb a o=>?_,λb a=>by rw[k.w];exact h.lt b a⟩;cases e:s'.M b o with
  | none=>rfl
  | some v=>rw[<-k.less b o v e,h.M b a o]
def Clear.at(h:Clear c s)(d:Nat):Clear c {s with w:=s.w.at d}:=⟨h.own,h.β,h.M,h.lt⟩
def gL.at(h:gL s)(d:Nat):gL {s with w:=s.w.at d}:=h
theorem gL.ghost(k:eu s s'):gL s':=λb o v a=>by rw[k.w];exact k.cell b o v a
def gL.forget(h:gL s)(k:mV s s'):gL s':=λb o v a=>by rw[k.w];exact h b o v (k.less b o v a)
def gL.lt(h:gL s){b o:Nat}{v:ah}(a:s.M b o=aa v):b<s.w.heap.size:=by
  have:=h b o v a;rcases cD b s.w.heap.size with h1|h1
  · exact h1
  · simp[aV,zn h1]at this
def ck.at(h:gL s)(d:Nat):ck s {s with w:=s.w.at d}:=⟨rfl,rfl,rfl,bh _,λ_ _=>rfl,h,rfl,rfl,rfl⟩
def QW{σ:List aP}{e:Event}(n:aF σ s)(l:Clear c s)(g:oa s e){B:Nat}(hB:s.w.heap.size<=B):EvL (lW c) B e:=by
  obtain⟨k,wr,p⟩:=e;cases k with
  | cell a =>
    obtain⟨i,j,b⟩:=g;simp only at i j b;subst i;have key:¬c a.block/\a.block<s.w.heap.size:=by
      rcases b with b|⟨⟨L,h,b⟩,_⟩|⟨_,v,b⟩
      · exact b.elim
      · exact⟨λx=>l.β _ x L h b,n.lt L h _ b⟩
      · refine⟨λx=>?_,gL.lt n.mem b⟩
        rw[l.M _ x]at b;cases b
    exact evL_cell a wr key.1 (cU key.2 hB)
  | obj r =>
    obtain⟨i,j⟩:=g;simp only at i j;subst i;obtain⟨L,h,b⟩:=j.resolve_left id;refine⟨λx d o=>?_,by simp,by simp,?_⟩
    · simp[aK,MemAct.touch?]at d
      subst d;exact absurd b (l.β _ o L h)
    · simp[aK,MemAct.low,Loc.low]
      exact cU (n.lt L h _ b) hB
  | mark m =>
    simp only[oa]at g;rcases g with rfl|⟨f,rfl⟩
    · exact⟨λx d=>by simp[aK,MemAct.touch?]at d,by simp,by simp,by simp[aK,MemAct.low]⟩
    · exact⟨λx d=>by simp[aK,MemAct.touch?]at d,by simp,by simp,by simp[aK,MemAct.low]⟩
  | _=>exact g.elim
end
def rS(t:Trace):Prop:=∀a,NoRelease a t
def rS.app{t:Trace}(h:rS t){g:Nat}{fn:aJ}{pos:String}{es:Array Event}(b:∀e∈es,∀a,e.loc≠.mark (.release a)):rS (t++MemOp.ofEvents g fn pos es) :=
  λa=>(h a).app λop mq hx=>by grind[Go.Conc.mem_ofEvents,Go.ConcR.loc_of_ofEvent]
def DH{s:St}{e:Event}(d:oa s e)(a:Addr):e.loc≠.mark (.release a):=by intro b;obtain⟨loc,wr,g⟩:=e;simp only at b;subst b;rcases d with h|⟨f,h⟩<;>cases h
def vI{e:Event}(d:e.mute=ab)(a:Addr):e.loc≠.mark (.release a):=by intro b;obtain⟨loc,wr,f⟩:=e;simp only at b;subst b;simp[Event.mute]at d
def Ua(P:aq)(g:av)(s:St)(T:av->St->Prop):Prop :=
  ∀(c:Nat->Prop) (gs:Array av) (sl:Option (Nat×Nat)) (t:Trace) (q:Nat->Nat),gL s->gs[0]?=aa g->Leavers P t gs q->Past (lW c) s.w.heap.size t->Clear c s->rS t ->
    ∃(N:Nat) (b:Nat->Prop) (a:Array av) (g':av) (s':St) (e:Option (Nat×Nat)) (d:Trace) (f:Nat->Nat),
      runNT P N (crowd gs s.w sl) t=(.next (crowd a s'.w e),d)/\gL s'/\a[0]?=aa g'/\Leavers P d a f/\Past (lW b) s'.w.heap.size d/\Clear b s'/\rS d/\T g' s'
def Cx.beside(P:aq):Cx P:={main:=ab,rely:=λs s'=>ck s s'/\∃d,s'={s with w:=s.w.at d},xY:=Ua P,iv:=λh=>h.1,Bn:=True}
instance (P:aq):(Cx.beside P).gY:=⟨ay⟩
theorem runNT_add{P:aq}:∀(N M:Nat) {m b:Machine} {t a:Trace},runNT P N m t=(.next b,a)->runNT P (N+M) m t=runNT P M b a
  | 0,M,m,b,t,a,h=>by simp[runNT]at h;grind
  | N+1,M,m,b,t,a,h=>by
    rw[show N+1+M=(N+M)+1 by omega];simp only[runNT]at h⊢;cases d:stepT P m with
    | mk r ops =>
      rw[d]at h;cases r with
      | next m1=>exact runNT_add N M h
      | ended o w=>grind
def fA.beside{P:aq}{S:av->St->Prop}{g:av}{s:St}(h:fA (Cx.beside P) S g s):Ua P g s S:=by
  induction h with
  | stop h=>intro c gs sl t q A p m u r F;exact⟨0,c,gs,_,_,sl,t,q,rfl,A,p,m,u,r,F,h⟩
  | ghost hg _ I =>
    intro c gs sl t q A p m u r F;have:=I c gs sl t q (.ghost hg) p m (by rw[hg.w];exact u) (r.ghost hg) F
    rwa [hg.w]at this
  | forget _ hg _ I =>
    intro c gs sl t q A p m u r F;have:=I c gs sl t q (A.forget hg) p m (by rw[hg.w];exact u) (r.forget hg) F
    rwa [hg.w]at this
  | xY hj _ I =>
    intro c gs sl t q A p m u r F;obtain⟨N,l,b,g',s',f,D,K,h1,h2,h3,h4,h5,h6,h6n,h7⟩:=hj c gs sl t q A p m u r F;obtain⟨M,Sh2,Z,g2,s2,sl2,t2,q2,k1,W⟩:=I g' s' h7 l b f D K h2 h3 h4 h5 h6 h6n;exact⟨N+M,Sh2,Z,g2,s2,sl2,t2,q2,by grind[runNT_add],W⟩
  | @step g s Y ns ne hr h1 h2 _ I =>
    intro c gs sl t q;have key:∀(n:Nat) (gs:Array av) (d:Nat) (sl:Option (Nat×Nat)) (t:Trace) (q:Nat->Nat),Go.ConcN.sumTo gs.size q<=n->gL s->gs[0]?=aa g->Leavers P t gs q->Past (lW c) s.w.heap.size t->Clear c s->rS t ->
        ∃(N:Nat) (l:Nat->Prop) (b:Array av) (g':av) (s':St) (f:Option (Nat×Nat)) (D:Trace) (K:Nat->Nat),
          runNT P N (crowd gs (s.w.at d) sl) t=(.next (crowd b s'.w f),D)/\gL s'/\b[0]?=aa g'/\Leavers P D b K/\Past (lW l) s'.w.heap.size D/\Clear l s'/\rS D/\S g' s':=by
      intro n;induction n with
      | zero=>?_
      | succ n ihn=>?_
      all_goals
        intro gs d sl t q F A p m u r E;have haw:∀g∈gs,awake g:=by
          intro x hx;obtain⟨i,hi,rfl⟩:=Array.mem_iff_getElem.1 hx;rcases mS i with rfl|v
          · grind[awake_of]
          · exact awake_of ((m.old i _ v (fT hi)).status.elim .inl λx=>.inr (.inr x))
        obtain⟨i,x,d2,f,hi,hg,H⟩:=crowd_pick (P:=P) (w:=s.w.at d) (sl:=sl) haw ⟨0,g,p,hr⟩;rw[show(s.w.at d).at d2=s.w.at d2 from rfl]at H;rcases mS i with rfl|v
        · obtain rfl:x=g:=by grind
          have B:(Cx.beside P).rely s {s with w:=s.w.at d2}:=⟨ck.at A d2,d2,rfl⟩;have hgo:=h1 _ B;obtain⟨⟨σ,σ',hh,iX,st⟩,U⟩:=h2 _ B;have o:=runT_crowd_go (P:=P) (sl:=f) (i:=0) hi (show aH P (0==0) x (s.w.at d2)=_ from hgo)
          have Nh:((gs.map (woken P x (Y {s with w:=s.w.at d2}) (ns {s with w:=s.w.at d2}).w)).setIfInBounds 0 (Y {s with w:=s.w.at d2})).size=gs.size:=by simp
          have T:0<gs.size:=(ij.1 p).1;have X:Clear c {s with w:=s.w.at d2}:=r.at d2;obtain⟨N,l,b,g',s',C,D,K,k1,W⟩:=I _ B c ((gs.map (woken P x (Y {s with w:=s.w.at d2}) (ns {s with w:=s.w.at d2}).w)).setIfInBounds 0 (Y {s with w:=s.w.at d2})) f
            (t++MemOp.ofEvents 0 x.frame.fn x.frame.place (ne {s with w:=s.w.at d2})) q iX.mem (by grind)
            ⟨λj y hj hy=>by
              have Bo:0≠j:=by omega
              rw[vG Bo,Array.getElem?_map]at hy;obtain⟨z,hz,rfl⟩:=qL.1 hy;have L:=m.old j z hj hz;rw[woken_quitsD L,Deaf_other t (by omega) _ (λop mq=>by grind[Go.Conc.mem_ofEvents])];exact L,λj hj=>by
              rw[Deaf_other t (g':=0) (by grind) _ (λop mq=>by grind[Go.Conc.mem_ofEvents])]
              exact m.above j (by grind)⟩
            ((u.mono st.size).own λe V=>QW hh X (U e V) st.size) (X.step st) (E.app λe V a=>DH (U e V) a)
          exact⟨N+1,l,b,g',s',C,D,K,by simp only[runNT,H,o];exact k1,W⟩
        · have L:=m.old i x v hi
          have XE:(i==0)=af:=by grind
          have T:i<gs.size:=(ij.1 hi).1;cases G:q i with
          | zero=>rw[G]at L;rw[L.1]at hg;cases hg
          | succ k =>
            rw[G]at L;rcases L with⟨hf,_⟩|⟨_,g',es,O,Q,hq'⟩
            · grind
            have abC:Go.ConcN.sumTo gs.size (Go.ConcN.upd q i k)+(k+1)=Go.ConcN.sumTo gs.size q+k:=by have:=Go.ConcN.sumTo_upd q k id T;simpa[G]using this
            first
            | (exfalso;omega)
            | (have o:=runT_crowd_go (P:=P) (sl:=f) (i:=i) hi (by rw[XE];exact Q (s.w.at d2))
               have Nh:((gs.map (woken P x g' (s.w.at d2))).setIfInBounds i g').size=gs.size:=by simp
               obtain⟨N,l,b,g2,s',C,D,K,k1,W⟩:=ihn ((gs.map (woken P x g' (s.w.at d2))).setIfInBounds i g') d2 f (t++MemOp.ofEvents i x.frame.fn x.frame.place es) (Go.ConcN.upd q i k) (by grind) A
                (by grind[woken_run])
                ⟨λj y hj hy=>by
                  by_cases J:i=j
                  · grind[Go.ConcN.upd_same,Deaf_own]
                  · rw[vG J,Array.getElem?_map]at hy
                    obtain⟨z,hz,rfl⟩:=qL.1 hy;have R:=m.old j z hj hz;rw[woken_quitsD R,Go.ConcN.upd_ne q k (Ne.symm J),Deaf_other t J _ (λop mq=>by grind[Go.Conc.mem_ofEvents])];exact R,λj hj=>by
                  rw[Deaf_other t (g':=i) (by grind) _ (λop mq=>by grind[Go.Conc.mem_ofEvents])]
                  exact m.above j (by grind)⟩
                (u.mute (by omega) O) r (E.app λe V a=>vI (O e V) a)
               exact⟨N+1,l,b,g2,s',C,D,K,by simp only[runNT,H,o];exact k1,W⟩)
    intro A p m u r E;have:=key _ gs s.w.drawn sl t q (bh _) A p m u r E
    rwa [show s.w.at s.w.drawn=s.w from rfl]at this
inductive Rk where
 |leaf
 |node (f:St->Rk)
def Rk.lt:Rk->Rk->Prop
 |_,.leaf=>False
 |x,.node f=>∃s,x=f s∨Rk.lt x (f s)
def Rk.acc:∀r:Rk,Acc Rk.lt r
 |.leaf=>⟨_,λ_ h=>h.elim⟩
 |.node f=>⟨_,λ_ ⟨s,e⟩=>e.elim (λe=>e▸Rk.acc (f s)) λh=>(Rk.acc (f s)).inv h⟩
def Rk.nat:Nat->Rk
 |0=>.leaf
 |n+1=>.node λ_=>Rk.nat n
def Rk.DY(n:Nat)(s:St):Rk.lt (Rk.nat n) (Rk.nat (n+1)):=⟨s,.inl rfl⟩
def Vec(j:Nat)(a D:Nat->Rk):Prop:=∃i,i<j/\Rk.lt (a i) (D i)/\∀k,k≠i->a k=D k
def JJ:∀j,WellFounded (Vec j)
 |0=>⟨λ_=>⟨_,λ_ ⟨i,h,_⟩=>absurd h (fL i)⟩⟩
 |j+1=>by
  have f:=JJ j;have key:∀a:Rk,∀D:Nat->Rk,D j=a->Acc (Vec (j+1)) D:=by
   intro a;induction Rk.acc a with
   |intro a _ g =>
    intro D;induction f.apply D with
    |intro D _ b =>
     intro l;refine⟨_,λk h=>?_⟩;obtain⟨i,hi,d,hk⟩:=h;rcases cD i j with e|e
     .exact b k ⟨i,e,d,hk⟩ (by grind)
     grind
  exact⟨λD=>key _ D rfl⟩
section
variable {P:aq}
def ko(X:Cx P)(E:St->St->Array Event->Prop)(S:av->St->Prop):Rk->av->St->Prop
 |.leaf,g,s=>S g s
 |.node f,g,s=>S g s∨(∃s',(eu s s'∨(X.Bn/\mV s s'))/\ko X E S (f s) g s') ∨
   (g.status=.running/\∀a,X.rely s a->∃g' s' es,aH P X.main g a.w=.go g' s'.w es/\(qO a s' es∨E a s' es)/\ko X E S (f a) g' s')
variable {X:Cx P}{E:St->St->Array Event->Prop}{S c:av->St->Prop}
def er(X:Cx P)(E:St->St->Array Event->Prop)(S:av->St->Prop)(g:av)(s:St):Prop:=∃r,ko X E S r g s
theorem er.ghost{g:av}{s s':St}(h:eu s s')(k:er X E S g s'):er X E S g s:=by obtain⟨r,k⟩:=k;exact⟨.node λ_=>r,.inr (.inl ⟨s',.inl h,k⟩)⟩
def er.forget{g:av}{s s':St}(hl:X.Bn)(h:mV s s')(k:er X E S g s'):er X E S g s:=by obtain⟨r,k⟩:=k;exact⟨.node λ_=>r,.inr (.inl ⟨s',.inr ⟨hl,h⟩,k⟩)⟩
def er.step{g:av}{s:St}(d:g.status=.running)(h:∀a,X.rely s a->∃g' s' es,aH P X.main g a.w=.go g' s'.w es/\(qO a s' es∨E a s' es)/\er X E S g' s'):er X E S g s:=by
 classical
 have hh:∀a,∃r:Rk,X.rely s a->∃g' s' es,aH P X.main g a.w=.go g' s'.w es/\(qO a s' es∨E a s' es)/\ko X E S r g' s':=by
  intro a;by_cases b:X.rely s a
  .obtain⟨g',s',es,h1,h2,r,e⟩:=h a b;exact⟨r,λ_=>⟨g',s',es,h1,h2,e⟩⟩
  .exact⟨.leaf,λh=>absurd h b⟩
 exact⟨.node λa=>Classical.choose (hh a),.inr (.inr ⟨d,λa b=>Classical.choose_spec (hh a) b⟩)⟩
def er.bind{g:av}{s:St}(h:er X E S g s)(k:∀g s,S g s->er X E c g s):er X E c g s:=by
 obtain⟨r,h⟩:=h;induction r generalizing g s with
 |leaf=>exact k g s h
 |node f a =>
  rcases h with h|⟨s',h1,h2⟩|⟨b,h⟩
  .grind
  .rcases h1 with h1|⟨hl,h1⟩
   .exact .ghost h1 (a _ h2)
   .exact .forget hl h1 (a _ h2)
  .exact .step b λd e=>by grind
def fA.toE{g:av}{s:St}(hj:∀g s T,¬X.xY g s T)(h:fA X S g s):er X E S g s:=by
 induction h with
 |stop h=>exact⟨.leaf,h⟩
 |step ng ns ne hr h1 h2 _ a=>exact .step hr λb d=>⟨_,_,_,h1 b d,.inl (h2 b d),a b d⟩
 |ghost hg _ a=>exact .ghost hg a
 |forget hl hg _ a=>exact .forget hl hg a
 |xY hjj _ _=>grind
def ko.norm(I:St->Prop)(l:∀s s',eu s s'->I s->I s')(k:X.Bn->∀s s',mV s s'->I s->I s'):∀{r:Rk}{g:av}{s:St},ko X E S r g s->I s ->
  (∃s',I s'/\S g s')∨(g.status=.running/\∃s',I s'/\∀a,X.rely s' a->∃g' s2 es r',aH P X.main g a.w=.go g' s2.w es/\(qO a s2 es∨E a s2 es)/\ko X E S r' g' s2/\Rk.lt r' r)
 |.leaf,_,s,h,hi=>.inl ⟨s,hi,h⟩
 |.node f,g,s,h,hi=>by
  rcases h with h|⟨s',h1,h2⟩|⟨n,h⟩
  .grind
  .have b:I s':=h1.elim (λx=>l s s' x hi) λx=>k x.1 s s' x.2 hi;rcases ko.norm I l k h2 b with m|⟨m,s2,q,o⟩
   .grind
   .refine .inr ⟨m,s2,q,λa e=>?_⟩;obtain⟨g',d,es,r',k1,j,i,p⟩:=o a e;exact⟨g',d,es,r',k1,j,i,s,.inr p⟩
  .refine .inr ⟨n,s,hi,λa e=>?_⟩;obtain⟨g',d,es,k1,j,i⟩:=h a e;exact⟨g',d,es,f a,k1,j,i,a,.inl rfl⟩
def er.goes{R:aA->aA->Prop}{D:aA->aA->Array Event->Prop}{Stop:av->aA->Prop}(I:St->Prop)(m:∀s a,I s->X.rely s a->I a)(e:∀s a,I s->X.rely s a->R s.w a.w)(j:∀s es,I s->∀w',D s.w w' es->w'=s.w/\(qO s s es∨E s s es))(i:∀s,I s->X.rely s s)(k:∀g s,I s->Stop g s.w->er X E S g s):
  ∀(n:Nat) (g:av) (s:St),I s->Goes P X.main R D Stop n g s.w->er X E S g s
 |0,g,s,hi,h=>k g s hi (h s.w (e s s hi (i s hi)))
 |n+1,g,s,hi,h=>by
  rcases h with h|⟨p,h⟩
  .grind
  .refine .step p λa l=>?_;have h1:=h a.w (e s a hi l);have b:=m s a hi l;cases d:aH P X.main g a.w with
   |go g' w' es =>
    rw[d,goes_go]at h1;obtain⟨o,q⟩:=h1;obtain⟨rfl,f⟩:=j a es b w' o;exact⟨g',a,es,rfl,f,er.goes I m e j i k n g' a b q⟩
   |_=>rw[d]at h1;exact h1.elim
end
theorem ck.ghost{s s':St}{w:aA}(h:ck s {s with w:=w})(k:eu s s'):ck s' {s' with w:=w}:=by
 refine⟨rfl,rfl,rfl,by rw[k.w];exact h.size,λb a=>by rw[k.w];exact h.fe b (k.blk b a),λb o v e=>?_,by rw[k.w];exact h.os,by rw[k.w];exact h.tape,by rw[k.w];exact h.output⟩;have f:=k.cell b o v e;by_cases a:∃L∈s.β,b∈L.bs
 .have:=h.fe b (.inr a);simp only[aV]at f⊢;grind
 .have:s.M b o=aa v:=by rw[<-k.iU b (λL g d=>a ⟨L,g,d⟩)];exact e
  exact h.mem b o v this
def ck.forget{s s':St}{w:aA}(h:ck s {s with w:=w})(k:mV s s'):ck s' {s' with w:=w} :=
 ⟨rfl,rfl,rfl,by rw[k.w];exact h.size,λb a=>by rw[k.w];exact h.fe b (by rw[<-k.own,<-k.β];exact a),λb o v d=>h.mem b o v (k.less b o v d),by rw[k.w];exact h.os,by rw[k.w];exact h.tape,by rw[k.w];exact h.output⟩
def ck.wB{s:St}(h:gL s):ck s s:=⟨rfl,rfl,rfl,bh _,λ_ _=>rfl,h,rfl,rfl,rfl⟩
def ck.trans'{s:St}{w:aA}(h:ck s {s with w:=w}):ck {s with w:=w} {s with w:=w}:=ck.wB h.mem
def ck.trans{s a s2:St}(h:ck s a)(k:ck a s2):ck s s2 :=
 ⟨k.β.trans h.β,k.M.trans h.M,k.own.trans h.own,iP h.size k.size,λb d=>by rw[k.fe b (by rw[h.own,h.β];exact d),h.fe b d],λb o v e=>k.mem b o v (by rw[h.M];exact e),k.os.trans h.os,k.tape.trans h.tape,k.output.trans h.output⟩
end
section
open Go.Conc
open Go.ConcN (fork_knows RelBy)
open Go.ConcR (stA smA)
def l0:Go.Loc->Option Nat
 |.cell a=>aa a.block
 |.obj r=>aa r
 |_=>ae
def BL{l:Go.Loc}(h:l.isMemory=ab):∃b,l0 l=aa b:=by cases l<;>simp[Go.Loc.isMemory]at h<;>exact⟨_,rfl⟩
def Hk{x:MemAct}{a:Touch}{B b:Nat}(h:x.touch?=aa a)(g:x.low B)(c:l0 a.loc=aa b):b<B:=by
 cases x with
 |access e =>
  simp[MemAct.touch?]at h;subst h;simp only at c;obtain⟨loc,wr,i⟩:=e;cases loc<;>simp[l0]at c<;>subst c<;>exact g
 |mark m =>
  cases m<;>simp[MemAct.touch?]at h<;>subst h<;>simp[l0]at c<;>subst c<;>exact g
 |_=>simp[MemAct.touch?]at h
structure Lay where
 Sh:Nat->Prop
 T0:Nat
 Wg:Nat
 C:Nat
 base:Nat
 kc:Nat
def se(Y:Lay)(d:Nat->Nat)(a:Touch):Prop :=
 (∃ad,a.loc=.cell ad/\ad.block=Y.Wg/\a.kind≠.plain)∨(∃b,l0 a.loc=aa b/\d b=0/\b≠Y.Wg/\b≠Y.C/\¬Y.Sh b/\a.kind=.plain)
def qE(Y:Lay)(d:Nat->Nat)(f:Mem)(x:Nat)(a:Touch):Prop :=
 (∃ad,a.loc=.cell ad/\ad.block=Y.Wg/\a.kind=.atomic) ∨
 (a.kind=.plain/\((∃b,l0 a.loc=aa b/\d b=Y.base+x)∨(∃o,a.loc=.cell ⟨Y.C,o,ae⟩/\Y.kc*x<=o/\o<Y.kc*x+Y.kc)∨(a.write=af/\∃b o v,a.loc=.cell ⟨b,o,ae⟩/\f b o=aa v)))
structure TL(Y:Lay)(d:Nat->Nat)(f:Nat->Mem)(t:Trace)(j B:Nat):Prop where
 base:1<=Y.base
 IT:d Y.Wg=0
 hC:d Y.C=0
 ne:Y.C≠Y.Wg
 PY:¬Y.Sh Y.Wg
 Rv:¬Y.Sh Y.C
 IU:∀b,Y.Sh b->d b=0
 ms:∀x,x<j->∀b o v,f x b o=aa v->d b=0/\b≠Y.C/\b≠Y.Wg/\¬Y.Sh b
 T0:Y.T0<=t.size
 nr:∀said,¬Race said t
 seen:∀op∈t,op.act.low B
 old:∀i a,i<Y.T0->touchAt t i=aa a->a.loc.isMemory=ab->Knows t 0 i∨(lW Y.Sh a.loc/\a.kind=.atomic)
 Rw:∀x,x<j->∀i a,i<Y.T0->touchAt t i=aa a->a.loc.isMemory=ab->Knows t (Y.base+x) i∨(lW Y.Sh a.loc/\a.kind=.atomic)
 Hl:∀i a b,i<Y.T0->touchAt t i=aa a->l0 a.loc=aa b->d b=0
 new:∀i a,Y.T0<=i->touchAt t i=aa a->a.loc.isMemory=ab->(t.g? i=aa 0/\se Y d a)∨(∃x,x<j/\t.g? i=aa (Y.base+x)/\qE Y d (f x) x a)
 mw:∀x,x<j->∀i a,Y.T0<=i->touchAt t i=aa a->t.g? i=aa 0->a.write=ab->∀b o v,a.loc=.cell ⟨b,o,ae⟩->f x b o=aa v->Knows t (Y.base+x) i
 over:∀i g,i<Y.T0->t.g? i=aa g->g≠0->t.counts i->∃k,t.g? k=aa 0/\HappensBefore t i k
section
variable {Y:Lay}{d hm':Nat->Nat}{f:Nat->Mem}{t u:Trace}{j B B':Nat}
theorem vm{i:Nat}{a:Touch}{g:Nat}(h:touchAt t i=aa a)(b:t.g? i=aa g):Knows t g i:=by
 obtain⟨x,c,_⟩:=touch_of h;have:x.g=g:=by simpa[Trace.g?,c]using b
 grind[knows_own]
def TL.low(h:TL Y d f t j B){i:Nat}{a:Touch}{b:Nat}(g:touchAt t i=aa a)(k:l0 a.loc=aa b):b<B:=by obtain⟨x,e,c⟩:=touch_of g;exact Hk c (h.seen x (uY e)) k
def TL.tp(h:TL Y d f t j B)(hh:∀b,b<B->hm' b=d b)(hB:B<=B')(r:Y.Wg<B)(hC:Y.C<B)(q:∀b,Y.Sh b->b<B)(s:∀x,x<j->∀b o v,f x b o=aa v->b<B):TL Y hm' f t j B':=by
 have k:∀i a,touchAt t i=aa a->se Y d a->se Y hm' a:=λi a c h1=>by
  rcases h1 with h1|⟨b,h1,h2,p⟩
  .exact .inl h1
  .exact .inr ⟨b,h1,by rw[hh b (h.low c h1)];exact h2,p⟩
 have g:∀x i a,touchAt t i=aa a->qE Y d (f x) x a->qE Y hm' (f x) x a:=λx i a c h1=>by
  rcases h1 with h1|⟨m,⟨b,h1,h2⟩|h1⟩
  .exact .inl h1
  .exact .inr ⟨m,.inl ⟨b,h1,by rw[hh b (h.low c h1)];exact h2⟩⟩
  .exact .inr ⟨m,.inr h1⟩
 refine⟨h.base,by rw[hh _ r];exact h.IT,by rw[hh _ hC];exact h.hC,h.ne,h.PY,h.Rv,λb e=>by rw[hh b (q b e)];exact h.IU b e,λx l b o v n=>by rw[hh b (s x l b o v n)];exact h.ms x l b o v n,
  h.T0,h.nr,λop mq=>MemAct.low_mono hB (h.seen op mq),h.old,h.Rw,λi a b hi c e=>by rw[hh b (h.low c e)];exact h.Hl i a b hi c e,λi a hi c d=>?_,h.mw,h.over⟩
 rcases h.new i a hi c d with⟨h1,h2⟩|⟨x,h1,h2,p⟩
 .grind
 grind
def TL.NM(h:TL Y d f t j B):Y.T0<=(t++u).size:=iP h.T0 (by simp)
theorem kC{i:Nat}(h:i<t.size):(t++u).g? i=t.g? i:=by simp[Trace.g?,getElem?_append_old h]
def TL.sh(h:TL Y d f t j B)(u:Trace):∀i g,i<Y.T0->(t++u).g? i=aa g->g≠0->(t++u).counts i->∃k,(t++u).g? k=aa 0/\HappensBefore (t++u) i k:=by
 intro i g hi hg Bo hc;have a:=cU hi h.T0;rw[kC a]at hg;obtain⟨k,hk,b⟩:=h.over i g hi hg Bo ((counts_old a).1 hc);have c:k<t.size:=by unfold Trace.g? at hk;grind
 exact⟨k,by grind[kC],hb_app u b⟩
def BM{c:Nat->Prop}{l:Go.Loc}{b:Nat}(h:lW c l)(a:l0 l=aa b):c b:=by cases l<;>simp[l0]at a<;>subst a<;>exact h
def TL.apart(h:TL Y d f t j B){x:Nat}(p:x<j){a b:Touch}{said:Bool}(hT:se Y d b)(m:qE Y d (f x) x a)(hl:a.loc=b.loc)(hk:a.kind=.plain∨b.kind=.plain∨(said=ab/\a.kind=.said/\b.kind=.said))(A:b.kind=.plain->b.write=ab->∀l o v,b.loc=.cell ⟨l,o,ae⟩->f x l o≠aa v)(s:a.write=ab∨b.write=ab):False:=by
 have q:=h.base;rcases m with⟨ad,e1,e2,e3⟩|⟨z,⟨c,e1,e2⟩|⟨o,e1,_⟩|⟨e1,l,o,v,e2,e3⟩⟩
 .rcases hT with⟨k,e,g,i⟩|⟨c,e,g,i,_⟩
  .grind
  .rw[<-hl,e1]at e;simp only[l0,dm]at e;grind
 .rcases hT with⟨k,e,g,i⟩|⟨n,e,g,i,_⟩
  .rw[hl,e]at e1;simp only[l0,dm]at e1;rw[<-e1,g,h.IT]at e2;omega
  grind
 .rcases hT with⟨k,e,g,i⟩|⟨n,e,g,i,r,_⟩
  .rw[<-hl,e1]at e;cases e;exact h.ne g
  .rw[<-hl,e1]at e;simp only[l0,dm]at e;grind
 .obtain⟨D,E,C,y⟩:=h.ms x p l o v e3;rcases hT with⟨k,e,g,i⟩|⟨n,e,g,i,r,_,w⟩
  .grind
  grind
def TL.app0(h:TL Y d f t j B)(F:∀op∈u,op.g=0)(hl:∀op∈u,op.act.low B)(H:∀op∈u,∀a,op.act.touch?=aa a->a.loc.isMemory=ab->se Y d a)(J:∀op∈u,∀a,op.act.touch?=aa a->a.kind=.plain->a.write=ab->∀x,x<j->∀b o v,a.loc=.cell ⟨b,o,ae⟩->f x b o≠aa v):TL Y d f (t++u) j B:=by
 have e:∀{i:Nat} {a:Touch},touchAt (t++u) i=aa a->(i<t.size/\touchAt t i=aa a)∨(t.size<=i/\(t++u).g? i=aa 0/\∃op∈u,op.act.touch?=aa a):=by
  intro i a k;obtain⟨x,p,E⟩:=touch_of k;rcases getElem?_append_cases p with⟨hi,N⟩|⟨hi,s⟩
  .grind [touchAt_of]
  .exact .inr ⟨hi,by simp[Trace.g?,p,F x s],x,s,E⟩
 refine⟨h.base,h.IT,h.hC,h.ne,h.PY,h.Rv,h.IU,h.ms,h.NM,λsaid=>?_,seen_app h.seen hl,λi a hi k d=>?_,λx p i a hi k d=>?_,λi a b hi k z=>?_,λi a hi k d=>?_,λx p i a hi k y D b o v n G=>?_,h.sh u⟩
 .refine noRace_append (h.nr said) F λi a k op mq b z q=>?_;have C:b.loc.isMemory=ab:=by rw[<-q.1];exact q.2.1
  have hT:=H op mq b z C;rcases cD i Y.T0 with hi|hi
  .rcases h.old i a hi k q.2.1 with hk|⟨K,I⟩
   .exact hk
   .exfalso;obtain⟨c,l⟩:=BL q.2.1;have w:=BM K l;rcases hT with⟨ad,e1,e2,e3⟩|⟨M,e1,e2,e3,O,P,L⟩
    .rw[q.1,e1]at l;simp only[l0,dm]at l;rw[<-l,e2]at w;exact h.PY w
    .rw[q.1,e1]at l;grind
  .rcases h.new i a hi k q.2.1 with⟨y,_⟩|⟨x,p,y,A⟩
   .grind [vm]
   .exact(h.apart p hT A q.1 q.2.2.2 (λh1 h2=>J op mq b z h1 h2 x p) q.2.2.1).elim
 .have m:touchAt t i=aa a:=by rw[<-touchAt_old (u:=u) (cU hi h.T0)];exact k
  exact(h.old i a hi m d).imp (·.app u) id
 .have m:touchAt t i=aa a:=by rw[<-touchAt_old (u:=u) (cU hi h.T0)];exact k
  exact(h.Rw x p i a hi m d).imp (·.app u) id
 .have m:touchAt t i=aa a:=by rw[<-touchAt_old (u:=u) (cU hi h.T0)];exact k
  exact h.Hl i a b hi m z
 .rcases e k with⟨h1,h2⟩|⟨_,h2,op,mq,r⟩
  .rw[kC h1];exact h.new i a hi h2 d
  grind
 .rcases e k with⟨h1,h2⟩|⟨_,h2,op,mq,r⟩
  .rw[kC h1]at y;exact(h.mw x p i a hi h2 y D b o v n G).app u
  .exfalso;rcases H op mq a r (by rw[n];rfl)with⟨ad,e1,e2,e3⟩|⟨M,_,_,_,_,_,L⟩
   .rw[n]at e1;cases e1;exact(h.ms x p b o v G).2.2.1 e2
   grind
def TL.appW(h:TL Y d f t j B){x:Nat}(C:x<j)(W:∀op∈u,op.g=Y.base+x)(hl:∀op∈u,op.act.low B)(ht:∀op∈u,∀a,op.act.touch?=aa a->a.loc.isMemory=ab->qE Y d (f x) x a):TL Y d f (t++u) j B:=by
 have WZ:=h.base;have r:∀{i:Nat} {a:Touch},touchAt (t++u) i=aa a->(i<t.size/\touchAt t i=aa a)∨(t.size<=i/\(t++u).g? i=aa (Y.base+x)/\∃op∈u,op.act.touch?=aa a):=by
  intro i a q;obtain⟨y,w,U⟩:=touch_of q;rcases getElem?_append_cases w with⟨hi,hy'⟩|⟨hi,G⟩
  .grind [touchAt_of]
  .exact .inr ⟨hi,by simp[Trace.g?,w,W y G],y,G,U⟩
 refine⟨h.base,h.IT,h.hC,h.ne,h.PY,h.Rv,h.IU,h.ms,h.NM,λsaid=>?_,seen_app h.seen hl,λi a hi q d=>?_,λy w i a hi q d=>?_,λi a b hi q S=>?_,λi a hi q d=>?_,λy w i a hi q E H b o v I R=>?_,h.sh u⟩
 .refine noRace_append (h.nr said) W λi a q op mq b S A=>?_;have L:b.loc.isMemory=ab:=by rw[<-A.1];exact A.2.1
  have hT:=ht op mq b S L;obtain⟨c,l⟩:=BL A.2.1;rcases cD i Y.T0 with hi|hi
  .rcases h.Rw x C i a hi q A.2.1 with hk|⟨hs,Z⟩
   .exact hk
   .exfalso;have n:=BM hs l;rw[A.1]at l;rcases hT with⟨ad,e1,e2,e3⟩|⟨e0,⟨c',e1,e2⟩|⟨o,e1,_⟩|⟨e1,p,o,v,e2,e3⟩⟩
    .rw[e1]at l;simp only[l0,dm]at l;rw[<-l,e2]at n;exact h.PY n
    .rw[e1]at l;simp only[dm]at l;rw[<-l]at n;rw[h.IU _ n]at e2;omega
    .rw[e1]at l;simp only[l0,dm]at l;rw[<-l]at n;exact h.Rv n
    .rw[e2]at l;simp only[l0,dm]at l;rw[<-l]at n;exact(h.ms x C p o v e3).2.2.2 n
  .rcases h.new i a hi q A.2.1 with⟨E,P⟩|⟨y,w,E,K⟩
   ·
    by_cases F:a.write=ab/\∃p o v,a.loc=.cell ⟨p,o,ae⟩/\f x p o=aa v
    .obtain⟨h1,p,o,v,h2,X⟩:=F;exact h.mw x C i a hi q E h1 p o v h2 X
    .exfalso;refine h.apart (said:=said) C P hT A.1.symm ?_ (λ_ J p o v k R=>F ⟨J,p,o,v,k,R⟩) A.2.2.1.symm;rcases A.2.2.2 with hk|hk|⟨h1,h2,X⟩
     .grind
     .grind
     grind
   .by_cases N:y=x
    .grind [vm]
    .exfalso;obtain⟨k,_,H,O⟩:=A;rcases K with⟨ad,e1,e2,e3⟩|⟨e0,⟨c1,e1,e2⟩|⟨o,e1,e1l,e1u⟩|⟨e1,p,o,v,e2,e3⟩⟩
     .rcases hT with⟨D,e,m,z⟩|⟨f0,⟨c2,e,m⟩|⟨o,e,_⟩|⟨e,p,o,v,m,z⟩⟩
      .grind
      .rw[<-k,e1]at e;simp only[l0,dm]at e;rw[<-e,e2,h.IT]at m;omega
      .rw[<-k,e1]at e;cases e;exact h.ne e2
      .rw[<-k,e1]at m;cases m;exact(h.ms x C p o v z).2.2.1 e2
     .rcases hT with⟨D,e,m,z⟩|⟨f0,⟨c2,e,m⟩|⟨o,e,_⟩|⟨e,p,o,v,m,z⟩⟩
      .rw[k,e]at e1;simp only[l0,dm]at e1;rw[<-e1,m,h.IT]at e2;omega
      .grind
      .rw[k,e]at e1;simp only[l0,dm]at e1;rw[<-e1,h.hC]at e2;omega
      .rw[k,m]at e1;simp only[l0,dm]at e1;rw[<-e1,(h.ms x C p o v z).1]at e2;omega
     .rcases hT with⟨D,e,m,z⟩|⟨f0,⟨c2,e,m⟩|⟨Q,e,M,T⟩|⟨e,p,Q,v,m,z⟩⟩
      .rw[<-k,e1]at e;cases e;exact h.ne m
      .rw[<-k,e1]at e;simp only[l0,dm]at e;rw[<-e,h.hC]at m;omega
      .rw[<-k,e1]at e;cases e;rcases Nat.lt_or_gt_of_ne N with h1|h1
       .have:=u5 Y.kc (show y+1<=x from h1);grind
       .have:=u5 Y.kc (show x+1<=y from h1);grind
      .rw[<-k,e1]at m;cases m;exact(h.ms x C _ _ v z).2.1 rfl
     .rcases hT with⟨D,e,m,z⟩|⟨f0,⟨c2,e,m⟩|⟨Q,e,M,T⟩|⟨e,b2,Q,v',m,z⟩⟩
      .rw[<-k,e2]at e;cases e;exact(h.ms y w p o v e3).2.2.1 m
      .rw[<-k,e2]at e;simp only[l0,dm]at e;rw[<-e,(h.ms y w p o v e3).1]at m;omega
      .rw[<-k,e2]at e;cases e;exact(h.ms y w _ _ v e3).2.1 rfl
      grind
 .have s:touchAt t i=aa a:=by rw[<-touchAt_old (u:=u) (cU hi h.T0)];exact q
  exact(h.old i a hi s d).imp (·.app u) id
 .have s:touchAt t i=aa a:=by rw[<-touchAt_old (u:=u) (cU hi h.T0)];exact q
  exact(h.Rw y w i a hi s d).imp (·.app u) id
 .have s:touchAt t i=aa a:=by rw[<-touchAt_old (u:=u) (cU hi h.T0)];exact q
  exact h.Hl i a b hi s S
 .rcases r q with⟨h1,h2⟩|⟨_,h2,op,mq,V⟩
  .rw[kC h1];exact h.new i a hi h2 d
  grind
 .rcases r q with⟨h1,h2⟩|⟨_,h2,_⟩
  .rw[kC h1]at E;exact(h.mw y w i a hi h2 E H b o v I R).app u
  grind
def TL.mute(h:TL Y d f t j B){g:Nat}(q:∀op∈u,op.g=g)(hl:∀op∈u,op.act.low B)(w:∀op∈u,op.act.touch?=ae):TL Y d f (t++u) j B:=by
 have old:∀{i:Nat} {a:Touch},touchAt (t++u) i=aa a->i<t.size/\touchAt t i=aa a:=by intro i a c;obtain⟨y,s,r⟩:=touch_of c;grind[touchAt_of]
 refine⟨h.base,h.IT,h.hC,h.ne,h.PY,h.Rv,h.IU,h.ms,h.NM,λsaid=>noRace_append (h.nr said) q λi a _ op mq b m _=>(by grind),seen_app h.seen hl,λi a hi c d=>(h.old i a hi (old c).2 d).imp (·.app u) id,
  λx k i a hi c d=>(h.Rw x k i a hi (old c).2 d).imp (·.app u) id,λi a b hi c m=>h.Hl i a b hi (old c).2 m,λi a hi c d=>?_,λx k i a hi c n l b o v e p=>?_,h.sh u⟩
 .rw[kC (old c).1];exact h.new i a hi (old c).2 d
 .rw[kC (old c).1]at n;exact(h.mw x k i a hi (old c).2 n l b o v e p).app u
def TL.fork(h:TL Y d f t j B){x y:MemOp}(m:x.g=0/\x.act=.go (Y.base+j))(n:y.g=Y.base+j/\y.act=.start)(D:Deaf t 0=0)(hk:Deaf t (Y.base+j)=0)(G:∀b o v,f j b o=aa v->d b=0/\b≠Y.C/\b≠Y.Wg/\¬Y.Sh b):TL Y d f (t++#[x,y]) (j+1) B:=by
 have F:∀op∈#[x,y],op.act.touch?=ae:=by
  intro op mq;simp only[List.mem_toArray,eE,n5,mo]at mq;rcases mq with rfl|rfl
  .rw[m.2];rfl
  .rw[n.2];rfl
 have k:∀op∈#[x,y],op.act.low B:=by
  intro op mq;simp only[List.mem_toArray,eE,n5,mo]at mq;rcases mq with rfl|rfl
  .rw[m.2];trivial
  .rw[n.2];trivial
 have old:∀{i:Nat} {a:Touch},touchAt (t++#[x,y]) i=aa a->i<t.size/\touchAt t i=aa a:=by intro i a c;obtain⟨z,p,E⟩:=touch_of c;grind[touchAt_of]
 have w:∀z,z<j+1->∀b o v,f z b o=aa v->d b=0/\b≠Y.C/\b≠Y.Wg/\¬Y.Sh b:=λz p b o v q=>by
  rcases cD z j with h1|h1
  .exact h.ms z h1 b o v q
  grind
 refine⟨h.base,h.IT,h.hC,h.ne,h.PY,h.Rv,h.IU,w,h.NM,λsaid=>?_,seen_app h.seen k,λi a hi c d=>(h.old i a hi (old c).2 d).imp (·.app _) id,
  λz p i a hi c d=>?_,λi a b hi c r=>h.Hl i a b hi (old c).2 r,λi a hi c d=>?_,λz p i a hi c A s b o v l q=>?_,h.sh _⟩
 .have e:t++#[x,y]=(t++#[x])++#[y]:=by grind
  rw[e];refine noRace_append (g:=Y.base+j) (noRace_append (g:=0) (h.nr said) (λop mq=>by grind) (λi a _ op mq b r _=>?_)) (λop mq=>by grind) (λi a _ op mq b r _=>?_)
  .grind
  grind
 .rcases cD z j with h1|h1
  .exact(h.Rw z h1 i a hi (old c).2 d).imp (·.app _) id
  .obtain rfl:z=j:=by omega
   exact(h.old i a hi (old c).2 d).imp (fork_knows m n D hk) id
 .rw[kC (old c).1];rcases h.new i a hi (old c).2 d with h1|⟨z,h1,h2⟩
  .grind
  grind
 .rw[kC (old c).1]at A;rcases cD z j with h1|h1
  .exact(h.mw z h1 i a hi (old c).2 A s b o v l q).app _
  .obtain rfl:z=j:=by omega
   exact fork_knows m n D hk (vm (old c).2 A)
def TL.X9(h:TL Y d f t j B)(I:Deaf t 0=0)(J:NoRelease (stA Y.Wg) t){q:Nat}(L:t.act? q=aa (.mark (.acquire (stA Y.Wg))))(y:t.g? q=aa 0)(E:t.heard q)(G:∀x,x<j->∃r,RelBy (stA Y.Wg) t (Y.base+x) r/\r<q):Past (lW λb=>Y.Sh b∨b=Y.Wg) B t:=by
 have m:∀x,x<j->∀i,t.g? i=aa (Y.base+x)->t.counts i->HappensBefore t i q:=by
  intro x w i p s;obtain⟨r,c,C⟩:=G x w;have e:HappensBefore t r q:=.single (.inr ⟨.marked C (.inr c.act) L (λk _ _=>J k),c.heard,E⟩);have M:i<=r:=Nat.le_of_not_lt λn=>c.after i n p s;rcases cD i r with n|H
  .exact .trans (.single (.inl ⟨n,_,p,c.g⟩)) e
  grind
 have o:∀{l:Go.Loc},lW Y.Sh l->lW (λb=>Y.Sh b∨b=Y.Wg) l:=λ{l} hl=>by cases l<;>first|exact .inl hl|exact hl
 refine⟨h.nr,λi a v d=>?_,λi g p A s=>?_,I,h.seen⟩
 .rcases cD i Y.T0 with hi|hi
  .exact(h.old i a hi v d).imp id λ⟨h1,h2⟩=>⟨o h1,h2⟩
  .rcases h.new i a hi v d with⟨h1,_⟩|⟨x,w,p,hT⟩
   .grind [vm]
   .rcases hT with⟨ad,e1,e2,e3⟩|⟨N,_⟩
    .exact .inr ⟨by rw[e1];exact .inr e2,e3⟩
    .left;have s:t.counts i:=⟨a,v,d,.inl (by grind)⟩
     obtain⟨z,K,D⟩:=qL.1 y;exact⟨q,z,K,D,.inr (m x w i p s)⟩
 .rcases cD i Y.T0 with hi|hi
  .exact h.over i g hi p A s
  .obtain⟨a,v,d,hk⟩:=s;rcases h.new i a hi v d with⟨h1,_⟩|⟨x,w,F,hT⟩
   .grind
   .exact⟨q,y,m x w i F ⟨a,v,d,hk⟩⟩
def TL.start{Y:Lay}{t:Trace}{B:Nat}{f:Nat->Mem}(e:Past (lW Y.Sh) B t)(hT:Y.T0=t.size)(m:1<=Y.base)(b:Y.C≠Y.Wg)(k:¬Y.Sh Y.Wg)(h:¬Y.Sh Y.C):TL Y (λ_=>0) f t 0 B :=
 ⟨m,rfl,rfl,b,k,h,λ_ _=>rfl,λx c=>absurd c (fL x),by omega,e.clean,e.seen,λi a _ l d=>e.known i a l d,λx c=>absurd c (fL x),λ_ _ _ _ _ _=>rfl,
  λi a hi l _=>by
   obtain⟨x,c,_⟩:=touch_of l
   grind,λx c=>absurd c (fL x),λi g _ o b n=>e.over i g o b n⟩
end
end
section
open Go.Conc
open Go.ConcN (WD CTag Mode Vc Ssum pend phi cnt WgLive PayAt Has RW DWs WSit RelBy sumTo upd upd_same upd_ne AtR0 get_map_set get_map_set_same norel_of Deaf_still)
open Go.ConcR (KK WgAt stA smA rd wr mk Payload g_of_ofEvents)
def Cx.work(P:aq):Cx P:={main:=af,rely:=ck,xY:=λ_ _ _=>False,iv:=id,Bn:=True}
def Cx.lead(P:aq)(ty:aj)(Wg:Nat):Cx P:={main:=ab,rely:=λs s'=>ck s s'/\(WgLive ty Wg s.w->WgLive ty Wg s'.w),xY:=λ_ _ _=>False,iv:=λh=>h.1,Bn:=False}
instance (P:aq):(Cx.work P).gY:=⟨ay⟩
def E0:St->St->Array Event->Prop:=λ_ _ _=>False
def Es(Wg:Nat):St->St->Array Event->Prop:=λs s' es=>s'=s/\∃a:Addr,a.block=Wg/\(es=#[mk (.read a)]∨es=#[mk (.write a)])
def PZ:Nat->Go.Loc->Prop:=λ_ _=>False
variable [Payload]
structure UC(C N lo k:Nat)(vs:Nat->ah)(w w':aA):Prop where
 tape:w'.tape=w.tape
 os:w'.os=w.os
 output:w'.output=w.output
 size:w'.heap.size=w.heap.size
 block:∀b,b≠C->w'.heap[b]?=w.heap[b]?
 pay:PayAt C N w'
 out:∀o,(o<lo∨lo+k<=o)->w'.cell? ⟨C,o,ae⟩=w.cell? ⟨C,o,ae⟩
 new:∀i,i<k->w'.cell? ⟨C,lo+i,ae⟩=aa (vs i)
section
variable (P:aq)(ty:aj)(Y:Lay)(N:Nat)(val:Nat->Nat->ah)
def JK(x:Nat)(g:av)(s:St):Prop :=
 g.status=.running/\∀w1,ck s {s with w:=w1}->PayAt Y.C N w1->WgLive ty Y.Wg w1 ->
  ∃g' w2 es,aH P af g w1=.go g' w2 es/\UC Y.C N (Y.kc*x) Y.kc (val x) w1 w2/\(∀e∈es,∃o,e=⟨.cell ⟨Y.C,o,ae⟩,ab,af⟩/\Y.kc*x<=o/\o<Y.kc*x+Y.kc) /\
   ∃m,Goes P af (RW ty Y.Wg Y.C N 0 (Y.kc*x)) Go.ConcR.DC0 (AtR0 P ty Y.Wg Y.C N 0 (Y.kc*x+1) (val x 0)) m g' w2
end
structure l3(f:Nat->Nat)(r:Mem)(g:Nat)(s:St):Prop where
 blk:∀b,(s.own b∨∃L∈s.β,b∈L.bs)->f b=g/\b<s.w.heap.size
 M:∀b o v,s.M b o=aa v->(f b=g∨r b o=aa v)/\b<s.w.heap.size
structure jM(Y:Lay)(f:Nat->Nat)(A:Nat->Mem)(j:Nat)(s:St):Prop where
 blk:∀b,(s.own b∨∃L∈s.β,b∈L.bs)->f b=0/\b≠Y.C/\b≠Y.Wg/\¬Y.Sh b/\b<s.w.heap.size
 M:∀b o v,s.M b o=aa v->f b=0/\b≠Y.C/\b≠Y.Wg/\¬Y.Sh b/\b<s.w.heap.size
 ms:∀x,x<j->∀b o v,A x b o=aa v->s.M b o=aa v
structure Hm(Y:Lay)(f:Nat->Nat)(r:Mem)(y:Nat)(w w':aA):Prop where
 size:w.heap.size<=w'.heap.size
 blk:∀b,b<w.heap.size->f b=Y.base+y->w'.heap[b]?=w.heap[b]?
 cell:∀b o v,r b o=aa v->w.cell? ⟨b,o,ae⟩=aa v->w'.cell? ⟨b,o,ae⟩=aa v
 pay:∀o,Y.kc*y<=o->o<Y.kc*y+Y.kc->w'.cell? ⟨Y.C,o,ae⟩=w.cell? ⟨Y.C,o,ae⟩
 os:w'.os=w.os
 tape:w'.tape=w.tape
 output:w'.output=w.output
omit [Payload]in
def Hm.refl(Y:Lay)(f:Nat->Nat)(r:Mem)(y:Nat)(w:aA):Hm Y f r y w w:=⟨bh _,λ_ _ _=>rfl,λ_ _ _ _ h=>h,λ_ _ _=>rfl,rfl,rfl,rfl⟩
omit [Payload]in
def Hm.at(Y:Lay)(f:Nat->Nat)(r:Mem)(y:Nat)(w:aA)(d:Nat):Hm Y f r y w (w.at d):=⟨bh _,λ_ _ _=>rfl,λ_ _ _ _ h=>h,λ_ _ _=>rfl,rfl,rfl,rfl⟩
structure DZ(Y:Lay)(f:Nat->Nat)(w w':aA):Prop where
 size:w.heap.size<=w'.heap.size
 blk:∀b,b<w.heap.size->f b=0->b≠Y.C->b≠Y.Wg->w'.heap[b]?=w.heap[b]?
 os:w'.os=w.os
 tape:w'.tape=w.tape
 output:w'.output=w.output
omit [Payload]in
def jN{w w':aA}{b:Nat}(h:w'.heap[b]?=w.heap[b]?)(o:Nat):w'.cell? ⟨b,o,ae⟩=w.cell? ⟨b,o,ae⟩:=by simp[aV,h]
omit [Payload]in
def ck.more{s:St}{w w':aA}(h:ck s {s with w:=w})(u:w.heap.size<=w'.heap.size)(c:∀b,(s.own b∨∃L∈s.β,b∈L.bs)->w'.heap[b]?=w.heap[b]?)(X:∀b o v,s.M b o=aa v->w.cell? ⟨b,o,ae⟩=aa v->w'.cell? ⟨b,o,ae⟩=aa v)(l:w'.os=w.os)(q:w'.tape=w.tape)(t:w'.output=w.output):ck s {s with w:=w'} :=
 ⟨rfl,rfl,rfl,iP h.size u,λb J=>by show w'.heap[b]?=_;rw[c b J];exact h.fe b J,λb o v p=>X b o v p (h.mem b o v p),l.trans h.os,q.trans h.tape,t.trans h.output⟩
section
variable {Y:Lay}{f hm':Nat->Nat}{A:Nat->Mem}{j y:Nat}{s:St}{w w':aA}
omit [Payload]in
def l3.JL(n:l3 f (A y) (Y.base+y) s)(h:ck s {s with w:=w})(k:Hm Y f (A y) y w w'):ck s {s with w:=w'}:=by
 have u:=h.size;refine h.more k.size (λb c=>?_) (λb o v p K=>?_) k.os k.tape k.output
 .obtain⟨l,q⟩:=n.blk b c;exact k.blk b (cU q u) l
 .obtain⟨l,q⟩:=n.M b o v p;rcases l with l|l
  .rw[jN (k.blk b (cU q u) l) o];exact K
  .exact k.cell b o v l K
omit [Payload]in
def l3.tp{r:Mem}{g:Nat}(n:l3 f r g s)(h:s.w.heap.size<=w.heap.size)(W:∀b,b<w.heap.size->hm' b=f b):l3 hm' r g s :=
 ⟨λb c=>let ⟨l,q⟩:=n.blk b c;⟨by grind,q⟩,λb o v p=>let ⟨l,q⟩:=n.M b o v p;⟨by grind,q⟩⟩
omit [Payload]in
def jM.JL(n:jM Y f A j s)(h:ck s {s with w:=w})(k:DZ Y f w w'):ck s {s with w:=w'}:=by
 have u:=h.size;refine h.more k.size (λb c=>?_) (λb o v p K=>?_) k.os k.tape k.output
 .obtain⟨l,q,t,F,D⟩:=n.blk b c;exact k.blk b (cU D u) l q t
 .obtain⟨l,q,t,F,D⟩:=n.M b o v p;rw[jN (k.blk b (cU D u) l q t) o];exact K
omit [Payload]in
def jM.tp(n:jM Y f A j s)(h:s.w.heap.size<=w.heap.size)(W:∀b,b<w.heap.size->hm' b=f b):jM Y hm' A j s :=
 ⟨λb c=>let ⟨l,q,t,F,D⟩:=n.blk b c;⟨by grind,q,t,F,D⟩,
  λb o v p=>let ⟨l,q,t,F,D⟩:=n.M b o v p;⟨by grind,q,t,F,D⟩,n.ms⟩
omit [Payload]in
def l3.rely{r:Mem}{g:Nat}(n:l3 f r g s)(h:s.w.heap.size<=w.heap.size):l3 f r g {s with w:=w} :=
 ⟨λb c=>let ⟨l,q⟩:=n.blk b c;⟨l,cU q h⟩,λb o v p=>let ⟨l,q⟩:=n.M b o v p;⟨l,cU q h⟩⟩
omit [Payload]in
def jM.rely(n:jM Y f A j s)(h:s.w.heap.size<=w.heap.size):jM Y f A j {s with w:=w} :=
 ⟨λb c=>let ⟨l,q,t,F,D⟩:=n.blk b c;⟨l,q,t,F,cU D h⟩,λb o v p=>let ⟨l,q,t,F,D⟩:=n.M b o v p;⟨l,q,t,F,cU D h⟩,n.ms⟩
omit [Payload]in
theorem l3.ghost{r:Mem}{g:Nat}{s':St}(n:l3 f r g s)(k:eu s s'):l3 f r g s':=by
 refine⟨λb c=>by rw[k.w];exact n.blk b (k.blk b c),λb o v p=>?_⟩;rw[k.w];by_cases c:∃L∈s.β,b∈L.bs
 .obtain⟨l,q⟩:=n.blk b (.inr c);grind
 .exact n.M b o v (by rw[<-k.iU b (λL E z=>c ⟨L,E,z⟩)];exact p)
omit [Payload]in
def l3.forget{r:Mem}{g:Nat}{s':St}(n:l3 f r g s)(k:mV s s'):l3 f r g s' :=
 ⟨λb c=>by rw[k.w];exact n.blk b (by rw[<-k.own,<-k.β];exact c),λb o v p=>by rw[k.w];exact n.M b o v (k.less b o v p)⟩
omit [Payload]in
theorem jM.ghost{s':St}(n:jM Y f A j s)(k:eu s s'):jM Y f A j s':=by
 refine⟨λb c=>by rw[k.w];exact n.blk b (k.blk b c),λb o v p=>?_,λx O b o v p=>k.mem _ _ _ (n.ms x O b o v p)⟩;rw[k.w];by_cases c:∃L∈s.β,b∈L.bs
 .exact n.blk b (.inr c)
 .exact n.M b o v (by rw[<-k.iU b (λL E z=>c ⟨L,E,z⟩)];exact p)
def nw(f:Nat->Nat)(B g:Nat):Nat->Nat:=λb=>if b<B then f b else g
omit [Payload]in
theorem eZ{f:Nat->Nat}{B g b:Nat}(h:b<B):nw f B g b=f b:=by simp[nw,h]
omit [Payload]in
theorem tq{f:Nat->Nat}{B g b:Nat}(h:B<=b):nw f B g b=g:=by simp[nw,mn.2 h]
omit [Payload]in
def l3.step{r:Mem}{g:Nat}{s':St}{σ σ':List aP}(n:l3 f r g s)(G:aF σ' s')(st:Step σ s σ' s'):l3 (nw f s.w.heap.size g) r g s':=by
 refine⟨λb c=>?_,λb o v p=>?_⟩
 .rcases c with c|⟨L,E,c⟩
  .rw[st.own]at c;obtain⟨l,q⟩:=n.blk b (.inl c);exact⟨by grind[eZ],cU q st.size⟩
  .have H:=G.lt L E b c;rcases st.vb L E b c with l|⟨R,I,l⟩
   .grind [tq]
   .obtain⟨k1,Q⟩:=n.blk b (.inr ⟨R,I,l⟩);grind[eZ]
 .have H:=gL.lt G.mem p;rcases cD b s.w.heap.size with l|l
  .rw[eZ l];by_cases c:∃L∈s.β,b∈L.bs
   .exact⟨.inl (n.blk b (.inr c)).1,H⟩
   .rw[st.iU b l (λL E z=>c ⟨L,E,z⟩)]at p;exact⟨(n.M b o v p).1,H⟩
  grind[tq]
omit [Payload]in
def jM.step{s':St}{σ σ':List aP}(n:jM Y f A j s)(G:aF σ' s')(st:Step σ s σ' s')(Z:Y.Wg<s.w.heap.size)(hC:Y.C<s.w.heap.size)(hS:∀b,Y.Sh b->b<s.w.heap.size):jM Y (nw f s.w.heap.size 0) A j s':=by
 have U:∀b,s.w.heap.size<=b->b<s'.w.heap.size->nw f s.w.heap.size 0 b=0/\b≠Y.C/\b≠Y.Wg/\¬Y.Sh b/\b<s'.w.heap.size:=λb l q =>
  ⟨tq l,by omega,by omega,λh=>by grind,q⟩
 refine⟨λb c=>?_,λb o v p=>?_,λx O b o v p=>st.mem _ _ _ (n.ms x O b o v p)⟩
 .rcases c with c|⟨L,E,c⟩
  .rw[st.own]at c;obtain⟨l,q,t,F,D⟩:=n.blk b (.inl c);exact⟨by grind[eZ],q,t,F,cU D st.size⟩
  .have H:=G.lt L E b c;rcases st.vb L E b c with l|⟨R,I,l⟩
   .grind
   .obtain⟨k1,Q,S,T,V⟩:=n.blk b (.inr ⟨R,I,l⟩);grind[eZ]
 .have H:=gL.lt G.mem p;rcases cD b s.w.heap.size with l|l
  .by_cases c:∃L∈s.β,b∈L.bs
   .obtain⟨k1,Q,S,T,V⟩:=n.blk b (.inr c);grind[eZ]
   .rw[st.iU b l (λL E z=>c ⟨L,E,z⟩)]at p;obtain⟨k1,Q,S,T,V⟩:=n.M b o v p;grind[eZ]
  grind
end
end
section
open Go.Conc
open Go.ConcN (WD CTag Mode Vc Ssum pend phi cnt WgLive PayAt Has RW DWs WSit RelBy sumTo upd upd_same upd_ne AtR0 get_map_set get_map_set_same norel_of Deaf_still)
open Go.ConcR (KK WgAt stA smA rd wr mk Payload g_of_ofEvents)
variable [Payload]
section
variable (P:aq)(ty:aj)(Y:Lay)(N:Nat)(val:Nat->Nat->ah)(l:Nat->Nat)(c:Nat->Mem)
inductive WS (x:Nat):Nat->Nat->Rk->Nat->av->aA->Prop
 |am {r:Rk} {g:av} {s:St} {w:aA}:ko (Cx.work P) E0 (JK P ty Y N val x) r g s->ck s {s with w:=w}->l3 l (c x) (Y.base+x) s->WS x 1 7 r 0 g w
 |rel {m:Nat} {g:av} {w:aA}:Goes P af (RW ty Y.Wg Y.C N 0 (Y.kc*x)) Go.ConcR.DC0 (AtR0 P ty Y.Wg Y.C N 0 (Y.kc*x+1) (val x 0)) m g w->WS x 0 7 (Rk.nat m) 0 g w
 |tail {st m d:Nat} {g:av} {w:aA}:st<=6->WSit P ty Y.Wg Y.C N PZ PZ 0 (Y.kc*x+1) (val x 0) st m d g w->WS x 0 st (Rk.nat m) d g w
structure Com(j:Nat)(gs:Array av)(w:aA)(t:Trace)(D:Nat->WD)(A:Nat->Nat)(K:Nat->Rk)(n:Nat):Prop where
 size:gs.size=Y.base+j
 lv:∀i g,0<i->i<Y.base->gs[i]?=aa g->∃m,K i=Rk.nat m/\QuitsD P m (Deaf t i) g
 above:∀i,Y.base+j<=i->Deaf t i=0
 wk:∀x,x<j->∃g,gs[Y.base+x]?=aa g/\WS P ty Y N val l c x (A x) (D x).stage (K (Y.base+x)) (D x).deaf g w
 tl:TL Y l c t j w.heap.size
 norel:rS t
 deaf0:Deaf t 0=n
 deafW:∀x,x<j->Deaf t (Y.base+x)=(D x).deaf
 rel:∀x,x<j->(D x).stage<=6->∃r,RelBy (stA Y.Wg) t (Y.base+x) r
 x8:∀x,x<j->A x=0->∀i,1<=i->i<Y.kc->w.cell? ⟨Y.C,Y.kc*x+i,ae⟩=aa (val x i)
 BN:∀x,x<j->(D x).stage<=6->Has Y.C (Y.kc*x) (val x 0) w
 pay:PayAt Y.C N w
 live:WgLive ty Y.Wg w
 Bf:Y.Wg<w.heap.size
 Dx:Y.C<w.heap.size
 MZ:∀b,Y.Sh b->b<w.heap.size
 kc:0<Y.kc
 NN:∀y,y<j->∀b o v,c y b o=aa v->b<w.heap.size
end
section
variable {P:aq}{ty:aj}{Y:Lay}{N:Nat}{val:Nat->Nat->ah}{l hm':Nat->Nat}{c:Nat->Mem}{j x:Nat}{gs:Array av}{w w':aA}{t:Trace}{D:Nat->WD}{A:Nat->Nat}{K:Nat->Rk}{n:Nat}
def RW.JL(k:Hm Y l (c x) x w w')(hl:WgLive ty Y.Wg w')(a:PayAt Y.C N w')(hk:0<Y.kc):RW ty Y.Wg Y.C N 0 (Y.kc*x+1-1) w w' :=
 ⟨λb d=>absurd d (fL b),λ_=>hl,λ_=>a,k.pay _ (bh _) (by grind)⟩
def WS.JL{a st d:Nat}{r:Rk}{g:av}(h:WS P ty Y N val l c x a st r d g w)(k:Hm Y l (c x) x w w')(hl:WgLive ty Y.Wg w')(e:PayAt Y.C N w')(hk:0<Y.kc)(hh:∀b,b<w.heap.size->hm' b=l b):
  WS P ty Y N val hm' c x a st r d g w':=by
 cases h with
 |am h1 h2 h3=>exact .am h1 (h3.JL h2 k) (h3.tp h2.size hh)
 |rel h1=>exact .rel (Goes.rely (λ_ _ _ h1 h2=>h1.trans h2) h1 (RW.JL k hl e hk))
 |tail h0 h1=>exact .tail h0 (h1.rely (RW.JL k hl e hk))
omit [Payload]in
def ko.run{X:Cx P}{E:St->St->Array Event->Prop}{S:av->St->Prop}(p:∀g s,S g s->g.status=.running):∀{r:Rk}{g:av}{s:St},ko X E S r g s->g.status=.running
 |.leaf,_,_,h=>p _ _ h
 |.node f,g,s,h=>by
  rcases h with h|⟨s',_,h⟩|⟨h,_⟩
  .grind
  .exact ko.run p (r:=f s) h
  grind
def WS.status{a st d:Nat}{r:Rk}{g:av}(h:WS P ty Y N val l c x a st r d g w):g.status=.running∨g.status=.finished:=by
 cases h with
 |am h1 _ _=>exact .inl (h1.run λg s h=>h.1)
 |rel h1=>exact .inl (Goes.running (λ_ _ x=>x.1) w (Go.ConcN.RW.refl w) h1)
 |tail _ h1=>exact h1.status
def WS.woken{a st d:Nat}{r:Rk}{g:av}(h:WS P ty Y N val l c x a st r d g w)(b e:av)(w':aA):woken P b e w' g=g:=by
 unfold Go.Conc.woken;split
 .exact again_running _ h.status
 .rfl
def Com.at(h:Com P ty Y N val l c j gs w t D A K n)(d:Nat):Com P ty Y N val l c j gs (w.at d) t D A K n :=
 ⟨h.size,h.lv,h.above,λx a=>let ⟨g,h1,h2⟩:=h.wk x a;⟨g,h1,h2.JL (.at ..) h.live h.pay h.kc λ_ _=>rfl⟩,h.tl,h.norel,h.deaf0,h.deafW,h.rel,h.x8,h.BN,h.pay,h.live,h.Bf,h.Dx,h.MZ,h.kc,h.NN⟩
def Com.stepW(h:Com P ty Y N val l c j gs w t D A K n)(hx:x<j){g g':av}{fn:aJ}{pos:String}{es:Array Event}{a' qx d':Nat}{r':Rk}(hh:∀b,b<w.heap.size->hm' b=l b)(u:w.heap.size<=w'.heap.size)(q:∀y,y<j->y≠x->Hm Y l (c y) y w w')(Q:WS P ty Y N val hm' c x a' qx r' d' g' w')(UD:∀e∈es,(aK e).low w'.heap.size)(Xf:∀e∈es,∀a,(aK e).touch?=aa a->a.loc.isMemory=ab->qE Y hm' (c x) x a)(V:∀e∈es,∀a,e.loc≠.mark (.release a))(I:deafBehind (D x).deaf es=d')(acn:qx<=6->∃r,RelBy (stA Y.Wg) (t++MemOp.ofEvents (Y.base+x) fn pos es) (Y.base+x) r)(h1:a'=0->∀i,1<=i->i<Y.kc->w'.cell? ⟨Y.C,Y.kc*x+i,ae⟩=aa (val x i))(h0:qx<=6->Has Y.C (Y.kc*x) (val x 0) w')(H:PayAt Y.C N w')(B:WgLive ty Y.Wg w'):
  Com P ty Y N val hm' c j ((gs.map (woken P g g' w')).setIfInBounds (Y.base+x) g') w' (t++MemOp.ofEvents (Y.base+x) fn pos es) (upd D x ⟨qx,0,d'⟩) (upd A x a') (upd K (Y.base+x) r') n:=by
 have Z:=h.tl.base;have F:∀y,y≠x->Y.base+x≠Y.base+y:=λy d e=>d (by omega);have R:∀i G,0<i->i<Y.base->((gs.map (Go.Conc.woken P g g' w')).setIfInBounds (Y.base+x) g')[i]?=aa G->gs[i]?=aa G:=by intro i G hi P0 x9;rw[get_map_set _ _ _ _ (by omega)]at x9;obtain⟨z,hz,rfl⟩:=qL.1 x9;obtain⟨m,_,hq⟩:=h.lv i z hi P0 hz;grind[woken_quitsD]
 refine⟨by simp[h.size],λi G hi P0 x9=>?_,λi hi=>?_,λy d=>?_,?_,h.norel.app V,by rw[Deaf_other t (by omega) _ g_of_ofEvents,h.deaf0],λy d=>?_,λy d k=>?_,λy d L i W U=>?_,λy d k=>?_,H,B,cU h.Bf u,cU h.Dx u,λb Z=>cU (h.MZ b Z) u,h.kc,λy d b o v T=>cU (h.NN y d b o v T) u⟩
 .obtain⟨m,M,O⟩:=h.lv i G hi P0 (R i G hi P0 x9);refine⟨m,by rw[upd_ne K _ (by omega)];exact M,?_⟩;rw[Deaf_other t (by omega) _ g_of_ofEvents];exact O
 .rw[Deaf_other t (by omega) _ g_of_ofEvents];exact h.above i hi
 .by_cases e:y=x
  .subst e;exact⟨g',get_map_set_same _ _ _ (by rw[h.size];omega),by rw[upd_same,upd_same,upd_same];exact Q⟩
  .obtain⟨G,x9,J⟩:=h.wk y d;refine⟨G,by rw[get_map_set _ _ _ _ (F y e),x9,nZ,J.woken],?_⟩;rw[upd_ne A _ e,upd_ne D _ e,upd_ne K _ (F y e).symm];exact J.JL (q y d e) B H h.kc hh
 .refine(h.tl.tp hh u h.Bf h.Dx h.MZ λy d b o v T=>?_).appW hx (λop mq=>by grind[Go.Conc.mem_ofEvents]) (λop mq=>?_) (λop mq a L hma=>?_)
  .exact h.NN y d b o v T
  .grind [Go.Conc.mem_ofEvents]
  grind[Go.Conc.mem_ofEvents]
 .by_cases e:y=x
  .subst e;rw[Deaf_own,h.deafW y d,upd_same];exact I
  .rw[Deaf_other t (F y e) _ g_of_ofEvents,h.deafW y d,upd_ne D _ e]
 .by_cases e:y=x
  .subst e;rw[upd_same]at k;grind
  .rw[upd_ne D _ e]at k;obtain⟨r,hr⟩:=h.rel y d k;exact⟨r,hr.appOther g_of_ofEvents (F y e)⟩
 .by_cases e:y=x
  .subst e;rw[upd_same]at L;grind
  .rw[upd_ne A _ e]at L;rw[(q y d e).pay _ (by omega) (by omega)];exact h.x8 y d L i W U
 .by_cases e:y=x
  .subst e;rw[upd_same]at k;grind
  .rw[upd_ne D _ e]at k;have:=h.BN y d k;have hk:=h.kc;simp only[Has]at this⊢;rw[(q y d e).pay _ (by omega) (by omega)];exact this
def Com.step0(h:Com P ty Y N val l c j gs w t D A K n){g g':av}{fn:aJ}{pos:String}{es:Array Event}(hh:∀b,b<w.heap.size->hm' b=l b)(q:w.heap.size<=w'.heap.size)(k:∀y,y<j->Hm Y l (c y) y w w')(T:∀e∈es,(aK e).low w'.heap.size)(V:∀e∈es,∀a,(aK e).touch?=aa a->a.loc.isMemory=ab->se Y hm' a)(W:∀e∈es,∀a,(aK e).touch?=aa a->a.kind=.plain->a.write=ab->∀x,x<j->∀b o v,a.loc=.cell ⟨b,o,ae⟩->c x b o≠aa v)(L:∀e∈es,∀a,e.loc≠.mark (.release a))(B:PayAt Y.C N w')(u:WgLive ty Y.Wg w'):
  Com P ty Y N val hm' c j ((gs.map (woken P g g' w')).setIfInBounds 0 g') w' (t++MemOp.ofEvents 0 fn pos es) D A K (deafBehind n es):=by
 have R:=h.tl.base;have hk:=h.kc;refine⟨by simp[h.size],λi Q hi P0 x9=>?_,λi hi=>?_,λy d=>?_,?_,h.norel.app L,by rw[Deaf_own,h.deaf0],λy d=>by rw[Deaf_other t (by omega) _ g_of_ofEvents,h.deafW y d],λy d F=>?_,λy d M i O J=>?_,λy d F=>?_,B,u,cU h.Bf q,cU h.Dx q,λb R=>cU (h.MZ b R) q,h.kc,λy d b o v hv=>cU (h.NN y d b o v hv) q⟩
 .rw[get_map_set _ _ _ _ (by omega)]at x9;obtain⟨z,hz,rfl⟩:=qL.1 x9;obtain⟨m,I,G⟩:=h.lv i z hi P0 hz;exact⟨m,I,by rw[woken_quitsD G,Deaf_other t (by omega) _ g_of_ofEvents];exact G⟩
 .rw[Deaf_other t (by omega) _ g_of_ofEvents];exact h.above i hi
 .obtain⟨Q,x9,H⟩:=h.wk y d;exact⟨Q,by rw[get_map_set _ _ _ _ (by omega),x9,nZ,H.woken],H.JL (k y d) u B h.kc hh⟩
 .refine(h.tl.tp hh q h.Bf h.Dx h.MZ h.NN).app0 (λop mq=>by grind[Go.Conc.mem_ofEvents]) (λop mq=>?_) (λop mq a M Z=>?_) (λop mq a M=>?_)
  .grind [Go.Conc.mem_ofEvents]
  .grind [Go.Conc.mem_ofEvents]
  grind[Go.Conc.mem_ofEvents]
 .obtain⟨r,U⟩:=h.rel y d F;exact⟨r,U.appOther g_of_ofEvents (by omega)⟩
 .rw[(k y d).pay _ (by omega) (by omega)];exact h.x8 y d M i O J
 .have:=h.BN y d F;simp only[Has]at this⊢;rw[(k y d).pay _ (by omega) (by omega)];exact this
def Com.leave(h:Com P ty Y N val l c j gs w t D A K n){i m:Nat}(hi:0<i)(F:i<Y.base){g g':av}{fn:aJ}{pos:String}{es:Array Event}(v:∀e∈es,e.mute=ab)(L:QuitsD P m (deafBehind (Deaf t i) es) g'):
  Com P ty Y N val l c j ((gs.map (woken P g g' w)).setIfInBounds i g') w (t++MemOp.ofEvents i fn pos es) D A (upd K i (Rk.nat m)) n:=by
 have M:=h.tl.base;have q:∀e∈es,∀a,e.loc≠.mark (.release a):=λe I a=>vI (v e I) a;refine⟨by simp[h.size],λk C hk hkb x9=>?_,λk hk=>?_,λy d=>?_,?_,h.norel.app q,by rw[Deaf_other t (by omega) _ g_of_ofEvents,h.deaf0],λy d=>by rw[Deaf_other t (by omega) _ g_of_ofEvents,h.deafW y d],λy d u=>?_,h.x8,h.BN,h.pay,h.live,h.Bf,h.Dx,h.MZ,h.kc,h.NN⟩
 .by_cases e:k=i
  .subst e;rw[get_map_set_same _ _ _ (by grind)]at x9;cases x9;exact⟨m,by rw[upd_same],by grind[Deaf_own]⟩
  .rw[get_map_set _ _ _ _ (Ne.symm e)]at x9;obtain⟨z,G,rfl⟩:=qL.1 x9;obtain⟨J,B,b⟩:=h.lv k z hk hkb G;exact⟨J,by rw[upd_ne K _ e];exact B,by rw[woken_quitsD b,Deaf_other t (Ne.symm e) _ g_of_ofEvents];exact b⟩
 .rw[Deaf_other t (by omega) _ g_of_ofEvents];exact h.above k hk
 .obtain⟨C,x9,o⟩:=h.wk y d;exact⟨C,by rw[get_map_set _ _ _ _ (by omega),x9,nZ,o.woken],by rw[upd_ne K _ (by omega)];exact o⟩
 .exact h.tl.mute (g:=i) (λop mq=>by grind[Go.Conc.mem_ofEvents]) (λop mq=>by grind[Go.Conc.mem_ofEvents,low_mute]) (λop mq=>by grind[Go.Conc.mem_ofEvents,touch_mute])
 .obtain⟨r,H⟩:=h.rel y d u;exact⟨r,H.appOther g_of_ofEvents (by omega)⟩
def Com.spawn(h:Com P ty Y N val l c j gs w t D A K 0){a' child:av}{x y:MemOp}{r:Rk}{s:St}(H:x.g=0/\x.act=.go (Y.base+j))(J:y.g=Y.base+j/\y.act=.start)(O:∀b o v,c j b o=aa v->l b=0/\b≠Y.C/\b≠Y.Wg/\¬Y.Sh b/\b<w.heap.size)(M:ko (Cx.work P) E0 (JK P ty Y N val j) r child s)(u:ck s {s with w:=w})(L:l3 l (c j) (Y.base+j) s):
  Com P ty Y N val l c (j+1) ((gs.setIfInBounds 0 a').push child) w (t++#[x,y]) (upd D j ⟨7,0,0⟩) (upd A j 1) (upd K (Y.base+j) r) 0:=by
 have T:=h.tl.base;have Q:∀op∈#[x,y],op=x∨op=y:=by grind
 have d:∀op∈#[x,y],op.act≠.mark .disable/\op.act≠.mark .enable:=by grind
 have q:∀i,0<i->i<Y.base+j->((gs.setIfInBounds 0 a').push child)[i]?=gs[i]?:=λi hi s9=>by rw[Array.getElem?_push_lt (by simp[h.size];omega),<-fT,vG (by omega)]
 refine⟨by simp[h.size];omega,λi g hi P0 hg=>?_,λi hi=>?_,λz k=>?_,h.tl.fork H J h.deaf0 (h.above _ (bh _)) λb o v B=>let ⟨h1,h2,R,I,_⟩:=O b o v B;⟨h1,h2,R,I⟩,λad=>(h.norel ad).app λop mq=>?_,by rw[Deaf_still t 0 _ d,h.deaf0],λz k=>?_,λz k e=>?_,λz k G=>?_,λz k e=>?_,h.pay,h.live,h.Bf,h.Dx,h.MZ,h.kc,λz k b o v B=>?_⟩
 .rw[q i hi (by omega)]at hg;obtain⟨m,h1,h2⟩:=h.lv i g hi P0 hg;exact⟨m,by rw[upd_ne K _ (by omega)];exact h1,by rw[Deaf_still t _ _ d];exact h2⟩
 .rw[Deaf_still t _ _ d];exact h.above i (by omega)
 .rcases cD z j with s9|a
  .obtain⟨g,hg,F⟩:=h.wk z s9;exact⟨g,by grind,by rw[upd_ne D _ (by omega),upd_ne A _ (by omega),upd_ne K _ (by omega)];exact F⟩
  .obtain rfl:z=j:=by omega
   refine⟨child,?_,by rw[upd_same,upd_same,upd_same];exact .am M u L⟩;rw[show Y.base+z=(gs.setIfInBounds 0 a').size by simp[h.size],Array.getElem?_push_size]
 .grind
 .rw[Deaf_still t _ _ d];rcases cD z j with s9|a
  .rw[h.deafW z s9,upd_ne D _ (by omega)]
  .obtain rfl:z=j:=by omega
   rw[upd_same];exact h.above _ (bh _)
 .rcases cD z j with s9|a
  .rw[upd_ne D _ (by omega)]at e;obtain⟨r,u⟩:=h.rel z s9 e;refine⟨r,u.appNot λop mq=>?_⟩;grind
  .obtain rfl:z=j:=by omega
   rw[upd_same]at e;grind
 .rcases cD z j with s9|a
  .rw[upd_ne A _ (by omega)]at G;exact h.x8 z s9 G
  .obtain rfl:z=j:=by omega
   rw[upd_same]at G;grind
 .rcases cD z j with s9|a
  .rw[upd_ne D _ (by omega)]at e;exact h.BN z s9 e
  .obtain rfl:z=j:=by omega
   rw[upd_same]at e;grind
 .rcases cD z j with s9|a
  .exact h.NN z s9 b o v B
  grind
end
end
section
open Go.Conc
open Go.ConcN (WD CTag Mode Vc Ssum pend phi cnt WgLive PayAt Has RW DWs WSit RelBy sumTo upd upd_same upd_ne AtR0)
open Go.ConcR (KK WgAt stA smA rd wr mk Payload g_of_ofEvents again_blocked)
variable [Payload]
section
variable (P:aq)(ty:aj)(Y:Lay)(N:Nat)(val:Nat->Nat->ah)(n:Nat)(T l:av->St->Prop)
def AtAcq(g:av)(s:St):Prop:=g.status=.running/\∃g',(∀w,aH P ab g w=.go g' w #[mk (.acquire (stA Y.Wg))])/\∀c,(Cx.lead P ty Y.Wg).rely s c->T g' c
def AtKe(g:av)(s:St):Prop:=g.status=.running/\∃g',(∀w,aH P ab g w=.go g' w #[mk .enable])/\∀c,(Cx.lead P ty Y.Wg).rely s c->(er (Cx.lead P ty Y.Wg) (Es Y.Wg)) (AtAcq P ty Y T) g' c
def AtW4(g:av)(s:St):Prop:=g.status=.running/\∀c,(Cx.lead P ty Y.Wg).rely s c->WgAt ty Y.Wg c.w 0 0->∃g',aH P ab g c.w=.go g' c.w #[rd (stA Y.Wg)]/\(er (Cx.lead P ty Y.Wg) (Es Y.Wg)) (AtKe P ty Y T) g' c
def AtW3(g:av)(s:St):Prop:=g.status=.running/\g.offers=ae/\∀c,(Cx.lead P ty Y.Wg).rely s c ->
 ((∃st,WgAt ty Y.Wg c.w st 0)->aH P ab g c.w=.go {g with status:=.blocked} c.w #[]) /\
 (WgAt ty Y.Wg c.w 0 1->∃g',aH P ab g c.w=.go g' (c.w.setCell (smA Y.Wg) (.int .u32 0)) (semEvents (smA Y.Wg))/\(er (Cx.lead P ty Y.Wg) (Es Y.Wg)) (AtW4 P ty Y T) g' {c with w:=c.w.setCell (smA Y.Wg) (.int .u32 0)})
def AtW2(vs:Nat)(g:av)(s:St):Prop:=g.status=.running/\∀c,(Cx.lead P ty Y.Wg).rely s c->∀v:Nat,v<2147483648->WgAt ty Y.Wg c.w (v*KK) 0 ->
 (v=vs->∃g',aH P ab g c.w=.go g' (c.w.setCell (stA Y.Wg) (.int .u64 (v*KK+1))) #[rd (stA Y.Wg),wr (stA Y.Wg)]/\(er (Cx.lead P ty Y.Wg) (Es Y.Wg)) (AtW3 P ty Y T) g' {c with w:=c.w.setCell (stA Y.Wg) (.int .u64 (v*KK+1))}) /\
 (v≠vs->∃g',aH P ab g c.w=.go g' c.w #[rd (stA Y.Wg)]/\l g' c)
def AtW1(g:av)(s:St):Prop:=g.status=.running/\∀c,(Cx.lead P ty Y.Wg).rely s c->∀v:Nat,v<2147483648->WgAt ty Y.Wg c.w (v*KK) 0 ->
 ∃g',aH P ab g c.w=.go g' c.w #[rd (stA Y.Wg)]/\(v=0->(er (Cx.lead P ty Y.Wg) (Es Y.Wg)) (AtKe P ty Y T) g' c)/\(v≠0->(er (Cx.lead P ty Y.Wg) (Es Y.Wg)) (AtW2 P ty Y T l v) g' c)
def AtKd(g:av)(s:St):Prop:=g.status=.running/\∃g',(∀w,aH P ab g w=.go g' w #[mk .disable])/\∀c,(Cx.lead P ty Y.Wg).rely s c->l g' c
def St.child(s:St):St:={β:=[],M:=s.M,w:=s.w,own:=λ_=>False}
def AtGo(j:Nat)(Next:av->St->Prop)(g:av)(s:St):Prop:=g.status=.running/\∀c,(Cx.lead P ty Y.Wg).rely s c ->
 ∃g' child,aH P ab g c.w=.spawn g' child c.w #[]/\child.status=.running/\er (Cx.work P) E0 (JK P ty Y N val j) child c.child/\Next g' c
def AtKeS(j:Nat)(Next:av->St->Prop)(g:av)(s:St):Prop:=g.status=.running/\∃g',(∀w,aH P ab g w=.go g' w #[mk .enable])/\∀c,(Cx.lead P ty Y.Wg).rely s c->(er (Cx.lead P ty Y.Wg) (Es Y.Wg)) (AtGo P ty Y N val j Next) g' c
def AtA1(j:Nat)(Next:av->St->Prop)(g:av)(s:St):Prop:=g.status=.running/\∀c,(Cx.lead P ty Y.Wg).rely s c->∀v:Nat,v<2147483647->WgAt ty Y.Wg c.w (v*KK) 0 ->
 ∃g',aH P ab g c.w=.go g' (c.w.setCell (stA Y.Wg) (.int .u64 ((v+1)*KK))) #[rd (stA Y.Wg),wr (stA Y.Wg)]/\(er (Cx.lead P ty Y.Wg) (Es Y.Wg)) (AtKeS P ty Y N val j Next) g' {c with w:=c.w.setCell (stA Y.Wg) (.int .u64 ((v+1)*KK))}
def AtKdS(j:Nat)(Next:av->St->Prop)(g:av)(s:St):Prop:=g.status=.running/\∃g',(∀w,aH P ab g w=.go g' w #[mk .disable])/\∀c,(Cx.lead P ty Y.Wg).rely s c->(er (Cx.lead P ty Y.Wg) (Es Y.Wg)) (AtA1 P ty Y N val j Next) g' c
def Spawns:Nat->av->St->Prop
 |0,g,s=>(er (Cx.lead P ty Y.Wg) (Es Y.Wg)) (AtKd P ty Y l) g s
 |r+1,g,s=>(er (Cx.lead P ty Y.Wg) (Es Y.Wg)) (AtKdS P ty Y N val (n-(r+1)) (Spawns r)) g s
def Rk.lift:Rk->Rk
 |.leaf=>.node λ_=>.leaf
 |.node f=>.node λs=>Rk.lift (f s)
omit [Payload]in
def Rk.FR:∀{x r:Rk},Rk.lt x r->Rk.lt x.lift r.lift
 |_,.leaf,h=>h.elim
 |_,.node _,⟨s,h⟩=>⟨s,h.elim (λe=>.inl (by rw[e])) λh=>.inr (Rk.FR h)⟩
omit [Payload]in
def Rk.JM(s:St):∀r:Rk,∃x,Rk.lt x r.lift
 |.leaf=>⟨.leaf,s,.inl rfl⟩
 |.node f=>⟨(f s).lift,s,.inl rfl⟩
inductive CS:CTag->Nat->Rk->Nat->av->St->Prop
 |skd {r:Nat} {rk:Rk} {g:av} {s:St}:r<n->(ko (Cx.lead P ty Y.Wg) (Es Y.Wg)) (AtKdS P ty Y N val (n-(r+1)) (Spawns P ty Y N val n l r)) rk g s->CS (.sp r 5) (n-(r+1)) rk 0 g s
 |sa1 {r:Nat} {rk:Rk} {g:av} {s:St}:r<n->(ko (Cx.lead P ty Y.Wg) (Es Y.Wg)) (AtA1 P ty Y N val (n-(r+1)) (Spawns P ty Y N val n l r)) rk g s->CS (.sp r 4) (n-(r+1)) rk 1 g s
 |ske {r:Nat} {rk:Rk} {g:av} {s:St}:r<n->(ko (Cx.lead P ty Y.Wg) (Es Y.Wg)) (AtKeS P ty Y N val (n-(r+1)) (Spawns P ty Y N val n l r)) rk g s->CS (.sp r 3) (n-(r+1)) rk 1 g s
 |sgo {r:Nat} {rk:Rk} {g:av} {s:St}:r<n->(ko (Cx.lead P ty Y.Wg) (Es Y.Wg)) (AtGo P ty Y N val (n-(r+1)) (Spawns P ty Y N val n l r)) rk g s->CS (.sp r 2) (n-(r+1)) rk 0 g s
 |kd {rk:Rk} {g:av} {s:St}:(ko (Cx.lead P ty Y.Wg) (Es Y.Wg)) (AtKd P ty Y l) rk g s->CS .kd n rk 0 g s
 |w1 {rk:Rk} {g:av} {s:St}:(ko (Cx.lead P ty Y.Wg) (Es Y.Wg)) (AtW1 P ty Y T l) rk g s->CS .w1 n rk 1 g s
 |w2 {vs:Nat} {rk:Rk} {g:av} {s:St}:(ko (Cx.lead P ty Y.Wg) (Es Y.Wg)) (AtW2 P ty Y T l vs) rk g s->CS (.w2 vs) n rk 1 g s
 |w3 {rk:Rk} {g:av} {s:St}:(ko (Cx.lead P ty Y.Wg) (Es Y.Wg)) (AtW3 P ty Y T) rk g s->CS .w3 n rk.lift 1 g s
 |blk {rk:Rk} {g:av} {s:St}:AtW3 P ty Y T g s->CS .blk n rk 1 {g with status:=.blocked} s
 |w4 {rk:Rk} {g:av} {s:St}:(ko (Cx.lead P ty Y.Wg) (Es Y.Wg)) (AtW4 P ty Y T) rk g s->CS .w4 n rk 1 g s
 |ke {rk:Rk} {g:av} {s:St}:(ko (Cx.lead P ty Y.Wg) (Es Y.Wg)) (AtKe P ty Y T) rk g s->CS .ke n rk 1 g s
 |acq {rk:Rk} {g:av} {s:St}:(ko (Cx.lead P ty Y.Wg) (Es Y.Wg)) (AtAcq P ty Y T) rk g s->CS .acq n rk 0 g s
structure NO(p:Nat->Nat)(o:Nat->Mem)(m:Machine)(t:Trace):Prop where
 out:∃(gs:Array av) (w:aA) (sl:Option (Nat×Nat)) (a:av) (s:St) (q:Nat->Nat),m=crowd gs w sl/\gs[0]?=aa a/\gs.size=Y.base+n/\T a {s with w:=w}/\ck s {s with w:=w}/\jM Y p o n s /\
  Leavers P t gs q/\Past (lW λb=>Y.Sh b∨b=Y.Wg) w.heap.size t/\rS t/\PayAt Y.C N w/\(∀x,x<n->∀i,i<Y.kc->w.cell? ⟨Y.C,Y.kc*x+i,ae⟩=aa (val x i))/\Y.C<w.heap.size/\Y.Wg<w.heap.size/\∀b,Y.Sh b->b<w.heap.size
abbrev Mu:=Nat×((Nat->Rk)×Rk)
def FT(M:Nat):Mu->Mu->Prop:=Prod.Lex (· < ·) (Prod.Lex (Vec M) Rk.lt)
omit [Payload]in
def Rx(M:Nat):WellFounded (FT M):=(Prod.lex Nat.lt_wfRel ⟨_,(Prod.lex ⟨Vec M,JJ M⟩ ⟨Rk.lt,⟨Rk.acc⟩⟩).wf⟩).wf
structure tu(μ:Mu)(gs:Array av)(w:aA)(t:Trace)(p:Nat->Nat)(o:Nat->Mem)(j:Nat)(D:Nat->WD)(A:Nat->Nat)(K:Nat->Rk)(d0:Nat)(tag:CTag)(rk:Rk)(a:av)(s:St)(st sm:Int):Prop where
 a0:gs[0]?=aa a
 cs:CS P ty Y N val n T l tag j rk d0 a s
 rely:ck s {s with w:=w}
 lead:jM Y p o j s
 gk:Com P ty Y N val p o j gs w t D A K d0
 wg:WgAt ty Y.Wg w st sm
 mode:Go.ConcN.Mode j D tag st sm
 mu:μ=(phi n (Vc j D) tag+Ssum j D+sumTo j A,(K,rk))
def Inv(i:Mu)(m:Machine)(t:Trace):Prop :=
 ∃(gs:Array av) (w:aA) (sl:Option (Nat×Nat)) (p:Nat->Nat) (o:Nat->Mem) (j:Nat) (D:Nat->WD) (A:Nat->Nat) (K:Nat->Rk) (b:Nat) (tag:CTag) (rk:Rk) (a:av) (s:St) (st sm:Int),
  m=crowd gs w sl/\tu P ty Y N val n T l i gs w t p o j D A K b tag rk a s st sm
end
section
variable {P:aq}{ty:aj}{Y:Lay}{N:Nat}{val:Nat->Nat->ah}{n:Nat}{T l:av->St->Prop}{p hm':Nat->Nat}{o:Nat->Mem}{j:Nat}{tag:CTag}{rk:Rk}{d:Nat}{a:av}{s:St}{w w':aA}
omit [Payload]in
def fP{s:St}(h:ck s {s with w:=w})(B:WgLive ty Y.Wg w):(Cx.lead P ty Y.Wg).rely s {s with w:=w}:=⟨h,λ_=>B⟩
omit [Payload]in
def AtW3.rely{g:av}{c:St}(h:AtW3 P ty Y T g s)(u:(Cx.lead P ty Y.Wg).rely s c):AtW3 P ty Y T g c :=
 ⟨h.1,h.2.1,λs2 z=>h.2.2 s2 ⟨u.1.trans z.1,λx=>z.2 (u.2 x)⟩⟩
def CS.status(h:CS P ty Y N val n T l tag j rk d a s):(a.status=.running/\tag≠.blk)∨(a.status=.blocked/\tag=.blk):=by
 cases h with
 |skd _ h=>exact .inl ⟨h.run λ_ _ x=>x.1,by simp⟩
 |sa1 _ h=>exact .inl ⟨h.run λ_ _ x=>x.1,by simp⟩
 |ske _ h=>exact .inl ⟨h.run λ_ _ x=>x.1,by simp⟩
 |sgo _ h=>exact .inl ⟨h.run λ_ _ x=>x.1,by simp⟩
 |kd h=>exact .inl ⟨h.run λ_ _ x=>x.1,by simp⟩
 |w1 h=>exact .inl ⟨h.run λ_ _ x=>x.1,by simp⟩
 |w2 h=>exact .inl ⟨h.run λ_ _ x=>x.1,by simp⟩
 |w3 h=>exact .inl ⟨h.run λ_ _ x=>x.1,by simp⟩
 |blk h=>grind
 |w4 h=>exact .inl ⟨h.run λ_ _ x=>x.1,by simp⟩
 |ke h=>exact .inl ⟨h.run λ_ _ x=>x.1,by simp⟩
 |acq h=>exact .inl ⟨h.run λ_ _ x=>x.1,by simp⟩
def CS.wokenBy(h:CS P ty Y N val n T l tag j rk d a s)(g g':av)(w':aA):
  ∃tag' rk',CS P ty Y N val n T l tag' j rk' d (woken P g g' w' a) s/\(tag'=tag∨(tag=.blk/\tag'=.w3))/\(mayWake P g=ab->g'.status=.running->tag'≠.blk):=by
 unfold Go.Conc.woken;split
 .rcases h.status with⟨i,b⟩|⟨_,rfl⟩
  .grind [again_running]
  .cases h with
   |blk hb=>exact⟨.w3,Rk.lift .leaf,by rw[again_blocked hb.1 hb.2.1];exact .w3 (show ko _ _ _ .leaf _ _ from hb),.inr ⟨rfl,rfl⟩,λ_ _=>by simp⟩
 grind
def kS{μ:Mu}{gs:Array av}{sl:Option (Nat×Nat)}{t:Trace}{D:Nat->WD}{A:Nat->Nat}{K:Nat->Rk}{st sm:Int}(I:tu P ty Y N val n T l μ gs w t p o j D A K d tag rk a s st sm){x:Nat}(W:x<j){g g':av}{es:Array Event}{a' s' d':Nat}{r':Rk}{E J:Int}(hg:gs[Y.base+x]?=aa g)(hgo:aH P af g w=.go g' w' es)(hh:∀b,b<w.heap.size->hm' b=p b)(X:w.heap.size<=w'.heap.size)(L:∀y,y<j->y≠x->Hm Y p (o y) y w w')(G:DZ Y p w w')(hws:WS P ty Y N val hm' o x a' s' r' d' g' w')(U:∀e∈es,(aK e).low w'.heap.size)(Xf:∀e∈es,∀a,(aK e).touch?=aa a->a.loc.isMemory=ab->qE Y hm' (o x) x a)(UE:∀e∈es,∀a,e.loc≠.mark (.release a))(F:deafBehind (D x).deaf es=d')(S:s'<=6->∃r,RelBy (stA Y.Wg) (t++MemOp.ofEvents (Y.base+x) g.frame.fn g.frame.place es) (Y.base+x) r)(h1:a'=0->∀i,1<=i->i<Y.kc->w'.cell? ⟨Y.C,Y.kc*x+i,ae⟩=aa (val x i))(h0:s'<=6->Has Y.C (Y.kc*x) (val x 0) w')(Q:PayAt Y.C N w')(O:WgAt ty Y.Wg w' E J)(H:∀tag',(tag'=tag∨(tag=.blk/\tag'=.w3))->(mayWake P g=ab->g'.status=.running->tag'≠.blk)->Go.ConcN.Mode j (upd D x ⟨s',0,d'⟩) tag' E J)(s9:(s'+a'<(D x).stage+A x/\cnt ⟨s',0,d'⟩<=cnt (D x))∨(s'=(D x).stage/\a'=A x/\Rk.lt r' (K (Y.base+x))))(hjn:Y.base+j<=Y.base+n):
  ∃m ops μ',runT P (crowd gs w sl) (Y.base+x)=(.next m,ops)/\FT (Y.base+n) μ' μ/\Inv P ty Y N val n T l μ' m (t++ops):=by
 have hb:=I.gk.tl.base;obtain⟨tag',rk',V,q,Z⟩:=I.cs.wokenBy g g' w';have XE:(Y.base+x==0)=af:=by grind
 have R:=runT_crowd_go (P:=P) (sl:=sl) (i:=Y.base+x) hg (by rw[XE];exact hgo)
 have e1:=Go.ConcN.sumTo_upd D (⟨s',0,d'⟩:WD) cnt W;have e2:=Go.ConcN.sumTo_upd D (⟨s',0,d'⟩:WD) WD.stage W;have e3:sumTo j (upd A x a')+A x=sumTo j A+a':=Go.ConcN.sumTo_upd A a' id W;refine⟨_,_,(phi n (Vc j (upd D x ⟨s',0,d'⟩)) tag'+Ssum j (upd D x ⟨s',0,d'⟩)+sumTo j (upd A x a'),(upd K (Y.base+x) r',rk')),R,?_,
  _,w',sl,hm',o,j,_,_,_,d,tag',rk',woken P g g' w' a,s,E,J,rfl,⟨by rw[Go.ConcN.get_map_set _ _ _ _ (by omega),I.a0];rfl,V,I.lead.JL I.rely G,I.lead.tp I.rely.size hh,
   I.gk.stepW W hh X L hws U Xf UE F S h1 h0 Q ⟨_,_,O⟩,O,H tag' q Z,rfl⟩⟩
 rw[I.mu,Go.ConcN.phi_retag n _ q];simp only[Vc,Ssum]at *;rcases s9 with⟨q1,q2⟩|⟨q1,q2,q3⟩
 .refine Prod.Lex.left _ _ ?_;have:=Go.ConcN.phi_mono n (v':=sumTo j λa=>cnt (upd D x ⟨s',0,d'⟩ a)) (v:=sumTo j λa=>cnt (D a)) (by omega) tag;omega
 .have ec:cnt (⟨s',0,d'⟩:WD)=cnt (D x):=by simp only[cnt,q1]
  have ev:(sumTo j λa=>cnt (upd D x ⟨s',0,d'⟩ a))=sumTo j λa=>cnt (D a):=by omega
  have es':(sumTo j λa=>(upd D x ⟨s',0,d'⟩ a).stage)=sumTo j λa=>(D a).stage:=by omega
  have ea:sumTo j (upd A x a')=sumTo j A:=by omega
  rw[ev,es',ea];exact Prod.Lex.right _ (Prod.Lex.left _ _ ⟨Y.base+x,by omega,by rw[upd_same];exact q3,λk hk=>upd_ne K _ hk⟩)
end
end
section
open Go.Conc
open Go.ConcN (WD CTag Vc Ssum pend phi cnt WgLive PayAt Has RW DWs WSit RelBy sumTo upd upd_same upd_ne AtR0 isW3 isOpen OpenSt deafBehind_idle bk_cell okW_none Vc_upd Vc_le le_sumTo others_uncounted)
open Go.ConcR (KK WgAt stA smA rd wr mk Payload g_of_ofEvents Bk bk_of_mute ofEvent_loc_mark ofEvent_cell)
variable [Payload]
section
variable {P:aq}{ty:aj}{Y:Lay}{N:Nat}{val:Nat->Nat->ah}{n:Nat}{T G:av->St->Prop}{E hm':Nat->Nat}{O:Nat->Mem}{j:Nat}{tag:CTag}{rk:Rk}{d:Nat}{a:av}{s:St}{w w':aA}
omit [Payload]in
def Hm.wg(h:Aside Y.Wg w w')(F:E Y.Wg=0)(k:1<=Y.base)(hM:∀b o v,O j b o=aa v->b≠Y.Wg)(hC:Y.C≠Y.Wg):Hm Y E (O j) j w w' :=
 ⟨by rw[h.size];grind,λb _ Dt=>h.block b (λe=>by grind),λb o v H U=>by rw[jN (h.block b (hM b o v H))];exact U,λo _ _=>jN (h.block _ hC) o,h.os,h.tape,h.output⟩
omit [Payload]in
def DZ.wg(h:Aside Y.Wg w w'):DZ Y E w w':=⟨by rw[h.size];grind,λb _ _ _ z=>h.block b z,h.os,h.tape,h.output⟩
omit [Payload]in
def DZ.refl(w:aA):DZ Y E w w:=⟨bh _,λ_ _ _ _ _=>rfl,rfl,rfl,rfl⟩
omit [Payload]in
def JN{B:Nat}{es:Array Event}(h:∀e∈es,Bk Y.Wg e)(F:Y.Wg<B):∀e∈es,(aK e).low B:=by
 intro e c;rcases h e c with p|p|⟨ad,wr,rfl,J⟩
 .rw[ofEvent_loc_mark p];trivial
 .rw[ofEvent_loc_mark p];trivial
 .rw[ofEvent_cell];show ad.block<B;grind
omit [Payload]in
def NP{x:Nat}{es:Array Event}(h:∀e∈es,Bk Y.Wg e):∀e∈es,∀a,(aK e).touch?=aa a->a.loc.isMemory=ab->qE Y E (O x) x a:=by
 intro e c b k _;rcases h e c with p|p|⟨ad,wr,rfl,J⟩
 .rw[ofEvent_loc_mark p]at k;cases k
 .rw[ofEvent_loc_mark p]at k;cases k
 .rw[ofEvent_cell]at k;simp only[MemAct.touch?,dm]at k;subst k;exact .inl ⟨ad,rfl,J,rfl⟩
omit [Payload]in
def BO{es:Array Event}(h:∀e∈es,Bk Y.Wg e):∀e∈es,∀a,e.loc≠.mark (.release a):=by
 intro e c a Z;rcases h e c with p|p|⟨ad,wr,rfl,_⟩
 .grind
 .grind
 grind
omit [Payload]in
def NR{x:Nat}{σ σ':List aP}{s2:St}{es:Array Event}(S:l3 E (O x) (Y.base+x) s)(V:aF σ s)(R:eY s es)(st:Step σ s σ' s2):
  (∀e∈es,(aK e).low s2.w.heap.size)/\(∀e∈es,∀a,(aK e).touch?=aa a->a.loc.isMemory=ab->qE Y (nw E s.w.heap.size (Y.base+x)) (O x) x a) /\
  (∀e∈es,e.loc≠.mark .disable/\e.loc≠.mark .enable)/\∀e∈es,∀a,e.loc≠.mark (.release a):=by
 have key:∀e∈es,(aK e).low s2.w.heap.size/\(∀a,(aK e).touch?=aa a->a.loc.isMemory=ab->qE Y (nw E s.w.heap.size (Y.base+x)) (O x) x a)/\(e.loc≠.mark .disable/\e.loc≠.mark .enable)/\∀a,e.loc≠.mark (.release a):=by
  intro e c;have h:=R e c;obtain⟨loc,wr,sy⟩:=e;cases loc with
  |cell ad =>
   obtain⟨p,z,l⟩:=h;simp only at p z l;subst p;have u:ad.block<s.w.heap.size:=by
    rcases l with l|⟨⟨L,Q,l⟩,_⟩|⟨_,v,l⟩
    .exact l.elim
    .exact V.lt L Q _ l
    .exact gL.lt V.mem l
   refine⟨by rw[ofEvent_cell];exact cU u st.size,λb k _=>?_,⟨by simp,by simp⟩,by simp⟩;rw[ofEvent_cell]at k;simp only[MemAct.touch?,dm]at k;subst k;refine .inr ⟨rfl,?_⟩;rcases l with l|⟨⟨L,Q,l⟩,_⟩|⟨W,v,l⟩
   .exact l.elim
   .exact .inl ⟨ad.block,rfl,by rw[eZ u];exact(S.blk _ (.inr ⟨L,Q,l⟩)).1⟩
   .rcases(S.M _ _ _ l).1 with X|X
    .exact .inl ⟨ad.block,rfl,by grind[eZ]⟩
    .refine .inr (.inr ⟨W,ad.block,ad.off,v,?_,X⟩);obtain⟨b,o,sp⟩:=ad;grind
  |obj r =>
   obtain⟨p,z⟩:=h;simp only at p z;subst p;obtain⟨L,Q,l⟩:=z.resolve_left id;have u:=V.lt L Q _ l;refine⟨?_,λb k _=>?_,⟨by simp,by simp⟩,by simp⟩
   .simp[aK,MemAct.low,Loc.low];exact cU u st.size
   .simp[aK,MemAct.touch?]at k;subst k;exact .inr ⟨rfl,.inl ⟨r,rfl,by rw[eZ u];exact(S.blk _ (.inr ⟨L,Q,l⟩)).1⟩⟩
  |mark m =>
   simp only[oa]at h;rcases h with rfl|⟨f,rfl⟩
   .exact⟨by simp[aK,MemAct.low],λb k=>by simp[aK,MemAct.touch?]at k,⟨by simp,by simp⟩,by simp⟩
   .exact⟨by simp[aK,MemAct.low],λb k=>by simp[aK,MemAct.touch?]at k,⟨by simp,by simp⟩,by simp⟩
  |_=>exact h.elim
 grind
def stepWorker{μ:Mu}{gs:Array av}{sl:Option (Nat×Nat)}{t:Trace}{D:Nat->WD}{A:Nat->Nat}{K:Nat->Rk}{st sm:Int}(I:tu P ty Y N val n T G μ gs w t E O j D A K d tag rk a s st sm)(hn:n<2147483648)(hj:j<=n)(hpd:j+pend tag<=n){x:Nat}(hx:x<j){g:av}(hg:gs[Y.base+x]?=aa g)(wj:g.status=.running):
  ∃m₁ ops μ',runT P (crowd gs w sl) (Y.base+x)=(.next m₁,ops)/\FT (Y.base+n) μ' μ/\Inv P ty Y N val n T G μ' m₁ (t++ops):=by
 have JO:=I.gk.tl.base;obtain⟨g₁,hg₁,hs⟩:=I.gk.wk x hx;obtain rfl:g=g₁:=by grind
 generalize IV:(D x).stage=sg at hs;generalize hfu:K (Y.base+x)=r at hs;generalize UF:(D x).deaf=dd at hs;generalize hA:A x=ax at hs;have hdk:Deaf t (Y.base+x)=dd:=by rw[I.gk.deafW x hx,UF]
 have hVj:=Vc_le j D;have same:∀m' FU,Go.ConcN.Mode j (upd D x ⟨sg,m',FU⟩) tag st sm:=λm' FU=>by have:=I.mode.same (i:=x) m' FU;grind
 cases hs with
 |@am r g s0 w p z l =>
  rcases p.norm (λs0=>ck s0 {s0 with w:=w}/\l3 E (O x) (Y.base+x) s0) (λs0 s' UG hi=>⟨hi.1.ghost UG,hi.2.ghost UG⟩) (λ_ s0 s' UG hi=>⟨hi.1.forget UG,hi.2.forget UG⟩) ⟨z,l⟩with⟨s',⟨k1,k2⟩,jO⟩|⟨_,s',⟨k1,k2⟩,l4⟩
  ·
   obtain⟨g',w2,es,hgo,F,Yb,m,hk⟩:=jO.2 w k1 I.gk.pay I.gk.live;have hkc:=I.gk.kc;refine kS I hx hg hgo (hm':=E) (λ_ _=>rfl) (by rw[F.size];grind) (λy hy hyx=>⟨by rw[F.size];grind,λb _ k=>F.block b (λe=>by rw[e,I.gk.tl.hC]at k;omega),λb o v H U=>?_,λo ho1 ho2=>F.out o ?_,F.os,F.tape,F.output⟩)
    ⟨by rw[F.size];grind,λb _ _ z _=>F.block b z,F.os,F.tape,F.output⟩ (.rel hk) (λe c=>?_) (λe c b k _=>?_) (λe c=>?_) ?_ (λh=>absurd h (by decide)) (λ_ i _ hi=>F.new i hi) (λh=>absurd h (by decide)) F.pay
    (I.wg.of_block (F.block _ (Ne.symm I.gk.tl.ne))) (λ_ ht _=>(same _ _).retag ht) (.inl ⟨by omega,by simp[cnt,IV]⟩) (by omega)
   .rw[jN (F.block b (I.gk.tl.ms y hy b o v H).2.1)];exact U
   .rcases Nat.lt_or_gt_of_ne hyx with h|h
    .have:=u5 Y.kc (show y+1<=x from h);grind
    .have:=u5 Y.kc (show x+1<=y from h);grind
   .obtain⟨o,rfl,_⟩:=Yb e c;rw[ofEvent_cell];show Y.C<_;rw[F.size];exact I.gk.Dx
   .obtain⟨o,rfl,ho1,ho2⟩:=Yb e c;rw[ofEvent_cell]at k;simp only[MemAct.touch?,dm]at k;subst k;exact .inr ⟨rfl,.inr (.inl ⟨o,rfl,ho1,ho2⟩)⟩
   .grind
   .rw[UF];exact deafBehind_idle (λe c=>by grind) 0
  ·
   obtain⟨g',s2,es,r',hgo,Yc,MW,u⟩:=l4 _ k1;obtain⟨⟨σ,σ',V,iX,IW⟩,R⟩:=Yc.resolve_right id;have k3:l3 E (O x) (Y.base+x) {s' with w:=w}:=k2.rely k1.size;obtain⟨e1,e2,e3,e4⟩:=NR k3 V R IW;have wC:∀b,b<w.heap.size->E b≠Y.base+x->s2.w.heap[b]?=w.heap[b]?:=λb k Bo=>IW.fe b k λL Q Nb=>Bo (k3.blk b (.inr ⟨L,Q,Nb⟩)).1;refine kS I hx hg hgo (hm':=nw E w.heap.size (Y.base+x)) (λb k=>eZ k) IW.size (λy hy hyx=>⟨IW.size,λb k hby=>wC b k (by omega),λb o v H U=>?_,λo _ _=>jN (wC _ I.gk.Dx (by rw[I.gk.tl.hC];omega)) o,IW.os,IW.tape,IW.output⟩)
    ⟨IW.size,λb k h0 _ _=>wC b k (by omega),IW.os,IW.tape,IW.output⟩ (.am MW (ck.wB iX.mem) (k3.step iX IW)) e1 e2 e4 (by rw[UF];exact deafBehind_idle e3 0) (λh=>absurd h (by decide)) (λh=>absurd h (by decide)) (λh=>absurd h (by decide)) ?_
    (I.wg.of_block (wC _ I.gk.Bf (by rw[I.gk.tl.IT];omega))) (λ_ ht _=>(same _ _).retag ht) (.inr ⟨IV.symm,hA.symm,by grind⟩) (by omega)
   .rw[jN (wC b (I.gk.NN y hy b o v H) (by rw[(I.gk.tl.ms y hy b o v H).1];omega))];exact U
   .obtain⟨cs,c1,c2⟩:=I.gk.pay;exact⟨cs,(wC _ I.gk.Dx (by rw[I.gk.tl.hC];omega)).trans c1,c2⟩
 |@rel m g w h =>
  rcases Goes.cases h with jO|⟨m',rfl,l4⟩
  ·
   obtain⟨_,acu,g',hgo,m₂,hk⟩:=jO w (Go.ConcN.RW.refl w);refine kS I hx hg hgo (hm':=E) (λ_ _=>rfl) (bh _) (λy _ _=>.refl ..) (.refl w) (.tail (by decide) (.k1 hk)) (λe c=>?_) (λe c b k _=>?_) (λe c=>?_) (by rw[UF];rfl) (λ_=>⟨t.size,RelBy.new hdk _ _⟩) (λ_=>I.gk.x8 x hx hA) (λ_=>by grind) I.gk.pay I.wg
    (λ_ ht _=>(I.mode.counted hx (by omega) (.inl rfl) _ _).retag ht) (.inl ⟨by omega,by simp[cnt,IV]⟩) (by omega)
   .simp at c;subst c;exact I.gk.Bf
   .simp at c;subst c;simp[mk,aK,MemAct.touch?]at k
   .simp at c;subst c;simp[mk]
  .obtain⟨g',w',es,hgo,⟨rfl,rfl⟩,FV⟩:=l4 w (Go.ConcN.RW.refl w);exact kS I hx hg hgo (hm':=E) (λ_ _=>rfl) (bh _) (λy _ _=>.refl ..) (.refl w') (.rel FV) (by simp) (by simp) (by simp) (by rw[UF];rfl) (λh=>absurd h (by decide)) (λ_=>I.gk.x8 x hx hA) (λh=>absurd h (by decide)) I.gk.pay I.wg (λ_ ht _=>(same _ _).retag ht)
    (.inr ⟨IV.symm,hA.symm,by rw[hfu];exact Rk.DY _ s⟩) (by omega)
 |@tail sg m dd g w h6 h =>
  have P1:∀{g':av} {w':aA} {es:Array Event} {s' m' FU:Nat} {qx Hn:Int},aH P af g w=.go g' w' es->Aside Y.Wg w w'->WgAt ty Y.Wg w' qx Hn->(∀e∈es,Bk Y.Wg e) ->
    (∀jx e,es[jx]?=aa e->(aK e).touch?=ae∨0<deafBehind dd (es.extract 0 jx))->s'<=6->WSit P ty Y.Wg Y.C N PZ PZ 0 (Y.kc*x+1) (val x 0) s' m' FU g' w'->deafBehind dd es=FU ->
    (∀tag',(tag'=tag∨(tag=.blk/\tag'=.w3))->(mayWake P g=ab->g'.status=.running->tag'≠.blk)->Go.ConcN.Mode j (upd D x ⟨s',0,FU⟩) tag' qx Hn)->((s'<sg/\cnt ⟨s',0,FU⟩<=cnt (D x))∨(s'=sg/\m'+1=m)) ->
    ∃m₁ ops μ',runT P (crowd gs w sl) (Y.base+x)=(.next m₁,ops)/\FT (Y.base+n) μ' μ/\Inv P ty Y N val n T G μ' m₁ (t++ops):=by
   intro g' w' es s' m' FU qx Hn hgo NS JP Ho hd Yd UH hdd wD u;obtain⟨cs,Ye,Yf⟩:=I.gk.pay;refine kS I hx hg hgo (hm':=E) (λ_ _=>rfl) (by rw[NS.size];grind) (λy hy _=>.wg NS I.gk.tl.IT JO (λb o v H=>(I.gk.tl.ms y hy b o v H).2.2.1) I.gk.tl.ne) (.wg NS) (.tail Yd UH) (JN Ho (by rw[NS.size];exact I.gk.Bf)) (NP Ho) (BO Ho) (by grind)
    (λ_=>let ⟨r,hr⟩:=I.gk.rel x hx (by omega);⟨r,hr.book hdk _ _ Ho hd⟩) (λ_ i hi1 MY=>(jN (NS.block _ I.gk.tl.ne) _).trans (I.gk.x8 x hx hA i hi1 MY)) (λ_=>(jN (NS.block _ I.gk.tl.ne) _).trans (I.gk.BN x hx (by omega))) ⟨cs,(NS.block _ I.gk.tl.ne).trans Ye,Yf⟩ JP wD
    (u.imp (λh=>⟨by omega,h.2⟩) λh=>⟨by omega,hA.symm,by rw[hfu,<-h.2];exact Rk.DY _ s⟩) (by omega)
  have book:∀{g':av} {w':aA} {es:Array Event} {s' m' FU:Nat} {qx Hn:Int},aH P af g w=.go g' w' es->Aside Y.Wg w w'->WgAt ty Y.Wg w' qx Hn->(∀e∈es,Bk Y.Wg e) ->
    (∀jx e,es[jx]?=aa e->(aK e).touch?=ae∨0<deafBehind dd (es.extract 0 jx))->s'<=6->WSit P ty Y.Wg Y.C N PZ PZ 0 (Y.kc*x+1) (val x 0) s' m' FU g' w'->deafBehind dd es=FU ->
    Go.ConcN.Mode j (upd D x ⟨s',0,FU⟩) tag qx Hn->((s'<sg/\cnt ⟨s',0,FU⟩<=cnt (D x))∨(s'=sg/\m'+1=m)) ->
    ∃m₁ ops μ',runT P (crowd gs w sl) (Y.base+x)=(.next m₁,ops)/\FT (Y.base+n) μ' μ/\Inv P ty Y N val n T G μ' m₁ (t++ops) :=
   λhgo NS JP Ho hd Yd UH hdd wD u=>P1 hgo NS JP Ho hd Yd UH hdd (λ_ ht _=>wD.retag ht) u
  have idle:∀{g':av} {m':Nat},aH P af g w=.go g' w #[]->WSit P ty Y.Wg Y.C N PZ PZ 0 (Y.kc*x+1) (val x 0) sg m' dd g' w->m'+1=m ->
    ∃m₁ ops μ',runT P (crowd gs w sl) (Y.base+x)=(.next m₁,ops)/\FT (Y.base+n) μ' μ/\Inv P ty Y N val n T G μ' m₁ (t++ops):=by intro g' m' hgo UH E;exact book hgo (.refl Y.Wg w) I.wg (by simp) (by simp) h6 UH rfl (same _ _) (.inr ⟨rfl,E⟩)
  cases h with
  |r0 h=>omega
  |k1 h =>
   rcases Goes.cases h with jO|⟨m',rfl,l4⟩
   .obtain⟨_,g',hgo,m₂,hk⟩:=jO w (Go.ConcN.RW.refl w);exact book hgo (.refl Y.Wg w) I.wg (by intro e c;simp at c;subst c;exact .inl rfl) (by intro jx e c;exact .inl (by have:=uY c;simp at this;subst this;rfl)) (by decide) (.d1 hk) rfl (I.mode.counted hx (by omega) (.inr rfl) _ _) (.inl ⟨by omega,by simp[cnt,IV]⟩)
   .obtain⟨g',w',es,hgo,⟨rfl,rfl⟩,FV⟩:=l4 w (Go.ConcN.RW.refl w);exact idle hgo (.k1 FV) rfl
  |d1 h =>
   rcases Goes.cases h with jO|⟨m',rfl,l4⟩
   .obtain⟨_,Ra⟩:=jO w (Go.ConcN.RW.refl w);have zX:=I.wg;have JQ:=I.mode;have W3:cnt (D x)=1:=by simp[cnt,IV]
    have hV1:1<=Vc j D:=by have:=le_sumTo (f:=λx=>cnt (D x)) hx;simp only[Vc];omega
    have bk2:∀e∈#[rd (stA Y.Wg),wr (stA Y.Wg)],Bk Y.Wg e:=by intro e c;simp at c;rcases c with rfl|rfl<;>exact bk_cell _ _ rfl
    have Xg:∀jx e,(#[rd (stA Y.Wg),wr (stA Y.Wg)]:Array Event)[jx]?=aa e->(aK e).touch?=ae∨0<deafBehind 1 ((#[rd (stA Y.Wg),wr (stA Y.Wg)]:Array Event).extract 0 jx):=by
     intro jx e c
     match jx,c with
     |0,_=>exact .inr (by simp[deafBehind])
     |1,_=>exact .inr (by simp[deafBehind,rd])
     |jx+2,c=>simp at c
    have hq0:∀q,cnt (⟨1,q,1⟩:WD)=0:=λ_=>rfl;have b8:∀q,OpenSt j D->OpenSt j (upd D x ⟨1,q,1⟩):=λq h a J=>by
     by_cases e:a=x
     .subst e;rw[upd_same];simp
     .rw[upd_ne D _ e];exact h a J
    generalize acw:st=Yg at JQ zX;generalize acx:sm=sm0 at JQ zX;cases JQ with
    |opn p z l =>
     obtain⟨v,H⟩:∃v,Vc j D+pend tag=v+1:=⟨Vc j D+pend tag-1,by omega⟩
     rw[H]at zX;have Q0:WgAt ty Y.Wg w (((v:Nat)+1)*KK+((0:Nat):Int)) 0:=by grind
     obtain⟨g',hgo,_,hq⟩:=Ra v 0 (by omega) (by omega) Q0;obtain⟨q,hq⟩:=hq (by omega);have WT:Vc j (upd D x ⟨1,0,1⟩)+pend tag=v:=by have:=Vc_upd D (⟨1,0,1⟩:WD) hx;grind
     refine book hgo (aside_setCell w (stA Y.Wg) _) (zX.setSt _) bk2 Xg (by decide) (.quit hq) rfl ?_ (.inl ⟨by omega,by grind⟩);have e:((v:Nat):Int)*KK+((0:Nat):Int)=((Vc j (upd D x ⟨1,0,1⟩)+pend tag:Nat):Int)*KK:=by grind
     rw[e];exact .opn p (b8 0 z) (λvs ev=>by grind)
    |reg p z l =>
     obtain⟨v,H⟩:∃v,Vc j D=v+1:=⟨Vc j D-1,by omega⟩
     rw[H]at zX;have hp:pend tag=0:=by cases tag<;>first|rfl|exact p.elim
     have Q0:WgAt ty Y.Wg w (((v:Nat)+1)*KK+((1:Nat):Int)) 0:=by grind
     obtain⟨g',hgo,Z,hq⟩:=Ra v 1 (by omega) (by omega) Q0;by_cases QV:v=0
     .subst QV;obtain⟨m₂,hk⟩:=Z ⟨rfl,rfl⟩;refine book hgo (aside_setCell w (stA Y.Wg) _) (zX.setSt _) bk2 Xg (by decide) (.d2 hk) rfl ?_ (.inl ⟨by omega,by simp[cnt]⟩);have DJ:∀a,a<j->a≠x->(D a).stage=1:=λa J e=>by have c0:=others_uncounted hx H W3 a J e;have:=z a J;simp only[cnt]at c0;split at c0<;>omega
      have:=Go.ConcN.Mode.last (j:=j) (D:=upd D x ⟨4,0,1⟩) (tag:=tag) x p hx (by rw[upd_same];simp) (λa J e=>by rw[upd_ne D _ e];grind);rw[upd_same]at this;grind
     .obtain⟨q,hq⟩:=hq (by omega);have WT:Vc j (upd D x ⟨1,0,1⟩)=v:=by have:=Vc_upd D (⟨1,0,1⟩:WD) hx;grind
      refine book hgo (aside_setCell w (stA Y.Wg) _) (zX.setSt _) bk2 Xg (by decide) (.quit hq) rfl ?_ (.inl ⟨by omega,by grind⟩);have e:((v:Nat):Int)*KK+((1:Nat):Int)=((Vc j (upd D x ⟨1,0,1⟩):Nat):Int)*KK+1:=by grind
      rw[e];exact .reg p (b8 0 z) (by omega)
    |last L _ z l W =>
     grind
    |sema z=>have:=z x hx;omega
    |fin _ z=>have:=z x hx;omega
   .obtain⟨g',w',es,hgo,⟨rfl,rfl⟩,FV⟩:=l4 w (Go.ConcN.RW.refl w);exact idle hgo (.d1 FV) rfl
  |d2 h =>
   rcases Goes.cases h with jO|⟨m',rfl,l4⟩
   .obtain⟨_,P2⟩:=jO w (Go.ConcN.RW.refl w);obtain⟨UI,DJ,e1,e2⟩:=I.mode.isLast hx (by omega);have zX:=I.wg;rw[e1,e2,IV]at zX;obtain⟨g',hgo,m₂,hk⟩:=P2 (by grind);refine book hgo (.refl Y.Wg w) zX (by intro e c;simp at c;subst c;exact bk_cell _ _ rfl) (by intro jx e c;match jx,c with|0,_=>exact .inr (by simp[deafBehind])|jx+1,c=>grind) (by decide) (.d3 hk) rfl ?_ (.inl ⟨by omega,by simp[cnt]⟩);have:=Go.ConcN.Mode.last (j:=j) (D:=upd D x ⟨3,0,1⟩) (tag:=tag) x UI hx (by rw[upd_same];simp) (λa J e=>by rw[upd_ne D _ e];grind);rw[upd_same]at this;grind
   .obtain⟨g',w',es,hgo,⟨rfl,rfl⟩,FV⟩:=l4 w (Go.ConcN.RW.refl w);exact idle hgo (.d2 FV) rfl
  |d3 h =>
   rcases Goes.cases h with jO|⟨m',rfl,l4⟩
   .obtain⟨_,P2⟩:=jO w (Go.ConcN.RW.refl w);obtain⟨UI,DJ,e1,e2⟩:=I.mode.isLast hx (by omega);have zX:=I.wg;rw[e1,e2,IV]at zX;obtain⟨g',hgo,m₂,hk⟩:=P2 (by grind);refine book hgo (aside_setCell w (stA Y.Wg) _) (zX.setSt 0) (by intro e c;simp at c;subst c;exact bk_cell _ _ rfl) (by intro jx e c;match jx,c with|0,_=>exact .inr (by simp[deafBehind])|jx+1,c=>grind) (by decide) (.d4 hk) rfl ?_ (.inl ⟨by omega,by simp[cnt]⟩);have:=Go.ConcN.Mode.last (j:=j) (D:=upd D x ⟨2,0,1⟩) (tag:=tag) x UI hx (by rw[upd_same];simp) (λa J e=>by rw[upd_ne D _ e];grind);rw[upd_same]at this;grind
   .obtain⟨g',w',es,hgo,⟨rfl,rfl⟩,FV⟩:=l4 w (Go.ConcN.RW.refl w);exact idle hgo (.d3 FV) rfl
  |d4 h =>
   rcases Goes.cases h with jO|⟨m',rfl,l4⟩
   .obtain⟨_,hmw,P2⟩:=jO w (Go.ConcN.RW.refl w);obtain⟨UI,DJ,e1,e2⟩:=I.mode.isLast hx (by omega);have zX:=I.wg;rw[e1,e2,IV]at zX;obtain⟨g',hgo,q,hq⟩:=P2 (by grind);have wE:g'.status=.running:=by
     cases q with
     |zero=>exact absurd hq.2 (by decide)
     |succ q=>exact hq.elim (λx=>absurd x.2 (by decide)) (λx=>x.1)
    refine P1 hgo (aside_setCell w (smA Y.Wg) _) (zX.setSm 1) (es:=semEvents (smA Y.Wg)) ?_ ?_ (by decide) (.quit hq) (by simp[deafBehind,semEvents]) ?_ (.inl ⟨by omega,by simp[cnt]⟩)
    .intro e c;simp[semEvents]at c;rcases c with rfl|rfl|rfl|rfl
     .exact .inl rfl
     .exact bk_cell _ _ rfl
     .exact bk_cell _ _ rfl
     .exact .inr (.inl rfl)
    .intro jx e c
     match jx,c with
     |0,c=>simp[semEvents]at c;subst c;exact .inl rfl
     |1,_=>exact .inr (by simp[deafBehind,semEvents])
     |2,_=>exact .inr (by simp[deafBehind,semEvents])
     |3,c=>simp[semEvents]at c;subst c;exact .inl rfl
     |jx+4,c=>simp[semEvents]at c
    .intro tag' ht S;have hnb:=S hmw wE;have e3:tag'=.w3:=by
      rcases ht with rfl|⟨_,rfl⟩
      .cases tag'<;>first|rfl|exact UI.elim|grind
      .rfl
     subst e3;simp only[cj];exact .sema λa J=>by
      by_cases e:a=x
      .subst e;rw[upd_same]
      .rw[upd_ne D _ e];grind
   .obtain⟨g',w',es,hgo,⟨rfl,rfl⟩,FV⟩:=l4 w (Go.ConcN.RW.refl w);exact idle hgo (.d4 FV) rfl
  |quit h =>
   cases m with
   |zero=>rw[h.1]at wj;cases wj
   |succ q =>
    rcases h with⟨hf,_⟩|⟨_,g',es,P3,l4,hq⟩
    .grind
    .have Ho:∀e∈es,Bk Y.Wg e:=λe c=>bk_of_mute (P3 e c);have XW:∀jx e,es[jx]?=aa e->(aK e).touch?=ae∨0<deafBehind dd (es.extract 0 jx):=λjx e c=>.inl (touch_mute (P3 e (uY c)));exact book (l4 w) (.refl Y.Wg w) I.wg Ho XW (by decide) (.quit hq) rfl (same _ _) (.inr ⟨rfl,rfl⟩)
end
end
section
open Go.Conc
open Go.ConcN (WD CTag Vc Ssum pend phi cnt WgLive PayAt Has RW DWs WSit RelBy sumTo upd upd_same upd_ne AtR0 isW3 isOpen OpenSt deafBehind_idle bk_cell okW_none Vc_upd Vc_le le_sumTo others_uncounted sumTo_upd_out bk_dis bk_en bk_rd bk_rw bk_sem allQuit_of exists_counted)
open Go.ConcR (KK WgAt stA smA rd wr mk Payload g_of_ofEvents Bk bk_of_mute ofEvent_loc_mark ofEvent_cell ofEvent_mk)
variable [Payload]
section
variable {P:aq}{ty:aj}{Y:Lay}{N:Nat}{val:Nat->Nat->ah}{n:Nat}{T k:av->St->Prop}{l hm':Nat->Nat}{z G:Nat->Mem}{j:Nat}{tag:CTag}{rk:Rk}{d:Nat}{a:av}{s:St}{w w':aA}{R:Mu}{gs:Array av}{sl:Option (Nat×Nat)}{t:Trace}{D:Nat->WD}{A:Nat->Nat}{K:Nat->Rk}{st Z:Int}
omit [Payload]in
def TL.congr{B:Nat}(h:TL Y l z t j B)(e:∀y,y<j->G y=z y):TL Y l G t j B :=
 ⟨h.base,h.IT,h.hC,h.ne,h.PY,h.Rv,h.IU,λx H=>by rw[e x H];exact h.ms x H,h.T0,h.nr,h.seen,h.old,h.Rw,h.Hl,λi a hi X l=>(h.new i a hi X l).imp id λ⟨x,H,p,F⟩=>⟨x,H,p,by grind⟩,
  λx H=>by rw[e x H];exact h.mw x H,h.over⟩
def WS.congr{x a st d:Nat}{r:Rk}{g:av}(h:WS P ty Y N val l z x a st r d g w)(e:G x=z x):WS P ty Y N val l G x a st r d g w:=by
 cases h with
 |am p F J=>exact .am p F (by grind)
 |rel p=>exact .rel p
 |tail h0 p=>exact .tail h0 p
def Com.congr{q:Nat}(h:Com P ty Y N val l z j gs w t D A K q)(e:∀y,y<j->G y=z y):Com P ty Y N val l G j gs w t D A K q :=
 ⟨h.size,h.lv,h.above,λx H=>let ⟨g,p,F⟩:=h.wk x H;⟨g,p,F.congr (e x H)⟩,h.tl.congr e,h.norel,h.deaf0,h.deafW,h.rel,h.x8,h.BN,h.pay,h.live,h.Bf,h.Dx,h.MZ,h.kc,λy I=>by rw[e y I];exact h.NN y I⟩
omit [Payload]in
def NT{σ σ':List aP}{s2:St}{es:Array Event}(V:jM Y l z j s)(W:aF σ s)(Q:eY s es)(st:Step σ s σ' s2):
  (∀e∈es,(aK e).low s2.w.heap.size)/\(∀e∈es,∀a,(aK e).touch?=aa a->a.loc.isMemory=ab->se Y (nw l s.w.heap.size 0) a) /\
  (∀e∈es,∀a,(aK e).touch?=aa a->a.kind=.plain->a.write=ab->∀x,x<j->∀b o v,a.loc=.cell ⟨b,o,ae⟩->z x b o≠aa v) /\
  (∀e∈es,e.loc≠.mark .disable/\e.loc≠.mark .enable)/\∀e∈es,∀a,e.loc≠.mark (.release a):=by
 have key:∀e∈es,(aK e).low s2.w.heap.size/\(∀a,(aK e).touch?=aa a->a.loc.isMemory=ab->se Y (nw l s.w.heap.size 0) a) /\
   (∀a,(aK e).touch?=aa a->a.kind=.plain->a.write=ab->∀x,x<j->∀b o v,a.loc=.cell ⟨b,o,ae⟩->z x b o≠aa v)/\(e.loc≠.mark .disable/\e.loc≠.mark .enable)/\∀a,e.loc≠.mark (.release a):=by
  intro e E;have h:=Q e E;obtain⟨loc,wr,sy⟩:=e;cases loc with
  |cell ad =>
   obtain⟨p,F,J⟩:=h;simp only at p F J;subst p;have u:ad.block<s.w.heap.size/\l ad.block=0/\ad.block≠Y.C/\ad.block≠Y.Wg/\¬Y.Sh ad.block:=by
    rcases J with J|⟨⟨L,U,J⟩,_⟩|⟨_,v,J⟩
    .exact J.elim
    .obtain⟨k1,k2,O,k4,k5⟩:=V.blk _ (.inr ⟨L,U,J⟩);grind
    .obtain⟨k1,k2,O,k4,k5⟩:=V.M _ _ _ J;grind
   refine⟨by rw[ofEvent_cell];exact cU u.1 st.size,λb c _=>?_,λb c _ hbw x H b' o v hl S=>?_,⟨by simp,by simp⟩,by simp⟩
   .rw[ofEvent_cell]at c;simp only[MemAct.touch?,dm]at c;subst c;exact .inr ⟨ad.block,rfl,by grind[eZ],u.2.2.2.1,u.2.2.1,u.2.2.2.2,rfl⟩
   .rw[ofEvent_cell]at c;simp only[MemAct.touch?,dm]at c;subst c;simp only at hbw hl;have hM:=V.ms x H b' o v S;grind
  |obj r =>
   obtain⟨p,F⟩:=h;simp only at p F;subst p;obtain⟨L,U,J⟩:=F.resolve_left id;obtain⟨k1,k2,O,k4,k5⟩:=V.blk _ (.inr ⟨L,U,J⟩);refine⟨?_,λb c _=>?_,λb c _ _ x _ b' o v hl=>?_,⟨by simp,by simp⟩,by simp⟩
   .simp[aK,MemAct.low,Loc.low];exact cU k5 st.size
   .simp[aK,MemAct.touch?]at c;subst c;exact .inr ⟨r,rfl,by grind[eZ],O,k2,k4,rfl⟩
   .simp[aK,MemAct.touch?]at c;grind
  |mark m =>
   simp only[oa]at h;rcases h with rfl|⟨f,rfl⟩
   .exact⟨by simp[aK,MemAct.low],λb c=>by simp[aK,MemAct.touch?]at c,λb c=>by simp[aK,MemAct.touch?]at c,⟨by simp,by simp⟩,by simp⟩
   .exact⟨by simp[aK,MemAct.low],λb c=>by simp[aK,MemAct.touch?]at c,λb c=>by simp[aK,MemAct.touch?]at c,⟨by simp,by simp⟩,by simp⟩
  |_=>exact h.elim
 grind
def tv(I:tu P ty Y N val n T k R gs w t l z j D A K d tag rk a s st Z){a':av}{es:Array Event}{tag':CTag}{rk':Rk}{qx Hn:Int}{s':St}(hgo:aH P ab a w=.go a' w' es)(W:∀b,b<w.heap.size->hm' b=l b)(Nh:w.heap.size<=w'.heap.size)(Yh:∀y,y<j->Hm Y l (z y) y w w')(UD:∀e∈es,(aK e).low w'.heap.size)(htm:∀e∈es,∀a,(aK e).touch?=aa a->a.loc.isMemory=ab->se Y hm' a)(Xf:∀e∈es,∀a,(aK e).touch?=aa a->a.kind=.plain->a.write=ab->∀x,x<j->∀b o v,a.loc=.cell ⟨b,o,ae⟩->z x b o≠aa v)(UE:∀e∈es,∀a,e.loc≠.mark (.release a))(Ry:PayAt Y.C N w')(zX:WgAt ty Y.Wg w' qx Hn)(Hp:CS P ty Y N val n T k tag' j rk' (deafBehind d es) a' s')(UJ:ck s' {s' with w:=w'})(q:jM Y hm' z j s')(g:Go.ConcN.Mode j D tag' qx Hn)(u:phi n (Vc j D) tag'<phi n (Vc j D) tag∨(phi n (Vc j D) tag'=phi n (Vc j D) tag/\Rk.lt rk' rk)):
  ∃m₁ ops μ',runT P (crowd gs w sl) 0=(.next m₁,ops)/\FT (Y.base+n) μ' R/\Inv P ty Y N val n T k μ' m₁ (t++ops):=by
 have c:=I.gk.tl.base;have wj:=runT_crowd_go (P:=P) (sl:=sl) (i:=0) I.a0 (by simpa using hgo)
 refine⟨_,_,(phi n (Vc j D) tag'+Ssum j D+sumTo j A,(K,rk')),wj,?_,_,w',sl,hm',z,j,D,A,K,deafBehind d es,tag',rk',a',s',qx,Hn,rfl,
  ⟨Go.ConcN.get_map_set_same _ _ _ (by rw[I.gk.size];omega),Hp,UJ,q,I.gk.step0 W Nh Yh UD htm Xf UE Ry ⟨_,_,zX⟩,zX,g,rfl⟩⟩
 rw[I.mu];rcases u with h|⟨p,F⟩
 .exact Prod.Lex.left _ _ (by omega)
 .rw[p];exact Prod.Lex.right _ (Prod.Lex.right _ F)
def iy(I:tu P ty Y N val n T k R gs w t l z j D A K d tag rk a s st Z){a':av}{es:Array Event}{rk':Rk}{s1 s':St}(p:ck s1 {s1 with w:=w})(q:jM Y l z j s1)(hgo:aH P ab a w=.go a' s'.w es)(Yc:qO {s1 with w:=w} s' es∨Es Y.Wg {s1 with w:=w} s' es)(Hp:CS P ty Y N val n T k tag j rk' d a' s')(u:Rk.lt rk' rk):
  ∃m₁ ops μ',runT P (crowd gs w sl) 0=(.next m₁,ops)/\FT (Y.base+n) μ' R/\Inv P ty Y N val n T k μ' m₁ (t++ops):=by
 rcases Yc with⟨⟨σ,σ',W,iX,g⟩,Q⟩|⟨rfl,ad,had,Yb⟩
 .have O:jM Y l z j {s1 with w:=w}:=q.rely p.size;obtain⟨e1,e2,e3,e4,e5⟩:=NT O W Q g;have wC:∀b,b<w.heap.size->(l b≠0∨b=Y.C∨b=Y.Wg)->s'.w.heap[b]?=w.heap[b]?:=λb c Bo=>g.fe b c λL U Nb=>by obtain⟨q1,q2,q3,_⟩:=O.blk b (.inr ⟨L,U,Nb⟩);grind
  have JO:=I.gk.tl.base;refine tv I hgo (hm':=nw l w.heap.size 0) (λb c=>eZ c) g.size (λy hy=>⟨g.size,λb c hby=>wC b c (.inl (by omega)),λb o v S _=>iX.mem b o v (g.mem _ _ _ (q.ms y hy b o v S)),λo _ _=>jN (wC _ I.gk.Dx (.inr (.inl rfl))) o,g.os,g.tape,g.output⟩) e1 e2 e3 e5 ?_
   (I.wg.of_block (wC _ I.gk.Bf (.inr (.inr rfl)))) (s':=s') (tag':=tag) (rk':=rk') (by rw[deafBehind_idle e4];exact Hp) (ck.wB iX.mem) (O.step iX g I.gk.Bf I.gk.Dx I.gk.MZ) I.mode (.inr ⟨rfl,u⟩)
  obtain⟨cs,c1,c2⟩:=I.gk.pay;exact⟨cs,(wC _ I.gk.Dx (.inr (.inl rfl))).trans c1,c2⟩
 .have NU:∀e∈es,e=mk (.read ad)∨e=mk (.write ad):=by grind
  refine tv I hgo (hm':=l) (λb c=>rfl) (bh _) (λy hy=>.refl ..) (λe E=>?_) (λe E b c _=>?_) (λe E b c hk=>?_) (λe E=>?_) I.gk.pay I.wg (s':={s1 with w:=w}) (tag':=tag) (rk':=rk') ?_ (p.trans' ) (q.rely p.size) I.mode (.inr ⟨rfl,u⟩)
  .have hW:=I.gk.Bf;rcases NU e E with rfl|rfl<;>(rw[ofEvent_mk];show ad.block<_;grind)
  .rcases NU e E with rfl|rfl<;>(rw[ofEvent_mk]at c;simp[MemAct.touch?]at c;subst c;exact .inl ⟨ad,rfl,had,by simp⟩)
  .rcases NU e E with rfl|rfl<;>(rw[ofEvent_mk]at c;simp[MemAct.touch?]at c;grind)
  .rcases NU e E with rfl|rfl<;>simp[mk]
  .rw[deafBehind_idle (λe E=>by rcases NU e E with rfl|rfl<;>simp[mk])];exact Hp
def gD(I:tu P ty Y N val n T k R gs w t l z j D A K d tag rk a s st Z){a':av}{es:Array Event}{tag':CTag}{rk':Rk}{qx Hn:Int}{s1:St}(p:ck s1 {s1 with w:=w})(P4:jM Y l z j s1)(hgo:aH P ab a w=.go a' w' es)(g:Aside Y.Wg w w')(JP:WgAt ty Y.Wg w' qx Hn)(Ho:∀e∈es,Bk Y.Wg e)(Hp:CS P ty Y N val n T k tag' j rk' (deafBehind d es) a' {s1 with w:=w'})(wD:Go.ConcN.Mode j D tag' qx Hn)(u:phi n (Vc j D) tag'<phi n (Vc j D) tag∨(phi n (Vc j D) tag'=phi n (Vc j D) tag/\Rk.lt rk' rk)):
  ∃m₁ ops μ',runT P (crowd gs w sl) 0=(.next m₁,ops)/\FT (Y.base+n) μ' R/\Inv P ty Y N val n T k μ' m₁ (t++ops):=by
 obtain⟨cs,W3,TC⟩:=I.gk.pay;have F:ck s1 {s1 with w:=w'}:=P4.JL p (DZ.wg g);refine tv I hgo (hm':=l) (λb c=>rfl) (by rw[g.size];grind) (λy hy=>.wg g I.gk.tl.IT I.gk.tl.base (λb o v S=>(I.gk.tl.ms y hy b o v S).2.2.1) I.gk.tl.ne) (JN Ho (by rw[g.size];exact I.gk.Bf)) (λe E b c l=>?_) (λe E b c hk=>?_) (BO Ho)
  ⟨cs,(g.block _ I.gk.tl.ne).trans W3,TC⟩ JP Hp F.trans' (P4.rely F.size) wD u
 .rcases Ho e E with q|q|⟨ad,wr,rfl,X⟩
  .rw[ofEvent_loc_mark q]at c;cases c
  .rw[ofEvent_loc_mark q]at c;cases c
  .rw[ofEvent_cell]at c;simp only[MemAct.touch?,dm]at c;subst c;exact .inl ⟨ad,rfl,X,by simp⟩
 .rcases Ho e E with q|q|⟨ad,wr,rfl,X⟩
  .rw[ofEvent_loc_mark q]at c;cases c
  .rw[ofEvent_loc_mark q]at c;cases c
  .rw[ofEvent_cell]at c;simp only[MemAct.touch?,dm]at c;grind
end
section
variable {P:aq}{ty:aj}{Y:Lay}{N:Nat}{val:Nat->Nat->ah}{n:Nat}{T f:av->St->Prop}{p hm':Nat->Nat}{u k:Nat->Mem}{j:Nat}{tag:CTag}{rk:Rk}{d:Nat}{a:av}{s:St}{w w':aA}{C:Mu}{gs:Array av}{sl:Option (Nat×Nat)}{t:Trace}{D:Nat->WD}{A:Nat->Nat}{K:Nat->Rk}{st E:Int}
def CS.bound(h:CS P ty Y N val n T f tag j rk d a s):j+pend tag<=n:=by cases h<;>simp only[pend]<;>(try simp)<;>omega
omit [Payload]in
def iz{S:av->St->Prop}(h:ko (Cx.lead P ty Y.Wg) (Es Y.Wg) S rk a s)(l:ck s {s with w:=w})(F:jM Y p u j s)(live:WgLive ty Y.Wg w):
  (∃s',ck s' {s' with w:=w}/\jM Y p u j s'/\S a s')∨∃s',ck s' {s' with w:=w}/\jM Y p u j s'/\∃g' s2 es r',aH P ab a w=.go g' s2.w es/\(qO {s' with w:=w} s2 es∨Es Y.Wg {s' with w:=w} s2 es)/\ko (Cx.lead P ty Y.Wg) (Es Y.Wg) S r' g' s2/\Rk.lt r' rk:=by
 rcases h.norm (λs0=>ck s0 {s0 with w:=w}/\jM Y p u j s0) (λs0 s' B hi=>⟨hi.1.ghost B,hi.2.ghost B⟩) (λG=>False.elim G) ⟨l,F⟩with⟨s',⟨k1,c⟩,z⟩|⟨_,s',⟨k1,c⟩,z⟩
 .grind
 .exact .inr ⟨s',k1,c,z _ ⟨k1,λ_=>live⟩⟩
def WS.quits{x a st d:Nat}{r:Rk}{g:av}(h:WS P ty Y N val p u x a st r d g w)(b:st=1):∃m,QuitsD P m d g:=by
 cases h with
 |am _ _ _=>cases b
 |rel _=>cases b
 |tail _ h=>exact⟨_,h.quits b⟩
def WS.small{x a st d:Nat}{r:Rk}{g:av}(h:WS P ty Y N val p u x a st r d g w)(b:st=1):a=0:=by
 cases h with
 |am _ _ _=>cases b
 |rel _=>rfl
 |tail _ h=>rfl
def JR(I:tu P ty Y N val n T f C gs w t p u j D A K d tag rk a s st E)(hn:n<2147483648)(Xh:∀g s,f g s->er (Cx.lead P ty Y.Wg) (Es Y.Wg) (AtW1 P ty Y T f) g s)(wj:a.status=.running):
  ∃U ops,runT P (crowd gs w sl) 0=(.next U,ops)/\((∃hm' k,NO P Y N val n T hm' k U (t++ops))∨∃μ',FT (Y.base+n) μ' C/\Inv P ty Y N val n T f μ' U (t++ops)):=by
 have hVj:=Vc_le j D;have JO:=I.gk.tl.base;have live:=I.gk.live;have fin:∀{X:Prop},(∃U ops μ',runT P (crowd gs w sl) 0=(.next U,ops)/\FT (Y.base+n) μ' C/\Inv P ty Y N val n T f μ' U (t++ops)) ->
   ∃U ops,runT P (crowd gs w sl) 0=(.next U,ops)/\((∃hm' k,NO P Y N val n T hm' k U (t++ops))∨∃μ',FT (Y.base+n) μ' C/\Inv P ty Y N val n T f μ' U (t++ops)) :=
  λ{_} ⟨U,ops,μ',l,h2,h3⟩=>⟨U,ops,l,.inr ⟨μ',h2,h3⟩⟩
 have hbound:=I.cs.bound;have cs:=I.cs;have O:=I.wg;have J:=I.mode;cases cs with
 |@skd r rk g s hr h =>
  rcases iz h I.rely I.lead live with⟨s',k1,c,_,g',H,hk⟩|⟨s',k1,c,g',s2,es,r',H,R,hk,Q⟩
  .obtain⟨r2,hk⟩:=hk {s' with w:=w} (fP k1 live);exact fin (X:=True) (gD I k1 c (H w) (.refl Y.Wg w) O bk_dis (.sa1 hr hk) (J.reopen ay ay rfl (by simp)) (.inl (by simp only[phi];omega)))
  .exact fin (X:=True) (iy I k1 c H R (.skd hr hk) Q)
 |@sa1 r rk g s hr h =>
  rcases iz h I.rely I.lead live with⟨s',k1,c,_,V⟩|⟨s',k1,c,g',s2,es,r',H,R,hk,Q⟩
  .obtain⟨ho,e1,e2,_⟩:=J.open_inv ay;rw[e1,e2]at O;obtain⟨a',H,r2,hk⟩:=V {s' with w:=w} (fP k1 live) (Vc (n-(r+1)) D) (by omega) (by simpa[pend]using O);refine fin (X:=True) (gD I k1 c H (aside_setCell w (stA Y.Wg) _) (O.setSt _) bk_rw (.ske hr hk) ?_ (.inl (by simp only[phi];omega)));have e:(((Vc (n-(r+1)) D:Nat):Int)+1)*KK=((Vc (n-(r+1)) D+pend (.sp r 3):Nat):Int)*KK:=by simp[pend]
   rw[e];exact .opn ay ho (by simp)
  .exact fin (X:=True) (iy I k1 c H R (.sa1 hr hk) Q)
 |@ske r rk g s hr h =>
  rcases iz h I.rely I.lead live with⟨s',k1,c,_,g',H,hk⟩|⟨s',k1,c,g',s2,es,r',H,R,hk,Q⟩
  .obtain⟨r2,hk⟩:=hk {s' with w:=w} (fP k1 live);exact fin (X:=True) (gD I k1 c (H w) (.refl Y.Wg w) O bk_en (.sgo hr hk) (J.reopen ay ay rfl (by simp)) (.inl (by simp only[phi];omega)))
  .exact fin (X:=True) (iy I k1 c H R (.ske hr hk) Q)
 |@sgo r rk g s hr h =>
  rcases iz h I.rely I.lead live with⟨s',k1,c,_,V⟩|⟨s',k1,c,g',s2,es,r',H,R,hk,Q⟩
  .obtain⟨a',child,hsp,_,⟨rc,hwk⟩,P5⟩:=V {s' with w:=w} (fP k1 live);obtain⟨ho,e1,e2,_⟩:=J.open_inv ay;rw[e1,e2]at O;have wE:=runT_crowd_spawn (P:=P) (sl:=sl) (i:=0) I.a0 (by simpa using hsp);rw[I.gk.size]at wE;have z:jM Y p u (n-(r+1)) {s' with w:=w}:=c.rely k1.size;let k:=upd u (n-(r+1)) s'.M;have hMe:∀y,y<n-(r+1)->k y=u y:=λy hy=>upd_ne u _ (by omega);have Yi:k (n-(r+1))=s'.M:=upd_same u _ _;have Rz:ck (St.child {s' with w:=w}) {St.child {s' with w:=w}with w:=w}:=ck.wB k1.mem;have UK:l3 p (k (n-(r+1))) (Y.base+(n-(r+1))) (St.child {s' with w:=w}):=by
    refine⟨λb hb=>?_,λb o v hv=>⟨.inr (by rw[Yi];exact hv),(z.M b o v hv).2.2.2.2⟩⟩;rcases hb with hb|⟨L,hL,_⟩
    .exact hb.elim
    .simp[St.child]at hL
   have FW:=(I.gk.congr hMe).spawn (a':=a') (x:={g:=0,fn:=a.frame.fn,pos:=a.frame.place,act:=.go (Y.base+(n-(r+1)))}) (y:={g:=Y.base+(n-(r+1)),fn:=child.frame.fn,pos:=a.frame.place,act:=.start}) ⟨rfl,rfl⟩ ⟨rfl,rfl⟩
    (λb o v hv=>by rw[Yi]at hv;exact z.M b o v hv) hwk Rz UK
   have eV:Vc (n-(r+1)+1) (upd D (n-(r+1)) ⟨7,0,0⟩)=Vc (n-(r+1)) D+1:=by simp only[Vc,sumTo,upd_same];rw[sumTo_upd_out D _ cnt (bh _)];rfl
   have eS:Ssum (n-(r+1)+1) (upd D (n-(r+1)) ⟨7,0,0⟩)=Ssum (n-(r+1)) D+7:=by simp only[Ssum,sumTo,upd_same];rw[sumTo_upd_out D _ WD.stage (bh _)]
   have eA:sumTo (n-(r+1)+1) (upd A (n-(r+1)) 1)=sumTo (n-(r+1)) A+1:=by have:sumTo (n-(r+1)) (upd A (n-(r+1)) 1)=sumTo (n-(r+1)) A:=sumTo_upd_out A 1 id (i:=n-(r+1)) (j:=n-(r+1)) (bh _);show sumTo (n-(r+1)) (upd A (n-(r+1)) 1)+upd A (n-(r+1)) 1 (n-(r+1))=_;rw[upd_same];grind
   have Xi:OpenSt (n-(r+1)+1) (upd D (n-(r+1)) ⟨7,0,0⟩):=λi hi=>by
    by_cases e:i=n-(r+1)
    .subst e;rw[upd_same];simp
    .rw[upd_ne D _ e];exact ho i (by omega)
   have Yj:((gs.setIfInBounds 0 a').push child)[0]?=aa a':=by
    have h0:0<gs.size:=by rw[I.gk.size];omega
    grind
   have Z:jM Y p k (n-(r+1)+1) {s' with w:=w}:=⟨z.blk,z.M,λy hy b o v hv=>by
    rcases cD y (n-(r+1))with l|l
    .rw[hMe y l]at hv;exact z.ms y l b o v hv
    .obtain rfl:y=n-(r+1):=by omega
     rw[Yi]at hv;exact hv⟩
   have ej:n-(r+1)+1=n-r:=by omega
   rw[ej]at FW eV eS eA Xi Z;have Yk:∀tag',pend tag'=0->((Vc (n-(r+1)) D+pend (.sp r 2):Nat):Int)*KK=((Vc (n-r) (upd D (n-(r+1)) ⟨7,0,0⟩)+pend tag':Nat):Int)*KK:=λtag' hp=>by rw[eV,hp];simp[pend]
   cases r with
   |zero =>
    obtain⟨r3,hk⟩:=P5;simp only[lG]at FW eV eS eA Xi Yk Z;refine⟨_,_,wE,.inr ⟨(phi n (Vc n (upd D (n-(0+1)) ⟨7,0,0⟩)) .kd+Ssum n (upd D (n-(0+1)) ⟨7,0,0⟩)+sumTo n (upd A (n-(0+1)) 1),(upd K (Y.base+(n-(0+1))) rc,r3)),by rw[I.mu];exact Prod.Lex.left _ _ (by simp only[phi];omega),
     _,w,sl,p,k,n,_,_,_,0,.kd,r3,a',{s' with w:=w},_,_,rfl,⟨Yj,.kd hk,k1.trans',Z,FW,O,?_,rfl⟩⟩⟩
    rw[Yk .kd rfl];exact .opn ay Xi (by simp)
   |succ r' =>
    obtain⟨r3,hk⟩:=P5;refine⟨_,_,wE,.inr ⟨(phi n (Vc (n-(r'+1)) (upd D (n-(r'+1+1)) ⟨7,0,0⟩)) (.sp r' 5)+Ssum (n-(r'+1)) (upd D (n-(r'+1+1)) ⟨7,0,0⟩)+sumTo (n-(r'+1)) (upd A (n-(r'+1+1)) 1),(upd K (Y.base+(n-(r'+1+1))) rc,r3)),by rw[I.mu];exact Prod.Lex.left _ _ (by simp only[phi];omega),
     _,w,sl,p,k,n-(r'+1),_,_,_,0,.sp r' 5,r3,a',{s' with w:=w},_,_,rfl,⟨Yj,.skd (by omega) hk,k1.trans',Z,FW,O,?_,rfl⟩⟩⟩
    rw[Yk (.sp r' 5) rfl];exact .opn ay Xi (by simp)
  .exact fin (X:=True) (iy I k1 c H R (.sgo hr hk) Q)
 |kd h =>
  rcases iz h I.rely I.lead live with⟨s',k1,c,_,g',H,hk⟩|⟨s',k1,c,g',s2,es,r',H,R,hk,Q⟩
  .obtain⟨r2,hk⟩:=Xh _ _ (hk {s' with w:=w} (fP k1 live));exact fin (X:=True) (gD I k1 c (H w) (.refl Y.Wg w) O bk_dis (.w1 hk) (J.reopen ay ay rfl (by simp)) (.inl (by simp only[phi];omega)))
  .exact fin (X:=True) (iy I k1 c H R (.kd hk) Q)
 |w1 h =>
  rcases iz h I.rely I.lead live with⟨s',k1,c,_,V⟩|⟨s',k1,c,g',s2,es,r',H,R,hk,Q⟩
  .obtain⟨ho,e1,e2,_⟩:=J.open_inv ay;rw[e1,e2]at O;have hV:=Vc_le n D;obtain⟨a',H,h0,Bo⟩:=V {s' with w:=w} (fP k1 live) (Vc n D) (by omega) (by grind);by_cases hv:Vc n D=0
   .obtain⟨r2,hk⟩:=h0 hv;refine fin (X:=True) (gD I k1 c H (.refl Y.Wg w) O bk_rd (.ke hk) ?_ (.inl (by simp only[phi];omega)));have e:((Vc n D+pend .w1:Nat):Int)*KK=0:=by grind
    rw[e];exact .fin ay (allQuit_of ho hv)
   .obtain⟨r2,hk⟩:=Bo hv;refine fin (X:=True) (gD I k1 c H (.refl Y.Wg w) O bk_rd (.w2 hk) ?_ (.inl (by simp only[phi];omega)));have:=J.reopen (tag':=.w2 (Vc n D)) ay ay rfl (λvs e=>by grind);grind
  .exact fin (X:=True) (iy I k1 c H R (.w1 hk) Q)
 |@w2 vs rk g s h =>
  rcases iz h I.rely I.lead live with⟨s',k1,c,_,V⟩|⟨s',k1,c,g',s2,es,r',H,R,hk,Q⟩
  .obtain⟨ho,e1,e2,Yl⟩:=J.open_inv ay;rw[e1,e2]at O;obtain⟨hle,l⟩:=Yl vs rfl;obtain⟨Ym,UL⟩:=V {s' with w:=w} (fP k1 live) (Vc n D) (by omega) (by grind);by_cases e:Vc n D=vs
   .obtain⟨a',H,r2,hk⟩:=Ym e;exact fin (X:=True) (gD I k1 c H (aside_setCell w (stA Y.Wg) _) (O.setSt _) bk_rw (.w3 hk) (.reg ay ho (by omega)) (.inl (by simp only[phi];omega)))
   .obtain⟨a',H,hk⟩:=UL e;obtain⟨r2,hk⟩:=Xh _ _ hk;refine fin (X:=True) (gD I k1 c H (.refl Y.Wg w) O bk_rd (.w1 hk) ?_ (.inl (by simp only[phi];omega)));have:=J.reopen (tag':=.w1) ay ay rfl (by simp);grind
  .exact fin (X:=True) (iy I k1 c H R (.w2 hk) Q)
 |@w3 rk g s h =>
  rcases iz h I.rely I.lead live with⟨s',k1,c,jO⟩|⟨s',k1,c,g',s2,es,r',H,R,hk,Q⟩
  .obtain⟨_,Uk,V⟩:=jO;obtain⟨NV,P6⟩:=V {s' with w:=w} (fP k1 live);obtain⟨x,hx⟩:=Rk.JM s rk;have UM:AtW3 P ty Y T a {s' with w:=w}:=AtW3.rely ⟨wj,Uk,V⟩ (fP k1 live);generalize st=Yg at J O;generalize E=sm0 at J O;cases J with
   |opn l _ _=>exact l.elim
   |reg l h2 h3=>exact fin (X:=True) (gD I k1 c (NV ⟨_,O⟩) (.refl Y.Wg w) O (by simp) (.blk (rk:=x) UM) (.reg ay h2 h3) (.inr ⟨rfl,hx⟩))
   |last L l h2 h3 h4=>exact fin (X:=True) (gD I k1 c (NV ⟨_,O⟩) (.refl Y.Wg w) O (by simp) (.blk (rk:=x) UM) (.last L ay h2 h3 h4) (.inr ⟨rfl,hx⟩))
   |sema h2 =>
    obtain⟨a',H,r2,hk⟩:=P6 O;exact fin (X:=True) (gD I k1 c H (aside_setCell w (smA Y.Wg) _) (O.setSm 0) bk_sem (.w4 hk) (.fin ay h2) (.inl (by simp only[phi];omega)))
   |fin l _=>exact l.elim
  .exact fin (X:=True) (iy I k1 c H R (.w3 hk) (Rk.FR Q))
 |blk h=>grind
 |w4 h =>
  rcases iz h I.rely I.lead live with⟨s',k1,c,_,V⟩|⟨s',k1,c,g',s2,es,r',H,R,hk,Q⟩
  .obtain⟨hq,e1,e2⟩:=J.fin_inv ay;rw[e1,e2]at O;obtain⟨a',H,r2,hk⟩:=V {s' with w:=w} (fP k1 live) O;exact fin (X:=True) (gD I k1 c H (.refl Y.Wg w) O bk_rd (.ke hk) (.fin ay hq) (.inl (by simp only[phi];omega)))
  .exact fin (X:=True) (iy I k1 c H R (.w4 hk) Q)
 |ke h =>
  rcases iz h I.rely I.lead live with⟨s',k1,c,_,g',H,hk⟩|⟨s',k1,c,g',s2,es,r',H,R,hk,Q⟩
  .obtain⟨r2,hk⟩:=hk {s' with w:=w} (fP k1 live);obtain⟨hq,e1,e2⟩:=J.fin_inv ay;rw[e1,e2]at O;exact fin (X:=True) (gD I k1 c (H w) (.refl Y.Wg w) O bk_en (.acq hk) (.fin ay hq) (.inl (by simp only[phi];omega)))
  .exact fin (X:=True) (iy I k1 c H R (.ke hk) Q)
 |acq h =>
  rcases iz h I.rely I.lead live with⟨s',k1,c,_,a',H,hk⟩|⟨s',k1,c,g',s2,es,r',H,R,hk,Q⟩
  .obtain⟨hq,e1,e2⟩:=J.fin_inv ay;have wE:=runT_crowd_go (P:=P) (sl:=sl) (i:=0) I.a0 (by simpa using H w);have ev:MemOp.ofEvents 0 a.frame.fn a.frame.place #[mk (.acquire (stA Y.Wg))]=#[{g:=0,fn:=a.frame.fn,pos:=a.frame.place,act:=.mark (.acquire (stA Y.Wg))}]:=by rw[ofEvents_eq];simp[ofEvent_mk]
   have W:=I.gk.step0 (g:=a) (g':=a') (fn:=a.frame.fn) (pos:=a.frame.place) (es:=#[mk (.acquire (stA Y.Wg))]) (hm':=p) (w':=w) (λ_ _=>rfl) (bh _) (λy _=>.refl ..) (by simp;exact I.gk.Bf) (by intro e he b hb;simp at he;subst he;simp[mk,aK,MemAct.touch?]at hb) (by intro e he b hb;simp at he;subst he;simp[mk,aK,MemAct.touch?]at hb) (by intro e he;simp at he;subst he;simp[mk]) I.gk.pay live;have hd0:deafBehind 0 #[mk (.acquire (stA Y.Wg))]=0:=rfl;have hy:(t++#[({g:=0,fn:=a.frame.fn,pos:=a.frame.place,act:=.mark (.acquire (stA Y.Wg))}:MemOp)])[t.size]?=aa {g:=0,fn:=a.frame.fn,pos:=a.frame.place,act:=.mark (.acquire (stA Y.Wg))}:=by simp
   have UN:=W.tl.X9 (by rw[W.deaf0];rfl) (W.norel _) (q:=t.size) (by rw[ev,act?_of hy]) (by rw[ev];simp[Trace.g?]) (by rw[ev];exact⟨0,by simp[Trace.g?],by rw[deaf_old (bh _)];exact I.gk.deaf0⟩) (λx hx=>by
    obtain⟨r,hr⟩:=I.gk.rel x hx (by rw[hq x hx];omega)
    exact⟨r,hr.appOther g_of_ofEvents (by omega),lt_of_act? hr.act⟩)
   have G7:∃q,Leavers P (t++MemOp.ofEvents 0 a.frame.fn a.frame.place #[mk (.acquire (stA Y.Wg))]) ((gs.map (woken P a a' w)).setIfInBounds 0 a') q:=by
    have each:∀i,∃m,∀g,0<i->((gs.map (woken P a a' w)).setIfInBounds 0 a')[i]?=aa g->QuitsD P m (Deaf (t++MemOp.ofEvents 0 a.frame.fn a.frame.place #[mk (.acquire (stA Y.Wg))]) i) g:=by
     intro i;cases Q9:((gs.map (woken P a a' w)).setIfInBounds 0 a')[i]? with
     |none=>exact⟨0,λg _ B=>by cases B⟩
     |some g =>
      rcases mS i with e|RA
      .exact⟨0,λg' h=>by omega⟩
      .rcases cD i Y.base with Q|TM
       .obtain⟨m,_,Yn⟩:=W.lv i g RA Q Q9;exact⟨m,λg' _ FV=>by grind⟩
       .obtain⟨x,rfl⟩:∃x,i=Y.base+x:=⟨i-Y.base,by omega⟩
        have hx:x<n:=by have:=(ij.1 Q9).1;rw[W.size]at this;omega
        obtain⟨g0,x9,Yo⟩:=W.wk x hx;rw[Q9]at x9;cases x9;obtain⟨m,Yn⟩:=Yo.quits (hq x hx);refine⟨m,λg' _ FV=>?_⟩;cases FV;rw[W.deafW x hx];exact Yn
    exact⟨λi=>Classical.choose (each i),λi g hi B=>Classical.choose_spec (each i) g hi B,λi hi=>W.above i (by rw[W.size]at hi;exact hi)⟩
   obtain⟨q,G7⟩:=G7;refine⟨_,_,wE,.inl ⟨p,u,⟨_,w,sl,a',s',q,rfl,Go.ConcN.get_map_set_same _ _ _ (by rw[I.gk.size];omega),W.size,hk {s' with w:=w} (fP k1 live),k1,c,G7,UN,W.norel,I.gk.pay,λx hx i hi=>?_,I.gk.Dx,I.gk.Bf,I.gk.MZ⟩⟩⟩;obtain⟨g0,_,Yo⟩:=I.gk.wk x hx;rcases mS i with e|RA
   .subst e;exact I.gk.BN x hx (by rw[hq x hx];omega)
   .exact I.gk.x8 x hx (Yo.small (hq x hx)) i RA hi
  .exact fin (X:=True) (iy I k1 c H R (.acq hk) Q)
end
end
section
open Go.Conc
open Go.ConcN (WD CTag Vc Ssum pend phi cnt WgLive PayAt Has WSit RelBy sumTo upd upd_same upd_ne exists_counted)
open Go.ConcR (KK WgAt stA smA Payload)
variable [Payload]
section
variable {P:aq}{ty:aj}{Y:Lay}{N:Nat}{val:Nat->Nat->ah}{n:Nat}{T c:av->St->Prop}{l:Nat->Nat}{u:Nat->Mem}{j:Nat}{tag:CTag}{rk:Rk}{d:Nat}{a:av}{s:St}{w:aA}{f:Mu}{gs:Array av}{sl:Option (Nat×Nat)}{t:Trace}{D:Nat->WD}{A:Nat->Nat}{K:Nat->Rk}{st p:Int}
def WS.running_of{x a st d:Nat}{r:Rk}{g:av}(h:WS P ty Y N val l u x a st r d g w)(b:st≠1):g.status=.running:=by
 cases h with
 |am h1 _ _=>exact h1.run λ_ _ x=>x.1
 |rel h1=>exact Goes.running (λ_ _ x=>x.1) w (Go.ConcN.RW.refl w) h1
 |tail _ h1=>exact h1.running_of b
def someone_runs(I:tu P ty Y N val n T c f gs w t l u j D A K d tag rk a s st p):∃(i:Nat)(g:av),gs[i]?=aa g/\g.status=.running:=by
 rcases I.cs.status with⟨e,_⟩|⟨_,rfl⟩
 .exact⟨0,a,I.a0,e⟩
 .have b:=I.mode;cases b with
  |opn h1 _ _=>exact h1.elim
  |reg _ _ k =>
   obtain⟨i,hi,o⟩:=exists_counted k;obtain⟨g,h,e⟩:=I.gk.wk i hi;exact⟨_,g,h,e.running_of (by omega)⟩
  |last L _ m k _ =>
   obtain⟨g,h,e⟩:=I.gk.wk L m;exact⟨_,g,h,e.running_of (by omega)⟩
  |fin h1 _=>exact h1.elim
def all_awake(I:tu P ty Y N val n T c f gs w t l u j D A K d tag rk a s st p):∀g∈gs,awake g:=by
 intro g y z;obtain⟨i,hi⟩:=Array.mem_iff_getElem?.1 y;rcases mS i with rfl|b
 .rw[I.a0]at hi;cases hi;rcases I.cs.status with⟨k,_⟩|⟨k,_⟩<;>rw[k]<;>simp
 .rcases cD i Y.base with o|v
  .obtain⟨m,_,r⟩:=I.gk.lv i g b o hi;rcases r.status with h|h<;>rw[h]<;>simp
  .obtain⟨x,rfl⟩:∃x,i=Y.base+x:=⟨i-Y.base,by omega⟩
   have q:x<j:=by have:=(ij.1 hi).1;rw[I.gk.size]at this;omega
   obtain⟨g',e,k⟩:=I.gk.wk x q;rw[hi]at e;cases e;rcases k.status with h|h<;>rw[h]<;>simp
def tu.at(I:tu P ty Y N val n T c f gs w t l u j D A K d tag rk a s st p)(b:Nat):tu P ty Y N val n T c f gs (w.at b) t l u j D A K d tag rk a s st p :=
 ⟨I.a0,I.cs,I.rely.more (bh _) (λ_ _=>rfl) (λ_ _ _ _ h=>h) rfl rfl rfl,I.lead,I.gk.at b,I.wg,I.mode,I.mu⟩
def D1(I:tu P ty Y N val n T c f gs w t l u j D A K d tag rk a s st p){i:Nat}(hi:0<i)(r:i<Y.base){g:av}(E:gs[i]?=aa g)(o:g.status=.running):
  ∃e ops μ',runT P (crowd gs w sl) i=(.next e,ops)/\FT (Y.base+n) μ' f/\Inv P ty Y N val n T c μ' e (t++ops):=by
 obtain⟨m,G,C⟩:=I.gk.lv i g hi r E;cases m with
 |zero=>rw[C.1]at o;cases o
 |succ m =>
  rcases C with⟨H,_⟩|⟨_,g',es,z,x,B⟩
  .grind
  .have y:(i==0)=af:=by grind
   have q:=runT_crowd_go (P:=P) (sl:=sl) (i:=i) E (by rw[y];exact x w)
   obtain⟨tag',rk',v,h,F⟩:=I.cs.wokenBy g g' w;have b:Go.ConcN.Mode j D tag' st p:=I.mode.retag h;refine⟨_,_,(phi n (Vc j D) tag'+Ssum j D+sumTo j A,(upd K i (Rk.nat m),rk')),q,?_,_,w,sl,l,u,j,D,A,_,d,tag',rk',woken P g g' w a,s,st,p,rfl,
    ⟨by rw[Go.ConcN.get_map_set _ _ _ _ (by omega),I.a0];rfl,v,I.rely,I.lead,I.gk.leave hi r z B,I.wg,b,rfl⟩⟩
   rw[I.mu,Go.ConcN.phi_retag n _ h];exact Prod.Lex.right _ (Prod.Lex.left _ _ ⟨i,by omega,by rw[upd_same,G];exact Rk.DY _ s,λk hk=>upd_ne K _ hk⟩)
def JS(C:n<2147483648)(y:∀g s,c g s->er (Cx.lead P ty Y.Wg) (Es Y.Wg) (AtW1 P ty Y T c) g s){m:Machine}(h:Inv P ty Y N val n T c f m t):
  ∃b ops,stepT P m=(.next b,ops)/\((∃hm' NW,NO P Y N val n T hm' NW b (t++ops))∨∃k,FT (Y.base+n) k f/\Inv P ty Y N val n T c k b (t++ops)):=by
 obtain⟨gs,w,sl,l,u,j,D,A,K,O,tag,rk,a,s,st,p,rfl,I⟩:=h;obtain⟨i,g,H,o,v,e,q⟩:=crowd_pick (P:=P) (w:=w) (sl:=sl) (all_awake I) (someone_runs I);rw[q];have B:=I.at H;have L:j<=n:=by have:=I.cs.bound;omega
 rcases mS i with rfl|r
 .rw[I.a0]at v;cases v;exact JR (sl:=o) B C y e
 .rcases cD i Y.base with z|E
  .obtain⟨b,ops,k,M,F,J⟩:=D1 (sl:=o) B r z v e;grind
  .obtain⟨x,rfl⟩:∃x,i=Y.base+x:=⟨i-Y.base,by omega⟩
   have G:x<j:=by have:=(ij.1 v).1;rw[I.gk.size]at this;omega
   obtain⟨b,ops,k,M,F,J⟩:=stepWorker (sl:=o) B C L I.cs.bound G v e;grind
def Hq(z:n<2147483648)(q:∀g s,c g s->er (Cx.lead P ty Y.Wg) (Es Y.Wg) (AtW1 P ty Y T c) g s):∀(f:Mu)(m:Machine)(t:Trace),Inv P ty Y N val n T c f m t ->
  ∃M k i hm' NW,runNT P M m t=(.next k,i)/\NO P Y N val n T hm' NW k i:=by
 intro f;induction(Rx (Y.base+n)).apply f with
 |intro f _ v =>
  intro m t h;obtain⟨b,ops,r,e⟩:=JS z q h;rcases e with⟨hm',NW,e⟩|⟨o,e,x⟩
  .exact⟨1,b,t++ops,hm',NW,by simp[runNT,r],e⟩
  .obtain⟨M,k,i,hm',NW,k1,y⟩:=v o e b (t++ops) x;exact⟨M+1,k,i,hm',NW,by simp only[runNT,r];exact k1,y⟩
def Ua.fork{g:av}{s s0:St}{T':av->St->Prop}(kc:Nat)(hkc:0<kc)(Wg C:Nat)(hn:n<2147483648)(Bo:C≠Wg)(X:eu s s0)(wj:g.status=.running)(hC:∃L∈s.β,C∈L.bs)(hW:∃L∈s.β,Wg∈L.bs)(F:∀b,(s.own b∨∃L∈s.β,b∈L.bs)->b<s.w.heap.size)(h0:∀b,(b=C∨b=Wg)->¬s0.own b/\(∀L∈s0.β,b∉L.bs)/\∀o,s0.M b o=ae)(R:WgAt ty Wg s.w 0 0)(Z:PayAt C N s.w)(h:∀Y:Lay,Y.Wg=Wg->Y.C=C->Y.kc=kc->∃T c,(∀g s,c g s->er (Cx.lead P ty Y.Wg) (Es Y.Wg) (AtW1 P ty Y T c) g s)/\Spawns P ty Y N val n c n g s0 /\
   ∀g' s',T g' s'->gL s'->PayAt C N s'.w->(∀x,x<n->∀i,i<kc->s'.w.cell? ⟨C,kc*x+i,ae⟩=aa (val x i))->C<s'.w.heap.size->(∀b,(b=C∨b=Wg)->¬s'.own b/\(∀L∈s'.β,b∉L.bs)/\∀o,s'.M b o=ae) ->
    ∃s2,T' g' s2/\s2.w=s'.w/\gL s2/\∀Sh:Nat->Prop,Clear Sh s'->¬Sh C->Clear Sh s2):Ua P g s T':=by
 intro Sh gs sl t q l ha H hP hc UE;have Yp:¬Sh C:=λhs=>let ⟨L,H,m⟩:=hC;hc.β C hs L H m
 have Yq:¬Sh Wg:=λhs=>let ⟨L,H,m⟩:=hW;hc.β Wg hs L H m
 have UO:=F C (.inr hC);have Yr:=F Wg (.inr hW);have V:1<=gs.size:=(ij.1 ha).1;let Y:Lay:={Sh:=Sh,T0:=t.size,Wg:=Wg,C:=C,base:=gs.size,kc:=kc}
 obtain⟨T,c,Xh,z,Ys⟩:=h Y rfl rfl rfl;have S:=hc.ghost X;have NU:gL s0:=.ghost X;have E:jM Y (λ_=>0) (λ_ _ _=>ae) 0 s0:=by
  refine⟨λb m=>⟨rfl,λe=>?_,λe=>?_,λe=>?_,by rw[X.w];exact F b (X.blk b m)⟩,λb o v hv=>⟨rfl,λe=>?_,λe=>?_,λe=>?_,gL.lt NU hv⟩,λx y=>absurd y (fL x)⟩
  .grind
  .grind
  .rcases m with m|⟨L,H,m⟩
   .exact S.own b e m
   .exact S.β b e L H m
  .grind
  .grind
  .rw[S.M b e o]at hv;cases hv
 have Q:Com P ty Y N val (λ_=>0) (λ_ _ _=>ae) 0 gs s.w t (λ_=>⟨0,0,0⟩) (λ_=>0) (λi=>Rk.nat (q i)) 0 :=
  ⟨rfl,λi g hi _ Q9=>⟨q i,rfl,H.old i g hi Q9⟩,H.above,λx y=>absurd y (fL x),TL.start hP rfl V Bo Yq Yp,UE,hP.hears,λx y=>absurd y (fL x),λx y=>absurd y (fL x),λx y=>absurd y (fL x),λx y=>absurd y (fL x),
   Z,⟨_,_,R⟩,Yr,UO,hc.lt,hkc,λx y=>absurd y (fL x)⟩
 have O:ck s0 {s0 with w:=s.w}:=by have:=ck.wB NU;rw[<-X.w];exact this
 have B:∃f,Inv P ty Y N val n T c f (crowd gs s.w sl) t:=by
  cases n with
  |zero =>
   obtain⟨r,z⟩:=z;exact⟨_,gs,s.w,sl,_,_,0,_,_,_,0,.kd,r,g,s0,_,_,rfl,⟨ha,.kd z,O,E,Q,R,by have:=Go.ConcN.Mode.opn (j:=0) (D:=λ_=>(⟨0,0,0⟩:WD)) (tag:=.kd) ay (λi hi=>absurd hi (fL i)) (by simp);simpa[Vc,sumTo,pend]using this,rfl⟩⟩
  |succ n =>
   obtain⟨r,z⟩:=z;have UP:CS P ty Y N val (n+1) T c (.sp n 5) (n+1-(n+1)) r 0 g s0:=.skd (Nat.lt_succ_self n) z;rw[Nat.sub_self]at UP;exact⟨_,gs,s.w,sl,_,_,0,_,_,_,0,.sp n 5,r,g,s0,_,_,rfl,⟨ha,UP,O,E,Q,R,by have:=Go.ConcN.Mode.opn (j:=0) (D:=λ_=>(⟨0,0,0⟩:WD)) (tag:=.sp n 5) ay (λi hi=>absurd hi (fL i)) (by simp);simpa[Vc,sumTo,pend]using this,rfl⟩⟩
 obtain⟨f,B⟩:=B;obtain⟨M,m',t',hm',NW,aak,⟨gs',w',sl',a',I,q',rfl,Yj,_,hT,W,RB,ff,hP',acF,hp',J,hlC,hlW,hlS⟩⟩:=Hq hn Xh f _ _ B;have U:jM Y hm' NW n {I with w:=w'}:=RB.rely W.size;have G:∀b,(b=C∨b=Wg∨Sh b)->¬I.own b/\(∀L∈I.β,b∉L.bs)/\∀o,I.M b o=ae:=by
  intro b m;have key:∀x,(hm' x=0/\x≠Y.C/\x≠Y.Wg/\¬Y.Sh x/\x<w'.heap.size)->x≠b:=by grind
  refine⟨λho=>key b (U.blk b (.inl ho)) rfl,λL H Nb=>key b (U.blk b (.inr ⟨L,H,Nb⟩)) rfl,λo=>?_⟩;cases hM:I.M b o with
  |none=>rfl
  |some v=>exact absurd rfl (key b (U.M b o v hM))
 obtain⟨s2,hT2,Yl,Yn,TC⟩:=Ys a' {I with w:=w'} hT (λb o v hv=>W.mem b o v hv) hp' J hlC (λb m=>G b (m.elim .inl λe=>.inr (.inl e)));have IM:Clear (λb=>Sh b∨b=Wg) {I with w:=w'}:=by have k:∀b,(Sh b∨b=Wg)->¬I.own b/\(∀L∈I.β,b∉L.bs)/\∀o,I.M b o=ae:=λb m=>G b (m.elim (λe=>.inr (.inr e)) λe=>.inr (.inl e));exact⟨λb m=>(k b m).1,λb m=>(k b m).2.1,λb m=>(k b m).2.2,λb m=>m.elim (hlS b) λe=>by grind⟩
 grind
end
end
end Go.AM
