/- Part 3. No condition. -/
import Derived.Test.YtbaopamghpnebaaGreatDoorA2
import Derived.Maps.RangeRun
import Derived.Laws.Externs
import Derived.Conc.Beside
import Derived.Conc.CrowdRun
set_option linter.all false
set_option maxHeartbeats 8000000
open Go.Conc (G)
open Go renaming Value → ah, Program → ar, TypeId → aj, Oper → au, Operand → ak, undef → ai, execOp → aw, World → aA, Goroutine → av, stepG → aH, Frame → aR, FuncId → aJ
open Option renaming some → aa, none → ae
open Bool renaming true → ab, false → af
open Go.World renaming cell? → aV
open Go.Sem renaming events_bind → aM
open Go.Result renaming evThen_ok → aO
open Go.Instr renaming sliceBounds → bc, sureAddr → bo
open List renaming range → bg
open Go.Region renaming wanted → bd, ready → a9
open Go.MemAct renaming ofEvent → aK
open Nat renaming beq → aB, ble → bu
namespace Go.AM
def eh(i:Nat)(D:Nat->Bool):Nat->Bool:=λj=>match aB j i with|true=>ab|false=>D j
section
variable {P:ar}{X:Cx P}{N:Nat}{ops:Array au}{φ:Fr}{σ:List aP}{g:Type}{x:g->Nat->D}{idx:Nat->Option Nat}{S:g->(Nat->Bool)->List aP}{Inv:g->(Nat->Bool)->Prop}{c:Nat}
def lB(L:Array Bool):Nat->Bool:=λi=>L.getD i af
def HA{L:Array Bool}{i:Nat}(hi:i<L.size):lB (L.setIfInBounds i ab)=eh i (lB L):=by funext j;have h:=eJ (L:=L) (i:=i) (j:=j) hi;simp only[lB,eh];grind[Nat.eq_of_beq_eq_true,Nat.beq_refl]
def RQ{L:Array Bool}{n c:Nat}(d:L.size=n)(h:∀k,c<=k->¬L.getD k af=ab):n-c<=(L.toList.filter (λb=>!b)).length:=by
 have e:(L.toList.drop c).filter (λb=>!b)=L.toList.drop c:=by rw[zu];intro b a;obtain⟨i,hi,rfl⟩:=dL a;have:=h (c+i) (by omega);simp only[rJ,ji]at hi;simp only[dM,fU (by omega:c+i<L.size),im]at this;grind
 grind[List.drop_sublist]
theorem Names.U5(all:List au)(c:Nat):Names all (List.range' c (all.length-c)) (all.drop c):=by
 have key:∀(l:List au) (n:Nat),(∀j o,l[j]?=aa o->all[n+j]?=aa o)->Names all (List.range' n l.length) l:=by
  intro l;induction l with
  |nil=>intro n _;trivial
  |cons o r b =>
   intro n h;rw[eU,List.range'_succ];refine⟨by simpa using h 0 o rfl,b (n+1) λj a hj=>?_⟩;have:=h (j+1) a (by grind);grind
 have:=key (all.drop c) c λj o h=>by grind
 grind
structure U6{P:ar}(X:Cx P)(N:Nat)(ops:Array au)(φ:Fr){g:Type}(x:g->Nat->D)(S:g->(Nat->Bool)->List aP)(Inv:g->(Nat->Bool)->Prop)(idx:Nat->Option Nat)(c:Nat):Prop where
 back:∀i o,ops[i]?=aa o->∀e∈o.after,dj e=ab->e.on<i
 Jp:∀i o d,ops[i]?=aa o->o.dst=aa d->idx d=aa i/\d<N
 x7:∀d i,idx d=aa i->∃o,ops[i]?=aa o/\o.dst=aa d
 one:∀κ (D:Nat->Bool) i o,Inv κ D->ops[i]?=aa o->i<c->D i=af->(∀e∈o.after,dj e=ab->D e.on=ab)->(∀j o',ops[j]?=aa o'->D j=ab->∀e∈o'.after,dj e=ab->D e.on=ab)->mE X N ops.toList o (jZ ops.toList φ (x κ) i) (S κ D) (λq:{κ':g // (∀j,D j=ab->x κ' j=x κ j)/\Inv κ' (eh i D)}=>x q.1 i) (λq=>S q.1 (eh i D))
 TG:∀(x:Nat->D) i o,ops[i]?=aa o->∀t σ s v,dk σ s v (match idx t with|some j=>(if ∃e∈o.after,dj e=ab/\e.on=j then x j else .any)|none=>look φ t)->dk σ s v (look (jZ ops.toList φ x i) t)
 fin:∀(x:Nat->D) t σ s v,dk σ s v (match idx t with|some j=>x j|none=>look φ t)->dk σ s v (look (MZ ops.toList φ x) t)
 PR:∀i o,ops[i]?=aa o->c<=i->∀L:Array Bool,(∀i o,ops[i]?=aa o->L.getD i af=ab->∀e∈o.after,dj e=ab->L.getD e.on af=ab)->(∀e∈o.after,dj e=ab->L.getD e.on af=ab)->∀k,k<i->L.getD k af=ab
 cc:c<=ops.size
 RR:∀κ (D:Nat->Bool),Inv κ D->(∀i,i<c->D i=ab)->∀i,c<=i->i<ops.size->x κ i=.any
def F9{L:Array Bool}{i n:Nat}(a:L.size=n)(hi:i<n):L.getD i ab=af↔¬L.getD i af=ab:=by grind
theorem U6.seq(h:U6 X N ops φ x S Inv idx c):∀(a d:Nat)(L:Array Bool)(t:Nat),L.size=ops.size->c<=d->d<=ops.size->ops.size-d<=a->(∀k,k<ops.size->(L.getD k af=ab↔k<d)) ->
  Region.linearise.go .any ops a t L []=List.range' d (ops.size-d):=by
 intro a;induction a with
 |zero =>
  grind[wj]
 |succ a y =>
  intro d L t w F A E v;by_cases C:d=ops.size
  .grind [B8]
  .rw[pe];have j:d<ops.size:=by omega
   have r:∀i o,ops[i]?=aa o->L.getD i af=ab->∀e∈o.after,dj e=ab->L.getD e.on af=ab:=λi o n hi e l s=>by have b:=(ij.1 n).1;have h1:=(v i b).1 hi;have h2:=h.back i o n e l s;grind
   have u:∀i,i∈a9 .any ops L->i=d:=λi hi=>by
    obtain⟨o,n,hl,z⟩:=mem_ready.1 hi;have b:=(ij.1 n).1;have B:¬i<d:=λm=>(F9 w b).1 hl ((v i b).2 m);rcases cC d i with h1|h1
    .have:=h.PR i o n (by omega) L r z d h1;grind
    .omega
   have q:d∈a9 .any ops L:=mem_ready.2 ⟨ops[d],fU j,(F9 w j).2 (λhh=>by grind),λe l s=>by
    have:=h.back d _ (fU j) e l s
    grind⟩
   have p:0<(a9 .any ops L).length:=List.length_pos_of_mem q;have f:=kg t p;rw[br f];have e1:=u _ (rK f);simp only[e1];rw[y (d+1) _ _ (by grind) (by omega) (by omega) (by omega) (λk hk=>by grind[eJ])]
   rw[show ops.size-d=(ops.size-(d+1))+1 by omega,List.range'_succ]
def U6.arr(h:U6 X N ops φ x S Inv idx c){Q:av->St->Prop}{b:aR}{kk:List Item}{cs:List aR}(hb:b.kind≠.early){σ0:List aP}{s0:St}(hQ:∀l D s a,Inv l D->(∀i,i<c->D i=ab)->cm N (S l D) s (MZ ops.toList φ (x l)) a->aF (S l D) s->cR σ0 s0 (S l D) s->fz X Q (G (b.aT a (.inRegion ops (List.range' c (ops.size-c))::kk)) cs) s):
  ∀(f:Nat) (l:g) (L:Array Bool),Inv l (lB L)->L.size=ops.size->(L.toList.filter (λb=>!b)).length<=f->(∀k,c<=k->¬L.getD k af=ab) ->
   (∀i o,ops[i]?=aa o->L.getD i af=ab->∀e∈o.after,dj e=ab->L.getD e.on af=ab) ->
   ∀(s:St) (a:Act),IQ N (S l (lB L)) s (gj φ (x l) idx L) a->aF (S l (lB L)) s->cR σ0 s0 (S l (lB L)) s ->
   ∀t,fz X Q (G (b.aT a (.inRegion ops (Region.linearise.go .any ops f t L [])::kk)) cs) s:=by
 have fin:∀(l:g) (L:Array Bool) (s:St) (a:Act) (f t:Nat),Inv l (lB L)->L.size=ops.size->(L.toList.filter (λb=>!b)).length<=f->(∀k,c<=k->¬L.getD k af=ab)->(∀i,i<c->L.getD i af=ab)->IQ N (S l (lB L)) s (gj φ (x l) idx L) a->aF (S l (lB L)) s->cR σ0 s0 (S l (lB L)) s->fz X Q (G (b.aT a (.inRegion ops (Region.linearise.go .any ops f t L [])::kk)) cs) s:=by
  intro l L s a f t E B R p u m hh st;have Y:=h.cc;rw[h.seq f c L t B (bh _) Y (by
   have h2:=RQ (n:=ops.size) (c:=c) B p;omega) (λk hk=>⟨λO=>by grind,λO=>u k O⟩)]
  exact hQ l _ s a E u (m.Jo λt σ s v I=>h.fin (x l) t σ s v (by
   unfold gj at I;cases hi:idx t with
   |none=>grind
   |some k =>
    simp only[hi]at I⊢;obtain⟨o,A,_⟩:=h.x7 _ _ hi;rcases cC k c with h1|h1
    .grind
    .rw[h.RR l _ E u k h1 (ij.1 A).1];trivial)) hh st
 intro f;induction f with
 |zero =>
  intro l L E B R p F s a m hh st t;have Y:=h.cc;grind[Ah]
 |succ f ih =>
  intro l L E B R p F s a m hh st t;have Y:=h.cc;cases r:(a9 .any ops L)[t % (a9 .any ops L).length]? with
  |none=>exact fin l L s a _ t E B R p (λi hi=>Kb (back:=h.back) B (D9 r) i (by omega)) m hh st
  |some i =>
   have hi:=bJ r;obtain⟨o,A,W2,w⟩:=mem_ready.1 hi;have ta:i<ops.size:=(ij.1 A).1;rcases cC i c with C|C
   rotate_left
   .exact fin l L s a _ t E B R p (λk hk=>h.PR i o A C L F w k (by omega)) m hh st
   rw[pe,r];have J:¬L.getD i af=ab:=by grind
   have z:((L.setIfInBounds i ab).toList.filter (λb=>!b)).length<=f:=by
    have h1:L.toList[i]?=aa af:=by rw[zq,fU (by omega:i<L.size)];simpa[dM,fU (by omega:i<L.size)]using J
    grind[count_set]
   have M:∀j Z,ops[j]?=aa Z->(L.setIfInBounds i ab).getD j af=ab->∀e∈Z.after,dj e=ab->(L.setIfInBounds i ab).getD e.on af=ab:=by grind[eJ]
   have V:cm N (S l (lB L)) s (jZ ops.toList φ (x l) i) a:=N5 (h.TG (x l) i o A) m w;have:=h.one l (lB L) i o E A C (by unfold lB;grind) w F s a V hh b kk cs Q i (Region.linearise.go .any ops f (t / (a9 .any ops L).length) (L.setIfInBounds i ab) []) hb (by grind);simp only[oV]at this;refine this λq v s' I H y=>?_;obtain⟨W,T,K⟩:=q;have U:=HA (L:=L) (i:=i) (by omega);simp only at I H y;rw[<-U]at I H y K;exact ih W _ K (by grind) z (λk hk=>by grind[eJ]) M s' _ (Hv (λd hd=>h.Jp i o d A hd) h.x7 A (by omega) (λj hj=>T j hj) hh.len y m I) H (st.trans y) _
def AW.reg(hf:P.follows Departure.mixedOrders=ab){all:List au}(c:Nat)(x:g->Nat->D)(S:g->(Nat->Bool)->List aP)(Inv:g->(Nat->Bool)->Prop)(F:g)(hI0:Inv F λ_=>af)(h0:S F (λ_=>af)=σ)(Uq:my all=ab)(E:rY all 0=ab)(M:oq N all=ab)(hc:c<=all.length)(PR:∀i,c<=i->i<all.length->∀L:Nat->Prop,(∀i,i<all.length->L i->∀e∈bT (all.getD i jy).after.toList,L e)->(∀e∈bT (all.getD i jy).after.toList,L e)->∀k,k<i->L k)(RR:∀p (D:Nat->Bool),Inv p D->(∀i,i<c->D i=ab)->∀i,c<=i->i<all.length->x p i=.any)(one:∀p (D:Nat->Bool) i o,Inv p D->all[i]?=aa o->i<c->D i=af->(∀e∈bT o.after.toList,D e=ab)->(∀j o',all[j]?=aa o'->D j=ab->∀e∈bT o'.after.toList,D e=ab)->mE X N all o (jZ all φ (x p) i) (S p D) (λq:{R:g // (∀j,D j=ab->x R j=x p j)/\Inv R (eh i D)}=>x q.1 i) (λq=>S q.1 (eh i D))){Q:Post}(hQ:∀p D,Inv p D->(∀i,i<c->D i=ab)->ib X N all (all.drop c) (Q .normal) (MZ all φ (x p)) (S p D))(id:Nat):
  AW X N (.region id all.toArray ab) Q φ σ:=by
 have n:∀i:Nat,all.toArray[i]?=all[i]?:=λi=>by simp
 let idx:Nat->Option Nat:=λt=>(bg all.length).find? (λi=>decide ((all.getD i jy).dst=aa t));have J:∀t j,idx t=aa j->∃o,all[j]?=aa o/\o.dst=aa t:=by grind
 have A:∀i o d,all[i]?=aa o->o.dst=aa d->idx d=aa i:=by
  intro i o d f H;have hi:i<all.length:=(bY.1 f).1;cases hx:idx d with
  |none =>
   have:=List.find?_eq_none.1 hx i (by grind);grind
  |some j =>
   grind[tk]
 have T:∀t,pf t all=ab↔∃j,idx t=aa j:=by grind[qf,r6]
 have I:∀i o,all[i]?=aa o->all.getD i jy=o:=λi o h=>by grind
 have H:U6 X N all.toArray φ x S Inv idx c:=by
  refine⟨?_,?_,?_,?_,?_,?_,λi o f XZ L hLc hLp k hk=>?_,by grind,λp D K Z i h1 h2=>RR p D K Z i h1 (by grind)⟩
  .intro i o f e V W;rw[n]at f;have:=B4 E i o f e.on (eN.2 ⟨e,by grind,W,rfl⟩);omega
  .intro i o d f H;rw[n]at f;exact⟨A i o d f H,gA (yA M i o f) d H⟩
  .grind
  .intro p D i o K f Y hDi Q9 G9;rw[n]at f;exact one p D i o K f Y hDi (λe V=>by
    grind[eN]) λj o hj hDj e V=>by grind[eN]
  .intro x i o f t σ s v U;rw[n]at f;show dk σ s v (look (jZ all φ x i) t);unfold jZ;rw[I i o f];rcases nv (m:=λj=>ia j (bT o.after.toList)) (φ:=uM all φ) (t:=t) (l:=Ae all 0 x) (i:=0)with⟨j,y,h1,h2,C⟩|C
   .rw[C];rw[wO]at h1;cases hj:all[j]? with
    |none=>grind
    |some oj =>
     simp only[hj,n5,dn,lT,bC]at h1;rw[A j oj t hj h1.1]at U;simp only at U;rw[bl]at U
     .grind
     .simp only[bC]at h2;obtain⟨e,a,b,c⟩:=eN.1 (Ju h2);grind
   .rw[C,lP];split
    .trivial
    grind
  .intro x t σ s v U;show dk σ s v (look (MZ all φ x) t);unfold MZ;rcases nv (m:=λ_=>ab) (φ:=uM all φ) (t:=t) (l:=Ae all 0 x) (i:=0)with⟨j,y,h1,h2,C⟩|C
   .rw[C];rw[wO]at h1;grind
   .rw[C,lP];split
    .trivial
    grind
  .rw[n]at f;refine PR i XZ (bY.1 f).1 (λk=>L.getD k af=ab) (λi' hi' hl e V=>?_) (λe V=>?_) k hk
   .grind [eN]
   grind[eN]
 intro s a Dt hh b kk cs SS W XQ;refine .next rfl λB u=>?_;have u:=X.iw u;have z:=hh.rely u;have O:=Dt.rely u hh;have G:Step σ B σ {B with w:={B.w with drawn:=B.w.drawn+1}}:=Step.same rfl rfl rfl rfl;have IP:aF σ {B with w:={B.w with drawn:=B.w.drawn+1}}:=z.same rfl;have Z7:=u.stepW.trans (G.na z);refine⟨_,{B with w:={B.w with drawn:=B.w.drawn+1}},#[],lV,⟨⟨σ,σ,z,IP,G⟩,.nil⟩,?_⟩;simp only[Region.schedule,hf,Bool.true_or,cj];have hd0:lB (Array.replicate all.toArray.size af)=λ_=>af:=by funext i;simp[lB,dM,mS];split<;>simp
 refine H.arr W (σ0:=σ) (s0:=s) (λp D s2 a2 K Z f2 h2 mg=>?_) all.toArray.size F _ (by grind) (by simp) (by simp) ?_ ?_ _ a ?_ (by grind) (by grind) _
 .refine hQ p D K Z s2 a2 f2 h2 b kk cs SS _ W ?_ λφ3 σ3 s3 a3 q3 f3 C RS=>XQ .normal _ _ s3 a3 q3 f3 C (mg.trans RS);grind[Names.U5]
 .intro i _ hi;simp[dM,mS]at hi;split at hi<;>simp at hi
 .intro i o f hi;simp[dM,mS]at hi;split at hi<;>simp at hi
 .rw[hd0,h0];have r:=O.mono (G.na z) z.len;refine⟨r.size,r.defers,λt=>?_⟩;unfold gj;cases hix:idx t with
  |none=>exact r.slot t
  |some j =>
   simp only;rw[aZ]
   .exact r.slot t
   .simp[dM,mS];split<;>simp
def mE.to{all:List au}{o:au}{φ:Fr}{ι d:Type}{y:ι->D}{σ':ι->List aP}{z:d->D}{e:d->List aP}(h:mE X N all o φ σ y σ')(l:∀j,∃k,y j=z k/\σ' j=e k):mE X N all o φ σ z e:=by intro s a f hh b k cs S i rest hb hi hK;refine h s a f hh b k cs S i rest hb hi λj v s' r1 r2 r3=>?_;obtain⟨q,p2,p3⟩:=l j;grind
def OA.te{all:List au}{o:au}{φ:Fr}{d:Type}{y:D}{σ':List aP}{z:d->D}{e:d->List aP}(h:OA X N all o φ σ y σ')(k:d)(h1:y=z k)(h2:σ'=e k):mE X N all o φ σ z e:=by subst h1 h2;exactλs a f hh b k' cs S i rest hb hi hK=>h s a f hh b k' cs S i rest hb hi λv s' r1 r2 r3=>hK k v s' r1 r2 r3
end
section
variable {P:ar}{X:Cx P}{N:Nat}{all:List au}{φ:Fr}{σ:List aP}{o:au}
theorem mE.kQ{ι:Type}{x:ι->D}{σ':ι->List aP}(m:o.guard=ae)(h:∀s e,aF σ s->(∀y,dk σ s (e y) (bM φ y))->∃(j:ι)(s':St)(v:ah),(aw e o).run P s.w=.ok (.value v) s'.w/\dk (σ' j) s' v (x j)/\aF (σ' j) s'/\Step σ s (σ' j) s'/\eY s ((aw e o).events P s.w #[])):mE X N all o φ σ x σ':=by intro s a f hh b k cs S i rest hb hi hK;refine rh hb hi (dC m) λn c=>?_;have d:=hh.rely c;obtain⟨j,s',v,h1,h2,g,l,p⟩:=h n a.eval d (cY (f.rely c hh));exact⟨_,s',v,h1,.inl rfl,⟨⟨σ,σ' j,d,g,l⟩,p⟩,hK j v s' h2 g (c.stepW.trans (l.na d))⟩
def mE.Aa{x:D}{σ':List aP}(h:OA X N all o φ σ x σ'):mE X N all o φ σ (λ_:Unit=>x) (λ_=>σ') :=
 λs a f hh b k cs S i rest hb hi hK=>h s a f hh b k cs S i rest hb hi λv s'=>hK () v s'
def OA.law{x:D}{σ':List aP}(h:bF P o (bM φ) σ x σ')(a:o.guard=ae):OA X N all o φ σ x σ':=.kQ (λ_ _ _ _=>dC a) h
def OA.eval{T:List (Nat×TI)}{CT:List (Nat×dt)}{ds:List (Nat×Bool)}{x:D}{obs:List Prop}(hT:cO P T)(hC:bE X CT)(h:wm T CT ds all φ σ o=aa (x,ae,obs))(a:az obs):OA X N all o φ σ x σ:=gB hT hC h a
def OA.cT{T:List (Nat×TI)}{CT:List (Nat×dt)}{x:D}(hT:cO P T)(hC:bE X CT)(h:wm T CT [] all φ σ o=aa (x,ae,[])):OA X N all o φ σ x σ:=gB hT hC h ay
def tA(X:Cx P)(N:Nat)(all:List au)(φ:Fr)(σ:List aP)(x:Nat->D)(pre:Nat->Bool):List au->Nat->Prop
 |[],_=>True
 |o::r,i=>(match pre i with|true=>OA X N all o (jZ all φ x i) σ (x i) σ|false=>True)/\tA X N all φ σ x pre r (i+1)
def tB(X:Cx P)(N:Nat)(all:List au)(φ:Fr)(σ:List aP)(x:Nat->D)(m:Nat):List au->Nat->Prop
 |[],_=>True
 |o::r,i=>(match aB i m with|true=>True|false=>OA X N all o (jZ all φ x i) σ (x i) σ)/\tB X N all φ σ x m r (i+1)
theorem tA.get{x:Nat->D}{pre:Nat->Bool}:∀{l:List au}{k:Nat},tA X N all φ σ x pre l k->∀(i:Nat)(o:au),l[i]?=aa o->pre (k+i)=ab->OA X N all o (jZ all φ x (k+i)) σ (x (k+i)) σ
 |[],_,_,i,o,h=>by grind
 |p::r,k,h,0,o,hi=>λa=>by simp at hi;subst hi;have h1:=h.1;grind
 |p::r,k,h,i+1,o,hi=>λa=>by have:=tA.get h.2 i o (by grind) (by grind);grind
theorem tB.get{x:Nat->D}{m:Nat}:∀{l:List au}{k:Nat},tB X N all φ σ x m l k->∀(i:Nat)(o:au),l[i]?=aa o->k+i≠m->OA X N all o (jZ all φ x (k+i)) σ (x (k+i)) σ
 |[],_,_,i,o,h=>by grind
 |p::r,k,h,0,o,hi=>λa=>by simp at hi;subst hi;have h1:=h.1;simp only[ir]at a;grind[Nat.eq_of_beq_eq_true]
 |p::r,k,h,i+1,o,hi=>λa=>by have:=tB.get h.2 i o (by grind) (by omega);grind
def Ea{ι:Type}(pre:Nat->Bool)(x:Nat->D)(y:ι->Nat->D)(j:ι)(i:Nat):D:=match pre i with|true=>x i|false=>y j i
def F4{ι:Type}{m c:Nat}{pre:Nat->Bool}{x:Nat->D}{b:ι->Nat->D}{σ':ι->List aP}{S:ι->(Nat->Bool)->List aP}(v:pre m=af)(y:Ag pre m all 0=ab)(same:∀j i,pre i=ab->b j i=x i)(one:∀i o,all[i]?=aa o->pre i=ab->OA X N all o (jZ all φ x i) σ (x i) σ)(two:∀j (D:Nat->Bool) i o,all[i]?=aa o->i≠m->i<c->D i=af->(∀k g,all[k]?=aa g->D k=ab->∀e∈bT g.after.toList,D e=ab)->OA X N all o (jZ all φ (b j) i) (S j D) (b j i) (S j (eh i D)))(M8:∀o,all[m]?=aa o->mE X N all o (jZ all φ x m) σ (λj=>b j m) σ')(z:∀j (D:Nat->Bool),(∀i,D i=ab->pre i=ab)->σ' j=S j (eh m D)):
  ∀(a:Option ι) (D:Nat->Bool) i o,(a.isSome=D m/\(a=ae->∀i,D i=ab->pre i=ab))->all[i]?=aa o->i<c->D i=af->(∀e∈bT o.after.toList,D e=ab)->(∀j g,all[j]?=aa g->D j=ab->∀e∈bT g.after.toList,D e=ab) ->
   mE X N all o (jZ all φ (a.elim x b) i) (a.elim σ λj=>S j D) (λq:{d:Option ι // (∀j,D j=ab->d.elim x b j=a.elim x b j)/\(d.isSome=eh i D m/\(d=ae->∀k,eh i D k=ab->pre k=ab))}=>q.1.elim x b i) (λq=>q.1.elim σ λj=>S j (eh i D)):=by
 intro a D i o t r p s u l;have A:∀{k},eh i D k=ab->k=i∨D k=ab:=λ{k} hk=>by unfold eh at hk;grind[Nat.eq_of_beq_eq_true]
 have w:∀{k},k≠i->eh i D k=D k:=λ{k} hk=>by unfold eh;grind[Nat.eq_of_beq_eq_true]
 by_cases f:i=m
 .subst f;cases a with
  |some j=>grind
  |none =>
   refine(M8 o r).to λj=>⟨⟨aa j,λk hk=>same j k (t.2 rfl k hk),?_,λh=>by cases h⟩,rfl,z j D (t.2 rfl)⟩
   unfold eh;grind[Nat.beq_refl]
 .cases a with
  |none =>
   have n:pre i=ab:=by grind[F3]
   exact(one i o r n).te ⟨ae,λ_ _=>rfl,by grind,λ_ k hk=>by grind⟩ rfl rfl
  |some j=>exact(two j D i o r f p s l).te ⟨aa j,λ_ _=>rfl,by grind,λh=>by cases h⟩ rfl rfl
def wP{ι:Type}{m c:Nat}{pre:Nat->Bool}{a:Option ι}{D:Nat->Bool}(b:a.isSome=D m/\(a=ae->∀i,D i=ab->pre i=ab))(e:m<c)(d:∀i,i<c->D i=ab):∃j,a=aa j:=by
 cases a with
 |some j=>grind
 |none=>grind
def AK.M8{ι:Type}(q:P.follows Departure.mixedOrders=ab)(m:Nat)(pre:Nat->Bool)(x:Nat->D)(y:ι->Nat->D)(σ':ι->List aP){ops:Array au}{id:Nat}{K:List It}{Qf:Post}(b:my ops.toList=ab)(c:rY ops.toList 0=ab)(d:oq N ops.toList=ab)(g:Nat.blt m ops.toList.length=ab)(e:pre m=af)(f:Ag pre m ops.toList 0=ab)(one:tA X N ops.toList φ σ x pre ops.toList 0)(two:∀j,tB X N ops.toList φ (σ' j) (Ea pre x y j) m ops.toList 0)(M8:mE X N ops.toList (ops.toList.getD m jy) (jZ ops.toList φ x m) σ (λj=>Ea pre x y j m) σ')(k:∀j,AK X N Qf K .normal (MZ ops.toList φ (Ea pre x y j)) (σ' j)):AK X N Qf (.code (.region id ops ab)::K) .normal φ σ:=by
 have g:=cV g;have:=AW.reg (X:=X) (N:=N) (φ:=φ) (σ:=σ) q (all:=ops.toList) ops.toList.length (λa:Option ι=>a.elim x (Ea pre x y)) (λa _=>a.elim σ σ') (λa D=>a.isSome=D m/\(a=ae->∀i,D i=ab->pre i=ab)) ae ⟨rfl,λ_ _ h=>by cases h⟩ rfl b c d (bh _)
  (λi h1 h2=>absurd h2 (mo.2 h1)) (λa D _ _ i h1 h2=>absurd h2 (mo.2 h1))
  (F4 (S:=λj _=>σ' j) e f (λj i l=>by simp only[Ea,l]) (λi o hi l=>by have:=one.get i o hi (by grind);grind) (λj D i o hi Bp _ _ _=>by have:=(two j).get i o hi (by grind);grind)
   (λo r=>by grind) (λ_ _ _=>rfl))
  (Q:=AK X N Qf K) (λa D n p=>by obtain⟨j,rfl⟩:=wP n g p;rw[va];exact .nil (k j)) id
 rw[oV]at this;exact this
end
def rl{B:aP}{r:List aP}(h:B≠.qT)(k:lA r=ab):lA (B::r)=ab:=by cases B<;>first|exact k|grind
section
variable {P:ar}{X:Cx P}{N:Nat}{Qf:Post}{φ:Fr}{σ:List aP}
def AK.iK{Q a:Post}(h:∀e φ σ,Q e φ σ->a e φ σ):∀{K:List It}{e:Exit}{φ:Fr}{σ:List aP},AK X N Q K e φ σ->AK X N a K e φ σ
 |[],e,φ,σ,q=>h e φ σ q
 |.code c::K,.normal,φ,σ,q=>AW.mono q λ_ _ _ q=>AK.iK h q
 |.code c::K,.exit _,φ,σ,q=>AK.iK (K:=K) h q
 |.code c::K,.ret,φ,σ,q=>AK.iK (K:=K) h q
 |.code c::K,.panic _,φ,σ,q=>AK.iK (K:=K) h q
 |.code c::K,.goto _,φ,σ,q=>AK.iK (K:=K) h q
 |.code c::K,.outgrown,φ,σ,q=>AK.iK (K:=K) h q
 |.blk id::K,.exit IX,φ,σ,q=>by
  simp only[AK]at q⊢;split
  .rename_i e;rw[bl e]at q;exact AK.iK (K:=K) h q
  .rename_i e;rw[aZ e]at q;exact AK.iK (K:=K) h q
 |.blk id::K,.normal,φ,σ,q=>AK.iK (K:=K) h q
 |.blk id::K,.ret,φ,σ,q=>AK.iK (K:=K) h q
 |.blk id::K,.panic _,φ,σ,q=>AK.iK (K:=K) h q
 |.blk id::K,.goto _,φ,σ,q=>AK.iK (K:=K) h q
 |.blk id::K,.outgrown,φ,σ,q=>AK.iK (K:=K) h q
 |.ops all rest::K,.normal,φ,σ,q=>ib.mono q λ_ _ q=>AK.iK h q
 |.ops all rest::K,.exit _,φ,σ,q=>AK.iK (K:=K) h q
 |.ops all rest::K,.ret,φ,σ,q=>AK.iK (K:=K) h q
 |.ops all rest::K,.panic _,φ,σ,q=>AK.iK (K:=K) h q
 |.ops all rest::K,.goto _,φ,σ,q=>AK.iK (K:=K) h q
 |.ops all rest::K,.outgrown,φ,σ,q=>AK.iK (K:=K) h q
def AK.J7{id:Nat}{A:Fr->List aP->Prop}{a b c:List It}(h1:jQ id a=ae)(h2:jQ id b=aa c)(k:AK X N Qf c .normal φ σ):
  AK X N (BT A (AK X N Qf b)) (.code (.exit id)::a) .normal φ σ :=
 AK.iK (λe φ' σ' q=>by cases e<;>exact q) (AK.leave (X:=X) (N:=N) (Qr:=Qf) (A:=A) (φ:=φ) (σ:=σ) h1 h2 k)
end
section
variable {P:ar}{X:Cx P}{N:Nat}{K:List It}{φ:Fr}{σ:List aP}
def AK.mH{ι:Type}{T:List (Nat×TI)}{fn:Func}{h:Nat}{res:ι->D}{σ':ι->List aP}(i:ι)(ks:List Nat){l:Nat}{E:aj}{cs:List A}{t:Tmp}{ty:aj}{b:TI}{ps:List Prop}(m:fn.results.toList=[.cell t ty])(hi:bD T ty=aa b)(o:b.agg=ab)(q:look φ t=.e (.one (.ptr l 0)))(hl:du l σ=aa (.cells E cs))(a:aB cs.length b.size=ab)(f:ia l ks=af)(g:Ds (.e (.agg cs)) (hZ ks (res i))=aa ps)(n:az ps)(c:vS ks.length (res i)=ab)(p:jK ks σ=aa (σ' i))(d:ko (σ' i)=ab)(k:dx ks=ab)(hk:∀j,j<h->ks[j]?=aa j):
  AK X N (λe φ σ1=>∃j,Km T fn h (res j) (σ' j) e φ σ1) (.code .ret::K) .normal φ σ :=
 AK.ret ⟨i,.inl rfl,ks,l,E,cs,t,ty,b,ps,ae,nofun,m,hi,o,bP a,q,bZ hl,B9 f,g,n,c,p,d,k,hk⟩
def AK.lC{ι:Type}{T:List (Nat×TI)}{fn:Func}{k:Nat}{res:ι->D}{σ':ι->List aP}(i:ι)(ks:List Nat){l:Nat}{E:aj}{cs:List A}{t u:Tmp}{ty:aj}{b:TI}{x:E1}{ps:List Prop}(o:fn.results.toList=[.cell t ty,.tmp u])(hi:bD T ty=aa b)(q:b.agg=ab)(s:look φ t=.e (.one (.ptr l 0)))(n:look φ u=.e x)(hl:du l σ=aa (.cells E cs))(a:aB cs.length b.size=ab)(f:ia l ks=af)(g:Ds (.eX [.agg cs,x]) (hZ ks (res i))=aa ps)(p:az ps)(c:vS ks.length (res i)=ab)(r:jK ks σ=aa (σ' i))(d:ko (σ' i)=ab)(m:dx ks=ab)(hk:∀j,j<k->ks[j]?=aa j):
  AK X N (λe φ σ1=>∃j,Km T fn k (res j) (σ' j) e φ σ1) (.code .ret::K) .normal φ σ :=
 AK.ret ⟨i,.inl rfl,ks,l,E,cs,t,ty,b,ps,aa (u,x),λ_ h=>by cases h;exact n,o,hi,q,bP a,s,bZ hl,B9 f,g,p,c,r,d,m,hk⟩
def Ev.qK{T:List (Nat×TI)}(hT:cO P T){f:aJ}{fn:Func}{c:Code}{args:List D}{σ σ':List aP}{res:D}(d:P.funcs[f]?=aa fn)(a:(fn.name== "runtime.NumGoroutine")=af)(g:fn.body=aa c)(b:bu args.length fn.ntmps=ab)(h:Fits args σ->AK X fn.ntmps (λe φ σ1=>∃_:Unit,Km T fn σ.length res σ' e φ σ1) [.code c] .normal (iZ 0 args) σ):Ev X f args σ res σ' :=
 (eb.rZ (ι:=Unit) (σ':=λ_=>σ') (res:=λ_=>res) hT d a g b h).DJ
end
section
variable {P:ar}{X:Cx P}{N:Nat}{Qf:Post}{K:List It}{φ:Fr}{σ:List aP}{all rest:List au}{o:au}
theorem mE.wJ{ι:Type}{x:ι->D}{σ':ι->List aP}(m:o.guard=ae)(h:dN P N o φ σ x σ'):mE X N all o φ σ x σ':=by intro s a f hh b k cs S i rest n hi hK;refine rh n hi (dC m) λr c=>?_;have d:=hh.rely c;obtain⟨j,l,s',v,h1,h2,p,e,g,q⟩:=h r a (f.rely c hh) d;exact⟨l,s',v,h1,h2,⟨⟨σ,σ' j,d,e,g⟩,q⟩,hK j v s' p e (c.stepW.trans (g.na d))⟩
def mE.BA{ι:Type}{u:ak}{xs:Array ak}{F:Array aj}{f:aJ}{cap:List C}{d:List D}{l:List aP}{σ1:ι->List aP}{res:ι->D}(q:eb X f d l res σ1)(ks:List Nat)(A:o.guard=ae)(H:o.op=.call {callee:=.value u,args:=xs,argTypes:=F})(v:eG (bM φ u)=aa (f,cap))(k:∀s vs,cg σ s vs (xs.toList.map (bM φ)++fJ cap)->cg σ s vs (fI ks d))(x:ll ks.length d=ab)(B:jK ks σ=aa l)(L:cq l=ab)(E:∀j,cq (σ1 j)=ab)(I:dx ks=ab)(y:∀j,bu ks.length (σ1 j).length=ab):
  mE X N all o φ σ (λj=>hZ (ks++kL σ.length ((σ1 j).length-ks.length)) (res j)) (λj=>dH ks (σ1 j) σ):=by
 intro s a p hh b kk cs S i rest J hi hK;have r:=cY p u;unfold eG at v;split at v
 case h_2=>cases v
 case h_1 f' Nk he =>
  cases v;rw[he]at r;have g:=eT r;generalize G:a.eval u=fv at g;cases g with
  |fn fs nb hl Dq f1 f2 h1 h2 r1 r2 =>
   have z:fs=[]:=jg hl;subst z;have m:cg σ s nb (fJ cap):=nk (λj c hj=>⟨f2 j,h2 j (by grind),r2 j c hj⟩) Dq;have t:cg σ s (xs.toList.map a.eval++nb) (fI ks d):=k s _ ((lJ (cY p) xs.toList).append m);obtain⟨fn,n,h,e⟩:=q.1;exact tf J hi (dC A) hh (λw=>(ju H n h e G w).1) (λw=>(ju H n h e G w).2) q t x B L E I (λj=>cV (y j)) hK
def mE.qc{ι:Type}{n:ak}{xs:Array ak}{i:Array aj}{f:aJ}{cap:List C}{a:List D}{c:List aP}{σ1:ι->List aP}{res:ι->D}(l:eb X f a c res σ1)(ks:List Nat)(k:o.guard=ae)(r:o.op=.call {callee:=.value n,args:=xs,argTypes:=i})(s:eG (bM φ n)=aa (f,cap))(b:mx (xs.toList.map (bM φ)++fJ cap)=fI ks a)(d:ll ks.length a=ab)(m:jK ks σ=aa c)(q:cq c=ab)(e:∀j,cq (σ1 j)=ab)(p:dx ks=ab)(g:∀j,bu ks.length (σ1 j).length=ab):
  mE X N all o φ σ (λj=>hZ (ks++kL σ.length ((σ1 j).length-ks.length)) (res j)) (λj=>dH ks (σ1 j) σ):=.BA l ks k r s (λ_ _ h=>b▸pb h) d m q e p g
def mE.jL{ι:Type}{p:ak}{xs:Array ak}{k:Array aj}{f:aJ}{cap:List C}{a:List D}{c:List aP}{σ1:ι->List aP}{res:ι->D}(m:eb X f a c res σ1)(ks:List Nat)(l:o.guard=ae)(s:o.op=.call {callee:=.value p,args:=xs,argTypes:=k})(t:eG (bM φ p)=aa (f,cap)){ps:List Prop}(b:vX (xs.toList.map (bM φ)++fJ cap) (fI ks a)=aa ps)(e:az ps)(d:ll ks.length a=ab)(n:jK ks σ=aa c)(r:cq c=ab)(g:∀j,cq (σ1 j)=ab)(q:dx ks=ab)(i:∀j,bu ks.length (σ1 j).length=ab):
  mE X N all o φ σ (λj=>hZ (ks++kL σ.length ((σ1 j).length-ks.length)) (res j)) (λj=>dH ks (σ1 j) σ):=.BA m ks l s t (λ_ _ h=>vj b e h) d n r g q i
def dN.fresh{x y:ak}{E:aj}{O:TI}(h:lz P o x y E O){k0 k m:Nat}{tx:Bool}{es es':Nat->List C}(Z:O.size=k)(R:bM φ x=.e (.one (.c (.sl ab k0 0 es))))(hy:bM φ y=.e (.one (.c (.sl tx k m es'))))(Q:0<m)(J:m*O.bytes<=140737488355328)(hgn:∀i,i<m->∀c∈es' i,uK c=ab):
  dN P N o φ σ (ι:={q:m9×List ah // gi k m es' q.2}) (λq=>.e (.one (.v (k9 q.1.1 m)))) (λq=>σ++[.b8 (fQ E k q.1.1 m q.1.2)]):=by
 intro s ρ hf hh;obtain⟨t,t2,i,i2,ho,hi,Y,H,G⟩:=h.op;have h1:=cY hf x;rw[R]at h1;have n:=Rd.vb (k:=k0) (k':=O.size) (.inr rfl) (eT h1);have h2:=cY hf y;rw[hy]at h2;have h2:=eT h2;obtain⟨a,cap,vs,hv,DG,I6,ht,hF,TM⟩:=n.flat;have V:cap=0:=ht rfl;subst V;rw[hv]at n;have L:Rd s.M (ρ.eval y) (.sl tx O.size m es'):=by grind
 obtain⟨d,W,g,f,I,S,z,r⟩:=iv (P:=P) (ty:=o.type) hi Y H G h.elem hh n L (by omega) (by grind) h.bytes;have I5:=iW (P:=P) (ty:=o.type) hi Y H G h.elem hh n L (by omega) (by grind) h.bytes;have e0:cA 0 es es'=es':=by funext i;simp[cA]
 rw[Z,bC,e0]at f;rw[Z]at z;rw[bC]at I r;have D:gi k m es' d:=⟨f.len,f.width,λi hi j c hj=>by
  obtain⟨u,U,u2⟩:=f.rd i hi j c hj
  grind[qa]⟩
 have A:∀x∈d,cD x=ab:=λx R=>by
  obtain⟨p,hp,rfl⟩:=dL R;have hk:0<k:=by grind
  have PO:=f.len;have hi:p / k<m:=pP (by grind);have T:p / k*k+p % k=p:=pU p k;have hj:p % k<(es' (p / k)).length:=by rw[f.width _ hi];exact kg _ hk
  obtain⟨u,U,u2⟩:=D.at' _ hi _ _ (br hj);rw[T,br hp]at U;cases U;exact(u2 s.M).cell
 let w':aA:=s.w.drew.alloc (.cells (d++W).toArray E);have hB:et (σ++[.b8 (fQ E k (.row s.w.heap.size g) m d)]) {s with w:=w',β:=s.β++[⟨.nilFunc,[s.w.heap.size]⟩]} (.b8 (fQ E k (.row s.w.heap.size g) m d)) ⟨.nilFunc,[s.w.heap.size]⟩:=by
  refine⟨λB=>if B=s.w.heap.size then aa (.cells (d++W).toArray E (0,0))else ae,⟨rfl,A,f.len,I,S,W,z,rfl⟩,λB o l=>?_,λB=>?_,λB l o=>?_⟩
  .by_cases e:B=s.w.heap.size
   .subst e;simp only[cj]at l;cases l;exact dG s.w.drew _
   grind
  .by_cases e:B=s.w.heap.size<;>simp[e]
  .simp at l;subst l;cases Q:s.M s.w.heap.size o with
   |none=>rfl
   |some v=>have:=hh.block Q;omega
 have IM:w'.heap.size=s.w.heap.size+1:=by show(s.w.drew.heap.push _).size=_;simp
 have F:aF σ {s with w:=w'}/\Step σ s σ {s with w:=w'} :=
  hh.grow (by omega) (λb J=>cJ s.w.drew _ J) (λb J o=>rfl) (λb J o v Q=>by have:=hh.block Q;omega) rfl rfl rfl
 obtain⟨g1,g2⟩:=F.1.hO F.2 rfl hh hB (λb J=>by grind)
 refine⟨⟨(.row s.w.heap.size g,d),D⟩,.value (.slice (aa ⟨s.w.heap.size,0,ae⟩) m g),_,_,?_,.inl rfl,Rd.val rfl,g1,g2,?_⟩
 .rw[dg ho,hv];simp[r];rfl
 grind[dg,eH]
def AK.fresh{x y:ak}{E:aj}{b:TI}(h:lz P o x y E b){l k m:Nat}{tx:Bool}{es es':Nat->List C}(n:b.size=k)(r:bM φ x=.e (.one (.c (.sl ab l 0 es))))(g:bM φ y=.e (.one (.c (.sl tx k m es'))))(j:0<m)(f:m*b.bytes<=140737488355328)(a:∀i,i<m->∀c∈es' i,uK c=ab)(d:o.guard=ae)(p:fR N o.dst=ab)(kk:∀q:{q:m9×List ah // gi k m es' q.2},AK X N Qf (.ops all rest::K) .normal (km o.dst (.e (.one (.v (k9 q.1.1 m)))) φ) (σ++[.b8 (fQ E k q.1.1 m q.1.2)])):AK X N Qf (.ops all (o::rest)::K) .normal φ σ :=
 AK.hand _ _ d p (dN.fresh h n r g j f a) kk
def AK.spare(E:aj)(k:Nat){c:Code}(kk:AK X N Qf (.code c::K) .normal φ (σ++[.b8 (fQ E k (.nil ae) 0 [])])):AK X N Qf (.code c::K) .normal φ σ:=by refine AK.ghost (λs a b hh=>?_) kk;obtain⟨e,d⟩:=hh.hO (B:=.b8 (fQ E k (.nil ae) 0 [])) (L:=⟨.nilFunc,[]⟩) (.refl _ _) rfl hh ⟨λ_=>ae,⟨rfl,by simp,by simp,rfl,rfl⟩,by simp,by simp,by simp⟩ (by simp);exact⟨{s with β:=s.β++[⟨.nilFunc,[]⟩]},rfl,⟨b.size,b.defers.imp λ_ h1=>h1.mono d.ext,λu=>(b.slot u).mono d.ext hh.len⟩,e,d⟩
end
def N6(p:Nat->Bool):List Nat->Bool
 |[]=>af
 |e::r=>match p e with|true=>ab|false=>N6 p r
def F5{p:Nat->Bool}:∀{l:List Nat},N6 p l=ab->∃e∈l,p e=ab
 |[],h=>by cases h
 |e::r,h=>by
  simp only[N6]at h;split at h
  .grind
  .obtain⟨c,a,b⟩:=F5 h;grind
def wQ(all:List au)(k:Nat):Nat->List Nat->Bool
 |0,l=>ia k l
 |f+1,l=>match ia k l with|true=>ab|false=>N6 (λe=>wQ all k f (bT (all.getD e jy).after.toList)) l
def qd{all:List au}{k:Nat}{L:Nat->Prop}(d:∀i,i<all.length->L i->∀e∈bT (all.getD i jy).after.toList,L e):∀{f:Nat}{l:List Nat},wQ all k f l=ab->(∀e∈l,L e)->L k
 |0,l,h,b=>b k (Ju h)
 |f+1,l,h,b=>by
  simp only[wQ]at h;split at h
  .grind [Ju]
  .obtain⟨e,j,c⟩:=F5 h;rcases cC e all.length with g|g
   .exact qd d c (d e g (b e j))
   .have:all.getD e jy=jy:=by grind
    rw[this]at c;exact qd d c (λm a=>by simp[jy,bT]at a)
def wR(all:List au)(f:Nat)(l:List Nat):Nat->Bool
 |0=>ab
 |n+1=>match wQ all n f l with|true=>wR all f l n|false=>af
def tg{all:List au}{f:Nat}{l:List Nat}:∀{n:Nat},wR all f l n=ab->∀k,k<n->wQ all k f l=ab
 |0,_,k,hk=>by omega
 |n+1,h,k,hk=>by
  simp only[wR]at h;split at h
  .rename_i a;by_cases e:k=n
   .grind
   .exact tg h k (by omega)
  grind
def vY(all:List au)(f:Nat):Nat->Nat->Bool
 |_,0=>ab
 |i,r+1=>match wR all f (bT (all.getD i jy).after.toList) i with|true=>vY all f (i+1) r|false=>af
def th{all:List au}{f:Nat}:∀{i r:Nat},vY all f i r=ab->∀q,i<=q->q<i+r->wR all f (bT (all.getD q jy).after.toList) q=ab
 |i,0,_,q,b,a=>by omega
 |i,r+1,h,q,b,a=>by
  simp only[vY]at h;split at h
  .rename_i c;by_cases e:q=i
   .grind
   .exact th h q (by omega) (by omega)
  grind
section
variable {P:ar}{X:Cx P}{N:Nat}{φ:Fr}{σ:List aP}
def Hw{ι:Type}(c:Nat)(pre:Nat->Bool)(x:Nat->D)(y:ι->Nat->D)(j:ι)(i:Nat):D:=match Nat.blt i c with|true=>Ea pre x y j i|false=>.any
def AK.Kc{ι:Type}(w:P.follows Departure.mixedOrders=ab)(m c e:Nat)(pre:Nat->Bool)(x:Nat->D)(y:ι->Nat->D)(σ':ι->List aP){ops:Array au}{id:Nat}{K:List It}{Qf:Post}(b:my ops.toList=ab)(d:rY ops.toList 0=ab)(g:oq N ops.toList=ab)(p:pre m=af)(r:Ag pre m ops.toList 0=ab)(u:Nat.blt c ops.toList.length=ab)(n:Nat.blt m c=ab)(l:∀i,pre i=ab->i<c)(PR:vY ops.toList e c (ops.toList.length-c)=ab)(one:tA X N ops.toList φ σ x pre ops.toList 0)(two:∀j,tB X N ops.toList φ (σ' j) (Hw c pre x y j) m (ops.toList.take c) 0)(M8:mE X N ops.toList (ops.toList.getD m jy) (jZ ops.toList φ x m) σ (λj=>Hw c pre x y j m) σ')(k:∀j,AK X N Qf (.ops ops.toList (ops.toList.drop c)::K) .normal (MZ ops.toList φ (Hw c pre x y j)) (σ' j)):AK X N Qf (.code (.region id ops ab)::K) .normal φ σ:=by
 have u:=cV u;have n:=cV n;have:=AW.reg (X:=X) (N:=N) (φ:=φ) (σ:=σ) w (all:=ops.toList) c (λa:Option ι=>a.elim x (Hw c pre x y)) (λa _=>a.elim σ σ') (λa D=>a.isSome=D m/\(a=ae->∀i,D i=ab->pre i=ab)) ae ⟨rfl,λ_ _ h=>by cases h⟩ rfl b d g (by omega)
  (λi h1 h2 L z f k hk=>qd z (tg (th PR i h1 (by omega)) k hk) f)
  (λa D q s i h1 h2=>by
   obtain⟨j,rfl⟩:=wP q n s;have:Nat.blt i c=af:=by
    cases v:Nat.blt i c with
    |false=>rfl
    |true=>have:=cV v;omega
   simp only[Option.elim,Hw,this])
  (F4 (S:=λj _=>σ' j) p r (λj i f=>by have:Nat.blt i c=ab:=rF (l i f);simp only[Hw,this,Ea,f])
   (λi o hi f=>by have:=one.get i o hi (by grind);grind)
   (λj D i o hi Bp ta _ _=>by
    have t:(ops.toList.take c)[i]?=aa o:=by grind
    have:=(two j).get i o t (by grind);grind)
   (λo A=>by grind) (λ_ _ _=>rfl))
  (Q:=AK X N Qf K) (λa D q s=>by obtain⟨j,rfl⟩:=wP q n s;exact k j) id
 rw[oV]at this;exact this
end
section
variable {P:ar}{X:Cx P}{N:Nat}{ops:Array au}{φ:Fr}{σ:List aP}{x:Nat->D}{S:(Nat->Bool)->List aP}
def pq:List au->List (List Bool)->List (List Bool)
 |[],a=>a
 |o::r,a=>qj (FI a (bT o.after.toList)) λc=>pq r (a++[c])
 where qj:List Bool->(List Bool->List (List Bool))->List (List Bool)
 |[],q=>q []
 |true::r,q=>qj r λr=>q (ab::r)
 |false::r,q=>qj r λr=>q (af::r)
theorem ov:∀(l:List Bool)(q:List Bool->List (List Bool)),pq.qj l q=q l
 |[],q=>rfl
 |true::r,q=>by simp only[pq.qj];rw[ov r]
 |false::r,q=>by simp only[pq.qj];rw[ov r]
def BK{all:List au}{D:Nat->Bool}(b:∀(j:Nat)(o:au),all[j]?=aa o->D j=ab->∀e∈bT o.after.toList,D e=ab):
  ∀(r:List au) (a:List (List Bool)),(∀k,r[k]?=all[a.length+k]?)->(∀(j:Nat) (c:List Bool),a[j]?=aa c->∀o,all[j]?=aa o->(∀e∈bT o.after.toList,D e=ab)->∀q,bit c q=ab->D q=ab) ->
   ∀(j:Nat) (c:List Bool),(pq r a)[j]?=aa c->∀o,all[j]?=aa o->(∀e∈bT o.after.toList,D e=ab)->∀q,bit c q=ab->D q=ab
 |[],a,_,h=>h
 |o::r,a,d,h=>by
  simp only[pq];rw[ov];refine BK b r _ (λk=>?_) ?_
  .have:=d (k+1);grind
  .intro j c l;have f:=d 0;simp only[la,ir]at f;rcases Nat.lt_trichotomy j a.length with i|rfl|g
   .grind
   .rw[fT (bh _)]at l;grind[zQ]
   grind
def fN(all:List au)(i j:Nat):Bool:=match(pq all [])[i]? with|some c=>bit c j|none=>af
def wD{all:List au}{D:Nat->Bool}(a:∀(j:Nat)(o:au),all[j]?=aa o->D j=ab->∀e∈bT o.after.toList,D e=ab):∀(i:Nat) o,all[i]?=aa o->(∀e∈bT o.after.toList,D e=ab)->∀j,fN all i j=ab->D j=ab:=by
 intro i o f d j b;unfold fN at b;split at b
 .rename_i c g;exact BK a all [] (by simp) (by simp) i c g o f d j b
 grind
def FP{all:List au}{D:Nat->Bool}(c:∀(j:Nat)(o:au),all[j]?=aa o->D j=ab->∀e∈bT o.after.toList,D e=ab){i:Nat}(h:D i=af):∀j,(j=i∨fN all j i=ab)->D j=af:=by
 intro j f;rcases f with rfl|f
 .exact h
 .cases g:D j with
  |false=>rfl
  |true =>
   have a:∃d,all[j]?=aa d:=by
    cases a:all[j]? with
    |some d=>grind
    |none =>
     exfalso;have k:(pq all []).length=all.length:=by
      have:∀(r:List au) (b:List (List Bool)),(pq r b).length=b.length+r.length:=by
       intro r;induction r with
       |nil=>intro b;simp[pq]
       |cons o r l=>intro b;simp only[pq];grind[ov]
      grind
     unfold fN at f;grind
   obtain⟨d,a⟩:=a;have:=wD c j d a (c j d a g) i f;grind
def dW{P:ar}(X:Cx P)(N:Nat)(all:List au)(φ:Fr)(x:Nat->D)(S:(Nat->Bool)->List aP)(i:Nat)(o:au):Prop :=
 ∀D:Nat->Bool,(∀j,fN all i j=ab->D j=ab)->(∀j,(j=i∨fN all j i=ab)->D j=af)->OA X N all o (jZ all φ x i) (S D) (x i) (S (eh i D))
def JK{P:ar}(X:Cx P)(N:Nat)(all:List au)(φ:Fr)(x:Nat->D)(S:(Nat->Bool)->List aP):List au->Nat->Prop
 |[],_=>True
 |o::r,i=>dW X N all φ x S i o/\JK X N all φ x S r (i+1)
theorem JK.get{all:List au}:∀{l:List au}{k:Nat},JK X N all φ x S l k->∀i o,l[i]?=aa o->dW X N all φ x S (k+i) o
 |[],_,_,i,o,h=>by grind
 |p::r,k,h,0,o,a=>by simp at a;subst a;exact h.1
 |p::r,k,h,i+1,o,a=>by have:=JK.get h.2 i o (by grind);grind
def AK.flags{ops:Array au}{id:Nat}{K:List It}{Qf:Post}(m:P.follows Departure.mixedOrders=ab)(x:Nat->D)(S:(Nat->Bool)->List aP)(j:S (λ_=>af)=σ)(a:my ops.toList=ab)(b:rY ops.toList 0=ab)(d:oq N ops.toList=ab)(one:JK X N ops.toList φ x S ops.toList 0)(k:∀D,(∀i,i<ops.toList.length->D i=ab)->AK X N Qf K .normal (MZ ops.toList φ x) (S D)):AK X N Qf (.code (.region id ops ab)::K) .normal φ σ:=by
 have:=AW.reg (X:=X) (N:=N) (φ:=φ) (σ:=σ) m (all:=ops.toList) ops.toList.length (λ_:Unit=>x) (λ_=>S) (λ_ _=>True) () ay j a b d (bh _)
  (λi h1 h2=>absurd h2 (mo.2 h1)) (λg D _ _ i h1 h2=>absurd h2 (mo.2 h1))
  (λg D i o _ h _ f e c=>by have h1:=one.get i o h;rw[bC]at h1;exact(h1 D (wD c i o h e) (FP c f)).te ⟨(),λ_ _=>rfl,ay⟩ rfl rfl)
  (Q:=AK X N Qf K) (λg D _ l=>by rw[va];exact .nil (k D l)) id
 rw[oV]at this;exact this
end
section
variable {P:ar}{X:Cx P}{N:Nat}{Qf:Post}{φ:Fr}{σ:List aP}
def AK.BZ{c:Code}{K:List It}{φ':Fr}{σ':List aP}(k:AK X N Qf (.code c::K) .normal φ' σ'){ps qs:List Prop}(h1:nA φ φ'=aa ps)(b:az ps)(h2:oS σ σ'=aa qs)(a:az qs):AK X N Qf (.code c::K) .normal φ σ :=
 AK.norm σ' h2 a (AW.le k (cE h1 b))
def uj:List It->List It
 |.blk _::K=>uj K
 |K=>K
def AK.uj:∀{K:List It},AK X N Qf (uj K) .normal φ σ->AK X N Qf K .normal φ σ
 |[],h=>h
 |.blk _::K,h=>AK.uj (K:=K) h
 |.code _::_,h=>h
 |.ops _ _::_,h=>h
def AK.kU{S S2:Type}{c c2:Code}(id:Nat){K b h:List It}(h2:jQ id K=aa b)(k:Go.AM.uj b=.code c2::h)(O:S2->Prop)(jZ:S2->Fr)(a:S2->List aP)(n:Nat)(I:S->Prop)(fr:S->Fr)(st:S->List aP)(i:S->Nat)(x:S){ps qs:List Prop}(f:nA φ (fr x)=aa ps)(g:az ps)(d:oS σ (st x)=aa qs)(e:az qs)(j:σ.length=n)(l:I x)(round:(∀(y:S2) {φ:Fr} {σ:List aP} {ps qs:List Prop},O y->nA φ (jZ y)=aa ps->az ps->oS σ (a y)=aa qs->az qs->AK X N Qf b .normal φ σ) ->
   ∀x,I x->AK X N (ln X N Qf K I fr st i n x) [.code c] .normal (fr x) (st x))(after:∀y,O y->AK X N Qf (.code c2::h) .normal (jZ y) (a y)):AK X N Qf (.code (.loop c)::K) .normal φ σ :=
 AK.cz n I fr st i x f g d e j l (round λy _ _ _ _ m h1 g h2 e=>AK.uj (by rw[k];exact(after y m).BZ h1 g h2 e))
end
def fG(a:Nat->Option Obj):Mem:=λb o=>match a b with
 |some (.cells cs _ _)=>cs[o]?
 |_=>ae
def PM(K:Mem->Prop):ah->(Nat->Option Obj)->Prop:=λu a=>u=.nilFunc/\(∀b o,a b=aa o->∃cs E,o=.cells cs E (0,0))/\K (fG a)
section
variable {P:ar}{X:Cx P}{N:Nat}{Qf:Post}{d:List It}{φ:Fr}{σ:List aP}{all rest:List au}{o:au}
def AK.merge(i j:Nat){H1 H2 H:ah->(Nat->Option Obj)->Prop}{c:Code}(M:i≠j)(hi:σ[i]?=aa (.b8 H1))(hj:σ[j]?=aa (.b8 H2))(h1:∀v ch,H1 v ch->v=.nilFunc)(h:∀v f v2 k,H1 v f->H2 v2 k->(∀b,(f b).isSome=ab->(k b).isSome=ab->False)->H .nilFunc λb=>(f b).or (k b))(kk:AK X N Qf (.code c::d) .normal φ ((σ.set i (.b8 H)).set j .dead)):AK X N Qf (.code c::d) .normal φ σ:=by
 refine AK.ghost (λs a U hh=>?_) kk;have Y:i<σ.length:=(bY.1 hi).1;have Z:j<σ.length:=(bY.1 hj).1;have E:i<s.β.length:=by rw[hh.len];grind
 have I:j<s.β.length:=by rw[hh.len];grind
 obtain⟨y,p⟩:∃L,s.β[i]?=aa L:=⟨_,br E⟩;obtain⟨r,m⟩:∃L,s.β[j]?=aa L:=⟨_,br I⟩;have W:=hh.box i _ y hi p;have bj:=hh.box j _ r hj m;have vi:y.v=.nilFunc:=by obtain⟨ch,hH,_⟩:=W;grind
 let s':St:={s with β:=(s.β.set i ⟨.nilFunc,y.bs++r.bs⟩).set j ⟨r.v,[]⟩}
 have F:∀l,((σ.set i (.b8 H)).set j .dead)[l]?=if l=j then aa .dead else if l=i then aa (.b8 H)else σ[l]?:=λl=>by grind
 have A:∀l,s'.β[l]?=if l=j then aa ⟨r.v,[]⟩else if l=i then aa ⟨.nilFunc,y.bs++r.bs⟩else s.β[l]?:=λl=>by grind
 have mi:=bJ p;have mj:=bJ m;have T:∀L∈s'.β,∀b∈L.bs,∃z∈s.β,b∈z.bs:=λL g b n=>by grind
 have ex:Ext σ s ((σ.set i (.b8 H)).set j .dead) s':=by
  refine⟨λ_ _ _ h=>h,λl B L hB g=>?_⟩;rw[F,A];by_cases e:l=j
  .subst e;rw[hj]at hB;cases hB;rw[m]at g;cases g;exact⟨.dead,⟨r.v,[]⟩,by simp,by simp,rfl⟩
  .by_cases G:l=i
   .subst G;rw[hi]at hB;cases hB;rw[p]at g;cases g;exact⟨.b8 H,⟨.nilFunc,y.bs++r.bs⟩,by simp[e],by simp[e],vi.symm⟩
   .exact⟨B,L,by grind,by grind,.refl _ _⟩
 have st:Step σ s ((σ.set i (.b8 H)).set j .dead) s' :=
  ⟨bh _,λ_ _ _=>rfl,λ_ _ _ h=>h,λ_ _ _ _=>rfl,λL h b n=>.inr (T L h b n),ex.box,rfl,rfl,rfl,rfl⟩
 obtain⟨f,a1,a2,a3,a4⟩:=W;obtain⟨k,b1,b2,b3,b4⟩:=bj;have V:∀b,(f b).isSome=ab->(k b).isSome=ab->False:=λb J q2=>M (hh.eB i j y r p m b ((a3 b).2 J) ((b3 b).2 q2));refine⟨s',rfl,⟨U.size,U.defers.imp λ_ h1=>h1.mono ex,λu=>(U.slot u).mono ex hh.len⟩,⟨hh.mem,by simp[s',hh.len],?_,?_,λL g b n=>?_,λb n=>⟨(hh.own b n).1,λL g S=>?_⟩⟩,st⟩
 .intro l B L hB g;rw[F]at hB;rw[A]at g;split at hB
  .cases hB;trivial
  .rename_i e;rw[aZ e]at g;split at hB
   .rename_i G;rw[bl G]at g;cases hB;cases g;refine⟨λb=>(f b).or (k b),h _ f _ k a1 b1 V,λb o n=>?_,λb=>?_,λb n o=>?_⟩
    .cases h1:f b with
     |some x=>grind
     |none=>grind
    .grind
    grind
   .rename_i G;rw[aZ G]at g;exact(hh.box l B L hB g).carry ex hh.len λb n=>⟨rfl,λ_=>rfl⟩
 .intro l l' L1 L2 J q2 b n R;rw[A]at J q2;have key:∀l L,(if l=j then aa (⟨r.v,[]⟩:Loc)else if l=i then aa ⟨.nilFunc,y.bs++r.bs⟩else s.β[l]?)=aa L->b∈L.bs->(l=i/\(b∈y.bs∨b∈r.bs))∨(l≠i/\l≠j/\∃z,s.β[l]?=aa z/\b∈z.bs):=λl L q n=>by
   split at q
   .grind
   .split at q
    .grind
    grind
  rcases key l L1 J n with⟨e1,t⟩|⟨n1,K,L3,t,D⟩<;>rcases key l' L2 q2 R with⟨e2,w⟩|⟨n2,O,L4,w,C⟩
  .grind
  .rcases t with t|t
   .exact absurd (hh.eB _ _ _ _ p w b t C).symm n2
   .exact absurd (hh.eB _ _ _ _ m w b t C).symm O
  .rcases w with w|w
   .exact absurd (hh.eB _ _ _ _ p t b w D).symm n1
   .exact absurd (hh.eB _ _ _ _ m t b w D).symm K
  .exact hh.eB _ _ _ _ t w b D C
 .obtain⟨z,Q,h1⟩:=T L g b n;exact hh.lt z Q b h1
 .obtain⟨z,Q,h1⟩:=T L g b S;exact(hh.own b n).2 z Q h1
def wX(M M':Mem):Prop:=∀b o v,M b o=aa v->M' b o=aa v
def PM.add{K t:Mem->Prop}{E:aj}{k n:Nat}{bf:m9}{xs:List ah}(l:∀M M',wX M M'->K M->(∀b cap,bf=.row b cap->∀j v,xs[j]?=aa v->M' b j=aa v)->t M'):
  ∀v c s f,PM K v c->fQ E k bf n xs s f->(∀b,(c b).isSome=ab->(f b).isSome=ab->False)->PM t .nilFunc λb=>(c b).or (f b):=by
 rintro v c s f ⟨_,h2,p⟩ r y;have g:wX (fG c) (fG λb=>(c b).or (f b)):=λb o v i=>by
  cases h:c b with
  |none=>simp[fG,h]at i
  |some x=>simpa[fG,h]using i
 cases bf with
 |nil a =>
  obtain⟨_,_,_,_,rfl⟩:=r;exact⟨rfl,λb o u=>h2 b o (by grind),l _ _ g p λb cap e=>by cases e⟩
 |row b cap =>
  obtain⟨_,q2,q3,q4,A,B,z,rfl⟩:=r;refine⟨rfl,λq o u=>?_,l _ _ g p λq m e j v hj=>?_⟩
  .cases h:c q with
   |some x=>grind
   |none =>
    grind
  .cases e;have w:c b=ae:=by
    cases h:c b with
    |none=>rfl
    |some x=>grind
   have hl:j<xs.length:=(bY.1 hj).1;simp only[fG,w,Option.none_or,cj];grind
def PM.start{E:aj}{k n:Nat}{xs:List ah}{a:Option Addr}{K:Mem->Prop}(c:∀M,K M):∀v ch,fQ E k (.nil a) n xs v ch->PM K v ch:=by rintro v ch ⟨h1,_,_,_,rfl⟩;exact⟨h1,λb o e=>by grind,c _⟩
def PM.Bx{c:Nat}{K:Mem->Prop}{u:ah}{k n:Nat}{es:Nat->List C}(hl:σ[c]?=aa (.b8 (PM K)))(i:∀M,K M->Rd M u (.sl af k n es)):gZ σ c u k n es:=by
 intro s hh;have e:c<s.β.length:=by rw[hh.len];grind
 have g:=br e;generalize s.β[c]=L at g;obtain⟨ch,⟨h1,h2,j⟩,l,q,m⟩:=hh.box c _ L hl g;have f:∀b o v,fG ch b o=aa v->b∈L.bs/\s.w.cell? ⟨b,o,ae⟩=aa v:=λb o v a=>by
  cases h:ch b with
  |none=>simp[fG,h]at a
  |some x =>
   obtain⟨cs,E,rfl⟩:=h2 b x h;have p:=l b _ h;simp only[fG,h]at a;exact⟨(q b).2 (by simp[h]),by simpa[aV,p]using a⟩
 refine⟨L,λb o=>(s.M b o).or (fG ch b o),g,λb o v a=>by grind,λb r o=>?_,λb o v a=>?_,m,(i _ j).mono λb o v a=>?_⟩
 .cases h:fG ch b o with
  |none=>simp[h]
  |some v=>grind
 .cases h:s.M b o with
  |some v'=>simp only[h,Option.some_or]at a;cases a;exact hh.mem b o v h
  |none=>grind
 grind
def fQ.U0{E:aj}{k n l:Nat}{bf:m9}{xs:List ah}(hl:σ[l]?=aa (.b8 (fQ E k bf n xs)))(g:0<n)(s:St)(hh:aF σ s):∃b cap,bf=.row b cap/\n<=cap/\cap<=9223372036854775807:=by
 have c:l<s.β.length:=by rw[hh.len];grind
 obtain⟨ch,e,_⟩:=hh.box l _ _ hl (br c);cases bf with
 |nil a=>obtain⟨_,_,_,f,_⟩:=e;omega
 |row b cap=>obtain⟨_,_,_,f,h,_⟩:=e;grind
end
def vZ(l k n:Nat)(es:Nat->List C):A->A×List Prop
 |.bp l' (.sl g k' o m)=>match aB l' l with
  |true=>match aB k' k with
   |true=>(.c (.sl af k m (qX o es)),[g=n,o+m<=n])
   |false=>(.bp l' (.sl g k' o m),[])
  |false=>(.bp l' (.sl g k' o m),[])
 |a=>(a,[])
def ot(l k n:Nat)(es:Nat->List C):List A->List A×List Prop
 |[]=>([],[])
 |a::r=>match vZ l k n es a with
  |(a',p)=>match ot l k n es r with
   |(r',q)=>(a'::r',kM p q)
def DK(l k n:Nat)(es:Nat->List C):E1->E1×List Prop
 |.one a=>match vZ l k n es a with|(a',p)=>(.one a',p)
 |.agg cs=>match ot l k n es cs with|(b,p)=>(.agg b,p)
def DL(l k n:Nat)(es:Nat->List C):D->D×List Prop
 |.e x=>match DK l k n es x with|(a,p)=>(.e a,p)
 |d=>(d,[])
def wa(l k n:Nat)(es:Nat->List C):Fr->Fr×List Prop
 |[]=>([],[])
 |(t,d)::r=>match DL l k n es d with
  |(a,p)=>match wa l k n es r with
   |(r',q)=>((t,a)::r',kM p q)
def gT(l k n:Nat)(es:Nat->List C):Nat->List aP->List aP×List Prop
 |_,[]=>([],[])
 |i,b::r=>match gT l k n es (i+1) r with
  |(r',q)=>match aB i l with
   |true=>(.dead::r',q)
   |false=>match b with
    |.cells E cs=>match ot l k n es cs with|(a,p)=>(.cells E a::r',kM p q)
    |b=>(b::r',q)
section
variable {σ σ':List aP}{s s2:St}{E l k n:Nat}{es:Nat->List C}
structure je(σ:List aP)(s:St)(l k n:Nat)(es:Nat->List C)(σ':List aP)(s2:St):Prop where
 fb:∀v a,gn σ s v a->gn σ' s2 v a
 Jm:∀v k' o m,gn σ s v (.bp l (.sl n k' o m))->k'=k->o+m<=n->Rd s2.M v (.sl af k m (qX o es))
def je.a(h:je σ s l k n es σ' s2){v:ah}{a:A}(b:az (vZ l k n es a).2)(r:gn σ s v a):gn σ' s2 v (vZ l k n es a).1:=by
 unfold vZ at b⊢;split
 .rename_i l' g k' o m;split
  .rename_i e1;split
   .rename_i e2;simp only[e1,e2]at b;have e1:=bP e1;have e2:=bP e2;subst e1;obtain⟨rfl,h2⟩:g=n/\o+m<=n:=b;exact h.Jm v _ _ _ r e2 h2
   .exact h.fb v _ r
  .exact h.fb v _ r
 .exact h.fb v _ r
def je.ls(h:je σ s l k n es σ' s2):∀{vs:List ah}{cs:List A},az (ot l k n es cs).2->dX σ s vs cs->dX σ' s2 vs (ot l k n es cs).1
 |[],[],_,_=>trivial
 |[],_::_,_,r=>r.elim
 |_::_,[],_,r=>r.elim
 |v::vs,c::cs,b,r=>by simp only[ot]at b⊢;rw[az.cat]at b;exact⟨h.a b.1 r.1,h.ls b.2 r.2⟩
def je.e(h:je σ s l k n es σ' s2){v:ah}{x:E1}(b:az (DK l k n es x).2)(r:m8 σ s v x):m8 σ' s2 v (DK l k n es x).1:=by
 cases x with
 |one a=>exact h.a b r
 |agg cs=>obtain⟨vs,d,f⟩:=r;exact⟨vs,d,h.ls b f⟩
def je.d(h:je σ s l k n es σ' s2)(hl:s.β.length=σ.length)(b:Ext σ s σ' s2){v:ah}{d:D}(a:az (DL l k n es d).2)(r:dk σ s v d):dk σ' s2 v (DL l k n es d).1:=by
 cases d with
 |e x=>exact h.e a r
 |eX xs=>exact r.mono b hl
 |any=>trivial
def je.f(h:je σ s l k n es σ' s2)(hl:s.β.length=σ.length)(g:Ext σ s σ' s2):∀{φ:Fr}{t:Nat}{v:ah},az (wa l k n es φ).2->dk σ s v (look φ t)->dk σ' s2 v (look (wa l k n es φ).1 t)
 |[],_,_,_,_=>trivial
 |(u,d)::r,t,v,b,a=>by
  simp only[wa]at b⊢;rw[az.cat]at b;simp only[look]at a⊢;cases e:aB u t with
  |true=>rw[e]at a;exact h.d hl g b.1 a
  |false=>rw[e]at a;exact h.f hl g b.2 a
theorem qY:∀{σ:List aP}{i j:Nat},(gT l k n es i σ).1[j]?=match σ[j]? with
  |none=>ae
  |some b=>aa (match aB (i+j) l with|true=>.dead|false=>match b with|.cells E cs=>.cells E (ot l k n es cs).1|b=>b)
 |[],i,j=>by simp[gT]
 |b::r,i,0=>by simp only[gT,ir,la];grind
 |b::r,i,j+1=>by
  have a:=qY (σ:=r) (i:=i+1) (j:=j);have e:i+1+j=i+(j+1):=by omega
  rw[e]at a;simp only[gT,nV];grind
def wc:∀{σ:List aP}{i j:Nat}{E:aj}{cs:List A},az (gT l k n es i σ).2->σ[j]?=aa (.cells E cs)->i+j≠l->az (ot l k n es cs).2
 |[],i,j,_,_,_,a,_=>by grind
 |b::r,i,0,E,cs,d,a,e=>by simp at a;subst a;simp only[gT]at d;grind[Nat.eq_of_beq_eq_true,az.cat]
 |b::r,i,j+1,E,cs,d,a,e=>by simp at a;refine wc (σ:=r) (i:=i+1) (j:=j) ?_ a (by omega);simp only[gT]at d;grind[az.cat]
theorem qZ:∀{σ:List aP}{i:Nat},(gT l k n es i σ).1.length=σ.length
 |[],_=>rfl
 |b::r,i=>by simp only[gT];have a:=qZ (σ:=r) (i:=i+1);grind
def aF.oG(hh:aF σ s)(hB:σ[l]?=aa (.buf E k n es))(hq:az (gT l k n es 0 σ).2):
  ∃s2:St,s2.w=s.w/\aF (gT l k n es 0 σ).1 s2/\Step σ s (gT l k n es 0 σ).1 s2/\je σ s l k n es (gT l k n es 0 σ).1 s2:=by
 have Q:l<σ.length:=(bY.1 hB).1;have R:s.β[l]?=aa (s.β[l]'(by rw[hh.len];exact Q)):=br _;generalize s.β[l]'(by grind)=L at R;have J:=hh.box _ _ L hB R;obtain⟨M',m1,m2,m3,m4⟩:∃M':Mem,(∀b o v,s.M b o=aa v->M' b o=aa v)/\(∀b,b∉L.bs->∀o,M' b o=s.M b o)/\(∀b o v,M' b o=aa v->s.w.cell? ⟨b,o,ae⟩=aa v) /\
   (∀v k' o m,gn σ s v (.bp l (.sl n k' o m))->k'=k->o+m<=n->Rd M' v (.sl af k m (qX o es))):=by
  rcases J with⟨rfl,rfl⟩|⟨b,c0,vs,zs,rfl,hw,G9,ZV,I6,hF,hM⟩
  .refine⟨s.M,λ_ _ _ h=>h,λ_ _ _=>rfl,hh.mem,λv k' o m r e y=>?_⟩;obtain⟨lv,⟨a,a0,cap,c0,z,h1,h2,F,H,S⟩,_,Z⟩:=r;grind[Rd.jG]
  .let M':Mem:=λq o=>if q=b then vs[o]? else s.M q o;have Y:∀q o v,s.M q o=aa v->M' q o=aa v:=λq o v z=>by grind
   refine⟨M',Y,λq Dr o=>?_,λq o v z=>?_,λv k' o m r e y=>?_⟩
   .grind
   .by_cases e:q=b
    .subst e;simp only[M',cj]at z;simp only[aV,hw];grind
    .simp only[M',e,b7]at z;exact hh.mem q o v z
   .subst e;obtain⟨lv,⟨a,a0,cap,c1,z,h1,h2,F,H,S⟩,_,Z⟩:=r;obtain⟨L',f,O⟩:=(Z _ _ _ _ hB).2 rfl;rw[R]at f;cases f;rw[H]at O;cases O;rw[z];have g:∀i,i<m->∀j c,(qX o es i)[j]?=aa c->∃u,vs[(o+i)*k'+j]?=aa u/\Rd s.M u c:=λi hi j c hj=>by rw[vk]at hj;exact hF.rd (o+i) (by omega) j c hj
    refine .sl b (o*k') (λi j=>(vs[(o+i)*k'+j]?).getD ai) h1 (by omega) (by simp) (λi hi=>by rw[vk];exact hF.width _ (by omega)) (λhm=>?_) (λi hi j c hj=>?_) (λi hi j c hj=>?_)
    .grind
    .grind
    .obtain⟨u,u1,u2⟩:=g i hi j c hj;rw[u1];exact u2.mono Y
 obtain⟨D,q2⟩:=hh.gz (M':=M') (w':=s.w) (B':=.dead) (L':=⟨L.v,[]⟩) hB R ay (bh _) (λ_ _ _=>rfl) (λb _ V o=>m2 b V o) m1 m3 (by simp) rfl rfl rfl ay;let s2:St:=⟨s.β.set l ⟨L.v,[]⟩,M',s.w,s.own⟩
 have g:∀i B,σ[i]?=aa B->i≠l->(gT l k n es 0 σ).1[i]?=aa (match B with|.cells E cs=>.cells E (ot l k n es cs).1|b=>b):=λi B hi Bp=>by grind[qY,Nat.eq_of_beq_eq_true]
 have G:(gT l k n es 0 σ).1[l]?=aa .dead:=by
  rw[qY,hB];have:aB (0+l) l=ab:=by rw[bC];exact iR l
  grind
 have we:Step (σ.set l .dead) s2 (gT l k n es 0 σ).1 s2:=by
  refine⟨bh _,λ_ _ _=>rfl,λ_ _ _ h=>h,λ_ _ _ _=>rfl,λL' f b V=>.inr ⟨L',f,V⟩,λi B L' hi f=>?_,rfl,rfl,rfl,rfl⟩;by_cases e:i=l
  .subst e;rw[fV Q]at hi;cases hi;exact⟨.dead,L',G,f,rfl⟩
  .rw[j7 (λh=>e h.symm)]at hi;refine⟨_,L',g i B hi e,f,?_⟩;cases B<;>first|exact gy.refl _ _|rfl
 have st:=q2.trans we;have hc:je σ s l k n es (gT l k n es 0 σ).1 s2:=⟨λv a r=>r.mono st.ext hh.len,λv k' o m r e y=>m4 v k' o m r e y⟩
 refine⟨s2,rfl,⟨D.mem,by rw[qZ,<-hh.len];grind,λi B L' hi f=>?_,D.eB,D.lt,D.own⟩,st,hc⟩;by_cases e:i=l
 .subst e;rw[G]at hi;cases hi;trivial
 .have A:i<σ.length:=by grind[qZ]
  have x:=br A;have U:s.β[i]?=aa L':=by grind
  have W:=hh.box i _ L' x U;have p:=D.box i _ L' (by rw[j7 (λh=>e h.symm)];exact x) f;have d:=g i _ x e;rw[hi]at d;have d:=rN d;generalize hBe:σ[i]=B0 at *;cases B0 with
  |cells E0 cs =>
   subst d;obtain⟨b,vs,h1,h2,F,S⟩:=W;obtain⟨q,vW,I,XD,_,T⟩:=p;rw[h1]at I;cases I;exact⟨b,vs,h1,h2,hc.ls (wc hq x (by omega)) F,T⟩
  |vec=>subst d;exact p
  |b8=>subst d;exact p
  |dead=>subst d;trivial
  |loop N φ r =>
   subst d;obtain⟨l1,tmps,fn,df,h1,h2,F,S,h5⟩:=p;exact⟨l1,tmps,fn,df,h1,h2,F,λt=>(S t).mono we.ext D.len,h5⟩
  |qT=>subst d;exact p
  |buf=>subst d;exact p
end
section
variable {P:ar}{X:Cx P}{N:Nat}{Qf:Post}{K:List It}{φ φ':Fr}{σ σ':List aP}{c:Code}
def AK.oG(l:Nat){E k n:Nat}{es:Nat->List C}{ps qs:List Prop}(hl:du l σ=aa (.buf E k n es))(i:wa l k n es φ=(φ',ps))(e:gT l k n es 0 σ=(σ',qs))(m:az ps)(j:az qs)(kk:AK X N Qf (.code c::K) .normal φ' σ'):AK X N Qf (.code c::K) .normal φ σ:=by refine AK.ghost (λs a d hh=>?_) kk;obtain⟨s2,h1,h2,b,g⟩:=hh.oG (bZ hl) (by grind);rw[e]at h2 b g;refine⟨s2,h1,⟨d.size,d.defers.imp λ_ h=>h.mono b.ext,λt=>?_⟩,h2,b⟩;have:=g.f hh.len b.ext (φ:=φ) (t:=t) (by grind) (d.slot t);grind
end
section
variable {P:ar}{X:Cx P}
def eb.Bh{ι:Type}{f:aJ}{args:List D}{E:aj}{k n:Nat}{a b:C}{ok:Bool}{es:ι->Nat->List C}{K:ι->Mem->Prop}(es':Nat->List C)(h:eb X f args [] (λ_=>.eX [.agg [.bp 0 (.sl n k 0 n),.c a,.c b],.one (.c (.bool ok))]) (λi=>[.buf E k n (es i),.b8 (PM (K i))]))(hK:∀i M M',wX M M'->K i M->K i M')(u:∀i M,K i M->∀j,j<n->(es' j).length=k/\∀(p:Nat) (c:C),(es' j)[p]?=aa c->∃W,(es i j)[p]?=aa W/\∀v M0,Rd M0 v W->Rd M v c):
  eb (ι:=ah) X f args [] (λv=>.eX [.agg [.c (.val v),.c a,.c b],.one (.c (.bool ok))]) (λv=>[.dead,.b8 (PM λM=>Rd M v (.sl af k n es'))]):=by
 refine⟨h.1,λs vs hr hh S cs hS=>h.2 s vs hr hh S cs λi fr v s' hl ml iY st=>?_⟩;have hlen:s'.β.length=2:=iY.len;obtain⟨t,L1,I⟩:∃t L1,s'.β=[t,L1]:=by
  match hq:s'.β with
  |[A,B]=>grind
  |[]=>grind
  |[_]=>grind
  |_::_::_::_=>grind
 have R:s'.β[0]?=aa t:=by grind
 have Z:s'.β[1]?=aa L1:=by grind
 obtain⟨ch,⟨p1,p2,p3⟩,p4,p5,p6⟩:=iY.box 1 _ L1 rfl Z;have b0:=iY.box 0 _ t rfl R;obtain⟨ws,rfl,hw⟩:=ml
 match ws,hw with
 |[w0,w1],⟨F,z,_⟩ =>
 obtain⟨us,rfl,G⟩:=F
 match us,G with
 |[u0,u1,u2],⟨N,Q,U,_⟩ =>
 obtain⟨lv,⟨a',a0,cap,W,rfl,k1,k2,k3,k4,k5⟩,_,V⟩:=N;obtain⟨_,V⟩:=V E k n (es i) rfl;obtain⟨L0',e0,e1⟩:=V rfl;rw[R]at e0;cases e0;rw[k4]at e1;have adh:∀x,x∈t.bs->x∈L1.bs->False:=λx h1 h2=>absurd (iY.eB 0 1 t L1 R Z x h1 h2) (by decide);obtain⟨m,q1,q2,q3,q4⟩:∃m:Nat->Option Obj,(∀x o,m x=aa o->s'.w.heap[x]?=aa o/\∃cs E,o=.cells cs E (0,0))/\(∀x,x∈t.bs↔(m x).isSome=ab)/\(∀x∈t.bs,∀o,s'.M x o=ae) /\
   (∀d,(∀x,(m x).isSome=ab->d x=m x)->K i (fG d)->Rd (fG d) (.slice a' n cap) (.sl af k n es')):=by
  rcases b0 with⟨rfl,rfl⟩|⟨bb,c1,xs,zs,rfl,z1,z2,z3,z4,z5,z6⟩
  .exact⟨λ_=>ae,by simp,by simp,by simp,λd _ _=>.sl 0 0 (λ_ _=>ai) k1 (by omega) (λh=>by cases h) (λi hi=>by omega) (λh=>by omega) (λi hi=>by omega) λi hi=>by omega⟩
  .cases e1;refine⟨λx=>if x=bb then aa (.cells (xs++zs).toArray E (0,0))else ae,λx o g=>?_,λx=>by by_cases e:x=bb<;>simp[e],λx g o=>?_,λd hc hk=>?_⟩
   .grind
   .grind
   .have O:d bb=aa (.cells (xs++zs).toArray E (0,0)):=by grind
    refine .sl bb 0 (λi' j'=>xs.getD (i'*k+j') ai) k1 (by omega) (λh=>by cases h) (λj hj=>(u i _ hk j hj).1) (λh=>?_) (λj hj p c Y=>?_) λj hj p c Y=>?_
    .grind
    .obtain⟨c2,h1,h2⟩:=(u i _ hk j hj).2 p c Y;obtain⟨v,v1,v2⟩:=z5.rd j hj p c2 h1;have ta:=(bY.1 v1).1;simp only[fG,O,ik,bC];grind
    .obtain⟨c2,h1,h2⟩:=(u i _ hk j hj).2 p c Y;obtain⟨v,v1,v2⟩:=z5.rd j hj p c2 h1;grind
 let d:Nat->Option Obj:=λx=>(ch x).or (m x);have T:∀x,(m x).isSome=ab->d x=m x:=λx g=>by
  have:ch x=ae:=by
   cases h:ch x with
   |none=>rfl
   |some y=>grind
  grind
 have H:wX (fG ch) (fG d):=λx o v hv=>by
  cases h:ch x with
  |none=>simp[fG,h]at hv
  |some y=>simpa[fG,h,d]using hv
 let s2:St:={s' with β:=[⟨t.v,[]⟩,⟨.nilFunc,L1.bs++t.bs⟩]}
 have r:∀L∈s2.β,∀x∈L.bs,∃L'∈s'.β,x∈L'.bs:=λL q x g=>by rw[I];simp only[s2,eE,n7,mq]at q;grind
 have hG:eu s' s2:=⟨rfl,λ_ _ _ h=>h,λ_ _ _=>rfl,iY.mem,λx g=>g.imp id λ⟨L,q,g⟩=>r L q x g⟩
 refine .ghost hG (hS (.slice a' n cap) fr _ s2 (hl.mono λ_ _ _ h=>h) ⟨_,rfl,⟨_,rfl,Rd.val rfl,Q,U,ay⟩,z,ay⟩ ⟨iY.mem,rfl,λl B L hB q=>?_,λl l' A B h1 h2 x g P5=>?_,λL q x g=>?_,λx g=>⟨(iY.own x g).1,λL q J=>?_⟩⟩
  ⟨st.size,st.fb,st.mem,λx g hn o=>st.iV x g hn o,λL q x g=>?_,λl B L hB=>by grind,st.os,st.tape,st.output,st.own⟩)
 .match l,hB,q with
  |0,hB,q=>cases hB;trivial
  |1,hB,q =>
   cases hB;cases q;refine⟨d,⟨rfl,λx o g=>?_,q4 d T (hK i _ _ H p3)⟩,λx o g=>?_,λx=>?_,λx g o=>?_⟩
   .cases h:ch x with
    |some y=>simp only[d,h,Option.some_or]at g;exact p2 x o (h.trans g)
    |none=>simp only[d,h,Option.none_or]at g;exact(q1 x o g).2
   .cases h:ch x with
    |some y=>grind
    |none=>grind
   .grind
   grind
  |l+2,hB,q=>grind
 .match l,l',h1,h2 with
  |0,0,_,_=>rfl
  |1,1,_,_=>rfl
  |0,1,h1,_=>grind
  |1,0,_,h2=>grind
  |l+2,_,h1,_=>grind
  |_,l+2,_,h2=>grind
 .obtain⟨L',h1,h2⟩:=r L q x g;exact iY.lt L' h1 x h2
 .obtain⟨L',h1,h2⟩:=r L q x J;exact(iY.own x g).2 L' h1 h2
 .obtain⟨L',h1,h2⟩:=r L q x g;exact st.vd L' h1 x h2
end
section
variable {P:ar}{X:Cx P}{N:Nat}{ops:Array au}{φ:Fr}{σ:List aP}{c:Type}{x:c->Nat->D}{S:c->(Nat->Bool)->List aP}{Inv:c->(Nat->Bool)->Prop}
def ic{P:ar}(X:Cx P)(N:Nat)(all:List au)(φ:Fr){c:Type}(x:c->Nat->D)(S:c->(Nat->Bool)->List aP)(Inv:c->(Nat->Bool)->Prop)(i:Nat)(o:au):Prop :=
 ∀b (D:Nat->Bool),Inv b D->(∀j,fN all i j=ab->D j=ab)->(∀j,(j=i∨fN all j i=ab)->D j=af)->mE X N all o (jZ all φ (x b) i) (S b D) (λq:{a:c // (∀j,D j=ab->x a j=x b j)/\Inv a (eh i D)}=>x q.1 i) (λq=>S q.1 (eh i D))
def JJ{P:ar}(X:Cx P)(N:Nat)(all:List au)(φ:Fr){c:Type}(x:c->Nat->D)(S:c->(Nat->Bool)->List aP)(Inv:c->(Nat->Bool)->Prop):List au->Nat->Prop
 |[],_=>True
 |o::r,i=>ic X N all φ x S Inv i o/\JJ X N all φ x S Inv r (i+1)
theorem JJ.get{all:List au}:∀{l:List au}{k:Nat},JJ X N all φ x S Inv l k->∀i o,l[i]?=aa o->ic X N all φ x S Inv (k+i) o
 |[],_,_,i,o,h=>by grind
 |p::r,k,h,0,o,a=>by simp at a;subst a;exact h.1
 |p::r,k,h,i+1,o,a=>by have:=JJ.get h.2 i o (by grind);grind
def AK.Rv{ops:Array au}{id:Nat}{K:List It}{Qf:Post}(r:P.follows Departure.mixedOrders=ab)(x:c->Nat->D)(S:c->(Nat->Bool)->List aP)(Inv:c->(Nat->Bool)->Prop)(b:c)(l:Inv b λ_=>af)(p:S b (λ_=>af)=σ)(d:my ops.toList=ab)(e:rY ops.toList 0=ab)(g:oq N ops.toList=ab)(one:JJ X N ops.toList φ x S Inv ops.toList 0)(k:∀a D,Inv a D->(∀i,i<ops.toList.length->D i=ab)->AK X N Qf K .normal (MZ ops.toList φ (x a)) (S a D)):AK X N Qf (.code (.region id ops ab)::K) .normal φ σ:=by
 have:=AW.reg (X:=X) (N:=N) (φ:=φ) (σ:=σ) r (all:=ops.toList) ops.toList.length x S Inv b l p d e g (bh _)
  (λi h1 h2=>absurd h2 (mo.2 h1)) (λa D _ _ i h1 h2=>absurd h2 (mo.2 h1))
  (λa D i o j n _ m h f=>by have h1:=one.get i o n;rw[bC]at h1;exact h1 a D j (wD f i o n h) (FP f m))
  (Q:=AK X N Qf K) (λa D j q=>by rw[va];exact .nil (k a D j q)) id
 rw[oV]at this;exact this
theorem ic.of{all:List au}{i:Nat}{o:au}(h:∀d (D:Nat->Bool),Inv d D->(∀j,fN all i j=ab->D j=ab)->(∀j,(j=i∨fN all j i=ab)->D j=af)->Inv d (eh i D)/\OA X N all o (jZ all φ (x d) i) (S d D) (x d i) (S d (eh i D))):ic X N all φ x S Inv i o:=by intro d D g h1 h2 s a f hh b k cs SS idx rest hb hi hK;obtain⟨e,q2⟩:=h d D g h1 h2;exact q2 s a f hh b k cs SS idx rest hb hi λv s' r1 r2 r3=>hK ⟨d,λ_ _=>rfl,e⟩ v s' r1 r2 r3
def ic.ofI{all:List au}{i:Nat}{o:au}(h:∀e (D:Nat->Bool),Inv e D->(∀j,fN all i j=ab->D j=ab)->(∀j,(j=i∨fN all j i=ab)->D j=af) ->
  ∃(ι:Type) (y:ι->Go.AM.D) (σ':ι->List aP),mE X N all o (jZ all φ (x e) i) (S e D) y σ'/\∀j,∃d,((∀q,D q=ab->x d q=x e q)/\Inv d (eh i D))/\y j=x d i/\σ' j=S d (eh i D)):ic X N all φ x S Inv i o:=by intro e D l h1 h2 s a f hh b k cs SS idx rest hb hi hK;obtain⟨ι,y,σ',g,q2⟩:=h e D l h1 h2;refine g s a f hh b k cs SS idx rest hb hi λj v s' r1 r2 r3=>?_;obtain⟨d,m,p2,p3⟩:=q2 j;rw[p2]at r1;rw[p3]at r1 r2 r3;exact hK ⟨d,m⟩ v s' r1 r2 r3
end
section
variable {P:ar}{X:Cx P}{N:Nat}{all:List au}{φ:Fr}{x:Nat->D}{l:Bool->Bool->Bool->Bool->List aP}{i f k e g:Nat}{o:au}
abbrev po(l:Bool->Bool->Bool->Bool->List aP)(f k e g:Nat):(Nat->Bool)->List aP:=λD=>l (D f) (D k) (D e) (D g)
theorem ri{i j:Nat}{D:Nat->Bool}(h:aB j i=af):eh i D j=D j:=by simp only[eh,h]
theorem BJ{i:Nat}{D:Nat->Bool}:eh i D i=ab:=by simp only[eh,iR]
def dW.q4(h1:aB f i=af)(h2:aB k i=af)(m:aB e i=af)(j:aB g i=af)(h:∀a b c d,OA X N all o (jZ all φ x i) (l a b c d) (x i) (l a b c d)):dW X N all φ x (po l f k e g) i o:=by intro D _ _;grind[ri]
def dW.Xb{T:List (Nat×TI)}{CT:List (Nat×dt)}{obs:List Prop}(hT:cO P T)(hC:bE X CT)(n:az obs)(h:∀a b c d,wm T CT [] all (jZ all φ x i) (l a b c d) o=aa (x i,ae,obs):=by intro a b c d;cases a<;>cases b<;>cases c<;>cases d<;>rfl)(h1:aB f i=af:=by rfl)(h2:aB k i=af:=by rfl)(j:aB e i=af:=by rfl)(m:aB g i=af:=by rfl):dW X N all φ x (po l f k e g) i o:=.q4 h1 h2 j m λa b c d=>OA.eval hT hC (h a b c d) n
def dW.qD{T:List (Nat×TI)}{CT:List (Nat×dt)}(hT:cO P T)(hC:bE X CT)(h:∀a b c d,wm T CT [] all (jZ all φ x i) (l a b c d) o=aa (x i,ae,[]):=by intro a b c d;cases a<;>cases b<;>cases c<;>cases d<;>rfl)(h1:aB f i=af:=by rfl)(h2:aB k i=af:=by rfl)(m:aB e i=af:=by rfl)(j:aB g i=af:=by rfl):dW X N all φ x (po l f k e g) i o:=.Xb (obs:=[]) hT hC ay h h1 h2 m j
def dW.c1(h2:aB k f=af)(b:aB e f=af)(a:aB g f=af)(d:fN all k f=ab)(c:fN all e f=ab)(j:fN all g f=ab)(h:OA X N all o (jZ all φ x f) (l af af af af) (x f) (l ab af af af)):dW X N all φ x (po l f k e g) f o:=by intro D hT hF;grind[BJ,ri]
def dW.c2(h1:aB f k=af)(b:aB e k=af)(a:aB g k=af)(d:fN all k f=ab)(c:fN all e k=ab)(j:fN all g k=ab)(h:OA X N all o (jZ all φ x k) (l ab af af af) (x k) (l ab ab af af)):dW X N all φ x (po l f k e g) k o:=by intro D hT hF;grind[BJ,ri]
def dW.c3(h1:aB f e=af)(h2:aB k e=af)(d:aB g e=af)(b:fN all e f=ab)(a:fN all e k=ab)(c:fN all g e=ab)(h:OA X N all o (jZ all φ x e) (l ab ab af af) (x e) (l ab ab ab af)):dW X N all φ x (po l f k e g) e o:=by intro D hT hF;grind[BJ,ri]
def dW.c4(h1:aB f g=af)(h2:aB k g=af)(d:aB e g=af)(c:fN all g f=ab)(b:fN all g k=ab)(a:fN all g e=ab)(h:OA X N all o (jZ all φ x g) (l ab ab ab af) (x g) (l ab ab ab ab)):dW X N all φ x (po l f k e g) g o:=by intro D hT hF;grind[BJ,ri]
end
section
variable {P:ar}{X:Cx P}{N:Nat}{all:List au}{φ:Fr}{ι:Type}{x:Option ι->Nat->D}{s:Option ι->Bool->Bool->Bool->List aP}{i m f e d:Nat}{o:au}
abbrev SO(s:Option ι->Bool->Bool->Bool->List aP)(f e d:Nat):Option ι->(Nat->Bool)->List aP:=λa D=>s a (D f) (D e) (D d)
abbrev wE(ι:Type)(m:Nat):Option ι->(Nat->Bool)->Prop:=λa D=>a.isSome=D m
def ic.quiet(k:aB m i=af)(h1:aB f i=af)(h2:aB e i=af)(j:aB d i=af)(h:∀g a b c,OA X N all o (jZ all φ (x g) i) (s g a b c) (x g i) (s g a b c)):
  ic X N all φ x (SO s f e d) (wE ι m) i o:=by grind[ic.of,ri]
def ic.Rw(q:aB m i=af)(h1:aB f i=af)(h2:aB e i=af)(k:aB d i=af)(l:fN all i m=ab)(h:∀j a b c,OA X N all o (jZ all φ (x (aa j)) i) (s (aa j) a b c) (x (aa j) i) (s (aa j) a b c)):
  ic X N all φ x (SO s f e d) (wE ι m) i o:=by
 refine ic.of λg D p hT _=>⟨?_,?_⟩
 .grind [ri]
 .show OA X N all o _ (s g (D f) (D e) (D d)) _ (s g (eh i D f) (eh i D e) (eh i D d));rw[ri h1,ri h2,ri k];have n:=hT m l;cases g with
  |none=>grind
  |some j=>exact h _ _ _ _
def ic.qo{T:List (Nat×TI)}{CT:List (Nat×dt)}{obs:List Prop}(hT:cO P T)(hC:bE X CT)(l:az obs)(h:∀g a b c,wm T CT [] all (jZ all φ (x g) i) (s g a b c) o=aa (x g i,ae,obs):=by intro g a b c;cases g<;>cases a<;>cases b<;>cases c<;>rfl)(j:aB m i=af:=by rfl)(h1:aB f i=af:=by rfl)(h2:aB e i=af:=by rfl)(k:aB d i=af:=by rfl):ic X N all φ x (SO s f e d) (wE ι m) i o:=.quiet j h1 h2 k λg a b c=>OA.eval hT hC (h g a b c) l
def ic.qe{T:List (Nat×TI)}{CT:List (Nat×dt)}(hT:cO P T)(hC:bE X CT)(h:∀g a b c,wm T CT [] all (jZ all φ (x g) i) (s g a b c) o=aa (x g i,ae,[]):=by intro g a b c;cases g<;>cases a<;>cases b<;>cases c<;>rfl)(k:aB m i=af:=by rfl)(h1:aB f i=af:=by rfl)(h2:aB e i=af:=by rfl)(j:aB d i=af:=by rfl):ic X N all φ x (SO s f e d) (wE ι m) i o:=.qo (obs:=[]) hT hC ay h k h1 h2 j
def ic.qs{T:List (Nat×TI)}{CT:List (Nat×dt)}(hT:cO P T)(hC:bE X CT)(h:∀j a b c,wm T CT [] all (jZ all φ (x (aa j)) i) (s (aa j) a b c) o=aa (x (aa j) i,ae,[]):=by intro j a b c;cases a<;>cases b<;>cases c<;>rfl)(l:aB m i=af:=by rfl)(h1:aB f i=af:=by rfl)(h2:aB e i=af:=by rfl)(g:aB d i=af:=by rfl)(k:fN all i m=ab:=by rfl):ic X N all φ x (SO s f e d) (wE ι m) i o:=.Rw l h1 h2 g k λj a b c=>OA.cT hT hC (h j a b c)
def ic.X0(j:aB m e=af)(h1:aB f e=af)(g:aB d e=af)(c:fN all d e=ab)(h:∀b a,OA X N all o (jZ all φ (x b) e) (s b a af af) (x b e) (s b a ab af)):ic X N all φ x (SO s f e d) (wE ι m) e o:=by grind[ic.of,ri,BJ]
def ic.X1(k:aB m d=af)(h1:aB f d=af)(h2:aB e d=af)(b:fN all d m=ab)(l:fN all d f=ab)(n:fN all d e=ab)(h:∀j,OA X N all o (jZ all φ (x (aa j)) d) (s (aa j) ab ab af) (x (aa j) d) (s (aa j) ab ab ab)):ic X N all φ x (SO s f e d) (wE ι m) d o:=by
 refine ic.of λa D g hT hF=>?_;have c:=hT m b;cases a with
 |none=>grind
 |some j =>
  grind[ri,BJ]
end
section
variable {P:ar}{X:Cx P}{N:Nat}{Qf:Post}{K:List It}{φ:Fr}{σ:List aP}{all rest:List au}{o:au}
def AK.UT{ι:Type}{x:ι->D}{σ':ι->List aP}(h:mE X N all o φ σ x σ')(l:fR N o.dst=ab)(k:∀i,AK X N Qf (.ops all rest::K) .normal (km o.dst (x i) φ) (σ' i)):AK X N Qf (.ops all (o::rest)::K) .normal φ σ:=by
 intro s a f hh b kk cs S idx hb jm hQ;cases idx with
 |nil=>exact jm.elim
 |cons j idx =>
 refine h s a f hh b kk cs S j idx hb jm.1 λi v s' h1 h2 h3=>?_;refine k i s' _ ?_ h2 b kk cs S idx hb jm.2 λc σ2 s2 a2 q g e st=>hQ c σ2 s2 a2 q g e (h3.trans st);cases d:o.dst with
 |none=>exact f.mono h3 hh.len
 |some t=>exact(f.mono h3 hh.len).put (gA l t d) h1
def mE.ql[X.gZ]{ι:Type}{fo:ak}{xs:Array ak}{ats:Array aj}{f:aJ}{cap:List C}{q:List D}{res:ι->D}{σ1:ι->List aP}(I5:eb X f q [] res σ1){FC:List D}(hgd:qH all φ o=ab)(ho:o.op=.call {callee:=.value fo,args:=xs,argTypes:=ats})(hf:eG (bM φ fo)=aa (f,cap))(hl:jJ σ (xs.toList.map (bM φ)++fJ cap) FC){ps:List Prop}(R:vX FC (fI [] q)=aa ps)(hps:az ps)(hin:ll 0 q=ab)(T:∀j,Ns (res j)=ab)(mr:∀j,Bt (σ1 j)=ab):mE X N all o φ σ res (λj=>σ++σ1 j):=by
 intro s a U hh b kx cs S i idx hb hi hQ;have WV:=cY U fo;unfold eG at hf;split at hf
 case h_2=>cases hf
 case h_1 f' Nk he =>
  cases hf;rw[he]at WV;have G:=eT WV;generalize z:a.eval fo=fv at G;cases G with
  |fn fs nb hlf Yy f1 f2 h1 h2 r1 r2 =>
   have Yz:fs=[]:=jg hlf;subst Yz;have Z:cg σ s nb (fJ cap):=nk (λj c hj=>⟨f2 j,h2 j (by grind),r2 j c hj⟩) Yy;have J:cg σ s (xs.toList.map a.eval++nb) (xs.toList.map (bM φ)++fJ cap):=(lJ (cY U) xs.toList).append Z;generalize TD:xs.toList.map a.eval++nb=vs at J;obtain⟨⟨fn,UO,RI,O⟩,UU⟩:=I5;have wu:∀w,(aw a.eval o).run P w=.ok (.enter f vs.toArray) w:=λw=>by grind[ju]
   have YA:∀w,(aw a.eval o).events P w #[]=#[]:=λw=>(ju ho UO RI O z w).2;refine .next rfl λm Yo=>?_;have hr:=X.iw Yo;have e:=hh.rely hr;have f1':=U.rely hr hh;have Y:cg σ m vs (xs.toList.map (bM φ)++fJ cap):=J.mono hr.stepW.ext hh.len;obtain⟨B,M',hBL,m1,m2,m3,m4,m5⟩:=hl m vs e Y;let sc:St:={m with β:=[],M:=M',own:=λb=>m.own b∨∃L∈m.β,b∈L.bs}
   have hhc:aF [] sc:=by
    refine⟨m3,rfl,by simp,by grind,by grind,λb hb=>⟨?_,by grind⟩⟩;rcases hb with hb|⟨L',r,hb⟩
    .exact(e.own b hb).1
    .exact e.lt L' r b hb
   have hg1:eu m sc:=by refine⟨rfl,m1,λb hb o=>m2 b (λhB=>by grind) o,m3,λb hb=>?_⟩;grind
   have F:cg [] sc vs q:=by have a3:=vj R hps m5;exact(cg.sub (ks:=[]) (σ:=σ) (σ':=[]) (s:={m with M:=M'}) (β':=[]) rfl rfl a3 hin).mono (σ:=[]) (s:={m with β:=[],M:=M'}) (σ':=[]) (s':=sc) ⟨λ_ _ _ h=>h,λl B L hB hL=>by grind⟩ rfl
   refine⟨_,m,_,o0 hi (fD hgd _ _ _ f1') hb (wu m.w),⟨⟨σ,σ,e,e,.refl _ _⟩,eY.seen (by rw[YA];exact .nil)⟩,.ghost hg1 (UU sc vs F hhc S _ λj fr v s2 G7 ml IP mg=>?_)⟩;refine qb (cs:=cs) (c:=b.aT a (.inRegion all.toArray (i::idx)::kx)) IP G7 λu W=>?_;have p:=IP.rely W;have n:=mg.trans W.stepW;have Q:=ml.mono W.stepW.ext IP.len
   classical
   let I:Mem:=λb o=>if B b then m.M b o else u.M b o;have t:∀b,(m.own b∨∃L∈m.β,b∈L.bs)->u.own b:=λb hb=>by rw[n.own];exact hb
   have hFg:mW u {u with M:=I}:=by
    refine⟨rfl,rfl,rfl,λb o v z=>?_,λb o v z=>?_⟩
    .grind
    grind
   refine .forget Cx.gZ.ok hFg ?_;have hM5:∀b o v,I b o=aa v->u.M b o=aa v:=hFg.less;let s5:St:={u with M:=I,β:=m.β++u.β,own:=m.own}
   have hMm:∀b o v,m.M b o=aa v->I b o=aa v:=λb o v z=>by
    by_cases d:B b
    .grind
    .simp only[I,d,b7];exact n.mem b o v (m1 b o v z)
   have hMk:∀b,b<m.w.heap.size->∀o,I b o=m.M b o:=λb hb o=>by
    by_cases d:B b
    .grind
    .simp only[I,d,b7];rw[n.iV b hb (by grind) o];grind
   have UW:u.β.length=(σ1 j).length:=p.len;have ex:Ext σ m (σ++σ1 j) s5:=by
    refine⟨hMm,λl B L hB hL=>⟨B,L,?_,?_,.refl _ _⟩⟩
    .grind
    grind
   have V:m.w.heap.size<=u.w.heap.size:=n.size;have y:∀(l:Nat) (L':Loc),(m.β++u.β)[l]?=aa L'->(l<m.β.length/\m.β[l]?=aa L')∨(m.β.length<=l/\u.β[l-m.β.length]?=aa L'):=λl L' h=>by grind
   have hh5:aF (σ++σ1 j) s5:=by
    refine⟨λb o v z=>p.mem b o v (hM5 b o v z),by simp[s5,e.len,UW],?_,?_,?_,?_⟩
    .intro l B L' hB r;rcases y l L' r with⟨ta,h1⟩|⟨TK,h1⟩
     .rw[jz (by rw[<-e.len];exact ta)]at hB;exact(e.box l B L' hB h1).carry ex e.len λg d=>⟨n.fb g (.inr ⟨L',bJ h1,d⟩),hMk g (e.lt L' (bJ h1) g d)⟩
     .rw[fT (by rw[<-e.len];exact TK),<-e.len]at hB;have hbx:=p.box _ B L' hB h1;rcases Bu (mr j) B (bJ hB)with⟨H,rfl⟩|rfl
      .obtain⟨ch,c1,c2,c3,c4⟩:=hbx;refine⟨ch,c1,c2,c3,λg d o=>?_⟩;grind
      .trivial
    .intro l l' L1 L2 hL1 hL2 g A E;rcases y l L1 hL1 with⟨ta,h1⟩|⟨TK,h1⟩<;>rcases y l' L2 hL2 with⟨ac6,h2⟩|⟨ac7,h2⟩
     .exact e.eB l l' L1 L2 h1 h2 g A E
     .exact absurd E ((p.own g (t g (.inr ⟨L1,bJ h1,A⟩))).2 L2 (bJ h2))
     .exact absurd A ((p.own g (t g (.inr ⟨L2,bJ h2,E⟩))).2 L1 (bJ h1))
     .have:=p.eB _ _ L1 L2 h1 h2 g A E;omega
    .intro L' r g d;rcases fY.1 r with h|h
     .exact cU (e.lt L' h g d) V
     .exact p.lt L' h g d
    .intro g d;refine⟨cU (e.own g d).1 V,λL' r=>?_⟩;rcases fY.1 r with h|h
     .exact(e.own g d).2 L' h
     .exact(p.own g (t g (.inl d))).2 L' h
   have hg5:eu {u with M:=I} s5:=by refine⟨rfl,λ_ _ _ h=>h,λ_ _ _=>rfl,λb o v z=>p.mem b o v (hM5 b o v z),λg d=>?_⟩;grind
   have st5:cR σ m (σ++σ1 j) s5:=by
    refine⟨V,λg d=>n.fb g (.inl d),hMm,λg d _ o=>hMk g d o,λL' r g d=>?_,ex.box,n.os,n.tape,n.output,rfl⟩;rcases fY.1 r with h|h
    .grind
    .rcases n.vd L' h g d with h1|⟨L0,h1,_⟩
     .grind
     grind
   refine .ghost hg5 ?_;have x:=ki (b:=b) (a:=a) (k:=kx) all.toArray i idx v;rw[hi]at x;simp only[n3]at x;rw[x];exact hQ j v s5 (Nt (T j) Q) hh5 (hr.stepW.trans st5)
def AK.ql[X.gZ]{ι:Type}{m:ak}{xs:Array ak}{h:Array aj}{f:aJ}{cap:List C}{a:List D}{res:ι->D}{σ1:ι->List aP}(k:eb X f a [] res σ1){d:List D}(i:qH all φ o=ab)(n:o.op=.call {callee:=.value m,args:=xs,argTypes:=h})(p:eG (bM φ m)=aa (f,cap))(hl:jJ σ (xs.toList.map (bM φ)++fJ cap) d){ps:List Prop}(b:vX d (fI [] a)=aa ps)(g:az ps)(e:ll 0 a=ab)(c:∀j,Ns (res j)=ab)(l:∀j,Bt (σ1 j)=ab)(q:fR N o.dst=ab)(kk:∀j,AK X N Qf (.ops all rest::K) .normal (km o.dst (res j) φ) (σ++σ1 j)):AK X N Qf (.ops all (o::rest)::K) .normal φ σ:=.UT (mE.ql k i n p hl b g e c l) q kk
def AK.J5[X.gZ]{ι:Type}{r:ak}{xs:Array ak}{i:Array aj}{f:aJ}{cap:List C}{a:List D}{res:ι->D}{σ1:ι->List aP}(m:eb X f a [] res σ1)(s p:Nat){u:ah}{k n:Nat}{es:Nat->List C}(l:qH all φ o=ab)(w:o.op=.call {callee:=.value r,args:=xs,argTypes:=i})(x:eG (bM φ r)=aa (f,cap))(t:(xs.toList.map (bM φ)++fJ cap)[p]?=aa (.e (.one (.v u))))(hl:gZ σ s u k n es){ps:List Prop}(b:vX ((xs.toList.map (bM φ)++fJ cap).set p (.e (.one (.c (.sl af k n es))))) (fI [] a)=aa ps)(h:az ps)(g:ll 0 a=ab)(d:∀j,Ns (res j)=ab)(q:∀j,Bt (σ1 j)=ab)(y:fR N o.dst=ab)(kk:∀j,AK X N Qf (.ops all rest::K) .normal (km o.dst (res j) φ) (σ++σ1 j)):AK X N Qf (.ops all (o::rest)::K) .normal φ σ :=
 AK.ql m l w x ((jJ.refl _ _).step p s t hl) b h g d q y kk
end
section
variable {P:ar}{X:Cx P}{N:Nat}{Qf:Post}{d:List It}{φ:Fr}{σ:List aP}{all rest:List au}{o:au}
def eb.U1{ι:Type}{f:aJ}{args:List D}{res:ι->D}{H:ι->ah->(Nat->Option Obj)->Prop}{E:aj}{k:Nat}(h:eb X f args [] res (λi=>[.dead,.b8 (H i)]))(G:∀i v ch,H i v ch->v=.nilFunc)(K:∀i,hZ [] (res i)=res i)(q:∀i,vS 0 (res i)=ab)(R:ll 0 args=ab)(n:fI [] args=args):
  eb X f args [.b8 (fQ E k (.nil ae) 0 [])] res (λi=>[.b8 (H i)]):=by
 refine⟨h.1,λs vs hr hh S cs hS=>?_⟩;have x:s.β.length=1:=hh.len;obtain⟨g,F⟩:∃g,s.β=[g]:=by
  match Q:s.β with
  |[A]=>grind
  |[]=>grind
  |_::_::_=>grind
 have w:s.β[0]?=aa g:=by grind
 obtain⟨O,c1,c2,c3,c4⟩:=hh.box 0 _ g rfl w;obtain⟨T,_,_,_,rfl⟩:=c1;have M:∀b,b∉g.bs:=λb c=>by grind
 let j:St:={s with β:=[]}
 have J:eu s j:=⟨rfl,λ_ _ _ h=>h,λ_ _ _=>rfl,hh.mem,λb c=>c.imp id λ⟨L,a,_⟩=>by grind⟩
 have t:aF [] j:=⟨hh.mem,rfl,by simp,by grind,by grind,λb c=>⟨(hh.own b c).1,by grind⟩⟩
 have e:cg [] j vs args:=by rw[<-n]at hr;exact cg.sub (ks:=[]) (σ:=[.b8 (fQ E k (.nil ae) 0 [])]) (σ':=[]) (s:=s) (β':=[]) rfl rfl hr R
 refine .ghost J (h.2 j vs e t S cs λi fr v s' hl ml iY st=>?_);have r:s'.β.length=2:=iY.len;obtain⟨A,B,y⟩:∃A B,s'.β=[A,B]:=by
  match Q:s'.β with
  |[A,B]=>grind
  |[]=>grind
  |[_]=>grind
  |_::_::_::_=>grind
 have z:s'.β[1]?=aa B:=by grind
 obtain⟨ch,d1,d2,d3,d4⟩:=iY.box 1 _ B rfl z;have hB:=G i _ _ d1;let s2:St:={s' with β:=[B]}
 have m:∀L∈s2.β,L∈s'.β:=λL a=>by grind
 have p:eu s' s2:=⟨rfl,λ_ _ _ h=>h,λ_ _ _=>rfl,iY.mem,λb c=>c.imp id λ⟨L,a,c⟩=>⟨L,m L a,c⟩⟩
 have u:dk [.b8 (H i)] s2 v (res i):=by rw[<-K i]at ml;have:=dk.sub (ks:=[]) (σ:=[.dead,.b8 (H i)]) (σ':=[]) (s:=s') (β':=[]) rfl rfl ml (q i);exact this.mono (σ:=[]) (s:={s' with β:=[]}) (σ':=[.b8 (H i)]) (s':=s2) ⟨λ_ _ _ h=>h,λl B L hB=>by grind⟩ rfl
 refine .ghost p (hS i fr v s2 (hl.mono λ_ _ _ h=>h) u ⟨iY.mem,rfl,λl C L hC a=>?_,λl l' C D h1 h2 b c I=>?_,λL a b c=>iY.lt L (m L a) b c,λb c=>⟨(iY.own b c).1,λL a=>(iY.own b c).2 L (m L a)⟩⟩
  ⟨st.size,st.fb,st.mem,λb c _ o=>st.iV b c (by grind) o,λL a b c=>?_,λl C L hC a=>?_,st.os,st.tape,st.output,st.own⟩)
 .match l,hC,a with
  |0,hC,a=>cases hC;cases a;exact⟨ch,d1,d2,d3,d4⟩
  |l+1,hC,_=>grind
 .match l,l',h1,h2 with
  |0,0,_,_=>rfl
  |l+1,_,h1,_=>grind
  |_,l+1,_,h2=>grind
 .rcases st.vd L (m L a) b c with h1|⟨L1,h1,_⟩
  .grind
  grind
 .match l,hC,a with
  |0,hC,a =>
   cases hC;rw[w]at a;cases a;exact⟨_,B,rfl,rfl,by show B.v=g.v;grind⟩
  |l+1,hC,_=>grind
def AK.Oa(l i j:Nat){K:Mem->Prop}{E0 E:aj}{k:Nat}{cs:List A}{R cl:C}{c:Code}(W2:l≠i)(hl:du l σ=aa (.b8 (PM K)))(hi:du i σ=aa (.cells E0 cs))(hj:du j cs=aa (.c R))(hK:∀M M',K M->wX M M'->∀v,Rd M' v R->Rd M' v cl)(kk:AK X N Qf (.code c::d) .normal φ ((σ.set l (.b8 (fQ E k (.nil ae) 0 []))).set i (.cells E0 (cs.set j (.c cl))))):AK X N Qf (.code c::d) .normal φ σ:=by
 refine AK.ghost (λs a Q hh=>?_) kk;have hl:=bZ hl;have hi:=bZ hi;have hJ:=bZ hj;have F:l<s.β.length:=by rw[hh.len];grind
 have J:=br F;generalize s.β[l]=L at J;obtain⟨ch,⟨h1,h2,S⟩,Y,V,h6⟩:=hh.box l _ L hl J;let M':Mem:=λb o=>(s.M b o).or (fG ch b o);have r:∀b o v,fG ch b o=aa v->b∈L.bs/\s.w.cell? ⟨b,o,ae⟩=aa v:=λb o v f=>by
  cases h:ch b with
  |none=>simp[fG,h]at f
  |some x =>
   obtain⟨cs,E,rfl⟩:=h2 b x h;have hw:=Y b _ h;simp only[fG,h]at f;exact⟨(V b).2 (by simp[h]),by simpa[aV,hw]using f⟩
 have m1:∀b o v,s.M b o=aa v->M' b o=aa v:=λb o v f=>by grind
 have T:∀b,b∉L.bs->∀o,M' b o=s.M b o:=λb H o=>by
  cases h:fG ch b o with
  |none=>grind
  |some v=>grind
 have m3:∀b o v,M' b o=aa v->s.w.cell? ⟨b,o,ae⟩=aa v:=λb o v f=>by
  cases h:s.M b o with
  |some v'=>simp only[M',h,Option.some_or]at f;cases f;exact hh.mem b o v h
  |none=>grind
 have Z:=hK _ M' S λb o v f=>by have:=h6 b (r b o v f).1 o;simp[M',this,f]
 obtain⟨n,q2⟩:=hh.gz (M':=M') (w':=s.w) (B':=.b8 (fQ E k (.nil ae) 0 [])) (L':=⟨.nilFunc,[]⟩) hl J h1.symm (bh _) (λ_ _ _=>rfl) (λb _ H o=>T b H o) m1 m3 (by simp) rfl rfl rfl
  ⟨λ_=>ae,⟨rfl,by simp,by simp,rfl,rfl⟩,by simp,by simp,by simp⟩
 have m:(σ.set l (.b8 (fQ E k (.nil ae) 0 [])))[i]?=aa (.cells E0 cs):=by grind
 generalize U:(⟨s.β.set l ⟨.nilFunc,[]⟩,M',s.w,s.own⟩:St)=s1 at n q2;have z:i<s1.β.length:=by rw[n.len];grind
 have g:=br z;generalize s1.β[i]=L2 at g;obtain⟨b,vs,O,q,D,hM⟩:=n.box i _ L2 m g;obtain⟨u,hu,hr⟩:=D.get hJ;have I:s1.M=M':=by grind
 have y:s1.β.set i L2=s1.β:=by apply iO;grind
 obtain⟨t1,W⟩:=n.gz (M':=s1.M) (w':=s1.w) (B':=.cells E0 (cs.set j (.c cl))) (L':=L2) m g rfl (bh _) (λ_ _ _=>rfl) (λ_ _ _ _=>rfl) (λ_ _ _ h=>h) n.mem (λb H=>⟨.inl H,n.lt L2 (bJ g) b H⟩) rfl rfl rfl (by
   rw[y];have ex:Ext (σ.set l (.b8 (fQ E k (.nil ae) 0 []))) s1 ((σ.set l (.b8 (fQ E k (.nil ae) 0 []))).set i (.cells E0 (cs.set j (.c cl)))) s1:=by
    refine⟨λ_ _ _ h=>h,λp B L t G=>?_⟩;by_cases e:i=p
    .subst e;rw[m]at t;cases t;exact⟨_,L,fV (by grind),G,rfl⟩
    .exact⟨B,L,by grind,G,.refl _ _⟩
   refine⟨b,vs,O,q,dX.set (D.mono ex n.len) hu ?_,hM⟩;show Rd s1.M u cl;rw[I];exact Z u (I▸hr))
 have st:=q2.trans W;exact⟨_,by grind,⟨Q.size,Q.defers.imp λ_ h1=>h1.mono st.ext,λu=>(Q.slot u).mono st.ext hh.len⟩,t1,st⟩
def AK.rn(l i j:Nat){K:Mem->Prop}{E0 E:aj}{k:Nat}{cs:List A}{v:ah}{cl:C}{c:Code}(a:l≠i)(hl:du l σ=aa (.b8 (PM K)))(hi:du i σ=aa (.cells E0 cs))(hj:du j cs=aa (.c (.val v)))(b:∀M,K M->Rd M v cl)(kk:AK X N Qf (.code c::d) .normal φ ((σ.set l (.b8 (fQ E k (.nil ae) 0 []))).set i (.cells E0 (cs.set j (.c cl))))):AK X N Qf (.code c::d) .normal φ σ :=
 AK.Oa l i j a hl hi hj (λ_ _ h le _ r=>by rw[Rd.dZ r];exact(b _ h).mono le) kk
end
section
variable {P:ar}{X:Cx P}{N:Nat}{Qf:Post}{n:List It}{φ:Fr}{σ:List aP}
def AK.U2(l i j:Nat){E0 E:aj}{k k0:Nat}{cs:List A}{O:Nat->List C}(k1:Nat)(D6:Nat->List C){c:Code}(W2:l≠i)(hl:du l σ=aa (.b8 (fQ E k (.nil ae) 0 [])))(hi:du i σ=aa (.cells E0 cs))(hj:du j cs=aa (.c (.sl ab k0 0 O)))(kk:∀v,AK X N Qf (.code c::n) .normal φ ((σ.set l (.b8 (PM λM=>Rd M v (.sl af k1 0 D6)))).set i (.cells E0 (cs.set j (.c (.val v)))))):AK X N Qf (.code c::n) .normal φ σ:=by
 refine AW.tb (ι:=ah) (φ':=λ_=>φ) (σ':=λv=>(σ.set l (.b8 (PM λM=>Rd M v (.sl af k1 0 D6)))).set i (.cells E0 (cs.set j (.c (.val v))))) (λs a Y hh=>?_) kk;have hl:=bZ hl;have hi:=bZ hi;have hJ:=bZ hj;have q:i<s.β.length:=by rw[hh.len];grind
 have Q:=br q;generalize s.β[i]=Li at Q;obtain⟨b0,vs0,hLb,S,J,_⟩:=hh.box i _ Li hi Q;obtain⟨v,Nj,W⟩:=J.get hJ;obtain⟨a0,cap,vs1,rfl,n1,n2,_,_,_⟩:=(show Rd s.M v (.sl ab k0 0 O)from W).flat;have hK:∀M:Mem,Rd M (.slice a0 0 cap) (.sl af k1 0 D6):=λM=>.sl 0 0 (λ_ _=>ai) n1 n2 (λh=>by cases h) (λi hi=>by omega) (λh=>by omega) (λi hi=>by omega) λi hi=>by omega
 have H:l<s.β.length:=by rw[hh.len];grind
 have R:=br H;generalize s.β[l]=L at R;obtain⟨ch,hs,h4,h5,h6⟩:=hh.box l _ L hl R;obtain⟨z,q2⟩:=hh.gz (M':=s.M) (w':=s.w) (B':=.b8 (PM λM=>Rd M (.slice a0 0 cap) (.sl af k1 0 D6))) (L':=L) hl R rfl (bh _) (λ_ _ _=>rfl) (λ_ _ _ _=>rfl) (λ_ _ _ h=>h) hh.mem (λb K=>⟨.inl K,hh.lt L (bJ R) b K⟩) rfl rfl rfl
  ⟨ch,PM.start hK _ _ hs,h4,h5,h6⟩
 have r:(σ.set l (.b8 (PM λM=>Rd M (.slice a0 0 cap) (.sl af k1 0 D6))))[i]?=aa (.cells E0 cs):=by grind
 generalize hs1:(⟨s.β.set l L,s.M,s.w,s.own⟩:St)=s1 at z q2;have Z:i<s1.β.length:=by grind
 have t:s1.β[i]?=aa Li:=by grind
 obtain⟨b,vs,U,y,T,hM⟩:=z.box i _ Li r t;have G:s1.β.set i Li=s1.β:=by apply iO;grind
 have V:vs[j]?=aa (.slice a0 0 cap):=by grind
 obtain⟨t1,t2⟩:=z.gz (M':=s1.M) (w':=s1.w) (B':=.cells E0 (cs.set j (.c (.val (.slice a0 0 cap))))) (L':=Li) r t rfl (bh _) (λ_ _ _=>rfl) (λ_ _ _ _=>rfl) (λ_ _ _ h=>h) z.mem (λb K=>⟨.inl K,z.lt Li (bJ t) b K⟩) rfl rfl rfl (by
   rw[G];have ex:Ext (σ.set l (.b8 (PM λM=>Rd M (.slice a0 0 cap) (.sl af k1 0 D6)))) s1 ((σ.set l (.b8 (PM λM=>Rd M (.slice a0 0 cap) (.sl af k1 0 D6)))).set i (.cells E0 (cs.set j (.c (.val (.slice a0 0 cap)))))) s1:=by
    refine⟨λ_ _ _ h=>h,λp B L F I=>?_⟩;by_cases e:i=p
    .subst e;rw[r]at F;cases F;exact⟨_,L,fV (by grind),I,rfl⟩
    .exact⟨B,L,by grind,I,.refl _ _⟩
   exact⟨b,vs,U,y,dX.set (T.mono ex z.len) V (Rd.val rfl),hM⟩)
 have st:=q2.trans t2;exact⟨.slice a0 0 cap,_,by grind,⟨Y.size,Y.defers.imp λ_ h1=>h1.mono st.ext,λu=>(Y.slot u).mono st.ext hh.len⟩,t1,st⟩
end
section
variable {P:ar}{X:Cx P}{N:Nat}{all:List au}{φ:Fr}{ι:Type}{x:Option ι->Nat->D}{s:Option ι->Bool->Bool->Bool->List aP}{i m f g d:Nat}{o:au}
def ic.pre(t:aB m f=af)(h2:aB g f=af)(q:aB d f=af)(l:fN all m f=ab)(k:fN all d f=ab)(h:∀b,OA X N all o (jZ all φ (x ae) f) (s ae af b af) (x ae f) (s ae ab b af)):ic X N all φ x (SO s f g d) (wE ι m) f o:=by
 refine ic.of λc D r hT hF=>?_;have p:=hF m (.inr l);have e:=hF d (.inr k);have a:=hF f (.inl rfl);cases c with
 |some j=>grind
 |none=>grind[ri,BJ]
def ic.YD(h1:aB f m=af)(h2:aB g m=af)(u:aB d m=af)(p:fN all m f=ab)(l:fN all d m=ab)(e:∀j q,q=m∨fN all q m=ab∨x (aa j) q=x ae q)(h:∀b,mE X N all o (jZ all φ (x ae) m) (s ae ab b af) (λj=>x (aa j) m) (λj=>s (aa j) ab b af)):ic X N all φ x (SO s f g d) (wE ι m) m o:=by
 refine ic.ofI λa D v hT hF=>?_;have r:=hF m (.inl rfl);have c:=hT f p;have k:=hF d (.inr l);have t:a=ae:=by
  cases a with
  |none=>rfl
  |some j=>grind
 grind[BJ,ri]
def ic.last(e:aB m d=af)(h1:aB f d=af)(h2:aB g d=af)(c:fN all d m=ab)(b:fN all d f=ab)(a:fN all d g=ab)(h:∀j,OA X N all o (jZ all φ (x (aa j)) d) (s (aa j) ab ab af) (x (aa j) d) (s (aa j) ab ab ab)):ic X N all φ x (SO s f g d) (wE ι m) d o:=.X1 e h1 h2 c b a h
end
theorem Rd.Ed{M:Mem}{v:ah}{t:Bool}{k n:Nat}{es:Nat->List C}(h:Rd M v (.sl t k n es)):∃a cap b off,v=.slice a n cap/\n<=cap/\cap<=9223372036854775807/\(0<n->a=aa ⟨b,off,ae⟩)/\(∀i,i<n->(es i).length=k)/\∀i,i<n->∀j c,(es i)[j]?=aa c->∃u,M b (off+i*k+j)=aa u/\Rd M u c:=by
 cases h with
 |@sl a _ cap _ _ _ b off f e g l hk ha hm hr=>exact⟨a,cap,b,off,rfl,e,g,ha,hk,λi hi j c hj=>⟨_,hm i hi j c hj,hr i hi j c hj⟩⟩
def Rd.RN{M:Mem}{a:Option Addr}{cap k n b off:Nat}{es:Nat->List C}(h1:n<=cap)(h2:cap<=9223372036854775807)(f:0<n->a=aa ⟨b,off,ae⟩)(e:∀i,i<n->(es i).length=k)(g:∀i,i<n->∀j c,(es i)[j]?=aa c->∃u,M b (off+i*k+j)=aa u/\Rd M u c):Rd M (.slice a n cap) (.sl af k n es):=by
 refine .sl b off (λi j=>(M b (off+i*k+j)).getD ai) h1 h2 (λh=>by cases h) e f (λi hi j c hj=>?_) λi hi j c hj=>?_
 .grind
 grind
section
variable {P:ar}{X:Cx P}{N:Nat}{Qf:Post}{d:List It}{φ:Fr}{σ:List aP}{all rest:List au}{o:au}
def AK.U3{ι:Type}{c:Code}{b K:List It}(φ':ι->Fr)(σ':ι->List aP)(h:(∀(i:ι)(a:Fr)(ps:List Prop),nA a (φ' i)=aa ps->az ps->AK X N Qf (.code c::b) .normal a (σ' i))->AK X N Qf K .normal φ σ)(k:∀i,AK X N Qf (.code c::b) .normal (φ' i) (σ' i)):AK X N Qf K .normal φ σ :=
 h λi _ _ h1 h2=>AW.le (k i) (cE h1 h2)
def jJ.agg{ds:List D}(p q E:Nat){cs:List A}{u:ah}{k n:Nat}{es:Nat->List C}(K:ds[p]?=aa (.e (.agg cs)))(G:cs[q]?=aa (.c (.val u)))(hl:gZ σ E u k n es):jJ σ ds (ds.set p (.e (.agg (cs.set q (.c (.sl af k n es)))))):=by
 intro s vs hh hr;obtain⟨L,r,i,x,z,I,F,H⟩:=hl s hh;refine⟨λb=>b∈L.bs,r,λb J=>⟨L,bJ i,J⟩,x,z,I,F,?_⟩;have e1:Ext σ s σ {s with M:=r}:=⟨x,λl B L hB i=>⟨B,L,hB,i,.refl _ _⟩⟩
 have w:=hr.mono e1 hh.len;obtain⟨O,m⟩:=cg.get w;have h:p<vs.length:=by grind
 have f:=m p;rw[K,br h]at f;obtain⟨y,j,g⟩:=f;obtain⟨v,a,t⟩:=g.get G;rw[Rd.dZ (show Rd r v (.val u)from t)]at a;refine cg.setAt w (br h) ⟨y,j,dX.set g a H⟩
theorem PM.of{l:Nat}{K:Mem->Prop}{p:Prop}(hl:σ[l]?=aa (.b8 (PM K)))(h:∀M,K M->p)(s:St)(hh:aF σ s):p:=by
 have a:l<s.β.length:=by rw[hh.len];grind
 obtain⟨ch,⟨_,_,b⟩,_⟩:=hh.box l _ _ hl (br a);grind
def dN.RO{T:List (Nat×TI)}(hT:cO P T)(l:Nat){t:aj}{x:ak}{b off:Nat}{K:Mem->Prop}{i:TI}(h:o.op=.load t x)(hi:bD T t=aa i)(I:∀v,kN i [.c (.val v)]=aa (.one (.c (.val v))))(J:bM φ x=.e (.one (.v (.pointer (aa ⟨b,off,ae⟩)))))(hl:σ[l]?=aa (.b8 (PM K)))(R:∀M,K M->∃w,M b off=aa w/\cD w=ab):dN P N o φ σ (λw:ah=>.e (.one (.v w))) (λw=>σ.set l (.b8 (PM λM=>K M/\M b off=aa w))):=by
 intro s a U hh;have u:=cY U x;rw[J]at u;have u:=Rd.dZ u;have p:l<s.β.length:=by rw[hh.len];grind
 have r:=br p;generalize s.β[l]=L at r;obtain⟨ch,⟨h1,h2,D⟩,G,F,W⟩:=hh.box l _ L hl r;obtain⟨w,A,V⟩:=R _ D;obtain⟨cs,E,B,C⟩:∃cs E,ch b=aa (.cells cs E (0,0))/\cs[off]?=aa w:=by
  cases e:ch b with
  |none=>simp[fG,e]at A
  |some x =>
   obtain⟨cs,E,rfl⟩:=h2 b x e;exact⟨cs,E,rfl,by simpa[fG,e]using A⟩
 have y:b∈L.bs:=(F b).2 (by grind);have q:=G b _ B;obtain⟨Q,O⟩:=hh.jw (l:=l) (H':=PM λM=>K M/\M b off=aa w) (L':=L) (w':=s.w) hl r rfl (bh _) (λ_ _ _=>rfl) (λ_ S=>.inl S) ⟨ch,⟨h1,h2,D,A⟩,G,F⟩ rfl rfl rfl;have f:∀(j:Nat) (v:ah),[w][j]?=aa v->s.w.cell? ⟨b,off+j,ae⟩=aa v:=by
  intro j v hj
  match j,hj with
  |0,hj=>cases hj;simp[aV,q,C]
 obtain⟨v,g,z⟩:=iB (s:=⟨s.β.set l L,s.M,s.w,s.own⟩) (σ:=σ.set l (.b8 (PM λM=>K M/\M b off=aa w))) (P:=P) (hT t i hi) (b:=b) (off:=off) (vs:=[w]) (cs:=[.c (.val w)]) f ⟨Rd.val V,ay⟩ (I w);have g:(loadVar t ⟨b,off,ae⟩).run P s.w=.ok v s.w:=g;have e1:aw a.eval o=(do pure (.value (<-loadVar t ⟨b,off,ae⟩))):=by simp[aw,h,u,Instr.loadAt,bo]
 refine⟨w,.value v,_,v,by rw[e1];simp[g],.inl rfl,z,Q,O,λH m=>?_⟩;rw[e1]at m;have k:H∈(loadVar t ⟨b,off,ae⟩).events P s.w #[]:=by simpa[g]using m
 obtain⟨j,hj,rfl⟩:=ga (hT t i hi) (n:=1) (λj hj=>⟨w,f j w (by grind)⟩) (by have:=kO (I w);grind) H k;exact jI (bJ r) y
def Mem.up(M:Mem)(b o:Nat)(u:ah):Mem:=λa c=>if a=b/\c=o then aa u else M a c
def dN.F6{T:List (Nat×TI)}(hT:cO P T)(l:Nat){t:aj}{x y:ak}{b off:Nat}{K:Mem->Prop}{c:C}{i:TI}(h:o.op=.store t x y)(hi:bD T t=aa i)(hs1:i.size=1)(hx:bM φ x=.e (.one (.v (.pointer (aa ⟨b,off,ae⟩)))))(hy:bM φ y=.e (.one (.c c)))(hg:uK c=ab)(hl:σ[l]?=aa (.b8 (PM K)))(hK:∀M,K M->∃w,M b off=aa w):dN P N o φ σ (ι:={u:ah // ∀M,Rd M u c}) (λ_=>.any) (λu=>σ.set l (.b8 (PM λM'=>∃M,K M/\M'=M.up b off u.1))):=by
 intro s a Y hh;have H:=cY Y x;rw[hx]at H;have H:=Rd.dZ H;have m:=lO (show kn (bM φ y)=aa [.c c] by rw[hy];rfl) (cY Y y);generalize D:(a.eval y).cells.toList=vs at m;obtain⟨u,rfl⟩:∃u,vs=[u]:=by
  match vs,m with
  |[u],_=>grind
  |_::_::_,h=>exact h.2.elim
 have hu:Rd s.M u c:=m.1;have U:∀M,Rd M u c:=λM=>qa hg hu;have G:l<s.β.length:=by rw[hh.len];grind
 have S:=br G;generalize s.β[l]=L at S;obtain⟨ch,⟨h1,h2,V⟩,h4,h5,h6⟩:=hh.box l _ L hl S;obtain⟨w,Z⟩:=hK _ V;obtain⟨cs,E,R,UN⟩:∃cs E,ch b=aa (.cells cs E (0,0))/\cs[off]?=aa w:=by
  cases e:ch b with
  |none=>simp[fG,e]at Z
  |some x =>
   obtain⟨cs,E,rfl⟩:=h2 b x e;exact⟨cs,E,rfl,by simpa[fG,e]using Z⟩
 have J:b∈L.bs:=(h5 b).2 (by grind);have k:=h4 b _ R;have q:off<cs.size:=by grind
 have z:=run_storeCells_at P b off E [u] 0 cs s.w k (show off+0+1<=cs.size from q) m.cell;simp only[ir,jh]at z;have A:=setRow_heap s.w b cs (cs.toList.take off++[u]++cs.toList.drop (off+1)).toArray E (0,0) k;generalize B:(cs.toList.take off++[u]++cs.toList.drop (off+1)).toArray=Xi at z A;have F:∀j,Xi[j]?=if j=off then aa u else cs[j]?:=λj=>by rw[<-B];grind
 have I:∀f O,fG (λf=>if f=b then aa (.cells Xi E (0,0))else ch f) f O=(fG ch).up b off u f O:=λf O=>by
  by_cases e:f=b
  .subst e;simp only[fG,cj,Mem.up,aG,R,F]
  .simp only[fG,aZ e,Mem.up,e,false_and,b7]
 obtain⟨t1,t2⟩:=hh.jw (l:=l) (H':=PM λM'=>∃M,K M/\M'=M.up b off u) (L':=L) (w':=s.w.setRow b Xi) hl S rfl (by simp)
  (λf n hn=>setRow_other s.w b f _ (λe=>hn (by grind))) (λf n=>.inl n)
  ⟨λf=>if f=b then aa (.cells Xi E (0,0))else ch f,⟨h1,λf o n=>by
   grind,_,V,funext λf=>funext λO=>I f O⟩,λf o n=>by
   grind[setRow_other],λf=>by grind⟩ rfl rfl rfl
 have Q:(a.eval y).cells.size=i.size:=by grind
 have e1:aw a.eval o=(do storeVar t ⟨b,off,ae⟩ (a.eval y);pure .skip):=by simp[aw,h,H,Instr.storeAt,bo]
 refine⟨⟨u,U⟩,.skip,_,ai,?_,.inr ⟨rfl,rfl⟩,ay,t1,t2,?_⟩
 .simp[aw,h,H,Instr.storeAt,bo,storeVar,(hT t i hi).run_sizeOf,Q,D,z]
 .intro W g;rw[e1]at g;have p:W∈(storeCells ⟨b,off,ae⟩ (a.eval y).cells.toList).events P s.w #[]:=by
   simp only[storeVar,aM,(hT t i hi).run_sizeOf,Q,aO,events_sizeOf,dr,fa,b7,bL,bU,Sem.events_pure]at g;generalize(storeCells ⟨b,off,ae⟩ (a.eval y).cells.toList).run P s.w=r at g;cases r with
   |ok v w'=>simpa using g
   |halt x w'=>simpa using g
  rw[D]at p;rcases dE [u] 0 cs s.w #[] k (show off+0+1<=cs.size from q) m.cell W p with IN|⟨j,_,_,rfl⟩
  .grind
  .exact jF (bJ S) J (h6 b J _)
end
def Bj(p:Bs):ah:=.string ⟨p.toArray⟩
def S4{a:ByteArray}{p:Bs}(h:a.data.toList=p):Value.string a=Bj p:=by subst h;simp[Bj]
theorem str_val{M:Mem}{v:ah}{p:Bs}(h:Rd M v (.str p)):v=Bj p/\cD v=ab:=by
 cases h with
 |str e _=>exact⟨S4 e,rfl⟩
section
variable {P:ar}{X:Cx P}{N:Nat}{all:List au}{φ:Fr}{x:Nat->D}{k:Bool->Bool->Bool->List aP}{i g f b:Nat}{o:au}
abbrev ui(k:Bool->Bool->Bool->List aP)(g f b:Nat):(Nat->Bool)->List aP:=λD=>k (D g) (D f) (D b)
def lK{i j:Nat}{D:Nat->Bool}(h:aB j i=af):eh i D j=D j:=by simp only[eh,h]
def zX{i:Nat}{D:Nat->Bool}:eh i D i=ab:=by simp only[eh,iR]
def dW.q3(h1:aB g i=af)(h2:aB f i=af)(e:aB b i=af)(h:∀a c d,OA X N all o (jZ all φ x i) (k a c d) (x i) (k a c d)):dW X N all φ x (ui k g f b) i o:=by intro D _ _;show OA X N all o _ (k (D g) (D f) (D b)) _ (k (eh i D g) (eh i D f) (eh i D b));rw[lK h1,lK h2,lK e];exact h _ _ _
def dW.Z8{T:List (Nat×TI)}{CT:List (Nat×dt)}{obs:List Prop}(hT:cO P T)(hC:bE X CT)(j:az obs)(h:∀a c d,wm T CT [] all (jZ all φ x i) (k a c d) o=aa (x i,ae,obs):=by intro a c d;cases a<;>cases c<;>cases d<;>rfl)(h1:aB g i=af:=by rfl)(h2:aB f i=af:=by rfl)(e:aB b i=af:=by rfl):dW X N all φ x (ui k g f b) i o:=.q3 h1 h2 e λa c d=>OA.eval hT hC (h a c d) j
def dW.IT{T:List (Nat×TI)}{CT:List (Nat×dt)}(hT:cO P T)(hC:bE X CT)(h:∀a c d,wm T CT [] all (jZ all φ x i) (k a c d) o=aa (x i,ae,[]):=by intro a c d;cases a<;>cases c<;>cases d<;>rfl)(h1:aB g i=af:=by rfl)(h2:aB f i=af:=by rfl)(e:aB b i=af:=by rfl):dW X N all φ x (ui k g f b) i o:=.Z8 (obs:=[]) hT hC ay h h1 h2 e
def dW.e1(hi:aB g i=ab)(h1:aB g i=ab)(h2:aB f i=af)(j:aB b i=af)(h:∀c d,OA X N all o (jZ all φ x i) (k af c d) (x i) (k ab c d)):dW X N all φ x (ui k g f b) i o:=by intro D _ a;have e:=bP hi;subst e;show OA X N all o _ (k (D g) (D f) (D b)) _ (k (eh g D g) (eh g D f) (eh g D b));rw[zX,lK h2,lK j,a g (.inl rfl)];exact h _ _
def dW.e2(hi:aB f i=ab)(h1:aB g i=af)(l:aB b i=af)(d:fN all b i=ab)(j:aB f i=ab)(h:∀a,OA X N all o (jZ all φ x i) (k a af af) (x i) (k a ab af)):dW X N all φ x (ui k g f b) i o:=by intro D _ c;have e:=bP hi;subst e;show OA X N all o _ (k (D g) (D f) (D b)) _ (k (eh f D g) (eh f D f) (eh f D b));rw[zX,lK h1,lK l,c f (.inl rfl),c b (.inr d)];exact h _
def dW.e3(hi:aB b i=ab)(h1:aB g i=af)(h2:aB f i=af)(c:fN all i f=ab)(d:aB b i=ab)(h:∀a,OA X N all o (jZ all φ x i) (k a ab af) (x i) (k a ab ab)):dW X N all φ x (ui k g f b) i o:=by intro D hT hF;have e:=bP hi;subst e;show OA X N all o _ (k (D g) (D f) (D b)) _ (k (eh b D g) (eh b D f) (eh b D b));rw[zX,lK h1,lK h2,hF b (.inl rfl),hT f c];exact h _
end
def dJ(g:Nat)(E:aj)(v:ah):ah->(Nat->Option Obj)->Prop:=λu a=>u=.pointer (aa ⟨g,0,ae⟩)/\a g=aa (.cells #[v] E (0,0))/\∀b,b≠g->a b=ae
section
variable {P:ar}{X:Cx P}{N:Nat}{φ:Fr}{σ:List aP}{all:List au}{o:au}{T:List (Nat×TI)}
def OA.JY(hT:cO P T){t g:Nat}(l:Nat){E:aj}{v:ah}{i:TI}(A:qH all φ o=ab)(F:o.op=.load t (.global g))(hl:du l σ=aa (.b8 (dJ g E v)))(hi:bD T t=aa i)(O:cD v=ab)(H:kN i [.c (.val v)]=aa (.one (.c (.val v)))):
  OA X N all o φ σ (.e (.one (.c (.val v)))) σ:=by
 intro s a f hh b k cs S q rest hb hq hK;refine rh hb hq (fD A _ _ _ f) λh r=>?_;have d:=hh.rely r;have hB:=bZ hl;have C:l<h.β.length:=by rw[d.len];grind
 have z:=br C;generalize h.β[l]=L at z;obtain⟨ch,⟨h1,h2,Q⟩,K,J,R⟩:=d.box l _ L hB z;have I:=K g _ h2;have M:g∈L.bs:=(J g).2 (by grind)
 have x:a.eval (.global g)=.pointer (aa ⟨g,0,ae⟩):=rfl;have D:dX σ h [v] [.c (.val v)]:=⟨Rd.val O,ay⟩;obtain⟨u,m,B⟩:=iB (s:=h) (σ:=σ) (P:=P) (hT t i hi) (b:=g) (off:=0) (vs:=[v]) (cs:=[.c (.val v)]) (e:=.one (.c (.val v))) (λj w hj=>by
  simp only[aV,I]
  grind) D H
 refine⟨.value u,h,u,by simp[aw,F,x,Instr.loadAt,bo,m],.inl rfl,⟨⟨σ,σ,d,d,.refl _ _⟩,?_⟩,hK u h B d r.stepW⟩;intro G y;have p:G∈(loadVar t ⟨g,0,ae⟩).events P h.w #[]:=by
  have e:aw a.eval o=(do pure (.value (<-loadVar t ⟨g,0,ae⟩))):=by simp[aw,F,x,Instr.loadAt,bo]
  rw[e]at y;simpa[m]using y
 obtain⟨j,hj,rfl⟩:=ga (hT t i hi) (n:=1) (λj hj=>⟨v,by simp only[aV,I];grind⟩) (by have:=kO H;grind) G p;exact jI (bJ z) M
end
section
variable {P:ar}{X:Cx P}{N:Nat}{φ:Fr}{σ:List aP}
def Jj{P:ar}(X:Cx P)(N:Nat)(all:List au)(φ:Fr)(σ:List aP)(x:Nat->D):List D->List au->Nat->Prop
 |_::r,o::l,i=>OA X N all o (jZ all φ x i) σ (x i) σ/\Jj X N all φ σ x r l (i+1)
 |[],_,_=>True
 |_::_,[],_=>False
theorem Jj.get{all:List au}{x:Nat->D}:∀{r:List D}{l:List au}{k:Nat},Jj X N all φ σ x r l k->∀i o,l[i]?=aa o->i<r.length->OA X N all o (jZ all φ x (k+i)) σ (x (k+i)) σ
 |[],_,_,_,i,o,_,hi=>absurd hi (fL _)
 |_::r,[],_,h,i,o,_,hi=>h.elim
 |d::r,p::l,k,h,0,o,a,_=>by cases a;exact h.1
 |d::r,p::l,k,h,i+1,o,a,hi=>by have:=Jj.get h.2 i o a (by grind);grind
def AK.calm(j:P.follows Departure.mixedOrders=ab)(xs:List D)(c:Nat){ops:Array au}{id:Nat}{K:List It}{Qf:Post}(a:my ops.toList=ab)(b:rY ops.toList 0=ab)(d:oq N ops.toList=ab)(e:bu xs.length ops.toList.length=ab)(PR:vY ops.toList c xs.length (ops.toList.length-xs.length)=ab)(one:Jj X N ops.toList φ σ (λi=>xs.getD i .any) xs ops.toList 0)(k:AK X N Qf (.ops ops.toList (ops.toList.drop xs.length)::K) .normal (MZ ops.toList φ λi=>xs.getD i .any) σ):AK X N Qf (.code (.region id ops ab)::K) .normal φ σ:=by
 have e:=cV e;have:=AW.reg (X:=X) (N:=N) (φ:=φ) (σ:=σ) j (all:=ops.toList) xs.length (λ_:Unit=>λi=>xs.getD i .any) (λ_ _=>σ) (λ_ _=>True) () ay rfl a b d e
  (λi h1 h2 L l g k hk=>qd l (tg (th PR i h1 (by omega)) k hk) g)
  (λf D _ _ i h1 h2=>by grind)
  (λf D i o _ h hi _ _ _=>by have h1:=one.get i o h hi;rw[bC]at h1;exact h1.te ⟨(),λ_ _=>rfl,ay⟩ rfl rfl)
  (Q:=AK X N Qf K) (λf D _ _=>k) id
 rw[oV]at this;exact this
end
section
variable {P:ar}{X:Cx P}{N:Nat}{Qf:Post}{K:List It}{φ:Fr}{σ:List aP}{all rest:List au}{o:au}{T:List (Nat×TI)}
def Hz{ι:Type}{S:av->St->Prop}{b:aR}{k:List Item}{cs:List aR}{a:Act}{s:St}{ops:Array au}{i:Nat}{rest:List Nat}{ks:List Nat}{n:List aP}{σ1:ι->List aP}{f:aJ}{e:List D}{res:ι->D}{vs:List ah}(hb:b.kind≠.early)(ho:ops[i]?=aa o)(hw:bd o (yielded ops a.tmps)=ab)(hh:aF σ s)(t:∀g,aF σ g->(aw a.eval o).run P g.w=.ok (.enter f vs.toArray) g.w/\eY g ((aw a.eval o).events P g.w #[]))(V:eb X f e n res σ1)(y:cg σ s vs (fI ks e))(Q:ll ks.length e=ab)(q:jK ks σ=aa n)(hp:cq n=ab)(Z:∀j,cq (σ1 j)=ab)(hn:dx ks=ab)(R:∀j,ks.length<=(σ1 j).length)(h:∀j v s',dk (dH ks (σ1 j) σ) s' v (hZ (ks++kL σ.length ((σ1 j).length-ks.length)) (res j))->aF (dH ks (σ1 j) σ) s'->cR σ s (dH ks (σ1 j) σ) s'->fz X S (G (b.aT (a.put o.dst v) (.inRegion ops rest::k)) cs) s'):
  fz X S (G (b.aT a (.inRegion ops (i::rest)::k)) cs) s:=by obtain⟨_,E⟩:=V;refine .next rfl λg U=>?_;have hr:=X.iw U;have m:=hh.rely hr;obtain⟨p,u⟩:=vP (l':=g.β) q m.len;obtain⟨M,hgs⟩:=m.sub q u hp hn;have r:cg σ g vs (fI ks e):=y.mono hr.stepW.ext hh.len;have H:cg n {g with β:=p,own:=vU g p} vs e:=(r.sub (s:=g) q u Q).mono (σ:=n) (s:={g with β:=p}) (σ':=n) (s':={g with β:=p,own:=vU g p}) ⟨λ_ _ _ h=>h,λl B L hB hL=>⟨B,L,hB,hL,.refl _ _⟩⟩ M.len;refine⟨_,g,_,o0 ho hw hb (t g m).1,⟨⟨σ,σ,m,m,.refl _ _⟩,eY.seen (t g m).2⟩,.ghost hgs (E _ vs H M S _ λj fr v s2 hl F C mg=>?_)⟩;refine qb (cs:=cs) (c:=b.aT a (.inRegion ops (i::rest)::k)) C hl λs3 A=>?_;have J:=C.rely A;have O:=mg.trans A.stepW;obtain⟨s4,hw4,W,YE,Yr,hM4,Y,I⟩:=frame m q u hn (Z j) J O (R j) (F.mono A.stepW.ext C.len);refine .ghost (eu.back m J O hw4 hM4 Y I) ?_;have hf:=ki (b:=b) (a:=a) (k:=k) ops i rest v;rw[ho]at hf;simp only[n3]at hf;rw[hf];exact h j v s4 W YE (hr.stepW.trans Yr)
def dJ.cell(hT:cO P T){l t g:Nat}{E:aj}{v:ah}{i:TI}(hl:du l σ=aa (.b8 (dJ g E v)))(hi:bD T t=aa i)(F:cD v=ab)(q:kN i [.c (.val v)]=aa (.one (.c (.val v)))){s:St}(hh:aF σ s):
  (loadVar t ⟨g,0,ae⟩).run P s.w=.ok v s.w/\eY s ((loadVar t ⟨g,0,ae⟩).events P s.w #[]):=by
 have hB:=bZ hl;have h:l<s.β.length:=by rw[hh.len];grind
 have k:=br h;generalize s.β[l]=L at k;obtain⟨ch,⟨h1,h2,H⟩,A,G,I⟩:=hh.box l _ L hB k;have r:=A g _ h2;have y:g∈L.bs:=(G g).2 (by grind)
 have m:dX σ s [v] [.c (.val v)]:=⟨Rd.val F,ay⟩;obtain⟨u,f,a⟩:=iB (s:=s) (σ:=σ) (P:=P) (hT t i hi) (b:=g) (off:=0) (vs:=[v]) (cs:=[.c (.val v)]) (e:=.one (.c (.val v))) (λj w hj=>by
  simp only[aV,r]
  grind) m q
 have B:u=v:=Rd.dZ a;subst B;refine⟨f,λC p=>?_⟩;obtain⟨j,hj,rfl⟩:=ga (hT t i hi) (n:=1) (λj hj=>⟨u,by simp only[aV,r];grind⟩) (by have:=kO q;grind) C p;exact jI (bJ k) y
def OA.yG(hT:cO P T){t g:Nat}(l:Nat){x:ak}{E:aj}{v:ah}{i:TI}(p:qH all φ o=ab)(C:o.op=.load t x)(G:bM φ x=.e (.one (.c (.val (.pointer (aa ⟨g,0,ae⟩))))))(hl:du l σ=aa (.b8 (dJ g E v)))(hi:bD T t=aa i)(u:cD v=ab)(w:kN i [.c (.val v)]=aa (.one (.c (.val v)))):
  OA X N all o φ σ (.e (.one (.c (.val v)))) σ:=by
 intro s a f hh b k cs S q rest A B y;refine rh A B (fD p _ _ _ f) λr m=>?_;have j:=hh.rely m;have h:=cY f x;rw[G]at h;have h:=Rd.dZ (eT h);obtain⟨h1,h2⟩:=dJ.cell hT hl hi u w j;have e:aw a.eval o=(do pure (.value (<-loadVar t ⟨g,0,ae⟩))):=by simp[aw,C,h,Instr.loadAt,bo]
 refine⟨.value v,r,v,by rw[e];simp[h1],.inl rfl,⟨⟨σ,σ,j,j,.refl _ _⟩,?_⟩,y v r (Rd.val u) j m.stepW⟩;intro F n;rw[e]at n;exact h2 F (by simpa[h1]using n)
def F7(t:aj)(p:Addr)(a:String):Builtin.ssaWrapNilChk_ #[t] t #[.pointer (aa p),strVal "",strVal a]=pure (.pointer (aa p)):=rfl
def qJ(P:ar)(σ:List aP)(T:aj)(v:ah)(name:String)(f:aJ)(r:ah):Prop:=∀s,aF σ s->∀n,(Go.method (n+1) T v name).run P s.w=.ok (f,r) s.w/\eY s ((Go.method (n+1) T v name).events P s.w #[])
def qJ.ptr{a:aj}{name:String}{f:aJ}{i:TypeInfo}{m:Go.Method}{e:aj}{v:ah}(hi:P.info? a=aa i)(c:i.methods.find? (·.name==name)=aa m)(b:m.path=#[])(g:m.func=aa (f,ab))(h:P.underlying a=aa (.pointer e)):qJ P σ a v name f v:=by
 intro s hh n;have h1:∀w,(typeInfo a).run P w=.ok i w:=λw=>by simp[typeInfo,hi]
 have h2:∀w,(underlying a).run P w=.ok (.pointer e) w:=λw=>by simp[underlying,h]
 unfold Go.method;constructor
 .simp only[bL,h1,c,b,g,bU,follow,dq,receiverAt,h2];rfl
 .have:∀es,((do pure (f,<-receiverAt a (.val v) ab (if m.path.isEmpty then aa ((name.splitOn ".").getLastD name)else ae))):Sem (aJ×ah)).events P s.w es=es:=λes=>by simp[receiverAt,h2,Place.get]
  simp only[aM,bL,h1,c,b,g,bU,aO,follow,dq,Sem.events_pure,receiverAt,h2,events_typeInfo,events_underlying,Place.get];exact .nil
def qJ.deref(hT:cO P T){l g:Nat}{b:aj}{name:String}{f:aJ}{i:TypeInfo}{m:Go.Method}{t E:aj}{v:ah}{h:TI}(hi:P.info? b=aa i)(p:i.methods.find? (·.name==name)=aa m)(k:m.path=#[])(q:m.func=aa (f,af))(y:P.underlying b=aa (.pointer t))(hl:du l σ=aa (.b8 (dJ g E v)))(e:bD T t=aa h)(C:cD v=ab)(u:kN h [.c (.val v)]=aa (.one (.c (.val v)))):qJ P σ b (.pointer (aa ⟨g,0,ae⟩)) name f v:=by
 intro s hh n;have h1:∀w,(typeInfo b).run P w=.ok i w:=λw=>by simp[typeInfo,hi]
 have h2:∀w,(underlying b).run P w=.ok (.pointer t) w:=λw=>by simp[underlying,y]
 obtain⟨j,A⟩:=dJ.cell hT hl e C u hh;have r:m.path.isEmpty=ab:=by grind
 unfold Go.method;constructor
 .simp only[bL,h1,p,k,q,bU,follow,dq,receiverAt,h2,Place.get];simp[F7,asAddr,j]
 .intro B a;refine A B ?_;simp only[aM,bL,h1,p,k,q,bU,aO,follow,dq,Sem.events_pure,receiverAt,h2,events_typeInfo,events_underlying,Place.get]at a;simpa[F7,asAddr,j]using a
def pn{a:ak->ah}{x:ak}{b:Array ak}{e:Array aj}{name:String}(j:o.op=.call {callee:=.invoke x name,args:=b,argTypes:=e}){c:aj}{u:ah}(k:a x=.iface c u):
  aw a o=callMethod (.iface c u) name (b.toList.map a).toArray:=by
 have g:#[a x]++b.map a=(.iface c u::b.toList.map a).toArray:=by grind
 have f:(Value.iface c u::b.toList.map a).toArray.extract 1 (Value.iface c u::b.toList.map a).toArray.size=(b.toList.map a).toArray:=by grind
 have h:aw a o=invoke (.fn (.method name) #[]) (#[a x]++b.map a):=by simp only[aw,j];rfl
 rw[h,g];show callMethod (.iface c u) name ((Value.iface c u::b.toList.map a).toArray.extract 1 (Value.iface c u::b.toList.map a).toArray.size)=_;rw[f]
def AK.kD{ι:Type}{Tp:aj}{name:String}{f:aJ}{u r:ah}{g:List D}{B:List aP}{σ1:ι->List aP}{res:ι->D}(H:eb X f g B res σ1)(ks:List Nat)(hm:qJ P σ Tp u name f r)(Q:qH all φ o=ab){x:ak}{C:Array ak}{Y:Array aj}(ho:o.op=.call {callee:=.invoke x name,args:=C,argTypes:=Y})(hx:bM φ x=.e (.one (.c (.ifs Tp (.val u)))))(hr:cD r=ab)(A:mx (.e (.one (.c (.val r)))::C.toList.map (bM φ))=fI ks g)(L:ll ks.length g=ab)(R:jK ks σ=aa B)(hp:cq B=ab)(W:∀j,cq (σ1 j)=ab)(hn:dx ks=ab)(O:∀j,bu ks.length (σ1 j).length=ab)(hN:fR N o.dst=ab)(k:∀j,AK X N Qf (.ops all rest::K) .normal (km o.dst (hZ (ks++kL σ.length ((σ1 j).length-ks.length)) (res j)) φ) (dH ks (σ1 j) σ)):AK X N Qf (.ops all (o::rest)::K) .normal φ σ:=by
 intro s a J hh b kk css S idx hb jm hQ;cases idx with
 |nil=>exact jm.elim
 |cons i idx =>
 have G:=cY J x;rw[hx]at G;have G:=eT G;generalize hv:a.eval x=v at G;cases G with
 |@ifs _ u' _ h1 hc =>
  have hu:=Rd.dZ h1;subst hu;obtain⟨fn,F,Z,M⟩:=H.1;have l:fn.name≠ "runtime.NumGoroutine":=by grind
  have h:fn.body≠ae:=by grind
  obtain⟨n,E⟩:∃n,P.types.size+Made.depth=n+1:=⟨P.types.size+Made.depth-1,by unfold Made.depth;omega⟩
  have p:∀w,(program:Sem ar).run P w=.ok P w:=λw=>by simp[program,Sem.run]
  have I:∀w es,(program:Sem ar).events P w es=es:=λw es=>by simp[program,Sem.events,Sem.runT]
  have m:cg σ s (r::C.toList.map a.eval) (fI ks g):=by rw[<-A];exact pb (σ:=σ) (s:=s) ⟨Rd.val hr,lJ (cY J) C.toList⟩
  refine Hz (ks:=ks) hb jm.1 (fD Q _ _ _ J) hh (vs:=r::C.toList.map a.eval) (λs1 U=>?_) H m L R hp W hn (λj=>cV (O j)) λj v s' ml iY st=>?_
  .obtain⟨m1,m2⟩:=hm s1 U n;constructor
   .rw[pn ho hv];simp[callMethod,p,E,m1,callFunc,F,l,h]
   .intro ev y;refine m2 ev ?_;rw[pn ho hv]at y;simpa[callMethod,p,I,E,m1,callFunc,F,l,h]using y
  refine k j s' _ ?_ iY b kk css S idx hb jm.2 λV σ2 s2 a2 q d h2 mg=>hQ V σ2 s2 a2 q d h2 (st.trans mg);cases hd:o.dst with
  |none=>exact J.mono st hh.len
  |some t=>exact(J.mono st hh.len).put (gA hN t hd) ml
def bF.B6{b:ak->D}{x:ak}(h:o.op=.nilCheck x){p:Addr}(g:b x=.e (.one (.c (.val (.pointer (aa p)))))):bF P o b σ (.e (.one (.c (.val (.pointer (aa p)))))) σ:=by refine .quiet λs f hh hr=>?_;have h1:=hr x;rw[g]at h1;have a:=Rd.dZ (eT h1);exact⟨f x,by simp[aw,h,a],h1,by simp[aw,h,a]⟩
def bF.B7(hT:cO P T){η:ak->D}{t:aj}{x:ak}(h:o.op=.load t x){E:aj}{b cap off i f k n l:Nat}{es:Nat->List C}{xs:List ah}{H:TI}{e:E1}(hx:η x=.e (.one (.c (.val (.pointer (aa ⟨b,off,ae⟩))))))(Q3:off=i*k+f)(hl:σ[l]?=aa (.b8 (fQ E k (.row b cap) n xs)))(O:gi k n es xs)(hi:bD T t=aa H)(he:kN H ((fK f (es i)).map A.c)=aa e)(J:i<n):bF P o η σ (.e e) σ:=by
 refine .og λs ρ hh hr=>?_;have I:=hr x;rw[hx]at I;have I:=Rd.dZ (eT I);have y:l<s.β.length:=by rw[hh.len];grind
 have Q:=br y;generalize s.β[l]=L at Q;obtain⟨ch,hH,p,S,WW⟩:=hh.box l _ L hl Q;obtain⟨zs,WY,F,W⟩:=fQ.lookup hH;have U:b∈L.bs:=(S b).2 (by grind);have B:=p b _ F;let g:Nat->ah:=λj=>xs.getD (i*k+j) ai;have Y:∀j c,(fK f (es i))[j]?=aa c->xs[i*k+(f+j)]?=aa (g (f+j))/\Rd s.M (g (f+j)) c:=by intro j c hj;rw[l5,oX]at hj;obtain⟨v,v1,v2⟩:=O.at' i J (f+j) c hj;grind
 have R:=Ee (σ:=σ) (s:=s) (g:=g) (ds:=fK f (es i)) (m:=f) (λj c hj=>(Y j c hj).2);have a:∀(j:Nat) (v:ah),((bg (fK f (es i)).length).map λj=>g (f+j))[j]?=aa v->s.w.cell? ⟨b,off+j,ae⟩=aa v:=by
  intro j v hj;simp only[mV]at hj;by_cases G:j<(fK f (es i)).length
  .simp[G]at hj;subst hj;have h2:=(Y j _ (br G)).1;simp only[aV,B];grind
  grind
 obtain⟨v,q,V⟩:=iB (s:=s) (σ:=σ) (P:=P) (hT t H hi) (b:=b) (off:=off) (e:=e) a R he;have e1:aw ρ o=(do pure (.value (<-loadVar t ⟨b,off,ae⟩))):=by simp[aw,h,I,Instr.loadAt,bo]
 refine⟨v,by rw[e1];simp[q],V,λZ u=>?_⟩;rw[e1]at u;have r:Z∈(loadVar t ⟨b,off,ae⟩).events P s.w #[]:=by simpa[q]using u
 obtain⟨j,hj,rfl⟩:=ga (hT t H hi) (n:=(fK f (es i)).length) (λj hj=>⟨_,a j (g (f+j)) (by grind)⟩) (by have:=kO he;grind) Z r;exact jI (bJ Q) U
def bF.RP(hT:cO P T){j:ak->D}{t:aj}{x y:ak}(h:o.op=.slice t x ae (aa y) ae){i u:TI}{E:aj}(p:bD T t=aa i)(v:i.desc=.slice E)(A:bD T E=aa u){b n cap:Nat}{kd:IntKind}{m:Int}(B:j x=.e (.one (.c (.val (.slice (aa ⟨b,0,ae⟩) n cap)))))(H:j y=.e (.one (.c (.int kd m))))(k:n<=cap)(C:0<=m)(h1:m<=n):bF P o j σ (.e (.one (.c (.val (.slice (aa ⟨b,0,ae⟩) m.toNat cap))))) σ:=by
 refine .quiet λst ρ hh hr=>?_;have g:=hr x;rw[B]at g;have g:=Rd.dZ (eT g);have hl:rf j ae=aa ae:=rfl;have s:rf j (aa y)=aa (aa m):=by simp[rf,H]
 have r:az (fM n ae (aa m)):=⟨C,h1⟩;obtain⟨G,F,I⟩:=lX (P:=P) (isS:=ab) k (gu hr hl) (gu hr s) r st.w;have a:=(hT t i p).run_underlying (w:=st.w);rw[v]at a;have f:(bc ab n cap ae (aa (ρ y)) ae).run P st.w=.ok (0,m.toNat,cap) st.w:=G;have l:=nh (P:=P) (isS:=ab) k (gu hr hl) (gu hr s) r st.w;have q:∀es,(bc ab n cap ae (aa (ρ y)) ae).events P st.w es=es:=l;refine⟨_,?_,Rd.val rfl,?_⟩
 .simp[aw,h,g,Instr.sliceAt,a,Instr.slice,f,(hT E u A).run_sizeOf,dm]
 .simp[aw,h,g,Instr.sliceAt,a,Instr.slice,f,q]
def F8{s:St}:∀{vs:List ah}{cs:List C},vs.length=cs.length->∀f:Nat->ah,(∀j,j<vs.length->vs[j]?=aa (f j))->(∀(j:Nat)(c:C),cs[j]?=aa c->Rd s.M (f j) c)->dX σ s vs (cs.map A.c)
 |[],[],_,_,_,_=>trivial
 |[],_::_,a,_,_,_=>by grind
 |_::_,[],a,_,_,_=>by grind
 |v::vs,c::cs,a,f,g,b=>⟨by have:=g 0 (by simp);cases this;exact b 0 c rfl,F8 (by grind) (λj=>f (j+1)) (λj h=>by grind) λj e h=>b (j+1) e (by grind)⟩
def bF.Aj(hT:cO P T){q:ak->D}{x:ak}{l t:aj}(h:o.op=.typeAssert x l t af){i:TI}(hi:bD T t=aa i)(n:ph i.desc=af){cs:List C}(v:q x=.e (.one (.c (.FH t cs)))):bF P o q σ (.e (.agg (cs.map A.c))) σ:=by
 refine .quiet λs r hh hr=>?_;have h1:=hr x;rw[v]at h1;replace h1:=eT h1;generalize j:r x=vx at h1;have p:=(hT t i hi).run_underlying (w:=s.w);have b:∀m,i.desc≠.interface m:=by intro m e;rw[e]at n;cases n
 cases h1 with
 |@FH t' vs cs hl f u k =>
  have a:(Instr.typeAssert (.iface t (.agg vs.toArray)) l t af).run P s.w=.ok (.agg vs.toArray) s.w/\(Instr.typeAssert (.iface t (.agg vs.toArray)) l t af).events P s.w #[]=#[]:=by
   constructor
   .unfold Instr.typeAssert;simp only[bL,p,bU];cases g:i.desc<;>first|(exact absurd g (b _))|simp
   .unfold Instr.typeAssert;simp only[p,aM,aO,events_underlying];cases g:i.desc<;>first|(exact absurd g (b _))|simp
  exact⟨.agg vs.toArray,by simp only[aw,h,j,bL,a.1,bU,dq],⟨vs,rfl,F8 hl f u k⟩,by simp only[aw,h,j,aM,a.1,a.2,aO,Sem.events_pure]⟩
def AK.Kk(hT:cO P T)(l:Nat){t g:Nat}{x y:ak}{E:aj}{v u:ah}{i:TI}(h:o.op=.store t x y)(hi:bD T t=aa i)(G:i.size=1)(V:bM φ x=.e (.one (.c (.val (.pointer (aa ⟨g,0,ae⟩))))))(hy:bM φ y=.e (.one (.c (.val u))))(S:u.cells=#[u])(hcu:cD u=ab)(hl:du l σ=aa (.b8 (dJ g E v)))(Z:o.guard=ae)(hN:fR N o.dst=ab)(kk:AK X N Qf (.ops all rest::K) .normal (km o.dst .any φ) (σ.set l (.b8 (dJ g E u)))):AK X N Qf (.ops all (o::rest)::K) .normal φ σ:=by
 refine AK.hand (ι:=Unit) (λ_=>.any) (λ_=>σ.set l (.b8 (dJ g E u))) Z hN (λs a U hh=>?_) λ_=>kk;have I:=cY U x;rw[V]at I;have I:=Rd.dZ (eT I);have m:=cY U y;rw[hy]at m;have m:=Rd.dZ (eT m);have hl:=bZ hl;have B:l<s.β.length:=by rw[hh.len];grind
 have H:=br B;generalize s.β[l]=L at H;obtain⟨ch,⟨h1,h2,h3⟩,q,J,M⟩:=hh.box l _ L hl H;have r:g∈L.bs:=(J g).2 (by grind);have k:=q g _ h2;have F:∀w∈[u],w.oneCell'=ab:=λw hw=>by
  have:cD w=ab:=by grind
  exact this
 have O:=run_storeCells_at P g 0 E [u] 0 #[v] s.w k (by simp) F;have C:∀b,b≠g->(s.w.setRow g #[u]).heap[b]?=s.w.heap[b]?:=λb f=>setRow_other s.w g b _ f;have Q:=setRow_heap s.w g #[v] #[u] E (0,0) k;obtain⟨Y,W⟩:=hh.jw (l:=l) (H':=dJ g E u) (L':=L) (w':=s.w.setRow g #[u]) hl H rfl (by simp)
  (λb f hn=>C b (by grind)) (λb f=>.inl f)
  ⟨λb=>if b=g then aa (.cells #[u] E (0,0))else ae,⟨h1,by simp,λb f=>by grind⟩,λb o f=>by
   grind,λb=>by grind⟩ rfl rfl rfl
 have e1:aw a.eval o=(do storeVar t ⟨g,0,ae⟩ u;pure .skip):=by simp[aw,h,I,m,Instr.storeAt,bo]
 have n:(storeCells ⟨g,0,ae⟩ [u] 0).run P s.w=.ok () (s.w.setRow g #[u]):=O;refine⟨(),.skip,_,ai,?_,.inr ⟨rfl,rfl⟩,ay,Y,W,?_⟩
 .rw[e1];simp[storeVar,(hT t i hi).run_sizeOf,S,G,n]
 .intro R p;rw[e1]at p;have A:R∈(storeCells ⟨g,0,ae⟩ [u] 0).events P s.w #[]:=by simp only[storeVar,aM,(hT t i hi).run_sizeOf,G,S,aO,events_sizeOf,dr,fa,b7,bL,bU,Sem.events_pure]at p;simpa[n]using p
  rcases dE [u] 0 #[v] s.w #[] k (by simp) F R A with IN|⟨j,_,_,rfl⟩
  .grind
  .exact jF (bJ H) r (M g r _)
def AK.Kl(t l:Nat){E:aj}(y k:Nat){J:Nat}{es:Nat->List C}{c:Code}(S:look φ t=.e (.one (.ptr l 0)))(hl:du l σ=aa (.cells E [.c (.sl ab J 0 es)]))(kk:∀g a0,AK X N Qf (.code c::K) .normal ((t,.e (.one (.v (.pointer (aa ⟨g,0,ae⟩)))))::φ) (σ.set l (.b8 (dJ g E (k9 (.nil a0) 0)))++[.b8 (fQ y k (.nil a0) 0 [])])):AK X N Qf (.code c::K) .normal φ σ:=by
 refine AW.tb (ι:=Nat×Option Addr) (φ':=λq=>(t,.e (.one (.v (.pointer (aa ⟨q.1,0,ae⟩)))))::φ) (σ':=λq=>σ.set l (.b8 (dJ q.1 E (k9 (.nil q.2) 0)))++[aP.b8 (fQ y k (.nil q.2) 0 [])]) (λs a r hh=>?_) λ(q:Nat×Option Addr)=>kk q.1 q.2;have hl:=bZ hl;have m:l<s.β.length:=by rw[hh.len];grind
 have j:=br m;generalize s.β[l]=L at j;obtain⟨g,vs,rfl,Y,A,V⟩:=hh.box l _ L hl j
 match vs,A with
 |[v],⟨U,_⟩ =>
  obtain⟨a0,cap,R,rfl,_,_,F,_,_⟩:=(show Rd s.M v (.sl ab J 0 es)from U).flat;have p:cap=0:=F rfl;subst p;obtain⟨I,q2⟩:=hh.gz (M':=s.M) (w':=s.w) (B':=.b8 (dJ g E (k9 (.nil a0) 0))) (L':=⟨.pointer (aa ⟨g,0,ae⟩),[g]⟩) hl j rfl (bh _) (λ_ _ _=>rfl) (λ_ _ _ _=>rfl) (λ_ _ _ h=>h) hh.mem (λb f=>⟨.inl f,hh.lt _ (bJ j) b f⟩) rfl rfl rfl
   ⟨λb=>if b=g then aa (.cells #[.slice a0 0 0] E (0,0))else ae,⟨rfl,by simp[k9],λb f=>by grind⟩,λb o f=>by
    grind,λb=>by by_cases e:b=g<;>simp[e],λb f o=>by grind⟩
  obtain⟨O,Q⟩:=I.hO (B:=.b8 (fQ y k (.nil a0) 0 [])) (L:=⟨.nilFunc,[]⟩) (.refl _ _) rfl I ⟨λ_=>ae,⟨rfl,by simp,by simp,rfl,rfl⟩,by simp,by simp,by simp⟩ (by simp);have st:=q2.trans Q;refine⟨(g,a0),{s with β:=s.β.set l ⟨.pointer (aa ⟨g,0,ae⟩),[g]⟩++[⟨.nilFunc,[]⟩]},rfl,⟨r.size,r.defers.imp λ_ h1=>h1.mono st.ext,λu=>?_⟩,O,st⟩;simp only[look];cases f:aB t u with
  |false=>exact(r.slot u).mono st.ext hh.len
  |true =>
   have e:=bP f;subst e;have h1:=r.slot t;rw[S]at h1;obtain⟨_,W,Z,n,G,H⟩:=(h1:gn σ s _ (.ptr l 0));rw[j]at n;cases n;cases G;rw[H];exact Rd.val rfl
theorem OA.wJ{ι:Type}{x:D}{σ':List aP}(c:o.guard=ae)(h:dN P N o φ σ (λ_:ι=>x) λ_=>σ'):OA X N all o φ σ x σ':=λs a f hh b kk cs S i rest e hi hK=>mE.wJ c h s a f hh b kk cs S i rest e hi λ_=>hK
section
variable {x:Nat->D}{s2:Bool->Bool->List aP}{i z d:Nat}
abbrev wY(s2:Bool->Bool->List aP)(z d:Nat):(Nat->Bool)->List aP:=λD=>s2 (D z) (D d)
def dW.q2(h1:aB z i=af)(h2:aB d i=af)(h:∀a b,OA X N all o (jZ all φ x i) (s2 a b) (x i) (s2 a b)):dW X N all φ x (wY s2 z d) i o:=by
 intro D _ _;have e1:eh i D z=D z:=by simp only[eh,h1]
 have e2:eh i D d=D d:=by simp only[eh,h2]
 grind
def dW.U4{T:List (Nat×TI)}{CT:List (Nat×dt)}{obs:List Prop}(hT:cO P T)(hC:bE X CT)(h:∀a b,wm T CT [] all (jZ all φ x i) (s2 a b) o=aa (x i,ae,obs):=by intro a b;cases a<;>cases b<;>rfl)(h1:aB z i=af:=by rfl)(h2:aB d i=af:=by rfl)(c:az obs:=by simp only[az,aE];omega):dW X N all φ x (wY s2 z d) i o:=.q2 h1 h2 λa b=>OA.eval hT hC (h a b) c
def dW.Qe{T:List (Nat×TI)}{CT:List (Nat×dt)}(hT:cO P T)(hC:bE X CT)(h:∀a b,wm T CT [] all (jZ all φ x i) (s2 a b) o=aa (x i,ae,[]):=by intro a b;cases a<;>cases b<;>rfl)(h1:aB z i=af:=by rfl)(h2:aB d i=af:=by rfl):dW X N all φ x (wY s2 z d) i o:=.U4 (obs:=[]) hT hC h h1 h2 ay
def dW.fw(h1:aB z i=af)(h2:aB d i=af)(b:fN all z i=ab)(a:fN all d i=ab)(h:OA X N all o (jZ all φ x i) (s2 af af) (x i) (s2 af af)):dW X N all φ x (wY s2 z d) i o:=by
 intro D _ c;have e1:eh i D z=D z:=by simp only[eh,h1]
 have e2:eh i D d=D d:=by simp only[eh,h2]
 grind
def dW.sA(h2:aB d z=af)(a:fN all d z=ab)(h:OA X N all o (jZ all φ x z) (s2 af af) (x z) (s2 ab af)):dW X N all φ x (wY s2 z d) z o:=by
 intro D _ b;have e1:eh z D z=ab:=by simp only[eh,iR]
 have e2:eh z D d=D d:=by simp only[eh,h2]
 grind
def dW.sB(h1:aB z d=af)(a:fN all d z=ab)(h:OA X N all o (jZ all φ x d) (s2 ab af) (x d) (s2 ab ab)):dW X N all φ x (wY s2 z d) d o:=by
 intro D hT hF;have e1:eh d D z=D z:=by simp only[eh,h1]
 have e2:eh d D d=ab:=by simp only[eh,iR]
 grind
end
end
section
variable {P:ar}{X:Cx P}{N:Nat}{Qf:Post}{K:List It}{φ:Fr}{σ:List aP}{c:Code}
def pt{S:Type}{P:ar}(X:Cx P)(N:Nat)(Qf:Post)(K:List It)(I:S->Prop)(a:S->Fr)(st:S->List aP)(b:S->Nat)(d:Nat)(x:S):Post:=λe φ' σ'=>match e with
 |.normal=>∃y n,d<=n/\I y/\b y<b x/\oi φ' (a y)/\BY n (a y)=ab/\∃σ1 rest,σ'=σ1++rest/\σ1.length=n/\(r5 n σ1=ab/\lA rest=ab)/\D3 σ1 (st y)
 |e=>AK X N Qf K e φ' σ'
def AK.Qc{S:Type}(H:Nat)(I:S->Prop)(fr:S->Fr)(st:S->List aP)(u:S->Nat)(x:S){ps qs:List Prop}(k:nA φ (fr x)=aa ps)(hp:az ps)(w:oS σ (st x)=aa qs)(V:az qs)(hn:σ.length=H)(Q:I x)(round:∀x,I x->AK X N (pt X N Qf K I fr st u H x) [.code c] .normal (fr x) (st x)):AK X N Qf (.code (.loop c)::K) .normal φ σ:=by
 intro s a hf hh b kk cs SS hb hQ;have i:=gU w V;obtain⟨E,B,_⟩:=i s hh;refine ss (λm a' s'=>∃y,I y/\cm N (st y) s' (fr y) a'/\aF (st y) s'/\cR σ s (st y) s'/\u y=m) ?_ ?_ ⟨x,Q,(hf.le (cE k hp)).bs i hh,E,B.na hh,rfl⟩
 .rintro n a' s' ⟨y,p,r,f,d,e⟩;exact⟨st y,f,λs1 h1=>⟨y,p,r.rely h1 f,f.rely h1,d.trans h1.stepW,e⟩⟩
 rintro m a' s' ⟨y,p,r,f,d,rfl⟩ Y;refine round y p s' a' r f b (.inLoop c::kk) cs SS hb ?_;intro e U σ2 s2 a2 q G h2 mg;cases e with
 |normal =>
  obtain⟨z,nz,R,W,C,g,J,σ1,rest,rfl,M,⟨Z,l⟩,D⟩:=q;have F:=h2.drop (by grind);obtain⟨A,j,v⟩:=D _ F;have o:=G.le g;have T:eu s2 (s2.cut σ1.length):=⟨rfl,λ_ _ _ h=>h,λ_ _ _=>rfl,h2.mem,λb hb=>hb.imp id λ⟨L,O,hb⟩=>⟨L,fW O,hb⟩⟩
  refine .ghost T (Y a2 (s2.cut σ1.length) (u z) C ⟨z,W,⟨o.size,o.defers.imp λ_ h1=>(h1.drop l).mono j.ext,λt=>v _ _ ((o.slot t).drop (nB (by grind)))⟩,A,?_,rfl⟩);exact((d.trans mg).drop (by omega)).trans (j.na F)
 |_=>exact ends.cons (λ_ _=>rfl) (by simp) (hQ _ _ _ _ _ q G h2 (d.trans mg))
def AK.Ac{S:Type}{i:Nat}{I:S->Prop}{fr:S->Fr}{st:S->List aP}{h:S->Nat}{x:S}{j:List It}(n:Nat)(y:S){ps qs:List Prop}(k:i<=n)(f:nA φ (fr y)=aa ps)(o:az ps)(a:BY n (fr y)=ab)(b:wN n σ=ab)(d:oS (σ.take n) (st y)=aa qs)(l:az qs)(e:r5 n (σ.take n)=ab)(m:I y)(g:h y<h x):
  AK X N (pt X N Qf j I fr st h i x) [] .normal φ σ :=
 ⟨y,n,k,m,g,cE f o,a,σ.take n,σ.drop n,(lb n σ).symm,by grind[Nat.le_of_ble_eq_true,qk],⟨e,(qk b).2⟩,gU d l⟩
def AK.Ad{S:Type}{d:Nat}{I:S->Prop}{fr:S->Fr}{st:S->List aP}{b:S->Nat}{x:S}{id:Nat}{f a g:List It}(h1:jQ id f=ae)(h2:jQ id a=aa g)(k:AK X N Qf g .normal φ σ):
  AK X N (pt X N Qf a I fr st b d x) (.code (.exit id)::f) .normal φ σ :=
 AW.mono (AK.leave (A:=λφ' σ'=>pt X N Qf a I fr st b d x .normal φ' σ') h1 h2 k) λe φ' σ' q=>by
  have key:∀(K:List It) e,AK X N (λe φ' σ'=>match e with
    |.normal=>pt X N Qf a I fr st b d x .normal φ' σ'
    |e=>AK X N Qf a e φ' σ') K e φ' σ'->AK X N (pt X N Qf a I fr st b d x) K e φ' σ':=by
   have e:(λe φ' σ'=>match e with
    |.normal=>pt X N Qf a I fr st b d x .normal φ' σ'
    |e=>AK X N Qf a e φ' σ')=pt X N Qf a I fr st b d x:=by funext e φ' σ';cases e<;>rfl
   grind
  exact key _ _ q
end
def kp(φ:Fr)(ks:List Nat):Fr:=ks.map λk=>(k,look φ k)
section
variable {P:ar}{X:Cx P}{N:Nat}{Qf:Post}{K:List It}{φ:Fr}{σ:List aP}{c:Code}
def AK.sq{S:Type}(n:Nat)(ks:List Nat)(I:S->Prop)(fr:S->Fr)(st:S->List aP)(d:S->Nat)(x:S){ps qs:List Prop}(b:nA φ (kp φ ks++fr x)=aa ps)(h:az ps)(a:oS σ (st x)=aa qs)(g:az qs)(e:σ.length=n)(f:I x)(round:∀x,I x->AK X N (ln X N Qf K I (λx=>kp φ ks++fr x) st d n x) [.code c] .normal (kp φ ks++fr x) (st x)):AK X N Qf (.code (.loop c)::K) .normal φ σ :=
 .cz n I (λx=>kp φ ks++fr x) st d x b h a g e f round
end
inductive Tr where
 |nil
 |nd (l:Tr) (a b:Int) (r:Tr)
def nc(E:aj):Tr->ah->(Nat->Option Obj)->Prop
 |.nil,v,d=>v=.pointer ae/\∀b,d b=ae
 |.nd l a b r,v,d=>∃x f e cl cr,v=.pointer (aa ⟨x,0,ae⟩)/\(bA .i64 a/\bA .i64 b)/\nc E l f cl/\nc E r e cr/\d x=aa (.cells #[.int .i64 a,.int .i64 b,f,e] E (0,0))/\cl x=ae/\cr x=ae /\
   (∀y o,cl y=aa o->cr y=ae/\d y=aa o)/\(∀y o,cr y=aa o->d y=aa o)/\∀y o,d y=aa o->y=x∨cl y=aa o∨cr y=aa o
def nc.cell{E:aj}{t:Tr}{v:ah}{ch:Nat->Option Obj}(h:nc E t v ch):cD v=ab:=by
 cases t with
 |nil=>rw[h.1];rfl
 |nd=>obtain⟨_,_,_,_,_,rfl,_⟩:=h;rfl
section
variable {σ σ':List aP}{s s':St}
def aF.Gc{T:Nat->Prop}(hh:aF σ s)(j:s'.w=s.w)(m:s'.M=s.M)(p:s'.own=s.own)(i:s'.β.length=σ'.length)(u:σ.length<=σ'.length)(out:∀l,l<σ.length->¬T l->σ'[l]?=σ[l]?/\s'.β[l]?=s.β[l]?)(n:∀(l:Nat) (L':Loc),(T l∨σ.length<=l)->s'.β[l]?=aa L'->∀b∈L'.bs,∃(k:Nat) (L:Loc),T k/\s.β[k]?=aa L/\b∈L.bs)(eB:∀(l l':Nat) (L L':Loc),(T l∨σ.length<=l)->(T l'∨σ.length<=l')->s'.β[l]?=aa L->s'.β[l']?=aa L'->∀b∈L.bs,b∈L'.bs->l=l')(box:∀l B L,T l->σ[l]?=aa B->s.β[l]?=aa L->∃B' L',σ'[l]?=aa B'/\s'.β[l]?=aa L'/\gy B L B' L')(ok:Ext σ s σ' s'->∀l B L,(T l∨σ.length<=l)->σ'[l]?=aa B->s'.β[l]?=aa L->et σ' s' B L):aF σ' s'/\Step σ s σ' s':=by
 have hl:=hh.len;have q:∀(l:Nat) (B:aP) (L:Loc),σ[l]?=aa B->s.β[l]?=aa L->∃B' L',σ'[l]?=aa B'/\s'.β[l]?=aa L'/\gy B L B' L':=λl B L hB hL=>by
  by_cases h:T l
  .grind
  .obtain⟨h1,h2⟩:=out l (bY.1 hB).1 h;exact⟨B,L,h1.trans hB,h2.trans hL,.refl _ _⟩
 have ex:Ext σ s σ' s':=⟨λb o v h=>m▸h,q⟩
 have cls:∀(l:Nat) (L':Loc),s'.β[l]?=aa L'->(T l∨σ.length<=l)∨(l<σ.length/\¬T l/\s.β[l]?=aa L'):=λl L' h=>by grind
 have a:∀(l:Nat) (L':Loc),s'.β[l]?=aa L'->∀b∈L'.bs,∃(k:Nat) (L:Loc),s.β[k]?=aa L/\b∈L.bs:=λl L' h b d=>by grind
 have t:∀(l l':Nat) (L L':Loc),(T l∨σ.length<=l)->¬T l'->s'.β[l]?=aa L->s.β[l']?=aa L'->∀b∈L.bs,b∈L'.bs->False:=λl l' L L' h1 h2 hL fe b d f=>by obtain⟨k,K,g,q2,q3⟩:=n l L h1 hL b d;exact h2 (hh.eB k l' K L' q2 fe b q3 f▸g)
 refine⟨⟨λb o v h=>?_,i,λl B L hB hL=>?_,λl l' L L' hL fe b d f=>?_,λL hL b d=>?_,λb d=>?_⟩,⟨?_,?_,ex.mem,?_,λL' fe b d=>?_,q,?_,?_,?_,p⟩⟩
 .rw[m]at h;rw[j];exact hh.mem b o v h
 .rcases cls l L hL with h1|⟨h1,h2,r⟩
  .grind
  .rw[(out l h1 h2).1]at hB;exact(hh.box l B L hB r).carry ex hl λb _=>⟨by rw[j],λo=>by rw[m]⟩
 .rcases cls l L hL with h1|⟨_,h1,h2⟩<;>rcases cls l' L' fe with x|⟨_,x,y⟩
  .grind
  .grind
  .grind
  .exact hh.eB l l' L L' h2 y b d f
 .obtain⟨l,e,rfl⟩:=dL hL;obtain⟨k,K,g,q2⟩:=a l _ (br e) b d;rw[j];exact hh.lt K (bJ g) b q2
 .rw[p]at d;refine⟨j▸(hh.own b d).1,λL hL Nh=>?_⟩;obtain⟨l,e,rfl⟩:=dL hL;obtain⟨k,K,g,q2⟩:=a l _ (br e) b Nh;exact(hh.own b d).2 K (bJ g) q2
 .grind
 .grind
 .grind
 .obtain⟨l,e,rfl⟩:=dL fe;obtain⟨k,K,g,q2⟩:=a l _ (br e) b d;grind
 all_goals rw[j]
def aF.Kr(hh:aF σ s){l:Nat}{B B':aP}{L L':Loc}{Bs:List aP}{a:List Loc}(hB:σ[l]?=aa B)(q:s.β[l]?=aa L)(h:gy B L B' L')(d:a.length=Bs.length)(sub:∀M∈L'::a,∀b∈M.bs,b∈L.bs)(o:(L'::a).Pairwise λM N=>∀b∈M.bs,b∉N.bs)(ok:∀s':St,s'.w=s.w->s'.M=s.M->s'.β=s.β.set l L'++a->et (σ.set l B'++Bs) s' B' L'/\∀(i:Nat) (X:aP) (Y:Loc),Bs[i]?=aa X->a[i]?=aa Y->et (σ.set l B'++Bs) s' X Y):
  aF (σ.set l B'++Bs) {s with β:=s.β.set l L'++a}/\Step σ s (σ.set l B'++Bs) {s with β:=s.β.set l L'++a}:=by
 have hl:=hh.len;have e:l<σ.length:=(bY.1 hB).1;have f:=jk.1 o;have at':∀(k:Nat) (K:Loc),(k=l∨σ.length<=k)->(s.β.set l L'++a)[k]?=aa K->(k=l/\K=L')∨(σ.length<=k/\a[k-σ.length]?=aa K):=λk K hk hK=>by grind
 refine aF.Gc (T:=λk=>k=l) hh rfl rfl rfl (by grind) (by simp) (λk hk hkl=>?_) (λk K hk hK y g=>?_) (λk k' K p hk Um hK YJ y g j=>?_) (λk X K hk hX hK=>?_) (λex k X K hk hX hK=>?_)
 .grind
 .grind
 .rcases at' k K hk hK with⟨h1,rfl⟩|⟨h1,h2⟩<;>rcases at' k' p Um YJ with⟨m,rfl⟩|⟨m,n⟩
  .omega
  .grind
  .grind
  .obtain⟨a1,a2⟩:=bY.1 h2;obtain⟨c1,c2⟩:=bY.1 n;grind[List.pairwise_iff_getElem]
 .grind
 grind
def yI:Tr->Nat->A
 |.nil,_=>.c .hY
 |.nd ..,n=>.ref n
def vu(E:aj):Tr->List aP
 |.nil=>[]
 |.nd l a b r=>[.b8 (nc E (.nd l a b r))]
def IY(bs:List Nat):Tr->ah->(Nat->Option Obj)->List Loc
 |.nil,_,_=>[]
 |.nd ..,v,c=>[⟨v,bs.filter λy=>(c y).isSome⟩]
def Bi:Tr->Nat->List aP->List aP
 |.nil,_,σ=>σ
 |.nd ..,i,σ=>σ.set i .dead
def aF.Ks(hh:aF σ s){E:aj}{l:Nat}{lt rt:Tr}{a b:Int}(hB:σ[l]?=aa (.b8 (nc E (.nd lt a b rt)))):
  ∃s',s'.w=s.w/\(∃x L,s.β[l]?=aa L/\L.v=.pointer (aa ⟨x,0,ae⟩)/\s'.β[l]?=aa ⟨L.v,[x]⟩)/\aF (σ.set l (.cells E [.c (.int .i64 a),.c (.int .i64 b),yI lt σ.length,yI rt (σ.length+(vu E lt).length)])++(vu E lt++vu E rt)) s' /\
   Step σ s (σ.set l (.cells E [.c (.int .i64 a),.c (.int .i64 b),yI lt σ.length,yI rt (σ.length+(vu E lt).length)])++(vu E lt++vu E rt)) s':=by
 have u:l<σ.length:=(bY.1 hB).1;have n:l<s.β.length:=by rw[hh.len];grind
 have q:=br n;generalize s.β[l]=L at q;obtain⟨ch,⟨x,m,j,cl,g,e1,⟨J,A⟩,h1,h2,S,U,T,F,Z,h8⟩,R,f,V⟩:=hh.box l _ L hB q;have z:=hh.len;have G:x∈L.bs:=(f x).2 (by grind);refine⟨{s with β:=s.β.set l ⟨.pointer (aa ⟨x,0,ae⟩),[x]⟩++(IY L.bs lt m cl++IY L.bs rt j g)},rfl,⟨x,L,q,e1,?_⟩,hh.Kr hB q (show _=_ from e1.symm) ?_ ?_ ?_ λs' hw d e=>?_⟩
 .grind
 .cases lt<;>cases rt<;>rfl
 .intro M d y p;rcases eE.1 d with rfl|d
  .grind
  .rcases fY.1 d with d|d
   .cases lt with
    |nil=>cases d
    |nd=>rw[IY,fX]at d;grind
   .cases rt with
    |nil=>cases d
    |nd=>rw[IY,fX]at d;grind
 .refine jk.2 ⟨λM d y p C=>?_,?_⟩
  .rw[fX]at p;subst p;rcases fY.1 d with d|d
   .cases lt with
    |nil=>cases d
    |nd=>rw[IY,fX]at d;grind
   .cases rt with
    |nil=>cases d
    |nd=>rw[IY,fX]at d;grind
  .cases lt<;>cases rt<;>simp only[IY,mn,iQ,rM,jk,List.Pairwise.nil,fX,forall_eq,n7,false_implies,implies_true,aE]
   grind[Option.isSome_iff_exists]
 .have H:∀y o,cl y=aa o->ch y=aa o:=λy o h=>(F y o h).2;have W:et (σ.set l (.cells E [.c (.int .i64 a),.c (.int .i64 b),yI lt σ.length,yI rt (σ.length+(vu E lt).length)])++(vu E lt++vu E rt)) s' (.b8 (nc E lt)) ⟨m,L.bs.filter λy=>(cl y).isSome⟩ :=
   ⟨cl,h1,λy o h=>by grind,λy=>⟨λh=>(lf.1 h).2,λh=>lf.2 ⟨(f y).2 (by grind[Option.isSome_iff_exists]),h⟩⟩,λy p o=>by rw[d];grind⟩
  have b2:et (σ.set l (.cells E [.c (.int .i64 a),.c (.int .i64 b),yI lt σ.length,yI rt (σ.length+(vu E lt).length)])++(vu E lt++vu E rt)) s' (.b8 (nc E rt)) ⟨j,L.bs.filter λy=>(g y).isSome⟩ :=
   ⟨g,h2,λy o h=>by grind,λy=>⟨λh=>(lf.1 h).2,λh=>lf.2 ⟨(f y).2 (by grind[Option.isSome_iff_exists]),h⟩⟩,λy p o=>by rw[d];grind⟩
  have c1:=h1.cell;have c2:=h2.cell;have O:s'.w.heap[x]?=aa (.cells (List.toArray [.int .i64 a,.int .i64 b,m,j]) E (0,0)):=by grind
  have Q:∀o,s'.M x o=ae:=λo=>by rw[d];grind
  have r:∀k,(s.β.set l ⟨.pointer (aa ⟨x,0,ae⟩),[x]⟩++(IY L.bs lt m cl++IY L.bs rt j g))[σ.length+k]?=(IY L.bs lt m cl++IY L.bs rt j g)[k]?:=λk=>by grind
  have e2:∀k,(σ.set l (.cells E [.c (.int .i64 a),.c (.int .i64 b),yI lt σ.length,yI rt (σ.length+(vu E lt).length)])++(vu E lt++vu E rt))[σ.length+k]?=(vu E lt++vu E rt)[k]?:=λk=>by grind
  refine⟨⟨x,_,rfl,O,⟨Rd.int J,Rd.int A,?_,?_,ay⟩,Q⟩,?_⟩
  .cases lt with
   |nil=>rw[h1.1];exact Rd.hY
   |nd=>exact⟨λB hB=>by have D:=(e2 0).symm.trans hB;cases D;rfl,_,by rw[e];exact r 0,rfl,c1⟩
  .cases rt with
   |nil=>rw[h2.1];exact Rd.hY
   |nd =>
    cases lt with
    |nil=>exact⟨λB hB=>by rw[e2]at hB;cases hB;rfl,_,by rw[e];exact r 0,rfl,c2⟩
    |nd=>exact⟨λB hB=>by rw[e2]at hB;cases hB;rfl,_,by rw[e];exact r 1,rfl,c2⟩
  .intro i X Y t I;cases lt<;>cases rt<;>simp only[vu,IY,mn,iQ,rM,List.getElem?_nil]at t I
   .cases t
   .grind
   .grind
   grind
def yJ(f:aF σ s){E:aj}{t:Tr}{i:Nat}{v:ah}(r:gn σ s v (yI t i))(hi:t≠.nil->σ[i]?=aa (.b8 (nc E t))):
  ∃c bs,nc E t v c/\(∀y o,c y=aa o->s.w.heap[y]?=aa o)/\(∀y,y∈bs↔(c y).isSome=ab)/\(∀y∈bs,∀o,s.M y o=ae)/\(match t with|.nil=>bs=[]|.nd ..=>s.β[i]?=aa ⟨v,bs⟩):=by
 cases t with
 |nil =>
  have r:Rd s.M v .hY:=r;cases r;exact⟨λ_=>ae,[],⟨rfl,λ_=>rfl⟩,by simp,by simp,by simp,rfl⟩
 |nd =>
  obtain⟨_,L,a,rfl,_⟩:=r;obtain⟨c,e,b,q2,d⟩:=f.box i _ L (hi nofun) a;exact⟨c,L.bs,e,b,q2,d,a⟩
def RZ:Tr->Nat->ah->List Loc->List Loc
 |.nil,_,_,a=>a
 |.nd ..,i,v,a=>a.set i ⟨v,[]⟩
def aF.jq(hh:aF σ s){E:aj}{l i j:Nat}{lt rt:Tr}{a b:Int}(hB:σ[l]?=aa (.cells E [.c (.int .i64 a),.c (.int .i64 b),yI lt i,yI rt j]))(hi:lt≠.nil->σ[i]?=aa (.b8 (nc E lt)))(hj:rt≠.nil->σ[j]?=aa (.b8 (nc E rt)))(G:lt≠.nil->rt≠.nil->i≠j):
  ∃s',s'.w=s.w/\(∃L,s.β[l]?=aa L/\∃L',s'.β[l]?=aa L'/\L'.v=L.v)/\aF (Bi rt j (Bi lt i (σ.set l (.b8 (nc E (.nd lt a b rt)))))) s'/\Step σ s (Bi rt j (Bi lt i (σ.set l (.b8 (nc E (.nd lt a b rt)))))) s':=by
 have O:l<σ.length:=(bY.1 hB).1;have Q:=hh.len;have A:l<s.β.length:=by omega
 have u:=br A;generalize s.β[l]=L at u;obtain⟨x,vs,rfl,h1,h2,h3⟩:=hh.box l _ L hB u
 match vs,h2 with
 |[W,V,q,p],⟨F,J,U,S,_⟩ =>
 obtain⟨cl,f,a1,a2,a3,a4,a5⟩:=yJ hh U hi;obtain⟨r,g,d1,d2,d3,d4,d5⟩:=yJ hh S hj;have F:Rd s.M W (.int .i64 a):=F;have J:Rd s.M V (.int .i64 b):=J;cases F with|int ra =>
 cases J with|int rb =>
 have xl:x∉f:=λh=>by
  cases lt with
  |nil=>grind
  |nd=>have:=hh.eB l i _ _ u a5 x (by simp) h;grind
 have xr:x∉g:=λh=>by
  cases rt with
  |nil=>grind
  |nd=>have:=hh.eB l j _ _ u d5 x (by simp) h;grind
 have lr:∀y∈f,y∉g:=λy h R=>by
  cases lt with
  |nil=>grind
  |nd =>
   cases rt with
   |nil=>grind
   |nd=>exact G nofun nofun (hh.eB i j _ _ a5 d5 y h R)
 have z:cl x=ae:=by cases h:cl x with|none=>rfl|some o=>grind
 have D:r x=ae:=by cases h:r x with|none=>rfl|some o=>grind
 have I:∀y o,cl y=aa o->r y=ae:=λy o h=>by
  cases h2:r y with
  |none=>rfl
  |some o2=>grind
 have ok:∀(σ':List aP) (s':St),s'.w=s.w->s'.M=s.M->et σ' s' (.b8 (nc E (.nd lt a b rt))) ⟨.pointer (aa ⟨x,0,ae⟩),x::(f++g)⟩:=λσ' s' hw Y=>by
  refine⟨λy=>if y=x then aa (.cells #[.int .i64 a,.int .i64 b,q,p] E (0,0))else(cl y).or (r y),⟨x,q,p,cl,r,rfl,⟨ra,rb⟩,a1,d1,bl rfl,z,D,λy o h=>⟨I y o h,?_⟩,λy o h=>?_,λy o h=>?_⟩,λy o h=>?_,λy=>?_,λy m o=>?_⟩
  .grind
  .have:y≠x:=by grind
   dsimp only;rw[aZ this,h];cases h2:cl y with
   |none=>rfl
   |some o2=>grind
  .by_cases e:y=x
   .grind
   .dsimp only at h;rw[aZ e]at h;cases h2:cl y with
    |none=>grind
    |some o2=>grind
  .rw[hw];by_cases e:y=x
   .grind
   .dsimp only at h;rw[aZ e]at h;cases h2:cl y with
    |none=>grind
    |some o2=>grind
  .grind
  .rw[Y];grind
 refine⟨{s with β:=RZ rt j p (RZ lt i q (s.β.set l ⟨.pointer (aa ⟨x,0,ae⟩),x::(f++g)⟩))},rfl,?_⟩
 classical
 have il:lt≠.nil->i<σ.length/\i≠l:=λh=>⟨(bY.1 (hi h)).1,λe=>by grind⟩
 have jl:rt≠.nil->j<σ.length/\j≠l:=λh=>⟨(bY.1 (hj h)).1,λe=>by grind⟩
 have n:s.β[l]?=aa ⟨.pointer (aa ⟨x,0,ae⟩),[x]⟩:=u;let T:Nat->Prop:=λk=>k=l∨(lt≠.nil/\k=i)∨(rt≠.nil/\k=j);have C:∀k,(Bi rt j (Bi lt i (σ.set l (.b8 (nc E (.nd lt a b rt))))))[k]?=if k=l then aa (.b8 (nc E (.nd lt a b rt)))else if(lt≠.nil/\k=i)∨(rt≠.nil/\k=j)then aa .dead else σ[k]?:=λk=>by cases lt<;>cases rt<;>simp only[Bi,List.getElem?_set,List.length_set]<;>grind
 have d:∀k,(RZ rt j p (RZ lt i q (s.β.set l ⟨.pointer (aa ⟨x,0,ae⟩),x::(f++g)⟩)))[k]?=if k=l then aa ⟨.pointer (aa ⟨x,0,ae⟩),x::(f++g)⟩else if rt≠.nil/\k=j then aa ⟨p,[]⟩else if lt≠.nil/\k=i then aa ⟨q,[]⟩else s.β[k]?:=λk=>by cases lt<;>cases rt<;>simp only[RZ,List.getElem?_set,List.length_set]<;>grind
 have mY:∀(t:Tr) (i:Nat) (l:List aP),(Bi t i l).length=l.length:=λt i l=>by cases t<;>simp[Bi]
 have w6:∀(t:Tr) (i:Nat) (v:ah) (l:List Loc),(RZ t i v l).length=l.length:=λt i v l=>by cases t<;>simp[RZ]
 have eL:∀y∈f,lt≠.nil/\s.β[i]?=aa ⟨q,f⟩:=λy m=>by grind
 have eR:∀y∈g,rt≠.nil/\s.β[j]?=aa ⟨p,g⟩:=λy m=>by grind
 refine⟨⟨_,n,_,(d l).trans (bl rfl),rfl⟩,aF.Gc (T:=T) hh rfl rfl rfl (by grind) (by grind) (λk hk hT=>?_) (λk K hk hK y m=>?_) (λk k' K K' hk Um hK YJ y m Z=>?_) (λk B K hk j1 hK=>?_) (λ_ k B K hk j1 hK=>?_)⟩
 .grind
 .rw[d]at hK;split at hK
  .cases hK;rcases eE.1 m with rfl|m
   .grind
   .rcases fY.1 m with m|m
    .grind
    grind
  .have:k<s.β.length∨s.β.length<=k:=cC _ _;grind
 .rw[d]at hK YJ;grind
 .rw[C,d];rcases hk with rfl|⟨h,rfl⟩|⟨h,rfl⟩
  .rw[n]at hK;cases hK;rw[hB]at j1;cases j1;exact⟨_,_,bl rfl,bl rfl,rfl⟩
  .have H:s.β[k]?=aa ⟨q,f⟩:=by grind
   rw[hi h]at j1;rw[H]at hK;cases j1;cases hK;grind[gy]
  .have H:s.β[k]?=aa ⟨p,g⟩:=by grind
   rw[hj h]at j1;rw[H]at hK;cases j1;cases hK;grind[gy]
 .rw[C]at j1;rw[d]at hK;split at j1
  .grind
  .split at j1
   .cases j1;trivial
   grind
def tC:Tr->C
 |.nil=>.hY
 |.nd l a b r=>.rp [.int .i64 a,.int .i64 b,tC l,tC r]
def nc.rd{E:aj}{M:Mem}:∀{t:Tr}{v:ah}{ch:Nat->Option Obj},nc E t v ch->(∀y vs E' z,ch y=aa (.cells vs E' z)->∀o u,vs[o]?=aa u->M y o=aa u)->Rd M v (tC t)
 |.nil,_,_,h,_=>by rw[h.1];exact .hY
 |.nd l a b r,_,ch,⟨x,p,i,cl,q,e,⟨n,f⟩,h1,h2,k,_,_,m,g,_⟩,d=>by
  subst e;have w:=h1.rd (M:=M) λy vs E' z h=>d y vs E' z (m y _ h).2;have A:=h2.rd (M:=M) λy vs E' z h=>d y vs E' z (g y _ h);have B:=d x _ _ _ k;refine Rd.rp x 0 (λj=>[Value.int .i64 a,.int .i64 b,p,i].getD j ai) (λj c hj=>?_) (λj c hj=>?_)
  .match j,hj with
   |0,_|1,_|2,_|3,_=>grind
  .match j,hj with
   |0,hj=>cases hj;exact Rd.int n
   |1,hj=>cases hj;exact Rd.int f
   |2,hj=>grind
   |3,hj=>grind
def aF.Ak(hh:aF σ s){E:aj}{l:Nat}{t:Tr}(hB:σ[l]?=aa (.b8 (nc E t))):
  ∃s',s'.w=s.w/\s'.β=s.β/\(∀L,s.β[l]?=aa L->Rd s'.M L.v (tC t))/\aF (σ.set l .dead) s'/\Step σ s (σ.set l .dead) s':=by
 have m:l<σ.length:=(bY.1 hB).1;have i:=hh.len;have j:=br (show l<s.β.length by omega);generalize s.β[l]=L at j;obtain⟨ch,r,h1,h2,C⟩:=hh.box l _ L hB j;let M':Mem:=λy o=>match ch y with|some (.cells vs _ _)=>vs[o]?|_=>s.M y o
 have f:∀y,y∉L.bs->∀o,M' y o=s.M y o:=λy g o=>by grind
 have n:∀y o v,s.M y o=aa v->M' y o=aa v:=λy o v d=>by grind
 have st:Step σ s (σ.set l .dead) {s with M:=M'}:=by
  refine⟨bh _,λ_ _ _=>rfl,n,λy _ x o=>f y (x L (bJ j)) o,λK b y g=>.inr ⟨K,b,g⟩,λk B K a b=>?_,rfl,rfl,rfl,rfl⟩;by_cases e:l=k
  .subst e;rw[hB]at a;cases a;exact⟨.dead,K,by grind,b,rfl⟩
  .exact⟨B,K,by grind,b,.refl _ _⟩
 refine⟨{s with M:=M'},rfl,rfl,λK b=>?_,⟨λy o v d=>?_,by grind,λk B K a b=>?_,hh.eB,hh.lt,hh.own⟩,st⟩
 .rw[j]at b;cases b;exact r.rd λy vs E' z g o u D=>by grind
 .by_cases g:y∈L.bs
  .have d:M' y o=aa v:=d;cases p:ch y with
   |none=>grind
   |some q =>
    have A:=h1 y q p;simp only[M',p]at d;split at d
    .rename_i vs E' z e;cases e;show s.w.cell? _=_;simp[aV,A,d]
    grind
  .exact hh.mem y o v ((f y g o).symm.trans d)
 .by_cases e:l=k
  .subst e;rw[fV m]at a;cases a;trivial
  .rw[j7 e]at a;exact(hh.box k B K a b).carry st.ext i λy g=>⟨rfl,λo=>f y (λh=>e (hh.eB l k L K j b y h g)) o⟩
end
section
variable {P:ar}{X:Cx P}{N:Nat}{φ:Fr}{σ:List aP}{Qf:Post}{K:List It}{c:Code}
def cm.R0{σ':List aP}{s s':St}{a:Act}{t:Nat}{d:D}(f:cm N σ s φ a)(hl:s.β.length=σ.length)(st:Step σ s σ' s')(h:dk σ' s' (a.tmps.getD t ai) d):cm N σ' s' ((t,d)::φ) a :=
 ⟨f.size,f.defers.imp λ_ h1=>h1.mono st.ext,λu=>by
  simp only[look];cases b:aB t u with
  |false=>exact(f.slot u).mono st.ext hl
  |true=>grind[Nat.eq_of_beq_eq_true]⟩
def AK.Ks(t l:Nat){E:aj}{lt rt:Tr}{a b:Int}(n:look φ t=.e (.one (.ref l)))(hl:du l σ=aa (.b8 (nc E (.nd lt a b rt))))(kk:AK X N Qf (.code c::K) .normal ((t,.e (.one (.ptr l 0)))::φ) (σ.set l (.cells E [.c (.int .i64 a),.c (.int .i64 b),yI lt σ.length,yI rt (σ.length+(vu E lt).length)])++(vu E lt++vu E rt))):AK X N Qf (.code c::K) .normal φ σ:=by refine AK.ghost (λs q h hh=>?_) kk;have i:=h.slot t;rw[n]at i;obtain⟨_,L,m,j,_⟩:=i;obtain⟨s',h1,⟨x,p,h2,f,k⟩,o,g⟩:=hh.Ks (bZ hl);rw[m]at h2;cases h2;have d:l<σ.length:=(bY.1 (bZ hl)).1;refine⟨s',h1,h.R0 hh.len g ⟨λB hB=>?_,_,x,k,f,j.trans f⟩,o,g⟩;rw[jz (by grind),fV d]at hB;cases hB;rfl
def AK.jq(t l i j:Nat){E:aj}{lt rt:Tr}{a b:Int}(y:look φ t=.e (.one (.ptr l 0)))(hl:du l σ=aa (.cells E [.c (.int .i64 a),.c (.int .i64 b),yI lt i,yI rt j]))(hi:lt≠.nil->du i σ=aa (.b8 (nc E lt)))(hj:rt≠.nil->du j σ=aa (.b8 (nc E rt)))(g:lt≠.nil->rt≠.nil->i≠j)(kk:AK X N Qf (.code c::K) .normal ((t,.e (.one (.ref l)))::φ) (Bi rt j (Bi lt i (σ.set l (.b8 (nc E (.nd lt a b rt))))))):AK X N Qf (.code c::K) .normal φ σ:=by
 refine AK.ghost (λs q o hh=>?_) kk;have n:=o.slot t;rw[y]at n;obtain⟨_,L,x,v,A,r⟩:=n;obtain⟨s',h1,⟨F,h2,L',p,D⟩,z,m⟩:=hh.jq (bZ hl) (λh=>bZ (hi h)) (λh=>bZ (hj h)) g;rw[v]at h2;cases h2;have f:l<σ.length:=(bY.1 (bZ hl)).1;have e:(Bi rt j (Bi lt i (σ.set l (.b8 (nc E (.nd lt a b rt))))))[l]?=aa (.b8 (nc E (.nd lt a b rt)))∨(Bi rt j (Bi lt i (σ.set l (.b8 (nc E (.nd lt a b rt))))))[l]?=aa .dead:=by
  have w:(σ.set l (.b8 (nc E (.nd lt a b rt))))[l]?=aa (.b8 (nc E (.nd lt a b rt))):=fV f;have C:∀(u:Tr) (k:Nat) (d:List aP),d[l]?=aa (.b8 (nc E (.nd lt a b rt)))∨d[l]?=aa .dead->(Bi u k d)[l]?=aa (.b8 (nc E (.nd lt a b rt)))∨(Bi u k d)[l]?=aa .dead:=λu k d h=>by
   cases u with
   |nil=>exact h
   |nd=>simp only[Bi,List.getElem?_set];grind
  grind
 refine⟨s',h1,o.R0 hh.len m ⟨λB hB=>?_,L',p,?_,?_⟩,z,m⟩
 .rcases e with e|e<;>(rw[e]at hB;cases hB;rfl)
 .grind
 .rw[r];rfl
def AK.Ak(t l:Nat){E:aj}{u:Tr}(j:look φ t=.e (.one (.ref l)))(hl:du l σ=aa (.b8 (nc E u)))(kk:AK X N Qf (.code c::K) .normal ((t,.e (.one (.c (tC u))))::φ) (dH.qB l .dead σ)):AK X N Qf (.code c::K) .normal φ σ:=by rw[jd]at kk;refine AK.ghost (λs q a hh=>?_) kk;have b:=a.slot t;rw[j]at b;obtain⟨_,L,i,f,_⟩:=b;obtain⟨s',h1,_,g,h,d⟩:=hh.Ak (bZ hl);exact⟨s',h1,a.R0 hh.len d (show Rd _ _ _ from f▸g L i),h,d⟩
end
section
variable {P:ar}{X:Cx P}
def Yields.tp{ι:Type}{e:Nat}{ds:List D}{σ:List aP}{res:Bool}{σ1 rest:ι->List aP}(h:Yields X e ds σ res λi=>σ1 i++rest i)(hl:∀i,(σ1 i).length=σ.length)(m:∀i (l:Nat)(B:aP),(σ1 i)[l]?=aa B->DN (σ1 i).length σ l B):Yields X e ds σ res σ1:=by
 intro s vs l f hh Dq;obtain⟨fn,tmps,a,b,h1,h2,g⟩:=h s vs l f hh Dq;refine⟨fn,tmps,a,b,h1,h2,λS c cs hS=>g S c cs λi s' iY st=>?_⟩;have k:eu s' (s'.cut (σ1 i).length):=⟨rfl,λ_ _ _ h=>h,λ_ _ _=>rfl,iY.mem,λb d=>d.imp id λ⟨L,j,d⟩=>⟨L,fW j,d⟩⟩
 exact .ghost k (hS i _ (hh.PV (hl i).symm (m i) iY) (st.drop (Nat.le_of_eq (hl i).symm)))
end
section
variable {P:ar}{X:Cx P}{N:Nat}{φ:Fr}{σ:List aP}{Qf:Post}{K:List It}{all rest:List au}
def AK.vp(t l:Nat){E:aj}{cs:List A}{cc:List C}(b:look φ t=.e (.one (.ptr l 0)))(hl:du l σ=aa (.cells E cs))(a:gC cs=aa cc)(kk:AK X N Qf (.ops all rest::K) .normal ((t,.e (.one (.c (.rp cc))))::φ) (dH.qB l .dead σ)):AK X N Qf (.ops all rest::K) .normal φ σ:=by grind[jd,AK.J6,cm.freeze]
def oi.cons{φ φ':Fr}{t:Nat}{d:D}(h:look φ t=d)(r:oi φ φ'):oi φ ((t,d)::φ'):=by
 intro σ s v u a;simp only[look];cases b:aB t u with
 |false=>exact r _ _ _ _ a
 |true =>
  grind[Nat.eq_of_beq_eq_true]
end
section
variable {P:ar}{T:List (Nat×TI)}{o:au}{d:ak->D}{σ:List aP}
def bF.Ob(hT:cO P T){t:aj}{x w y z:ak}(h:o.op=.slice t x (aa w) (aa y) (aa z)){K B:TI}{E:aj}(J:bD T t=aa K)(S:K.desc=.slice E)(U:bD T E=aa B){tt:Bool}{n:Nat}{es:Nat->List C}{A u p:IntKind}{i j m:Int}(W:∀s v,dk σ s v (d x)->Rd s.M v (.sl tt B.size n es))(hw:d w=.e (.one (.c (.int A i))))(hy:d y=.e (.one (.c (.int u j))))(Y:d z=.e (.one (.c (.int p m))))(N:0<=i)(V:i<=j)(h1:j<=m)(h2:m<=n):
  bF P o d σ (.e (.one (.c (.sl af B.size (j.toNat-i.toNat) (lZ i.toNat es))))) σ:=by
 refine .quiet λst ρ hh hr=>?_;have r:=W st _ (hr x);have get:∀(q:ak) (k:IntKind) (v:Int),d q=.e (.one (.c (.int k v)))->ρ q=.int k v:=λq k v I=>by have l:=hr q;rw[I]at l;replace l:=eT l;generalize ρ q=vq at l;cases l;rfl
 have G:=get w A i hw;have F:=get y u j hy;have H:=get z p m Y;obtain⟨a,cap,vs,L,O,X,ht,hF,hm⟩:=r.flat;rw[L]at r;have g:=(hT t K J).run_underlying (w:=st.w);rw[S]at g;have em:((m.toNat:Nat):Int)=m:=rI (by omega);have ej:((j.toNat:Nat):Int)=j:=rI (by omega);have Q:(bc ab n cap (aa (.int A i)) (aa (.int u j)) (aa (.int p m))).run P st.w=.ok (i.toNat,j.toNat,m.toNat) st.w:=by simp[bc,run_sliceBound (P:=P) st.w p m cap _ (by omega) (by omega),run_sliceBound (P:=P) st.w u j m.toNat _ (by omega) (by omega),run_sliceBound (P:=P) st.w A i j.toNat _ N (by omega)]
 have Z:(bc ab n cap (aa (.int A i)) (aa (.int u j)) (aa (.int p m))).events P st.w #[]=#[]:=by simp[bc,run_sliceBound (P:=P) st.w p m cap _ (by omega) (by omega),run_sliceBound (P:=P) st.w u j m.toNat _ (by omega) (by omega),dF (P:=P) st.w p m cap _ (by omega) (by omega),dF (P:=P) st.w u j m.toNat _ (by omega) (by omega),dF (P:=P) st.w A i j.toNat _ N (by omega)]
 refine⟨.slice (if m.toNat=i.toNat then a else a.map (·.add (i.toNat*B.size))) (j.toNat-i.toNat) (m.toNat-i.toNat),?_,?_,by simp[aw,h,L,G,F,H,Instr.sliceAt,g,Instr.slice,Q,Z]⟩
 .simp[aw,h,L,G,F,H,Instr.sliceAt,g,Instr.slice,Q,(hT E B U).run_sizeOf]
 .cases r with
  |sl b off f _ _ _ hk ha hm' M3 =>
   refine Rd.sl b (off+i.toNat*B.size) (λq j=>f (i.toNat+q) j) (by omega) (by omega) (by simp) (λq I=>hk _ (by omega)) (λR=>?_) (λq I j c hj=>?_) (λq I j c hj=>M3 _ (by omega) j c hj)
   .rw[aZ (by omega),ha (by omega)];simp[dm]
   .have:=hm' (i.toNat+q) (by omega) j c hj;grind
end
section
variable {P:ar}{X:Cx P}{N:Nat}{Q:Post}{φ:Fr}{σ:List aP}{e:Exit}
def M7(N:Nat)(Q:Post):Post:=λe φ σ=>∃φ' σ',(∀s a,cm N σ s φ a->aF σ s->∃s':St,s'.w=s.w/\cm N σ' s' φ' a/\aF σ' s'/\Step σ s σ' s')/\Q e φ' σ'
theorem M7.of(h:Q e φ σ):M7 N Q e φ σ:=⟨φ,σ,λs a b hh=>⟨s,rfl,b,hh,.refl _ _⟩,h⟩
def M7.step{φ':Fr}{σ':List aP}(h:∀s a,cm N σ s φ a->aF σ s->∃s':St,s'.w=s.w/\cm N σ' s' φ' a/\aF σ' s'/\Step σ s σ' s')(k:M7 N Q e φ' σ'):M7 N Q e φ σ:=by obtain⟨b,σ2,h2,q⟩:=k;refine⟨b,σ2,λs a j hh=>?_,q⟩;obtain⟨m,e1,i,h1,d⟩:=h s a j hh;obtain⟨l,e3,f,g,c⟩:=h2 m a i h1;exact⟨l,e3.trans e1,f,g,d.trans c⟩
theorem M7.freeze(t l:Nat){E:aj}{cs:List A}{cc:List C}(f:look φ t=.e (.one (.ptr l 0)))(hl:du l σ=aa (.cells E cs))(d:gC cs=aa cc)(k:M7 N Q e ((t,.e (.one (.c (.rp cc))))::φ) (dH.qB l .dead σ)):M7 N Q e φ σ:=by rw[jd]at k;exact .step (λs a b hh=>cm.freeze t l f hl d b hh) k
def kT.gh{c:Code}(h:kT X N c (M7 N Q) φ σ):kT X N c Q φ σ:=by
 intro s a p hh b k cs S n l o;refine h s a p hh b k cs S n l λe u σ2 s2 a2 q t h2 mg=>?_;obtain⟨φ',σ',m,q⟩:=q;obtain⟨s',r,i,d,st⟩:=m s2 a2 t h2;have f:=st.na h2;have g:=o e φ' σ' s' a2 q i d (mg.trans f);have j:eu s2 s':=.of h2 d r f;cases e<;>first
  |exact g.elim
  |exact .ghost j g
  |exactλpre=>.ghost j (g pre)
  |exactλpre hp=>.ghost j (g pre hp)
def kT.norm{c:Code}(φ':Fr)(σ':List aP){ps qs:List Prop}(h1:nA φ φ'=aa ps)(l:az ps)(h2:oS σ σ'=aa qs)(j:az qs)(k:kT X N c Q φ' σ'):kT X N c Q φ σ:=by intro s a m hh b kk cs S h f i;have d:=gU h2 j;have st:=(d s hh).2.1;exact k s a ((m.le (cE h1 l)).bs d hh) (d s hh).1 b kk cs S h f λe g σ2 s2 a2 q n h2 mg=>i e g σ2 s2 a2 q n h2 ((st.na hh).trans mg)
def kT.DZ{ι:Type}{f:ak}{ps:Array Tmp}{assign body:Code}{F:aJ}{capD:List D}{res:ι->D}{σ':ι->List aP}(d:∀s a,cm N σ s φ a->aF σ s->∃b:List ah,a.eval f=.func (.func F) #[] b.toArray/\cg σ s b capD)(c:eb X F (.e (.one (.ref σ.length))::capD) (σ++[.loop N φ {state:=.ready,pending:=ae,fn:=0,tmps:=#[],params:=ps,assign:=assign,body:=body,defers:=0}]) res σ')(hk:∀i,∃r',(σ' i)[σ.length]?=aa (.loop N φ r')/\r'.state≠.busy/\∃e,FX r'.pending=aa e/\Q e φ ((σ' i).set σ.length .dead++[.qT])):kT X N (.rangeFunc f ps assign body) Q φ σ :=
 kT.rangeFunc (r':=λi=>(hk i).choose) d c (λi=>⟨(hk i).choose_spec.1,(hk i).choose_spec.2.1⟩) λi=>(hk i).choose_spec.2.2
def eb.NZ{ι:Type}{f:aJ}{fn:Func}{c:Code}{args:List D}{σ':ι->List aP}{res:ι->D}(m:P.funcs[f]?=aa fn)(g:(fn.name== "runtime.NumGoroutine")=af)(l:fn.body=aa c)(d:bu args.length fn.ntmps=ab)(h:kT X fn.ntmps c (M7 fn.ntmps λe φ σ1=>∃j,qV P fn σ.length (res j) (σ' j) e φ σ1) (iZ 0 args) σ):eb X f args σ res σ' :=
 eb.D1 m g l (cV d) λs a f i b k cs S hk N1 hQ=>kT.gh h s a f i b k cs S hk N1 hQ
def qV.cells{T:List (Nat×TI)}(hT:cO P T){fn:Func}{a:Nat}{res:D}{σ':List aP}(ks:List Nat){ps:List Prop}(h:He T fn.results.toList ks φ res=aa ps)(d:az ps)(f:jK ks σ=aa σ')(b:ko σ'=ab)(c:dx ks=ab)(hk:∀j,j<a->ks[j]?=aa j):qV P fn a res σ' .ret φ σ:=by refine⟨.inl rfl,ks,?_⟩;unfold He at h;grind[zH.Uo]
end
def W9:A->Option ah
 |.c (.val v)=>aa v
 |_=>ae
def UB:List A->Option (List ah)
 |[]=>aa []
 |a::r=>match W9 a with
  |some v=>match UB r with
   |some q=>aa (v::q)
   |none=>ae
  |none=>ae
def Xa:D->Option ah
 |.e (.one a)=>W9 a
 |.e (.agg cs)=>match UB cs with
  |some l=>aa (.agg l.toArray)
  |none=>ae
 |_=>ae
def Hj:List D->Option (List ah)
 |[]=>aa []
 |a::r=>match Xa a with
  |some v=>match Hj r with
   |some q=>aa (v::q)
   |none=>ae
  |none=>ae
section
variable {P:ar}{X:Cx P}{N:Nat}{Qf:Post}{K:List It}{φ:Fr}{σ:List aP}{all rest:List au}{o:au}{s:St}
def JG{v u:ah}:∀{a:A},gn σ s v a->W9 a=aa u->v=u
 |.c (.val x),h,e=>by cases e;exact Rd.dZ h
theorem JH:∀{cs:List A}{vs us:List ah},dX σ s vs cs->UB cs=aa us->vs=us
 |[],[],us,_,e=>by cases e;rfl
 |[],_::_,_,h,_=>h.elim
 |_::_,[],_,h,_=>h.elim
 |a::r,v::vs,us,h,e=>by
  simp only[UB]at e;cases b:W9 a with
  |none=>grind
  |some x =>
   cases c:UB r with
   |none=>grind
   |some q =>
    simp[b,c]at e;subst e;rw[JG h.1 b,JH h.2 c]
def Rs{v u:ah}:∀{d:D},dk σ s v d->Xa d=aa u->v=u
 |.e (.one a),h,e=>JG h e
 |.e (.agg cs),⟨vs,b,h⟩,e=>by simp only[Xa]at e;grind[JH]
def zW:∀{ds:List D}{vs us:List ah},cg σ s vs ds->Hj ds=aa us->vs=us
 |[],[],us,_,e=>by cases e;rfl
 |[],_::_,_,h,_=>h.elim
 |_::_,[],_,h,_=>h.elim
 |a::r,v::vs,us,h,e=>by
  simp only[Hj]at e;cases b:Xa a with
  |none=>grind
  |some x =>
   cases c:Hj r with
   |none=>grind
   |some q =>
    simp[b,c]at e;subst e;rw[Rs h.1 b,zW h.2 c]
def gd(P:ar)(N:Nat)(o:au)(φ:Fr)(σ:List aP)(f:aJ)(args:List ah):Prop:=∀s a,cm N σ s φ a->∀w,(aw a.eval o).run P w=(callFunc f args.toArray).run P w/\(aw a.eval o).events P w #[]=(callFunc f args.toArray).events P w #[]
def gd.direct{f:aJ}{xs:Array ak}{b:Array aj}{args:List ah}(d:o.op=.call {callee:=.value (.func f),args:=xs,argTypes:=b})(h:Hj (xs.toList.map (bM φ))=aa args):gd P N o φ σ f args:=by
 intro s a g w;have h1:=zW (lJ (cY g) xs.toList) h;have h2:xs.map a.eval=args.toArray:=by grind
 have c:a.eval (.func f)=.func (.func f) #[] #[]:=rfl;have e:aw a.eval o=callFunc f args.toArray:=by simp[aw,d,resolve,c,Deferred.ofValue,invoke,h2]
 grind
def gd.invoke{f:aJ}{x:ak}{h:Array ak}{i:Array aj}{name:String}{k:aj}{u r:ah}{args:List ah}(n:o.op=.call {callee:=.invoke x name,args:=h,argTypes:=i})(p:bM φ x=.e (.one (.c (.val (.iface k u)))))(m:Hj (h.toList.map (bM φ))=aa args)(j:∀w,(Go.method (P.types.size+Made.depth) k u name).run P w=.ok (f,r) w/\∀es,(Go.method (P.types.size+Made.depth) k u name).events P w es=es):gd P N o φ σ f (r::args):=by
 intro s a l w;have g:=cY l x;rw[p]at g;have g:=Rd.dZ (eT g);have h1:=zW (lJ (cY l) h.toList) m;have b:∀w,(program:Sem ar).run P w=.ok P w:=λw=>by simp[program,Sem.run]
 have d:∀w es,(program:Sem ar).events P w es=es:=λw es=>by simp[program,Sem.events,Sem.runT]
 rw[pn n g,h1];constructor
 .simp[callMethod,b,(j w).1]
 .simp[callMethod,b,d,(j w).1,(j w).2]
structure kR(P:ar)(f:aJ)(e:Array ah->Sem ah):Prop where
 fn:∃fn,P.funcs[f]?=aa fn/\(fn.name== "runtime.NumGoroutine")=af/\fn.body.isNone=ab/\Extern.findNext fn=ae/\Extern.find fn=aa e
def kR.run{f:aJ}{e:Array ah->Sem ah}(h:kR P f e){args:Array ah}{w w':aA}{v:ah}(g:(e args).run P w=.ok v w'):(callFunc f args).run P w=.ok (.value v) w'/\∀es,(callFunc f args).events P w es=(e args).events P w (es.push ⟨.mark (.extern f),af,ab⟩):=by
 obtain⟨fn,i,a,c,d,b⟩:=h.fn;have h1:fn.name≠ "runtime.NumGoroutine":=by grind
 have h2:fn.body=ae:=by simpa using c
 constructor
 .rw[run_callFunc_extern i a c d b,g];rfl
 .intro es;simp[callFunc,i,h1,h2,d,b,g]
def dN.ext{ι:Type}{x:ι->D}{σ':ι->List aP}{f:aJ}{e:Array ah->Sem ah}{args:List ah}(n:gd P N o φ σ f args)(d:kR P f e)(h:∀s,aF σ s->∃i s' v,(e args.toArray).run P s.w=.ok v s'.w/\dk (σ' i) s' v (x i)/\aF (σ' i) s'/\Step σ s (σ' i) s'/\∀es,∀c∈(e args.toArray).events P s.w es,c∈es∨od s c):dN P N o φ σ x σ':=by
 intro s a j hh;obtain⟨h1,h2⟩:=n s a j s.w;obtain⟨i,s',v,g,q2,q3,q4,k⟩:=h s hh;obtain⟨l,m⟩:=d.run g;refine⟨i,.value v,s',v,h1.trans l,.inl rfl,q2,q3,q4,λc b=>?_⟩;rw[h2,m]at b;rcases k _ c b with h|h
 .simp at h;subst h;exact .inr ⟨f,rfl⟩
 grind
def dN.DV{f:aJ}{e:Array ah->Sem ah}{args:List ah}{v:ah}{x:D}(c:gd P N o φ σ f args)(a:kR P f e)(b:∀w,(e args.toArray).run P w=.ok v w)(g:∀w es,(e args.toArray).events P w es=es)(d:∀s,dk σ s v x):dN P N o φ σ (λ_:Unit=>x) λ_=>σ :=
 .ext c a λs hh=>⟨(),s,v,b s.w,d s,hh,.refl _ _,λes ev h=>.inl (by grind)⟩
def dN.JI{f:aJ}{e:Array ah->Sem ah}{args:List ah}{v:Nat->ah}{x:Nat->D}{E:aj}{u:ah}(n:gd P N o φ σ f args)(d:kR P f e)(k:∀w,(e args.toArray).run P w=.ok (v w.heap.size) (w.alloc (.cells #[u] E)))(r:∀w es,(e args.toArray).events P w es=es)(p:∀g σ s,dk σ s (v g) (x g)):
  dN P N o φ σ x λg=>σ++[.b8 (dJ g E u)] :=
 .ext n d λs hh=>by
  have st:Step σ s σ {s with w:=s.w.alloc (.cells #[u] E)}:=⟨by show _<=(s.w.heap.push _).size;simp,λb a _=>cJ _ _ a,λ_ _ _ h=>h,λ_ _ _ _=>rfl,λL m b a=>.inr ⟨L,m,a⟩,λl B L h1 h2=>⟨B,L,h1,h2,.refl _ _⟩,rfl,rfl,rfl,rfl⟩
  have q:∀o,s.M s.w.heap.size o=ae:=λo=>by
   cases c:s.M s.w.heap.size o with
   |none=>rfl
   |some v=>exact absurd (hh.block c) (Nat.lt_irrefl _)
  have h1:=(hh.grow (w':=s.w.alloc (.cells #[u] E)) (M':=s.M) (by simp) (λb a=>cJ s.w _ a) (λb a o=>rfl) (λb a o v c=>by have:=hh.block c;omega) rfl rfl rfl).1;obtain⟨i,j⟩:=h1.hO (B:=.b8 (dJ s.w.heap.size E u)) (L:=⟨.pointer (aa ⟨s.w.heap.size,0,ae⟩),[s.w.heap.size]⟩) st rfl hh
   ⟨λb=>if b=s.w.heap.size then aa (.cells #[u] E (0,0))else ae,⟨rfl,by simp,λb a=>by grind⟩,λb o a=>by
    by_cases e:b=s.w.heap.size
    .subst e;simp only[cj]at a;grind[dG]
    grind,λb=>by by_cases e:b=s.w.heap.size<;>simp[e],λb a o=>by grind⟩
   (λb a=>by simp at a;subst a;exact⟨bh _,by show _<(s.w.heap.push _).size;simp⟩)
  exact⟨s.w.heap.size,_,_,k s.w,p _ _ _,i,j,λes ev h=>.inl (by grind)⟩
def dJ.own{l g:Nat}{E:aj}{v:ah}(hl:du l σ=aa (.b8 (dJ g E v)))(hh:aF σ s):s.w.heap[g]?=aa (.cells #[v] E (0,0))/\s.w.cell? ⟨g,0,ae⟩=aa v/\(∀j,od s ⟨.cell ⟨g,j,ae⟩,af,af⟩)/\∀j,od s ⟨.cell ⟨g,j,ae⟩,ab,af⟩:=by
 have hB:=bZ hl;have c:l<s.β.length:=by rw[hh.len];grind
 have a:=br c;generalize s.β[l]=L at a;obtain⟨ch,⟨h1,h2,i⟩,e,h,f⟩:=hh.box l _ L hB a;have d:=e g _ h2;have b:g∈L.bs:=(h g).2 (by grind);exact⟨d,by simp[aV,d],λj=>jI (bJ a) b,λj=>jF (bJ a) b (f g b _)⟩
def dJ.jw{l g:Nat}{E:aj}{v u:ah}(hl:du l σ=aa (.b8 (dJ g E v)))(hh:aF σ s):aF (σ.set l (.b8 (dJ g E u))) {s with w:=s.w.setRow g #[u]}/\Step σ s (σ.set l (.b8 (dJ g E u))) {s with w:=s.w.setRow g #[u]}:=by
 have hl:=bZ hl;have f:l<s.β.length:=by rw[hh.len];grind
 have i:=br f;generalize s.β[l]=L at i;obtain⟨ch,⟨h1,h2,r⟩,c,h,m⟩:=hh.box l _ L hl i;have n:g∈L.bs:=(h g).2 (by grind);have d:=c g _ h2;have e:∀a,a≠g->(s.w.setRow g #[u]).heap[a]?=s.w.heap[a]?:=λa b=>setRow_other s.w g a _ b;have j:=setRow_heap s.w g #[v] #[u] E (0,0) d;have k:s.β.set l L=s.β:=by apply iO;grind
 have q:=hh.jw (l:=l) (H':=dJ g E u) (L':=L) (w':=s.w.setRow g #[u]) hl i rfl (by simp)
  (λa b p=>e a (by grind)) (λa b=>.inl b)
  ⟨λa=>if a=g then aa (.cells #[u] E (0,0))else ae,⟨h1,by simp,λa b=>by grind⟩,λa o b=>by
   grind,λa=>by grind⟩ rfl rfl rfl
 grind
def dN.PZ{f:aJ}{e:Array ah->Sem ah}{args:List ah}{v u:ah}{x:D}(l:Nat){g:Nat}{E:aj}(hl:du l σ=aa (.b8 (dJ g E u)))(k:gd P N o φ σ f args)(b:kR P f e)(d:∀w,w.cell? ⟨g,0,ae⟩=aa u->(e args.toArray).run P w=.ok v w/\∀es,∀a∈(e args.toArray).events P w es,a∈es∨a=⟨.cell ⟨g,0,ae⟩,af,af⟩)(m:∀s,dk σ s v x):dN P N o φ σ (λ_:Unit=>x) λ_=>σ :=
 .ext k b λs hh=>by obtain⟨_,c,q2,_⟩:=dJ.own hl hh;obtain⟨i,j⟩:=d s.w c;exact⟨(),s,v,i,m s,hh,.refl _ _,λes a h=>(j es a h).imp id λn=>by grind⟩
def dN.Rt{f:aJ}{e:Array ah->Sem ah}{args:List ah}{v u w0:ah}{x:D}(l j:Nat){g c:Nat}{E E2:aj}(hl:du l σ=aa (.b8 (dJ g E w0)))(b:du j σ=aa (.b8 (dJ c E2 u)))(q:gd P N o φ σ f args)(d:kR P f e)(m:∀w,w.heap[g]?=aa (.cells #[w0] E (0,0))->w.cell? ⟨c,0,ae⟩=aa u->(e args.toArray).run P w=.ok v (w.setRow g #[u])/\∀es,∀a∈(e args.toArray).events P w es,a∈es∨a=⟨.cell ⟨c,0,ae⟩,af,af⟩∨a=⟨.cell ⟨g,0,ae⟩,ab,af⟩)(r:∀σ s,dk σ s v x):dN P N o φ σ (λ_:Unit=>x) λ_=>σ.set l (.b8 (dJ g E u)) :=
 .ext q d λs hh=>by obtain⟨p,_,_,p4⟩:=dJ.own hl hh;obtain⟨_,i,q2,_⟩:=dJ.own b hh;obtain⟨n,y⟩:=m s.w p i;obtain⟨k,t⟩:=dJ.jw (u:=u) hl hh;refine⟨(),_,v,n,r _ _,k,t,λes a h=>?_⟩;grind
def AK.oH{ι:Type}{x:ι->D}{σ':ι->List aP}(g:qH all φ o=ab)(z:fR N o.dst=ab)(h:dN P N o φ σ x σ')(k:∀i,AK X N Qf (.ops all rest::K) .normal (km o.dst (x i) φ) (σ' i)):AK X N Qf (.ops all (o::rest)::K) .normal φ σ:=by
 intro s a f hh b kk cs S idx hb jm hQ;cases idx with
 |nil=>exact jm.elim
 |cons j idx =>
 refine rh hb jm.1 (fD g _ _ _ f) λB d=>?_;have c:=hh.rely d;have l:=f.rely d hh;obtain⟨i,r,s',v,h1,h2,w,n,p,y⟩:=h B a l c;have m:=p.na c;refine⟨r,s',v,h1,h2,⟨⟨σ,σ' i,c,n,p⟩,y⟩,?_⟩;refine k i s' _ ?_ n b kk cs S idx hb jm.2 λe σ2 s2 a2 q A h2 st=>hQ e σ2 s2 a2 q A h2 ((d.stepW.trans m).trans st);cases u:o.dst with
 |none=>exact l.mono m c.len
 |some t=>exact(l.mono m c.len).put (gA z t u) w
def AK.Ru(t:Nat){T:aj}{cs:List C}{c:Code}(i:look φ t=.e (.one (.c (.ifs T (.rp cs)))))(kk:∀p:Addr,AK X N Qf (.code c::K) .normal ((t,.e (.one (.v (.iface T (.pointer (aa p))))))::φ) σ):AK X N Qf (.code c::K) .normal φ σ:=by
 refine AW.tb (ι:=Addr) (φ':=λp=>(t,.e (.one (.v (.iface T (.pointer (aa p))))))::φ) (σ':=λ_=>σ) (λs a d hh=>?_) kk;have h1:=d.slot t;rw[i]at h1;have h1:=eT h1;generalize g:a.tmps.getD t ai=v at h1;cases h1 with
 |@ifs _ u _ h2 hc =>
  cases h2 with
  |rp b off f k j =>
   refine⟨⟨b,off,ae⟩,s,rfl,⟨d.size,d.defers,λu=>?_⟩,hh,.refl _ _⟩;simp only[look];cases h:aB t u with
   |false=>exact d.slot u
   |true =>
    have e:=bP h;subst e;rw[g];exact Rd.val rfl
def AK.P0(t:Nat){T:aj}{x:ah}(d:look φ t=.e (.one (.c (.ifs T (.val x)))))(kk:AK X N Qf (.ops all rest::K) .normal ((t,.e (.one (.v (.iface T x))))::φ) σ):AK X N Qf (.ops all rest::K) .normal φ σ:=by
 refine ib.le kk λσ s v u a=>?_;simp only[look];cases b:aB t u with
 |false=>exact a
 |true =>
  have e:=bP b;subst e;rw[d]at a;have h1:Rd s.M v (.ifs T (.val x)):=a;cases h1 with
  |@ifs _ f _ h2 hc =>
   obtain rfl:=Rd.dZ h2;exact Rd.val rfl
def AK.FO(t l:Nat){E:aj}{c:Code}(x:look φ t=.e (.one (.ptr l 0)))(hl:du l σ=aa (.cells E [.c .hY]))(kk:∀g,AK X N Qf (.code c::K) .normal ((t,.e (.one (.v (.pointer (aa ⟨g,0,ae⟩)))))::φ) (σ.set l (.b8 (dJ g E (.pointer ae))))):AK X N Qf (.code c::K) .normal φ σ:=by
 refine AW.tb (ι:=Nat) (φ':=λg=>(t,.e (.one (.v (.pointer (aa ⟨g,0,ae⟩)))))::φ) (σ':=λg=>σ.set l (.b8 (dJ g E (.pointer ae)))) (λs a k hh=>?_) kk;have hl:=bZ hl;have j:l<s.β.length:=by rw[hh.len];grind
 have i:=br j;generalize s.β[l]=L at i;obtain⟨g,vs,rfl,z,p,y⟩:=hh.box l _ L hl i
 match vs,p with
 |[v],⟨m,_⟩ =>
  have m:Rd s.M v .hY:=m;cases m;obtain⟨r,q2⟩:=hh.gz (M':=s.M) (w':=s.w) (B':=.b8 (dJ g E (.pointer ae))) (L':=⟨.pointer (aa ⟨g,0,ae⟩),[g]⟩) hl i rfl (bh _) (λ_ _ _=>rfl) (λ_ _ _ _=>rfl) (λ_ _ _ h=>h) hh.mem (λb d=>⟨.inl d,hh.lt _ (bJ i) b d⟩) rfl rfl rfl
   ⟨λb=>if b=g then aa (.cells #[.pointer ae] E (0,0))else ae,⟨rfl,by simp,λb d=>by grind⟩,λb o d=>by
    grind,λb=>by by_cases e:b=g<;>simp[e],λb d o=>by grind⟩
  refine⟨g,{s with β:=s.β.set l ⟨.pointer (aa ⟨g,0,ae⟩),[g]⟩},rfl,⟨k.size,k.defers.imp λ_ h1=>h1.mono q2.ext,λu=>?_⟩,r,q2⟩;simp only[look];cases d:aB t u with
  |false=>exact(k.slot u).mono q2.ext hh.len
  |true =>
   have e:=bP d;subst e;have h1:=k.slot t;rw[x]at h1;obtain⟨_,B,A,f,q,n⟩:=(h1:gn σ s _ (.ptr l 0));rw[i]at f;cases f;cases q;rw[n];exact Rd.val rfl
end
def aF.BE{σ1:List aP}{s:St}{E:aj}{k n:Nat}{bf:m9}{xs:List ah}{es:Nat->List C}(hh:aF (σ1++[.b8 (fQ E k bf n xs)]) s)(d:gi k n es xs)(f:r5 σ1.length σ1=ab):
  ∃s2:St,aF σ1 s2/\eu s s2/\Rd s2.M (k9 bf n) (.sl af k n es)/\∀{σ0:List aP} {s0:St},cR σ0 s0 (σ1++[.b8 (fQ E k bf n xs)]) s->σ0.length<=σ1.length->cR σ0 s0 σ1 s2:=by
 have hB:(σ1++[aP.b8 (fQ E k bf n xs)])[σ1.length]?=aa (.b8 (fQ E k bf n xs)):=by simp
 obtain⟨L,M',r,t,q,p,z,u⟩:=fQ.Bx hB es (λi hi=>⟨d.wid i hi,λM j c x hj hx=>by
  obtain⟨y,B,A⟩:=d.at' i hi j c hj
  grind⟩) s hh
 obtain⟨m,q2⟩:=hh.gz (M':=M') (w':=s.w) (B':=.dead) (L':=⟨L.v,[]⟩) hB r rfl (bh _) (λ_ _ _=>rfl) (λb _ a o=>q b a o) t p (by simp) rfl rfl rfl ay;have e:(σ1++[aP.b8 (fQ E k bf n xs)]).set σ1.length .dead=σ1++[.dead]:=by simp
 rw[e]at m q2;refine⟨_,m.drop (rest:=[.dead]) f,⟨rfl,t,λb a o=>q b (a L (bJ r)) o,p,λb a=>?_⟩,u,λ{σ0 s0} g h=>(g.trans (q2.na hh)).drop (rest:=[.dead]) h⟩;rcases a with a|⟨L',l,a⟩
 .exact .inl a
 .have h1:=fW l;grind
def eb.BE{P:ar}{ι:Type}{X:Cx P}{f:aJ}{args:List D}{σ:List aP}{σ1:ι->List aP}{E k:Nat}{n:ι->Nat}{bf:ι->m9}{xs:ι->List ah}{es:ι->Nat->List C}(h:eb X f args σ (λi=>.e (.one (.v (k9 (bf i) (n i))))) (λi=>σ1 i++[.b8 (fQ E k (bf i) (n i) (xs i))]))(d:∀i,gi k (n i) (es i) (xs i))(b:∀i,r5 (σ1 i).length (σ1 i)=ab)(a:∀i,σ.length<=(σ1 i).length):eb X f args σ (λi=>.e (.one (.c (.sl af k (n i) (es i))))) σ1:=by refine⟨h.1,λs vs hr hh S cs hS=>h.2 s vs hr hh S cs λi fr v s' hl ml iY st=>?_⟩;obtain⟨s2,c1,c2,c3,c4⟩:=iY.BE (d i) (b i);have g:v=k9 (bf i) (n i):=Rd.dZ ml;exact .ghost c2 (hS i fr v s2 (hl.mono c2.mem) (by rw[g];exact c3) c1 (c4 st (a i)))
section
open Go.Conc
def gM(s:St):Prop:=∀b o v,s.M b o=aa v->s.w.cell? ⟨b,o,ae⟩=aa v
def lW(c:Nat->Prop):Go.Loc->Prop
  | .cell a=>c a.block
  | .obj r=>c r
  | _=>False
structure Clear(c:Nat->Prop)(s:St):Prop where
  own:∀b,c b->¬s.own b
  β:∀b,c b->∀L∈s.β,b∉L.bs
  M:∀b,c b->∀o,s.M b o=ae
  lt:∀b,c b->b<s.w.heap.size
section
variable {c:Nat->Prop}{s s':St}
def Clear.step{σ σ':List aP}(h:Clear c s)(st:Step σ s σ' s'):Clear c s':=by
  refine⟨λb a=>by rw[st.own];exact h.own b a,λb a L f d=>?_,λb a o=>by rw[st.iV b (h.lt b a) (h.β b a)];exact h.M b a o,λb a=>cU (h.lt b a) st.size⟩;rcases st.vd L f b d with h1|⟨g,e,h1⟩
  · exact absurd (h.lt b a) (mo.2 h1)
  · exact h.β b a g e h1
theorem Clear.ghost(h:Clear c s)(k:eu s s'):Clear c s':=by
  have f:∀b,c b->¬(s'.own b∨∃L∈s'.β,b∈L.bs):=λb a e=>by
    rcases k.blk b e with e|⟨L,d,e⟩
    · exact h.own b a e
    · exact h.β b a L d e
  exact⟨λb a e=>f b a (.inl e),λb a L d e=>f b a (.inr ⟨L,d,e⟩),λb a o=>by rw[k.iV b (h.β b a)];exact h.M b a o,λb a=>by rw[k.w];exact h.lt b a⟩
def Clear.forget(h:Clear c s)(k:mW s s'):Clear c s':=by
  refine⟨λb a=>by rw[k.own];exact h.own b a,λb a=>by rw[k.β];exact h.β b a,λb a o=>?_,λb a=>by rw[k.w];exact h.lt b a⟩;cases e:s'.M b o with
  | none=>rfl
  | some v=>rw[<-k.less b o v e,h.M b a o]
def Clear.at(h:Clear c s)(d:Nat):Clear c {s with w:=s.w.at d}:=⟨h.own,h.β,h.M,h.lt⟩
def gM.at(h:gM s)(d:Nat):gM {s with w:=s.w.at d}:=h
theorem gM.ghost(k:eu s s'):gM s':=λb o v a=>by rw[k.w];exact k.cell b o v a
def gM.forget(h:gM s)(k:mW s s'):gM s':=λb o v a=>by rw[k.w];exact h b o v (k.less b o v a)
def gM.lt(h:gM s){b o:Nat}{v:ah}(a:s.M b o=aa v):b<s.w.heap.size:=by
  have:=h b o v a;rcases cC b s.w.heap.size with h1|h1
  · exact h1
  · simp[aV,zp h1]at this
def ck.at(h:gM s)(d:Nat):ck s {s with w:=s.w.at d}:=⟨rfl,rfl,rfl,bh _,λ_ _=>rfl,h,rfl,rfl,rfl⟩
def QY{σ:List aP}{e:Event}(n:aF σ s)(l:Clear c s)(g:od s e){B:Nat}(hB:s.w.heap.size<=B):EvL (lW c) B e:=by
  obtain⟨k,wr,p⟩:=e;cases k with
  | cell a =>
    obtain⟨h,j,b⟩:=g;simp only at h j b;subst h;have key:¬c a.block/\a.block<s.w.heap.size:=by
      rcases b with b|⟨⟨L,i,b⟩,_⟩|⟨_,v,b⟩
      · exact b.elim
      · exact⟨λx=>l.β _ x L i b,n.lt L i _ b⟩
      · refine⟨λx=>?_,gM.lt n.mem b⟩
        rw[l.M _ x]at b;cases b
    exact evL_cell a wr key.1 (cU key.2 hB)
  | obj r =>
    obtain⟨h,j⟩:=g;simp only at h j;subst h;obtain⟨L,i,b⟩:=j.resolve_left id;refine⟨λx d o=>?_,by simp,by simp,?_⟩
    · simp[aK,MemAct.touch?]at d
      subst d;exact absurd b (l.β _ o L i)
    · simp[aK,MemAct.low,Loc.low]
      exact cU (n.lt L i _ b) hB
  | mark m =>
    simp only[od]at g;rcases g with rfl|⟨f,rfl⟩
    · exact⟨λx d=>by simp[aK,MemAct.touch?]at d,by simp,by simp,by simp[aK,MemAct.low]⟩
    · exact⟨λx d=>by simp[aK,MemAct.touch?]at d,by simp,by simp,by simp[aK,MemAct.low]⟩
  | _=>exact g.elim
end
def rW(t:Trace):Prop:=∀a,NoRelease a t
def rW.app{t:Trace}(h:rW t){g:Nat}{fn:aJ}{pos:String}{es:Array Event}(b:∀e∈es,∀a,e.loc≠.mark (.release a)):rW (t++MemOp.ofEvents g fn pos es) :=
  λa=>(h a).app λop mr hx=>by grind[Go.Conc.mem_ofEvents,Go.ConcR.loc_of_ofEvent]
def DF{s:St}{e:Event}(d:od s e)(a:Addr):e.loc≠.mark (.release a):=by intro b;obtain⟨loc,wr,g⟩:=e;simp only at b;subst b;rcases d with h|⟨f,h⟩<;>cases h
def vL{e:Event}(d:e.mute=ab)(a:Addr):e.loc≠.mark (.release a):=by intro b;obtain⟨loc,wr,f⟩:=e;simp only at b;subst b;simp[Event.mute]at d
def Ua(P:ar)(g:av)(s:St)(T:av->St->Prop):Prop :=
  ∀(c:Nat->Prop) (gs:Array av) (sl:Option (Nat×Nat)) (t:Trace) (q:Nat->Nat),gM s->gs[0]?=aa g->Leavers P t gs q->Past (lW c) s.w.heap.size t->Clear c s->rW t ->
    ∃(N:Nat) (b:Nat->Prop) (a:Array av) (g':av) (s':St) (e:Option (Nat×Nat)) (d:Trace) (f:Nat->Nat),
      runNT P N (crowd gs s.w sl) t=(.next (crowd a s'.w e),d)/\gM s'/\a[0]?=aa g'/\Leavers P d a f/\Past (lW b) s'.w.heap.size d/\Clear b s'/\rW d/\T g' s'
def Cx.beside(P:ar):Cx P:={main:=ab,rely:=λs s'=>ck s s'/\∃d,s'={s with w:=s.w.at d},x3:=Ua P,iw:=λh=>h.1,Bo:=True}
instance (P:ar):(Cx.beside P).gZ:=⟨ay⟩
theorem runNT_add{P:ar}:∀(N M:Nat) {m b:Machine} {t a:Trace},runNT P N m t=(.next b,a)->runNT P (N+M) m t=runNT P M b a
  | 0,M,m,b,t,a,h=>by simp[runNT]at h;grind
  | N+1,M,m,b,t,a,h=>by
    rw[show N+1+M=(N+M)+1 by omega];simp only[runNT]at h⊢;cases d:stepT P m with
    | mk r ops =>
      rw[d]at h;cases r with
      | next m1=>exact runNT_add N M h
      | ended o w=>grind
def fz.beside{P:ar}{S:av->St->Prop}{g:av}{s:St}(h:fz (Cx.beside P) S g s):Ua P g s S:=by
  induction h with
  | stop h=>intro c gs sl t q B r m p u F;exact⟨0,c,gs,_,_,sl,t,q,rfl,B,r,m,p,u,F,h⟩
  | ghost hg _ J =>
    intro c gs sl t q B r m p u F;have:=J c gs sl t q (.ghost hg) r m (by rw[hg.w];exact p) (u.ghost hg) F
    rwa [hg.w]at this
  | forget _ hg _ J =>
    intro c gs sl t q B r m p u F;have:=J c gs sl t q (B.forget hg) r m (by rw[hg.w];exact p) (u.forget hg) F
    rwa [hg.w]at this
  | x3 hj _ J =>
    intro c gs sl t q B r m p u F;obtain⟨N,f,b,g',s',l,D,G,h1,h2,h3,h4,h5,h6,Z,h7⟩:=hj c gs sl t q B r m p u F;obtain⟨M,Sh2,gs2,g2,s2,sl2,t2,q2,k1,T⟩:=J g' s' h7 f b l D G h2 h3 h4 h5 h6 Z;exact⟨N+M,Sh2,gs2,g2,s2,sl2,t2,q2,by grind[runNT_add],T⟩
  | @step g s Y ns ne hr h1 h2 _ J =>
    intro c gs sl t q;have key:∀(n:Nat) (gs:Array av) (d:Nat) (sl:Option (Nat×Nat)) (t:Trace) (q:Nat->Nat),Go.ConcN.sumTo gs.size q<=n->gM s->gs[0]?=aa g->Leavers P t gs q->Past (lW c) s.w.heap.size t->Clear c s->rW t ->
        ∃(N:Nat) (f:Nat->Prop) (b:Array av) (g':av) (s':St) (l:Option (Nat×Nat)) (D:Trace) (G:Nat->Nat),
          runNT P N (crowd gs (s.w.at d) sl) t=(.next (crowd b s'.w l),D)/\gM s'/\b[0]?=aa g'/\Leavers P D b G/\Past (lW f) s'.w.heap.size D/\Clear f s'/\rW D/\S g' s':=by
      intro n;induction n with
      | zero=>?_
      | succ n ihn=>?_
      all_goals
        intro gs d sl t q F B r m p u E;have haw:∀g∈gs,awake g:=by
          intro x hx;obtain⟨i,hi,rfl⟩:=Array.mem_iff_getElem.1 hx;rcases mT i with rfl|A
          · grind[awake_of]
          · exact awake_of ((m.old i _ A (fU hi)).status.elim .inl λx=>.inr (.inr x))
        obtain⟨i,x,d2,l,hi,hg,K⟩:=crowd_pick (P:=P) (w:=s.w.at d) (sl:=sl) haw ⟨0,g,r,hr⟩;rw[show(s.w.at d).at d2=s.w.at d2 from rfl]at K;rcases mT i with rfl|A
        · obtain rfl:x=g:=by grind
          have v:(Cx.beside P).rely s {s with w:=s.w.at d2}:=⟨ck.at B d2,d2,rfl⟩;have hgo:=h1 _ v;obtain⟨⟨σ,σ',hh,iY,st⟩,Q⟩:=h2 _ v;have o:=runT_crowd_go (P:=P) (sl:=l) (i:=0) hi (show aH P (0==0) x (s.w.at d2)=_ from hgo)
          have IM:((gs.map (woken P x (Y {s with w:=s.w.at d2}) (ns {s with w:=s.w.at d2}).w)).setIfInBounds 0 (Y {s with w:=s.w.at d2})).size=gs.size:=by simp
          have X:0<gs.size:=(ij.1 r).1;have V:Clear c {s with w:=s.w.at d2}:=u.at d2;obtain⟨N,f,b,g',s',C,D,G,k1,T⟩:=J _ v c ((gs.map (woken P x (Y {s with w:=s.w.at d2}) (ns {s with w:=s.w.at d2}).w)).setIfInBounds 0 (Y {s with w:=s.w.at d2})) l
            (t++MemOp.ofEvents 0 x.frame.fn x.frame.place (ne {s with w:=s.w.at d2})) q iY.mem (by grind)
            ⟨λj y hj hy=>by
              have Bp:0≠j:=by omega
              rw[vJ Bp,Array.getElem?_map]at hy;obtain⟨z,hz,rfl⟩:=qP.1 hy;have H:=m.old j z hj hz;rw[woken_quitsD H,Deaf_other t (by omega) _ (λop mr=>by grind[Go.Conc.mem_ofEvents])];exact H,λj hj=>by
              rw[Deaf_other t (g':=0) (by grind) _ (λop mr=>by grind[Go.Conc.mem_ofEvents])]
              exact m.above j (by grind)⟩
            ((p.mono st.size).own λe W=>QY hh V (Q e W) st.size) (V.step st) (E.app λe W a=>DF (Q e W) a)
          exact⟨N+1,f,b,g',s',C,D,G,by simp only[runNT,K,o];exact k1,T⟩
        · have H:=m.old i x A hi
          have hi0:(i==0)=af:=by grind
          have X:i<gs.size:=(ij.1 hi).1;cases L:q i with
          | zero=>rw[L]at H;rw[H.1]at hg;cases hg
          | succ k =>
            rw[L]at H;rcases H with⟨hf,_⟩|⟨_,g',es,O,U,hq'⟩
            · grind
            have abE:Go.ConcN.sumTo gs.size (Go.ConcN.upd q i k)+(k+1)=Go.ConcN.sumTo gs.size q+k:=by have:=Go.ConcN.sumTo_upd q k id X;simpa[L]using this
            first
            | (exfalso;omega)
            | (have o:=runT_crowd_go (P:=P) (sl:=l) (i:=i) hi (by rw[hi0];exact U (s.w.at d2))
               have IM:((gs.map (woken P x g' (s.w.at d2))).setIfInBounds i g').size=gs.size:=by simp
               obtain⟨N,f,b,g2,s',C,D,G,k1,T⟩:=ihn ((gs.map (woken P x g' (s.w.at d2))).setIfInBounds i g') d2 l (t++MemOp.ofEvents i x.frame.fn x.frame.place es) (Go.ConcN.upd q i k) (by grind) B
                (by grind[woken_run])
                ⟨λj y hj hy=>by
                  by_cases I:i=j
                  · grind[Go.ConcN.upd_same,Deaf_own]
                  · rw[vJ I,Array.getElem?_map]at hy
                    obtain⟨z,hz,rfl⟩:=qP.1 hy;have R:=m.old j z hj hz;rw[woken_quitsD R,Go.ConcN.upd_ne q k (Ne.symm I),Deaf_other t I _ (λop mr=>by grind[Go.Conc.mem_ofEvents])];exact R,λj hj=>by
                  rw[Deaf_other t (g':=i) (by grind) _ (λop mr=>by grind[Go.Conc.mem_ofEvents])]
                  exact m.above j (by grind)⟩
                (p.mute (by omega) O) u (E.app λe W a=>vL (O e W) a)
               exact⟨N+1,f,b,g2,s',C,D,G,by simp only[runNT,K,o];exact k1,T⟩)
    intro B r m p u E;have:=key _ gs s.w.drawn sl t q (bh _) B r m p u E
    rwa [show s.w.at s.w.drawn=s.w from rfl]at this
inductive Rk where
 |leaf
 |node (f:St->Rk)
def Rk.lt:Rk->Rk->Prop
 |_,.leaf=>False
 |x,.node f=>∃s,x=f s∨Rk.lt x (f s)
def Rk.acc:∀r:Rk,Acc Rk.lt r
 |.leaf=>⟨_,λ_ h=>h.elim⟩
 |.node f=>⟨_,λ_ ⟨s,e⟩=>e.elim (λe=>e▸Rk.acc (f s)) λh=>(Rk.acc (f s)).inv h⟩
def Rk.nat:Nat->Rk
 |0=>.leaf
 |n+1=>.node λ_=>Rk.nat n
def Rk.DW(n:Nat)(s:St):Rk.lt (Rk.nat n) (Rk.nat (n+1)):=⟨s,.inl rfl⟩
def Vec(j:Nat)(a D:Nat->Rk):Prop:=∃i,i<j/\Rk.lt (a i) (D i)/\∀k,k≠i->a k=D k
def JL:∀j,WellFounded (Vec j)
 |0=>⟨λ_=>⟨_,λ_ ⟨i,h,_⟩=>absurd h (fL i)⟩⟩
 |j+1=>by
  have k:=JL j;have key:∀a:Rk,∀D:Nat->Rk,D j=a->Acc (Vec (j+1)) D:=by
   intro a;induction Rk.acc a with
   |intro a _ g =>
    intro D;induction k.apply D with
    |intro D _ b =>
     intro l;refine⟨_,λf h=>?_⟩;obtain⟨i,hi,d,hk⟩:=h;rcases cC i j with e|e
     .exact b f ⟨i,e,d,hk⟩ (by grind)
     grind
  exact⟨λD=>key _ D rfl⟩
section
variable {P:ar}
def kq(X:Cx P)(E:St->St->Array Event->Prop)(S:av->St->Prop):Rk->av->St->Prop
 |.leaf,g,s=>S g s
 |.node f,g,s=>S g s∨(∃s',(eu s s'∨(X.Bo/\mW s s'))/\kq X E S (f s) g s') ∨
   (g.status=.running/\∀a,X.rely s a->∃g' s' es,aH P X.main g a.w=.go g' s'.w es/\(qS a s' es∨E a s' es)/\kq X E S (f a) g' s')
variable {X:Cx P}{E:St->St->Array Event->Prop}{S c:av->St->Prop}
def er(X:Cx P)(E:St->St->Array Event->Prop)(S:av->St->Prop)(g:av)(s:St):Prop:=∃r,kq X E S r g s
theorem er.ghost{g:av}{s s':St}(h:eu s s')(k:er X E S g s'):er X E S g s:=by obtain⟨r,k⟩:=k;exact⟨.node λ_=>r,.inr (.inl ⟨s',.inl h,k⟩)⟩
def er.forget{g:av}{s s':St}(hl:X.Bo)(h:mW s s')(k:er X E S g s'):er X E S g s:=by obtain⟨r,k⟩:=k;exact⟨.node λ_=>r,.inr (.inl ⟨s',.inr ⟨hl,h⟩,k⟩)⟩
def er.step{g:av}{s:St}(d:g.status=.running)(h:∀a,X.rely s a->∃g' s' es,aH P X.main g a.w=.go g' s'.w es/\(qS a s' es∨E a s' es)/\er X E S g' s'):er X E S g s:=by
 classical
 have hh:∀a,∃r:Rk,X.rely s a->∃g' s' es,aH P X.main g a.w=.go g' s'.w es/\(qS a s' es∨E a s' es)/\kq X E S r g' s':=by
  intro a;by_cases b:X.rely s a
  .obtain⟨g',s',es,h1,h2,r,e⟩:=h a b;exact⟨r,λ_=>⟨g',s',es,h1,h2,e⟩⟩
  .exact⟨.leaf,λh=>absurd h b⟩
 exact⟨.node λa=>Classical.choose (hh a),.inr (.inr ⟨d,λa b=>Classical.choose_spec (hh a) b⟩)⟩
def er.bind{g:av}{s:St}(h:er X E S g s)(k:∀g s,S g s->er X E c g s):er X E c g s:=by
 obtain⟨r,h⟩:=h;induction r generalizing g s with
 |leaf=>exact k g s h
 |node f a =>
  rcases h with h|⟨s',h1,h2⟩|⟨b,h⟩
  .grind
  .rcases h1 with h1|⟨hl,h1⟩
   .exact .ghost h1 (a _ h2)
   .exact .forget hl h1 (a _ h2)
  .exact .step b λd e=>by grind
def fz.toE{g:av}{s:St}(hj:∀g s T,¬X.x3 g s T)(h:fz X S g s):er X E S g s:=by
 induction h with
 |stop h=>exact⟨.leaf,h⟩
 |step ng ns ne hr h1 h2 _ a=>exact .step hr λb d=>⟨_,_,_,h1 b d,.inl (h2 b d),a b d⟩
 |ghost hg _ a=>exact .ghost hg a
 |forget hl hg _ a=>exact .forget hl hg a
 |x3 hjj _ _=>grind
def kq.norm(I:St->Prop)(k:∀s s',eu s s'->I s->I s')(m:X.Bo->∀s s',mW s s'->I s->I s'):∀{r:Rk}{g:av}{s:St},kq X E S r g s->I s ->
  (∃s',I s'/\S g s')∨(g.status=.running/\∃s',I s'/\∀a,X.rely s' a->∃g' s2 es r',aH P X.main g a.w=.go g' s2.w es/\(qS a s2 es∨E a s2 es)/\kq X E S r' g' s2/\Rk.lt r' r)
 |.leaf,_,s,h,hi=>.inl ⟨s,hi,h⟩
 |.node f,g,s,h,hi=>by
  rcases h with h|⟨s',h1,h2⟩|⟨o,h⟩
  .grind
  .have j:I s':=h1.elim (λx=>k s s' x hi) λx=>m x.1 s s' x.2 hi;rcases kq.norm I k m h2 j with l|⟨l,s2,n,q⟩
   .grind
   .refine .inr ⟨l,s2,n,λa i=>?_⟩;obtain⟨g',e,es,r',k1,d,b,p⟩:=q a i;exact⟨g',e,es,r',k1,d,b,s,.inr p⟩
  .refine .inr ⟨o,s,hi,λa i=>?_⟩;obtain⟨g',e,es,k1,d,b⟩:=h a i;exact⟨g',e,es,f a,k1,d,b,a,.inl rfl⟩
def er.goes{R:aA->aA->Prop}{D:aA->aA->Array Event->Prop}{Stop:av->aA->Prop}(I:St->Prop)(i:∀s a,I s->X.rely s a->I a)(f:∀s a,I s->X.rely s a->R s.w a.w)(l:∀s es,I s->∀w',D s.w w' es->w'=s.w/\(qS s s es∨E s s es))(j:∀s,I s->X.rely s s)(k:∀g s,I s->Stop g s.w->er X E S g s):
  ∀(n:Nat) (g:av) (s:St),I s->Goes P X.main R D Stop n g s.w->er X E S g s
 |0,g,s,hi,h=>k g s hi (h s.w (f s s hi (j s hi)))
 |n+1,g,s,hi,h=>by
  rcases h with h|⟨q,h⟩
  .grind
  .refine .step q λa m=>?_;have h1:=h a.w (f s a hi m);have b:=i s a hi m;cases d:aH P X.main g a.w with
   |go g' w' es =>
    rw[d,goes_go]at h1;obtain⟨p,o⟩:=h1;obtain⟨rfl,e⟩:=l a es b w' p;exact⟨g',a,es,rfl,e,er.goes I i f l j k n g' a b o⟩
   |_=>rw[d]at h1;exact h1.elim
end
theorem ck.ghost{s s':St}{w:aA}(h:ck s {s with w:=w})(k:eu s s'):ck s' {s' with w:=w}:=by
 refine⟨rfl,rfl,rfl,by rw[k.w];exact h.size,λb a=>by rw[k.w];exact h.fb b (k.blk b a),λb o v e=>?_,by rw[k.w];exact h.os,by rw[k.w];exact h.tape,by rw[k.w];exact h.output⟩;have g:=k.cell b o v e;by_cases a:∃L∈s.β,b∈L.bs
 .have:=h.fb b (.inr a);simp only[aV]at g⊢;grind
 .have:s.M b o=aa v:=by rw[<-k.iV b (λL f d=>a ⟨L,f,d⟩)];exact e
  exact h.mem b o v this
def ck.forget{s s':St}{w:aA}(h:ck s {s with w:=w})(k:mW s s'):ck s' {s' with w:=w} :=
 ⟨rfl,rfl,rfl,by rw[k.w];exact h.size,λb d=>by rw[k.w];exact h.fb b (by rw[<-k.own,<-k.β];exact d),λb o v a=>h.mem b o v (k.less b o v a),by rw[k.w];exact h.os,by rw[k.w];exact h.tape,by rw[k.w];exact h.output⟩
def ck.wF{s:St}(h:gM s):ck s s:=⟨rfl,rfl,rfl,bh _,λ_ _=>rfl,h,rfl,rfl,rfl⟩
def ck.trans'{s:St}{w:aA}(h:ck s {s with w:=w}):ck {s with w:=w} {s with w:=w}:=ck.wF h.mem
def ck.trans{s a s2:St}(h:ck s a)(k:ck a s2):ck s s2 :=
 ⟨k.β.trans h.β,k.M.trans h.M,k.own.trans h.own,iq h.size k.size,λb d=>by rw[k.fb b (by rw[h.own,h.β];exact d),h.fb b d],λb o v e=>k.mem b o v (by rw[h.M];exact e),k.os.trans h.os,k.tape.trans h.tape,k.output.trans h.output⟩
end
section
open Go.Conc
open Go.ConcN (fork_knows RelBy)
open Go.ConcR (stA smA)
def l0:Go.Loc->Option Nat
 |.cell a=>aa a.block
 |.obj r=>aa r
 |_=>ae
def BL{l:Go.Loc}(h:l.isMemory=ab):∃b,l0 l=aa b:=by cases l<;>simp[Go.Loc.isMemory]at h<;>exact⟨_,rfl⟩
def Hk{x:MemAct}{a:Touch}{B b:Nat}(h:x.touch?=aa a)(g:x.low B)(c:l0 a.loc=aa b):b<B:=by
 cases x with
 |access e =>
  simp[MemAct.touch?]at h;subst h;simp only at c;obtain⟨loc,wr,i⟩:=e;cases loc<;>simp[l0]at c<;>subst c<;>exact g
 |mark m =>
  cases m<;>simp[MemAct.touch?]at h<;>subst h<;>simp[l0]at c<;>subst c<;>exact g
 |_=>simp[MemAct.touch?]at h
structure Lay where
 Sh:Nat->Prop
 T0:Nat
 Wg:Nat
 C:Nat
 base:Nat
 kc:Nat
def sj(Y:Lay)(d:Nat->Nat)(a:Touch):Prop :=
 (∃ad,a.loc=.cell ad/\ad.block=Y.Wg/\a.kind≠.plain)∨(∃b,l0 a.loc=aa b/\d b=0/\b≠Y.Wg/\b≠Y.C/\¬Y.Sh b/\a.kind=.plain)
def qI(Y:Lay)(d:Nat->Nat)(f:Mem)(x:Nat)(a:Touch):Prop :=
 (∃ad,a.loc=.cell ad/\ad.block=Y.Wg/\a.kind=.atomic) ∨
 (a.kind=.plain/\((∃b,l0 a.loc=aa b/\d b=Y.base+x)∨(∃o,a.loc=.cell ⟨Y.C,o,ae⟩/\Y.kc*x<=o/\o<Y.kc*x+Y.kc)∨(a.write=af/\∃b o v,a.loc=.cell ⟨b,o,ae⟩/\f b o=aa v)))
structure TL(Y:Lay)(d:Nat->Nat)(f:Nat->Mem)(t:Trace)(j B:Nat):Prop where
 base:1<=Y.base
 IU:d Y.Wg=0
 hC:d Y.C=0
 ne:Y.C≠Y.Wg
 P1:¬Y.Sh Y.Wg
 Rx:¬Y.Sh Y.C
 IV:∀b,Y.Sh b->d b=0
 ms:∀x,x<j->∀b o v,f x b o=aa v->d b=0/\b≠Y.C/\b≠Y.Wg/\¬Y.Sh b
 T0:Y.T0<=t.size
 nr:∀said,¬Race said t
 seen:∀op∈t,op.act.low B
 old:∀i a,i<Y.T0->touchAt t i=aa a->a.loc.isMemory=ab->Knows t 0 i∨(lW Y.Sh a.loc/\a.kind=.atomic)
 Ry:∀x,x<j->∀i a,i<Y.T0->touchAt t i=aa a->a.loc.isMemory=ab->Knows t (Y.base+x) i∨(lW Y.Sh a.loc/\a.kind=.atomic)
 Hl:∀i a b,i<Y.T0->touchAt t i=aa a->l0 a.loc=aa b->d b=0
 new:∀i a,Y.T0<=i->touchAt t i=aa a->a.loc.isMemory=ab->(t.g? i=aa 0/\sj Y d a)∨(∃x,x<j/\t.g? i=aa (Y.base+x)/\qI Y d (f x) x a)
 mw:∀x,x<j->∀i a,Y.T0<=i->touchAt t i=aa a->t.g? i=aa 0->a.write=ab->∀b o v,a.loc=.cell ⟨b,o,ae⟩->f x b o=aa v->Knows t (Y.base+x) i
 over:∀i g,i<Y.T0->t.g? i=aa g->g≠0->t.counts i->∃k,t.g? k=aa 0/\HappensBefore t i k
section
variable {Y:Lay}{d hm':Nat->Nat}{f:Nat->Mem}{t u:Trace}{j B B':Nat}
theorem vo{i:Nat}{a:Touch}{g:Nat}(h:touchAt t i=aa a)(b:t.g? i=aa g):Knows t g i:=by
 obtain⟨x,c,_⟩:=touch_of h;have:x.g=g:=by simpa[Trace.g?,c]using b
 grind[knows_own]
def TL.low(h:TL Y d f t j B){i:Nat}{a:Touch}{b:Nat}(e:touchAt t i=aa a)(g:l0 a.loc=aa b):b<B:=by obtain⟨x,k,c⟩:=touch_of e;exact Hk c (h.seen x (u4 k)) g
def TL.tq(h:TL Y d f t j B)(hh:∀b,b<B->hm' b=d b)(hB:B<=B')(r:Y.Wg<B)(hC:Y.C<B)(s:∀b,Y.Sh b->b<B)(q:∀x,x<j->∀b o v,f x b o=aa v->b<B):TL Y hm' f t j B':=by
 have g:∀i a,touchAt t i=aa a->sj Y d a->sj Y hm' a:=λi a c h1=>by
  rcases h1 with h1|⟨b,h1,h2,n⟩
  .exact .inl h1
  .exact .inr ⟨b,h1,by rw[hh b (h.low c h1)];exact h2,n⟩
 have k:∀x i a,touchAt t i=aa a->qI Y d (f x) x a->qI Y hm' (f x) x a:=λx i a c h1=>by
  rcases h1 with h1|⟨m,⟨b,h1,h2⟩|h1⟩
  .exact .inl h1
  .exact .inr ⟨m,.inl ⟨b,h1,by rw[hh b (h.low c h1)];exact h2⟩⟩
  .exact .inr ⟨m,.inr h1⟩
 refine⟨h.base,by rw[hh _ r];exact h.IU,by rw[hh _ hC];exact h.hC,h.ne,h.P1,h.Rx,λb e=>by rw[hh b (s b e)];exact h.IV b e,λx p b o v l=>by rw[hh b (q x p b o v l)];exact h.ms x p b o v l,
  h.T0,h.nr,λop mr=>MemAct.low_mono hB (h.seen op mr),h.old,h.Ry,λi a b hi c e=>by rw[hh b (h.low c e)];exact h.Hl i a b hi c e,λi a hi c d=>?_,h.mw,h.over⟩
 rcases h.new i a hi c d with⟨h1,h2⟩|⟨x,h1,h2,n⟩
 .grind
 grind
def TL.NP(h:TL Y d f t j B):Y.T0<=(t++u).size:=iq h.T0 (by simp)
theorem kC{i:Nat}(h:i<t.size):(t++u).g? i=t.g? i:=by simp[Trace.g?,getElem?_append_old h]
def TL.sk(h:TL Y d f t j B)(u:Trace):∀i g,i<Y.T0->(t++u).g? i=aa g->g≠0->(t++u).counts i->∃k,(t++u).g? k=aa 0/\HappensBefore (t++u) i k:=by
 intro i g hi hg Bp hc;have a:=cU hi h.T0;rw[kC a]at hg;obtain⟨k,hk,b⟩:=h.over i g hi hg Bp ((counts_old a).1 hc);have c:k<t.size:=by unfold Trace.g? at hk;grind
 exact⟨k,by grind[kC],hb_app u b⟩
def BM{a:Nat->Prop}{l:Go.Loc}{b:Nat}(h:lW a l)(c:l0 l=aa b):a b:=by cases l<;>simp[l0]at c<;>subst c<;>exact h
def TL.apart(h:TL Y d f t j B){x:Nat}(s:x<j){a b:Touch}{said:Bool}(hT:sj Y d b)(m:qI Y d (f x) x a)(hl:a.loc=b.loc)(hk:a.kind=.plain∨b.kind=.plain∨(said=ab/\a.kind=.said/\b.kind=.said))(z:b.kind=.plain->b.write=ab->∀l o v,b.loc=.cell ⟨l,o,ae⟩->f x l o≠aa v)(r:a.write=ab∨b.write=ab):False:=by
 have p:=h.base;rcases m with⟨ad,e1,e2,e3⟩|⟨E,⟨c,e1,e2⟩|⟨o,e1,_⟩|⟨e1,l,o,v,e2,e3⟩⟩
 .rcases hT with⟨i,e,g,k⟩|⟨c,e,g,k,_⟩
  .grind
  .rw[<-hl,e1]at e;simp only[l0,dn]at e;grind
 .rcases hT with⟨i,e,g,k⟩|⟨n,e,g,k,_⟩
  .rw[hl,e]at e1;simp only[l0,dn]at e1;rw[<-e1,g,h.IU]at e2;omega
  grind
 .rcases hT with⟨i,e,g,k⟩|⟨n,e,g,k,q,_⟩
  .rw[<-hl,e1]at e;cases e;exact h.ne g
  .rw[<-hl,e1]at e;simp only[l0,dn]at e;grind
 .obtain⟨D,A,y,w⟩:=h.ms x s l o v e3;rcases hT with⟨i,e,g,k⟩|⟨n,e,g,k,q,_,C⟩
  .grind
  grind
def TL.app0(h:TL Y d f t j B)(H:∀op∈u,op.g=0)(hl:∀op∈u,op.act.low B)(F:∀op∈u,∀a,op.act.touch?=aa a->a.loc.isMemory=ab->sj Y d a)(N:∀op∈u,∀a,op.act.touch?=aa a->a.kind=.plain->a.write=ab->∀x,x<j->∀b o v,a.loc=.cell ⟨b,o,ae⟩->f x b o≠aa v):TL Y d f (t++u) j B:=by
 have e:∀{i:Nat} {a:Touch},touchAt (t++u) i=aa a->(i<t.size/\touchAt t i=aa a)∨(t.size<=i/\(t++u).g? i=aa 0/\∃op∈u,op.act.touch?=aa a):=by
  intro i a k;obtain⟨x,p,A⟩:=touch_of k;rcases getElem?_append_cases p with⟨hi,K⟩|⟨hi,s⟩
  .grind [touchAt_of]
  .exact .inr ⟨hi,by simp[Trace.g?,p,H x s],x,s,A⟩
 refine⟨h.base,h.IU,h.hC,h.ne,h.P1,h.Rx,h.IV,h.ms,h.NP,λsaid=>?_,seen_app h.seen hl,λi a hi k d=>?_,λx p i a hi k d=>?_,λi a b hi k z=>?_,λi a hi k d=>?_,λx p i a hi k y E b o v l G=>?_,h.sk u⟩
 .refine noRace_append (h.nr said) H λi a k op mr b z q=>?_;have C:b.loc.isMemory=ab:=by rw[<-q.1];exact q.2.1
  have hT:=F op mr b z C;rcases cC i Y.T0 with hi|hi
  .rcases h.old i a hi k q.2.1 with hk|⟨J,I⟩
   .exact hk
   .exfalso;obtain⟨c,m⟩:=BL q.2.1;have w:=BM J m;rcases hT with⟨ad,e1,e2,e3⟩|⟨L,e1,e2,e3,P,O,M⟩
    .rw[q.1,e1]at m;simp only[l0,dn]at m;rw[<-m,e2]at w;exact h.P1 w
    .rw[q.1,e1]at m;grind
  .rcases h.new i a hi k q.2.1 with⟨y,_⟩|⟨x,p,y,D⟩
   .grind [vo]
   .exact(h.apart p hT D q.1 q.2.2.2 (λh1 h2=>N op mr b z h1 h2 x p) q.2.2.1).elim
 .have n:touchAt t i=aa a:=by rw[<-touchAt_old (u:=u) (cU hi h.T0)];exact k
  exact(h.old i a hi n d).imp (·.app u) id
 .have n:touchAt t i=aa a:=by rw[<-touchAt_old (u:=u) (cU hi h.T0)];exact k
  exact(h.Ry x p i a hi n d).imp (·.app u) id
 .have n:touchAt t i=aa a:=by rw[<-touchAt_old (u:=u) (cU hi h.T0)];exact k
  exact h.Hl i a b hi n z
 .rcases e k with⟨h1,h2⟩|⟨_,h2,op,mr,r⟩
  .rw[kC h1];exact h.new i a hi h2 d
  grind
 .rcases e k with⟨h1,h2⟩|⟨_,h2,op,mr,r⟩
  .rw[kC h1]at y;exact(h.mw x p i a hi h2 y E b o v l G).app u
  .exfalso;rcases F op mr a r (by rw[l];rfl)with⟨ad,e1,e2,e3⟩|⟨L,_,_,_,_,_,M⟩
   .rw[l]at e1;cases e1;exact(h.ms x p b o v G).2.2.1 e2
   grind
def TL.appW(h:TL Y d f t j B){x:Nat}(D:x<j)(X:∀op∈u,op.g=Y.base+x)(hl:∀op∈u,op.act.low B)(ht:∀op∈u,∀a,op.act.touch?=aa a->a.loc.isMemory=ab->qI Y d (f x) x a):TL Y d f (t++u) j B:=by
 have Z9:=h.base;have r:∀{i:Nat} {a:Touch},touchAt (t++u) i=aa a->(i<t.size/\touchAt t i=aa a)∨(t.size<=i/\(t++u).g? i=aa (Y.base+x)/\∃op∈u,op.act.touch?=aa a):=by
  intro i a q;obtain⟨y,z,P⟩:=touch_of q;rcases getElem?_append_cases z with⟨hi,hy'⟩|⟨hi,H⟩
  .grind [touchAt_of]
  .exact .inr ⟨hi,by simp[Trace.g?,z,X y H],y,H,P⟩
 refine⟨h.base,h.IU,h.hC,h.ne,h.P1,h.Rx,h.IV,h.ms,h.NP,λsaid=>?_,seen_app h.seen hl,λi a hi q d=>?_,λy z i a hi q d=>?_,λi a b hi q R=>?_,λi a hi q d=>?_,λy z i a hi q G I b o v E M=>?_,h.sk u⟩
 .refine noRace_append (h.nr said) X λi a q op mr b R A=>?_;have L:b.loc.isMemory=ab:=by rw[<-A.1];exact A.2.1
  have hT:=ht op mr b R L;obtain⟨c,l⟩:=BL A.2.1;rcases cC i Y.T0 with hi|hi
  .rcases h.Ry x D i a hi q A.2.1 with hk|⟨hs,Z⟩
   .exact hk
   .exfalso;have n:=BM hs l;rw[A.1]at l;rcases hT with⟨ad,e1,e2,e3⟩|⟨e0,⟨c',e1,e2⟩|⟨o,e1,_⟩|⟨e1,p,o,v,e2,e3⟩⟩
    .rw[e1]at l;simp only[l0,dn]at l;rw[<-l,e2]at n;exact h.P1 n
    .rw[e1]at l;simp only[dn]at l;rw[<-l]at n;rw[h.IV _ n]at e2;omega
    .rw[e1]at l;simp only[l0,dn]at l;rw[<-l]at n;exact h.Rx n
    .rw[e2]at l;simp only[l0,dn]at l;rw[<-l]at n;exact(h.ms x D p o v e3).2.2.2 n
  .rcases h.new i a hi q A.2.1 with⟨G,O⟩|⟨y,z,G,S⟩
   ·
    by_cases F:a.write=ab/\∃p o v,a.loc=.cell ⟨p,o,ae⟩/\f x p o=aa v
    .obtain⟨h1,p,o,v,h2,V⟩:=F;exact h.mw x D i a hi q G h1 p o v h2 V
    .exfalso;refine h.apart (said:=said) D O hT A.1.symm ?_ (λ_ U p o v k M=>F ⟨U,p,o,v,k,M⟩) A.2.2.1.symm;rcases A.2.2.2 with hk|hk|⟨h1,h2,V⟩
     .grind
     .grind
     grind
   .by_cases J:y=x
    .grind [vo]
    .exfalso;obtain⟨k,_,I,T⟩:=A;rcases S with⟨ad,e1,e2,e3⟩|⟨e0,⟨c1,e1,e2⟩|⟨o,e1,e1l,e1u⟩|⟨e1,p,o,v,e2,e3⟩⟩
     .rcases hT with⟨C,e,m,w⟩|⟨f0,⟨c2,e,m⟩|⟨o,e,_⟩|⟨e,p,o,v,m,w⟩⟩
      .grind
      .rw[<-k,e1]at e;simp only[l0,dn]at e;rw[<-e,e2,h.IU]at m;omega
      .rw[<-k,e1]at e;cases e;exact h.ne e2
      .rw[<-k,e1]at m;cases m;exact(h.ms x D p o v w).2.2.1 e2
     .rcases hT with⟨C,e,m,w⟩|⟨f0,⟨c2,e,m⟩|⟨o,e,_⟩|⟨e,p,o,v,m,w⟩⟩
      .rw[k,e]at e1;simp only[l0,dn]at e1;rw[<-e1,m,h.IU]at e2;omega
      .grind
      .rw[k,e]at e1;simp only[l0,dn]at e1;rw[<-e1,h.hC]at e2;omega
      .rw[k,m]at e1;simp only[l0,dn]at e1;rw[<-e1,(h.ms x D p o v w).1]at e2;omega
     .rcases hT with⟨C,e,m,w⟩|⟨f0,⟨c2,e,m⟩|⟨Q,e,K,N⟩|⟨e,p,Q,v,m,w⟩⟩
      .rw[<-k,e1]at e;cases e;exact h.ne m
      .rw[<-k,e1]at e;simp only[l0,dn]at e;rw[<-e,h.hC]at m;omega
      .rw[<-k,e1]at e;cases e;rcases Nat.lt_or_gt_of_ne J with h1|h1
       .have:=u7 Y.kc (show y+1<=x from h1);grind
       .have:=u7 Y.kc (show x+1<=y from h1);grind
      .rw[<-k,e1]at m;cases m;exact(h.ms x D _ _ v w).2.1 rfl
     .rcases hT with⟨C,e,m,w⟩|⟨f0,⟨c2,e,m⟩|⟨Q,e,K,N⟩|⟨e,b2,Q,v',m,w⟩⟩
      .rw[<-k,e2]at e;cases e;exact(h.ms y z p o v e3).2.2.1 m
      .rw[<-k,e2]at e;simp only[l0,dn]at e;rw[<-e,(h.ms y z p o v e3).1]at m;omega
      .rw[<-k,e2]at e;cases e;exact(h.ms y z _ _ v e3).2.1 rfl
      grind
 .have s:touchAt t i=aa a:=by rw[<-touchAt_old (u:=u) (cU hi h.T0)];exact q
  exact(h.old i a hi s d).imp (·.app u) id
 .have s:touchAt t i=aa a:=by rw[<-touchAt_old (u:=u) (cU hi h.T0)];exact q
  exact(h.Ry y z i a hi s d).imp (·.app u) id
 .have s:touchAt t i=aa a:=by rw[<-touchAt_old (u:=u) (cU hi h.T0)];exact q
  exact h.Hl i a b hi s R
 .rcases r q with⟨h1,h2⟩|⟨_,h2,op,mr,W⟩
  .rw[kC h1];exact h.new i a hi h2 d
  grind
 .rcases r q with⟨h1,h2⟩|⟨_,h2,_⟩
  .rw[kC h1]at G;exact(h.mw y z i a hi h2 G I b o v E M).app u
  grind
def TL.mute(h:TL Y d f t j B){g:Nat}(q:∀op∈u,op.g=g)(hl:∀op∈u,op.act.low B)(s:∀op∈u,op.act.touch?=ae):TL Y d f (t++u) j B:=by
 have old:∀{i:Nat} {a:Touch},touchAt (t++u) i=aa a->i<t.size/\touchAt t i=aa a:=by intro i a c;obtain⟨y,w,r⟩:=touch_of c;grind[touchAt_of]
 refine⟨h.base,h.IU,h.hC,h.ne,h.P1,h.Rx,h.IV,h.ms,h.NP,λsaid=>noRace_append (h.nr said) q λi a _ op mr b n _=>(by grind),seen_app h.seen hl,λi a hi c d=>(h.old i a hi (old c).2 d).imp (·.app u) id,
  λx l i a hi c d=>(h.Ry x l i a hi (old c).2 d).imp (·.app u) id,λi a b hi c n=>h.Hl i a b hi (old c).2 n,λi a hi c d=>?_,λx l i a hi c m k b o v e p=>?_,h.sk u⟩
 .rw[kC (old c).1];exact h.new i a hi (old c).2 d
 .rw[kC (old c).1]at m;exact(h.mw x l i a hi (old c).2 m k b o v e p).app u
def TL.fork(h:TL Y d f t j B){x y:MemOp}(n:x.g=0/\x.act=.go (Y.base+j))(m:y.g=Y.base+j/\y.act=.start)(D:Deaf t 0=0)(hk:Deaf t (Y.base+j)=0)(G:∀b o v,f j b o=aa v->d b=0/\b≠Y.C/\b≠Y.Wg/\¬Y.Sh b):TL Y d f (t++#[x,y]) (j+1) B:=by
 have F:∀op∈#[x,y],op.act.touch?=ae:=by
  intro op mr;simp only[List.mem_toArray,eE,n7,mq]at mr;rcases mr with rfl|rfl
  .rw[n.2];rfl
  .rw[m.2];rfl
 have l:∀op∈#[x,y],op.act.low B:=by
  intro op mr;simp only[List.mem_toArray,eE,n7,mq]at mr;rcases mr with rfl|rfl
  .rw[n.2];trivial
  .rw[m.2];trivial
 have old:∀{i:Nat} {a:Touch},touchAt (t++#[x,y]) i=aa a->i<t.size/\touchAt t i=aa a:=by intro i a c;obtain⟨z,s,E⟩:=touch_of c;grind[touchAt_of]
 have w:∀z,z<j+1->∀b o v,f z b o=aa v->d b=0/\b≠Y.C/\b≠Y.Wg/\¬Y.Sh b:=λz s b o v p=>by
  rcases cC z j with h1|h1
  .exact h.ms z h1 b o v p
  grind
 refine⟨h.base,h.IU,h.hC,h.ne,h.P1,h.Rx,h.IV,w,h.NP,λsaid=>?_,seen_app h.seen l,λi a hi c d=>(h.old i a hi (old c).2 d).imp (·.app _) id,
  λz s i a hi c d=>?_,λi a b hi c r=>h.Hl i a b hi (old c).2 r,λi a hi c d=>?_,λz s i a hi c q A b o v k p=>?_,h.sk _⟩
 .have e:t++#[x,y]=(t++#[x])++#[y]:=by grind
  rw[e];refine noRace_append (g:=Y.base+j) (noRace_append (g:=0) (h.nr said) (λop mr=>by grind) (λi a _ op mr b r _=>?_)) (λop mr=>by grind) (λi a _ op mr b r _=>?_)
  .grind
  grind
 .rcases cC z j with h1|h1
  .exact(h.Ry z h1 i a hi (old c).2 d).imp (·.app _) id
  .obtain rfl:z=j:=by omega
   exact(h.old i a hi (old c).2 d).imp (fork_knows n m D hk) id
 .rw[kC (old c).1];rcases h.new i a hi (old c).2 d with h1|⟨z,h1,h2⟩
  .grind
  grind
 .rw[kC (old c).1]at q;rcases cC z j with h1|h1
  .exact(h.mw z h1 i a hi (old c).2 q A b o v k p).app _
  .obtain rfl:z=j:=by omega
   exact fork_knows n m D hk (vo (old c).2 q)
def TL.X2(h:TL Y d f t j B)(I:Deaf t 0=0)(J:NoRelease (stA Y.Wg) t){q:Nat}(K:t.act? q=aa (.mark (.acquire (stA Y.Wg))))(w:t.g? q=aa 0)(F:t.heard q)(L:∀x,x<j->∃r,RelBy (stA Y.Wg) t (Y.base+x) r/\r<q):Past (lW λb=>Y.Sh b∨b=Y.Wg) B t:=by
 have m:∀x,x<j->∀i,t.g? i=aa (Y.base+x)->t.counts i->HappensBefore t i q:=by
  intro x y i p v;obtain⟨r,c,D⟩:=L x y;have e:HappensBefore t r q:=.single (.inr ⟨.marked D (.inr c.act) K (λk _ _=>J k),c.heard,F⟩);have G:i<=r:=Nat.le_of_not_lt λo=>c.after i o p v;rcases cC i r with o|H
  .exact .trans (.single (.inl ⟨o,_,p,c.g⟩)) e
  grind
 have n:∀{l:Go.Loc},lW Y.Sh l->lW (λb=>Y.Sh b∨b=Y.Wg) l:=λ{l} hl=>by cases l<;>first|exact .inl hl|exact hl
 refine⟨h.nr,λi a s d=>?_,λi g p E v=>?_,I,h.seen⟩
 .rcases cC i Y.T0 with hi|hi
  .exact(h.old i a hi s d).imp id λ⟨h1,h2⟩=>⟨n h1,h2⟩
  .rcases h.new i a hi s d with⟨h1,_⟩|⟨x,y,p,hT⟩
   .grind [vo]
   .rcases hT with⟨ad,e1,e2,e3⟩|⟨N,_⟩
    .exact .inr ⟨by rw[e1];exact .inr e2,e3⟩
    .left;have v:t.counts i:=⟨a,s,d,.inl (by grind)⟩
     obtain⟨z,M,A⟩:=qP.1 w;exact⟨q,z,M,A,.inr (m x y i p v)⟩
 .rcases cC i Y.T0 with hi|hi
  .exact h.over i g hi p E v
  .obtain⟨a,s,d,hk⟩:=v;rcases h.new i a hi s d with⟨h1,_⟩|⟨x,y,C,hT⟩
   .grind
   .exact⟨q,w,m x y i C ⟨a,s,d,hk⟩⟩
def TL.start{Y:Lay}{t:Trace}{B:Nat}{f:Nat->Mem}(e:Past (lW Y.Sh) B t)(hT:Y.T0=t.size)(n:1<=Y.base)(b:Y.C≠Y.Wg)(l:¬Y.Sh Y.Wg)(h:¬Y.Sh Y.C):TL Y (λ_=>0) f t 0 B :=
 ⟨n,rfl,rfl,b,l,h,λ_ _=>rfl,λx c=>absurd c (fL x),by omega,e.clean,e.seen,λi a _ k d=>e.known i a k d,λx c=>absurd c (fL x),λ_ _ _ _ _ _=>rfl,
  λi a hi k _=>by
   obtain⟨x,c,_⟩:=touch_of k
   grind,λx c=>absurd c (fL x),λi g _ m b o=>e.over i g m b o⟩
end
end
section
open Go.Conc
open Go.ConcN (WD CTag Mode Vc Ssum pend phi cnt WgLive PayAt Has RW DWs WSit RelBy sumTo upd upd_same upd_ne AtR0 get_map_set get_map_set_same norel_of Deaf_still)
open Go.ConcR (KK WgAt stA smA rd wr mk Payload g_of_ofEvents)
def Cx.work(P:ar):Cx P:={main:=af,rely:=ck,x3:=λ_ _ _=>False,iw:=id,Bo:=True}
def Cx.lead(P:ar)(ty:aj)(Wg:Nat):Cx P:={main:=ab,rely:=λs s'=>ck s s'/\(WgLive ty Wg s.w->WgLive ty Wg s'.w),x3:=λ_ _ _=>False,iw:=λh=>h.1,Bo:=False}
instance (P:ar):(Cx.work P).gZ:=⟨ay⟩
def E0:St->St->Array Event->Prop:=λ_ _ _=>False
def Es(Wg:Nat):St->St->Array Event->Prop:=λs s' es=>s'=s/\∃a:Addr,a.block=Wg/\(es=#[mk (.read a)]∨es=#[mk (.write a)])
def P2:Nat->Go.Loc->Prop:=λ_ _=>False
variable [Payload]
structure UC(C N lo k:Nat)(vs:Nat->ah)(w w':aA):Prop where
 tape:w'.tape=w.tape
 os:w'.os=w.os
 output:w'.output=w.output
 size:w'.heap.size=w.heap.size
 block:∀b,b≠C->w'.heap[b]?=w.heap[b]?
 pay:PayAt C N w'
 out:∀o,(o<lo∨lo+k<=o)->w'.cell? ⟨C,o,ae⟩=w.cell? ⟨C,o,ae⟩
 new:∀i,i<k->w'.cell? ⟨C,lo+i,ae⟩=aa (vs i)
section
variable (P:ar)(ty:aj)(Y:Lay)(N:Nat)(val:Nat->Nat->ah)
def JM(x:Nat)(g:av)(s:St):Prop :=
 g.status=.running/\∀w1,ck s {s with w:=w1}->PayAt Y.C N w1->WgLive ty Y.Wg w1 ->
  ∃g' w2 es,aH P af g w1=.go g' w2 es/\UC Y.C N (Y.kc*x) Y.kc (val x) w1 w2/\(∀e∈es,∃o,e=⟨.cell ⟨Y.C,o,ae⟩,ab,af⟩/\Y.kc*x<=o/\o<Y.kc*x+Y.kc) /\
   ∃m,Goes P af (RW ty Y.Wg Y.C N 0 (Y.kc*x)) Go.ConcR.DC0 (AtR0 P ty Y.Wg Y.C N 0 (Y.kc*x+1) (val x 0)) m g' w2
end
structure l3(f:Nat->Nat)(r:Mem)(g:Nat)(s:St):Prop where
 blk:∀b,(s.own b∨∃L∈s.β,b∈L.bs)->f b=g/\b<s.w.heap.size
 M:∀b o v,s.M b o=aa v->(f b=g∨r b o=aa v)/\b<s.w.heap.size
structure jN(Y:Lay)(f:Nat->Nat)(D:Nat->Mem)(j:Nat)(s:St):Prop where
 blk:∀b,(s.own b∨∃L∈s.β,b∈L.bs)->f b=0/\b≠Y.C/\b≠Y.Wg/\¬Y.Sh b/\b<s.w.heap.size
 M:∀b o v,s.M b o=aa v->f b=0/\b≠Y.C/\b≠Y.Wg/\¬Y.Sh b/\b<s.w.heap.size
 ms:∀x,x<j->∀b o v,D x b o=aa v->s.M b o=aa v
structure Hm(Y:Lay)(f:Nat->Nat)(r:Mem)(y:Nat)(w w':aA):Prop where
 size:w.heap.size<=w'.heap.size
 blk:∀b,b<w.heap.size->f b=Y.base+y->w'.heap[b]?=w.heap[b]?
 cell:∀b o v,r b o=aa v->w.cell? ⟨b,o,ae⟩=aa v->w'.cell? ⟨b,o,ae⟩=aa v
 pay:∀o,Y.kc*y<=o->o<Y.kc*y+Y.kc->w'.cell? ⟨Y.C,o,ae⟩=w.cell? ⟨Y.C,o,ae⟩
 os:w'.os=w.os
 tape:w'.tape=w.tape
 output:w'.output=w.output
omit [Payload]in
def Hm.refl(Y:Lay)(f:Nat->Nat)(r:Mem)(y:Nat)(w:aA):Hm Y f r y w w:=⟨bh _,λ_ _ _=>rfl,λ_ _ _ _ h=>h,λ_ _ _=>rfl,rfl,rfl,rfl⟩
omit [Payload]in
def Hm.at(Y:Lay)(f:Nat->Nat)(r:Mem)(y:Nat)(w:aA)(d:Nat):Hm Y f r y w (w.at d):=⟨bh _,λ_ _ _=>rfl,λ_ _ _ _ h=>h,λ_ _ _=>rfl,rfl,rfl,rfl⟩
structure DX(Y:Lay)(f:Nat->Nat)(w w':aA):Prop where
 size:w.heap.size<=w'.heap.size
 blk:∀b,b<w.heap.size->f b=0->b≠Y.C->b≠Y.Wg->w'.heap[b]?=w.heap[b]?
 os:w'.os=w.os
 tape:w'.tape=w.tape
 output:w'.output=w.output
omit [Payload]in
def jO{w w':aA}{b:Nat}(h:w'.heap[b]?=w.heap[b]?)(o:Nat):w'.cell? ⟨b,o,ae⟩=w.cell? ⟨b,o,ae⟩:=by simp[aV,h]
omit [Payload]in
def ck.more{s:St}{w w':aA}(h:ck s {s with w:=w})(z:w.heap.size<=w'.heap.size)(c:∀b,(s.own b∨∃L∈s.β,b∈L.bs)->w'.heap[b]?=w.heap[b]?)(X:∀b o v,s.M b o=aa v->w.cell? ⟨b,o,ae⟩=aa v->w'.cell? ⟨b,o,ae⟩=aa v)(l:w'.os=w.os)(p:w'.tape=w.tape)(u:w'.output=w.output):ck s {s with w:=w'} :=
 ⟨rfl,rfl,rfl,iq h.size z,λb J=>by show w'.heap[b]?=_;rw[c b J];exact h.fb b J,λb o v q=>X b o v q (h.mem b o v q),l.trans h.os,p.trans h.tape,u.trans h.output⟩
section
variable {Y:Lay}{f hm':Nat->Nat}{D:Nat->Mem}{j y:Nat}{s:St}{w w':aA}
omit [Payload]in
def l3.JN(n:l3 f (D y) (Y.base+y) s)(h:ck s {s with w:=w})(k:Hm Y f (D y) y w w'):ck s {s with w:=w'}:=by
 have z:=h.size;refine h.more k.size (λb c=>?_) (λb o v q K=>?_) k.os k.tape k.output
 .obtain⟨l,p⟩:=n.blk b c;exact k.blk b (cU p z) l
 .obtain⟨l,p⟩:=n.M b o v q;rcases l with l|l
  .rw[jO (k.blk b (cU p z) l) o];exact K
  .exact k.cell b o v l K
omit [Payload]in
def l3.tq{r:Mem}{g:Nat}(n:l3 f r g s)(h:s.w.heap.size<=w.heap.size)(W:∀b,b<w.heap.size->hm' b=f b):l3 hm' r g s :=
 ⟨λb c=>let ⟨l,p⟩:=n.blk b c;⟨by grind,p⟩,λb o v q=>let ⟨l,p⟩:=n.M b o v q;⟨by grind,p⟩⟩
omit [Payload]in
def jN.JN(n:jN Y f D j s)(h:ck s {s with w:=w})(k:DX Y f w w'):ck s {s with w:=w'}:=by
 have z:=h.size;refine h.more k.size (λb c=>?_) (λb o v q K=>?_) k.os k.tape k.output
 .obtain⟨l,p,u,H,A⟩:=n.blk b c;exact k.blk b (cU A z) l p u
 .obtain⟨l,p,u,H,A⟩:=n.M b o v q;rw[jO (k.blk b (cU A z) l p u) o];exact K
omit [Payload]in
def jN.tq(n:jN Y f D j s)(h:s.w.heap.size<=w.heap.size)(W:∀b,b<w.heap.size->hm' b=f b):jN Y hm' D j s :=
 ⟨λb c=>let ⟨l,p,u,H,A⟩:=n.blk b c;⟨by grind,p,u,H,A⟩,
  λb o v q=>let ⟨l,p,u,H,A⟩:=n.M b o v q;⟨by grind,p,u,H,A⟩,n.ms⟩
omit [Payload]in
def l3.rely{r:Mem}{g:Nat}(n:l3 f r g s)(h:s.w.heap.size<=w.heap.size):l3 f r g {s with w:=w} :=
 ⟨λb c=>let ⟨l,p⟩:=n.blk b c;⟨l,cU p h⟩,λb o v q=>let ⟨l,p⟩:=n.M b o v q;⟨l,cU p h⟩⟩
omit [Payload]in
def jN.rely(n:jN Y f D j s)(h:s.w.heap.size<=w.heap.size):jN Y f D j {s with w:=w} :=
 ⟨λb c=>let ⟨l,p,u,H,A⟩:=n.blk b c;⟨l,p,u,H,cU A h⟩,λb o v q=>let ⟨l,p,u,H,A⟩:=n.M b o v q;⟨l,p,u,H,cU A h⟩,n.ms⟩
omit [Payload]in
theorem l3.ghost{r:Mem}{g:Nat}{s':St}(n:l3 f r g s)(k:eu s s'):l3 f r g s':=by
 refine⟨λb c=>by rw[k.w];exact n.blk b (k.blk b c),λb o v q=>?_⟩;rw[k.w];by_cases c:∃L∈s.β,b∈L.bs
 .obtain⟨l,p⟩:=n.blk b (.inr c);grind
 .exact n.M b o v (by rw[<-k.iV b (λL E t=>c ⟨L,E,t⟩)];exact q)
omit [Payload]in
def l3.forget{r:Mem}{g:Nat}{s':St}(n:l3 f r g s)(k:mW s s'):l3 f r g s' :=
 ⟨λb c=>by rw[k.w];exact n.blk b (by rw[<-k.own,<-k.β];exact c),λb o v q=>by rw[k.w];exact n.M b o v (k.less b o v q)⟩
omit [Payload]in
theorem jN.ghost{s':St}(n:jN Y f D j s)(k:eu s s'):jN Y f D j s':=by
 refine⟨λb c=>by rw[k.w];exact n.blk b (k.blk b c),λb o v q=>?_,λx O b o v q=>k.mem _ _ _ (n.ms x O b o v q)⟩;rw[k.w];by_cases c:∃L∈s.β,b∈L.bs
 .exact n.blk b (.inr c)
 .exact n.M b o v (by rw[<-k.iV b (λL E t=>c ⟨L,E,t⟩)];exact q)
def ny(f:Nat->Nat)(B g:Nat):Nat->Nat:=λb=>if b<B then f b else g
omit [Payload]in
theorem eZ{f:Nat->Nat}{B g b:Nat}(h:b<B):ny f B g b=f b:=by simp[ny,h]
omit [Payload]in
theorem tu{f:Nat->Nat}{B g b:Nat}(h:B<=b):ny f B g b=g:=by simp[ny,mo.2 h]
omit [Payload]in
def l3.step{r:Mem}{g:Nat}{s':St}{σ σ':List aP}(n:l3 f r g s)(F:aF σ' s')(st:Step σ s σ' s'):l3 (ny f s.w.heap.size g) r g s':=by
 refine⟨λb c=>?_,λb o v q=>?_⟩
 .rcases c with c|⟨L,E,c⟩
  .rw[st.own]at c;obtain⟨l,p⟩:=n.blk b (.inl c);exact⟨by grind[eZ],cU p st.size⟩
  .have G:=F.lt L E b c;rcases st.vd L E b c with l|⟨R,I,l⟩
   .grind [tu]
   .obtain⟨k1,Q⟩:=n.blk b (.inr ⟨R,I,l⟩);grind[eZ]
 .have G:=gM.lt F.mem q;rcases cC b s.w.heap.size with l|l
  .rw[eZ l];by_cases c:∃L∈s.β,b∈L.bs
   .exact⟨.inl (n.blk b (.inr c)).1,G⟩
   .rw[st.iV b l (λL E t=>c ⟨L,E,t⟩)]at q;exact⟨(n.M b o v q).1,G⟩
  grind[tu]
omit [Payload]in
def jN.step{s':St}{σ σ':List aP}(n:jN Y f D j s)(F:aF σ' s')(st:Step σ s σ' s')(hW:Y.Wg<s.w.heap.size)(hC:Y.C<s.w.heap.size)(Z:∀b,Y.Sh b->b<s.w.heap.size):jN Y (ny f s.w.heap.size 0) D j s':=by
 have S:∀b,s.w.heap.size<=b->b<s'.w.heap.size->ny f s.w.heap.size 0 b=0/\b≠Y.C/\b≠Y.Wg/\¬Y.Sh b/\b<s'.w.heap.size:=λb l p =>
  ⟨tu l,by omega,by omega,λh=>by grind,p⟩
 refine⟨λb c=>?_,λb o v q=>?_,λx O b o v q=>st.mem _ _ _ (n.ms x O b o v q)⟩
 .rcases c with c|⟨L,E,c⟩
  .rw[st.own]at c;obtain⟨l,p,u,H,A⟩:=n.blk b (.inl c);exact⟨by grind[eZ],p,u,H,cU A st.size⟩
  .have G:=F.lt L E b c;rcases st.vd L E b c with l|⟨R,I,l⟩
   .grind
   .obtain⟨k1,Q,U,V,T⟩:=n.blk b (.inr ⟨R,I,l⟩);grind[eZ]
 .have G:=gM.lt F.mem q;rcases cC b s.w.heap.size with l|l
  .by_cases c:∃L∈s.β,b∈L.bs
   .obtain⟨k1,Q,U,V,T⟩:=n.blk b (.inr c);grind[eZ]
   .rw[st.iV b l (λL E t=>c ⟨L,E,t⟩)]at q;obtain⟨k1,Q,U,V,T⟩:=n.M b o v q;grind[eZ]
  grind
end
end
section
open Go.Conc
open Go.ConcN (WD CTag Mode Vc Ssum pend phi cnt WgLive PayAt Has RW DWs WSit RelBy sumTo upd upd_same upd_ne AtR0 get_map_set get_map_set_same norel_of Deaf_still)
open Go.ConcR (KK WgAt stA smA rd wr mk Payload g_of_ofEvents)
variable [Payload]
section
variable (P:ar)(ty:aj)(Y:Lay)(N:Nat)(val:Nat->Nat->ah)(l:Nat->Nat)(c:Nat->Mem)
inductive WS (x:Nat):Nat->Nat->Rk->Nat->av->aA->Prop
 |am {r:Rk} {g:av} {s:St} {w:aA}:kq (Cx.work P) E0 (JM P ty Y N val x) r g s->ck s {s with w:=w}->l3 l (c x) (Y.base+x) s->WS x 1 7 r 0 g w
 |rel {m:Nat} {g:av} {w:aA}:Goes P af (RW ty Y.Wg Y.C N 0 (Y.kc*x)) Go.ConcR.DC0 (AtR0 P ty Y.Wg Y.C N 0 (Y.kc*x+1) (val x 0)) m g w->WS x 0 7 (Rk.nat m) 0 g w
 |tail {st m d:Nat} {g:av} {w:aA}:st<=6->WSit P ty Y.Wg Y.C N P2 P2 0 (Y.kc*x+1) (val x 0) st m d g w->WS x 0 st (Rk.nat m) d g w
structure Com(j:Nat)(gs:Array av)(w:aA)(t:Trace)(D:Nat->WD)(A:Nat->Nat)(K:Nat->Rk)(n:Nat):Prop where
 size:gs.size=Y.base+j
 lv:∀i g,0<i->i<Y.base->gs[i]?=aa g->∃m,K i=Rk.nat m/\QuitsD P m (Deaf t i) g
 above:∀i,Y.base+j<=i->Deaf t i=0
 wk:∀x,x<j->∃g,gs[Y.base+x]?=aa g/\WS P ty Y N val l c x (A x) (D x).stage (K (Y.base+x)) (D x).deaf g w
 tl:TL Y l c t j w.heap.size
 norel:rW t
 deaf0:Deaf t 0=n
 deafW:∀x,x<j->Deaf t (Y.base+x)=(D x).deaf
 rel:∀x,x<j->(D x).stage<=6->∃r,RelBy (stA Y.Wg) t (Y.base+x) r
 yb:∀x,x<j->A x=0->∀i,1<=i->i<Y.kc->w.cell? ⟨Y.C,Y.kc*x+i,ae⟩=aa (val x i)
 BN:∀x,x<j->(D x).stage<=6->Has Y.C (Y.kc*x) (val x 0) w
 pay:PayAt Y.C N w
 live:WgLive ty Y.Wg w
 Bg:Y.Wg<w.heap.size
 Dv:Y.C<w.heap.size
 M6:∀b,Y.Sh b->b<w.heap.size
 kc:0<Y.kc
 NR:∀y,y<j->∀b o v,c y b o=aa v->b<w.heap.size
end
section
variable {P:ar}{ty:aj}{Y:Lay}{N:Nat}{val:Nat->Nat->ah}{l hm':Nat->Nat}{c:Nat->Mem}{j x:Nat}{gs:Array av}{w w':aA}{t:Trace}{D:Nat->WD}{A:Nat->Nat}{K:Nat->Rk}{n:Nat}
def RW.JN(k:Hm Y l (c x) x w w')(hl:WgLive ty Y.Wg w')(a:PayAt Y.C N w')(hk:0<Y.kc):RW ty Y.Wg Y.C N 0 (Y.kc*x+1-1) w w' :=
 ⟨λb d=>absurd d (fL b),λ_=>hl,λ_=>a,k.pay _ (bh _) (by grind)⟩
def WS.JN{a st d:Nat}{r:Rk}{g:av}(h:WS P ty Y N val l c x a st r d g w)(k:Hm Y l (c x) x w w')(hl:WgLive ty Y.Wg w')(e:PayAt Y.C N w')(hk:0<Y.kc)(hh:∀b,b<w.heap.size->hm' b=l b):
  WS P ty Y N val hm' c x a st r d g w':=by
 cases h with
 |am h1 h2 h3=>exact .am h1 (h3.JN h2 k) (h3.tq h2.size hh)
 |rel h1=>exact .rel (Goes.rely (λ_ _ _ h1 h2=>h1.trans h2) h1 (RW.JN k hl e hk))
 |tail h0 h1=>exact .tail h0 (h1.rely (RW.JN k hl e hk))
omit [Payload]in
def kq.run{X:Cx P}{E:St->St->Array Event->Prop}{S:av->St->Prop}(p:∀g s,S g s->g.status=.running):∀{r:Rk}{g:av}{s:St},kq X E S r g s->g.status=.running
 |.leaf,_,_,h=>p _ _ h
 |.node f,g,s,h=>by
  rcases h with h|⟨s',_,h⟩|⟨h,_⟩
  .grind
  .exact kq.run p (r:=f s) h
  grind
def WS.status{a st d:Nat}{r:Rk}{g:av}(h:WS P ty Y N val l c x a st r d g w):g.status=.running∨g.status=.finished:=by
 cases h with
 |am h1 _ _=>exact .inl (h1.run λg s h=>h.1)
 |rel h1=>exact .inl (Goes.running (λ_ _ x=>x.1) w (Go.ConcN.RW.refl w) h1)
 |tail _ h1=>exact h1.status
def WS.woken{a st d:Nat}{r:Rk}{g:av}(h:WS P ty Y N val l c x a st r d g w)(b e:av)(w':aA):woken P b e w' g=g:=by
 unfold Go.Conc.woken;split
 .exact again_running _ h.status
 .rfl
def Com.at(h:Com P ty Y N val l c j gs w t D A K n)(d:Nat):Com P ty Y N val l c j gs (w.at d) t D A K n :=
 ⟨h.size,h.lv,h.above,λx a=>let ⟨g,h1,h2⟩:=h.wk x a;⟨g,h1,h2.JN (.at ..) h.live h.pay h.kc λ_ _=>rfl⟩,h.tl,h.norel,h.deaf0,h.deafW,h.rel,h.yb,h.BN,h.pay,h.live,h.Bg,h.Dv,h.M6,h.kc,h.NR⟩
def Com.stepW(h:Com P ty Y N val l c j gs w t D A K n)(hx:x<j){g g':av}{fn:aJ}{pos:String}{es:Array Event}{a' qC d':Nat}{r':Rk}(hh:∀b,b<w.heap.size->hm' b=l b)(u:w.heap.size<=w'.heap.size)(B:∀y,y<j->y≠x->Hm Y l (c y) y w w')(W:WS P ty Y N val hm' c x a' qC r' d' g' w')(Z:∀e∈es,(aK e).low w'.heap.size)(Xc:∀e∈es,∀a,(aK e).touch?=aa a->a.loc.isMemory=ab->qI Y hm' (c x) x a)(T:∀e∈es,∀a,e.loc≠.mark (.release a))(I:deafBehind (D x).deaf es=d')(acr:qC<=6->∃r,RelBy (stA Y.Wg) (t++MemOp.ofEvents (Y.base+x) fn pos es) (Y.base+x) r)(h1:a'=0->∀i,1<=i->i<Y.kc->w'.cell? ⟨Y.C,Y.kc*x+i,ae⟩=aa (val x i))(h0:qC<=6->Has Y.C (Y.kc*x) (val x 0) w')(G:PayAt Y.C N w')(q:WgLive ty Y.Wg w'):
  Com P ty Y N val hm' c j ((gs.map (woken P g g' w')).setIfInBounds (Y.base+x) g') w' (t++MemOp.ofEvents (Y.base+x) fn pos es) (upd D x ⟨qC,0,d'⟩) (upd A x a') (upd K (Y.base+x) r') n:=by
 have hb:=h.tl.base;have F:∀y,y≠x->Y.base+x≠Y.base+y:=λy d e=>d (by omega);have O:∀i H,0<i->i<Y.base->((gs.map (Go.Conc.woken P g g' w')).setIfInBounds (Y.base+x) g')[i]?=aa H->gs[i]?=aa H:=by intro i H hi P3 yc;rw[get_map_set _ _ _ _ (by omega)]at yc;obtain⟨z,hz,rfl⟩:=qP.1 yc;obtain⟨m,_,hq⟩:=h.lv i z hi P3 hz;grind[woken_quitsD]
 refine⟨by simp[h.size],λi H hi P3 yc=>?_,λi hi=>?_,λy d=>?_,?_,h.norel.app T,by rw[Deaf_other t (by omega) _ g_of_ofEvents,h.deaf0],λy d=>?_,λy d k=>?_,λy d L i V R=>?_,λy d k=>?_,G,q,cU h.Bg u,cU h.Dv u,λb hb=>cU (h.M6 b hb) u,h.kc,λy d b o v U=>cU (h.NR y d b o v U) u⟩
 .obtain⟨m,Q,M⟩:=h.lv i H hi P3 (O i H hi P3 yc);refine⟨m,by rw[upd_ne K _ (by omega)];exact Q,?_⟩;rw[Deaf_other t (by omega) _ g_of_ofEvents];exact M
 .rw[Deaf_other t (by omega) _ g_of_ofEvents];exact h.above i hi
 .by_cases e:y=x
  .subst e;exact⟨g',get_map_set_same _ _ _ (by rw[h.size];omega),by rw[upd_same,upd_same,upd_same];exact W⟩
  .obtain⟨H,yc,J⟩:=h.wk y d;refine⟨H,by rw[get_map_set _ _ _ _ (F y e),yc,n5,J.woken],?_⟩;rw[upd_ne A _ e,upd_ne D _ e,upd_ne K _ (F y e).symm];exact J.JN (B y d e) q G h.kc hh
 .refine(h.tl.tq hh u h.Bg h.Dv h.M6 λy d b o v U=>?_).appW hx (λop mr=>by grind[Go.Conc.mem_ofEvents]) (λop mr=>?_) (λop mr a L hma=>?_)
  .exact h.NR y d b o v U
  .grind [Go.Conc.mem_ofEvents]
  grind[Go.Conc.mem_ofEvents]
 .by_cases e:y=x
  .subst e;rw[Deaf_own,h.deafW y d,upd_same];exact I
  .rw[Deaf_other t (F y e) _ g_of_ofEvents,h.deafW y d,upd_ne D _ e]
 .by_cases e:y=x
  .subst e;rw[upd_same]at k;grind
  .rw[upd_ne D _ e]at k;obtain⟨r,hr⟩:=h.rel y d k;exact⟨r,hr.appOther g_of_ofEvents (F y e)⟩
 .by_cases e:y=x
  .subst e;rw[upd_same]at L;grind
  .rw[upd_ne A _ e]at L;rw[(B y d e).pay _ (by omega) (by omega)];exact h.yb y d L i V R
 .by_cases e:y=x
  .subst e;rw[upd_same]at k;grind
  .rw[upd_ne D _ e]at k;have:=h.BN y d k;have hk:=h.kc;simp only[Has]at this⊢;rw[(B y d e).pay _ (by omega) (by omega)];exact this
def Com.step0(h:Com P ty Y N val l c j gs w t D A K n){g g':av}{fn:aJ}{pos:String}{es:Array Event}(hh:∀b,b<w.heap.size->hm' b=l b)(q:w.heap.size<=w'.heap.size)(u:∀y,y<j->Hm Y l (c y) y w w')(R:∀e∈es,(aK e).low w'.heap.size)(htm:∀e∈es,∀a,(aK e).touch?=aa a->a.loc.isMemory=ab->sj Y hm' a)(W:∀e∈es,∀a,(aK e).touch?=aa a->a.kind=.plain->a.write=ab->∀x,x<j->∀b o v,a.loc=.cell ⟨b,o,ae⟩->c x b o≠aa v)(L:∀e∈es,∀a,e.loc≠.mark (.release a))(B:PayAt Y.C N w')(k:WgLive ty Y.Wg w'):
  Com P ty Y N val hm' c j ((gs.map (woken P g g' w')).setIfInBounds 0 g') w' (t++MemOp.ofEvents 0 fn pos es) D A K (deafBehind n es):=by
 have T:=h.tl.base;have hk:=h.kc;refine⟨by simp[h.size],λi Q hi P3 yc=>?_,λi hi=>?_,λy d=>?_,?_,h.norel.app L,by rw[Deaf_own,h.deaf0],λy d=>by rw[Deaf_other t (by omega) _ g_of_ofEvents,h.deafW y d],λy d F=>?_,λy d O i M J=>?_,λy d F=>?_,B,k,cU h.Bg q,cU h.Dv q,λb T=>cU (h.M6 b T) q,h.kc,λy d b o v V=>cU (h.NR y d b o v V) q⟩
 .rw[get_map_set _ _ _ _ (by omega)]at yc;obtain⟨z,Z,rfl⟩:=qP.1 yc;obtain⟨m,I,G⟩:=h.lv i z hi P3 Z;exact⟨m,I,by rw[woken_quitsD G,Deaf_other t (by omega) _ g_of_ofEvents];exact G⟩
 .rw[Deaf_other t (by omega) _ g_of_ofEvents];exact h.above i hi
 .obtain⟨Q,yc,H⟩:=h.wk y d;exact⟨Q,by rw[get_map_set _ _ _ _ (by omega),yc,n5,H.woken],H.JN (u y d) k B h.kc hh⟩
 .refine(h.tl.tq hh q h.Bg h.Dv h.M6 h.NR).app0 (λop mr=>by grind[Go.Conc.mem_ofEvents]) (λop mr=>?_) (λop mr a O U=>?_) (λop mr a O=>?_)
  .grind [Go.Conc.mem_ofEvents]
  .grind [Go.Conc.mem_ofEvents]
  grind[Go.Conc.mem_ofEvents]
 .obtain⟨r,hr⟩:=h.rel y d F;exact⟨r,hr.appOther g_of_ofEvents (by omega)⟩
 .rw[(u y d).pay _ (by omega) (by omega)];exact h.yb y d O i M J
 .have:=h.BN y d F;simp only[Has]at this⊢;rw[(u y d).pay _ (by omega) (by omega)];exact this
def Com.leave(h:Com P ty Y N val l c j gs w t D A K n){i m:Nat}(hi:0<i)(G:i<Y.base){g g':av}{fn:aJ}{pos:String}{es:Array Event}(B:∀e∈es,e.mute=ab)(M:QuitsD P m (deafBehind (Deaf t i) es) g'):
  Com P ty Y N val l c j ((gs.map (woken P g g' w)).setIfInBounds i g') w (t++MemOp.ofEvents i fn pos es) D A (upd K i (Rk.nat m)) n:=by
 have L:=h.tl.base;have q:∀e∈es,∀a,e.loc≠.mark (.release a):=λe F a=>vL (B e F) a;refine⟨by simp[h.size],λk C hk hkb yc=>?_,λk hk=>?_,λy b=>?_,?_,h.norel.app q,by rw[Deaf_other t (by omega) _ g_of_ofEvents,h.deaf0],λy b=>by rw[Deaf_other t (by omega) _ g_of_ofEvents,h.deafW y b],λy b u=>?_,h.yb,h.BN,h.pay,h.live,h.Bg,h.Dv,h.M6,h.kc,h.NR⟩
 .by_cases e:k=i
  .subst e;rw[get_map_set_same _ _ _ (by grind)]at yc;cases yc;exact⟨m,by rw[upd_same],by grind[Deaf_own]⟩
  .rw[get_map_set _ _ _ _ (Ne.symm e)]at yc;obtain⟨z,I,rfl⟩:=qP.1 yc;obtain⟨H,v,d⟩:=h.lv k z hk hkb I;exact⟨H,by rw[upd_ne K _ e];exact v,by rw[woken_quitsD d,Deaf_other t (Ne.symm e) _ g_of_ofEvents];exact d⟩
 .rw[Deaf_other t (by omega) _ g_of_ofEvents];exact h.above k hk
 .obtain⟨C,yc,o⟩:=h.wk y b;exact⟨C,by rw[get_map_set _ _ _ _ (by omega),yc,n5,o.woken],by rw[upd_ne K _ (by omega)];exact o⟩
 .exact h.tl.mute (g:=i) (λop mr=>by grind[Go.Conc.mem_ofEvents]) (λop mr=>by grind[Go.Conc.mem_ofEvents,low_mute]) (λop mr=>by grind[Go.Conc.mem_ofEvents,touch_mute])
 .obtain⟨r,J⟩:=h.rel y b u;exact⟨r,J.appOther g_of_ofEvents (by omega)⟩
def Com.spawn(h:Com P ty Y N val l c j gs w t D A K 0){a' child:av}{x y:MemOp}{r:Rk}{s:St}(R:x.g=0/\x.act=.go (Y.base+j))(L:y.g=Y.base+j/\y.act=.start)(J:∀b o v,c j b o=aa v->l b=0/\b≠Y.C/\b≠Y.Wg/\¬Y.Sh b/\b<w.heap.size)(Q:kq (Cx.work P) E0 (JM P ty Y N val j) r child s)(B:ck s {s with w:=w})(M:l3 l (c j) (Y.base+j) s):
  Com P ty Y N val l c (j+1) ((gs.setIfInBounds 0 a').push child) w (t++#[x,y]) (upd D j ⟨7,0,0⟩) (upd A j 1) (upd K (Y.base+j) r) 0:=by
 have T:=h.tl.base;have O:∀op∈#[x,y],op=x∨op=y:=by grind
 have d:∀op∈#[x,y],op.act≠.mark .disable/\op.act≠.mark .enable:=by grind
 have q:∀i,0<i->i<Y.base+j->((gs.setIfInBounds 0 a').push child)[i]?=gs[i]?:=λi hi ta=>by rw[Array.getElem?_push_lt (by simp[h.size];omega),<-fU,vJ (by omega)]
 refine⟨by simp[h.size];omega,λi g hi P3 hg=>?_,λi hi=>?_,λz k=>?_,h.tl.fork R L h.deaf0 (h.above _ (bh _)) λb o v u=>let ⟨h1,h2,H,I,_⟩:=J b o v u;⟨h1,h2,H,I⟩,λad=>(h.norel ad).app λop mr=>?_,by rw[Deaf_still t 0 _ d,h.deaf0],λz k=>?_,λz k e=>?_,λz k F=>?_,λz k e=>?_,h.pay,h.live,h.Bg,h.Dv,h.M6,h.kc,λz k b o v u=>?_⟩
 .rw[q i hi (by omega)]at hg;obtain⟨m,h1,h2⟩:=h.lv i g hi P3 hg;exact⟨m,by rw[upd_ne K _ (by omega)];exact h1,by rw[Deaf_still t _ _ d];exact h2⟩
 .rw[Deaf_still t _ _ d];exact h.above i (by omega)
 .rcases cC z j with ta|a
  .obtain⟨g,hg,G⟩:=h.wk z ta;exact⟨g,by grind,by rw[upd_ne D _ (by omega),upd_ne A _ (by omega),upd_ne K _ (by omega)];exact G⟩
  .obtain rfl:z=j:=by omega
   refine⟨child,?_,by rw[upd_same,upd_same,upd_same];exact .am Q B M⟩;rw[show Y.base+z=(gs.setIfInBounds 0 a').size by simp[h.size],Array.getElem?_push_size]
 .grind
 .rw[Deaf_still t _ _ d];rcases cC z j with ta|a
  .rw[h.deafW z ta,upd_ne D _ (by omega)]
  .obtain rfl:z=j:=by omega
   rw[upd_same];exact h.above _ (bh _)
 .rcases cC z j with ta|a
  .rw[upd_ne D _ (by omega)]at e;obtain⟨r,B⟩:=h.rel z ta e;refine⟨r,B.appNot λop mr=>?_⟩;grind
  .obtain rfl:z=j:=by omega
   rw[upd_same]at e;grind
 .rcases cC z j with ta|a
  .rw[upd_ne A _ (by omega)]at F;exact h.yb z ta F
  .obtain rfl:z=j:=by omega
   rw[upd_same]at F;grind
 .rcases cC z j with ta|a
  .rw[upd_ne D _ (by omega)]at e;exact h.BN z ta e
  .obtain rfl:z=j:=by omega
   rw[upd_same]at e;grind
 .rcases cC z j with ta|a
  .exact h.NR z ta b o v u
  grind
end
end
section
open Go.Conc
open Go.ConcN (WD CTag Mode Vc Ssum pend phi cnt WgLive PayAt Has RW DWs WSit RelBy sumTo upd upd_same upd_ne AtR0)
open Go.ConcR (KK WgAt stA smA rd wr mk Payload g_of_ofEvents again_blocked)
variable [Payload]
section
variable (P:ar)(ty:aj)(Y:Lay)(N:Nat)(val:Nat->Nat->ah)(n:Nat)(T l:av->St->Prop)
def AtAcq(g:av)(s:St):Prop:=g.status=.running/\∃g',(∀w,aH P ab g w=.go g' w #[mk (.acquire (stA Y.Wg))])/\∀c,(Cx.lead P ty Y.Wg).rely s c->T g' c
def AtKe(g:av)(s:St):Prop:=g.status=.running/\∃g',(∀w,aH P ab g w=.go g' w #[mk .enable])/\∀c,(Cx.lead P ty Y.Wg).rely s c->(er (Cx.lead P ty Y.Wg) (Es Y.Wg)) (AtAcq P ty Y T) g' c
def AtW4(g:av)(s:St):Prop:=g.status=.running/\∀c,(Cx.lead P ty Y.Wg).rely s c->WgAt ty Y.Wg c.w 0 0->∃g',aH P ab g c.w=.go g' c.w #[rd (stA Y.Wg)]/\(er (Cx.lead P ty Y.Wg) (Es Y.Wg)) (AtKe P ty Y T) g' c
def AtW3(g:av)(s:St):Prop:=g.status=.running/\g.offers=ae/\∀c,(Cx.lead P ty Y.Wg).rely s c ->
 ((∃st,WgAt ty Y.Wg c.w st 0)->aH P ab g c.w=.go {g with status:=.blocked} c.w #[]) /\
 (WgAt ty Y.Wg c.w 0 1->∃g',aH P ab g c.w=.go g' (c.w.setCell (smA Y.Wg) (.int .u32 0)) (semEvents (smA Y.Wg))/\(er (Cx.lead P ty Y.Wg) (Es Y.Wg)) (AtW4 P ty Y T) g' {c with w:=c.w.setCell (smA Y.Wg) (.int .u32 0)})
def AtW2(vs:Nat)(g:av)(s:St):Prop:=g.status=.running/\∀c,(Cx.lead P ty Y.Wg).rely s c->∀v:Nat,v<2147483648->WgAt ty Y.Wg c.w (v*KK) 0 ->
 (v=vs->∃g',aH P ab g c.w=.go g' (c.w.setCell (stA Y.Wg) (.int .u64 (v*KK+1))) #[rd (stA Y.Wg),wr (stA Y.Wg)]/\(er (Cx.lead P ty Y.Wg) (Es Y.Wg)) (AtW3 P ty Y T) g' {c with w:=c.w.setCell (stA Y.Wg) (.int .u64 (v*KK+1))}) /\
 (v≠vs->∃g',aH P ab g c.w=.go g' c.w #[rd (stA Y.Wg)]/\l g' c)
def AtW1(g:av)(s:St):Prop:=g.status=.running/\∀c,(Cx.lead P ty Y.Wg).rely s c->∀v:Nat,v<2147483648->WgAt ty Y.Wg c.w (v*KK) 0 ->
 ∃g',aH P ab g c.w=.go g' c.w #[rd (stA Y.Wg)]/\(v=0->(er (Cx.lead P ty Y.Wg) (Es Y.Wg)) (AtKe P ty Y T) g' c)/\(v≠0->(er (Cx.lead P ty Y.Wg) (Es Y.Wg)) (AtW2 P ty Y T l v) g' c)
def AtKd(g:av)(s:St):Prop:=g.status=.running/\∃g',(∀w,aH P ab g w=.go g' w #[mk .disable])/\∀c,(Cx.lead P ty Y.Wg).rely s c->l g' c
def St.child(s:St):St:={β:=[],M:=s.M,w:=s.w,own:=λ_=>False}
def AtGo(j:Nat)(Next:av->St->Prop)(g:av)(s:St):Prop:=g.status=.running/\∀c,(Cx.lead P ty Y.Wg).rely s c ->
 ∃g' child,aH P ab g c.w=.spawn g' child c.w #[]/\child.status=.running/\er (Cx.work P) E0 (JM P ty Y N val j) child c.child/\Next g' c
def AtKeS(j:Nat)(Next:av->St->Prop)(g:av)(s:St):Prop:=g.status=.running/\∃g',(∀w,aH P ab g w=.go g' w #[mk .enable])/\∀c,(Cx.lead P ty Y.Wg).rely s c->(er (Cx.lead P ty Y.Wg) (Es Y.Wg)) (AtGo P ty Y N val j Next) g' c
def AtA1(j:Nat)(Next:av->St->Prop)(g:av)(s:St):Prop:=g.status=.running/\∀c,(Cx.lead P ty Y.Wg).rely s c->∀v:Nat,v<2147483647->WgAt ty Y.Wg c.w (v*KK) 0 ->
 ∃g',aH P ab g c.w=.go g' (c.w.setCell (stA Y.Wg) (.int .u64 ((v+1)*KK))) #[rd (stA Y.Wg),wr (stA Y.Wg)]/\(er (Cx.lead P ty Y.Wg) (Es Y.Wg)) (AtKeS P ty Y N val j Next) g' {c with w:=c.w.setCell (stA Y.Wg) (.int .u64 ((v+1)*KK))}
def AtKdS(j:Nat)(Next:av->St->Prop)(g:av)(s:St):Prop:=g.status=.running/\∃g',(∀w,aH P ab g w=.go g' w #[mk .disable])/\∀c,(Cx.lead P ty Y.Wg).rely s c->(er (Cx.lead P ty Y.Wg) (Es Y.Wg)) (AtA1 P ty Y N val j Next) g' c
def Spawns:Nat->av->St->Prop
 |0,g,s=>(er (Cx.lead P ty Y.Wg) (Es Y.Wg)) (AtKd P ty Y l) g s
 |r+1,g,s=>(er (Cx.lead P ty Y.Wg) (Es Y.Wg)) (AtKdS P ty Y N val (n-(r+1)) (Spawns r)) g s
def Rk.lift:Rk->Rk
 |.leaf=>.node λ_=>.leaf
 |.node f=>.node λs=>Rk.lift (f s)
omit [Payload]in
def Rk.FQ:∀{x r:Rk},Rk.lt x r->Rk.lt x.lift r.lift
 |_,.leaf,h=>h.elim
 |_,.node _,⟨s,h⟩=>⟨s,h.elim (λe=>.inl (by rw[e])) λh=>.inr (Rk.FQ h)⟩
omit [Payload]in
def Rk.JO(s:St):∀r:Rk,∃x,Rk.lt x r.lift
 |.leaf=>⟨.leaf,s,.inl rfl⟩
 |.node f=>⟨(f s).lift,s,.inl rfl⟩
inductive CS:CTag->Nat->Rk->Nat->av->St->Prop
 |skd {r:Nat} {rk:Rk} {g:av} {s:St}:r<n->(kq (Cx.lead P ty Y.Wg) (Es Y.Wg)) (AtKdS P ty Y N val (n-(r+1)) (Spawns P ty Y N val n l r)) rk g s->CS (.sp r 5) (n-(r+1)) rk 0 g s
 |sa1 {r:Nat} {rk:Rk} {g:av} {s:St}:r<n->(kq (Cx.lead P ty Y.Wg) (Es Y.Wg)) (AtA1 P ty Y N val (n-(r+1)) (Spawns P ty Y N val n l r)) rk g s->CS (.sp r 4) (n-(r+1)) rk 1 g s
 |ske {r:Nat} {rk:Rk} {g:av} {s:St}:r<n->(kq (Cx.lead P ty Y.Wg) (Es Y.Wg)) (AtKeS P ty Y N val (n-(r+1)) (Spawns P ty Y N val n l r)) rk g s->CS (.sp r 3) (n-(r+1)) rk 1 g s
 |sgo {r:Nat} {rk:Rk} {g:av} {s:St}:r<n->(kq (Cx.lead P ty Y.Wg) (Es Y.Wg)) (AtGo P ty Y N val (n-(r+1)) (Spawns P ty Y N val n l r)) rk g s->CS (.sp r 2) (n-(r+1)) rk 0 g s
 |kd {rk:Rk} {g:av} {s:St}:(kq (Cx.lead P ty Y.Wg) (Es Y.Wg)) (AtKd P ty Y l) rk g s->CS .kd n rk 0 g s
 |w1 {rk:Rk} {g:av} {s:St}:(kq (Cx.lead P ty Y.Wg) (Es Y.Wg)) (AtW1 P ty Y T l) rk g s->CS .w1 n rk 1 g s
 |w2 {vs:Nat} {rk:Rk} {g:av} {s:St}:(kq (Cx.lead P ty Y.Wg) (Es Y.Wg)) (AtW2 P ty Y T l vs) rk g s->CS (.w2 vs) n rk 1 g s
 |w3 {rk:Rk} {g:av} {s:St}:(kq (Cx.lead P ty Y.Wg) (Es Y.Wg)) (AtW3 P ty Y T) rk g s->CS .w3 n rk.lift 1 g s
 |blk {rk:Rk} {g:av} {s:St}:AtW3 P ty Y T g s->CS .blk n rk 1 {g with status:=.blocked} s
 |w4 {rk:Rk} {g:av} {s:St}:(kq (Cx.lead P ty Y.Wg) (Es Y.Wg)) (AtW4 P ty Y T) rk g s->CS .w4 n rk 1 g s
 |ke {rk:Rk} {g:av} {s:St}:(kq (Cx.lead P ty Y.Wg) (Es Y.Wg)) (AtKe P ty Y T) rk g s->CS .ke n rk 1 g s
 |acq {rk:Rk} {g:av} {s:St}:(kq (Cx.lead P ty Y.Wg) (Es Y.Wg)) (AtAcq P ty Y T) rk g s->CS .acq n rk 0 g s
structure NS(p:Nat->Nat)(o:Nat->Mem)(m:Machine)(t:Trace):Prop where
 out:∃(gs:Array av) (w:aA) (sl:Option (Nat×Nat)) (a:av) (s:St) (q:Nat->Nat),m=crowd gs w sl/\gs[0]?=aa a/\gs.size=Y.base+n/\T a {s with w:=w}/\ck s {s with w:=w}/\jN Y p o n s /\
  Leavers P t gs q/\Past (lW λb=>Y.Sh b∨b=Y.Wg) w.heap.size t/\rW t/\PayAt Y.C N w/\(∀x,x<n->∀i,i<Y.kc->w.cell? ⟨Y.C,Y.kc*x+i,ae⟩=aa (val x i))/\Y.C<w.heap.size/\Y.Wg<w.heap.size/\∀b,Y.Sh b->b<w.heap.size
abbrev Mu:=Nat×((Nat->Rk)×Rk)
def FR(M:Nat):Mu->Mu->Prop:=Prod.Lex (· < ·) (Prod.Lex (Vec M) Rk.lt)
omit [Payload]in
def Rz(M:Nat):WellFounded (FR M):=(Prod.lex Nat.lt_wfRel ⟨_,(Prod.lex ⟨Vec M,JL M⟩ ⟨Rk.lt,⟨Rk.acc⟩⟩).wf⟩).wf
structure tv(μ:Mu)(gs:Array av)(w:aA)(t:Trace)(p:Nat->Nat)(o:Nat->Mem)(j:Nat)(D:Nat->WD)(A:Nat->Nat)(K:Nat->Rk)(d0:Nat)(tag:CTag)(rk:Rk)(a:av)(s:St)(st sm:Int):Prop where
 a0:gs[0]?=aa a
 cs:CS P ty Y N val n T l tag j rk d0 a s
 rely:ck s {s with w:=w}
 lead:jN Y p o j s
 gk:Com P ty Y N val p o j gs w t D A K d0
 wg:WgAt ty Y.Wg w st sm
 mode:Go.ConcN.Mode j D tag st sm
 mu:μ=(phi n (Vc j D) tag+Ssum j D+sumTo j A,(K,rk))
def Inv(i:Mu)(m:Machine)(t:Trace):Prop :=
 ∃(gs:Array av) (w:aA) (sl:Option (Nat×Nat)) (p:Nat->Nat) (o:Nat->Mem) (j:Nat) (D:Nat->WD) (A:Nat->Nat) (K:Nat->Rk) (b:Nat) (tag:CTag) (rk:Rk) (a:av) (s:St) (st sm:Int),
  m=crowd gs w sl/\tv P ty Y N val n T l i gs w t p o j D A K b tag rk a s st sm
end
section
variable {P:ar}{ty:aj}{Y:Lay}{N:Nat}{val:Nat->Nat->ah}{n:Nat}{T l:av->St->Prop}{p hm':Nat->Nat}{o:Nat->Mem}{j:Nat}{tag:CTag}{rk:Rk}{d:Nat}{a:av}{s:St}{w w':aA}
omit [Payload]in
def fP{s:St}(h:ck s {s with w:=w})(B:WgLive ty Y.Wg w):(Cx.lead P ty Y.Wg).rely s {s with w:=w}:=⟨h,λ_=>B⟩
omit [Payload]in
def AtW3.rely{g:av}{c:St}(h:AtW3 P ty Y T g s)(z:(Cx.lead P ty Y.Wg).rely s c):AtW3 P ty Y T g c :=
 ⟨h.1,h.2.1,λs2 u=>h.2.2 s2 ⟨z.1.trans u.1,λx=>u.2 (z.2 x)⟩⟩
def CS.status(h:CS P ty Y N val n T l tag j rk d a s):(a.status=.running/\tag≠.blk)∨(a.status=.blocked/\tag=.blk):=by
 cases h with
 |skd _ h=>exact .inl ⟨h.run λ_ _ x=>x.1,by simp⟩
 |sa1 _ h=>exact .inl ⟨h.run λ_ _ x=>x.1,by simp⟩
 |ske _ h=>exact .inl ⟨h.run λ_ _ x=>x.1,by simp⟩
 |sgo _ h=>exact .inl ⟨h.run λ_ _ x=>x.1,by simp⟩
 |kd h=>exact .inl ⟨h.run λ_ _ x=>x.1,by simp⟩
 |w1 h=>exact .inl ⟨h.run λ_ _ x=>x.1,by simp⟩
 |w2 h=>exact .inl ⟨h.run λ_ _ x=>x.1,by simp⟩
 |w3 h=>exact .inl ⟨h.run λ_ _ x=>x.1,by simp⟩
 |blk h=>grind
 |w4 h=>exact .inl ⟨h.run λ_ _ x=>x.1,by simp⟩
 |ke h=>exact .inl ⟨h.run λ_ _ x=>x.1,by simp⟩
 |acq h=>exact .inl ⟨h.run λ_ _ x=>x.1,by simp⟩
def CS.wokenBy(h:CS P ty Y N val n T l tag j rk d a s)(g g':av)(w':aA):
  ∃tag' rk',CS P ty Y N val n T l tag' j rk' d (woken P g g' w' a) s/\(tag'=tag∨(tag=.blk/\tag'=.w3))/\(mayWake P g=ab->g'.status=.running->tag'≠.blk):=by
 unfold Go.Conc.woken;split
 .rcases h.status with⟨i,b⟩|⟨_,rfl⟩
  .grind [again_running]
  .cases h with
   |blk hb=>exact⟨.w3,Rk.lift .leaf,by rw[again_blocked hb.1 hb.2.1];exact .w3 (show kq _ _ _ .leaf _ _ from hb),.inr ⟨rfl,rfl⟩,λ_ _=>by simp⟩
 grind
def kS{μ:Mu}{gs:Array av}{sl:Option (Nat×Nat)}{t:Trace}{D:Nat->WD}{A:Nat->Nat}{K:Nat->Rk}{st sm:Int}(I:tv P ty Y N val n T l μ gs w t p o j D A K d tag rk a s st sm){x:Nat}(W:x<j){g g':av}{es:Array Event}{a' s' d':Nat}{r':Rk}{F J:Int}(hg:gs[Y.base+x]?=aa g)(X:aH P af g w=.go g' w' es)(hh:∀b,b<w.heap.size->hm' b=p b)(IM:w.heap.size<=w'.heap.size)(V:∀y,y<j->y≠x->Hm Y p (o y) y w w')(G:DX Y p w w')(hws:WS P ty Y N val hm' o x a' s' r' d' g' w')(S:∀e∈es,(aK e).low w'.heap.size)(Xc:∀e∈es,∀a,(aK e).touch?=aa a->a.loc.isMemory=ab->qI Y hm' (o x) x a)(UD:∀e∈es,∀a,e.loc≠.mark (.release a))(H:deafBehind (D x).deaf es=d')(U:s'<=6->∃r,RelBy (stA Y.Wg) (t++MemOp.ofEvents (Y.base+x) g.frame.fn g.frame.place es) (Y.base+x) r)(h1:a'=0->∀i,1<=i->i<Y.kc->w'.cell? ⟨Y.C,Y.kc*x+i,ae⟩=aa (val x i))(h0:s'<=6->Has Y.C (Y.kc*x) (val x 0) w')(Q:PayAt Y.C N w')(O:WgAt ty Y.Wg w' F J)(E:∀tag',(tag'=tag∨(tag=.blk/\tag'=.w3))->(mayWake P g=ab->g'.status=.running->tag'≠.blk)->Go.ConcN.Mode j (upd D x ⟨s',0,d'⟩) tag' F J)(ta:(s'+a'<(D x).stage+A x/\cnt ⟨s',0,d'⟩<=cnt (D x))∨(s'=(D x).stage/\a'=A x/\Rk.lt r' (K (Y.base+x))))(hjn:Y.base+j<=Y.base+n):
  ∃m ops μ',runT P (crowd gs w sl) (Y.base+x)=(.next m,ops)/\FR (Y.base+n) μ' μ/\Inv P ty Y N val n T l μ' m (t++ops):=by
 have hb:=I.gk.tl.base;obtain⟨tag',rk',R,q,X3⟩:=I.cs.wokenBy g g' w';have Z:(Y.base+x==0)=af:=by grind
 have L:=runT_crowd_go (P:=P) (sl:=sl) (i:=Y.base+x) hg (by rw[Z];exact X)
 have e1:=Go.ConcN.sumTo_upd D (⟨s',0,d'⟩:WD) cnt W;have e2:=Go.ConcN.sumTo_upd D (⟨s',0,d'⟩:WD) WD.stage W;have e3:sumTo j (upd A x a')+A x=sumTo j A+a':=Go.ConcN.sumTo_upd A a' id W;refine⟨_,_,(phi n (Vc j (upd D x ⟨s',0,d'⟩)) tag'+Ssum j (upd D x ⟨s',0,d'⟩)+sumTo j (upd A x a'),(upd K (Y.base+x) r',rk')),L,?_,
  _,w',sl,hm',o,j,_,_,_,d,tag',rk',woken P g g' w' a,s,F,J,rfl,⟨by rw[Go.ConcN.get_map_set _ _ _ _ (by omega),I.a0];rfl,R,I.lead.JN I.rely G,I.lead.tq I.rely.size hh,
   I.gk.stepW W hh IM V hws S Xc UD H U h1 h0 Q ⟨_,_,O⟩,O,E tag' q X3,rfl⟩⟩
 rw[I.mu,Go.ConcN.phi_retag n _ q];simp only[Vc,Ssum]at *;rcases ta with⟨q1,q2⟩|⟨q1,q2,q3⟩
 .refine Prod.Lex.left _ _ ?_;have:=Go.ConcN.phi_mono n (v':=sumTo j λa=>cnt (upd D x ⟨s',0,d'⟩ a)) (v:=sumTo j λa=>cnt (D a)) (by omega) tag;omega
 .have ec:cnt (⟨s',0,d'⟩:WD)=cnt (D x):=by simp only[cnt,q1]
  have ev:(sumTo j λa=>cnt (upd D x ⟨s',0,d'⟩ a))=sumTo j λa=>cnt (D a):=by omega
  have es':(sumTo j λa=>(upd D x ⟨s',0,d'⟩ a).stage)=sumTo j λa=>(D a).stage:=by omega
  have ea:sumTo j (upd A x a')=sumTo j A:=by omega
  rw[ev,es',ea];exact Prod.Lex.right _ (Prod.Lex.left _ _ ⟨Y.base+x,by omega,by rw[upd_same];exact q3,λk hk=>upd_ne K _ hk⟩)
end
end
section
open Go.Conc
open Go.ConcN (WD CTag Vc Ssum pend phi cnt WgLive PayAt Has RW DWs WSit RelBy sumTo upd upd_same upd_ne AtR0 isW3 isOpen OpenSt deafBehind_idle bk_cell okW_none Vc_upd Vc_le le_sumTo others_uncounted)
open Go.ConcR (KK WgAt stA smA rd wr mk Payload g_of_ofEvents Bk bk_of_mute ofEvent_loc_mark ofEvent_cell)
variable [Payload]
section
variable {P:ar}{ty:aj}{Y:Lay}{N:Nat}{val:Nat->Nat->ah}{n:Nat}{T G:av->St->Prop}{E hm':Nat->Nat}{O:Nat->Mem}{j:Nat}{tag:CTag}{rk:Rk}{d:Nat}{a:av}{s:St}{w w':aA}
omit [Payload]in
def Hm.wg(h:Aside Y.Wg w w')(F:E Y.Wg=0)(k:1<=Y.base)(hM:∀b o v,O j b o=aa v->b≠Y.Wg)(hC:Y.C≠Y.Wg):Hm Y E (O j) j w w' :=
 ⟨by rw[h.size];grind,λb _ Dr=>h.block b (λe=>by grind),λb o v H S=>by rw[jO (h.block b (hM b o v H))];exact S,λo _ _=>jO (h.block _ hC) o,h.os,h.tape,h.output⟩
omit [Payload]in
def DX.wg(h:Aside Y.Wg w w'):DX Y E w w':=⟨by rw[h.size];grind,λb _ _ _ z=>h.block b z,h.os,h.tape,h.output⟩
omit [Payload]in
def DX.refl(w:aA):DX Y E w w:=⟨bh _,λ_ _ _ _ _=>rfl,rfl,rfl,rfl⟩
omit [Payload]in
def JP{B:Nat}{es:Array Event}(h:∀e∈es,Bk Y.Wg e)(F:Y.Wg<B):∀e∈es,(aK e).low B:=by
 intro e c;rcases h e c with l|l|⟨ad,wr,rfl,J⟩
 .rw[ofEvent_loc_mark l];trivial
 .rw[ofEvent_loc_mark l];trivial
 .rw[ofEvent_cell];show ad.block<B;grind
omit [Payload]in
def NT{x:Nat}{es:Array Event}(h:∀e∈es,Bk Y.Wg e):∀e∈es,∀a,(aK e).touch?=aa a->a.loc.isMemory=ab->qI Y E (O x) x a:=by
 intro e c b k _;rcases h e c with l|l|⟨ad,wr,rfl,J⟩
 .rw[ofEvent_loc_mark l]at k;cases k
 .rw[ofEvent_loc_mark l]at k;cases k
 .rw[ofEvent_cell]at k;simp only[MemAct.touch?,dn]at k;subst k;exact .inl ⟨ad,rfl,J,rfl⟩
omit [Payload]in
def BO{es:Array Event}(h:∀e∈es,Bk Y.Wg e):∀e∈es,∀a,e.loc≠.mark (.release a):=by
 intro e c a W;rcases h e c with l|l|⟨ad,wr,rfl,_⟩
 .grind
 .grind
 grind
omit [Payload]in
def NU{x:Nat}{σ σ':List aP}{s2:St}{es:Array Event}(U:l3 E (O x) (Y.base+x) s)(V:aF σ s)(R:eY s es)(st:Step σ s σ' s2):
  (∀e∈es,(aK e).low s2.w.heap.size)/\(∀e∈es,∀a,(aK e).touch?=aa a->a.loc.isMemory=ab->qI Y (ny E s.w.heap.size (Y.base+x)) (O x) x a) /\
  (∀e∈es,e.loc≠.mark .disable/\e.loc≠.mark .enable)/\∀e∈es,∀a,e.loc≠.mark (.release a):=by
 have key:∀e∈es,(aK e).low s2.w.heap.size/\(∀a,(aK e).touch?=aa a->a.loc.isMemory=ab->qI Y (ny E s.w.heap.size (Y.base+x)) (O x) x a)/\(e.loc≠.mark .disable/\e.loc≠.mark .enable)/\∀a,e.loc≠.mark (.release a):=by
  intro e c;have h:=R e c;obtain⟨loc,wr,sy⟩:=e;cases loc with
  |cell ad =>
   obtain⟨l,z,p⟩:=h;simp only at l z p;subst l;have u:ad.block<s.w.heap.size:=by
    rcases p with p|⟨⟨L,Q,p⟩,_⟩|⟨_,v,p⟩
    .exact p.elim
    .exact V.lt L Q _ p
    .exact gM.lt V.mem p
   refine⟨by rw[ofEvent_cell];exact cU u st.size,λb k _=>?_,⟨by simp,by simp⟩,by simp⟩;rw[ofEvent_cell]at k;simp only[MemAct.touch?,dn]at k;subst k;refine .inr ⟨rfl,?_⟩;rcases p with p|⟨⟨L,Q,p⟩,_⟩|⟨Z,v,p⟩
   .exact p.elim
   .exact .inl ⟨ad.block,rfl,by rw[eZ u];exact(U.blk _ (.inr ⟨L,Q,p⟩)).1⟩
   .rcases(U.M _ _ _ p).1 with X|X
    .exact .inl ⟨ad.block,rfl,by grind[eZ]⟩
    .refine .inr (.inr ⟨Z,ad.block,ad.off,v,?_,X⟩);obtain⟨b,o,sp⟩:=ad;grind
  |obj r =>
   obtain⟨l,z⟩:=h;simp only at l z;subst l;obtain⟨L,Q,p⟩:=z.resolve_left id;have u:=V.lt L Q _ p;refine⟨?_,λb k _=>?_,⟨by simp,by simp⟩,by simp⟩
   .simp[aK,MemAct.low,Loc.low];exact cU u st.size
   .simp[aK,MemAct.touch?]at k;subst k;exact .inr ⟨rfl,.inl ⟨r,rfl,by rw[eZ u];exact(U.blk _ (.inr ⟨L,Q,p⟩)).1⟩⟩
  |mark m =>
   simp only[od]at h;rcases h with rfl|⟨f,rfl⟩
   .exact⟨by simp[aK,MemAct.low],λb k=>by simp[aK,MemAct.touch?]at k,⟨by simp,by simp⟩,by simp⟩
   .exact⟨by simp[aK,MemAct.low],λb k=>by simp[aK,MemAct.touch?]at k,⟨by simp,by simp⟩,by simp⟩
  |_=>exact h.elim
 grind
def stepWorker{μ:Mu}{gs:Array av}{sl:Option (Nat×Nat)}{t:Trace}{D:Nat->WD}{A:Nat->Nat}{K:Nat->Rk}{st sm:Int}(I:tv P ty Y N val n T G μ gs w t E O j D A K d tag rk a s st sm)(hn:n<2147483648)(hj:j<=n)(hpd:j+pend tag<=n){x:Nat}(hx:x<j){g:av}(hg:gs[Y.base+x]?=aa g)(wu:g.status=.running):
  ∃m₁ ops μ',runT P (crowd gs w sl) (Y.base+x)=(.next m₁,ops)/\FR (Y.base+n) μ' μ/\Inv P ty Y N val n T G μ' m₁ (t++ops):=by
 have JQ:=I.gk.tl.base;obtain⟨g₁,hg₁,hs⟩:=I.gk.wk x hx;obtain rfl:g=g₁:=by grind
 generalize FT:(D x).stage=sg at hs;generalize hfu:K (Y.base+x)=r at hs;generalize UE:(D x).deaf=dd at hs;generalize hA:A x=ax at hs;have hdk:Deaf t (Y.base+x)=dd:=by rw[I.gk.deafW x hx,UE]
 have hVj:=Vc_le j D;have same:∀m' FU,Go.ConcN.Mode j (upd D x ⟨sg,m',FU⟩) tag st sm:=λm' FU=>by have:=I.mode.same (i:=x) m' FU;grind
 cases hs with
 |@am r g s0 w l z p =>
  rcases l.norm (λs0=>ck s0 {s0 with w:=w}/\l3 E (O x) (Y.base+x) s0) (λs0 s' UF hi=>⟨hi.1.ghost UF,hi.2.ghost UF⟩) (λ_ s0 s' UF hi=>⟨hi.1.forget UF,hi.2.forget UF⟩) ⟨z,p⟩with⟨s',⟨k1,k2⟩,jP⟩|⟨_,s',⟨k1,k2⟩,l4⟩
  ·
   obtain⟨g',w2,es,hgo,F,X5,m,hk⟩:=jP.2 w k1 I.gk.pay I.gk.live;have hkc:=I.gk.kc;refine kS I hx hg hgo (hm':=E) (λ_ _=>rfl) (by rw[F.size];grind) (λy hy hyx=>⟨by rw[F.size];grind,λb _ k=>F.block b (λe=>by rw[e,I.gk.tl.hC]at k;omega),λb o v H S=>?_,λo ho1 ho2=>F.out o ?_,F.os,F.tape,F.output⟩)
    ⟨by rw[F.size];grind,λb _ _ z _=>F.block b z,F.os,F.tape,F.output⟩ (.rel hk) (λe c=>?_) (λe c b k _=>?_) (λe c=>?_) ?_ (λh=>absurd h (by decide)) (λ_ i _ hi=>F.new i hi) (λh=>absurd h (by decide)) F.pay
    (I.wg.of_block (F.block _ (Ne.symm I.gk.tl.ne))) (λ_ ht _=>(same _ _).retag ht) (.inl ⟨by omega,by simp[cnt,FT]⟩) (by omega)
   .rw[jO (F.block b (I.gk.tl.ms y hy b o v H).2.1)];exact S
   .rcases Nat.lt_or_gt_of_ne hyx with h|h
    .have:=u7 Y.kc (show y+1<=x from h);grind
    .have:=u7 Y.kc (show x+1<=y from h);grind
   .obtain⟨o,rfl,_⟩:=X5 e c;rw[ofEvent_cell];show Y.C<_;rw[F.size];exact I.gk.Dv
   .obtain⟨o,rfl,ho1,ho2⟩:=X5 e c;rw[ofEvent_cell]at k;simp only[MemAct.touch?,dn]at k;subst k;exact .inr ⟨rfl,.inr (.inl ⟨o,rfl,ho1,ho2⟩)⟩
   .grind
   .rw[UE];exact deafBehind_idle (λe c=>by grind) 0
  ·
   obtain⟨g',s2,es,r',hgo,X6,M3,u⟩:=l4 _ k1;obtain⟨⟨σ,σ',V,iY,IW⟩,R⟩:=X6.resolve_right id;have k3:l3 E (O x) (Y.base+x) {s' with w:=w}:=k2.rely k1.size;obtain⟨e1,e2,e3,e4⟩:=NU k3 V R IW;have wG:∀b,b<w.heap.size->E b≠Y.base+x->s2.w.heap[b]?=w.heap[b]?:=λb k Bp=>IW.fb b k λL Q Nh=>Bp (k3.blk b (.inr ⟨L,Q,Nh⟩)).1;refine kS I hx hg hgo (hm':=ny E w.heap.size (Y.base+x)) (λb k=>eZ k) IW.size (λy hy hyx=>⟨IW.size,λb k hby=>wG b k (by omega),λb o v H S=>?_,λo _ _=>jO (wG _ I.gk.Dv (by rw[I.gk.tl.hC];omega)) o,IW.os,IW.tape,IW.output⟩)
    ⟨IW.size,λb k h0 _ _=>wG b k (by omega),IW.os,IW.tape,IW.output⟩ (.am M3 (ck.wF iY.mem) (k3.step iY IW)) e1 e2 e4 (by rw[UE];exact deafBehind_idle e3 0) (λh=>absurd h (by decide)) (λh=>absurd h (by decide)) (λh=>absurd h (by decide)) ?_
    (I.wg.of_block (wG _ I.gk.Bg (by rw[I.gk.tl.IU];omega))) (λ_ ht _=>(same _ _).retag ht) (.inr ⟨FT.symm,hA.symm,by grind⟩) (by omega)
   .rw[jO (wG b (I.gk.NR y hy b o v H) (by rw[(I.gk.tl.ms y hy b o v H).1];omega))];exact S
   .obtain⟨cs,c1,c2⟩:=I.gk.pay;exact⟨cs,(wG _ I.gk.Dv (by rw[I.gk.tl.hC];omega)).trans c1,c2⟩
 |@rel m g w h =>
  rcases Goes.cases h with jP|⟨m',rfl,l4⟩
  ·
   obtain⟨_,acx,g',hgo,m₂,hk⟩:=jP w (Go.ConcN.RW.refl w);refine kS I hx hg hgo (hm':=E) (λ_ _=>rfl) (bh _) (λy _ _=>.refl ..) (.refl w) (.tail (by decide) (.k1 hk)) (λe c=>?_) (λe c b k _=>?_) (λe c=>?_) (by rw[UE];rfl) (λ_=>⟨t.size,RelBy.new hdk _ _⟩) (λ_=>I.gk.yb x hx hA) (λ_=>by grind) I.gk.pay I.wg
    (λ_ ht _=>(I.mode.counted hx (by omega) (.inl rfl) _ _).retag ht) (.inl ⟨by omega,by simp[cnt,FT]⟩) (by omega)
   .simp at c;subst c;exact I.gk.Bg
   .simp at c;subst c;simp[mk,aK,MemAct.touch?]at k
   .simp at c;subst c;simp[mk]
  .obtain⟨g',w',es,hgo,⟨rfl,rfl⟩,FV⟩:=l4 w (Go.ConcN.RW.refl w);exact kS I hx hg hgo (hm':=E) (λ_ _=>rfl) (bh _) (λy _ _=>.refl ..) (.refl w') (.rel FV) (by simp) (by simp) (by simp) (by rw[UE];rfl) (λh=>absurd h (by decide)) (λ_=>I.gk.yb x hx hA) (λh=>absurd h (by decide)) I.gk.pay I.wg (λ_ ht _=>(same _ _).retag ht)
    (.inr ⟨FT.symm,hA.symm,by rw[hfu];exact Rk.DW _ s⟩) (by omega)
 |@tail sg m dd g w h6 h =>
  have P4:∀{g':av} {w':aA} {es:Array Event} {s' m' FU:Nat} {qC Hn:Int},aH P af g w=.go g' w' es->Aside Y.Wg w w'->WgAt ty Y.Wg w' qC Hn->(∀e∈es,Bk Y.Wg e) ->
    (∀jx e,es[jx]?=aa e->(aK e).touch?=ae∨0<deafBehind dd (es.extract 0 jx))->s'<=6->WSit P ty Y.Wg Y.C N P2 P2 0 (Y.kc*x+1) (val x 0) s' m' FU g' w'->deafBehind dd es=FU ->
    (∀tag',(tag'=tag∨(tag=.blk/\tag'=.w3))->(mayWake P g=ab->g'.status=.running->tag'≠.blk)->Go.ConcN.Mode j (upd D x ⟨s',0,FU⟩) tag' qC Hn)->((s'<sg/\cnt ⟨s',0,FU⟩<=cnt (D x))∨(s'=sg/\m'+1=m)) ->
    ∃m₁ ops μ',runT P (crowd gs w sl) (Y.base+x)=(.next m₁,ops)/\FR (Y.base+n) μ' μ/\Inv P ty Y N val n T G μ' m₁ (t++ops):=by
   intro g' w' es s' m' FU qC Hn hgo NV JR Ho hd X7 UG hdd wH u;obtain⟨cs,X8,X9⟩:=I.gk.pay;refine kS I hx hg hgo (hm':=E) (λ_ _=>rfl) (by rw[NV.size];grind) (λy hy _=>.wg NV I.gk.tl.IU JQ (λb o v H=>(I.gk.tl.ms y hy b o v H).2.2.1) I.gk.tl.ne) (.wg NV) (.tail X7 UG) (JP Ho (by rw[NV.size];exact I.gk.Bg)) (NT Ho) (BO Ho) (by grind)
    (λ_=>let ⟨r,hr⟩:=I.gk.rel x hx (by omega);⟨r,hr.book hdk _ _ Ho hd⟩) (λ_ i hi1 M5=>(jO (NV.block _ I.gk.tl.ne) _).trans (I.gk.yb x hx hA i hi1 M5)) (λ_=>(jO (NV.block _ I.gk.tl.ne) _).trans (I.gk.BN x hx (by omega))) ⟨cs,(NV.block _ I.gk.tl.ne).trans X8,X9⟩ JR wH
    (u.imp (λh=>⟨by omega,h.2⟩) λh=>⟨by omega,hA.symm,by rw[hfu,<-h.2];exact Rk.DW _ s⟩) (by omega)
  have book:∀{g':av} {w':aA} {es:Array Event} {s' m' FU:Nat} {qC Hn:Int},aH P af g w=.go g' w' es->Aside Y.Wg w w'->WgAt ty Y.Wg w' qC Hn->(∀e∈es,Bk Y.Wg e) ->
    (∀jx e,es[jx]?=aa e->(aK e).touch?=ae∨0<deafBehind dd (es.extract 0 jx))->s'<=6->WSit P ty Y.Wg Y.C N P2 P2 0 (Y.kc*x+1) (val x 0) s' m' FU g' w'->deafBehind dd es=FU ->
    Go.ConcN.Mode j (upd D x ⟨s',0,FU⟩) tag qC Hn->((s'<sg/\cnt ⟨s',0,FU⟩<=cnt (D x))∨(s'=sg/\m'+1=m)) ->
    ∃m₁ ops μ',runT P (crowd gs w sl) (Y.base+x)=(.next m₁,ops)/\FR (Y.base+n) μ' μ/\Inv P ty Y N val n T G μ' m₁ (t++ops) :=
   λhgo NV JR Ho hd X7 UG hdd wH u=>P4 hgo NV JR Ho hd X7 UG hdd (λ_ ht _=>wH.retag ht) u
  have idle:∀{g':av} {m':Nat},aH P af g w=.go g' w #[]->WSit P ty Y.Wg Y.C N P2 P2 0 (Y.kc*x+1) (val x 0) sg m' dd g' w->m'+1=m ->
    ∃m₁ ops μ',runT P (crowd gs w sl) (Y.base+x)=(.next m₁,ops)/\FR (Y.base+n) μ' μ/\Inv P ty Y N val n T G μ' m₁ (t++ops):=by intro g' m' hgo UG E;exact book hgo (.refl Y.Wg w) I.wg (by simp) (by simp) h6 UG rfl (same _ _) (.inr ⟨rfl,E⟩)
  cases h with
  |r0 h=>omega
  |k1 h =>
   rcases Goes.cases h with jP|⟨m',rfl,l4⟩
   .obtain⟨_,g',hgo,m₂,hk⟩:=jP w (Go.ConcN.RW.refl w);exact book hgo (.refl Y.Wg w) I.wg (by intro e c;simp at c;subst c;exact .inl rfl) (by intro jx e c;exact .inl (by have:=u4 c;simp at this;subst this;rfl)) (by decide) (.d1 hk) rfl (I.mode.counted hx (by omega) (.inr rfl) _ _) (.inl ⟨by omega,by simp[cnt,FT]⟩)
   .obtain⟨g',w',es,hgo,⟨rfl,rfl⟩,FV⟩:=l4 w (Go.ConcN.RW.refl w);exact idle hgo (.k1 FV) rfl
  |d1 h =>
   rcases Goes.cases h with jP|⟨m',rfl,l4⟩
   .obtain⟨_,Rb⟩:=jP w (Go.ConcN.RW.refl w);have zY:=I.wg;have JS:=I.mode;have W0:cnt (D x)=1:=by simp[cnt,FT]
    have hV1:1<=Vc j D:=by have:=le_sumTo (f:=λx=>cnt (D x)) hx;simp only[Vc];omega
    have bk2:∀e∈#[rd (stA Y.Wg),wr (stA Y.Wg)],Bk Y.Wg e:=by intro e c;simp at c;rcases c with rfl|rfl<;>exact bk_cell _ _ rfl
    have Xd:∀jx e,(#[rd (stA Y.Wg),wr (stA Y.Wg)]:Array Event)[jx]?=aa e->(aK e).touch?=ae∨0<deafBehind 1 ((#[rd (stA Y.Wg),wr (stA Y.Wg)]:Array Event).extract 0 jx):=by
     intro jx e c
     match jx,c with
     |0,_=>exact .inr (by simp[deafBehind])
     |1,_=>exact .inr (by simp[deafBehind,rd])
     |jx+2,c=>simp at c
    have hq0:∀q,cnt (⟨1,q,1⟩:WD)=0:=λ_=>rfl;have b8:∀q,OpenSt j D->OpenSt j (upd D x ⟨1,q,1⟩):=λq h a J=>by
     by_cases e:a=x
     .subst e;rw[upd_same];simp
     .rw[upd_ne D _ e];exact h a J
    generalize acz:st=Ya at JS zY;generalize acA:sm=sm0 at JS zY;cases JS with
    |opn l z p =>
     obtain⟨v,H⟩:∃v,Vc j D+pend tag=v+1:=⟨Vc j D+pend tag-1,by omega⟩
     rw[H]at zY;have Q1:WgAt ty Y.Wg w (((v:Nat)+1)*KK+((0:Nat):Int)) 0:=by grind
     obtain⟨g',hgo,_,hq⟩:=Rb v 0 (by omega) (by omega) Q1;obtain⟨q,hq⟩:=hq (by omega);have WN:Vc j (upd D x ⟨1,0,1⟩)+pend tag=v:=by have:=Vc_upd D (⟨1,0,1⟩:WD) hx;grind
     refine book hgo (aside_setCell w (stA Y.Wg) _) (zY.setSt _) bk2 Xd (by decide) (.quit hq) rfl ?_ (.inl ⟨by omega,by grind⟩);have e:((v:Nat):Int)*KK+((0:Nat):Int)=((Vc j (upd D x ⟨1,0,1⟩)+pend tag:Nat):Int)*KK:=by grind
     rw[e];exact .opn l (b8 0 z) (λvs ev=>by grind)
    |reg l z p =>
     obtain⟨v,H⟩:∃v,Vc j D=v+1:=⟨Vc j D-1,by omega⟩
     rw[H]at zY;have hp:pend tag=0:=by cases tag<;>first|rfl|exact l.elim
     have Q1:WgAt ty Y.Wg w (((v:Nat)+1)*KK+((1:Nat):Int)) 0:=by grind
     obtain⟨g',hgo,W,hq⟩:=Rb v 1 (by omega) (by omega) Q1;by_cases Nj:v=0
     .subst Nj;obtain⟨m₂,hk⟩:=W ⟨rfl,rfl⟩;refine book hgo (aside_setCell w (stA Y.Wg) _) (zY.setSt _) bk2 Xd (by decide) (.d2 hk) rfl ?_ (.inl ⟨by omega,by simp[cnt]⟩);have DH:∀a,a<j->a≠x->(D a).stage=1:=λa J e=>by have c0:=others_uncounted hx H W0 a J e;have:=z a J;simp only[cnt]at c0;split at c0<;>omega
      have:=Go.ConcN.Mode.last (j:=j) (D:=upd D x ⟨4,0,1⟩) (tag:=tag) x l hx (by rw[upd_same];simp) (λa J e=>by rw[upd_ne D _ e];grind);rw[upd_same]at this;grind
     .obtain⟨q,hq⟩:=hq (by omega);have WN:Vc j (upd D x ⟨1,0,1⟩)=v:=by have:=Vc_upd D (⟨1,0,1⟩:WD) hx;grind
      refine book hgo (aside_setCell w (stA Y.Wg) _) (zY.setSt _) bk2 Xd (by decide) (.quit hq) rfl ?_ (.inl ⟨by omega,by grind⟩);have e:((v:Nat):Int)*KK+((1:Nat):Int)=((Vc j (upd D x ⟨1,0,1⟩):Nat):Int)*KK+1:=by grind
      rw[e];exact .reg l (b8 0 z) (by omega)
    |last L _ z p Z =>
     grind
    |sema z=>have:=z x hx;omega
    |fin _ z=>have:=z x hx;omega
   .obtain⟨g',w',es,hgo,⟨rfl,rfl⟩,FV⟩:=l4 w (Go.ConcN.RW.refl w);exact idle hgo (.d1 FV) rfl
  |d2 h =>
   rcases Goes.cases h with jP|⟨m',rfl,l4⟩
   .obtain⟨_,P5⟩:=jP w (Go.ConcN.RW.refl w);obtain⟨UH,DH,e1,e2⟩:=I.mode.isLast hx (by omega);have zY:=I.wg;rw[e1,e2,FT]at zY;obtain⟨g',hgo,m₂,hk⟩:=P5 (by grind);refine book hgo (.refl Y.Wg w) zY (by intro e c;simp at c;subst c;exact bk_cell _ _ rfl) (by intro jx e c;match jx,c with|0,_=>exact .inr (by simp[deafBehind])|jx+1,c=>grind) (by decide) (.d3 hk) rfl ?_ (.inl ⟨by omega,by simp[cnt]⟩);have:=Go.ConcN.Mode.last (j:=j) (D:=upd D x ⟨3,0,1⟩) (tag:=tag) x UH hx (by rw[upd_same];simp) (λa J e=>by rw[upd_ne D _ e];grind);rw[upd_same]at this;grind
   .obtain⟨g',w',es,hgo,⟨rfl,rfl⟩,FV⟩:=l4 w (Go.ConcN.RW.refl w);exact idle hgo (.d2 FV) rfl
  |d3 h =>
   rcases Goes.cases h with jP|⟨m',rfl,l4⟩
   .obtain⟨_,P5⟩:=jP w (Go.ConcN.RW.refl w);obtain⟨UH,DH,e1,e2⟩:=I.mode.isLast hx (by omega);have zY:=I.wg;rw[e1,e2,FT]at zY;obtain⟨g',hgo,m₂,hk⟩:=P5 (by grind);refine book hgo (aside_setCell w (stA Y.Wg) _) (zY.setSt 0) (by intro e c;simp at c;subst c;exact bk_cell _ _ rfl) (by intro jx e c;match jx,c with|0,_=>exact .inr (by simp[deafBehind])|jx+1,c=>grind) (by decide) (.d4 hk) rfl ?_ (.inl ⟨by omega,by simp[cnt]⟩);have:=Go.ConcN.Mode.last (j:=j) (D:=upd D x ⟨2,0,1⟩) (tag:=tag) x UH hx (by rw[upd_same];simp) (λa J e=>by rw[upd_ne D _ e];grind);rw[upd_same]at this;grind
   .obtain⟨g',w',es,hgo,⟨rfl,rfl⟩,FV⟩:=l4 w (Go.ConcN.RW.refl w);exact idle hgo (.d3 FV) rfl
  |d4 h =>
   rcases Goes.cases h with jP|⟨m',rfl,l4⟩
   .obtain⟨_,hmw,P5⟩:=jP w (Go.ConcN.RW.refl w);obtain⟨UH,DH,e1,e2⟩:=I.mode.isLast hx (by omega);have zY:=I.wg;rw[e1,e2,FT]at zY;obtain⟨g',hgo,q,hq⟩:=P5 (by grind);have wI:g'.status=.running:=by
     cases q with
     |zero=>exact absurd hq.2 (by decide)
     |succ q=>exact hq.elim (λx=>absurd x.2 (by decide)) (λx=>x.1)
    refine P4 hgo (aside_setCell w (smA Y.Wg) _) (zY.setSm 1) (es:=semEvents (smA Y.Wg)) ?_ ?_ (by decide) (.quit hq) (by simp[deafBehind,semEvents]) ?_ (.inl ⟨by omega,by simp[cnt]⟩)
    .intro e c;simp[semEvents]at c;rcases c with rfl|rfl|rfl|rfl
     .exact .inl rfl
     .exact bk_cell _ _ rfl
     .exact bk_cell _ _ rfl
     .exact .inr (.inl rfl)
    .intro jx e c
     match jx,c with
     |0,c=>simp[semEvents]at c;subst c;exact .inl rfl
     |1,_=>exact .inr (by simp[deafBehind,semEvents])
     |2,_=>exact .inr (by simp[deafBehind,semEvents])
     |3,c=>simp[semEvents]at c;subst c;exact .inl rfl
     |jx+4,c=>simp[semEvents]at c
    .intro tag' ht U;have hnb:=U hmw wI;have e3:tag'=.w3:=by
      rcases ht with rfl|⟨_,rfl⟩
      .cases tag'<;>first|rfl|exact UH.elim|grind
      .rfl
     subst e3;simp only[cj];exact .sema λa J=>by
      by_cases e:a=x
      .subst e;rw[upd_same]
      .rw[upd_ne D _ e];grind
   .obtain⟨g',w',es,hgo,⟨rfl,rfl⟩,FV⟩:=l4 w (Go.ConcN.RW.refl w);exact idle hgo (.d4 FV) rfl
  |quit h =>
   cases m with
   |zero=>rw[h.1]at wu;cases wu
   |succ q =>
    rcases h with⟨hf,_⟩|⟨_,g',es,P6,l4,hq⟩
    .grind
    .have Ho:∀e∈es,Bk Y.Wg e:=λe c=>bk_of_mute (P6 e c);have Z5:∀jx e,es[jx]?=aa e->(aK e).touch?=ae∨0<deafBehind dd (es.extract 0 jx):=λjx e c=>.inl (touch_mute (P6 e (u4 c)));exact book (l4 w) (.refl Y.Wg w) I.wg Ho Z5 (by decide) (.quit hq) rfl (same _ _) (.inr ⟨rfl,rfl⟩)
end
end
section
open Go.Conc
open Go.ConcN (WD CTag Vc Ssum pend phi cnt WgLive PayAt Has RW DWs WSit RelBy sumTo upd upd_same upd_ne AtR0 isW3 isOpen OpenSt deafBehind_idle bk_cell okW_none Vc_upd Vc_le le_sumTo others_uncounted sumTo_upd_out bk_dis bk_en bk_rd bk_rw bk_sem allQuit_of exists_counted)
open Go.ConcR (KK WgAt stA smA rd wr mk Payload g_of_ofEvents Bk bk_of_mute ofEvent_loc_mark ofEvent_cell ofEvent_mk)
variable [Payload]
section
variable {P:ar}{ty:aj}{Y:Lay}{N:Nat}{val:Nat->Nat->ah}{n:Nat}{T k:av->St->Prop}{l hm':Nat->Nat}{z G:Nat->Mem}{j:Nat}{tag:CTag}{rk:Rk}{d:Nat}{a:av}{s:St}{w w':aA}{R:Mu}{gs:Array av}{sl:Option (Nat×Nat)}{t:Trace}{D:Nat->WD}{A:Nat->Nat}{K:Nat->Rk}{st Z:Int}
omit [Payload]in
def TL.congr{B:Nat}(h:TL Y l z t j B)(e:∀y,y<j->G y=z y):TL Y l G t j B :=
 ⟨h.base,h.IU,h.hC,h.ne,h.P1,h.Rx,h.IV,λx H=>by rw[e x H];exact h.ms x H,h.T0,h.nr,h.seen,h.old,h.Ry,h.Hl,λi a hi V l=>(h.new i a hi V l).imp id λ⟨x,H,p,F⟩=>⟨x,H,p,by grind⟩,
  λx H=>by rw[e x H];exact h.mw x H,h.over⟩
def WS.congr{x a st d:Nat}{r:Rk}{g:av}(h:WS P ty Y N val l z x a st r d g w)(e:G x=z x):WS P ty Y N val l G x a st r d g w:=by
 cases h with
 |am p F J=>exact .am p F (by grind)
 |rel p=>exact .rel p
 |tail h0 p=>exact .tail h0 p
def Com.congr{I:Nat}(h:Com P ty Y N val l z j gs w t D A K I)(e:∀y,y<j->G y=z y):Com P ty Y N val l G j gs w t D A K I :=
 ⟨h.size,h.lv,h.above,λx H=>let ⟨g,p,F⟩:=h.wk x H;⟨g,p,F.congr (e x H)⟩,h.tl.congr e,h.norel,h.deaf0,h.deafW,h.rel,h.yb,h.BN,h.pay,h.live,h.Bg,h.Dv,h.M6,h.kc,λy q=>by rw[e y q];exact h.NR y q⟩
omit [Payload]in
def NW{σ σ':List aP}{s2:St}{es:Array Event}(W:jN Y l z j s)(X:aF σ s)(Q:eY s es)(st:Step σ s σ' s2):
  (∀e∈es,(aK e).low s2.w.heap.size)/\(∀e∈es,∀a,(aK e).touch?=aa a->a.loc.isMemory=ab->sj Y (ny l s.w.heap.size 0) a) /\
  (∀e∈es,∀a,(aK e).touch?=aa a->a.kind=.plain->a.write=ab->∀x,x<j->∀b o v,a.loc=.cell ⟨b,o,ae⟩->z x b o≠aa v) /\
  (∀e∈es,e.loc≠.mark .disable/\e.loc≠.mark .enable)/\∀e∈es,∀a,e.loc≠.mark (.release a):=by
 have key:∀e∈es,(aK e).low s2.w.heap.size/\(∀a,(aK e).touch?=aa a->a.loc.isMemory=ab->sj Y (ny l s.w.heap.size 0) a) /\
   (∀a,(aK e).touch?=aa a->a.kind=.plain->a.write=ab->∀x,x<j->∀b o v,a.loc=.cell ⟨b,o,ae⟩->z x b o≠aa v)/\(e.loc≠.mark .disable/\e.loc≠.mark .enable)/\∀a,e.loc≠.mark (.release a):=by
  intro e E;have h:=Q e E;obtain⟨loc,wr,sy⟩:=e;cases loc with
  |cell ad =>
   obtain⟨p,F,J⟩:=h;simp only at p F J;subst p;have u:ad.block<s.w.heap.size/\l ad.block=0/\ad.block≠Y.C/\ad.block≠Y.Wg/\¬Y.Sh ad.block:=by
    rcases J with J|⟨⟨L,U,J⟩,_⟩|⟨_,v,J⟩
    .exact J.elim
    .obtain⟨k1,k2,O,k4,k5⟩:=W.blk _ (.inr ⟨L,U,J⟩);grind
    .obtain⟨k1,k2,O,k4,k5⟩:=W.M _ _ _ J;grind
   refine⟨by rw[ofEvent_cell];exact cU u.1 st.size,λb c _=>?_,λb c _ hbw x H b' o v hl S=>?_,⟨by simp,by simp⟩,by simp⟩
   .rw[ofEvent_cell]at c;simp only[MemAct.touch?,dn]at c;subst c;exact .inr ⟨ad.block,rfl,by grind[eZ],u.2.2.2.1,u.2.2.1,u.2.2.2.2,rfl⟩
   .rw[ofEvent_cell]at c;simp only[MemAct.touch?,dn]at c;subst c;simp only at hbw hl;have hM:=W.ms x H b' o v S;grind
  |obj r =>
   obtain⟨p,F⟩:=h;simp only at p F;subst p;obtain⟨L,U,J⟩:=F.resolve_left id;obtain⟨k1,k2,O,k4,k5⟩:=W.blk _ (.inr ⟨L,U,J⟩);refine⟨?_,λb c _=>?_,λb c _ _ x _ b' o v hl=>?_,⟨by simp,by simp⟩,by simp⟩
   .simp[aK,MemAct.low,Loc.low];exact cU k5 st.size
   .simp[aK,MemAct.touch?]at c;subst c;exact .inr ⟨r,rfl,by grind[eZ],O,k2,k4,rfl⟩
   .simp[aK,MemAct.touch?]at c;grind
  |mark m =>
   simp only[od]at h;rcases h with rfl|⟨f,rfl⟩
   .exact⟨by simp[aK,MemAct.low],λb c=>by simp[aK,MemAct.touch?]at c,λb c=>by simp[aK,MemAct.touch?]at c,⟨by simp,by simp⟩,by simp⟩
   .exact⟨by simp[aK,MemAct.low],λb c=>by simp[aK,MemAct.touch?]at c,λb c=>by simp[aK,MemAct.touch?]at c,⟨by simp,by simp⟩,by simp⟩
  |_=>exact h.elim
 grind
def tw(I:tv P ty Y N val n T k R gs w t l z j D A K d tag rk a s st Z){a':av}{es:Array Event}{tag':CTag}{rk':Rk}{qC Hn:Int}{s':St}(hgo:aH P ab a w=.go a' w' es)(X:∀b,b<w.heap.size->hm' b=l b)(IM:w.heap.size<=w'.heap.size)(Yb:∀y,y<j->Hm Y l (z y) y w w')(Yc:∀e∈es,(aK e).low w'.heap.size)(htm:∀e∈es,∀a,(aK e).touch?=aa a->a.loc.isMemory=ab->sj Y hm' a)(Xc:∀e∈es,∀a,(aK e).touch?=aa a->a.kind=.plain->a.write=ab->∀x,x<j->∀b o v,a.loc=.cell ⟨b,o,ae⟩->z x b o≠aa v)(UD:∀e∈es,∀a,e.loc≠.mark (.release a))(JU:PayAt Y.C N w')(zY:WgAt ty Y.Wg w' qC Hn)(Hp:CS P ty Y N val n T k tag' j rk' (deafBehind d es) a' s')(UI:ck s' {s' with w:=w'})(g:jN Y hm' z j s')(q:Go.ConcN.Mode j D tag' qC Hn)(u:phi n (Vc j D) tag'<phi n (Vc j D) tag∨(phi n (Vc j D) tag'=phi n (Vc j D) tag/\Rk.lt rk' rk)):
  ∃m₁ ops μ',runT P (crowd gs w sl) 0=(.next m₁,ops)/\FR (Y.base+n) μ' R/\Inv P ty Y N val n T k μ' m₁ (t++ops):=by
 have c:=I.gk.tl.base;have wu:=runT_crowd_go (P:=P) (sl:=sl) (i:=0) I.a0 (by simpa using hgo)
 refine⟨_,_,(phi n (Vc j D) tag'+Ssum j D+sumTo j A,(K,rk')),wu,?_,_,w',sl,hm',z,j,D,A,K,deafBehind d es,tag',rk',a',s',qC,Hn,rfl,
  ⟨Go.ConcN.get_map_set_same _ _ _ (by rw[I.gk.size];omega),Hp,UI,g,I.gk.step0 X IM Yb Yc htm Xc UD JU ⟨_,_,zY⟩,zY,q,rfl⟩⟩
 rw[I.mu];rcases u with h|⟨p,F⟩
 .exact Prod.Lex.left _ _ (by omega)
 .rw[p];exact Prod.Lex.right _ (Prod.Lex.right _ F)
def iz(I:tv P ty Y N val n T k R gs w t l z j D A K d tag rk a s st Z){a':av}{es:Array Event}{rk':Rk}{s1 s':St}(p:ck s1 {s1 with w:=w})(q:jN Y l z j s1)(hgo:aH P ab a w=.go a' s'.w es)(X6:qS {s1 with w:=w} s' es∨Es Y.Wg {s1 with w:=w} s' es)(Hp:CS P ty Y N val n T k tag j rk' d a' s')(u:Rk.lt rk' rk):
  ∃m₁ ops μ',runT P (crowd gs w sl) 0=(.next m₁,ops)/\FR (Y.base+n) μ' R/\Inv P ty Y N val n T k μ' m₁ (t++ops):=by
 rcases X6 with⟨⟨σ,σ',X,iY,g⟩,Q⟩|⟨rfl,ad,had,X5⟩
 .have O:jN Y l z j {s1 with w:=w}:=q.rely p.size;obtain⟨e1,e2,e3,e4,e5⟩:=NW O X Q g;have wG:∀b,b<w.heap.size->(l b≠0∨b=Y.C∨b=Y.Wg)->s'.w.heap[b]?=w.heap[b]?:=λb c Bp=>g.fb b c λL U Nh=>by obtain⟨q1,q2,q3,_⟩:=O.blk b (.inr ⟨L,U,Nh⟩);grind
  have JQ:=I.gk.tl.base;refine tw I hgo (hm':=ny l w.heap.size 0) (λb c=>eZ c) g.size (λy hy=>⟨g.size,λb c hby=>wG b c (.inl (by omega)),λb o v S _=>iY.mem b o v (g.mem _ _ _ (q.ms y hy b o v S)),λo _ _=>jO (wG _ I.gk.Dv (.inr (.inl rfl))) o,g.os,g.tape,g.output⟩) e1 e2 e3 e5 ?_
   (I.wg.of_block (wG _ I.gk.Bg (.inr (.inr rfl)))) (s':=s') (tag':=tag) (rk':=rk') (by rw[deafBehind_idle e4];exact Hp) (ck.wF iY.mem) (O.step iY g I.gk.Bg I.gk.Dv I.gk.M6) I.mode (.inr ⟨rfl,u⟩)
  obtain⟨cs,c1,c2⟩:=I.gk.pay;exact⟨cs,(wG _ I.gk.Dv (.inr (.inl rfl))).trans c1,c2⟩
 .have TM:∀e∈es,e=mk (.read ad)∨e=mk (.write ad):=by grind
  refine tw I hgo (hm':=l) (λb c=>rfl) (bh _) (λy hy=>.refl ..) (λe E=>?_) (λe E b c _=>?_) (λe E b c hk=>?_) (λe E=>?_) I.gk.pay I.wg (s':={s1 with w:=w}) (tag':=tag) (rk':=rk') ?_ (p.trans' ) (q.rely p.size) I.mode (.inr ⟨rfl,u⟩)
  .have hW:=I.gk.Bg;rcases TM e E with rfl|rfl<;>(rw[ofEvent_mk];show ad.block<_;grind)
  .rcases TM e E with rfl|rfl<;>(rw[ofEvent_mk]at c;simp[MemAct.touch?]at c;subst c;exact .inl ⟨ad,rfl,had,by simp⟩)
  .rcases TM e E with rfl|rfl<;>(rw[ofEvent_mk]at c;simp[MemAct.touch?]at c;grind)
  .rcases TM e E with rfl|rfl<;>simp[mk]
  .rw[deafBehind_idle (λe E=>by rcases TM e E with rfl|rfl<;>simp[mk])];exact Hp
def gD(I:tv P ty Y N val n T k R gs w t l z j D A K d tag rk a s st Z){a':av}{es:Array Event}{tag':CTag}{rk':Rk}{qC Hn:Int}{s1:St}(p:ck s1 {s1 with w:=w})(P7:jN Y l z j s1)(hgo:aH P ab a w=.go a' w' es)(g:Aside Y.Wg w w')(JR:WgAt ty Y.Wg w' qC Hn)(Ho:∀e∈es,Bk Y.Wg e)(Hp:CS P ty Y N val n T k tag' j rk' (deafBehind d es) a' {s1 with w:=w'})(wH:Go.ConcN.Mode j D tag' qC Hn)(u:phi n (Vc j D) tag'<phi n (Vc j D) tag∨(phi n (Vc j D) tag'=phi n (Vc j D) tag/\Rk.lt rk' rk)):
  ∃m₁ ops μ',runT P (crowd gs w sl) 0=(.next m₁,ops)/\FR (Y.base+n) μ' R/\Inv P ty Y N val n T k μ' m₁ (t++ops):=by
 obtain⟨cs,W0,TB⟩:=I.gk.pay;have F:ck s1 {s1 with w:=w'}:=P7.JN p (DX.wg g);refine tw I hgo (hm':=l) (λb c=>rfl) (by rw[g.size];grind) (λy hy=>.wg g I.gk.tl.IU I.gk.tl.base (λb o v S=>(I.gk.tl.ms y hy b o v S).2.2.1) I.gk.tl.ne) (JP Ho (by rw[g.size];exact I.gk.Bg)) (λe E b c l=>?_) (λe E b c hk=>?_) (BO Ho)
  ⟨cs,(g.block _ I.gk.tl.ne).trans W0,TB⟩ JR Hp F.trans' (P7.rely F.size) wH u
 .rcases Ho e E with q|q|⟨ad,wr,rfl,V⟩
  .rw[ofEvent_loc_mark q]at c;cases c
  .rw[ofEvent_loc_mark q]at c;cases c
  .rw[ofEvent_cell]at c;simp only[MemAct.touch?,dn]at c;subst c;exact .inl ⟨ad,rfl,V,by simp⟩
 .rcases Ho e E with q|q|⟨ad,wr,rfl,V⟩
  .rw[ofEvent_loc_mark q]at c;cases c
  .rw[ofEvent_loc_mark q]at c;cases c
  .rw[ofEvent_cell]at c;simp only[MemAct.touch?,dn]at c;grind
end
section
variable {P:ar}{ty:aj}{Y:Lay}{N:Nat}{val:Nat->Nat->ah}{n:Nat}{T k:av->St->Prop}{l hm':Nat->Nat}{u f:Nat->Mem}{j:Nat}{tag:CTag}{rk:Rk}{d:Nat}{a:av}{s:St}{w w':aA}{C:Mu}{gs:Array av}{sl:Option (Nat×Nat)}{t:Trace}{D:Nat->WD}{A:Nat->Nat}{K:Nat->Rk}{st E:Int}
def CS.bound(h:CS P ty Y N val n T k tag j rk d a s):j+pend tag<=n:=by cases h<;>simp only[pend]<;>(try simp)<;>omega
omit [Payload]in
def iA{S:av->St->Prop}(h:kq (Cx.lead P ty Y.Wg) (Es Y.Wg) S rk a s)(p:ck s {s with w:=w})(F:jN Y l u j s)(live:WgLive ty Y.Wg w):
  (∃s',ck s' {s' with w:=w}/\jN Y l u j s'/\S a s')∨∃s',ck s' {s' with w:=w}/\jN Y l u j s'/\∃g' s2 es r',aH P ab a w=.go g' s2.w es/\(qS {s' with w:=w} s2 es∨Es Y.Wg {s' with w:=w} s2 es)/\kq (Cx.lead P ty Y.Wg) (Es Y.Wg) S r' g' s2/\Rk.lt r' rk:=by
 rcases h.norm (λs0=>ck s0 {s0 with w:=w}/\jN Y l u j s0) (λs0 s' B hi=>⟨hi.1.ghost B,hi.2.ghost B⟩) (λG=>False.elim G) ⟨p,F⟩with⟨s',⟨k1,c⟩,z⟩|⟨_,s',⟨k1,c⟩,z⟩
 .grind
 .exact .inr ⟨s',k1,c,z _ ⟨k1,λ_=>live⟩⟩
def WS.quits{x a st d:Nat}{r:Rk}{g:av}(h:WS P ty Y N val l u x a st r d g w)(b:st=1):∃m,QuitsD P m d g:=by
 cases h with
 |am _ _ _=>cases b
 |rel _=>cases b
 |tail _ h=>exact⟨_,h.quits b⟩
def WS.small{x a st d:Nat}{r:Rk}{g:av}(h:WS P ty Y N val l u x a st r d g w)(b:st=1):a=0:=by
 cases h with
 |am _ _ _=>cases b
 |rel _=>rfl
 |tail _ h=>rfl
def JV(I:tv P ty Y N val n T k C gs w t l u j D A K d tag rk a s st E)(hn:n<2147483648)(Xe:∀g s,k g s->er (Cx.lead P ty Y.Wg) (Es Y.Wg) (AtW1 P ty Y T k) g s)(wu:a.status=.running):
  ∃U ops,runT P (crowd gs w sl) 0=(.next U,ops)/\((∃hm' f,NS P Y N val n T hm' f U (t++ops))∨∃μ',FR (Y.base+n) μ' C/\Inv P ty Y N val n T k μ' U (t++ops)):=by
 have hVj:=Vc_le j D;have JQ:=I.gk.tl.base;have live:=I.gk.live;have fin:∀{X:Prop},(∃U ops μ',runT P (crowd gs w sl) 0=(.next U,ops)/\FR (Y.base+n) μ' C/\Inv P ty Y N val n T k μ' U (t++ops)) ->
   ∃U ops,runT P (crowd gs w sl) 0=(.next U,ops)/\((∃hm' f,NS P Y N val n T hm' f U (t++ops))∨∃μ',FR (Y.base+n) μ' C/\Inv P ty Y N val n T k μ' U (t++ops)) :=
  λ{_} ⟨U,ops,μ',p,h2,h3⟩=>⟨U,ops,p,.inr ⟨μ',h2,h3⟩⟩
 have hbound:=I.cs.bound;have cs:=I.cs;have O:=I.wg;have J:=I.mode;cases cs with
 |@skd r rk g s hr h =>
  rcases iA h I.rely I.lead live with⟨s',k1,c,_,g',H,hk⟩|⟨s',k1,c,g',s2,es,r',H,R,hk,Q⟩
  .obtain⟨r2,hk⟩:=hk {s' with w:=w} (fP k1 live);exact fin (X:=True) (gD I k1 c (H w) (.refl Y.Wg w) O bk_dis (.sa1 hr hk) (J.reopen ay ay rfl (by simp)) (.inl (by simp only[phi];omega)))
  .exact fin (X:=True) (iz I k1 c H R (.skd hr hk) Q)
 |@sa1 r rk g s hr h =>
  rcases iA h I.rely I.lead live with⟨s',k1,c,_,V⟩|⟨s',k1,c,g',s2,es,r',H,R,hk,Q⟩
  .obtain⟨ho,e1,e2,_⟩:=J.open_inv ay;rw[e1,e2]at O;obtain⟨a',H,r2,hk⟩:=V {s' with w:=w} (fP k1 live) (Vc (n-(r+1)) D) (by omega) (by simpa[pend]using O);refine fin (X:=True) (gD I k1 c H (aside_setCell w (stA Y.Wg) _) (O.setSt _) bk_rw (.ske hr hk) ?_ (.inl (by simp only[phi];omega)));have e:(((Vc (n-(r+1)) D:Nat):Int)+1)*KK=((Vc (n-(r+1)) D+pend (.sp r 3):Nat):Int)*KK:=by simp[pend]
   rw[e];exact .opn ay ho (by simp)
  .exact fin (X:=True) (iz I k1 c H R (.sa1 hr hk) Q)
 |@ske r rk g s hr h =>
  rcases iA h I.rely I.lead live with⟨s',k1,c,_,g',H,hk⟩|⟨s',k1,c,g',s2,es,r',H,R,hk,Q⟩
  .obtain⟨r2,hk⟩:=hk {s' with w:=w} (fP k1 live);exact fin (X:=True) (gD I k1 c (H w) (.refl Y.Wg w) O bk_en (.sgo hr hk) (J.reopen ay ay rfl (by simp)) (.inl (by simp only[phi];omega)))
  .exact fin (X:=True) (iz I k1 c H R (.ske hr hk) Q)
 |@sgo r rk g s hr h =>
  rcases iA h I.rely I.lead live with⟨s',k1,c,_,V⟩|⟨s',k1,c,g',s2,es,r',H,R,hk,Q⟩
  .obtain⟨a',child,hsp,_,⟨rc,X3⟩,P8⟩:=V {s' with w:=w} (fP k1 live);obtain⟨ho,e1,e2,_⟩:=J.open_inv ay;rw[e1,e2]at O;have wI:=runT_crowd_spawn (P:=P) (sl:=sl) (i:=0) I.a0 (by simpa using hsp);rw[I.gk.size]at wI;have z:jN Y l u (n-(r+1)) {s' with w:=w}:=c.rely k1.size;let f:=upd u (n-(r+1)) s'.M;have hMe:∀y,y<n-(r+1)->f y=u y:=λy hy=>upd_ne u _ (by omega);have Yd:f (n-(r+1))=s'.M:=upd_same u _ _;have RA:ck (St.child {s' with w:=w}) {St.child {s' with w:=w}with w:=w}:=ck.wF k1.mem;have UJ:l3 l (f (n-(r+1))) (Y.base+(n-(r+1))) (St.child {s' with w:=w}):=by
    refine⟨λb hb=>?_,λb o v hv=>⟨.inr (by rw[Yd];exact hv),(z.M b o v hv).2.2.2.2⟩⟩;rcases hb with hb|⟨L,hL,_⟩
    .exact hb.elim
    .simp[St.child]at hL
   have FW:=(I.gk.congr hMe).spawn (a':=a') (x:={g:=0,fn:=a.frame.fn,pos:=a.frame.place,act:=.go (Y.base+(n-(r+1)))}) (y:={g:=Y.base+(n-(r+1)),fn:=child.frame.fn,pos:=a.frame.place,act:=.start}) ⟨rfl,rfl⟩ ⟨rfl,rfl⟩
    (λb o v hv=>by rw[Yd]at hv;exact z.M b o v hv) X3 RA UJ
   have eV:Vc (n-(r+1)+1) (upd D (n-(r+1)) ⟨7,0,0⟩)=Vc (n-(r+1)) D+1:=by simp only[Vc,sumTo,upd_same];rw[sumTo_upd_out D _ cnt (bh _)];rfl
   have eS:Ssum (n-(r+1)+1) (upd D (n-(r+1)) ⟨7,0,0⟩)=Ssum (n-(r+1)) D+7:=by simp only[Ssum,sumTo,upd_same];rw[sumTo_upd_out D _ WD.stage (bh _)]
   have eA:sumTo (n-(r+1)+1) (upd A (n-(r+1)) 1)=sumTo (n-(r+1)) A+1:=by have:sumTo (n-(r+1)) (upd A (n-(r+1)) 1)=sumTo (n-(r+1)) A:=sumTo_upd_out A 1 id (i:=n-(r+1)) (j:=n-(r+1)) (bh _);show sumTo (n-(r+1)) (upd A (n-(r+1)) 1)+upd A (n-(r+1)) 1 (n-(r+1))=_;rw[upd_same];grind
   have Xf:OpenSt (n-(r+1)+1) (upd D (n-(r+1)) ⟨7,0,0⟩):=λi hi=>by
    by_cases e:i=n-(r+1)
    .subst e;rw[upd_same];simp
    .rw[upd_ne D _ e];exact ho i (by omega)
   have Ye:((gs.setIfInBounds 0 a').push child)[0]?=aa a':=by
    have h0:0<gs.size:=by rw[I.gk.size];omega
    grind
   have Z:jN Y l f (n-(r+1)+1) {s' with w:=w}:=⟨z.blk,z.M,λy hy b o v hv=>by
    rcases cC y (n-(r+1))with p|p
    .rw[hMe y p]at hv;exact z.ms y p b o v hv
    .obtain rfl:y=n-(r+1):=by omega
     rw[Yd]at hv;exact hv⟩
   have ej:n-(r+1)+1=n-r:=by omega
   rw[ej]at FW eV eS eA Xf Z;have Yf:∀tag',pend tag'=0->((Vc (n-(r+1)) D+pend (.sp r 2):Nat):Int)*KK=((Vc (n-r) (upd D (n-(r+1)) ⟨7,0,0⟩)+pend tag':Nat):Int)*KK:=λtag' hp=>by rw[eV,hp];simp[pend]
   cases r with
   |zero =>
    obtain⟨r3,hk⟩:=P8;simp only[lG]at FW eV eS eA Xf Yf Z;refine⟨_,_,wI,.inr ⟨(phi n (Vc n (upd D (n-(0+1)) ⟨7,0,0⟩)) .kd+Ssum n (upd D (n-(0+1)) ⟨7,0,0⟩)+sumTo n (upd A (n-(0+1)) 1),(upd K (Y.base+(n-(0+1))) rc,r3)),by rw[I.mu];exact Prod.Lex.left _ _ (by simp only[phi];omega),
     _,w,sl,l,f,n,_,_,_,0,.kd,r3,a',{s' with w:=w},_,_,rfl,⟨Ye,.kd hk,k1.trans',Z,FW,O,?_,rfl⟩⟩⟩
    rw[Yf .kd rfl];exact .opn ay Xf (by simp)
   |succ r' =>
    obtain⟨r3,hk⟩:=P8;refine⟨_,_,wI,.inr ⟨(phi n (Vc (n-(r'+1)) (upd D (n-(r'+1+1)) ⟨7,0,0⟩)) (.sp r' 5)+Ssum (n-(r'+1)) (upd D (n-(r'+1+1)) ⟨7,0,0⟩)+sumTo (n-(r'+1)) (upd A (n-(r'+1+1)) 1),(upd K (Y.base+(n-(r'+1+1))) rc,r3)),by rw[I.mu];exact Prod.Lex.left _ _ (by simp only[phi];omega),
     _,w,sl,l,f,n-(r'+1),_,_,_,0,.sp r' 5,r3,a',{s' with w:=w},_,_,rfl,⟨Ye,.skd (by omega) hk,k1.trans',Z,FW,O,?_,rfl⟩⟩⟩
    rw[Yf (.sp r' 5) rfl];exact .opn ay Xf (by simp)
  .exact fin (X:=True) (iz I k1 c H R (.sgo hr hk) Q)
 |kd h =>
  rcases iA h I.rely I.lead live with⟨s',k1,c,_,g',H,hk⟩|⟨s',k1,c,g',s2,es,r',H,R,hk,Q⟩
  .obtain⟨r2,hk⟩:=Xe _ _ (hk {s' with w:=w} (fP k1 live));exact fin (X:=True) (gD I k1 c (H w) (.refl Y.Wg w) O bk_dis (.w1 hk) (J.reopen ay ay rfl (by simp)) (.inl (by simp only[phi];omega)))
  .exact fin (X:=True) (iz I k1 c H R (.kd hk) Q)
 |w1 h =>
  rcases iA h I.rely I.lead live with⟨s',k1,c,_,V⟩|⟨s',k1,c,g',s2,es,r',H,R,hk,Q⟩
  .obtain⟨ho,e1,e2,_⟩:=J.open_inv ay;rw[e1,e2]at O;have hV:=Vc_le n D;obtain⟨a',H,h0,Bp⟩:=V {s' with w:=w} (fP k1 live) (Vc n D) (by omega) (by grind);by_cases hv:Vc n D=0
   .obtain⟨r2,hk⟩:=h0 hv;refine fin (X:=True) (gD I k1 c H (.refl Y.Wg w) O bk_rd (.ke hk) ?_ (.inl (by simp only[phi];omega)));have e:((Vc n D+pend .w1:Nat):Int)*KK=0:=by grind
    rw[e];exact .fin ay (allQuit_of ho hv)
   .obtain⟨r2,hk⟩:=Bp hv;refine fin (X:=True) (gD I k1 c H (.refl Y.Wg w) O bk_rd (.w2 hk) ?_ (.inl (by simp only[phi];omega)));have:=J.reopen (tag':=.w2 (Vc n D)) ay ay rfl (λvs e=>by grind);grind
  .exact fin (X:=True) (iz I k1 c H R (.w1 hk) Q)
 |@w2 vs rk g s h =>
  rcases iA h I.rely I.lead live with⟨s',k1,c,_,V⟩|⟨s',k1,c,g',s2,es,r',H,R,hk,Q⟩
  .obtain⟨ho,e1,e2,Yg⟩:=J.open_inv ay;rw[e1,e2]at O;obtain⟨hle,p⟩:=Yg vs rfl;obtain⟨Yh,UK⟩:=V {s' with w:=w} (fP k1 live) (Vc n D) (by omega) (by grind);by_cases e:Vc n D=vs
   .obtain⟨a',H,r2,hk⟩:=Yh e;exact fin (X:=True) (gD I k1 c H (aside_setCell w (stA Y.Wg) _) (O.setSt _) bk_rw (.w3 hk) (.reg ay ho (by omega)) (.inl (by simp only[phi];omega)))
   .obtain⟨a',H,hk⟩:=UK e;obtain⟨r2,hk⟩:=Xe _ _ hk;refine fin (X:=True) (gD I k1 c H (.refl Y.Wg w) O bk_rd (.w1 hk) ?_ (.inl (by simp only[phi];omega)));have:=J.reopen (tag':=.w1) ay ay rfl (by simp);grind
  .exact fin (X:=True) (iz I k1 c H R (.w2 hk) Q)
 |@w3 rk g s h =>
  rcases iA h I.rely I.lead live with⟨s',k1,c,jP⟩|⟨s',k1,c,g',s2,es,r',H,R,hk,Q⟩
  .obtain⟨_,Q3,V⟩:=jP;obtain⟨NX,P9⟩:=V {s' with w:=w} (fP k1 live);obtain⟨x,hx⟩:=Rk.JO s rk;have UL:AtW3 P ty Y T a {s' with w:=w}:=AtW3.rely ⟨wu,Q3,V⟩ (fP k1 live);generalize st=Ya at J O;generalize E=sm0 at J O;cases J with
   |opn p _ _=>exact p.elim
   |reg p h2 h3=>exact fin (X:=True) (gD I k1 c (NX ⟨_,O⟩) (.refl Y.Wg w) O (by simp) (.blk (rk:=x) UL) (.reg ay h2 h3) (.inr ⟨rfl,hx⟩))
   |last L p h2 h3 h4=>exact fin (X:=True) (gD I k1 c (NX ⟨_,O⟩) (.refl Y.Wg w) O (by simp) (.blk (rk:=x) UL) (.last L ay h2 h3 h4) (.inr ⟨rfl,hx⟩))
   |sema h2 =>
    obtain⟨a',H,r2,hk⟩:=P9 O;exact fin (X:=True) (gD I k1 c H (aside_setCell w (smA Y.Wg) _) (O.setSm 0) bk_sem (.w4 hk) (.fin ay h2) (.inl (by simp only[phi];omega)))
   |fin p _=>exact p.elim
  .exact fin (X:=True) (iz I k1 c H R (.w3 hk) (Rk.FQ Q))
 |blk h=>grind
 |w4 h =>
  rcases iA h I.rely I.lead live with⟨s',k1,c,_,V⟩|⟨s',k1,c,g',s2,es,r',H,R,hk,Q⟩
  .obtain⟨hq,e1,e2⟩:=J.fin_inv ay;rw[e1,e2]at O;obtain⟨a',H,r2,hk⟩:=V {s' with w:=w} (fP k1 live) O;exact fin (X:=True) (gD I k1 c H (.refl Y.Wg w) O bk_rd (.ke hk) (.fin ay hq) (.inl (by simp only[phi];omega)))
  .exact fin (X:=True) (iz I k1 c H R (.w4 hk) Q)
 |ke h =>
  rcases iA h I.rely I.lead live with⟨s',k1,c,_,g',H,hk⟩|⟨s',k1,c,g',s2,es,r',H,R,hk,Q⟩
  .obtain⟨r2,hk⟩:=hk {s' with w:=w} (fP k1 live);obtain⟨hq,e1,e2⟩:=J.fin_inv ay;rw[e1,e2]at O;exact fin (X:=True) (gD I k1 c (H w) (.refl Y.Wg w) O bk_en (.acq hk) (.fin ay hq) (.inl (by simp only[phi];omega)))
  .exact fin (X:=True) (iz I k1 c H R (.ke hk) Q)
 |acq h =>
  rcases iA h I.rely I.lead live with⟨s',k1,c,_,a',H,hk⟩|⟨s',k1,c,g',s2,es,r',H,R,hk,Q⟩
  .obtain⟨hq,e1,e2⟩:=J.fin_inv ay;have wI:=runT_crowd_go (P:=P) (sl:=sl) (i:=0) I.a0 (by simpa using H w);have ev:MemOp.ofEvents 0 a.frame.fn a.frame.place #[mk (.acquire (stA Y.Wg))]=#[{g:=0,fn:=a.frame.fn,pos:=a.frame.place,act:=.mark (.acquire (stA Y.Wg))}]:=by rw[ofEvents_eq];simp[ofEvent_mk]
   have W:=I.gk.step0 (g:=a) (g':=a') (fn:=a.frame.fn) (pos:=a.frame.place) (es:=#[mk (.acquire (stA Y.Wg))]) (hm':=l) (w':=w) (λ_ _=>rfl) (bh _) (λy _=>.refl ..) (by simp;exact I.gk.Bg) (by intro e he b hb;simp at he;subst he;simp[mk,aK,MemAct.touch?]at hb) (by intro e he b hb;simp at he;subst he;simp[mk,aK,MemAct.touch?]at hb) (by intro e he;simp at he;subst he;simp[mk]) I.gk.pay live;have hd0:deafBehind 0 #[mk (.acquire (stA Y.Wg))]=0:=rfl;have hy:(t++#[({g:=0,fn:=a.frame.fn,pos:=a.frame.place,act:=.mark (.acquire (stA Y.Wg))}:MemOp)])[t.size]?=aa {g:=0,fn:=a.frame.fn,pos:=a.frame.place,act:=.mark (.acquire (stA Y.Wg))}:=by simp
   have UM:=W.tl.X2 (by rw[W.deaf0];rfl) (W.norel _) (q:=t.size) (by rw[ev,act?_of hy]) (by rw[ev];simp[Trace.g?]) (by rw[ev];exact⟨0,by simp[Trace.g?],by rw[deaf_old (bh _)];exact I.gk.deaf0⟩) (λx hx=>by
    obtain⟨r,hr⟩:=I.gk.rel x hx (by rw[hq x hx];omega)
    exact⟨r,hr.appOther g_of_ofEvents (by omega),lt_of_act? hr.act⟩)
   have G7:∃q,Leavers P (t++MemOp.ofEvents 0 a.frame.fn a.frame.place #[mk (.acquire (stA Y.Wg))]) ((gs.map (woken P a a' w)).setIfInBounds 0 a') q:=by
    have each:∀i,∃m,∀g,0<i->((gs.map (woken P a a' w)).setIfInBounds 0 a')[i]?=aa g->QuitsD P m (Deaf (t++MemOp.ofEvents 0 a.frame.fn a.frame.place #[mk (.acquire (stA Y.Wg))]) i) g:=by
     intro i;cases Ra:((gs.map (woken P a a' w)).setIfInBounds 0 a')[i]? with
     |none=>exact⟨0,λg _ B=>by cases B⟩
     |some g =>
      rcases mT i with e|JW
      .exact⟨0,λg' h=>by omega⟩
      .rcases cC i Y.base with Q|TK
       .obtain⟨m,_,Yi⟩:=W.lv i g JW Q Ra;exact⟨m,λg' _ FV=>by grind⟩
       .obtain⟨x,rfl⟩:∃x,i=Y.base+x:=⟨i-Y.base,by omega⟩
        have hx:x<n:=by have:=(ij.1 Ra).1;rw[W.size]at this;omega
        obtain⟨g0,yc,Yj⟩:=W.wk x hx;rw[Ra]at yc;cases yc;obtain⟨m,Yi⟩:=Yj.quits (hq x hx);refine⟨m,λg' _ FV=>?_⟩;cases FV;rw[W.deafW x hx];exact Yi
    exact⟨λi=>Classical.choose (each i),λi g hi B=>Classical.choose_spec (each i) g hi B,λi hi=>W.above i (by rw[W.size]at hi;exact hi)⟩
   obtain⟨q,G7⟩:=G7;refine⟨_,_,wI,.inl ⟨l,u,⟨_,w,sl,a',s',q,rfl,Go.ConcN.get_map_set_same _ _ _ (by rw[I.gk.size];omega),W.size,hk {s' with w:=w} (fP k1 live),k1,c,G7,UM,W.norel,I.gk.pay,λx hx i hi=>?_,I.gk.Dv,I.gk.Bg,I.gk.M6⟩⟩⟩;obtain⟨g0,_,Yj⟩:=I.gk.wk x hx;rcases mT i with e|JW
   .subst e;exact I.gk.BN x hx (by rw[hq x hx];omega)
   .exact I.gk.yb x hx (Yj.small (hq x hx)) i JW hi
  .exact fin (X:=True) (iz I k1 c H R (.acq hk) Q)
end
end
section
open Go.Conc
open Go.ConcN (WD CTag Vc Ssum pend phi cnt WgLive PayAt Has WSit RelBy sumTo upd upd_same upd_ne exists_counted)
open Go.ConcR (KK WgAt stA smA Payload)
variable [Payload]
section
variable {P:ar}{ty:aj}{Y:Lay}{N:Nat}{val:Nat->Nat->ah}{n:Nat}{T c:av->St->Prop}{l:Nat->Nat}{p:Nat->Mem}{j:Nat}{tag:CTag}{rk:Rk}{d:Nat}{a:av}{s:St}{w:aA}{f:Mu}{gs:Array av}{sl:Option (Nat×Nat)}{t:Trace}{D:Nat->WD}{A:Nat->Nat}{K:Nat->Rk}{st u:Int}
def WS.running_of{x a st d:Nat}{r:Rk}{g:av}(h:WS P ty Y N val l p x a st r d g w)(b:st≠1):g.status=.running:=by
 cases h with
 |am h1 _ _=>exact h1.run λ_ _ x=>x.1
 |rel h1=>exact Goes.running (λ_ _ x=>x.1) w (Go.ConcN.RW.refl w) h1
 |tail _ h1=>exact h1.running_of b
def someone_runs(I:tv P ty Y N val n T c f gs w t l p j D A K d tag rk a s st u):∃(i:Nat)(g:av),gs[i]?=aa g/\g.status=.running:=by
 rcases I.cs.status with⟨e,_⟩|⟨_,rfl⟩
 .exact⟨0,a,I.a0,e⟩
 .have b:=I.mode;cases b with
  |opn h1 _ _=>exact h1.elim
  |reg _ _ k =>
   obtain⟨i,hi,o⟩:=exists_counted k;obtain⟨g,h,e⟩:=I.gk.wk i hi;exact⟨_,g,h,e.running_of (by omega)⟩
  |last L _ m k _ =>
   obtain⟨g,h,e⟩:=I.gk.wk L m;exact⟨_,g,h,e.running_of (by omega)⟩
  |fin h1 _=>exact h1.elim
def all_awake(I:tv P ty Y N val n T c f gs w t l p j D A K d tag rk a s st u):∀g∈gs,awake g:=by
 intro g q z;obtain⟨i,hi⟩:=Array.mem_iff_getElem?.1 q;rcases mT i with rfl|b
 .rw[I.a0]at hi;cases hi;rcases I.cs.status with⟨k,_⟩|⟨k,_⟩<;>rw[k]<;>simp
 .rcases cC i Y.base with o|y
  .obtain⟨m,_,r⟩:=I.gk.lv i g b o hi;rcases r.status with h|h<;>rw[h]<;>simp
  .obtain⟨x,rfl⟩:∃x,i=Y.base+x:=⟨i-Y.base,by omega⟩
   have v:x<j:=by have:=(ij.1 hi).1;rw[I.gk.size]at this;omega
   obtain⟨g',e,k⟩:=I.gk.wk x v;rw[hi]at e;cases e;rcases k.status with h|h<;>rw[h]<;>simp
def tv.at(I:tv P ty Y N val n T c f gs w t l p j D A K d tag rk a s st u)(b:Nat):tv P ty Y N val n T c f gs (w.at b) t l p j D A K d tag rk a s st u :=
 ⟨I.a0,I.cs,I.rely.more (bh _) (λ_ _=>rfl) (λ_ _ _ _ h=>h) rfl rfl rfl,I.lead,I.gk.at b,I.wg,I.mode,I.mu⟩
def DY(I:tv P ty Y N val n T c f gs w t l p j D A K d tag rk a s st u){i:Nat}(hi:0<i)(v:i<Y.base){g:av}(C:gs[i]?=aa g)(o:g.status=.running):
  ∃e ops μ',runT P (crowd gs w sl) i=(.next e,ops)/\FR (Y.base+n) μ' f/\Inv P ty Y N val n T c μ' e (t++ops):=by
 obtain⟨m,F,E⟩:=I.gk.lv i g hi v C;cases m with
 |zero=>rw[E.1]at o;cases o
 |succ m =>
  rcases E with⟨H,_⟩|⟨_,g',es,B,r,y⟩
  .grind
  .have z:(i==0)=af:=by grind
   have q:=runT_crowd_go (P:=P) (sl:=sl) (i:=i) C (by rw[z];exact r w)
   obtain⟨tag',rk',x,h,G⟩:=I.cs.wokenBy g g' w;have b:Go.ConcN.Mode j D tag' st u:=I.mode.retag h;refine⟨_,_,(phi n (Vc j D) tag'+Ssum j D+sumTo j A,(upd K i (Rk.nat m),rk')),q,?_,_,w,sl,l,p,j,D,A,_,d,tag',rk',woken P g g' w a,s,st,u,rfl,
    ⟨by rw[Go.ConcN.get_map_set _ _ _ _ (by omega),I.a0];rfl,x,I.rely,I.lead,I.gk.leave hi v B y,I.wg,b,rfl⟩⟩
   rw[I.mu,Go.ConcN.phi_retag n _ h];exact Prod.Lex.right _ (Prod.Lex.left _ _ ⟨i,by omega,by rw[upd_same,F];exact Rk.DW _ s,λk hk=>upd_ne K _ hk⟩)
def JX(C:n<2147483648)(z:∀g s,c g s->er (Cx.lead P ty Y.Wg) (Es Y.Wg) (AtW1 P ty Y T c) g s){m:Machine}(h:Inv P ty Y N val n T c f m t):
  ∃b ops,stepT P m=(.next b,ops)/\((∃hm' NY,NS P Y N val n T hm' NY b (t++ops))∨∃k,FR (Y.base+n) k f/\Inv P ty Y N val n T c k b (t++ops)):=by
 obtain⟨gs,w,sl,l,p,j,D,A,K,O,tag,rk,a,s,st,u,rfl,I⟩:=h;obtain⟨i,g,L,q,r,e,o⟩:=crowd_pick (P:=P) (w:=w) (sl:=sl) (all_awake I) (someone_runs I);rw[o];have y:=I.at L;have G:j<=n:=by have:=I.cs.bound;omega
 rcases mT i with rfl|v
 .rw[I.a0]at r;cases r;exact JV (sl:=q) y C z e
 .rcases cC i Y.base with B|J
  .obtain⟨b,ops,k,M,F,E⟩:=DY (sl:=q) y v B r e;grind
  .obtain⟨x,rfl⟩:∃x,i=Y.base+x:=⟨i-Y.base,by omega⟩
   have H:x<j:=by have:=(ij.1 r).1;rw[I.gk.size]at this;omega
   obtain⟨b,ops,k,M,F,E⟩:=stepWorker (sl:=q) y C G I.cs.bound H r e;grind
def Hq(v:n<2147483648)(o:∀g s,c g s->er (Cx.lead P ty Y.Wg) (Es Y.Wg) (AtW1 P ty Y T c) g s):∀(f:Mu)(m:Machine)(t:Trace),Inv P ty Y N val n T c f m t ->
  ∃M k i hm' NY,runNT P M m t=(.next k,i)/\NS P Y N val n T hm' NY k i:=by
 intro f;induction(Rz (Y.base+n)).apply f with
 |intro f _ z =>
  intro m t h;obtain⟨b,ops,r,e⟩:=JX v o h;rcases e with⟨hm',NY,e⟩|⟨q,e,x⟩
  .exact⟨1,b,t++ops,hm',NY,by simp[runNT,r],e⟩
  .obtain⟨M,k,i,hm',NY,k1,y⟩:=z q e b (t++ops) x;exact⟨M+1,k,i,hm',NY,by simp only[runNT,r];exact k1,y⟩
def Ua.fork{g:av}{s s0:St}{T':av->St->Prop}(kc:Nat)(hkc:0<kc)(Wg C:Nat)(hn:n<2147483648)(Bp:C≠Wg)(hg:eu s s0)(wu:g.status=.running)(hC:∃L∈s.β,C∈L.bs)(hW:∃L∈s.β,Wg∈L.bs)(G:∀b,(s.own b∨∃L∈s.β,b∈L.bs)->b<s.w.heap.size)(h0:∀b,(b=C∨b=Wg)->¬s0.own b/\(∀L∈s0.β,b∉L.bs)/\∀o,s0.M b o=ae)(U:WgAt ty Wg s.w 0 0)(JU:PayAt C N s.w)(h:∀Y:Lay,Y.Wg=Wg->Y.C=C->Y.kc=kc->∃T c,(∀g s,c g s->er (Cx.lead P ty Y.Wg) (Es Y.Wg) (AtW1 P ty Y T c) g s)/\Spawns P ty Y N val n c n g s0 /\
   ∀g' s',T g' s'->gM s'->PayAt C N s'.w->(∀x,x<n->∀i,i<kc->s'.w.cell? ⟨C,kc*x+i,ae⟩=aa (val x i))->C<s'.w.heap.size->(∀b,(b=C∨b=Wg)->¬s'.own b/\(∀L∈s'.β,b∉L.bs)/\∀o,s'.M b o=ae) ->
    ∃s2,T' g' s2/\s2.w=s'.w/\gM s2/\∀Sh:Nat->Prop,Clear Sh s'->¬Sh C->Clear Sh s2):Ua P g s T':=by
 intro Sh gs sl t q l ha H hP hc UD;have Yk:¬Sh C:=λhs=>let ⟨L,H,m⟩:=hC;hc.β C hs L H m
 have Yl:¬Sh Wg:=λhs=>let ⟨L,H,m⟩:=hW;hc.β Wg hs L H m
 have V:=G C (.inr hC);have Ym:=G Wg (.inr hW);have JW:1<=gs.size:=(ij.1 ha).1;let Y:Lay:={Sh:=Sh,T0:=t.size,Wg:=Wg,C:=C,base:=gs.size,kc:=kc}
 obtain⟨T,c,Xe,z,Z⟩:=h Y rfl rfl rfl;have R:=hc.ghost hg;have X:gM s0:=.ghost hg;have B:jN Y (λ_=>0) (λ_ _ _=>ae) 0 s0:=by
  refine⟨λb m=>⟨rfl,λe=>?_,λe=>?_,λe=>?_,by rw[hg.w];exact G b (hg.blk b m)⟩,λb o v hv=>⟨rfl,λe=>?_,λe=>?_,λe=>?_,gM.lt X hv⟩,λx y=>absurd y (fL x)⟩
  .grind
  .grind
  .rcases m with m|⟨L,H,m⟩
   .exact R.own b e m
   .exact R.β b e L H m
  .grind
  .grind
  .rw[R.M b e o]at hv;cases hv
 have O:Com P ty Y N val (λ_=>0) (λ_ _ _=>ae) 0 gs s.w t (λ_=>⟨0,0,0⟩) (λ_=>0) (λi=>Rk.nat (q i)) 0 :=
  ⟨rfl,λi g hi _ Ra=>⟨q i,rfl,H.old i g hi Ra⟩,H.above,λx y=>absurd y (fL x),TL.start hP rfl JW Bp Yl Yk,UD,hP.hears,λx y=>absurd y (fL x),λx y=>absurd y (fL x),λx y=>absurd y (fL x),λx y=>absurd y (fL x),
   JU,⟨_,_,U⟩,Ym,V,hc.lt,hkc,λx y=>absurd y (fL x)⟩
 have Q:ck s0 {s0 with w:=s.w}:=by have:=ck.wF X;rw[<-hg.w];exact this
 have F:∃f,Inv P ty Y N val n T c f (crowd gs s.w sl) t:=by
  cases n with
  |zero =>
   obtain⟨r,z⟩:=z;exact⟨_,gs,s.w,sl,_,_,0,_,_,_,0,.kd,r,g,s0,_,_,rfl,⟨ha,.kd z,Q,B,O,U,by have:=Go.ConcN.Mode.opn (j:=0) (D:=λ_=>(⟨0,0,0⟩:WD)) (tag:=.kd) ay (λi hi=>absurd hi (fL i)) (by simp);simpa[Vc,sumTo,pend]using this,rfl⟩⟩
  |succ n =>
   obtain⟨r,z⟩:=z;have UN:CS P ty Y N val (n+1) T c (.sp n 5) (n+1-(n+1)) r 0 g s0:=.skd (Nat.lt_succ_self n) z;rw[Nat.sub_self]at UN;exact⟨_,gs,s.w,sl,_,_,0,_,_,_,0,.sp n 5,r,g,s0,_,_,rfl,⟨ha,UN,Q,B,O,U,by have:=Go.ConcN.Mode.opn (j:=0) (D:=λ_=>(⟨0,0,0⟩:WD)) (tag:=.sp n 5) ay (λi hi=>absurd hi (fL i)) (by simp);simpa[Vc,sumTo,pend]using this,rfl⟩⟩
 obtain⟨f,F⟩:=F;obtain⟨M,m',t',hm',NY,aal,⟨gs',w',sl',a',I,q',rfl,Ye,_,hT,W,Yn,fe,hP',acG,hp',J,hlC,hlW,hlS⟩⟩:=Hq hn Xe f _ _ F;have S:jN Y hm' NY n {I with w:=w'}:=Yn.rely W.size;have E:∀b,(b=C∨b=Wg∨Sh b)->¬I.own b/\(∀L∈I.β,b∉L.bs)/\∀o,I.M b o=ae:=by
  intro b m;have key:∀x,(hm' x=0/\x≠Y.C/\x≠Y.Wg/\¬Y.Sh x/\x<w'.heap.size)->x≠b:=by grind
  refine⟨λho=>key b (S.blk b (.inl ho)) rfl,λL H Nh=>key b (S.blk b (.inr ⟨L,H,Nh⟩)) rfl,λo=>?_⟩;cases hM:I.M b o with
  |none=>rfl
  |some v=>exact absurd rfl (key b (S.M b o v hM))
 obtain⟨s2,hT2,Yg,Yi,TB⟩:=Z a' {I with w:=w'} hT (λb o v hv=>W.mem b o v hv) hp' J hlC (λb m=>E b (m.elim .inl λe=>.inr (.inl e)));have G9:Clear (λb=>Sh b∨b=Wg) {I with w:=w'}:=by have k:∀b,(Sh b∨b=Wg)->¬I.own b/\(∀L∈I.β,b∉L.bs)/\∀o,I.M b o=ae:=λb m=>E b (m.elim (λe=>.inr (.inr e)) λe=>.inr (.inl e));exact⟨λb m=>(k b m).1,λb m=>(k b m).2.1,λb m=>(k b m).2.2,λb m=>m.elim (hlS b) λe=>by grind⟩
 grind
end
end
end Go.AM
