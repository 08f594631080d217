/- Part 3. No condition. -/
import Derived.Test.YtaaemhhkoipeoaaGreatDoorA2
import Derived.Maps.RangeRun
import Derived.Conc.Beside
import Derived.Conc.CrowdRun
import Derived.Conc.WgGenN2
import Derived.Conc.WgGenN3
import Derived.Conc.CrowdComm
import Derived.Conc.SmallLaws
import Derived.Conc.EventLaws
import Derived.Conc.LeavingOf
import Derived.Below
import Derived.ProofKit
import Derived.OpenShut
import Derived.OpenVars
import Derived.LaidMore
import Derived.Lay
import Derived.SevenTiedAt
set_option linter.all false
set_option maxHeartbeats 8000000
open Go.Proofs
open Go.Conc (G)
open Go renaming Value → aj, TypeId → av, Frame → aU, FuncId → aM, execOp → an, undef → ai, Operand → aE, World → aA, Program → aK, Oper → aD, Goroutine → ak, stepG → aH
open Option renaming some → aa, none → af
open Bool renaming true → ab, false → ae
open Go.Region renaming wanted → a9, ready → aX
open Go.World renaming cell? → aR
open List renaming getD_eq_getElem?_getD → ah, range → bg
open Go.Builtin renaming append_ → bj
open Go.Sem renaming events_bind → aP
open Go.Result renaming evThen_ok → aV
open Go.Instr renaming sliceBounds → bk
open Go.MemAct renaming ofEvent → aG, touch? → bl
open Nat renaming beq → az, ble → bC
open Go.Op renaming bytesLess → bd
open Go.Proofs.Tryz renaming prog → ag
open Go.Conc renaming stepG_seq → ay, stepG_region_end → aw
namespace Go.AM
variable {n k l b i j:Nat}{E:av}{L:Array Bool}{M:Mem}{N:Nat}{P:aK}{S:ak->St->Prop}{c:Code}{g:ak}{o:aD}{s:St}{t:av}{v:aj}{w:aA}{x y:aE}{α:Type}{η:aE->D}{ι:Type}{σ:List bm}{φ:Fr}{all:List aD}{jN:Array av}{cap:List C}{cy:List D}{cs:List aU}{ds:List (Nat×Bool)}{es:Nat->List C}{fo:aE}{gs:Array ak}{obs:List Prop}{off:Nat}{op:BinOp}{ops:Array aD}{ps:List Prop}{rest:List aD}{s':St}{tx:Bool}{ty:av}{val:Nat->Nat->aj}{vs:List aj}{w':aA}{xs:Array aE}{σ' σs:List bm}{res:ι->D}{σ1:ι->List bm}
variable {CT:List (Nat×dv)}{K:List It}{Qf:Post}{T:List (Nat×TI)}{ie:TI}
def dC(i:Nat)(D:Nat->Bool):Nat->Bool:=λj=>match az j i with|true=>ab|false=>D j
section
variable {X:Cx P}{g:Type}{x:g->Nat->D}{idx:Nat->Option Nat}{S:g->(Nat->Bool)->List bm}{Inv:g->(Nat->Bool)->Prop}{c:Nat}
def kU(L:Array Bool):Nat->Bool:=λi=>L.getD i ae
def G5(hi:i<L.size):kU (L.setIfInBounds i ab)=dC i (kU L):=by funext j;have h:=eE (L:=L) (i:=i) (j:=j) hi;simp only[kU,dC];grind[Nat.eq_of_beq_eq_true,Nat.beq_refl]
def Ql{c:Nat}(d:L.size=n)(h:∀k,c<=k->¬L.getD k ae=ab):n-c<=(L.toList.filter (λb=>!b)).length:=by
 have e:(L.toList.drop c).filter (λb=>!b)=L.toList.drop c:=by rw[List.filter_eq_self];intro b a;obtain⟨i,hi,rfl⟩:=dL a;have:=h (c+i) (by omega);simp only[ru,iW]at hi;simp only[dK,gg (by omega:c+i<L.size),gx]at this;grind
 grind[List.drop_sublist]
theorem Names.Ti(all:List aD)(c:Nat):Names all (List.range' c (all.length-c)) (all.drop c):=by
 have key:∀(l:List aD) (n:Nat),(∀j o,l[j]?=aa o->all[n+j]?=aa o)->Names all (List.range' n l.length) l:=by
  intro l;induction l with
  |nil=>intro n _;trivial
  |cons o r b =>
   intro n h;rw[en,List.range'_succ];refine⟨by simpa using h 0 o rfl,b (n+1) λj a hj=>?_⟩;have:=h (j+1) a (by grind);grind
 have:=key (all.drop c) c λj o h=>by grind
 grind
structure Tj{P:aK}(X:Cx P)(N:Nat)(ops:Array aD)(φ:Fr){g:Type}(x:g->Nat->D)(S:g->(Nat->Bool)->List bm)(Inv:g->(Nat->Bool)->Prop)(idx:Nat->Option Nat)(c:Nat):Prop where
 back:∀i o,ops[i]?=aa o->∀e∈o.after,dh e=ab->e.on<i
 IG:∀i o d,ops[i]?=aa o->o.dst=aa d->idx d=aa i/\d<N
 xH:∀d i,idx d=aa i->∃o,ops[i]?=aa o/\o.dst=aa d
 one:∀κ (D:Nat->Bool) i o,Inv κ D->ops[i]?=aa o->i<c->D i=ae->(∀e∈o.after,dh e=ab->D e.on=ab)->(∀j o',ops[j]?=aa o'->D j=ab->∀e∈o'.after,dh e=ab->D e.on=ab)->pU X N ops.toList o (lX ops.toList φ (x κ) i) (S κ D) (λq:{κ':g // (∀j,D j=ab->x κ' j=x κ j)/\Inv κ' (dC i D)}=>x q.1 i) (λq=>S q.1 (dC i D))
 RU:∀(x:Nat->D) i o,ops[i]?=aa o->∀t σ s v,dk σ s v (match idx t with|some j=>(if ∃e∈o.after,dh e=ab/\e.on=j then x j else .any)|none=>look φ t)->dk σ s v (look (lX ops.toList φ x i) t)
 fin:∀(x:Nat->D) t σ s v,dk σ s v (match idx t with|some j=>x j|none=>look φ t)->dk σ s v (look (OG ops.toList φ x) t)
 U1:∀i o,ops[i]?=aa o->c<=i->∀L:Array Bool,(∀i o,ops[i]?=aa o->L.getD i ae=ab->∀e∈o.after,dh e=ab->L.getD e.on ae=ab)->(∀e∈o.after,dh e=ab->L.getD e.on ae=ab)->∀k,k<i->L.getD k ae=ab
 cc:c<=ops.size
 Qm:∀κ (D:Nat->Bool),Inv κ D->(∀i,i<c->D i=ab)->∀i,c<=i->i<ops.size->x κ i=.any
def FU(a:L.size=n)(hi:i<n):L.getD i ab=ae↔¬L.getD i ae=ab:=by grind
theorem Tj.seq(h:Tj X N ops φ x S Inv idx c):∀(a d:Nat)(L:Array Bool)(t:Nat),L.size=ops.size->c<=d->d<=ops.size->ops.size-d<=a->(∀k,k<ops.size->(L.getD k ae=ab↔k<d)) ->
  Region.linearise.go .any ops a t L []=List.range' d (ops.size-d):=by
 intro a;induction a with
 |zero =>
  grind[vG]
 |succ a v =>
  intro d L t s B z E u;by_cases A:d=ops.size
  .grind [BH]
  .rw[oP];have j:d<ops.size:=by omega
   have q:∀i o,ops[i]?=aa o->L.getD i ae=ab->∀e∈o.after,dh e=ab->L.getD e.on ae=ab:=λi o ho hi e l hb=>by have b:=(eX.1 ho).1;have h1:=(u i b).1 hi;have h2:=h.back i o ho e l hb;grind
   have p:∀i,i∈aX .any ops L->i=d:=λi hi=>by
    obtain⟨o,ho,hl,w⟩:=mem_ready.1 hi;have b:=(eX.1 ho).1;have C:¬i<d:=λm=>(FU s b).1 hl ((u i b).2 m);rcases cM d i with h1|h1
    .have:=h.U1 i o ho (by omega) L q w d h1;grind
    .omega
   have r:d∈aX .any ops L:=mem_ready.2 ⟨ops[d],gg j,(FU s j).2 (λhh=>by grind),λe l hb=>by
    have:=h.back d _ (gg j) e l hb
    grind⟩
   have n:0<(aX .any ops L).length:=List.length_pos_of_mem r;have f:=iO t n;rw[bn f];have e1:=p _ (nz f);simp only[e1];rw[v (d+1) _ _ (by grind) (by omega) (by omega) (by omega) (λk y=>by grind[eE])]
   rw[show ops.size-d=(ops.size-(d+1))+1 by omega,List.range'_succ]
def Tj.arr(h:Tj X N ops φ x S Inv idx c){O:ak->St->Prop}{b:aU}{kk:List Item}(hb:b.kind≠.early){σ0:List bm}{s0:St}(hQ:∀l D s a,Inv l D->(∀i,i<c->D i=ab)->cx N (S l D) s (OG ops.toList φ (x l)) a->aF (S l D) s->cO σ0 s0 (S l D) s->fA X O (G (b.aT a (.inRegion ops (List.range' c (ops.size-c))::kk)) cs) s):
  ∀(f:Nat) (l:g) (L:Array Bool),Inv l (kU L)->L.size=ops.size->(L.toList.filter (λb=>!b)).length<=f->(∀k,c<=k->¬L.getD k ae=ab) ->
   (∀i o,ops[i]?=aa o->L.getD i ae=ab->∀e∈o.after,dh e=ab->L.getD e.on ae=ab) ->
   ∀(s:St) (a:Act),H9 N (S l (kU L)) s (gp φ (x l) idx L) a->aF (S l (kU L)) s->cO σ0 s0 (S l (kU L)) s ->
   ∀t,fA X O (G (b.aT a (.inRegion ops (Region.linearise.go .any ops f t L [])::kk)) cs) s:=by
 have fin:∀(l:g) (L:Array Bool) (s:St) (a:Act) (f t:Nat),Inv l (kU L)->L.size=ops.size->(L.toList.filter (λb=>!b)).length<=f->(∀k,c<=k->¬L.getD k ae=ab)->(∀i,i<c->L.getD i ae=ab)->H9 N (S l (kU L)) s (gp φ (x l) idx L) a->aF (S l (kU L)) s->cO σ0 s0 (S l (kU L)) s->fA X O (G (b.aT a (.inRegion ops (Region.linearise.go .any ops f t L [])::kk)) cs) s:=by
  intro l L s a f t F A Q p r m hh st;have U:=h.cc;rw[h.seq f c L t A (ba _) U (by
   have h2:=Ql (n:=ops.size) (c:=c) A p;omega) (λk Y=>⟨λM=>by grind,λM=>r k M⟩)]
  exact hQ l _ s a F r (m.IF λt σ s v H=>h.fin (x l) t σ s v (by
   unfold gp at H;cases hi:idx t with
   |none=>grind
   |some k =>
    simp only[hi]at H⊢;obtain⟨o,ho,_⟩:=h.xH _ _ hi;rcases cM k c with h1|h1
    .grind
    .rw[h.Qm l _ F r k h1 (eX.1 ho).1];trivial)) hh st
 intro f;induction f with
 |zero =>
  intro l L F A Q p B s a m hh st t;have U:=h.cc;grind[zV]
 |succ f ih =>
  intro l L F A Q p B s a m hh st t;have U:=h.cc;cases u:(aX .any ops L)[t % (aX .any ops L).length]? with
  |none=>exact fin l L s a _ t F A Q p (λi hi=>Jp (back:=h.back) A (DX u) i (by omega)) m hh st
  |some i =>
   have hi:=bL u;obtain⟨o,ho,UN,w⟩:=mem_ready.1 hi;have uS:i<ops.size:=(eX.1 ho).1;rcases cM i c with C|C
   rotate_left
   .exact fin l L s a _ t F A Q p (λk Y=>h.U1 i o ho C L B w k (by omega)) m hh st
   rw[oP,u];have I:¬L.getD i ae=ab:=by grind
   have z:((L.setIfInBounds i ab).toList.filter (λb=>!b)).length<=f:=by
    have h1:L.toList[i]?=aa ae:=by rw[y7,gg (by omega:i<L.size)];simpa[dK,gg (by omega:i<L.size)]using I
    grind[count_set]
   have J:∀j Z,ops[j]?=aa Z->(L.setIfInBounds i ab).getD j ae=ab->∀e∈Z.after,dh e=ab->(L.setIfInBounds i ab).getD e.on ae=ab:=by grind[eE]
   have W:cx N (S l (kU L)) s (lX ops.toList φ (x l) i) a:=MU (h.RU (x l) i o ho) m w;have:=h.one l (kU L) i o F ho C (by unfold kU;grind) w B s a W hh b kk cs O i (Region.linearise.go .any ops f (t / (aX .any ops L).length) (L.setIfInBounds i ab) []) hb (by grind);simp only[pw]at this;refine this λq v s' H E y=>?_;obtain⟨V,T,K⟩:=q;have R:=G5 (L:=L) (i:=i) (by omega);simp only at H E y;rw[<-R]at H E y K;exact ih V _ K (by grind) z (λk Y=>by grind[eE]) J s' _ (G1 (λd hd=>h.IG i o d ho hd) h.xH ho (by omega) (λj hj=>T j hj) hh.len y m H) E (st.trans y) _
def AW.reg(hf:P.follows Departure.mixedOrders=ab)(c:Nat)(x:g->Nat->D)(S:g->(Nat->Bool)->List bm)(Inv:g->(Nat->Bool)->Prop)(F:g)(hI0:Inv F λ_=>ae)(h0:S F (λ_=>ae)=σ)(SC:oh all=ab)(E:vT all 0=ab)(G:qO N all=ab)(hc:c<=all.length)(U1:∀i,c<=i->i<all.length->∀L:Nat->Prop,(∀i,i<all.length->L i->∀e∈b7 (all.getD i l3).after.toList,L e)->(∀e∈b7 (all.getD i l3).after.toList,L e)->∀k,k<i->L k)(Qm:∀n (D:Nat->Bool),Inv n D->(∀i,i<c->D i=ab)->∀i,c<=i->i<all.length->x n i=.any)(one:∀n (D:Nat->Bool) i o,Inv n D->all[i]?=aa o->i<c->D i=ae->(∀e∈b7 o.after.toList,D e=ab)->(∀j o',all[j]?=aa o'->D j=ab->∀e∈b7 o'.after.toList,D e=ab)->pU X N all o (lX all φ (x n) i) (S n D) (λq:{K:g // (∀j,D j=ab->x K j=x n j)/\Inv K (dC i D)}=>x q.1 i) (λq=>S q.1 (dC i D))){Q:Post}(hQ:∀n D,Inv n D->(∀i,i<c->D i=ab)->jl X N all (all.drop c) (Q .normal) (OG all φ (x n)) (S n D))(id:Nat):
  AW X N (.region id all.toArray ab) Q φ σ:=by
 have f:∀i:Nat,all.toArray[i]?=all[i]?:=λi=>by simp
 let idx:Nat->Option Nat:=λt=>(bg all.length).find? (λi=>decide ((all.getD i l3).dst=aa t));have H:∀t j,idx t=aa j->∃o,all[j]?=aa o/\o.dst=aa t:=by grind
 have r:∀i o d,all[i]?=aa o->o.dst=aa d->idx d=aa i:=by
  intro i o d ho hd;have hi:i<all.length:=(cf.1 ho).1;cases hx:idx d with
  |none =>
   have:=List.find?_eq_none.1 hx i (by grind);grind
  |some j =>
   grind[sM]
 have O:∀t,oQ t all=ab↔∃j,idx t=aa j:=by grind[pP,rN]
 have I:∀i o,all[i]?=aa o->all.getD i l3=o:=λi o h=>by grind
 have hd:Tj X N all.toArray φ x S Inv idx c:=by
  refine⟨?_,?_,?_,?_,?_,?_,λi o ho VT L hLc hLp k hk=>?_,by grind,λn D J Z i h1 h2=>Qm n D J Z i h1 (by grind)⟩
  .intro i o ho e T hb;rw[f]at ho;have:=BF E i o ho e.on (eH.2 ⟨e,by grind,hb,rfl⟩);omega
  .intro i o d ho hd;rw[f]at ho;exact⟨r i o d ho hd,gM (yk G i o ho) d hd⟩
  .grind
  .intro n D i o J ho Wq Wr Mq LS;rw[f]at ho;exact one n D i o J ho Wq Wr (λe T=>by
    grind[eH]) λj o hj hDj e T=>by grind[eH]
  .intro x i o ho t σ s v R;rw[f]at ho;show dk σ s v (look (lX all φ x i) t);unfold lX;rw[I i o ho];rcases mX (m:=λj=>ix j (b7 o.after.toList)) (φ:=ur all φ) (t:=t) (l:=zT all 0 x) (i:=0)with⟨j,y,h1,h2,B⟩|B
   .rw[B];rw[we]at h1;cases hj:all[j]? with
    |none=>grind
    |some oj =>
     simp only[hj,mz,dm,lu,bz]at h1;rw[r j oj t hj h1.1]at R;simp only at R;rw[bc]at R
     .grind
     .simp only[bz]at h2;obtain⟨e,a,b,c⟩:=eH.1 (PD h2);grind
   .rw[B,lh];split
    .trivial
    grind
  .intro x t σ s v R;show dk σ s v (look (OG all φ x) t);unfold OG;rcases mX (m:=λ_=>ab) (φ:=ur all φ) (t:=t) (l:=zT all 0 x) (i:=0)with⟨j,y,h1,h2,B⟩|B
   .rw[B];rw[we]at h1;grind
   .rw[B,lh];split
    .trivial
    grind
  .rw[f]at ho;refine U1 i VT (cf.1 ho).1 (λk=>L.getD k ae=ab) (λi' hi' hl e T=>?_) (λe T=>?_) k hk
   .grind [eH]
   grind[eH]
 intro s a W hh b kk cs SS hb VK;refine .next rfl λA u=>?_;have u:=X.hZ u;have z:=hh.rely u;have M:=W.rely u hh;have C:Step σ A σ {A with w:={A.w with drawn:=A.w.drawn+1}}:=Step.same rfl rfl rfl rfl;have V:aF σ {A with w:={A.w with drawn:=A.w.drawn+1}}:=z.same rfl;have XM:=u.stepW.trans (C.oe z);refine⟨_,{A with w:={A.w with drawn:=A.w.drawn+1}},#[],lA,⟨⟨σ,σ,z,V,C⟩,.nil⟩,?_⟩;simp only[Region.schedule,hf,Bool.true_or,bY];have U:kU (Array.replicate all.toArray.size ae)=λ_=>ae:=by funext i;simp[kU,dK,mv];split<;>simp
 refine hd.arr hb (σ0:=σ) (s0:=s) (λn D s2 a2 J Z f2 h2 oq=>?_) all.toArray.size F _ (by grind) (by simp) (by simp) ?_ ?_ _ a ?_ (by grind) (by grind) _
 .refine hQ n D J Z s2 a2 f2 h2 b kk cs SS _ hb ?_ λφ3 σ3 s3 a3 q3 f3 B Y=>VK .normal _ _ s3 a3 q3 f3 B (oq.trans Y);grind[Names.Ti]
 .intro i _ hi;simp[dK,mv]at hi;split at hi<;>simp at hi
 .intro i o ho hi;simp[dK,mv]at hi;split at hi<;>simp at hi
 .rw[U,h0];have p:=M.mono (C.oe z) z.len;refine⟨p.size,p.defers,λt=>?_⟩;unfold gp;cases hix:idx t with
  |none=>exact p.slot t
  |some j =>
   simp only;rw[aW]
   .exact p.slot t
   .simp[dK,mv];split<;>simp
def pU.to{e:Type}{y:ι->D}{σ':ι->List bm}{z:e->D}{d:e->List bm}(h:pU X N all o φ σ y σ')(l:∀j,∃k,y j=z k/\σ' j=d k):pU X N all o φ σ z d:=by intro s a f hh b k cs S i rest hb hi hK;refine h s a f hh b k cs S i rest hb hi λj v s' r1 r2 r3=>?_;obtain⟨q,p2,p3⟩:=l j;grind
def OA.Dx{d:Type}{y:D}{z:d->D}{e:d->List bm}(h:OA X N all o φ σ y σ')(k:d)(h1:y=z k)(h2:σ'=e k):pU X N all o φ σ z e:=by subst h1 h2;exactλs a f hh b k' cs S i rest hb hi hK=>h s a f hh b k' cs S i rest hb hi λv s' r1 r2 r3=>hK k v s' r1 r2 r3
end
section
variable {X:Cx P}
theorem pU.mN{x:ι->D}{σ':ι->List bm}(n:o.guard=af)(h:∀s e,aF σ s->(∀y,dk σ s (e y) (bO φ y))->∃(j:ι)(s':St)(v:aj),(an e o).run P s.w=.ok (.value v) s'.w/\dk (σ' j) s' v (x j)/\aF (σ' j) s'/\Step σ s (σ' j) s'/\eN s ((an e o).events P s.w #[])):pU X N all o φ σ x σ':=by intro s a f hh b k cs S i rest hb hi hK;refine DQ hb hi (dD n) λp d=>?_;have c:=hh.rely d;obtain⟨j,s',v,h1,h2,g,l,m⟩:=h p a.eval c (dt (f.rely d hh));exact⟨_,s',v,h1,.inl rfl,⟨⟨σ,σ' j,c,g,l⟩,m⟩,hK j v s' h2 g (d.stepW.trans (l.oe c))⟩
def pU.zQ{x:D}(h:OA X N all o φ σ x σ'):pU X N all o φ σ (λ_:Unit=>x) (λ_=>σ') :=
 λs a f hh b k cs S i rest hb hi hK=>h s a f hh b k cs S i rest hb hi λv s'=>hK () v s'
def OA.law{x:D}(h:bF P o (bO φ) σ x σ')(a:o.guard=af):OA X N all o φ σ x σ':=.mN (λ_ _ _ _=>dD a) h
def OA.eval{x:D}(a:dj P T)(hC:bR X CT)(h:vH T CT ds all φ σ o=aa (x,af,obs))(ho:ar obs):OA X N all o φ σ x σ:=eZ a hC h ho
def OA.fW{x:D}(a:dj P T)(hC:bR X CT)(h:vH T CT [] all φ σ o=aa (x,af,[])):OA X N all o φ σ x σ:=eZ a hC h aq
def wh(X:Cx P)(N:Nat)(all:List aD)(φ:Fr)(σ:List bm)(x:Nat->D)(pre:Nat->Bool):List aD->Nat->Prop
 |[],_=>True
 |o::r,i=>(match pre i with|true=>OA X N all o (lX all φ x i) σ (x i) σ|false=>True)/\wh X N all φ σ x pre r (i+1)
def wi(X:Cx P)(N:Nat)(all:List aD)(φ:Fr)(σ:List bm)(x:Nat->D)(m:Nat):List aD->Nat->Prop
 |[],_=>True
 |o::r,i=>(match az i m with|true=>True|false=>OA X N all o (lX all φ x i) σ (x i) σ)/\wi X N all φ σ x m r (i+1)
theorem wh.get{x:Nat->D}{pre:Nat->Bool}:∀{l:List aD}{k:Nat},wh X N all φ σ x pre l k->∀(i:Nat)(o:aD),l[i]?=aa o->pre (k+i)=ab->OA X N all o (lX all φ x (k+i)) σ (x (k+i)) σ
 |[],_,_,i,o,h=>by grind
 |p::r,k,h,0,o,hi=>λa=>by simp at hi;subst hi;have h1:=h.1;grind
 |p::r,k,h,i+1,o,hi=>λa=>by have:=wh.get h.2 i o (by grind) (by grind);grind
theorem wi.get{x:Nat->D}{m:Nat}:∀{l:List aD}{k:Nat},wi X N all φ σ x m l k->∀(i:Nat)(o:aD),l[i]?=aa o->k+i≠m->OA X N all o (lX all φ x (k+i)) σ (x (k+i)) σ
 |[],_,_,i,o,h=>by grind
 |p::r,k,h,0,o,hi=>λa=>by simp at hi;subst hi;have h1:=h.1;simp only[fS]at a;grind[Nat.eq_of_beq_eq_true]
 |p::r,k,h,i+1,o,hi=>λa=>by have:=wi.get h.2 i o (by grind) (by omega);grind
def Jq(pre:Nat->Bool)(x:Nat->D)(y:ι->Nat->D)(j:ι)(i:Nat):D:=match pre i with|true=>x i|false=>y j i
def MV{m c:Nat}{pre:Nat->Bool}{x:Nat->D}{b:ι->Nat->D}{σ':ι->List bm}{S:ι->(Nat->Bool)->List bm}(u:pre m=ae)(t:BG pre m all 0=ab)(same:∀j i,pre i=ab->b j i=x i)(one:∀i o,all[i]?=aa o->pre i=ab->OA X N all o (lX all φ x i) σ (x i) σ)(two:∀j (D:Nat->Bool) i o,all[i]?=aa o->i≠m->i<c->D i=ae->(∀k l,all[k]?=aa l->D k=ab->∀e∈b7 l.after.toList,D e=ab)->OA X N all o (lX all φ (b j) i) (S j D) (b j i) (S j (dC i D)))(MW:∀o,all[m]?=aa o->pU X N all o (lX all φ x m) σ (λj=>b j m) σ')(r:∀j (D:Nat->Bool),(∀i,D i=ab->pre i=ab)->σ' j=S j (dC m D)):
  ∀(a:Option ι) (D:Nat->Bool) i o,(a.isSome=D m/\(a=af->∀i,D i=ab->pre i=ab))->all[i]?=aa o->i<c->D i=ae->(∀e∈b7 o.after.toList,D e=ab)->(∀j l,all[j]?=aa l->D j=ab->∀e∈b7 l.after.toList,D e=ab) ->
   pU X N all o (lX all φ (a.elim x b) i) (a.elim σ λj=>S j D) (λq:{d:Option ι // (∀j,D j=ab->d.elim x b j=a.elim x b j)/\(d.isSome=dC i D m/\(d=af->∀k,dC i D k=ab->pre k=ab))}=>q.1.elim x b i) (λq=>q.1.elim σ λj=>S j (dC i D)):=by
 intro a D i o p ho Wq Wr Mq Ws;have v:∀{k},dC i D k=ab->k=i∨D k=ab:=λ{k} f=>by unfold dC at f;grind[Nat.eq_of_beq_eq_true]
 have s:∀{k},k≠i->dC i D k=D k:=λ{k} f=>by unfold dC;grind[Nat.eq_of_beq_eq_true]
 by_cases g:i=m
 .subst g;cases a with
  |some j=>grind
  |none =>
   refine(MW o ho).to λj=>⟨⟨aa j,λk f=>same j k (p.2 rfl k f),?_,λh=>by cases h⟩,rfl,r j D (p.2 rfl)⟩
   unfold dC;grind[Nat.beq_refl]
 .cases a with
  |none =>
   have n:pre i=ab:=by grind[FT]
   exact(one i o ho n).Dx ⟨af,λ_ _=>rfl,by grind,λ_ k f=>by grind⟩ rfl rfl
  |some j=>exact(two j D i o ho g Wq Wr Ws).Dx ⟨aa j,λ_ _=>rfl,by grind,λh=>by cases h⟩ rfl rfl
def Jr{m c:Nat}{pre:Nat->Bool}{a:Option ι}{D:Nat->Bool}(b:a.isSome=D m/\(a=af->∀i,D i=ab->pre i=ab))(e:m<c)(d:∀i,i<c->D i=ab):∃j,a=aa j:=by
 cases a with
 |some j=>grind
 |none=>grind
def AK.MW(l:P.follows Departure.mixedOrders=ab)(m:Nat)(pre:Nat->Bool)(x:Nat->D)(y:ι->Nat->D)(σ':ι->List bm){id:Nat}(c:oh ops.toList=ab)(b:vT ops.toList 0=ab)(d:qO N ops.toList=ab)(hm:Nat.blt m ops.toList.length=ab)(f:pre m=ae)(e:BG pre m ops.toList 0=ab)(one:wh X N ops.toList φ σ x pre ops.toList 0)(two:∀j,wi X N ops.toList φ (σ' j) (Jq pre x y j) m ops.toList 0)(MW:pU X N ops.toList (ops.toList.getD m l3) (lX ops.toList φ x m) σ (λj=>Jq pre x y j m) σ')(k:∀j,AK X N Qf K .normal (OG ops.toList φ (Jq pre x y j)) (σ' j)):AK X N Qf (.code (.region id ops ab)::K) .normal φ σ:=by
 have hm:=ez hm;have:=AW.reg (X:=X) (N:=N) (φ:=φ) (σ:=σ) l (all:=ops.toList) ops.toList.length (λa:Option ι=>a.elim x (Jq pre x y)) (λa _=>a.elim σ σ') (λa D=>a.isSome=D m/\(a=af->∀i,D i=ab->pre i=ab)) af ⟨rfl,λ_ _ h=>by cases h⟩ rfl c b d (ba _)
  (λi h1 h2=>absurd h2 (l9.2 h1)) (λa D _ _ i h1 h2=>absurd h2 (l9.2 h1))
  (MV (S:=λj _=>σ' j) f e (λj i g=>by simp only[Jq,g]) (λi o hi g=>by have:=one.get i o hi (by grind);grind) (λj D i o hi Bi _ _ _=>by have:=(two j).get i o hi (by grind);grind)
   (λo ho=>by grind) (λ_ _ _=>rfl))
  (Q:=AK X N Qf K) (λa D n p=>by obtain⟨j,rfl⟩:=Jr n hm p;rw[pA];exact .nil (k j)) id
 rw[pw]at this;exact this
end
def qQ{B:bm}{r:List bm}(h:B≠.rG)(k:mU r=ab):mU (B::r)=ab:=by cases B<;>first|exact k|grind
section
variable {X:Cx P}
def AK.il{Q a:Post}(h:∀e φ σ,Q e φ σ->a e φ σ):∀{K:List It}{e:Exit}{φ:Fr}{σ:List bm},AK X N Q K e φ σ->AK X N a K e φ σ
 |[],e,φ,σ,q=>h e φ σ q
 |.code c::K,.normal,φ,σ,q=>AW.mono q λ_ _ _ q=>AK.il h q
 |.code c::K,.exit _,φ,σ,q=>AK.il (K:=K) h q
 |.code c::K,.ret,φ,σ,q=>AK.il (K:=K) h q
 |.code c::K,.panic _,φ,σ,q=>AK.il (K:=K) h q
 |.code c::K,.goto _,φ,σ,q=>AK.il (K:=K) h q
 |.code c::K,.outgrown,φ,σ,q=>AK.il (K:=K) h q
 |.blk id::K,.exit Ig,φ,σ,q=>by
  simp only[AK]at q⊢;split
  .rename_i e;rw[bc e]at q;exact AK.il (K:=K) h q
  .rename_i e;rw[aW e]at q;exact AK.il (K:=K) h q
 |.blk id::K,.normal,φ,σ,q=>AK.il (K:=K) h q
 |.blk id::K,.ret,φ,σ,q=>AK.il (K:=K) h q
 |.blk id::K,.panic _,φ,σ,q=>AK.il (K:=K) h q
 |.blk id::K,.goto _,φ,σ,q=>AK.il (K:=K) h q
 |.blk id::K,.outgrown,φ,σ,q=>AK.il (K:=K) h q
 |.ops all rest::K,.normal,φ,σ,q=>jl.mono q λ_ _ q=>AK.il h q
 |.ops all rest::K,.exit _,φ,σ,q=>AK.il (K:=K) h q
 |.ops all rest::K,.ret,φ,σ,q=>AK.il (K:=K) h q
 |.ops all rest::K,.panic _,φ,σ,q=>AK.il (K:=K) h q
 |.ops all rest::K,.goto _,φ,σ,q=>AK.il (K:=K) h q
 |.ops all rest::K,.outgrown,φ,σ,q=>AK.il (K:=K) h q
def AK.Qb{id:Nat}{A:Fr->List bm->Prop}{b a c:List It}(h1:kD id b=af)(h2:kD id a=aa c)(k:AK X N Qf c .normal φ σ):
  AK X N (FN A (AK X N Qf a)) (.code (.exit id)::b) .normal φ σ :=
 AK.il (λe φ' σ' q=>by cases e<;>exact q) (AK.leave (X:=X) (N:=N) (Qr:=Qf) (A:=A) (φ:=φ) (σ:=σ) h1 h2 k)
end
section
variable {X:Cx P}
def AK.kV{fn:Func}{h:Nat}{σ':ι->List bm}(i:ι)(ks:List Nat){cs:List A}{t:Tmp}{b:TI}(q:fn.results.toList=[.cell t ty])(hi:bG T ty=aa b)(o:b.agg=ab)(n:look φ t=.e (.one (.ptr l 0)))(hl:eB l σ=aa (.cells E cs))(a:az cs.length b.size=ab)(d:ix l ks=ae)(g:Dg (.e (.agg cs)) (iL ks (res i))=aa ps)(r:ar ps)(f:vt ks.length (res i)=ab)(m:kh ks σ=aa (σ' i))(c:kP (σ' i)=ab)(p:dX ks=ab)(k:∀j,j<h->ks[j]?=aa j):
  AK X N (λe φ σ1=>∃j,JA T fn h (res j) (σ' j) e φ σ1) (.code .ret::K) .normal φ σ :=
 AK.ret ⟨i,.inl rfl,ks,l,E,cs,t,ty,b,ps,af,nofun,q,hi,o,b5 a,n,cU hl,BI d,g,r,f,m,c,p,k⟩
def AK.yp{fn:Func}{k:Nat}{σ':ι->List bm}(i:ι)(ks:List Nat){cs:List A}{t u:Tmp}{b:TI}{x:E1}(s:fn.results.toList=[.cell t ty,.tmp u])(hi:bG T ty=aa b)(q:b.agg=ab)(p:look φ t=.e (.one (.ptr l 0)))(m:look φ u=.e x)(hl:eB l σ=aa (.cells E cs))(a:az cs.length b.size=ab)(d:ix l ks=ae)(g:Dg (.fK [.agg cs,x]) (iL ks (res i))=aa ps)(v:ar ps)(f:vt ks.length (res i)=ab)(n:kh ks σ=aa (σ' i))(c:kP (σ' i)=ab)(r:dX ks=ab)(o:∀j,j<k->ks[j]?=aa j):
  AK X N (λe φ σ1=>∃j,JA T fn k (res j) (σ' j) e φ σ1) (.code .ret::K) .normal φ σ :=
 AK.ret ⟨i,.inl rfl,ks,l,E,cs,t,ty,b,ps,aa (u,x),λ_ h=>by cases h;exact m,s,hi,q,b5 a,p,cU hl,BI d,g,v,f,n,c,r,o⟩
def Ev.kW(g:dj P T){f:aM}{fn:Func}{args:List D}{res:D}(d:P.funcs[f]?=aa fn)(a:(fn.name== "runtime.NumGoroutine")=ae)(hb:fn.body=aa c)(b:bC args.length fn.ntmps=ab)(h:Fits args σ->AK X fn.ntmps (λe φ σ1=>∃_:Unit,JA T fn σ.length res σ' e φ σ1) [.code c] .normal (je 0 args) σ):Ev X f args σ res σ' :=
 (dW.mb (ι:=Unit) (σ':=λ_=>σ') (res:=λ_=>res) g d a hb b h).GI
end
section
variable {X:Cx P}
def AK.Ta{x:ι->D}{σ':ι->List bm}(h:pU X N all o φ σ x σ')(d:gm N o.dst=ab)(k:∀i,AK X N Qf (.ops all rest::K) .normal (kO o.dst (x i) φ) (σ' i)):AK X N Qf (.ops all (o::rest)::K) .normal φ σ:=by
  intro s a f hh b kk cs S idx hb ia hQ;cases idx with
  | nil=>exact ia.elim
  | cons j idx =>
  refine h s a f hh b kk cs S j idx hb ia.1 λi v s' h1 h2 h3=>?_;refine k i s' _ ?_ h2 b kk cs S idx hb ia.2 λc σ2 s2 a2 q e g st=>hQ c σ2 s2 a2 q e g (h3.trans st);cases l:o.dst with
  | none=>exact f.mono h3 hh.len
  | some t=>exact(f.mono h3 hh.len).put (gM d t l) h1
def pU.m6[X.jw]{f:aM}(Oq:dW X f cy [] res σ1){Fo:List D}(hgd:Bw all φ o=ab)(ho:o.op=.call {callee:=.value fo,args:=xs,argTypes:=jN})(hf:eD (bO φ fo)=aa (f,cap))(hl:iQ σ (xs.toList.map (bO φ)++fX cap) Fo)(Y:uk Fo (g6 [] cy)=aa ps)(hps:ar ps)(hin:mG 0 cy=ab)(T:∀j,Mf (res j)=ab)(iu:∀j,A7 (σ1 j)=ab):pU X N all o φ σ res (λj=>σ++σ1 j):=by
  intro s a V hh b kx cs S i idx hb hi hQ;have X3:=dt V fo;unfold eD at hf;split at hf
  case h_2=>cases hf
  case h_1 f' Ik he =>
    cases hf;rw[he]at X3;have I:=fM X3;generalize A:a.eval fo=fv at I;cases I with
    | fn fs lZ hlf Wi f1 f2 h1 h2 r1 r2 =>
      have Wj:fs=[]:=iV hlf;subst Wj;have O:cn σ s lZ (fX cap):=lx (λj c hj=>⟨f2 j,h2 j (by grind),r2 j c hj⟩) Wi;have G:cn σ s (xs.toList.map a.eval++lZ) (xs.toList.map (bO φ)++fX cap):=(nI (dt V) xs.toList).append O;generalize Ow:xs.toList.map a.eval++lZ=vs at G;obtain⟨⟨fn,MS,Wk,J⟩,R⟩:=Oq;have vK:∀w,(an a.eval o).run P w=.ok (.enter f vs.toArray) w:=λw=>by grind[gQ]
      have Wl:∀w,(an a.eval o).events P w #[]=#[]:=λw=>(gQ ho MS Wk J A w).2;refine .next rfl λm R2=>?_;have hr:=X.hZ R2;have e:=hh.rely hr;have f1':=V.rely hr hh;have U:cn σ m vs (xs.toList.map (bO φ)++fX cap):=G.mono hr.stepW.ext hh.len;obtain⟨B,M',hBL,m1,m2,m3,m4,m5⟩:=hl m vs e U;let sc:St:={m with β:=[],M:=M',own:=λb=>m.own b∨∃L∈m.β,b∈L.bs}
      have hhc:aF [] sc:=by
        refine⟨m3,rfl,by simp,by grind,by grind,λb hb=>⟨?_,by grind⟩⟩;rcases hb with hb|⟨L',q,hb⟩
        · exact(e.own b hb).1
        · exact e.lt L' q b hb
      have Wm:eR m sc:=by refine⟨rfl,m1,λb hb o=>m2 b (λE=>by grind) o,m3,λb hb=>?_⟩;grind
      have z:cn [] sc vs cy:=by have a3:=rC Y hps m5;exact(cn.sub (ks:=[]) (σ:=σ) (σ':=[]) (s:={m with M:=M'}) (β':=[]) rfl rfl a3 hin).mono (σ:=[]) (s:={m with β:=[],M:=M'}) (σ':=[]) (s':=sc) ⟨λ_ _ _ h=>h,λl B L E hL=>by grind⟩ rfl
      refine⟨_,m,_,oH hi (Je hgd _ _ _ f1') hb (vK m.w),⟨⟨σ,σ,e,e,.refl _ _⟩,eN.seen (by rw[Wl];exact .nil)⟩,.ghost Wm (R sc vs z hhc S _ λj fr v s2 GA lY Fa oq=>?_)⟩;refine pG (cs:=cs) (c:=b.aT a (.inRegion all.toArray (i::idx)::kx)) Fa GA λt Z=>?_;have p:=Fa.rely Z;have n:=oq.trans Z.stepW;have K:=lY.mono Z.stepW.ext Fa.len
      classical
      let F:Mem:=λb o=>if B b then m.M b o else t.M b o;have r:∀b,(m.own b∨∃L∈m.β,b∈L.bs)->t.own b:=λb hb=>by rw[n.own];exact hb
      have X4:mF t {t with M:=F}:=by
        refine⟨rfl,rfl,rfl,λb o v A=>?_,λb o v A=>?_⟩
        · grind
        grind
      refine .forget Cx.jw.ok X4 ?_;have X5:∀b o v,F b o=aa v->t.M b o=aa v:=X4.less;let s5:St:={t with M:=F,β:=m.β++t.β,own:=m.own}
      have X6:∀b o v,m.M b o=aa v->F b o=aa v:=λb o v A=>by
        by_cases d:B b
        · grind
        · simp only[F,d,b6];exact n.mem b o v (m1 b o v A)
      have X7:∀b,b<m.w.heap.size->∀o,F b o=m.M b o:=λb hb o=>by
        by_cases d:B b
        · grind
        · simp only[F,d,b6]
          rw[n.iI b hb (by grind) o];grind
      have Q:t.β.length=(σ1 j).length:=p.len;have ex:Ext σ m (σ++σ1 j) s5:=by
        refine⟨X6,λl B L E hL=>⟨B,L,?_,?_,.refl _ _⟩⟩
        · grind
        grind
      have W:m.w.heap.size<=t.w.heap.size:=n.size;have x:∀(l:Nat) (L':Loc),(m.β++t.β)[l]?=aa L'->(l<m.β.length/\m.β[l]?=aa L')∨(m.β.length<=l/\t.β[l-m.β.length]?=aa L'):=λl L' h=>by grind
      have hh5:aF (σ++σ1 j) s5:=by
        refine⟨λb o v A=>p.mem b o v (X5 b o v A),by simp[s5,e.len,Q],?_,?_,?_,?_⟩
        · intro l B L' E q
          rcases x l L' q with⟨uS,h1⟩|⟨RZ,h1⟩
          · rw[iE (by rw[<-e.len];exact uS)]at E
            exact(e.box l B L' E h1).carry ex e.len λg d=>⟨n.keep g (.inr ⟨L',bL h1,d⟩),X7 g (e.lt L' (bL h1) g d)⟩
          · rw[fR (by rw[<-e.len];exact RZ),<-e.len]at E
            have hbx:=p.box _ B L' E h1;rcases A8 (iu j) B (bL E)with⟨H,rfl⟩|rfl
            · obtain⟨ch,c1,c2,c3,c4⟩:=hbx
              refine⟨ch,c1,c2,c3,λg d o=>?_⟩;grind
            · trivial
        · intro l l' L1 L2 hL1 hL2 g y C
          rcases x l L1 hL1 with⟨uS,h1⟩|⟨RZ,h1⟩<;>rcases x l' L2 hL2 with⟨aan,h2⟩|⟨aao,h2⟩
          · exact e.fY l l' L1 L2 h1 h2 g y C
          · exact absurd C ((p.own g (r g (.inr ⟨L1,bL h1,y⟩))).2 L2 (bL h2))
          · exact absurd y ((p.own g (r g (.inr ⟨L2,bL h2,C⟩))).2 L1 (bL h1))
          · have:=p.fY _ _ L1 L2 h1 h2 g y C;omega
        · intro L' q g d
          rcases ff.1 q with h|h
          · exact cA (e.lt L' h g d) W
          · exact p.lt L' h g d
        · intro g d
          refine⟨cA (e.own g d).1 W,λL' q=>?_⟩;rcases ff.1 q with h|h
          · exact(e.own g d).2 L' h
          · exact(p.own g (r g (.inl d))).2 L' h
      have hg5:eR {t with M:=F} s5:=by refine⟨rfl,λ_ _ _ h=>h,λ_ _ _=>rfl,λb o v A=>p.mem b o v (X5 b o v A),λg d=>?_⟩;grind
      have st5:cO σ m (σ++σ1 j) s5:=by
        refine⟨W,λg d=>n.keep g (.inl d),X6,λg d _ o=>X7 g d o,λL' q g d=>?_,ex.box,n.os,n.tape,n.output,rfl⟩;rcases ff.1 q with h|h
        · grind
        · rcases n.uP L' h g d with h1|⟨L0,h1,_⟩
          · grind
          grind
      refine .ghost hg5 ?_;have u:=jd (b:=b) (a:=a) (k:=kx) all.toArray i idx v;rw[hi]at u;simp only[my]at u;rw[u];exact hQ j v s5 (Mg (T j) K) hh5 (hr.stepW.trans st5)
def AK.m6[X.jw]{ι:Type}{fo:aE}{xs:Array aE}{jN:Array av}{f:aM}{cap:List C}{cy:List D}{res:ι->D}{σ1:ι->List bm}(e:dW X f cy [] res σ1){c:List D}(g:Bw all φ o=ab)(ho:o.op=.call {callee:=.value fo,args:=xs,argTypes:=jN})(l:eD (bO φ fo)=aa (f,cap))(hl:iQ σ (xs.toList.map (bO φ)++fX cap) c){ps:List Prop}(a:uk c (g6 [] cy)=aa ps)(i:ar ps)(d:mG 0 cy=ab)(b:∀j,Mf (res j)=ab)(h:∀j,A7 (σ1 j)=ab)(k:gm N o.dst=ab)(kk:∀j,AK X N Qf (.ops all rest::K) .normal (kO o.dst (res j) φ) (σ++σ1 j)):AK X N Qf (.ops all (o::rest)::K) .normal φ σ:=.Ta (pU.m6 e g ho l hl a i d b h) k kk
def AK.Jm[X.jw]{f:aM}(h:dW X f cy [] res σ1)(m p:Nat){u:aj}(g:Bw all φ o=ab)(ho:o.op=.call {callee:=.value fo,args:=xs,argTypes:=jN})(r:eD (bO φ fo)=aa (f,cap))(s:(xs.toList.map (bO φ)++fX cap)[p]?=aa (.e (.one (.v u))))(hl:jw σ m u k n es)(a:uk ((xs.toList.map (bO φ)++fX cap).set p (.e (.one (.c (.sl ae k n es))))) (g6 [] cy)=aa ps)(l:ar ps)(d:mG 0 cy=ab)(b:∀j,Mf (res j)=ab)(i:∀j,A7 (σ1 j)=ab)(q:gm N o.dst=ab)(kk:∀j,AK X N Qf (.ops all rest::K) .normal (kO o.dst (res j) φ) (σ++σ1 j)):AK X N Qf (.ops all (o::rest)::K) .normal φ σ :=
  AK.m6 h g ho r ((iQ.refl _ _).step p m s hl) a l d b i q kk
end
def Ij(p:Bs):aj:=.string ⟨p.toArray⟩
def Rp{a:ByteArray}{p:Bs}(h:a.data.toList=p):Value.string a=Ij p:=by subst h;simp[Ij]
theorem str_val{p:Bs}(h:Rd M v (.str p)):v=Ij p/\dn v=ab:=by
 cases h with
 |str e _=>exact⟨Rp e,rfl⟩
section
variable {X:Cx P}{x:Nat->D}{S:(Nat->Bool)->List bm}
def oT:List aD->List (List Bool)->List (List Bool)
 |[],a=>a
 |o::r,a=>pV (Fw a (b7 o.after.toList)) λc=>oT r (a++[c])
 where pV:List Bool->(List Bool->List (List Bool))->List (List Bool)
 |[],q=>q []
 |true::r,q=>pV r λr=>q (ab::r)
 |false::r,q=>pV r λr=>q (ae::r)
theorem nT:∀(l:List Bool)(q:List Bool->List (List Bool)),oT.pV l q=q l
 |[],q=>rfl
 |true::r,q=>by simp only[oT.pV];rw[nT r]
 |false::r,q=>by simp only[oT.pV];rw[nT r]
def Bq{all:List aD}{D:Nat->Bool}(b:∀(j:Nat)(o:aD),all[j]?=aa o->D j=ab->∀e∈b7 o.after.toList,D e=ab):
  ∀(r:List aD) (a:List (List Bool)),(∀k,r[k]?=all[a.length+k]?)->(∀(j:Nat) (c:List Bool),a[j]?=aa c->∀o,all[j]?=aa o->(∀e∈b7 o.after.toList,D e=ab)->∀q,bit c q=ab->D q=ab) ->
   ∀(j:Nat) (c:List Bool),(oT r a)[j]?=aa c->∀o,all[j]?=aa o->(∀e∈b7 o.after.toList,D e=ab)->∀q,bit c q=ab->D q=ab
 |[],a,_,h=>h
 |o::r,a,d,h=>by
  simp only[oT];rw[nT];refine Bq b r _ (λk=>?_) ?_
  .have:=d (k+1);grind
  .intro j c l;have f:=d 0;simp only[iF,fS]at f;rcases Nat.lt_trichotomy j a.length with g|rfl|i
   .grind
   .rw[fR (ba _)]at l;grind[zC]
   grind
def ja(all:List aD)(i j:Nat):Bool:=match(oT all [])[i]? with|some c=>bit c j|none=>ae
def vU{D:Nat->Bool}(a:∀(j:Nat)(o:aD),all[j]?=aa o->D j=ab->∀e∈b7 o.after.toList,D e=ab):∀(i:Nat) o,all[i]?=aa o->(∀e∈b7 o.after.toList,D e=ab)->∀j,ja all i j=ab->D j=ab:=by
 intro i o ho hp j b;unfold ja at b;split at b
 .rename_i c d;exact Bq a all [] (by simp) (by simp) i c d o ho hp j b
 grind
def FE{D:Nat->Bool}(c:∀(j:Nat)(o:aD),all[j]?=aa o->D j=ab->∀e∈b7 o.after.toList,D e=ab)(g:D i=ae):∀j,(j=i∨ja all j i=ab)->D j=ae:=by
 intro j f;rcases f with rfl|f
 .exact g
 .cases h:D j with
  |false=>rfl
  |true =>
   have a:∃d,all[j]?=aa d:=by
    cases a:all[j]? with
    |some d=>grind
    |none =>
     exfalso;have k:(oT all []).length=all.length:=by
      have:∀(r:List aD) (b:List (List Bool)),(oT r b).length=b.length+r.length:=by
       intro r;induction r with
       |nil=>intro b;simp[oT]
       |cons o r l=>intro b;simp only[oT];grind[nT]
      grind
     unfold ja at f;grind
   obtain⟨d,a⟩:=a;have:=vU c j d a (c j d a h) i f;grind
def e9(X:Cx P)(N:Nat)(all:List aD)(φ:Fr)(x:Nat->D)(S:(Nat->Bool)->List bm)(i:Nat)(o:aD):Prop :=
 ∀D:Nat->Bool,(∀j,ja all i j=ab->D j=ab)->(∀j,(j=i∨ja all j i=ab)->D j=ae)->OA X N all o (lX all φ x i) (S D) (x i) (S (dC i D))
def I1{P:aK}(X:Cx P)(N:Nat)(all:List aD)(φ:Fr)(x:Nat->D)(S:(Nat->Bool)->List bm):List aD->Nat->Prop
 |[],_=>True
 |o::r,i=>e9 X N all φ x S i o/\I1 X N all φ x S r (i+1)
theorem I1.get{all:List aD}:∀{l:List aD}{k:Nat},I1 X N all φ x S l k->∀i o,l[i]?=aa o->e9 X N all φ x S (k+i) o
 |[],_,_,i,o,h=>by grind
 |p::r,k,h,0,o,ho=>by simp at ho;subst ho;exact h.1
 |p::r,k,h,i+1,o,ho=>by have:=I1.get h.2 i o (by grind);grind
def AK.flags{id:Nat}(j:P.follows Departure.mixedOrders=ab)(x:Nat->D)(S:(Nat->Bool)->List bm)(h:S (λ_=>ae)=σ)(b:oh ops.toList=ab)(a:vT ops.toList 0=ab)(d:qO N ops.toList=ab)(one:I1 X N ops.toList φ x S ops.toList 0)(k:∀D,(∀i,i<ops.toList.length->D i=ab)->AK X N Qf K .normal (OG ops.toList φ x) (S D)):AK X N Qf (.code (.region id ops ab)::K) .normal φ σ:=by
 have:=AW.reg (X:=X) (N:=N) (φ:=φ) (σ:=σ) j (all:=ops.toList) ops.toList.length (λ_:Unit=>x) (λ_=>S) (λ_ _=>True) () aq h b a d (ba _)
  (λi h1 h2=>absurd h2 (l9.2 h1)) (λg D _ _ i h1 h2=>absurd h2 (l9.2 h1))
  (λg D i o _ ho _ f c e=>by have h1:=one.get i o ho;rw[bz]at h1;exact(h1 D (vU e i o ho c) (FE e f)).Dx ⟨(),λ_ _=>rfl,aq⟩ rfl rfl)
  (Q:=AK X N Qf K) (λg D _ l=>by rw[pA];exact .nil (k D l)) id
 rw[pw]at this;exact this
end
section
variable {X:Cx P}{x:Nat->D}{k:Bool->Bool->Bool->List bm}{g b f:Nat}
abbrev vS(k:Bool->Bool->Bool->List bm)(g b f:Nat):(Nat->Bool)->List bm:=λD=>k (D g) (D b) (D f)
def cG{D:Nat->Bool}(h:az j i=ae):dC i D j=D j:=by simp only[dC,h]
def ki{D:Nat->Bool}:dC i D i=ab:=by simp only[dC,jr]
def e9.q3(h1:az g i=ae)(h2:az b i=ae)(e:az f i=ae)(h:∀a c d,OA X N all o (lX all φ x i) (k a c d) (x i) (k a c d)):e9 X N all φ x (vS k g b f) i o:=by intro D _ _;show OA X N all o _ (k (D g) (D b) (D f)) _ (k (dC i D g) (dC i D b) (dC i D f));rw[cG h1,cG h2,cG e];exact h _ _ _
def e9.VU(j:dj P T)(hC:bR X CT)(ho:ar obs)(h:∀a c d,vH T CT [] all (lX all φ x i) (k a c d) o=aa (x i,af,obs):=by intro a c d;cases a<;>cases c<;>cases d<;>rfl)(h1:az g i=ae:=by rfl)(h2:az b i=ae:=by rfl)(e:az f i=ae:=by rfl):e9 X N all φ x (vS k g b f) i o:=.q3 h1 h2 e λa c d=>OA.eval j hC (h a c d) ho
def e9.PY(j:dj P T)(hC:bR X CT)(h:∀a c d,vH T CT [] all (lX all φ x i) (k a c d) o=aa (x i,af,[]):=by intro a c d;cases a<;>cases c<;>cases d<;>rfl)(h1:az g i=ae:=by rfl)(h2:az b i=ae:=by rfl)(e:az f i=ae:=by rfl):e9 X N all φ x (vS k g b f) i o:=.VU (obs:=[]) j hC aq h h1 h2 e
def e9.e1(hi:az g i=ab)(h1:az g i=ab)(h2:az b i=ae)(j:az f i=ae)(h:∀c d,OA X N all o (lX all φ x i) (k ae c d) (x i) (k ab c d)):e9 X N all φ x (vS k g b f) i o:=by intro D _ a;have e:=b5 hi;subst e;show OA X N all o _ (k (D g) (D b) (D f)) _ (k (dC g D g) (dC g D b) (dC g D f));rw[ki,cG h2,cG j,a g (.inl rfl)];exact h _ _
def e9.e2(hi:az b i=ab)(h1:az g i=ae)(j:az f i=ae)(hb:ja all f i=ab)(d:az b i=ab)(h:∀a,OA X N all o (lX all φ x i) (k a ae ae) (x i) (k a ab ae)):e9 X N all φ x (vS k g b f) i o:=by intro D _ c;have e:=b5 hi;subst e;show OA X N all o _ (k (D g) (D b) (D f)) _ (k (dC b D g) (dC b D b) (dC b D f));rw[ki,cG h1,cG j,c b (.inl rfl),c f (.inr hb)];exact h _
def e9.e3(hi:az f i=ab)(h1:az g i=ae)(h2:az b i=ae)(hb:ja all i b=ab)(d:az f i=ab)(h:∀a,OA X N all o (lX all φ x i) (k a ab ae) (x i) (k a ab ab)):e9 X N all φ x (vS k g b f) i o:=by intro D j c;have e:=b5 hi;subst e;show OA X N all o _ (k (D g) (D b) (D f)) _ (k (dC f D g) (dC f D b) (dC f D f));rw[ki,cG h1,cG h2,c f (.inl rfl),j b hb];exact h _
end
section
variable {X:Cx P}
def pU.Ft{f:aM}(n:dW X f cy σs res σ1)(ks:List Nat)(y:o.guard=af)(ho:o.op=.call {callee:=.value fo,args:=xs,argTypes:=jN})(r:eD (bO φ fo)=aa (f,cap))(k:∀s vs,cn σ s vs (xs.toList.map (bO φ)++fX cap)->cn σ s vs (g6 ks cy))(x:mG ks.length cy=ab)(u:kh ks σ=aa σs)(C:cV σs=ab)(z:∀j,cV (σ1 j)=ab)(B:dX ks=ab)(v:∀j,bC ks.length (σ1 j).length=ab):
  pU X N all o φ σ (λj=>iL (ks++l0 σ.length ((σ1 j).length-ks.length)) (res j)) (λj=>ee ks (σ1 j) σ):=by
 intro s a p hh b kk cs S i rest hb hi hK;have l:=dt p fo;unfold eD at r;split at r
 case h_2=>cases r
 case h_1 f' Ik he =>
  cases r;rw[he]at l;have g:=fM l;generalize A:a.eval fo=fv at g;cases g with
  |fn fs lZ hl Df f1 f2 h1 h2 r1 r2 =>
   have t:fs=[]:=iV hl;subst t;have h:cn σ s lZ (fX cap):=lx (λj c hj=>⟨f2 j,h2 j (by grind),r2 j c hj⟩) Df;have m:cn σ s (xs.toList.map a.eval++lZ) (g6 ks cy):=k s _ ((nI (dt p) xs.toList).append h);obtain⟨fn,q,e,d⟩:=n.1;exact sL hb hi (dD y) hh (λw=>(gQ ho q e d A w).1) (λw=>(gQ ho q e d A w).2) n m x u C z B (λj=>ez (v j)) hK
def pU.pO{f:aM}(i:dW X f cy σs res σ1)(ks:List Nat)(g:o.guard=af)(ho:o.op=.call {callee:=.value fo,args:=xs,argTypes:=jN})(l:eD (bO φ fo)=aa (f,cap))(a:uk (xs.toList.map (bO φ)++fX cap) (g6 ks cy)=aa ps)(k:ar ps)(e:mG ks.length cy=ab)(b:kh ks σ=aa σs)(n:cV σs=ab)(d:∀j,cV (σ1 j)=ab)(m:dX ks=ab)(c:∀j,bC ks.length (σ1 j).length=ab):
  pU X N all o φ σ (λj=>iL (ks++l0 σ.length ((σ1 j).length-ks.length)) (res j)) (λj=>ee ks (σ1 j) σ):=.Ft i ks g ho l (λ_ _ h=>rC a k h) e b n d m c
def AK.spare(E:av)(k:Nat)(kk:AK X N Qf (.code c::K) .normal φ (σ++[.dg (jX E k (.nil af) 0 [])])):AK X N Qf (.code c::K) .normal φ σ:=by refine AK.ghost (λs a b hh=>?_) kk;obtain⟨d,g2⟩:=hh.hU (B:=.dg (jX E k (.nil af) 0 [])) (L:=⟨.nilFunc,[]⟩) (.refl _ _) rfl hh ⟨λ_=>af,⟨rfl,by simp,by simp,rfl,rfl⟩,by simp,by simp,by simp⟩ (by simp);exact⟨{s with β:=s.β++[⟨.nilFunc,[]⟩]},rfl,⟨b.size,b.defers.imp λ_ h1=>h1.mono g2.ext,λu=>(b.slot u).mono g2.ext hh.len⟩,d,g2⟩
end
def gu(a:Nat->Option Obj):Mem:=λb o=>match a b with
 |some (.cells cs _ _)=>cs[o]?
 |_=>af
def PM(K:Mem->Prop):aj->(Nat->Option Obj)->Prop:=λu a=>u=.nilFunc/\(∀b o,a b=aa o->∃cs E,o=.cells cs E (0,0))/\K (gu a)
section
variable {X:Cx P}{c:List It}
def Tf(M M':Mem):Prop:=∀b o v,M b o=aa v->M' b o=aa v
def PM.start{xs:List aj}{a:Option Addr}{K:Mem->Prop}(d:∀M,K M):∀v ch,jX E k (.nil a) n xs v ch->PM K v ch:=by rintro v ch ⟨h1,_,_,_,rfl⟩;exact⟨h1,λb o hb=>by grind,d _⟩
def PM.Bb{e:Nat}{K:Mem->Prop}{u:aj}(hl:σ[e]?=aa (.dg (PM K)))(l:∀M,K M->Rd M u (.sl ae k n es)):jw σ e u k n es:=by
 intro s hh;have d:e<s.β.length:=by rw[hh.len];grind
 have g:=bn d;generalize s.β[e]=L at g;obtain⟨ch,⟨h1,h2,i⟩,q,j,p⟩:=hh.box e _ L hl g;have f:∀b o v,gu ch b o=aa v->b∈L.bs/\s.w.cell? ⟨b,o,af⟩=aa v:=λb o v a=>by
  cases h:ch b with
  |none=>simp[gu,h]at a
  |some x =>
   obtain⟨cs,E,rfl⟩:=h2 b x h;have m:=q b _ h;simp only[gu,h]at a;exact⟨(j b).2 (by simp[h]),by simpa[aR,m]using a⟩
 refine⟨L,λb o=>(s.M b o).or (gu ch b o),g,λb o v a=>by grind,λb hb o=>?_,λb o v a=>?_,p,(l _ i).mono λb o v a=>?_⟩
 .cases h:gu ch b o with
  |none=>simp[h]
  |some v=>grind
 .cases h:s.M b o with
  |some v'=>simp only[h,uN]at a;cases a;exact hh.mem b o v h
  |none=>grind
 grind
end
section
variable {X:Cx P}{c:Type}{x:c->Nat->D}{S:c->(Nat->Bool)->List bm}{Inv:c->(Nat->Bool)->Prop}
def ox(X:Cx P)(N:Nat)(all:List aD)(φ:Fr){c:Type}(x:c->Nat->D)(S:c->(Nat->Bool)->List bm)(Inv:c->(Nat->Bool)->Prop)(i:Nat)(o:aD):Prop :=
 ∀b (D:Nat->Bool),Inv b D->(∀j,ja all i j=ab->D j=ab)->(∀j,(j=i∨ja all j i=ab)->D j=ae)->pU X N all o (lX all φ (x b) i) (S b D) (λq:{a:c // (∀j,D j=ab->x a j=x b j)/\Inv a (dC i D)}=>x q.1 i) (λq=>S q.1 (dC i D))
def I0{P:aK}(X:Cx P)(N:Nat)(all:List aD)(φ:Fr){c:Type}(x:c->Nat->D)(S:c->(Nat->Bool)->List bm)(Inv:c->(Nat->Bool)->Prop):List aD->Nat->Prop
 |[],_=>True
 |o::r,i=>ox X N all φ x S Inv i o/\I0 X N all φ x S Inv r (i+1)
theorem I0.get{all:List aD}:∀{l:List aD}{k:Nat},I0 X N all φ x S Inv l k->∀i o,l[i]?=aa o->ox X N all φ x S Inv (k+i) o
 |[],_,_,i,o,h=>by grind
 |p::r,k,h,0,o,ho=>by simp at ho;subst ho;exact h.1
 |p::r,k,h,i+1,o,ho=>by have:=I0.get h.2 i o (by grind);grind
def AK.P0{id:Nat}(p:P.follows Departure.mixedOrders=ab)(x:c->Nat->D)(S:c->(Nat->Bool)->List bm)(Inv:c->(Nat->Bool)->Prop)(b:c)(l:Inv b λ_=>ae)(n:S b (λ_=>ae)=σ)(e:oh ops.toList=ab)(d:vT ops.toList 0=ab)(g:qO N ops.toList=ab)(one:I0 X N ops.toList φ x S Inv ops.toList 0)(k:∀a D,Inv a D->(∀i,i<ops.toList.length->D i=ab)->AK X N Qf K .normal (OG ops.toList φ (x a)) (S a D)):AK X N Qf (.code (.region id ops ab)::K) .normal φ σ:=by
 have:=AW.reg (X:=X) (N:=N) (φ:=φ) (σ:=σ) p (all:=ops.toList) ops.toList.length x S Inv b l n e d g (ba _)
  (λi h1 h2=>absurd h2 (l9.2 h1)) (λa D _ _ i h1 h2=>absurd h2 (l9.2 h1))
  (λa D i o m ho _ j f h=>by have h1:=one.get i o ho;rw[bz]at h1;exact h1 a D m (vU h i o ho f) (FE h j))
  (Q:=AK X N Qf K) (λa D m q=>by rw[pA];exact .nil (k a D m q)) id
 rw[pw]at this;exact this
def ox.of(h:∀d (D:Nat->Bool),Inv d D->(∀j,ja all i j=ab->D j=ab)->(∀j,(j=i∨ja all j i=ab)->D j=ae)->Inv d (dC i D)/\OA X N all o (lX all φ (x d) i) (S d D) (x d i) (S d (dC i D))):ox X N all φ x S Inv i o:=by intro d D e h1 h2 s a f hh b k cs SS idx rest hb hi hK;obtain⟨g,q2⟩:=h d D e h1 h2;exact q2 s a f hh b k cs SS idx rest hb hi λv s' r1 r2 r3=>hK ⟨d,λ_ _=>rfl,g⟩ v s' r1 r2 r3
def ox.XN(h:∀e (D:Nat->Bool),Inv e D->(∀j,ja all i j=ab->D j=ab)->(∀j,(j=i∨ja all j i=ab)->D j=ae) ->
  ∃(ι:Type) (y:ι->Go.AM.D) (σ':ι->List bm),pU X N all o (lX all φ (x e) i) (S e D) y σ'/\∀j,∃d,((∀q,D q=ab->x d q=x e q)/\Inv d (dC i D))/\y j=x d i/\σ' j=S d (dC i D)):ox X N all φ x S Inv i o:=by intro e D m h1 h2 s a f hh b k cs SS idx rest hb hi hK;obtain⟨ι,y,σ',g,q2⟩:=h e D m h1 h2;refine g s a f hh b k cs SS idx rest hb hi λj v s' r1 r2 r3=>?_;obtain⟨d,l,p2,p3⟩:=q2 j;rw[p2]at r1;rw[p3]at r1 r2 r3;exact hK ⟨d,l⟩ v s' r1 r2 r3
end
section
variable {X:Cx P}{x:Nat->D}{l:Bool->Bool->Bool->Bool->List bm}{f g k e:Nat}
abbrev tN(l:Bool->Bool->Bool->Bool->List bm)(f g k e:Nat):(Nat->Bool)->List bm:=λD=>l (D f) (D g) (D k) (D e)
theorem IZ{D:Nat->Bool}(h:az j i=ae):dC i D j=D j:=by simp only[dC,h]
theorem MI{D:Nat->Bool}:dC i D i=ab:=by simp only[dC,jr]
def e9.q4(h1:az f i=ae)(h2:az g i=ae)(m:az k i=ae)(j:az e i=ae)(h:∀a b c d,OA X N all o (lX all φ x i) (l a b c d) (x i) (l a b c d)):e9 X N all φ x (tN l f g k e) i o:=by intro D _ _;grind[IZ]
def e9.ZJ(n:dj P T)(hC:bR X CT)(ho:ar obs)(h:∀a b c d,vH T CT [] all (lX all φ x i) (l a b c d) o=aa (x i,af,obs):=by intro a b c d;cases a<;>cases b<;>cases c<;>cases d<;>rfl)(h1:az f i=ae:=by rfl)(h2:az g i=ae:=by rfl)(m:az k i=ae:=by rfl)(j:az e i=ae:=by rfl):e9 X N all φ x (tN l f g k e) i o:=.q4 h1 h2 m j λa b c d=>OA.eval n hC (h a b c d) ho
def e9.PZ(n:dj P T)(hC:bR X CT)(h:∀a b c d,vH T CT [] all (lX all φ x i) (l a b c d) o=aa (x i,af,[]):=by intro a b c d;cases a<;>cases b<;>cases c<;>cases d<;>rfl)(h1:az f i=ae:=by rfl)(h2:az g i=ae:=by rfl)(m:az k i=ae:=by rfl)(j:az e i=ae:=by rfl):e9 X N all φ x (tN l f g k e) i o:=.ZJ (obs:=[]) n hC aq h h1 h2 m j
def e9.c1(h2:az g f=ae)(a:az k f=ae)(m:az e f=ae)(c:ja all g f=ab)(j:ja all k f=ab)(i:ja all e f=ab)(h:OA X N all o (lX all φ x f) (l ae ae ae ae) (x f) (l ab ae ae ae)):e9 X N all φ x (tN l f g k e) f o:=by intro D b d;grind[MI,IZ]
def e9.c2(h1:az f g=ae)(a:az k g=ae)(m:az e g=ae)(d:ja all g f=ab)(j:ja all k g=ab)(i:ja all e g=ab)(h:OA X N all o (lX all φ x g) (l ab ae ae ae) (x g) (l ab ab ae ae)):e9 X N all φ x (tN l f g k e) g o:=by intro D b c;grind[MI,IZ]
def e9.c3(h1:az f k=ae)(h2:az g k=ae)(j:az e k=ae)(d:ja all k f=ab)(c:ja all k g=ab)(i:ja all e k=ab)(h:OA X N all o (lX all φ x k) (l ab ab ae ae) (x k) (l ab ab ab ae)):e9 X N all φ x (tN l f g k e) k o:=by intro D a b;grind[MI,IZ]
def e9.c4(h1:az f e=ae)(h2:az g e=ae)(b:az k e=ae)(i:ja all e f=ab)(c:ja all e g=ab)(j:ja all e k=ab)(h:OA X N all o (lX all φ x e) (l ab ab ab ae) (x e) (l ab ab ab ab)):e9 X N all φ x (tN l f g k e) e o:=by intro D a d;grind[MI,IZ]
end
section
variable {X:Cx P}{d:List It}
def dW.Jz{f:aM}{args:List D}{H:ι->aj->(Nat->Option Obj)->Prop}(h:dW X f args [] res (λi=>[.dead,.dg (H i)]))(J:∀i v ch,H i v ch->v=.nilFunc)(G:∀i,iL [] (res i)=res i)(j:∀i,vt 0 (res i)=ab)(I:mG 0 args=ab)(m:g6 [] args=args):
  dW X f args [.dg (jX E k (.nil af) 0 [])] res (λi=>[.dg (H i)]):=by
 refine⟨h.1,λs vs hr hh S cs hS=>?_⟩;have t:s.β.length=1:=hh.len;obtain⟨e,z⟩:∃e,s.β=[e]:=by
  match K:s.β with
  |[A]=>grind
  |[]=>grind
  |_::_::_=>grind
 have w:s.β[0]?=aa e:=by grind
 obtain⟨N,c1,c2,c3,c4⟩:=hh.box 0 _ e rfl w;obtain⟨O,_,_,_,rfl⟩:=c1;have y:∀b,b∉e.bs:=λb hb=>by grind
 let g:St:={s with β:=[]}
 have M:eR s g:=⟨rfl,λ_ _ _ h=>h,λ_ _ _=>rfl,hh.mem,λb hb=>hb.imp id λ⟨L,a,_⟩=>by grind⟩
 have p:aF [] g:=⟨hh.mem,rfl,by simp,by grind,by grind,λb hb=>⟨(hh.own b hb).1,by grind⟩⟩
 have c:cn [] g vs args:=by rw[<-m]at hr;exact cn.sub (ks:=[]) (σ:=[.dg (jX E k (.nil af) 0 [])]) (σ':=[]) (s:=s) (β':=[]) rfl rfl hr I
 refine .ghost M (h.2 g vs c p S cs λi fr v s' hl lY jL st=>?_);have n:s'.β.length=2:=jL.len;obtain⟨A,B,u⟩:∃A B,s'.β=[A,B]:=by
  match K:s'.β with
  |[A,B]=>grind
  |[]=>grind
  |[_]=>grind
  |_::_::_::_=>grind
 have F:s'.β[1]?=aa B:=by grind
 obtain⟨ch,d1,d2,d3,d4⟩:=jL.box 1 _ B rfl F;have x:=J i _ _ d1;let s2:St:={s' with β:=[B]}
 have hm:∀L∈s2.β,L∈s'.β:=λL a=>by grind
 have r:eR s' s2:=⟨rfl,λ_ _ _ h=>h,λ_ _ _=>rfl,jL.mem,λb hb=>hb.imp id λ⟨L,a,hb⟩=>⟨L,hm L a,hb⟩⟩
 have q:dk [.dg (H i)] s2 v (res i):=by rw[<-G i]at lY;have:=dk.sub (ks:=[]) (σ:=[.dead,.dg (H i)]) (σ':=[]) (s:=s') (β':=[]) rfl rfl lY (j i);exact this.mono (σ:=[]) (s:={s' with β:=[]}) (σ':=[.dg (H i)]) (s':=s2) ⟨λ_ _ _ h=>h,λl B L x=>by grind⟩ rfl
 refine .ghost r (hS i fr v s2 (hl.mono λ_ _ _ h=>h) q ⟨jL.mem,rfl,λl C L hC a=>?_,λl l' C D h1 h2 b hb oB=>?_,λL a b hb=>jL.lt L (hm L a) b hb,λb hb=>⟨(jL.own b hb).1,λL a=>(jL.own b hb).2 L (hm L a)⟩⟩
  ⟨st.size,st.keep,st.mem,λb hb _ o=>st.iI b hb (by grind) o,λL a b hb=>?_,λl C L hC a=>?_,st.os,st.tape,st.output,st.own⟩)
 .match l,hC,a with
  |0,hC,a=>cases hC;cases a;exact⟨ch,d1,d2,d3,d4⟩
  |l+1,hC,_=>grind
 .match l,l',h1,h2 with
  |0,0,_,_=>rfl
  |l+1,_,h1,_=>grind
  |_,l+1,_,h2=>grind
 .rcases st.uP L (hm L a) b hb with h1|⟨L1,h1,_⟩
  .grind
  grind
 .match l,hC,a with
  |0,hC,a =>
   cases hC;rw[w]at a;cases a;exact⟨_,B,rfl,rfl,by show B.v=e.v;grind⟩
  |l+1,hC,_=>grind
def AK.M0(l i j:Nat){K:Mem->Prop}{E0:av}{cs:List A}{Q cl:C}(UN:l≠i)(hl:eB l σ=aa (.dg (PM K)))(hi:eB i σ=aa (.cells E0 cs))(hj:eB j cs=aa (.c Q))(hK:∀M M',K M->Tf M M'->∀v,Rd M' v Q->Rd M' v cl)(kk:AK X N Qf (.code c::d) .normal φ ((σ.set l (.dg (jX E k (.nil af) 0 []))).set i (.cells E0 (cs.set j (.c cl))))):AK X N Qf (.code c::d) .normal φ σ:=by
 refine AK.ghost (λs a O hh=>?_) kk;have hl:=cU hl;have hi:=cU hi;have S:=cU hj;have G:l<s.β.length:=by rw[hh.len];grind
 have J:=bn G;generalize s.β[l]=L at J;obtain⟨ch,⟨h1,h2,U⟩,h4,h5,Y⟩:=hh.box l _ L hl J;let M':Mem:=λb o=>(s.M b o).or (gu ch b o);have q:∀b o v,gu ch b o=aa v->b∈L.bs/\s.w.cell? ⟨b,o,af⟩=aa v:=λb o v f=>by
  cases h:ch b with
  |none=>simp[gu,h]at f
  |some x =>
   obtain⟨cs,E,rfl⟩:=h2 b x h;have W:=h4 b _ h;simp only[gu,h]at f;exact⟨(h5 b).2 (by simp[h]),by simpa[aR,W]using f⟩
 have m1:∀b o v,s.M b o=aa v->M' b o=aa v:=λb o v f=>by grind
 have V:∀b,b∉L.bs->∀o,M' b o=s.M b o:=λb hb o=>by
  cases h:gu ch b o with
  |none=>grind
  |some v=>grind
 have m3:∀b o v,M' b o=aa v->s.w.cell? ⟨b,o,af⟩=aa v:=λb o v f=>by
  cases h:s.M b o with
  |some v'=>simp only[M',h,uN]at f;cases f;exact hh.mem b o v h
  |none=>grind
 have m4:=hK _ M' U λb o v f=>by have:=Y b (q b o v f).1 o;simp[M',this,f]
 obtain⟨r,q2⟩:=hh.gy (M':=M') (w':=s.w) (B':=.dg (jX E k (.nil af) 0 [])) (L':=⟨.nilFunc,[]⟩) hl J h1.symm (ba _) (λ_ _ _=>rfl) (λb _ hb o=>V b hb o) m1 m3 (by simp) rfl rfl rfl
  ⟨λ_=>af,⟨rfl,by simp,by simp,rfl,rfl⟩,by simp,by simp,by simp⟩
 have m:(σ.set l (.dg (jX E k (.nil af) 0 [])))[i]?=aa (.cells E0 cs):=by grind
 generalize hs1:(⟨s.β.set l ⟨.nilFunc,[]⟩,M',s.w,s.own⟩:St)=s1 at r q2;have t:i<s1.β.length:=by rw[r.len];grind
 have g:=bn t;generalize s1.β[i]=L2 at g;obtain⟨b,vs,I,n,F,hM⟩:=r.box i _ L2 m g;obtain⟨u,Z,T⟩:=F.get S;have D:s1.M=M':=by grind
 have z:s1.β.set i L2=s1.β:=by apply g9;grind
 obtain⟨t1,R⟩:=r.gy (M':=s1.M) (w':=s1.w) (B':=.cells E0 (cs.set j (.c cl))) (L':=L2) m g rfl (ba _) (λ_ _ _=>rfl) (λ_ _ _ _=>rfl) (λ_ _ _ h=>h) r.mem (λb hb=>⟨.inl hb,r.lt L2 (bL g) b hb⟩) rfl rfl rfl (by
   rw[z];have ex:Ext (σ.set l (.dg (jX E k (.nil af) 0 []))) s1 ((σ.set l (.dg (jX E k (.nil af) 0 []))).set i (.cells E0 (cs.set j (.c cl)))) s1:=by
    refine⟨λ_ _ _ h=>h,λp B L y H=>?_⟩;by_cases e:i=p
    .subst e;rw[m]at y;cases y;exact⟨_,L,gw (by grind),H,rfl⟩
    .exact⟨B,L,by grind,H,.refl _ _⟩
   refine⟨b,vs,I,n,dT.set (F.mono ex r.len) Z ?_,hM⟩;show Rd s1.M u cl;rw[D];exact m4 u (D▸T))
 have st:=q2.trans R;exact⟨_,by grind,⟨O.size,O.defers.imp λ_ h1=>h1.mono st.ext,λu=>(O.slot u).mono st.ext hh.len⟩,t1,st⟩
def AK.zX(l i j:Nat){K:Mem->Prop}{E0:av}{cs:List A}{cl:C}(a:l≠i)(hl:eB l σ=aa (.dg (PM K)))(hi:eB i σ=aa (.cells E0 cs))(hj:eB j cs=aa (.c (.val v)))(b:∀M,K M->Rd M v cl)(kk:AK X N Qf (.code c::d) .normal φ ((σ.set l (.dg (jX E k (.nil af) 0 []))).set i (.cells E0 (cs.set j (.c cl))))):AK X N Qf (.code c::d) .normal φ σ :=
 AK.M0 l i j a hl hi hj (λ_ _ h le _ r=>by rw[Rd.fN r];exact(b _ h).mono le) kk
end
def G4(v:aj)(n:Nat)(es:Nat->List C):Mem->Prop:=λM=>Rd M v (.sl ae 1 n es)/\∃a cap,v=.slice a n cap/\(n<cap->∃b off,a=aa ⟨b,off,af⟩/\∀i,i<cap->(M b (off+i)).isSome=ab)
def zY(n:Nat)(es:Nat->List C):Prop:=∀i,i<n->∃k z,es i=[.int k z]
def eN.Th{M':Mem}{es:Array Event}(h:eN {s with M:=M'} es){L:Loc}(f:L∈s.β)(j:∀b o v,s.M b o=aa v->M' b o=aa v)(c:∀b o v,M' b o=aa v->b∈L.bs∨s.M b o=aa v):eN s es:=by
 intro e g;have h1:=h e g;unfold nJ at h1⊢;split at h1
 .obtain⟨a1,a2,a3⟩:=h1;refine⟨a1,a2,?_⟩;rcases a3 with a3|⟨a3,a4⟩|⟨a3,v,a4⟩
  .exact .inl a3
  .refine .inr (.inl ⟨a3,λd=>?_⟩);have:=a4 d;rename_i a _;cases hm:s.M a.block a.off with
   |none=>rfl
   |some v=>grind
  .rcases c _ _ _ a4 with h|h
   .refine .inr (.inl ⟨⟨L,f,h⟩,λd=>?_⟩);grind
   .exact .inr (.inr ⟨a3,v,h⟩)
 all_goals exact h1
section
variable {X:Cx P}
def dW.Qj{f:aM}{args:List D}{g q m:Nat}{a b c d:C}{ok:Bool}(es':Nat->List C)(h:Ev X f args [] (.fK [.agg [.c a,.c b,.c c,.c d,.bp 0 (.sl g 1 q m)],.one (.c (.bool ok))]) [.buf E 1 g es])(hqm:q+m<=g)(T:∀j,j<m->es' j=es (q+j))(hN:zY m es'):
  dW (ι:=aj) X f args [] (λv=>.fK [.agg [.c a,.c b,.c c,.c d,.c (.val v)],.one (.c (.bool ok))]) (λv=>[.dead,.dg (PM (G4 v m es'))]):=by
 refine⟨h.Dx.1,λs vs hr hh S cs hS=>h.Dx.2 s vs hr hh S cs λi fr v s' hl lY jL st=>?_⟩;have hlen:s'.β.length=1:=jL.len;obtain⟨I,Y⟩:∃I,s'.β=[I]:=by
  match hq:s'.β with
  |[A]=>grind
  |[]=>grind
  |_::_::_=>grind
 have g0:s'.β[0]?=aa I:=by grind
 have b0:=jL.box 0 _ I rfl g0;obtain⟨ws,rfl,hw⟩:=lY
 match ws,hw with
 |[w0,w1],⟨Q,N,_⟩ =>
 obtain⟨us,rfl,V⟩:=Q
 match us,V with
 |[u0,u1,u2,u3,u4],⟨Z,hu1,R,hu3,hu4,_⟩ =>
 obtain⟨lv,⟨a',a0,cap,c0,rfl,k1,k2,k3,k4,k5⟩,_,hu⟩:=hu4;obtain⟨_,hu⟩:=hu E 1 g es rfl;obtain⟨L0',e0,e1⟩:=hu rfl;rw[g0]at e0;cases e0;rw[k4]at e1;obtain⟨H,q1,q2,q3,q4⟩:∃H:Nat->Option Obj,(∀x o,H x=aa o->s'.w.heap[x]?=aa o/\∃cs E,o=.cells cs E (0,0))/\(∀x,x∈I.bs↔(H x).isSome=ab)/\(∀x∈I.bs,∀o,s'.M x o=af) /\
   G4 (.slice a' m cap) m es' (gu H):=by
  rcases b0 with⟨rfl,rfl⟩|⟨bb,c1,xs,O,rfl,z1,z2,z3,z4,z5,z6⟩
  .cases e1;exact⟨λ_=>af,by simp,by simp,by simp,.sl 0 0 (λ_ _=>ai) k1 (by omega) (λh=>by cases h) (λi hi=>by omega) (λh=>by omega) (λi hi=>by omega) λi hi=>by omega,_,_,rfl,λh=>by omega⟩
  .cases e1;have hlc:(xs++O).length=q+cap:=by omega
   have G:∀o,o<q+cap->gu (λx=>if x=bb then aa (.cells (xs++O).toArray E (0,0))else af) bb o=(xs++O)[o]?:=λo ho=>by simp[gu]
   refine⟨λx=>if x=bb then aa (.cells (xs++O).toArray E (0,0))else af,λx o n=>by grind,λx=>by by_cases e:x=bb<;>simp[e],λx n o=>by grind,?_,_,_,rfl,λK=>?_⟩
   .refine .sl bb q (λi' j'=>(xs.getD (q+i') ai)) k1 (by omega) (λh=>by cases h) (λj hj=>?_) (λh=>?_) (λj hj p c y=>?_) λj hj p c y=>?_
    .obtain⟨k,z,e⟩:=hN j hj;simp[e]
    .obtain⟨b',h1,h2⟩:=k5 (by omega);cases h1;rw[h2,k6]
    .obtain⟨k,z,e⟩:=hN j hj;rw[e]at y;have W:p=0:=by
      match p,y with
      |0,_=>rfl
      |p+1,y=>simp at y
     subst W;rw[k6,fS,G _ (by omega)];have XA:xs.length=g:=by have:=z5.len;omega
     have K:q+j<xs.length:=by omega
     simp[za,K,ah]
    .have U:=T j hj;obtain⟨v,v1,v2⟩:=z5.rd (q+j) (by omega) p c (by rw[<-U];exact y);obtain⟨k,z,e⟩:=hN j hj;rw[e]at y
     match p,y with
     |0,y =>
      cases y;have:xs.getD (q+j) ai=v:=by rw[ah];simp at v1;simp[v1]
      rw[this];cases v2 with
      |int h=>exact .int h
     |p+1,y=>simp at y
   .obtain⟨b',h1,h2⟩:=k5 (by omega);cases h1;refine⟨_,_,by rw[h2,k6],λi hi=>?_⟩;rw[G _ (by omega)];have:q+i<(xs++O).length:=by omega
    simp[bn this]
 let s2:St:={s' with β:=[⟨I.v,[]⟩,⟨.nilFunc,I.bs⟩]}
 have u:∀L∈s2.β,∀x∈L.bs,∃L'∈s'.β,x∈L'.bs:=λL t x n=>by rw[Y];simp only[s2,eY,pz,or_false]at t;grind
 have hG:eR s' s2:=⟨rfl,λ_ _ _ h=>h,λ_ _ _=>rfl,jL.mem,λx n=>n.imp id λ⟨L,t,n⟩=>u L t x n⟩
 refine .ghost hG (hS (.slice a' m cap) fr _ s2 (hl.mono λ_ _ _ h=>h) ⟨_,rfl,⟨_,rfl,Z,hu1,R,hu3,Rd.val rfl,aq⟩,N,aq⟩ ⟨jL.mem,rfl,λl B L J t=>?_,λl l' A B h1 h2 x n OL=>?_,λL t x n=>?_,λx n=>⟨(jL.own x n).1,λL t hxL=>?_⟩⟩
  ⟨st.size,st.keep,st.mem,λx n hn o=>st.iI x n hn o,λL t x n=>?_,λl B L J=>by grind,st.os,st.tape,st.output,st.own⟩)
 .match l,J,t with
  |0,J,t=>cases J;trivial
  |1,J,t =>
   cases J;cases t;exact⟨H,⟨rfl,λx o n=>(q1 x o n).2,q4⟩,λx o n=>(q1 x o n).1,q2,q3⟩
  |l+2,J,t=>grind
 .match l,l',h1,h2 with
  |0,0,_,_=>rfl
  |1,1,_,_=>rfl
  |0,1,h1,_=>grind
  |1,0,_,h2=>grind
  |l+2,_,h1,_=>grind
  |_,l+2,_,h2=>grind
 .obtain⟨L',h1,h2⟩:=u L t x n;exact jL.lt L' h1 x h2
 .obtain⟨L',h1,h2⟩:=u L t x hxL;exact(jL.own x n).2 L' h1 h2
 .obtain⟨L',h1,h2⟩:=u L t x n;exact st.uP L' h1 x h2
end
section
variable {r:av}{i i2:TI}
def s8(hi:du P t i)(O:i.desc=.slice E)(q:du P r i2)(u:i2.desc=.slice E)(H:du P E ie)(N:aF σ s){cap m:Nat}{K:av}{c:List aj}(B:s.w.heap[b]?=aa (.cells c.toArray K (0,0)))(D:off+cap*ie.size<=c.length){es':Nat->List C}{x:aj}(I:Rd s.M x (.sl tx ie.size m es'))(z:n+m<=cap){L:Loc}(U:L∈s.β)(R:b∈L.bs)(v:∀o,s.M b o=af):
  ∃a,Flat s.M ie.size m es' a/\(bj #[t,r] ty #[.slice (aa ⟨b,off,af⟩) n cap,x]).run P s.w=.ok (.slice (aa ⟨b,off,af⟩) (n+m) cap) (s.w.setRow b (c.take (off+n*ie.size)++a++c.drop (off+n*ie.size+a.length)).toArray) /\
   eN s ((bj #[t,r] ty #[.slice (aa ⟨b,off,af⟩) n cap,x]).events P s.w #[]):=by
 obtain⟨a,p,J,f⟩:=dE (P:=P) N I;have Q:=gi (P:=P) N I (w:=s.w) rfl;have y:=hi.run_underlying (w:=s.w);have g:=q.run_underlying (w:=s.w);rw[O]at y;rw[u]at g;have G:off+n*ie.size+a.length<=c.length:=by
  have:n*ie.size+m*ie.size<=cap*ie.size:=by rw[<-gI];exact ek _ z
  have:=p.len;omega
 have l:=run_storeCells_at P b (off+n*ie.size) K a 0 c.toArray s.w B (by grind) p.cell;simp only[fS]at l;have d:(Builtin.lenOf x).run P s.w=.ok m s.w:=by rw[f];rfl
 have k:(Builtin.lenOf x).events P s.w #[]=#[]:=by rw[f];rfl
 refine⟨a,p,?_,λe A=>?_⟩
 .unfold bj;simp only[gT,iF,kL,bU,y,g,cw,H.run_sizeOf,cY,iG,b6,d,z,bY,fE,J,de,bz,l]
 .unfold bj at A;simp only[gT,iF,kL,aP,bU,y,g,aV,H.run_sizeOf,cY,iG,b6,d,k,z,bY,fE,J,de,bz,l,
   pE,Sem.events_ite,events_underlying,events_sizeOf,Sem.events_pure]at A
  rcases eh a 0 c.toArray s.w _ B (by grind) p.cell e A with h|⟨j,T,S,rfl⟩
  .grind [qE]
  grind[k7]
end
section
variable {X:Cx P}{F:List It}
def tG.zZ(h:ly P o x y E ie)(hs:ie.size=1){v0:aj}(hx:bO φ x=.e (.one (.c (.val v0))))(hl:σ[l]?=aa (.dg (PM (G4 v0 n es))))(hN:zY n es){es':Nat->List C}(hy:bO φ y=.e (.one (.c (.sl tx 1 1 es'))))(hb:(n+1)*ie.bytes<=140737488355328):
  tG P N o φ σ (λ_:Unit=>.e (.one (.c (.sl ae 1 (n+1) (cR n es es'))))) λ_=>σ.set l .dead:=by
 intro s a hf hh;obtain⟨t,r,i,i2,ho,hi,Wt,Q,S⟩:=h.op;have Io:l<s.β.length:=by rw[hh.len];grind
 have hL:=bn Io;generalize s.β[l]=L at hL;obtain⟨ch,⟨p1,p2,r1,ad,cap,rfl,V4⟩,h4,h5,h6⟩:=hh.box l _ L hl hL;have T:=bL hL;have d:=dt hf x;rw[hx]at d;have d:=Rd.fN d;have H:=dt hf y;rw[hy]at H;have H:Rd s.M (a.eval y) (.sl tx ie.size 1 es'):=by rw[hs];exact fM H
 have m:∀b o v,gu ch b o=aa v->b∈L.bs/\s.w.cell? ⟨b,o,af⟩=aa v:=λb o v d=>by
  cases h:ch b with
  |none=>simp[gu,h]at d
  |some x =>
   obtain⟨cs,E,rfl⟩:=p2 b x h;have H:=h4 b _ h;simp only[gu,h]at d;exact⟨(h5 b).2 (by simp[h]),by simpa[aR,H]using d⟩
 by_cases I:n+1<=cap
 .obtain⟨b,off,rfl,hc⟩:=V4 (by omega);obtain⟨cs,E',D⟩:∃cs E',ch b=aa (.cells cs E' (0,0)):=by
   have:=hc 0 (by omega);cases h:ch b with
   |none=>simp[gu,h]at this
   |some x =>
    obtain⟨cs,E',rfl⟩:=p2 b x h;exact⟨cs,E',rfl⟩
  have V:b∈L.bs:=(h5 b).2 (by simp[D]);have K:=h4 b _ D;have UI:=h6 b V;have Iw:off+cap<=cs.size:=by
   have:=hc (cap-1) (by omega);simp only[gu,D]at this;cases h:cs[off+(cap-1)]? with
   |none=>simp[h]at this
   |some v=>have:=(eX.1 h).1;omega
  have R:s.w.heap[b]?=aa (.cells cs.toList.toArray E' (0,0)):=by simpa using K
  obtain⟨f,A,q,f3⟩:=s8 (P:=P) (s:=s) (ty:=o.type) (n:=n) (b:=b) (off:=off) (cap:=cap) hi Wt Q S h.elem hh R (by rw[hs];simpa using Iw) H I T V UI;rw[hs]at A q;simp only[k6]at q;have RR:f.length=1:=by have:=A.len;omega
  generalize J:(cs.toList.take (off+n)++f++cs.toList.drop (off+n+f.length))=z0 at q;have Im:(s.w.setRow b z0.toArray).heap[b]?=aa (.cells z0.toArray E' (0,0)):=setRow_heap s.w b _ _ E' _ K;have O:∀g,g≠b->(s.w.setRow b z0.toArray).heap[g]?=s.w.heap[g]?:=λg Y=>setRow_other s.w b g _ Y;have Sx:b<s.w.heap.size:=hh.lt L T b V;have hhs:(s.w.setRow b z0.toArray).heap.size=s.w.heap.size:=by unfold World.setRow;grind
  let M':Mem:=λg o=>if g=b then z0[o]? else s.M g o
  obtain⟨t1,Z⟩:=hh.gy (M':=M') (w':=s.w.setRow b z0.toArray) (B':=.dead) (L':=⟨L.v,[]⟩) hl hL rfl (by omega) (λg _ Y=>O g (by grind)) (λg _ Y o=>by
    have:g≠b:=by grind
    simp[M',this])
   (λg o v d=>by
    have:g≠b:=by grind
    simp[M',this,d])
   (λg o v d=>by
    by_cases e:g=b
    .subst e;simp only[M',bY]at d;simp only[aR,Im];grind
    .simp only[M',e,b6]at d;have:=hh.mem g o v d;simp only[aR,O g e]at this⊢;exact this) (by simp) rfl rfl rfl aq
  refine⟨(),.value (.slice (aa ⟨b,off,af⟩) (n+1) cap),_,_,?_,.inl rfl,?_,t1,Z,?_⟩
  .rw[cN ho,d];simp only[bU,cY];rw[q];rfl
  .show Rd M' (.slice (aa ⟨b,off,af⟩) (n+1) cap) (.sl ae 1 (n+1) (cR n es es'));have Wu:cap<=9223372036854775807:=by cases r1;assumption
   have uS:∀j,j<n->z0[off+j]?=gu ch b (off+j):=λj hj=>by
    rw[<-J];have:off+j<off+n:=by omega
    simp only[gu,D];rw[jo,iE (by simp;omega),List.getElem?_take_of_lt (by omega)];simp
   have Mi:z0[off+n]?=f[0]?:=by rw[<-J,jo,fR (by simp;omega),iE (by simp;omega)];congr 1;simp;omega
   refine .sl b off (λi _=>z0.getD (off+i) ai) I Wu (by simp) (λi hi=>?_) (λ_=>rfl) (λi hi j c hj=>?_) λi hi j c hj=>?_;all_goals by_cases e:i<n
   .obtain⟨k,z,U⟩:=hN i e;simp[cR,e,U]
   .have:cR n es es' i=es' 0:=by simp[cR,show i=n by omega]
    rw[this];exact A.width 0 (by omega)
   .obtain⟨k,z,U⟩:=hN i e;simp only[cR,e,bY,U]at hj
    match j,hj with
    |0,hj =>
     have:=hc i (by omega);rw[<-uS i e]at this;simp only[M',bY,k6,fS,ah];grind
    |j+1,hj=>simp at hj
   .obtain rfl:i=n:=by omega
    have:cR i es es' i=es' 0:=by simp[cR]
    rw[this]at hj;have Vq:=A.width 0 (by omega);have W:j=0:=by have:=(cf.1 hj).1;omega
    subst W;have h0:f[0]?=aa f[0]:=bn (by omega);simp only[M',bY,k6,fS,ah,Mi,h0];rfl
   .obtain⟨k,z,U⟩:=hN i e;simp only[cR,e,bY,U]at hj
    match j,hj with
    |0,hj =>
     cases hj;have r2:=r1;cases r2 with
     |sl b2 aaC q Ya VJ Y4 hk2 ha2 S4 ri =>
      have e2:=ha2 (by omega);cases e2;have m2:=S4 i e 0 (.int k z) (by rw[U];rfl);have r3:=ri i e 0 (.int k z) (by rw[U];rfl);simp only[k6,fS]at m2;rw[ah,uS i e,m2];show Rd M' (q i 0) _;generalize q i 0=u at r3;cases r3 with
      |int h=>exact .int h
    |j+1,hj=>simp at hj
   .obtain rfl:i=n:=by omega
    have:cR i es es' i=es' 0:=by simp[cR]
    rw[this]at hj;have Vq:=A.width 0 (by omega);have W:j=0:=by have:=(cf.1 hj).1;omega
    subst W;obtain⟨v,v1,v2⟩:=A.rd 0 (by omega) 0 c hj;simp only[Nat.zero_mul,fS]at v1;rw[ah,Mi,v1];exact v2.mono λg o u hu=>by
     have:g≠b:=by grind
     simp[M',this,hu]
  .rw[cN ho,d];exact et f3
 .let M1:Mem:=λb o=>(s.M b o).or (gu ch b o);have m1:∀b o v,s.M b o=aa v->M1 b o=aa v:=λb o v d=>by grind
  have m2:∀b o v,M1 b o=aa v->b∈L.bs∨s.M b o=aa v:=λb o v d=>by
   cases h:s.M b o with
   |some v'=>grind
   |none=>grind
  have m3:∀b o v,M1 b o=aa v->s.w.cell? ⟨b,o,af⟩=aa v:=λb o v d=>by
   cases h:s.M b o with
   |some v'=>simp only[M1,h,uN]at d;cases d;exact hh.mem b o v h
   |none=>grind
  have hd:=hh.kg;have G:aF (σ.map λ_=>.dead) {s with M:=M1}:=⟨m3,hd.len,λl B L hB hL=>by have:=bL hB;simp at this;rw[<-this.2];trivial,hd.fY,hd.lt,hd.own⟩
  have r2:Rd ({s with M:=M1}:St).M (.slice ad n cap) (.sl ae ie.size n es):=by
   rw[hs];exact r1.mono λb o v d=>by have:=h6 b (m b o v d).1 o;simp[M1,this,d]
  obtain⟨vs,zs,GB,A,q,f3,f4,f5⟩:=ib (P:=P) (s:={s with M:=M1}) (ty:=o.type) hi Wt Q S h.elem G r2 (H.mono m1) (by omega) hb h.bytes;have f6:=iJ (P:=P) (s:={s with M:=M1}) (ty:=o.type) hi Wt Q S h.elem G r2 (H.mono m1) (by omega) hb h.bytes;have hgm:=sH G E vs zs;have hgo:=sI G vs;let w':aA:=s.w.drew.alloc (.cells (vs++zs).toArray E);have Iw:w'.heap.size=s.w.heap.size+1:=by show(s.w.drew.heap.push _).size=_;simp
  obtain⟨t1,Z⟩:=hh.gy (M':=λb o=>if b=s.w.heap.size then vs[o]? else M1 b o) (w':=w') (B':=.dead) (L':=⟨L.v,[]⟩) hl hL rfl (by omega) (λb hb _=>cZ s.w.drew _ hb) (λb hb hn o=>by
    have:b≠s.w.heap.size:=by omega
    simp only[this,b6];cases h:gu ch b o with
    |none=>grind
    |some v=>exact absurd (m b o v h).1 hn)
   (λb o v d=>hgo b o v (m1 b o v d)) hgm (by simp) rfl rfl rfl aq
  refine⟨(),.value (.slice (aa ⟨s.w.heap.size,0,af⟩) (n+1) GB),_,_,?_,.inl rfl,?_,t1,Z,?_⟩
  .rw[cN ho,d];simp only[bU,cY];have Vp:(bj #[t,r] o.type #[.slice ad n cap,a.eval y]).run P s.w=_:=f5;rw[Vp];rfl
  .rw[hs]at A;exact Rd.mE (A.mono hgo) (b:=s.w.heap.size) (off:=0) (λ_=>rfl) q f3 (by simp) (λp u hp=>by simpa using hp)
  .rw[cN ho,d];exact et (f6.Th T m1 m2)
def AK.zZ(h:ly P o x y E ie)(g:ie.size=1){d:Nat}(m:o.dst=aa d)(j:o.guard=af)(f:gm N o.dst=ab){v0:aj}(k:bO φ x=.e (.one (.c (.val v0))))(hl:σ[l]?=aa (.dg (PM (G4 v0 n es))))(a:zY n es){es':Nat->List C}(b:bO φ y=.e (.one (.c (.sl tx 1 1 es'))))(hb:(n+1)*ie.bytes<=140737488355328)(kk:AK X N Qf (.ops all rest::F) .normal ((d,.e (.one (.c (.sl ae 1 (n+1) (cR n es es')))))::φ) (σ.set l .dead)):AK X N Qf (.ops all (o::rest)::F) .normal φ σ :=
 AK.hand (ι:=Unit) (λ_=>.e (.one (.c (.sl ae 1 (n+1) (cR n es es'))))) (λ_=>σ.set l .dead) j f (.zZ h g k hl a b hb) λ_=>by rw[m];exact kk
def pU.Qk{φ':Fr}{x:ι->D}{f:ι->List bm}(h:∀s a,cx N σ s φ a->aF σ s->∃s':St,s'.w=s.w/\cx N σ' s' φ' a/\aF σ' s'/\Step σ s σ' s')(k:pU X N all o φ' σ' x f):pU X N all o φ σ x f:=by intro s a g hh b kk cs S i rest hb hi hK;obtain⟨s',l,e,d,st⟩:=h s a g hh;have c:=st.oe hh;exact .ghost (.of hh d l c) (k s' a e d b kk cs S i rest hb hi λj v s2 r1 r2 r3=>hK j v s2 r1 r2 (c.trans r3))
def pU.zX{x:ι->D}{p:ι->List bm}(l t q:Nat){K:Mem->Prop}(E:av)(k:Nat){cs:List A}{cl:C}(hl:eB l σ=aa (.dg (PM K)))(G:look φ t=.e (.agg cs))(Y:eB q cs=aa (.c (.val v)))(U:∀M,K M->Rd M v cl)(h:pU X N all o ((t,.e (.agg (cs.set q (.c cl))))::φ) (σ.set l (.dg (jX E k (.nil af) 0 []))) x p):pU X N all o φ σ x p:=by
 refine pU.Qk (λs a n hh=>?_) h;have hl:=cU hl;have B:=cU Y;have g:l<s.β.length:=by rw[hh.len];grind
 have m:=bn g;generalize s.β[l]=L at m;obtain⟨ch,⟨h1,h2,H⟩,W,h5,O⟩:=hh.box l _ L hl m;let M':Mem:=λb o=>(s.M b o).or (gu ch b o);have f:∀b o v,gu ch b o=aa v->b∈L.bs/\s.w.cell? ⟨b,o,af⟩=aa v:=λb o v d=>by
  cases h:ch b with
  |none=>simp[gu,h]at d
  |some x =>
   obtain⟨cs,E,rfl⟩:=h2 b x h;have J:=W b _ h;simp only[gu,h]at d;exact⟨(h5 b).2 (by simp[h]),by simpa[aR,J]using d⟩
 have Q:∀b o v,s.M b o=aa v->M' b o=aa v:=λb o v d=>by grind
 have I:∀b,b∉L.bs->∀o,M' b o=s.M b o:=λb hb o=>by
  cases h:gu ch b o with
  |none=>grind
  |some v=>grind
 have R:∀b o v,M' b o=aa v->s.w.cell? ⟨b,o,af⟩=aa v:=λb o v d=>by
  cases h:s.M b o with
  |some v'=>simp only[M',h,uN]at d;cases d;exact hh.mem b o v h
  |none=>grind
 have V:=(U _ H).mono (M':=M') λb o v d=>by have:=O b (f b o v d).1 o;simp[M',this,d]
 obtain⟨S,q2⟩:=hh.gy (M':=M') (w':=s.w) (B':=.dg (jX E k (.nil af) 0 [])) (L':=⟨.nilFunc,[]⟩) hl m h1.symm (ba _) (λ_ _ _=>rfl) (λb _ hb o=>I b hb o) Q R (by simp) rfl rfl rfl
  ⟨λ_=>af,⟨rfl,by simp,by simp,rfl,rfl⟩,by simp,by simp,by simp⟩
 refine⟨⟨s.β.set l ⟨.nilFunc,[]⟩,M',s.w,s.own⟩,rfl,⟨n.size,n.defers.imp λ_ h1=>h1.mono q2.ext,λu=>?_⟩,S,q2⟩;have j:=(n.slot u).mono q2.ext hh.len;simp only[look];cases hb:az t u with
 |false=>exact j
 |true =>
  have e:=b5 hb;subst e;rw[G]at j;obtain⟨z,w1,w2⟩:=j;obtain⟨y,T,Z⟩:=w2.get B;refine⟨z,w1,dT.set w2 T ?_⟩;have e:=Rd.fN Z;subst e;exact V
end
def vA(l k n:Nat)(es:Nat->List C):A->A×List Prop
 |.bp l' (.sl g k' o m)=>match az l' l with
  |true=>match az k' k with
   |true=>(.c (.sl ae k m (qK o es)),[g=n,o+m<=n])
   |false=>(.bp l' (.sl g k' o m),[])
  |false=>(.bp l' (.sl g k' o m),[])
 |a=>(a,[])
def nR(l k n:Nat)(es:Nat->List C):List A->List A×List Prop
 |[]=>([],[])
 |a::r=>match vA l k n es a with
  |(a',p)=>match nR l k n es r with
   |(r',q)=>(a'::r',jY p q)
def DC(l k n:Nat)(es:Nat->List C):E1->E1×List Prop
 |.one a=>match vA l k n es a with|(a',p)=>(.one a',p)
 |.agg cs=>match nR l k n es cs with|(b,p)=>(.agg b,p)
def DD(l k n:Nat)(es:Nat->List C):D->D×List Prop
 |.e x=>match DC l k n es x with|(a,p)=>(.e a,p)
 |d=>(d,[])
def vB(l k n:Nat)(es:Nat->List C):Fr->Fr×List Prop
 |[]=>([],[])
 |(t,d)::r=>match DD l k n es d with
  |(a,p)=>match vB l k n es r with
   |(r',q)=>((t,a)::r',jY p q)
def gJ(l k n:Nat)(es:Nat->List C):Nat->List bm->List bm×List Prop
 |_,[]=>([],[])
 |i,b::r=>match gJ l k n es (i+1) r with
  |(r',q)=>match az i l with
   |true=>(.dead::r',q)
   |false=>match b with
    |.cells E cs=>match nR l k n es cs with|(a,p)=>(.cells E a::r',jY p q)
    |b=>(b::r',q)
section
variable {s2:St}{E:Nat}
structure iR(σ:List bm)(s:St)(l k n:Nat)(es:Nat->List C)(σ':List bm)(s2:St):Prop where
 keep:∀v a,gD σ s v a->gD σ' s2 v a
 ID:∀v k' o m,gD σ s v (.bp l (.sl n k' o m))->k'=k->o+m<=n->Rd s2.M v (.sl ae k m (qK o es))
def iR.a(h:iR σ s l k n es σ' s2){v:aj}{a:A}(b:ar (vA l k n es a).2)(r:gD σ s v a):gD σ' s2 v (vA l k n es a).1:=by
 unfold vA at b⊢;split
 .rename_i l' g k' o m;split
  .rename_i e1;split
   .rename_i e2;simp only[e1,e2]at b;have e1:=b5 e1;have e2:=b5 e2;subst e1;obtain⟨rfl,h2⟩:g=n/\o+m<=n:=b;exact h.ID v _ _ _ r e2 h2
   .exact h.keep v _ r
  .exact h.keep v _ r
 .exact h.keep v _ r
def iR.ls(h:iR σ s l k n es σ' s2):∀{vs:List aj}{cs:List A},ar (nR l k n es cs).2->dT σ s vs cs->dT σ' s2 vs (nR l k n es cs).1
 |[],[],_,_=>trivial
 |[],_::_,_,r=>r.elim
 |_::_,[],_,r=>r.elim
 |v::vs,c::cs,b,r=>by simp only[nR]at b⊢;rw[ar.cat]at b;exact⟨h.a b.1 r.1,h.ls b.2 r.2⟩
def iR.e(h:iR σ s l k n es σ' s2){x:E1}(b:ar (DC l k n es x).2)(r:nq σ s v x):nq σ' s2 v (DC l k n es x).1:=by
 cases x with
 |one a=>exact h.a b r
 |agg cs=>obtain⟨vs,c,d⟩:=r;exact⟨vs,c,h.ls b d⟩
def iR.d(h:iR σ s l k n es σ' s2)(hl:s.β.length=σ.length)(a:Ext σ s σ' s2){v:aj}{d:D}(b:ar (DD l k n es d).2)(r:dk σ s v d):dk σ' s2 v (DD l k n es d).1:=by
 cases d with
 |e x=>exact h.e b r
 |fK xs=>exact r.mono a hl
 |any=>trivial
def iR.f(h:iR σ s l k n es σ' s2)(hl:s.β.length=σ.length)(c:Ext σ s σ' s2):∀{φ:Fr}{t:Nat}{v:aj},ar (vB l k n es φ).2->dk σ s v (look φ t)->dk σ' s2 v (look (vB l k n es φ).1 t)
 |[],_,_,_,_=>trivial
 |(u,d)::r,t,v,b,a=>by
  simp only[vB]at b⊢;rw[ar.cat]at b;simp only[look]at a⊢;cases hb:az u t with
  |true=>rw[hb]at a;exact h.d hl c b.1 a
  |false=>rw[hb]at a;exact h.f hl c b.2 a
theorem qL:∀{σ:List bm}{i j:Nat},(gJ l k n es i σ).1[j]?=match σ[j]? with
  |none=>af
  |some b=>aa (match az (i+j) l with|true=>.dead|false=>match b with|.cells E cs=>.cells E (nR l k n es cs).1|b=>b)
 |[],i,j=>by simp[gJ]
 |b::r,i,0=>by simp only[gJ,fS,iF];grind
 |b::r,i,j+1=>by
  have a:=qL (σ:=r) (i:=i+1) (j:=j);have e:i+1+j=i+(j+1):=by omega
  rw[e]at a;simp only[gJ,kL];grind
def vC:∀{σ:List bm}{i j:Nat}{E:av}{cs:List A},ar (gJ l k n es i σ).2->σ[j]?=aa (.cells E cs)->i+j≠l->ar (nR l k n es cs).2
 |[],i,j,_,_,_,a,_=>by grind
 |b::r,i,0,E,cs,d,a,c=>by simp at a;subst a;simp only[gJ]at d;grind[Nat.eq_of_beq_eq_true,ar.cat]
 |b::r,i,j+1,E,cs,d,a,c=>by simp at a;refine vC (σ:=r) (i:=i+1) (j:=j) ?_ a (by omega);simp only[gJ]at d;grind[ar.cat]
theorem qM:∀{σ:List bm}{i:Nat},(gJ l k n es i σ).1.length=σ.length
 |[],_=>rfl
 |b::r,i=>by simp only[gJ];have a:=qM (σ:=r) (i:=i+1);grind
def aF.rM(hh:aF σ s)(F:σ[l]?=aa (.buf E k n es))(hq:ar (gJ l k n es 0 σ).2):
  ∃s2:St,s2.w=s.w/\aF (gJ l k n es 0 σ).1 s2/\Step σ s (gJ l k n es 0 σ).1 s2/\iR σ s l k n es (gJ l k n es 0 σ).1 s2:=by
 have D:l<σ.length:=(cf.1 F).1;have R:s.β[l]?=aa (s.β[l]'(by rw[hh.len];exact D)):=bn _;generalize s.β[l]'(by grind)=L at R;have G:=hh.box _ _ L F R;obtain⟨M',m1,m2,m3,m4⟩:∃M':Mem,(∀b o v,s.M b o=aa v->M' b o=aa v)/\(∀b,b∉L.bs->∀o,M' b o=s.M b o)/\(∀b o v,M' b o=aa v->s.w.cell? ⟨b,o,af⟩=aa v) /\
   (∀v k' o m,gD σ s v (.bp l (.sl n k' o m))->k'=k->o+m<=n->Rd M' v (.sl ae k m (qK o es))):=by
  rcases G with⟨rfl,rfl⟩|⟨b,c0,vs,zs,rfl,hw,LS,Xx,Ot,V,hM⟩
  .refine⟨s.M,λ_ _ _ h=>h,λ_ _ _=>rfl,hh.mem,λv k' o m r e z=>?_⟩;obtain⟨lv,⟨a,a0,cap,c0,A,h1,h2,I,H,Q⟩,_,W⟩:=r;grind[Rd.ic]
  .let M':Mem:=λq o=>if q=b then vs[o]? else s.M q o;have Z:∀q o v,s.M q o=aa v->M' q o=aa v:=λq o v A=>by grind
   refine⟨M',Z,λq oB o=>?_,λq o v A=>?_,λv k' o m r e z=>?_⟩
   .grind
   .by_cases e:q=b
    .subst e;simp only[M',bY]at A;simp only[aR,hw];grind
    .simp only[M',e,b6]at A;exact hh.mem q o v A
   .subst e;obtain⟨lv,⟨a,a0,cap,c1,A,h1,h2,I,H,Q⟩,_,W⟩:=r;obtain⟨L',f,O⟩:=(W _ _ _ _ F).2 rfl;rw[R]at f;cases f;rw[H]at O;cases O;rw[A];have g:∀i,i<m->∀j c,(qK o es i)[j]?=aa c->∃u,vs[(o+i)*k'+j]?=aa u/\Rd s.M u c:=λi hi j c hj=>by rw[uV]at hj;exact V.rd (o+i) (by omega) j c hj
    refine .sl b (o*k') (λi j=>(vs[(o+i)*k'+j]?).getD ai) h1 (by omega) (by simp) (λi hi=>by rw[uV];exact V.width _ (by omega)) (λhm=>?_) (λi hi j c hj=>?_) (λi hi j c hj=>?_)
    .grind
    .grind
    .obtain⟨u,u1,u2⟩:=g i hi j c hj;rw[u1];exact u2.mono Z
 obtain⟨C,q2⟩:=hh.gy (M':=M') (w':=s.w) (B':=.dead) (L':=⟨L.v,[]⟩) F R aq (ba _) (λ_ _ _=>rfl) (λb _ hb o=>m2 b hb o) m1 m3 (by simp) rfl rfl rfl aq;let s2:St:=⟨s.β.set l ⟨L.v,[]⟩,M',s.w,s.own⟩
 have g:∀i B,σ[i]?=aa B->i≠l->(gJ l k n es 0 σ).1[i]?=aa (match B with|.cells E cs=>.cells E (nR l k n es cs).1|b=>b):=λi B hi Bi=>by grind[qL,Nat.eq_of_beq_eq_true]
 have J:(gJ l k n es 0 σ).1[l]?=aa .dead:=by
  rw[qL,F];have:az (0+l) l=ab:=by rw[bz];exact jr l
  grind
 have vD:Step (σ.set l .dead) s2 (gJ l k n es 0 σ).1 s2:=by
  refine⟨ba _,λ_ _ _=>rfl,λ_ _ _ h=>h,λ_ _ _ _=>rfl,λL' f b hb=>.inr ⟨L',f,hb⟩,λi B L' hi f=>?_,rfl,rfl,rfl,rfl⟩;by_cases e:i=l
  .subst e;rw[gw D]at hi;cases hi;exact⟨.dead,L',J,f,rfl⟩
  .rw[kM (λh=>e h.symm)]at hi;refine⟨_,L',g i B hi e,f,?_⟩;cases B<;>first|exact hX.refl _ _|rfl
 have st:=q2.trans vD;have Y:iR σ s l k n es (gJ l k n es 0 σ).1 s2:=⟨λv a r=>r.mono st.ext hh.len,λv k' o m r e z=>m4 v k' o m r e z⟩
 refine⟨s2,rfl,⟨C.mem,by rw[qM,<-hh.len];grind,λi B L' hi f=>?_,C.fY,C.lt,C.own⟩,st,Y⟩;by_cases e:i=l
 .subst e;rw[J]at hi;cases hi;trivial
 .have y:i<σ.length:=by grind[qM]
  have x:=bn y;have T:s.β[i]?=aa L':=by grind
  have U:=hh.box i _ L' x T;have p:=C.box i _ L' (by rw[kM (λh=>e h.symm)];exact x) f;have d:=g i _ x e;rw[hi]at d;have d:=nA d;generalize hBe:σ[i]=B0 at *;cases B0 with
  |cells E0 cs =>
   subst d;obtain⟨b,vs,h1,h2,I,Q⟩:=U;obtain⟨q,Vs,K,Vt,_,S⟩:=p;rw[h1]at K;cases K;exact⟨b,vs,h1,h2,Y.ls (vC hq x (by omega)) I,S⟩
  |vec=>subst d;exact p
  |dg=>subst d;exact p
  |dead=>subst d;trivial
  |loop N φ r =>
   subst d;obtain⟨l1,tmps,fn,df,h1,h2,I,Q,h5⟩:=p;exact⟨l1,tmps,fn,df,h1,h2,I,λt=>(Q t).mono vD.ext C.len,h5⟩
  |rG=>subst d;exact p
  |buf=>subst d;exact p
end
section
variable {X:Cx P}{φ':Fr}
def AK.rM(l:Nat){E k n:Nat}{es:Nat->List C}{ps qs:List Prop}(hl:eB l σ=aa (.buf E k n es))(i:vB l k n es φ=(φ',ps))(d:gJ l k n es 0 σ=(σ',qs))(m:ar ps)(j:ar qs)(kk:AK X N Qf (.code c::K) .normal φ' σ'):AK X N Qf (.code c::K) .normal φ σ:=by refine AK.ghost (λs a e hh=>?_) kk;obtain⟨s2,h1,h2,b,g⟩:=hh.rM (cU hl) (by grind);rw[d]at h2 b g;refine⟨s2,h1,⟨e.size,e.defers.imp λ_ h=>h.mono b.ext,λt=>?_⟩,h2,b⟩;have:=g.f hh.len b.ext (φ:=φ) (t:=t) (by grind) (e.slot t);grind
end
section
variable {X:Cx P}{d:List It}
def AK.Qi(l i j:Nat)(K:aj->Mem->Prop)(S:∀a M,K (.slice a 0 0) M){E0:av}{k0:Nat}{cs:List A}{F:Nat->List C}(UN:l≠i)(hl:eB l σ=aa (.dg (jX E k (.nil af) 0 [])))(hi:eB i σ=aa (.cells E0 cs))(hj:eB j cs=aa (.c (.sl ab k0 0 F)))(kk:∀v,AK X N Qf (.code c::d) .normal φ ((σ.set l (.dg (PM (K v)))).set i (.cells E0 (cs.set j (.c (.val v)))))):AK X N Qf (.code c::d) .normal φ σ:=by
 refine AW.Dt (ι:=aj) (φ':=λ_=>φ) (σ':=λv=>(σ.set l (.dg (PM (K v)))).set i (.cells E0 (cs.set j (.c (.val v))))) (λs a W hh=>?_) kk;have hl:=cU hl;have hi:=cU hi;have hJ:=cU hj;have t:i<s.β.length:=by rw[hh.len];grind
 have H:=bn t;generalize s.β[i]=Li at H;obtain⟨b0,vs0,hLb,Q,z,_⟩:=hh.box i _ Li hi H;obtain⟨v,Po,V⟩:=z.get hJ;obtain⟨a0,cap,vs1,rfl,n1,n2,n3,_,_⟩:=(show Rd s.M v (.sl ab k0 0 F)from V).flat;obtain rfl:=n3 rfl;have hK:=S a0;have J:l<s.β.length:=by rw[hh.len];grind
 have R:=bn J;generalize s.β[l]=L at R;obtain⟨ch,hs,h4,h5,h6⟩:=hh.box l _ L hl R;obtain⟨y,q2⟩:=hh.gy (M':=s.M) (w':=s.w) (B':=.dg (PM (K (.slice a0 0 0)))) (L':=L) hl R rfl (ba _) (λ_ _ _=>rfl) (λ_ _ _ _=>rfl) (λ_ _ _ h=>h) hh.mem (λb hb=>⟨.inl hb,hh.lt L (bL R) b hb⟩) rfl rfl rfl
  ⟨ch,PM.start hK _ _ hs,h4,h5,h6⟩
 have o:(σ.set l (.dg (PM (K (.slice a0 0 0)))))[i]?=aa (.cells E0 cs):=by grind
 generalize hs1:(⟨s.β.set l L,s.M,s.w,s.own⟩:St)=s1 at y q2;have Z:i<s1.β.length:=by grind
 have r:s1.β[i]?=aa Li:=by grind
 obtain⟨b,vs,T,q,U,hM⟩:=y.box i _ Li o r;have I:s1.β.set i Li=s1.β:=by apply g9;grind
 have Y:vs[j]?=aa (.slice a0 0 0):=by grind
 obtain⟨t1,t2⟩:=y.gy (M':=s1.M) (w':=s1.w) (B':=.cells E0 (cs.set j (.c (.val (.slice a0 0 0))))) (L':=Li) o r rfl (ba _) (λ_ _ _=>rfl) (λ_ _ _ _=>rfl) (λ_ _ _ h=>h) y.mem (λb hb=>⟨.inl hb,y.lt Li (bL r) b hb⟩) rfl rfl rfl (by
   rw[I];have ex:Ext (σ.set l (.dg (PM (K (.slice a0 0 0))))) s1 ((σ.set l (.dg (PM (K (.slice a0 0 0))))).set i (.cells E0 (cs.set j (.c (.val (.slice a0 0 0)))))) s1:=by
    refine⟨λ_ _ _ h=>h,λp B L G O=>?_⟩;by_cases e:i=p
    .subst e;rw[o]at G;cases G;exact⟨_,L,gw (by grind),O,rfl⟩
    .exact⟨B,L,by grind,O,.refl _ _⟩
   exact⟨b,vs,T,q,dT.set (U.mono ex y.len) Y (Rd.val rfl),hM⟩)
 have st:=q2.trans t2;exact⟨.slice a0 0 0,_,by grind,⟨W.size,W.defers.imp λ_ h1=>h1.mono st.ext,λu=>(W.slot u).mono st.ext hh.len⟩,t1,st⟩
end
section
variable {X:Cx P}{x:Option ι->Nat->D}{s:Option ι->Bool->Bool->Bool->List bm}{m n f g:Nat}
end
section
variable {X:Cx P}{a:List It}
def AK.Tg{d:List It}(φ':ι->Fr)(σ':ι->List bm)(h:(∀(i:ι)(b:Fr)(ps:List Prop),qm b (φ' i)=aa ps->ar ps->AK X N Qf (.code c::d) .normal b (σ' i))->AK X N Qf K .normal φ σ)(k:∀i,AK X N Qf (.code c::d) .normal (φ' i) (σ' i)):AK X N Qf K .normal φ σ :=
 h λi _ _ h1 h2=>AW.le (k i) (dw h1 h2)
def iQ.agg{ds:List D}(p q G:Nat){cs:List A}{u:aj}(J:ds[p]?=aa (.e (.agg cs)))(I:cs[q]?=aa (.c (.val u)))(hl:jw σ G u k n es):iQ σ ds (ds.set p (.e (.agg (cs.set q (.c (.sl ae k n es)))))):=by
 intro s vs hh hr;obtain⟨L,j,r,w,C,F,H,E⟩:=hl s hh;refine⟨λb=>b∈L.bs,j,λb hb=>⟨L,bL r,hb⟩,w,C,F,H,?_⟩;have e1:Ext σ s σ {s with M:=j}:=⟨w,λl B L y r=>⟨B,L,y,r,.refl _ _⟩⟩
 have t:=hr.mono e1 hh.len;obtain⟨z,i⟩:=cn.get t;have g:p<vs.length:=by grind
 have d:=i p;rw[J,bn g]at d;obtain⟨x,m,h⟩:=d;obtain⟨v,f,o⟩:=h.get I;rw[Rd.fN (show Rd j v (.val u)from o)]at f;refine cn.setAt t (bn g) ⟨x,m,dT.set h f E⟩
end
def tp(f:aj)(l:List Int):aj->(Nat->Option Obj)->Prop:=λv a=>v=f/\∃r es c,f=.map (aa r)/\(∀b,a b=if b=r then aa (.map es c)else af)/\MapKept.Stamped es c /\
 (∀e∈es.toList,∃n,e.key=.int .i64 n/\e.val=.bool ab/\bt .i64 n)/\∀n,n∈l↔∃e∈es.toList,e.key=.int .i64 n
structure T9(σ:List bm)(s:St)(b:Nat)(f:aj)(l:List Int)(L:Loc)(r:Nat)(es:Array MapEntry)(c:Nat):Prop where
 at':s.β[b]?=aa L
 v:L.v=f
 m:f=.map (aa r)
 st:MapKept.Stamped es c
 kv:∀e∈es.toList,∃n,e.key=.int .i64 n/\e.val=.bool ab/\bt .i64 n
 mem:∀n,n∈l↔∃e∈es.toList,e.key=.int .i64 n
 heap:s.w.heap[r]?=aa (.map es c)
 bs:∀b,b∈L.bs↔b=r
def tp.open{f:aj}{l:List Int}(hh:aF σ s)(hl:σ[b]?=aa (.dg (tp f l))):∃L r es c,T9 σ s b f l L r es c:=by
 have hb:b<s.β.length:=by rw[hh.len];grind
 obtain⟨ch,⟨h1,r,es,c,h2,h,g,a,e⟩,d,i,_⟩:=hh.box b _ _ hl (bn hb);exact⟨_,r,es,c,bn hb,h1,h2,g,a,e,d r _ (by grind),λb=>by grind⟩
section
variable {T p q:av}{z:aE}{f:aj}{l:List Int}{n:Int}
def Ua{es:Array MapEntry}(h:∀e∈es.toList,∃n,e.key=.int .i64 n/\e.val=.bool ab/\bt .i64 n):∀e∈es.toList,MapKept.IsKey (.int .i64) e.key:=λe a=>by obtain⟨n,b,_⟩:=h e a;rw[b];rfl
def LV{f:aj}{d:D}(h:dk σ s v d)(e:d=.e (.one (.v f))):v=f:=by subst e;exact Rd.fN h
def UL{n:Int}{d:D}(h:dk σ s v d)(e:d=.e (.one (.c (.int .i64 n)))):v=.int .i64 n/\bt .i64 n:=by subst e;have:=fM h;generalize v=w at this;cases this;exact⟨rfl,by assumption⟩
def bF.NL(h:o.op=.lookup T x y ae)(B:P.underlying T=aa (.map p q))(u:P.underlying p=aa (.int .i64))(I:∀w,(zeroValue q).run P w=.ok (.bool ae) w)(hl:σ[b]?=aa (.dg (tp f l)))(G:η x=.e (.one (.v f)))(D:η y=.e (.one (.c (.int .i64 n)))):bF P o η σ (.e (.one (.c (.bool (l.contains n))))) σ:=by
 refine bF.nL λs J hh hr=>?_;obtain⟨L,r,es,c,g⟩:=tp.open hh hl;have ex:J x=.map (aa r):=(LV (hr x) G).trans g.m;obtain⟨C,M⟩:=UL (hr y) D;obtain⟨a,A⟩:=yi (d:=.int .i64) (k:=.int .i64 n) rfl (Ua g.kv);have E:nJ s ⟨.obj r,ae,ae⟩:=lE (bL g.at') ((g.bs r).2 rfl);have key:∃v:Bool,(Instr.lookup T (.map (aa r)) (.int .i64 n) ae).run P s.w=.ok (.bool v) s.w/\(Instr.lookup T (.map (aa r)) (.int .i64 n) ae).events P s.w #[]=#[⟨.obj r,ae,ae⟩]/\v=l.contains n:=by
  cases a with
  |none =>
   obtain⟨i,t⟩:=tP (ok:=ae) B u g.heap A (λ_=>I s.w)
   exact⟨ae,i,t,by
    symm;rw[<-oG,y6,g.mem]
    rintro⟨e,H,u⟩;exact A.no rfl e H u⟩
  |some jv =>
   obtain⟨j,v⟩:=jv;obtain⟨i,t⟩:=tP (ok:=ae) (z:=ai) B u g.heap A (λh=>by cases h);obtain⟨e,h1,h2,K⟩:=A.yes j v rfl;have hm:e∈es.toList:=by grind
   obtain⟨_,_,N,_⟩:=g.kv e hm;exact⟨ab,i.trans (show Result.ok v s.w=_ by grind),t,by symm;rw[y6,g.mem];grind⟩
 obtain⟨v,i,t,F⟩:=key;refine⟨.bool v,?_,by rw[<-F];exact Rd.bool,?_⟩
 .simp only[an,h,ex,C,bU,i,cw,cY]
 .simp only[an,h,ex,C,aP,i,t,aV,Sem.events_pure];exact .one E
def bF.Ra(h:o.op=.mapUpdate T x y z)(H:P.underlying T=aa (.map p q))(E:P.underlying p=aa (.int .i64))(hl:σ[b]?=aa (.dg (tp f l)))(S:η x=.e (.one (.v f)))(R:η y=.e (.one (.c (.int .i64 n))))(Q:η z=.e (.one (.c (.bool ab)))):bF P o η σ .any (σ.set b (.dg (tp f (l++[n])))):=by
 intro s D hh hr;obtain⟨L,r,es,c,g⟩:=tp.open hh hl;have ex:D x=.map (aa r):=(LV (hr x) S).trans g.m;obtain⟨F,Y⟩:=UL (hr y) R;have G:D z=.bool ab:=by have:=hr z;rw[Q]at this;have:=fM this;generalize D z=w at this;cases this;rfl
 obtain⟨a,B⟩:=yi (d:=.int .i64) (k:=.int .i64 n) rfl (Ua g.kv);have J:∀w,nJ s ⟨.obj r,w,ae⟩:=λw=>lE (bL g.at') ((g.bs r).2 rfl);have K:r<s.w.heap.size:=(eX.1 g.heap).1;have key:∃es' c',(Instr.mapUpdate T (.map (aa r)) (.int .i64 n) (.bool ab)).run P s.w=.ok () {s.w with heap:=s.w.heap.setIfInBounds r (.map es' c')}/\(Instr.mapUpdate T (.map (aa r)) (.int .i64 n) (.bool ab)).events P s.w #[]=#[⟨.obj r,ae,ae⟩,⟨.obj r,ab,ae⟩] /\
   MapKept.Stamped es' c'/\(∀e∈es'.toList,∃n,e.key=.int .i64 n/\e.val=.bool ab/\bt .i64 n)/\∀m,m∈l++[n]↔∃e∈es'.toList,e.key=.int .i64 m:=by
  cases a with
  |none =>
   obtain⟨t,u⟩:=tQ (x:=.bool ab) H E g.heap B;refine⟨_,_,t,u,MapKept.stamped_push g.st (B.no rfl),λe A=>?_,λm=>?_⟩
   .rw[Array.toList_push,ff]at A;rcases A with A|A
    .exact g.kv e A
    grind
   .rw[ff,g.mem,Array.toList_push];constructor
    .rintro(⟨e,h1,h2⟩|h1)
     .grind
     .simp at h1;subst h1;exact⟨_,List.mem_append_right _ (iX.2 rfl),rfl⟩
    grind
  |some jv =>
   obtain⟨j,v⟩:=jv;obtain⟨e,h1,h2,W⟩:=B.yes j v rfl;have hm:e∈es.toList:=by grind
   obtain⟨_,_,U,_⟩:=g.kv e hm;have M:es.modify j (λe=>{key:=.int .i64 n,val:=.bool ab,born:=e.born})=es:=by
    apply Array.ext_getElem?;intro i;rw[y8];split
    .rename_i hi;subst hi;rw[h1,<-h2,<-U];rfl
    .rfl
   obtain⟨t,u⟩:=tQ (x:=.bool ab) H E g.heap B;refine⟨es,c,t.trans (show Result.ok () {s.w with heap:=s.w.heap.setIfInBounds r (.map (es.modify j λe=>{key:=.int .i64 n,val:=.bool ab,born:=e.born}) c)}=_ by grind),u,g.st,g.kv,λm=>?_⟩;rw[ff,g.mem];constructor
   .rintro(I|I)
    .exact I
    grind
   grind
 obtain⟨es',c',t,u,N,O,V⟩:=key;have C:=hh.jk (H':=tp f (l++[n])) (L':=L) (w':={s.w with heap:=s.w.heap.setIfInBounds r (.map es' c')}) hl g.at' rfl (by simp) (λb _ hb=>by show(s.w.heap.setIfInBounds r _)[b]?=_;rw[nv (by rintro rfl;exact hb ((g.bs r).2 rfl))]) (λb hb=>.inl hb)
  ⟨λb=>if b=r then aa (.map es' c')else af,⟨g.v,r,es',c',g.m,λ_=>rfl,N,O,V⟩,λb Z hb=>by grind,λb=>by rw[g.bs];by_cases e:b=r<;>simp[e]⟩ rfl rfl rfl
 have e1:s.β.set b L=s.β:=by
  apply g9;intro i;by_cases e:b=i
  .subst e;rw[gw (cf.1 g.at').1,g.at']
  grind
 rw[e1]at C;refine⟨.skip,_,?_,rfl,C.1,C.2,?_⟩
 .simp only[an,h,ex,F,G,bU,t,cw,cY]
 .simp only[an,h,ex,F,G,aP,t,u,aV,Sem.events_pure];exact .two (J _) (J _)
end
section
variable {X:Cx P}{T:av}
def AK.Rb(h:o.op=.makeMap T af)(j:o.guard=af)(d:gm N o.dst=ab)(k:∀f,AK X N Qf (.ops all rest::K) .normal (kO o.dst (.e (.one (.v f))) φ) (σ++[.dg (tp f [])])):AK X N Qf (.ops all (o::rest)::K) .normal φ σ:=by
 refine AK.hand (ι:=aj) (λf=>.e (.one (.v f))) (λf=>σ++[.dg (tp f [])]) j d (λs a t hh=>?_) k;let w':aA:={s.w with heap:=s.w.heap.push (.map #[] 0)}
 have c:w'.heap[s.w.heap.size]?=aa (.map #[] 0):=by grind
 have g:w'.heap.size=s.w.heap.size+1:=by grind
 obtain⟨i,g2⟩:=hh.grow (M':=s.M) (w':=w') (by grind) (λb hb=>by grind) (λ_ _ _=>rfl) (λb hb o v hm=>by have:=hh.block hm;omega) rfl rfl rfl;obtain⟨r,m⟩:=i.hU g2 rfl hh (B:=.dg (tp (.map (aa s.w.heap.size)) [])) (L:=⟨.map (aa s.w.heap.size),[s.w.heap.size]⟩)
  ⟨λb=>if b=s.w.heap.size then aa (.map #[] 0)else af,⟨rfl,_,#[],0,rfl,λ_=>rfl,MapKept.stamped_empty 0,λe u=>by grind,λn=>by simp⟩,λb o hb=>by
   grind,λb=>by by_cases e:b=s.w.heap.size<;>simp[e],λb hb o=>by
   simp at hb;subst hb;show s.M _ _=af;cases hm:s.M s.w.heap.size o with
   |none=>rfl
   |some v=>have:=hh.block hm;omega⟩ (λb hb=>by grind)
 refine⟨.map (aa s.w.heap.size),.value (.map (aa s.w.heap.size)),_,.map (aa s.w.heap.size),?_,.inl rfl,Rd.val rfl,r,m,?_⟩
 .simp[an,h,Instr.makeMap,run_newObj,w']
 .simp[an,h,Instr.makeMap];exact .nil
end
section
variable {X:Cx P}
section
variable {x:Nat->D}{s2:Bool->Bool->List bm}{c d:Nat}
abbrev tT(s2:Bool->Bool->List bm)(c d:Nat):(Nat->Bool)->List bm:=λD=>s2 (D c) (D d)
def e9.q2(h1:az c i=ae)(h2:az d i=ae)(h:∀a b,OA X N all o (lX all φ x i) (s2 a b) (x i) (s2 a b)):e9 X N all φ x (tT s2 c d) i o:=by
 intro D _ _;have e1:dC i D c=D c:=by simp only[dC,h1]
 have e2:dC i D d=D d:=by simp only[dC,h2]
 grind
def e9.M3(e:dj P T)(hC:bR X CT)(h:∀a b,vH T CT [] all (lX all φ x i) (s2 a b) o=aa (x i,af,obs):=by intro a b;cases a<;>cases b<;>rfl)(h1:az c i=ae:=by rfl)(h2:az d i=ae:=by rfl)(ho:ar obs:=by simp only[ar,aB];omega):e9 X N all φ x (tT s2 c d) i o:=.q2 h1 h2 λa b=>OA.eval e hC (h a b) ho
def e9.s9(e:dj P T)(hC:bR X CT)(h:∀a b,vH T CT [] all (lX all φ x i) (s2 a b) o=aa (x i,af,[]):=by intro a b;cases a<;>cases b<;>rfl)(h1:az c i=ae:=by rfl)(h2:az d i=ae:=by rfl):e9 X N all φ x (tT s2 c d) i o:=.M3 (obs:=[]) e hC h h1 h2 aq
def e9.sA(h2:az d c=ae)(a:ja all d c=ab)(h:OA X N all o (lX all φ x c) (s2 ae ae) (x c) (s2 ab ae)):e9 X N all φ x (tT s2 c d) c o:=by
 intro D _ b;have e1:dC c D c=ab:=by simp only[dC,jr]
 have e2:dC c D d=D d:=by simp only[dC,h2]
 grind
def e9.sB(h1:az c d=ae)(e:ja all d c=ab)(h:OA X N all o (lX all φ x d) (s2 ab ae) (x d) (s2 ab ab)):e9 X N all φ x (tT s2 c d) d o:=by
 intro D b a;have e1:dC d D c=D c:=by simp only[dC,h1]
 have e2:dC d D d=ab:=by simp only[dC,jr]
 grind
end
end
section
variable {T:List (Nat×TI)}
def bF.FX(N:dj P T){w:aE}(h:o.op=.slice t x (aa w) (aa y) af){H ie:TI}(I:bG T t=aa H)(S:H.desc=.slice E)(X:bG T E=aa ie){g q:Nat}{p r:IntKind}{i j:Int}(Y:η x=.e (.one (.bp l (.sl g k q n))))(Q:ie.size=k){E' k':Nat}(hl:σ[l]?=aa (.buf E' k' g es))(U:η w=.e (.one (.c (.int p i))))(W:η y=.e (.one (.c (.int r j))))(h0:0<=i)(h1:i<=j)(h2:q+j<=g):bF P o η σ (.e (.one (.bp l (.sl g k (q+i.toNat) (j.toNat-i.toNat))))) σ:=by
 subst Q;refine .quiet λst ρ hh hr=>?_;have u:=hr x;rw[Y]at u;have s:=u;change gD σ st (ρ x) (.bp l _)at s;obtain⟨lv,⟨a,a0,cap,O,K,R,V,G,v,F⟩,D,z⟩:=s;have M:g<=O:=by
  obtain⟨L,hL,B⟩:=(z _ _ _ _ hl).2 rfl;rcases hh.box l _ L hl hL with⟨rfl,rfl⟩|⟨b,c1,vs,zs,rfl,_,_,h5,_⟩
  .exact j9 _
  .rw[v]at B;cases B;exact h5
 have d:=hr w;rw[U]at d;replace d:=fM d;generalize A:ρ w=vw at d;cases d;have f:=hr y;rw[W]at f;replace f:=fM f;generalize C:ρ y=vy at f;cases f;have m:=(N t H I).run_underlying (w:=st.w);rw[S]at m;have hb:(bk ab n cap (aa (.int p i)) (aa (.int r j)) af).run P st.w=.ok (i.toNat,j.toNat,cap) st.w:=by simp[bk,run_sliceBound (P:=P) st.w r j cap _ (by omega) (by omega),run_sliceBound (P:=P) st.w p i j.toNat _ (by omega) (by omega)]
 have Z:(bk ab n cap (aa (.int p i)) (aa (.int r j)) af).events P st.w #[]=#[]:=by
  simp[bk,run_sliceBound (P:=P) st.w r j cap _ (by omega) (by omega),run_sliceBound (P:=P) st.w p i j.toNat _ (by omega) (by omega),
   dM (P:=P) st.w r j cap _ (by omega) (by omega),dM (P:=P) st.w p i j.toNat _ (by omega) (by omega)]
 refine⟨.slice (if cap=i.toNat then a else a.map (·.add (i.toNat*ie.size))) (j.toNat-i.toNat) (cap-i.toNat),?_,⟨lv,⟨_,a0,_,O,rfl,by omega,by omega,G,v,λJ=>?_⟩,D,z⟩,by simp[an,h,K,A,C,Instr.sliceAt,m,Instr.slice,hb,Z]⟩
 .simp[an,h,K,A,C,Instr.sliceAt,m,Instr.slice,hb,(N E ie X).run_sizeOf]
 .obtain⟨b,rfl,rfl⟩:=F (by omega);refine⟨b,rfl,?_⟩;rw[aW (by omega)];simp[de,gI]
end
section
open Go.Conc
def gn(s:St):Prop:=∀b o v,s.M b o=aa v->s.w.cell? ⟨b,o,af⟩=aa v
def ku(c:Nat->Prop):Go.Loc->Prop
  | .cell a=>c a.block
  | .obj r=>c r
  | _=>False
structure Clear(c:Nat->Prop)(s:St):Prop where
  own:∀b,c b->¬s.own b
  β:∀b,c b->∀L∈s.β,b∉L.bs
  M:∀b,c b->∀o,s.M b o=af
  lt:∀b,c b->b<s.w.heap.size
section
variable {c:Nat->Prop}
def Clear.step(h:Clear c s)(st:Step σ s σ' s'):Clear c s':=by
  refine⟨λb hb=>by rw[st.own];exact h.own b hb,λb hb L d a=>?_,λb hb o=>by rw[st.iI b (h.lt b hb) (h.β b hb)];exact h.M b hb o,λb hb=>cA (h.lt b hb) st.size⟩;rcases st.uP L d b a with h1|⟨f,e,h1⟩
  · exact absurd (h.lt b hb) (l9.2 h1)
  · exact h.β b hb f e h1
theorem Clear.ghost(h:Clear c s)(k:eR s s'):Clear c s':=by
  have d:∀b,c b->¬(s'.own b∨∃L∈s'.β,b∈L.bs):=λb hb e=>by
    rcases k.blk b e with e|⟨L,a,e⟩
    · exact h.own b hb e
    · exact h.β b hb L a e
  exact⟨λb hb e=>d b hb (.inl e),λb hb L a e=>d b hb (.inr ⟨L,a,e⟩),λb hb o=>by rw[k.iI b (h.β b hb)];exact h.M b hb o,λb hb=>by rw[k.w];exact h.lt b hb⟩
def Clear.forget(h:Clear c s)(k:mF s s'):Clear c s':=by
  refine⟨λb hb=>by rw[k.own];exact h.own b hb,λb hb=>by rw[k.β];exact h.β b hb,λb hb o=>?_,λb hb=>by rw[k.w];exact h.lt b hb⟩;cases e:s'.M b o with
  | none=>rfl
  | some v=>rw[<-k.less b o v e,h.M b hb o]
def Clear.at(h:Clear c s)(d:Nat):Clear c {s with w:=s.w.at d}:=⟨h.own,h.β,h.M,h.lt⟩
def gn.at(h:gn s)(d:Nat):gn {s with w:=s.w.at d}:=h
theorem gn.ghost(k:eR s s'):gn s':=λb o v a=>by rw[k.w];exact k.cell b o v a
def gn.forget(h:gn s)(k:mF s s'):gn s':=λb o v a=>by rw[k.w];exact h b o v (k.less b o v a)
def gn.lt(h:gn s){o:Nat}(a:s.M b o=aa v):b<s.w.heap.size:=by
  have:=h b o v a;rcases cM b s.w.heap.size with h1|h1
  · exact h1
  · simp[aR,y5 h1]at this
def bZ.at(h:gn s)(d:Nat):bZ s {s with w:=s.w.at d}:=⟨rfl,rfl,rfl,ba _,λ_ _=>rfl,h,rfl,rfl,rfl⟩
def Pp{e:Event}(l:aF σ s)(k:Clear c s)(h:nJ s e){B:Nat}(o:s.w.heap.size<=B):EvL (ku c) B e:=by
  obtain⟨n,wr,q⟩:=e;cases n with
  | cell a =>
    obtain⟨i,j,b⟩:=h;simp only at i j b;subst i;have key:¬c a.block/\a.block<s.w.heap.size:=by
      rcases b with b|⟨⟨L,g,b⟩,_⟩|⟨_,v,b⟩
      · exact b.elim
      · exact⟨λx=>k.β _ x L g b,l.lt L g _ b⟩
      · refine⟨λx=>?_,gn.lt l.mem b⟩
        rw[k.M _ x]at b;cases b
    exact evL_cell a wr key.1 (cA key.2 o)
  | obj r =>
    obtain⟨i,j⟩:=h;simp only at i j;subst i;obtain⟨L,g,b⟩:=j.resolve_left id;refine⟨λx d p=>?_,by simp,by simp,?_⟩
    · simp[aG,bl]at d
      subst d;exact absurd b (k.β _ p L g)
    · simp[aG,MemAct.low,Loc.low]
      exact cA (l.lt L g _ b) o
  | mark m =>
    simp only[nJ]at h;rcases h with rfl|⟨f,rfl⟩
    · exact⟨λx d=>by simp[aG,bl]at d,by simp,by simp,by simp[aG,MemAct.low]⟩
    · exact⟨λx d=>by simp[aG,bl]at d,by simp,by simp,by simp[aG,MemAct.low]⟩
  | _=>exact h.elim
end
def mO(t:Trace):Prop:=∀a,NoRelease a t
def mO.app{t:Trace}(h:mO t){g:Nat}{fn:aM}{pos:String}{es:Array Event}(b:∀e∈es,∀a,e.loc≠.mark (.release a)):mO (t++MemOp.ofEvents g fn pos es) :=
  λa=>(h a).app λop iu hx=>by grind[Go.Conc.mem_ofEvents,Go.ConcR.loc_of_ofEvent]
def Ds{e:Event}(d:nJ s e)(a:Addr):e.loc≠.mark (.release a):=by intro b;obtain⟨loc,wr,g⟩:=e;simp only at b;subst b;rcases d with h|⟨f,h⟩<;>cases h
def vm{e:Event}(d:e.mute=ab)(a:Addr):e.loc≠.mark (.release a):=by intro b;obtain⟨loc,wr,f⟩:=e;simp only at b;subst b;simp[Event.mute]at d
def AX(P:aK)(g:ak)(s:St)(T:ak->St->Prop):Prop :=
  ∀(c:Nat->Prop) (gs:Array ak) (sl:Option (Nat×Nat)) (t:Trace) (q:Nat->Nat),gn s->gs[0]?=aa g->Leavers P t gs q->Past (ku c) s.w.heap.size t->Clear c s->mO t ->
    ∃(N:Nat) (b:Nat->Prop) (a:Array ak) (g':ak) (s':St) (e:Option (Nat×Nat)) (d:Trace) (q':Nat->Nat),
      runNT P N (crowd gs s.w sl) t=(.next (crowd a s'.w e),d)/\gn s'/\a[0]?=aa g'/\Leavers P d a q'/\Past (ku b) s'.w.heap.size d/\Clear b s'/\mO d/\T g' s'
def Cx.beside(P:aK):Cx P:={main:=ab,rely:=λs s'=>bZ s s'/\∃d,s'={s with w:=s.w.at d},vl:=AX P,hZ:=λh=>h.1,A2:=True}
instance (P:aK):(Cx.beside P).jw:=⟨aq⟩
theorem runNT_add{P:aK}:∀(N M:Nat) {m b:Machine} {t a:Trace},runNT P N m t=(.next b,a)->runNT P (N+M) m t=runNT P M b a
  | 0,M,m,b,t,a,h=>by simp[runNT]at h;grind
  | N+1,M,m,b,t,a,h=>by
    rw[show N+1+M=(N+M)+1 by omega];simp only[runNT]at h⊢;cases d:stepT P m with
    | mk r ops =>
      rw[d]at h;cases r with
      | next m1=>exact runNT_add N M h
      | ended o w=>grind
def AX.trans{T:ak->St->Prop}(h:AX P g s T)(k:∀g' s',T g' s'->AX P g' s' S):AX P g s S:=by intro c gs sl t q hm h0 hL hP hc hn;obtain⟨N,i,a,g',s',b,l,q',h1,h2,m,v,n,u,j,o⟩:=h c gs sl t q hm h0 hL hP hc hn;obtain⟨M,d,e,g2,s2,f,p,q2,k1,r⟩:=k g' s' o i a b l q' h2 m v n u j;exact⟨N+M,d,e,g2,s2,f,p,q2,by grind[runNT_add],r⟩
def AX.slip{T:ak->St->Prop}(R:g.status=.running)(one:∀(c:Nat->Prop) (gs:Array ak) (d:Nat) (sl:Option (Nat×Nat)) (t:Trace) (q:Nat->Nat),gn s->gs[0]?=aa g->Leavers P t gs q->Past (ku c) s.w.heap.size t->Clear c s->mO t ->
      ∃(l:Array ak) (F:ak) (u:St) (ops:Array MemOp),runT P (crowd gs (s.w.at d) sl) 0=(.next (crowd l u.w sl),ops)/\gn u/\l[0]?=aa F/\Leavers P (t++ops) l q/\Past (ku c) u.w.heap.size (t++ops)/\Clear c u/\mO (t++ops)/\T F u):AX P g s T:=by
  intro c gs sl t q;have key:∀(n:Nat) (gs:Array ak) (d:Nat) (sl:Option (Nat×Nat)) (t:Trace) (q:Nat->Nat),Go.ConcN.sumTo gs.size q<=n->gn s->gs[0]?=aa g->Leavers P t gs q->Past (ku c) s.w.heap.size t->Clear c s->mO t ->
      ∃(N:Nat) (m:Nat->Prop) (f:Array ak) (g':ak) (s':St) (b:Option (Nat×Nat)) (A:Trace) (q':Nat->Nat),
        runNT P N (crowd gs (s.w.at d) sl) t=(.next (crowd f s'.w b),A)/\gn s'/\f[0]?=aa g'/\Leavers P A f q'/\Past (ku m) s'.w.heap.size A/\Clear m s'/\mO A/\T g' s':=by
    intro n;induction n with
    | zero=>?_
    | succ n I=>?_
    all_goals
      intro gs d sl t q hn hm h0 hL hP hc Fh;have K:∀g∈gs,awake g:=by
        intro x W;obtain⟨i,hi,rfl⟩:=Array.mem_iff_getElem.1 W;rcases nw i with rfl|h
        · grind[awake_of]
        · exact awake_of ((hL.old i _ h (gg hi)).status.elim .inl λx=>.inr (.inr x))
      obtain⟨i,x,d2,b,hi,O,r⟩:=crowd_pick (P:=P) (w:=s.w.at d) (sl:=sl) K ⟨0,g,h0,R⟩;rw[show(s.w.at d).at d2=s.w.at d2 from rfl]at r;rcases nw i with rfl|h
      · obtain⟨l,F,u,ops,k1,J,S,Y,Z⟩:=one c gs d2 b t q hm h0 hL hP hc Fh
        exact⟨1,c,l,F,u,b,t++ops,q,by simp only[runNT,r,k1],J,S,Y,Z⟩
      · have G:=hL.old i x h hi
        have L:(i==0)=ae:=by grind
        have H:i<gs.size:=(eX.1 hi).1;cases o:q i with
        | zero=>rw[o]at G;rw[G.1]at O;cases O
        | succ k =>
          rw[o]at G;rcases G with⟨hf,_⟩|⟨_,g',es,C,D,Q⟩
          · grind
          have M:Go.ConcN.sumTo gs.size (Go.ConcN.upd q i k)+(k+1)=Go.ConcN.sumTo gs.size q+k:=by have:=Go.ConcN.sumTo_upd q k id H;simpa[o]using this
          first
          | (exfalso;omega)
          | (have p:=runT_crowd_go (P:=P) (sl:=b) (i:=i) hi (by rw[L];exact D (s.w.at d2))
             have V:((gs.map (woken P x g' (s.w.at d2))).setIfInBounds i g').size=gs.size:=by simp
             obtain⟨N,m,f,g2,s',E,A,q',k1,J⟩:=I ((gs.map (woken P x g' (s.w.at d2))).setIfInBounds i g') d2 b (t++MemOp.ofEvents i x.frame.fn x.frame.place es) (Go.ConcN.upd q i k) (by grind) hm
              (by grind[woken_run])
              ⟨λj y hj hy=>by
                by_cases v:i=j
                · grind[Go.ConcN.upd_same,Deaf_own]
                · rw[nv v,Array.getElem?_map]at hy
                  obtain⟨z,U,rfl⟩:=sF.1 hy;have B:=hL.old j z hj U;rw[woken_quitsD B,Go.ConcN.upd_ne q k (Ne.symm v),Deaf_other t v _ (λop iu=>by grind[Go.Conc.mem_ofEvents])];exact B,λj hj=>by
                rw[Deaf_other t (g':=i) (by grind) _ (λop iu=>by grind[Go.Conc.mem_ofEvents])]
                exact hL.above j (by grind)⟩
              (hP.mute (by omega) C) hc (Fh.app λe X a=>vm (C e X) a)
             exact⟨N+1,m,f,g2,s',E,A,q',by simp only[runNT,r,p];exact k1,J⟩)
  intro hm h0 hL hP hc Fh;have:=key _ gs s.w.drawn sl t q (ba _) hm h0 hL hP hc Fh
  rwa [show s.w.at s.w.drawn=s.w from rfl]at this
def _root_.Go.Conc.Leavers.own{g':ak}{t:Trace}{q:Nat->Nat}(b:Leavers P t gs q){ops:Array MemOp}(ho:∀op∈ops,op.g=0)(e:0<gs.size):Leavers P (t++ops) ((gs.map (woken P g g' w)).setIfInBounds 0 g') q :=
  ⟨λj y hj hy=>by
    have a:0≠j:=by omega
    rw[nv a,Array.getElem?_map]at hy;obtain⟨z,f,rfl⟩:=sF.1 hy;have d:=b.old j z hj f;rw[woken_quitsD d,Deaf_other t (by omega) _ (λop iu=>ho op iu)];exact d,λj hj=>by
    rw[Deaf_other t (g':=0) (by grind) _ (λop iu=>ho op iu)]
    exact b.above j (by grind)⟩
def fA.beside{P:aK}{S:ak->St->Prop}{g:ak}{s:St}(h:fA (Cx.beside P) S g s):AX P g s S:=by
  induction h with
  | stop h=>intro c gs sl t q hm h0 hL hP hc hn;exact⟨0,c,gs,_,_,sl,t,q,rfl,hm,h0,hL,hP,hc,hn,h⟩
  | ghost hg _ f =>
    intro c gs sl t q hm h0 hL hP hc hn;have:=f c gs sl t q (.ghost hg) h0 hL (by rw[hg.w];exact hP) (hc.ghost hg) hn
    rwa [hg.w]at this
  | forget _ hg _ f =>
    intro c gs sl t q hm h0 hL hP hc hn;have:=f c gs sl t q (hm.forget hg) h0 hL (by rw[hg.w];exact hP) (hc.forget hg) hn
    rwa [hg.w]at this
  | vl hj _ f=>exact AX.trans hj f
  | @step g s u ns ne hr h1 h2 _ f =>
    refine AX.trans (AX.slip (T:=λg' s'=>∃j,(Cx.beside P).rely s j/\g'=u j/\s'=ns j) hr λc gs d sl t q hm h0 hL hP hc Fh=>?_) λg' s' ⟨j,k1,p,r⟩=>by subst p r;exact f j k1
    have b:(Cx.beside P).rely s {s with w:=s.w.at d}:=⟨bZ.at hm d,d,rfl⟩;obtain⟨⟨σ,σ',hh,o,st⟩,k⟩:=h2 _ b;have m:0<gs.size:=(eX.1 h0).1;have l:Clear c {s with w:=s.w.at d}:=hc.at d;exact⟨_,_,ns {s with w:=s.w.at d},_,runT_crowd_go (P:=P) (sl:=sl) (i:=0) h0 (show aH P (0==0) g (s.w.at d)=_ from h1 _ b),o.mem,by grind,
      hL.own (λop iu=>by grind[Go.Conc.mem_ofEvents]) m,((hP.mono st.size).own λe n=>Pp hh l (k e n) st.size),l.step st,Fh.app λe n a=>Ds (k e n) a,_,b,rfl,rfl⟩
inductive Rk where
 |leaf
 |node (f:St->Rk)
def Rk.lt:Rk->Rk->Prop
 |_,.leaf=>False
 |x,.node f=>∃s,x=f s∨Rk.lt x (f s)
def Rk.acc:∀r:Rk,Acc Rk.lt r
 |.leaf=>⟨_,λ_ h=>h.elim⟩
 |.node f=>⟨_,λ_ ⟨s,e⟩=>e.elim (λe=>e▸Rk.acc (f s)) λh=>(Rk.acc (f s)).inv h⟩
def Rk.nat:Nat->Rk
 |0=>.leaf
 |n+1=>.node λ_=>Rk.nat n
def Rk.DL(n:Nat)(s:St):Rk.lt (Rk.nat n) (Rk.nat (n+1)):=⟨s,.inl rfl⟩
def Vec(j:Nat)(a D:Nat->Rk):Prop:=∃i,i<j/\Rk.lt (a i) (D i)/\∀k,k≠i->a k=D k
def I2:∀j,WellFounded (Vec j)
 |0=>⟨λ_=>⟨_,λ_ ⟨i,h,_⟩=>absurd h (iY i)⟩⟩
 |j+1=>by
  have l:=I2 j;have key:∀a:Rk,∀D:Nat->Rk,D j=a->Acc (Vec (j+1)) D:=by
   intro a;induction Rk.acc a with
   |intro a _ g =>
    intro D;induction l.apply D with
    |intro D _ d =>
     intro m;refine⟨_,λk h=>?_⟩;obtain⟨i,hi,b,f⟩:=h;rcases cM i j with e|e
     .exact d k ⟨i,e,b,f⟩ (by grind)
     grind
  exact⟨λD=>key _ D rfl⟩
section
def jZ(X:Cx P)(E:St->St->Array Event->Prop)(S:ak->St->Prop):Rk->ak->St->Prop
 |.leaf,g,s=>S g s
 |.node f,g,s=>S g s∨(∃s',(eR s s'∨(X.A2/\mF s s'))/\jZ X E S (f s) g s') ∨
   (g.status=.running/\∀a,X.rely s a->∃g' s' es,aH P X.main g a.w=.go g' s'.w es/\(qF a s' es∨E a s' es)/\jZ X E S (f a) g' s')
variable {X:Cx P}{E:St->St->Array Event->Prop}{c:ak->St->Prop}
def eg(X:Cx P)(E:St->St->Array Event->Prop)(S:ak->St->Prop)(g:ak)(s:St):Prop:=∃r,jZ X E S r g s
theorem eg.ghost(h:eR s s')(k:eg X E S g s'):eg X E S g s:=by obtain⟨r,k⟩:=k;exact⟨.node λ_=>r,.inr (.inl ⟨s',.inl h,k⟩)⟩
def eg.forget(hl:X.A2)(h:mF s s')(k:eg X E S g s'):eg X E S g s:=by obtain⟨r,k⟩:=k;exact⟨.node λ_=>r,.inr (.inl ⟨s',.inr ⟨hl,h⟩,k⟩)⟩
def eg.step(d:g.status=.running)(h:∀a,X.rely s a->∃g' s' es,aH P X.main g a.w=.go g' s'.w es/\(qF a s' es∨E a s' es)/\eg X E S g' s'):eg X E S g s:=by
 classical
 have hh:∀a,∃r:Rk,X.rely s a->∃g' s' es,aH P X.main g a.w=.go g' s'.w es/\(qF a s' es∨E a s' es)/\jZ X E S r g' s':=by
  intro a;by_cases b:X.rely s a
  .obtain⟨g',s',es,h1,h2,r,e⟩:=h a b;exact⟨r,λ_=>⟨g',s',es,h1,h2,e⟩⟩
  .exact⟨.leaf,λh=>absurd h b⟩
 exact⟨.node λa=>Classical.choose (hh a),.inr (.inr ⟨d,λa b=>Classical.choose_spec (hh a) b⟩)⟩
def eg.bind(h:eg X E S g s)(k:∀g s,S g s->eg X E c g s):eg X E c g s:=by
 obtain⟨r,h⟩:=h;induction r generalizing g s with
 |leaf=>exact k g s h
 |node f a =>
  rcases h with h|⟨s',h1,h2⟩|⟨b,h⟩
  .grind
  .rcases h1 with h1|⟨hl,h1⟩
   .exact .ghost h1 (a _ h2)
   .exact .forget hl h1 (a _ h2)
  .exact .step b λe d=>by grind
def fA.ZK(hj:∀g s T,¬X.vl g s T)(h:fA X S g s):eg X E S g s:=by
 induction h with
 |stop h=>exact⟨.leaf,h⟩
 |step ng ns ne hr h1 h2 _ a=>exact .step hr λd b=>⟨_,_,_,h1 d b,.inl (h2 d b),a d b⟩
 |ghost hg _ a=>exact .ghost hg a
 |forget hl hg _ a=>exact .forget hl hg a
 |vl hjj _ _=>grind
def jZ.norm(I:St->Prop)(l:∀s s',eR s s'->I s->I s')(m:X.A2->∀s s',mF s s'->I s->I s'):∀{r:Rk}{g:ak}{s:St},jZ X E S r g s->I s ->
  (∃s',I s'/\S g s')∨(g.status=.running/\∃s',I s'/\∀a,X.rely s' a->∃g' s2 es r',aH P X.main g a.w=.go g' s2.w es/\(qF a s2 es∨E a s2 es)/\jZ X E S r' g' s2/\Rk.lt r' r)
 |.leaf,_,s,h,hi=>.inl ⟨s,hi,h⟩
 |.node f,g,s,h,hi=>by
  rcases h with h|⟨s',h1,h2⟩|⟨q,h⟩
  .grind
  .have b:I s':=h1.elim (λx=>l s s' x hi) λx=>m x.1 s s' x.2 hi;rcases jZ.norm I l m h2 b with k|⟨k,s2,p,n⟩
   .grind
   .refine .inr ⟨k,s2,p,λa i=>?_⟩;obtain⟨g',d,es,r',k1,e,j,o⟩:=n a i;exact⟨g',d,es,r',k1,e,j,s,.inr o⟩
  .refine .inr ⟨q,s,hi,λa i=>?_⟩;obtain⟨g',d,es,k1,e,j⟩:=h a i;exact⟨g',d,es,f a,k1,e,j,a,.inl rfl⟩
def eg.goes{R:aA->aA->Prop}{D:aA->aA->Array Event->Prop}{Stop:ak->aA->Prop}(I:St->Prop)(m:∀s a,I s->X.rely s a->I a)(f:∀s a,I s->X.rely s a->R s.w a.w)(j:∀s es,I s->∀w',D s.w w' es->w'=s.w/\(qF s s es∨E s s es))(l:∀s,I s->X.rely s s)(k:∀g s,I s->Stop g s.w->eg X E S g s):
  ∀(n:Nat) (g:ak) (s:St),I s->Goes P X.main R D Stop n g s.w->eg X E S g s
 |0,g,s,hi,h=>k g s hi (h s.w (f s s hi (l s hi)))
 |n+1,g,s,hi,h=>by
  rcases h with h|⟨o,h⟩
  .grind
  .refine .step o λa i=>?_;have h1:=h a.w (f s a hi i);have d:=m s a hi i;cases b:aH P X.main g a.w with
   |go g' w' es =>
    rw[b,goes_go]at h1;obtain⟨q,p⟩:=h1;obtain⟨rfl,e⟩:=j a es d w' q;exact⟨g',a,es,rfl,e,eg.goes I m f j l k n g' a d p⟩
   |_=>rw[b]at h1;exact h1.elim
end
theorem bZ.ghost(h:bZ s {s with w:=w})(k:eR s s'):bZ s' {s' with w:=w}:=by
 refine⟨rfl,rfl,rfl,by rw[k.w];exact h.size,λb hb=>by rw[k.w];exact h.keep b (k.blk b hb),λb o v d=>?_,by rw[k.w];exact h.os,by rw[k.w];exact h.tape,by rw[k.w];exact h.output⟩;have f:=k.cell b o v d;by_cases hb:∃L∈s.β,b∈L.bs
 .have:=h.keep b (.inr hb);simp only[aR]at f⊢;grind
 .have:s.M b o=aa v:=by rw[<-k.iI b (λL e a=>hb ⟨L,e,a⟩)];exact d
  exact h.mem b o v this
def bZ.forget(h:bZ s {s with w:=w})(k:mF s s'):bZ s' {s' with w:=w} :=
 ⟨rfl,rfl,rfl,by rw[k.w];exact h.size,λb hb=>by rw[k.w];exact h.keep b (by rw[<-k.own,<-k.β];exact hb),λb o v a=>h.mem b o v (k.less b o v a),by rw[k.w];exact h.os,by rw[k.w];exact h.tape,by rw[k.w];exact h.output⟩
def bZ.vV(h:gn s):bZ s s:=⟨rfl,rfl,rfl,ba _,λ_ _=>rfl,h,rfl,rfl,rfl⟩
def bZ.trans'(h:bZ s {s with w:=w}):bZ {s with w:=w} {s with w:=w}:=bZ.vV h.mem
def bZ.trans{s a s2:St}(h:bZ s a)(k:bZ a s2):bZ s s2 :=
 ⟨k.β.trans h.β,k.M.trans h.M,k.own.trans h.own,fG h.size k.size,λb hb=>by rw[k.keep b (by rw[h.own,h.β];exact hb),h.keep b hb],λb o v d=>k.mem b o v (by rw[h.M];exact d),k.os.trans h.os,k.tape.trans h.tape,k.output.trans h.output⟩
end
section
open Go.Conc
open Go.ConcN (fork_knows RelBy)
open Go.ConcR (stA smA)
def lG:Go.Loc->Option Nat
 |.cell a=>aa a.block
 |.obj r=>aa r
 |_=>af
def Br{l:Go.Loc}(h:l.isMemory=ab):∃b,lG l=aa b:=by cases l<;>simp[Go.Loc.isMemory]at h<;>exact⟨_,rfl⟩
def GN{x:MemAct}{a:Touch}{B:Nat}(h:x.touch?=aa a)(g:x.low B)(c:lG a.loc=aa b):b<B:=by
 cases x with
 |access e =>
  simp[bl]at h;subst h;simp only at c;obtain⟨loc,wr,i⟩:=e;cases loc<;>simp[lG]at c<;>subst c<;>exact g
 |mark m =>
  cases m<;>simp[bl]at h<;>subst h<;>simp[lG]at c<;>subst c<;>exact g
 |_=>simp[bl]at h
structure Lay where
 Sh:Nat->Prop
 T0:Nat
 Wg:Nat
 C:Nat
 base:Nat
 kc:Nat
def rV(Y:Lay)(d:Nat->Nat)(a:Touch):Prop :=
 (∃ad,a.loc=.cell ad/\ad.block=Y.Wg/\a.kind≠.plain)∨(∃b,lG a.loc=aa b/\d b=0/\b≠Y.Wg/\b≠Y.C/\¬Y.Sh b/\a.kind=.plain)
def qt(Y:Lay)(d:Nat->Nat)(f:Mem)(x:Nat)(a:Touch):Prop :=
 (∃ad,a.loc=.cell ad/\ad.block=Y.Wg/\a.kind=.atomic) ∨
 (a.kind=.plain/\((∃b,lG a.loc=aa b/\d b=Y.base+x)∨(∃o,a.loc=.cell ⟨Y.C,o,af⟩/\Y.kc*x<=o/\o<Y.kc*x+Y.kc)∨(a.write=ae/\∃b o v,a.loc=.cell ⟨b,o,af⟩/\f b o=aa v)))
structure TL(Y:Lay)(d:Nat->Nat)(f:Nat->Mem)(t:Trace)(j B:Nat):Prop where
 base:1<=Y.base
 Ib:d Y.Wg=0
 hC:d Y.C=0
 ne:Y.C≠Y.Wg
 OH:¬Y.Sh Y.Wg
 P1:¬Y.Sh Y.C
 Ic:∀b,Y.Sh b->d b=0
 ms:∀x,x<j->∀b o v,f x b o=aa v->d b=0/\b≠Y.C/\b≠Y.Wg/\¬Y.Sh b
 T0:Y.T0<=t.size
 nr:∀said,¬Race said t
 seen:∀op∈t,op.act.low B
 old:∀i a,i<Y.T0->touchAt t i=aa a->a.loc.isMemory=ab->Knows t 0 i∨(ku Y.Sh a.loc/\a.kind=.atomic)
 P2:∀x,x<j->∀i a,i<Y.T0->touchAt t i=aa a->a.loc.isMemory=ab->Knows t (Y.base+x) i∨(ku Y.Sh a.loc/\a.kind=.atomic)
 GO:∀i a b,i<Y.T0->touchAt t i=aa a->lG a.loc=aa b->d b=0
 new:∀i a,Y.T0<=i->touchAt t i=aa a->a.loc.isMemory=ab->(t.g? i=aa 0/\rV Y d a)∨(∃x,x<j/\t.g? i=aa (Y.base+x)/\qt Y d (f x) x a)
 mw:∀x,x<j->∀i a,Y.T0<=i->touchAt t i=aa a->t.g? i=aa 0->a.write=ab->∀b o v,a.loc=.cell ⟨b,o,af⟩->f x b o=aa v->Knows t (Y.base+x) i
 over:∀i g,i<Y.T0->t.g? i=aa g->g≠0->t.counts i->∃k,t.g? k=aa 0/\HappensBefore t i k
section
variable {Y:Lay}{d hm':Nat->Nat}{f:Nat->Mem}{t u:Trace}{B B':Nat}
theorem uZ{a:Touch}{g:Nat}(h:touchAt t i=aa a)(b:t.g? i=aa g):Knows t g i:=by
 obtain⟨x,c,_⟩:=touch_of h;have:x.g=g:=by simpa[Trace.g?,c]using b
 grind[knows_own]
def TL.low(h:TL Y d f t j B){a:Touch}(e:touchAt t i=aa a)(hb:lG a.loc=aa b):b<B:=by obtain⟨x,g,c⟩:=touch_of e;exact GN c (h.seen x (pv g)) hb
def TL.sR(h:TL Y d f t j B)(hh:∀b,b<B->hm' b=d b)(q:B<=B')(s:Y.Wg<B)(hC:Y.C<B)(r:∀b,Y.Sh b->b<B)(p:∀x,x<j->∀b o v,f x b o=aa v->b<B):TL Y hm' f t j B':=by
 have e:∀i a,touchAt t i=aa a->rV Y d a->rV Y hm' a:=λi a c h1=>by
  rcases h1 with h1|⟨b,h1,h2,l⟩
  .exact .inl h1
  .exact .inr ⟨b,h1,by rw[hh b (h.low c h1)];exact h2,l⟩
 have g:∀x i a,touchAt t i=aa a->qt Y d (f x) x a->qt Y hm' (f x) x a:=λx i a c h1=>by
  rcases h1 with h1|⟨k,⟨b,h1,h2⟩|h1⟩
  .exact .inl h1
  .exact .inr ⟨k,.inl ⟨b,h1,by rw[hh b (h.low c h1)];exact h2⟩⟩
  .exact .inr ⟨k,.inr h1⟩
 refine⟨h.base,by rw[hh _ s];exact h.Ib,by rw[hh _ hC];exact h.hC,h.ne,h.OH,h.P1,λb hb=>by rw[hh b (r b hb)];exact h.Ic b hb,λx m b o v n=>by rw[hh b (p x m b o v n)];exact h.ms x m b o v n,
  h.T0,h.nr,λop iu=>MemAct.low_mono q (h.seen op iu),h.old,h.P2,λi a b hi c hb=>by rw[hh b (h.low c hb)];exact h.GO i a b hi c hb,λi a hi c d=>?_,h.mw,h.over⟩
 rcases h.new i a hi c d with⟨h1,h2⟩|⟨x,h1,h2,l⟩
 .grind
 grind
def TL.MJ(h:TL Y d f t j B):Y.T0<=(t++u).size:=fG h.T0 (by simp)
theorem kl(h:i<t.size):(t++u).g? i=t.g? i:=by simp[Trace.g?,getElem?_append_old h]
def TL.rW(h:TL Y d f t j B)(u:Trace):∀i g,i<Y.T0->(t++u).g? i=aa g->g≠0->(t++u).counts i->∃k,(t++u).g? k=aa 0/\HappensBefore (t++u) i k:=by
 intro i g hi hg Bi hc;have a:=cA hi h.T0;rw[kl a]at hg;obtain⟨k,c,hb⟩:=h.over i g hi hg Bi ((counts_old a).1 hc);have b:k<t.size:=by unfold Trace.g? at c;grind
 exact⟨k,by grind[kl],hb_app u hb⟩
def Bt{a:Nat->Prop}{l:Go.Loc}(h:ku a l)(c:lG l=aa b):a b:=by cases l<;>simp[lG]at c<;>subst c<;>exact h
def TL.apart(h:TL Y d f t j B){x:Nat}(r:x<j){a b:Touch}{said:Bool}(m:rV Y d b)(n:qt Y d (f x) x a)(hl:a.loc=b.loc)(y:a.kind=.plain∨b.kind=.plain∨(said=ab/\a.kind=.said/\b.kind=.said))(C:b.kind=.plain->b.write=ab->∀l o v,b.loc=.cell ⟨l,o,af⟩->f x l o≠aa v)(q:a.write=ab∨b.write=ab):False:=by
 have w:=h.base;rcases n with⟨ad,e1,e2,e3⟩|⟨G,⟨c,e1,e2⟩|⟨o,e1,_⟩|⟨e1,l,o,v,e2,e3⟩⟩
 .rcases m with⟨k,e,g,i⟩|⟨c,e,g,i,_⟩
  .grind
  .rw[<-hl,e1]at e;simp only[lG,dm]at e;grind
 .rcases m with⟨k,e,g,i⟩|⟨p,e,g,i,_⟩
  .rw[hl,e]at e1;simp only[lG,dm]at e1;rw[<-e1,g,h.Ib]at e2;omega
  grind
 .rcases m with⟨k,e,g,i⟩|⟨p,e,g,i,s,_⟩
  .rw[<-hl,e1]at e;cases e;exact h.ne g
  .rw[<-hl,e1]at e;simp only[lG,dm]at e;grind
 .obtain⟨E,A,D,F⟩:=h.ms x r l o v e3;rcases m with⟨k,e,g,i⟩|⟨p,e,g,i,s,_,z⟩
  .grind
  grind
def TL.app0(h:TL Y d f t j B)(F:∀op∈u,op.g=0)(hl:∀op∈u,op.act.low B)(D:∀op∈u,∀a,op.act.touch?=aa a->a.loc.isMemory=ab->rV Y d a)(K:∀op∈u,∀a,op.act.touch?=aa a->a.kind=.plain->a.write=ab->∀x,x<j->∀b o v,a.loc=.cell ⟨b,o,af⟩->f x b o≠aa v):TL Y d f (t++u) j B:=by
 have k:∀{i:Nat} {a:Touch},touchAt (t++u) i=aa a->(i<t.size/\touchAt t i=aa a)∨(t.size<=i/\(t++u).g? i=aa 0/\∃op∈u,op.act.touch?=aa a):=by
  intro i a e;obtain⟨x,p,z⟩:=touch_of e;rcases getElem?_append_cases p with⟨hi,M⟩|⟨hi,r⟩
  .grind [touchAt_of]
  .exact .inr ⟨hi,by simp[Trace.g?,p,F x r],x,r,z⟩
 refine⟨h.base,h.Ib,h.hC,h.ne,h.OH,h.P1,h.Ic,h.ms,h.MJ,λsaid=>?_,seen_app h.seen hl,λi a hi e d=>?_,λx p i a hi e d=>?_,λi a b hi e hb=>?_,λi a hi e d=>?_,λx p i a hi e w A b o v m E=>?_,h.rW u⟩
 .refine noRace_append (h.nr said) F λi a e op iu b hb hc=>?_;have C:b.loc.isMemory=ab:=by rw[<-hc.1];exact hc.2.1
  have G:=D op iu b hb C;rcases cM i Y.T0 with hi|hi
  .rcases h.old i a hi e hc.2.1 with H|⟨J,N⟩
   .exact H
   .exfalso;obtain⟨c,n⟩:=Br hc.2.1;have s:=Bt J n;rcases G with⟨ad,e1,e2,e3⟩|⟨L,e1,e2,e3,O,P,I⟩
    .rw[hc.1,e1]at n;simp only[lG,dm]at n;rw[<-n,e2]at s;exact h.OH s
    .rw[hc.1,e1]at n;grind
  .rcases h.new i a hi e hc.2.1 with⟨w,_⟩|⟨x,p,w,y⟩
   .grind [uZ]
   .exact(h.apart p G y hc.1 hc.2.2.2 (λh1 h2=>K op iu b hb h1 h2 x p) hc.2.2.1).elim
 .have l:touchAt t i=aa a:=by rw[<-touchAt_old (u:=u) (cA hi h.T0)];exact e
  exact(h.old i a hi l d).imp (·.app u) id
 .have l:touchAt t i=aa a:=by rw[<-touchAt_old (u:=u) (cA hi h.T0)];exact e
  exact(h.P2 x p i a hi l d).imp (·.app u) id
 .have l:touchAt t i=aa a:=by rw[<-touchAt_old (u:=u) (cA hi h.T0)];exact e
  exact h.GO i a b hi l hb
 .rcases k e with⟨h1,h2⟩|⟨_,h2,op,iu,q⟩
  .rw[kl h1];exact h.new i a hi h2 d
  grind
 .rcases k e with⟨h1,h2⟩|⟨_,h2,op,iu,q⟩
  .rw[kl h1]at w;exact(h.mw x p i a hi h2 w A b o v m E).app u
  .exfalso;rcases D op iu a q (by rw[m];rfl)with⟨ad,e1,e2,e3⟩|⟨L,_,_,_,_,_,I⟩
   .rw[m]at e1;cases e1;exact(h.ms x p b o v E).2.2.1 e2
   grind
def TL.appW(h:TL Y d f t j B){x:Nat}(A:x<j)(W:∀op∈u,op.g=Y.base+x)(hl:∀op∈u,op.act.low B)(ht:∀op∈u,∀a,op.act.touch?=aa a->a.loc.isMemory=ab->qt Y d (f x) x a):TL Y d f (t++u) j B:=by
 have XO:=h.base;have r:∀{i:Nat} {a:Touch},touchAt (t++u) i=aa a->(i<t.size/\touchAt t i=aa a)∨(t.size<=i/\(t++u).g? i=aa (Y.base+x)/\∃op∈u,op.act.touch?=aa a):=by
  intro i a q;obtain⟨y,z,S⟩:=touch_of q;rcases getElem?_append_cases z with⟨hi,hy'⟩|⟨hi,E⟩
  .grind [touchAt_of]
  .exact .inr ⟨hi,by simp[Trace.g?,z,W y E],y,E,S⟩
 refine⟨h.base,h.Ib,h.hC,h.ne,h.OH,h.P1,h.Ic,h.ms,h.MJ,λsaid=>?_,seen_app h.seen hl,λi a hi q d=>?_,λy z i a hi q d=>?_,λi a b hi q hb=>?_,λi a hi q d=>?_,λy z i a hi q I F b o v H Q=>?_,h.rW u⟩
 .refine noRace_append (h.nr said) W λi a q op iu b hb hc=>?_;have U:b.loc.isMemory=ab:=by rw[<-hc.1];exact hc.2.1
  have D:=ht op iu b hb U;obtain⟨c,l⟩:=Br hc.2.1;rcases cM i Y.T0 with hi|hi
  .rcases h.P2 x A i a hi q hc.2.1 with L|⟨Z,hka⟩
   .exact L
   .exfalso;have n:=Bt Z l;rw[hc.1]at l;rcases D with⟨ad,e1,e2,e3⟩|⟨e0,⟨c',e1,e2⟩|⟨o,e1,_⟩|⟨e1,p,o,v,e2,e3⟩⟩
    .rw[e1]at l;simp only[lG,dm]at l;rw[<-l,e2]at n;exact h.OH n
    .rw[e1]at l;simp only[dm]at l;rw[<-l]at n;rw[h.Ic _ n]at e2;omega
    .rw[e1]at l;simp only[lG,dm]at l;rw[<-l]at n;exact h.P1 n
    .rw[e2]at l;simp only[lG,dm]at l;rw[<-l]at n;exact(h.ms x A p o v e3).2.2.2 n
  .rcases h.new i a hi q hc.2.1 with⟨I,P⟩|⟨y,z,I,J⟩
   ·
    by_cases G:a.write=ab/\∃p o v,a.loc=.cell ⟨p,o,af⟩/\f x p o=aa v
    .obtain⟨h1,p,o,v,h2,V⟩:=G;exact h.mw x A i a hi q I h1 p o v h2 V
    .exfalso;refine h.apart (said:=said) A P D hc.1.symm ?_ (λ_ M p o v k Q=>G ⟨M,p,o,v,k,Q⟩) hc.2.2.1.symm;rcases hc.2.2.2 with L|L|⟨h1,h2,V⟩
     .grind
     .grind
     grind
   .by_cases T:y=x
    .grind [uZ]
    .exfalso;obtain⟨k,_,F,N⟩:=hc;rcases J with⟨ad,e1,e2,e3⟩|⟨e0,⟨c1,e1,e2⟩|⟨o,e1,e1l,e1u⟩|⟨e1,p,o,v,e2,e3⟩⟩
     .rcases D with⟨C,e,m,w⟩|⟨f0,⟨c2,e,m⟩|⟨o,e,_⟩|⟨e,p,o,v,m,w⟩⟩
      .grind
      .rw[<-k,e1]at e;simp only[lG,dm]at e;rw[<-e,e2,h.Ib]at m;omega
      .rw[<-k,e1]at e;cases e;exact h.ne e2
      .rw[<-k,e1]at m;cases m;exact(h.ms x A p o v w).2.2.1 e2
     .rcases D with⟨C,e,m,w⟩|⟨f0,⟨c2,e,m⟩|⟨o,e,_⟩|⟨e,p,o,v,m,w⟩⟩
      .rw[k,e]at e1;simp only[lG,dm]at e1;rw[<-e1,m,h.Ib]at e2;omega
      .grind
      .rw[k,e]at e1;simp only[lG,dm]at e1;rw[<-e1,h.hC]at e2;omega
      .rw[k,m]at e1;simp only[lG,dm]at e1;rw[<-e1,(h.ms x A p o v w).1]at e2;omega
     .rcases D with⟨C,e,m,w⟩|⟨f0,⟨c2,e,m⟩|⟨R,e,K,O⟩|⟨e,p,R,v,m,w⟩⟩
      .rw[<-k,e1]at e;cases e;exact h.ne m
      .rw[<-k,e1]at e;simp only[lG,dm]at e;rw[<-e,h.hC]at m;omega
      .rw[<-k,e1]at e;cases e;rcases Nat.lt_or_gt_of_ne T with h1|h1
       .have:=uK Y.kc (show y+1<=x from h1);grind
       .have:=uK Y.kc (show x+1<=y from h1);grind
      .rw[<-k,e1]at m;cases m;exact(h.ms x A _ _ v w).2.1 rfl
     .rcases D with⟨C,e,m,w⟩|⟨f0,⟨c2,e,m⟩|⟨R,e,K,O⟩|⟨e,b2,R,v',m,w⟩⟩
      .rw[<-k,e2]at e;cases e;exact(h.ms y z p o v e3).2.2.1 m
      .rw[<-k,e2]at e;simp only[lG,dm]at e;rw[<-e,(h.ms y z p o v e3).1]at m;omega
      .rw[<-k,e2]at e;cases e;exact(h.ms y z _ _ v e3).2.1 rfl
      grind
 .have s:touchAt t i=aa a:=by rw[<-touchAt_old (u:=u) (cA hi h.T0)];exact q
  exact(h.old i a hi s d).imp (·.app u) id
 .have s:touchAt t i=aa a:=by rw[<-touchAt_old (u:=u) (cA hi h.T0)];exact q
  exact(h.P2 y z i a hi s d).imp (·.app u) id
 .have s:touchAt t i=aa a:=by rw[<-touchAt_old (u:=u) (cA hi h.T0)];exact q
  exact h.GO i a b hi s hb
 .rcases r q with⟨h1,h2⟩|⟨_,h2,op,iu,X⟩
  .rw[kl h1];exact h.new i a hi h2 d
  grind
 .rcases r q with⟨h1,h2⟩|⟨_,h2,_⟩
  .rw[kl h1]at I;exact(h.mw y z i a hi h2 I F b o v H Q).app u
  grind
def TL.mute(h:TL Y d f t j B){g:Nat}(n:∀op∈u,op.g=g)(hl:∀op∈u,op.act.low B)(s:∀op∈u,op.act.touch?=af):TL Y d f (t++u) j B:=by
 have old:∀{i:Nat} {a:Touch},touchAt (t++u) i=aa a->i<t.size/\touchAt t i=aa a:=by intro i a c;obtain⟨y,r,p⟩:=touch_of c;grind[touchAt_of]
 refine⟨h.base,h.Ib,h.hC,h.ne,h.OH,h.P1,h.Ic,h.ms,h.MJ,λsaid=>noRace_append (h.nr said) n λi a _ op iu b hb _=>(by grind),seen_app h.seen hl,λi a hi c d=>(h.old i a hi (old c).2 d).imp (·.app u) id,
  λx l i a hi c d=>(h.P2 x l i a hi (old c).2 d).imp (·.app u) id,λi a b hi c hb=>h.GO i a b hi (old c).2 hb,λi a hi c d=>?_,λx l i a hi c m k b o v e q=>?_,h.rW u⟩
 .rw[kl (old c).1];exact h.new i a hi (old c).2 d
 .rw[kl (old c).1]at m;exact(h.mw x l i a hi (old c).2 m k b o v e q).app u
def TL.fork(h:TL Y d f t j B){x y:MemOp}(n:x.g=0/\x.act=.go (Y.base+j))(m:y.g=Y.base+j/\y.act=.start)(A:Deaf t 0=0)(D:Deaf t (Y.base+j)=0)(G:∀b o v,f j b o=aa v->d b=0/\b≠Y.C/\b≠Y.Wg/\¬Y.Sh b):TL Y d f (t++#[x,y]) (j+1) B:=by
 have E:∀op∈#[x,y],op.act.touch?=af:=by
  intro op iu;simp only[List.mem_toArray,eY,pz,or_false]at iu;rcases iu with rfl|rfl
  .rw[n.2];rfl
  .rw[m.2];rfl
 have l:∀op∈#[x,y],op.act.low B:=by
  intro op iu;simp only[List.mem_toArray,eY,pz,or_false]at iu;rcases iu with rfl|rfl
  .rw[n.2];trivial
  .rw[m.2];trivial
 have old:∀{i:Nat} {a:Touch},touchAt (t++#[x,y]) i=aa a->i<t.size/\touchAt t i=aa a:=by intro i a c;obtain⟨z,w,F⟩:=touch_of c;grind[touchAt_of]
 have r:∀z,z<j+1->∀b o v,f z b o=aa v->d b=0/\b≠Y.C/\b≠Y.Wg/\¬Y.Sh b:=λz w b o v s=>by
  rcases cM z j with h1|h1
  .exact h.ms z h1 b o v s
  grind
 refine⟨h.base,h.Ib,h.hC,h.ne,h.OH,h.P1,h.Ic,r,h.MJ,λsaid=>?_,seen_app h.seen l,λi a hi c d=>(h.old i a hi (old c).2 d).imp (·.app _) id,
  λz w i a hi c d=>?_,λi a b hi c hb=>h.GO i a b hi (old c).2 hb,λi a hi c d=>?_,λz w i a hi c q p b o v k s=>?_,h.rW _⟩
 .have e:t++#[x,y]=(t++#[x])++#[y]:=by grind
  rw[e];refine noRace_append (g:=Y.base+j) (noRace_append (g:=0) (h.nr said) (λop iu=>by grind) (λi a _ op iu b hb _=>?_)) (λop iu=>by grind) (λi a _ op iu b hb _=>?_)
  .grind
  grind
 .rcases cM z j with h1|h1
  .exact(h.P2 z h1 i a hi (old c).2 d).imp (·.app _) id
  .obtain rfl:z=j:=by omega
   exact(h.old i a hi (old c).2 d).imp (fork_knows n m A D) id
 .rw[kl (old c).1];rcases h.new i a hi (old c).2 d with h1|⟨z,h1,h2⟩
  .grind
  grind
 .rw[kl (old c).1]at q;rcases cM z j with h1|h1
  .exact(h.mw z h1 i a hi (old c).2 q p b o v k s).app _
  .obtain rfl:z=j:=by omega
   exact fork_knows n m A D (uZ (old c).2 q)
def TL.Px(h:TL Y d f t j B)(J:Deaf t 0=0)(N:NoRelease (stA Y.Wg) t){q:Nat}(O:t.act? q=aa (.mark (.acquire (stA Y.Wg))))(w:t.g? q=aa 0)(F:t.heard q)(I:∀x,x<j->∃r,RelBy (stA Y.Wg) t (Y.base+x) r/\r<q):Past (ku λb=>Y.Sh b∨b=Y.Wg) B t:=by
 have m:∀x,x<j->∀i,t.g? i=aa (Y.base+x)->t.counts i->HappensBefore t i q:=by
  intro x y i p s;obtain⟨r,c,D⟩:=I x y;have e:HappensBefore t r q:=.single (.inr ⟨.marked D (.inr c.act) O (λk _ _=>N k),c.heard,F⟩);have M:i<=r:=Nat.le_of_not_lt λn=>c.after i n p s;rcases cM i r with n|K
  .exact .trans (.single (.inl ⟨n,_,p,c.g⟩)) e
  grind
 have o:∀{l:Go.Loc},ku Y.Sh l->ku (λb=>Y.Sh b∨b=Y.Wg) l:=λ{l} hl=>by cases l<;>first|exact .inl hl|exact hl
 refine⟨h.nr,λi a v d=>?_,λi g p C s=>?_,J,h.seen⟩
 .rcases cM i Y.T0 with hi|hi
  .exact(h.old i a hi v d).imp id λ⟨h1,h2⟩=>⟨o h1,h2⟩
  .rcases h.new i a hi v d with⟨h1,_⟩|⟨x,y,p,G⟩
   .grind [uZ]
   .rcases G with⟨ad,e1,e2,e3⟩|⟨P,_⟩
    .exact .inr ⟨by rw[e1];exact .inr e2,e3⟩
    .left;have s:t.counts i:=⟨a,v,d,.inl (by grind)⟩
     obtain⟨z,L,E⟩:=sF.1 w;exact⟨q,z,L,E,.inr (m x y i p s)⟩
 .rcases cM i Y.T0 with hi|hi
  .exact h.over i g hi p C s
  .obtain⟨a,v,d,H⟩:=s;rcases h.new i a hi v d with⟨h1,_⟩|⟨x,y,A,G⟩
   .grind
   .exact⟨q,w,m x y i A ⟨a,v,d,H⟩⟩
def TL.start{Y:Lay}{t:Trace}{B:Nat}{f:Nat->Mem}(e:Past (ku Y.Sh) B t)(n:Y.T0=t.size)(hb:1<=Y.base)(b:Y.C≠Y.Wg)(k:¬Y.Sh Y.Wg)(j:¬Y.Sh Y.C):TL Y (λ_=>0) f t 0 B :=
 ⟨hb,rfl,rfl,b,k,j,λ_ _=>rfl,λx c=>absurd c (iY x),by omega,e.clean,e.seen,λi a _ h d=>e.known i a h d,λx c=>absurd c (iY x),λ_ _ _ _ _ _=>rfl,
  λi a hi h _=>by
   obtain⟨x,c,_⟩:=touch_of h
   grind,λx c=>absurd c (iY x),λi g _ l b m=>e.over i g l b m⟩
end
end
section
open Go.Conc
open Go.ConcN (WD CTag Mode Vc Ssum pend phi cnt WgLive PayAt Has RW DWs WSit RelBy sumTo upd upd_same upd_ne AtR0 get_map_set get_map_set_same norel_of Deaf_still)
open Go.ConcR (KK WgAt stA smA rd wr mk Payload g_of_ofEvents)
def Cx.work(P:aK):Cx P:={main:=ae,rely:=bZ,vl:=λ_ _ _=>False,hZ:=id,A2:=True}
def Cx.lead(P:aK)(ty:av)(Wg:Nat):Cx P:={main:=ab,rely:=λs s'=>bZ s s'/\(WgLive ty Wg s.w->WgLive ty Wg s'.w),vl:=λ_ _ _=>False,hZ:=λh=>h.1,A2:=False}
instance (P:aK):(Cx.work P).jw:=⟨aq⟩
def E0:St->St->Array Event->Prop:=λ_ _ _=>False
def Es(Wg:Nat):St->St->Array Event->Prop:=λs s' es=>s'=s/\∃a:Addr,a.block=Wg/\(es=#[mk (.read a)]∨es=#[mk (.write a)])
def OI:Nat->Go.Loc->Prop:=λ_ _=>False
variable [Payload]
structure SM(C N lo k:Nat)(vs:Nat->aj)(w w':aA):Prop where
 tape:w'.tape=w.tape
 os:w'.os=w.os
 output:w'.output=w.output
 size:w'.heap.size=w.heap.size
 block:∀b,b≠C->w'.heap[b]?=w.heap[b]?
 pay:PayAt C N w'
 out:∀o,(o<lo∨lo+k<=o)->w'.cell? ⟨C,o,af⟩=w.cell? ⟨C,o,af⟩
 new:∀i,i<k->w'.cell? ⟨C,lo+i,af⟩=aa (vs i)
section
variable (P:aK)(ty:av)(Y:Lay)(N:Nat)(val:Nat->Nat->aj)
def I3(x:Nat)(g:ak)(s:St):Prop :=
 g.status=.running/\∀w1,bZ s {s with w:=w1}->PayAt Y.C N w1->WgLive ty Y.Wg w1 ->
  ∃g' w2 es,aH P ae g w1=.go g' w2 es/\SM Y.C N (Y.kc*x) Y.kc (val x) w1 w2/\(∀e∈es,∃o,e=⟨.cell ⟨Y.C,o,af⟩,ab,ae⟩/\Y.kc*x<=o/\o<Y.kc*x+Y.kc) /\
   ∃m,Goes P ae (RW ty Y.Wg Y.C N 0 (Y.kc*x)) Go.ConcR.DC0 (AtR0 P ty Y.Wg Y.C N 0 (Y.kc*x+1) (val x 0)) m g' w2
end
structure lH(f:Nat->Nat)(r:Mem)(g:Nat)(s:St):Prop where
 blk:∀b,(s.own b∨∃L∈s.β,b∈L.bs)->f b=g/\b<s.w.heap.size
 M:∀b o v,s.M b o=aa v->(f b=g∨r b o=aa v)/\b<s.w.heap.size
structure jB(Y:Lay)(f:Nat->Nat)(A:Nat->Mem)(j:Nat)(s:St):Prop where
 blk:∀b,(s.own b∨∃L∈s.β,b∈L.bs)->f b=0/\b≠Y.C/\b≠Y.Wg/\¬Y.Sh b/\b<s.w.heap.size
 M:∀b o v,s.M b o=aa v->f b=0/\b≠Y.C/\b≠Y.Wg/\¬Y.Sh b/\b<s.w.heap.size
 ms:∀x,x<j->∀b o v,A x b o=aa v->s.M b o=aa v
structure GP(Y:Lay)(f:Nat->Nat)(r:Mem)(y:Nat)(w w':aA):Prop where
 size:w.heap.size<=w'.heap.size
 blk:∀b,b<w.heap.size->f b=Y.base+y->w'.heap[b]?=w.heap[b]?
 cell:∀b o v,r b o=aa v->w.cell? ⟨b,o,af⟩=aa v->w'.cell? ⟨b,o,af⟩=aa v
 pay:∀o,Y.kc*y<=o->o<Y.kc*y+Y.kc->w'.cell? ⟨Y.C,o,af⟩=w.cell? ⟨Y.C,o,af⟩
 os:w'.os=w.os
 tape:w'.tape=w.tape
 output:w'.output=w.output
omit [Payload]in
def GP.refl(Y:Lay)(f:Nat->Nat)(r:Mem)(y:Nat)(w:aA):GP Y f r y w w:=⟨ba _,λ_ _ _=>rfl,λ_ _ _ _ h=>h,λ_ _ _=>rfl,rfl,rfl,rfl⟩
omit [Payload]in
def GP.at(Y:Lay)(f:Nat->Nat)(r:Mem)(y:Nat)(w:aA)(d:Nat):GP Y f r y w (w.at d):=⟨ba _,λ_ _ _=>rfl,λ_ _ _ _ h=>h,λ_ _ _=>rfl,rfl,rfl,rfl⟩
structure DM(Y:Lay)(f:Nat->Nat)(w w':aA):Prop where
 size:w.heap.size<=w'.heap.size
 blk:∀b,b<w.heap.size->f b=0->b≠Y.C->b≠Y.Wg->w'.heap[b]?=w.heap[b]?
 os:w'.os=w.os
 tape:w'.tape=w.tape
 output:w'.output=w.output
omit [Payload]in
def jC(h:w'.heap[b]?=w.heap[b]?)(o:Nat):w'.cell? ⟨b,o,af⟩=w.cell? ⟨b,o,af⟩:=by simp[aR,h]
omit [Payload]in
def bZ.more(h:bZ s {s with w:=w})(z:w.heap.size<=w'.heap.size)(c:∀b,(s.own b∨∃L∈s.β,b∈L.bs)->w'.heap[b]?=w.heap[b]?)(X:∀b o v,s.M b o=aa v->w.cell? ⟨b,o,af⟩=aa v->w'.cell? ⟨b,o,af⟩=aa v)(l:w'.os=w.os)(p:w'.tape=w.tape)(u:w'.output=w.output):bZ s {s with w:=w'} :=
 ⟨rfl,rfl,rfl,fG h.size z,λb J=>by show w'.heap[b]?=_;rw[c b J];exact h.keep b J,λb o v q=>X b o v q (h.mem b o v q),l.trans h.os,p.trans h.tape,u.trans h.output⟩
section
variable {Y:Lay}{f hm':Nat->Nat}{A:Nat->Mem}{y:Nat}
omit [Payload]in
def lH.I4(n:lH f (A y) (Y.base+y) s)(h:bZ s {s with w:=w})(k:GP Y f (A y) y w w'):bZ s {s with w:=w'}:=by
 have z:=h.size;refine h.more k.size (λb c=>?_) (λb o v q K=>?_) k.os k.tape k.output
 .obtain⟨l,p⟩:=n.blk b c;exact k.blk b (cA p z) l
 .obtain⟨l,p⟩:=n.M b o v q;rcases l with l|l
  .rw[jC (k.blk b (cA p z) l) o];exact K
  .exact k.cell b o v l K
omit [Payload]in
def lH.sR{r:Mem}{g:Nat}(n:lH f r g s)(h:s.w.heap.size<=w.heap.size)(W:∀b,b<w.heap.size->hm' b=f b):lH hm' r g s :=
 ⟨λb c=>let ⟨l,p⟩:=n.blk b c;⟨by grind,p⟩,λb o v q=>let ⟨l,p⟩:=n.M b o v q;⟨by grind,p⟩⟩
omit [Payload]in
def jB.I4(n:jB Y f A j s)(h:bZ s {s with w:=w})(k:DM Y f w w'):bZ s {s with w:=w'}:=by
 have z:=h.size;refine h.more k.size (λb c=>?_) (λb o v q K=>?_) k.os k.tape k.output
 .obtain⟨l,p,u,F,E⟩:=n.blk b c;exact k.blk b (cA E z) l p u
 .obtain⟨l,p,u,F,E⟩:=n.M b o v q;rw[jC (k.blk b (cA E z) l p u) o];exact K
omit [Payload]in
def jB.sR(n:jB Y f A j s)(h:s.w.heap.size<=w.heap.size)(W:∀b,b<w.heap.size->hm' b=f b):jB Y hm' A j s :=
 ⟨λb c=>let ⟨l,p,u,F,E⟩:=n.blk b c;⟨by grind,p,u,F,E⟩,
  λb o v q=>let ⟨l,p,u,F,E⟩:=n.M b o v q;⟨by grind,p,u,F,E⟩,n.ms⟩
omit [Payload]in
def lH.rely{r:Mem}{g:Nat}(n:lH f r g s)(h:s.w.heap.size<=w.heap.size):lH f r g {s with w:=w} :=
 ⟨λb c=>let ⟨l,p⟩:=n.blk b c;⟨l,cA p h⟩,λb o v q=>let ⟨l,p⟩:=n.M b o v q;⟨l,cA p h⟩⟩
omit [Payload]in
def jB.rely(n:jB Y f A j s)(h:s.w.heap.size<=w.heap.size):jB Y f A j {s with w:=w} :=
 ⟨λb c=>let ⟨l,p,u,F,E⟩:=n.blk b c;⟨l,p,u,F,cA E h⟩,λb o v q=>let ⟨l,p,u,F,E⟩:=n.M b o v q;⟨l,p,u,F,cA E h⟩,n.ms⟩
omit [Payload]in
theorem lH.ghost{r:Mem}{g:Nat}(n:lH f r g s)(k:eR s s'):lH f r g s':=by
 refine⟨λb c=>by rw[k.w];exact n.blk b (k.blk b c),λb o v q=>?_⟩;rw[k.w];by_cases c:∃L∈s.β,b∈L.bs
 .obtain⟨l,p⟩:=n.blk b (.inr c);grind
 .exact n.M b o v (by rw[<-k.iI b (λL D t=>c ⟨L,D,t⟩)];exact q)
omit [Payload]in
def lH.forget{r:Mem}{g:Nat}(n:lH f r g s)(k:mF s s'):lH f r g s' :=
 ⟨λb c=>by rw[k.w];exact n.blk b (by rw[<-k.own,<-k.β];exact c),λb o v q=>by rw[k.w];exact n.M b o v (k.less b o v q)⟩
omit [Payload]in
theorem jB.ghost(n:jB Y f A j s)(k:eR s s'):jB Y f A j s':=by
 refine⟨λb c=>by rw[k.w];exact n.blk b (k.blk b c),λb o v q=>?_,λx R b o v q=>k.mem _ _ _ (n.ms x R b o v q)⟩;rw[k.w];by_cases c:∃L∈s.β,b∈L.bs
 .exact n.blk b (.inr c)
 .exact n.M b o v (by rw[<-k.iI b (λL D t=>c ⟨L,D,t⟩)];exact q)
def m0(f:Nat->Nat)(B g:Nat):Nat->Nat:=λb=>if b<B then f b else g
omit [Payload]in
theorem eT{f:Nat->Nat}{B g:Nat}(h:b<B):m0 f B g b=f b:=by simp[m0,h]
omit [Payload]in
theorem sS{f:Nat->Nat}{B g:Nat}(h:B<=b):m0 f B g b=g:=by simp[m0,l9.2 h]
omit [Payload]in
def lH.step{r:Mem}{g:Nat}(n:lH f r g s)(G:aF σ' s')(st:Step σ s σ' s'):lH (m0 f s.w.heap.size g) r g s':=by
 refine⟨λb c=>?_,λb o v q=>?_⟩
 .rcases c with c|⟨L,D,c⟩
  .rw[st.own]at c;obtain⟨l,p⟩:=n.blk b (.inl c);exact⟨by grind[eT],cA p st.size⟩
  .have H:=G.lt L D b c;rcases st.uP L D b c with l|⟨Q,I,l⟩
   .grind [sS]
   .obtain⟨k1,O⟩:=n.blk b (.inr ⟨Q,I,l⟩);grind[eT]
 .have H:=gn.lt G.mem q;rcases cM b s.w.heap.size with l|l
  .rw[eT l];by_cases c:∃L∈s.β,b∈L.bs
   .exact⟨.inl (n.blk b (.inr c)).1,H⟩
   .rw[st.iI b l (λL D t=>c ⟨L,D,t⟩)]at q;exact⟨(n.M b o v q).1,H⟩
  grind[sS]
omit [Payload]in
def jB.step(n:jB Y f A j s)(G:aF σ' s')(st:Step σ s σ' s')(Z:Y.Wg<s.w.heap.size)(hC:Y.C<s.w.heap.size)(hS:∀b,Y.Sh b->b<s.w.heap.size):jB Y (m0 f s.w.heap.size 0) A j s':=by
 have T:∀b,s.w.heap.size<=b->b<s'.w.heap.size->m0 f s.w.heap.size 0 b=0/\b≠Y.C/\b≠Y.Wg/\¬Y.Sh b/\b<s'.w.heap.size:=λb l p =>
  ⟨sS l,by omega,by omega,λh=>by grind,p⟩
 refine⟨λb c=>?_,λb o v q=>?_,λx R b o v q=>st.mem _ _ _ (n.ms x R b o v q)⟩
 .rcases c with c|⟨L,D,c⟩
  .rw[st.own]at c;obtain⟨l,p,u,F,E⟩:=n.blk b (.inl c);exact⟨by grind[eT],p,u,F,cA E st.size⟩
  .have H:=G.lt L D b c;rcases st.uP L D b c with l|⟨Q,I,l⟩
   .grind
   .obtain⟨k1,O,U,S,V⟩:=n.blk b (.inr ⟨Q,I,l⟩);grind[eT]
 .have H:=gn.lt G.mem q;rcases cM b s.w.heap.size with l|l
  .by_cases c:∃L∈s.β,b∈L.bs
   .obtain⟨k1,O,U,S,V⟩:=n.blk b (.inr c);grind[eT]
   .rw[st.iI b l (λL D t=>c ⟨L,D,t⟩)]at q;obtain⟨k1,O,U,S,V⟩:=n.M b o v q;grind[eT]
  grind
end
end
section
open Go.Conc
open Go.ConcN (WD CTag Mode Vc Ssum pend phi cnt WgLive PayAt Has RW DWs WSit RelBy sumTo upd upd_same upd_ne AtR0 get_map_set get_map_set_same norel_of Deaf_still)
open Go.ConcR (KK WgAt stA smA rd wr mk Payload g_of_ofEvents)
variable [Payload]
section
variable (P:aK)(ty:av)(Y:Lay)(N:Nat)(val:Nat->Nat->aj)(l:Nat->Nat)(c:Nat->Mem)
inductive WS (x:Nat):Nat->Nat->Rk->Nat->ak->aA->Prop
 |am {r:Rk} {g:ak} {s:St} {w:aA}:jZ (Cx.work P) E0 (I3 P ty Y N val x) r g s->bZ s {s with w:=w}->lH l (c x) (Y.base+x) s->WS x 1 7 r 0 g w
 |rel {m:Nat} {g:ak} {w:aA}:Goes P ae (RW ty Y.Wg Y.C N 0 (Y.kc*x)) Go.ConcR.DC0 (AtR0 P ty Y.Wg Y.C N 0 (Y.kc*x+1) (val x 0)) m g w->WS x 0 7 (Rk.nat m) 0 g w
 |tail {st m d:Nat} {g:ak} {w:aA}:st<=6->WSit P ty Y.Wg Y.C N OI OI 0 (Y.kc*x+1) (val x 0) st m d g w->WS x 0 st (Rk.nat m) d g w
structure Com(j:Nat)(gs:Array ak)(w:aA)(t:Trace)(D:Nat->WD)(A:Nat->Nat)(K:Nat->Rk)(n:Nat):Prop where
 size:gs.size=Y.base+j
 lv:∀i g,0<i->i<Y.base->gs[i]?=aa g->∃m,K i=Rk.nat m/\QuitsD P m (Deaf t i) g
 above:∀i,Y.base+j<=i->Deaf t i=0
 wk:∀x,x<j->∃g,gs[Y.base+x]?=aa g/\WS P ty Y N val l c x (A x) (D x).stage (K (Y.base+x)) (D x).deaf g w
 tl:TL Y l c t j w.heap.size
 norel:mO t
 deaf0:Deaf t 0=n
 deafW:∀x,x<j->Deaf t (Y.base+x)=(D x).deaf
 rel:∀x,x<j->(D x).stage<=6->∃r,RelBy (stA Y.Wg) t (Y.base+x) r
 xL:∀x,x<j->A x=0->∀i,1<=i->i<Y.kc->w.cell? ⟨Y.C,Y.kc*x+i,af⟩=aa (val x i)
 Bu:∀x,x<j->(D x).stage<=6->Has Y.C (Y.kc*x) (val x 0) w
 pay:PayAt Y.C N w
 live:WgLive ty Y.Wg w
 A0:Y.Wg<w.heap.size
 Di:Y.C<w.heap.size
 LW:∀b,Y.Sh b->b<w.heap.size
 kc:0<Y.kc
 MK:∀y,y<j->∀b o v,c y b o=aa v->b<w.heap.size
end
section
variable {P:aK}{ty:av}{Y:Lay}{N:Nat}{val:Nat->Nat->aj}{l hm':Nat->Nat}{c:Nat->Mem}{x:Nat}{t:Trace}{D:Nat->WD}{A:Nat->Nat}{K:Nat->Rk}{n:Nat}
def RW.I4(k:GP Y l (c x) x w w')(hl:WgLive ty Y.Wg w')(a:PayAt Y.C N w')(d:0<Y.kc):RW ty Y.Wg Y.C N 0 (Y.kc*x+1-1) w w' :=
 ⟨λb hb=>absurd hb (iY b),λ_=>hl,λ_=>a,k.pay _ (ba _) (by grind)⟩
def WS.I4{a st d:Nat}{r:Rk}{g:ak}(h:WS P ty Y N val l c x a st r d g w)(k:GP Y l (c x) x w w')(hl:WgLive ty Y.Wg w')(i:PayAt Y.C N w')(e:0<Y.kc)(hh:∀b,b<w.heap.size->hm' b=l b):
  WS P ty Y N val hm' c x a st r d g w':=by
 cases h with
 |am h1 h2 h3=>exact .am h1 (h3.I4 h2 k) (h3.sR h2.size hh)
 |rel h1=>exact .rel (Goes.rely (λ_ _ _ h1 h2=>h1.trans h2) h1 (RW.I4 k hl i e))
 |tail h0 h1=>exact .tail h0 (h1.rely (RW.I4 k hl i e))
omit [Payload]in
def jZ.run{X:Cx P}{E:St->St->Array Event->Prop}{S:ak->St->Prop}(p:∀g s,S g s->g.status=.running):∀{r:Rk}{g:ak}{s:St},jZ X E S r g s->g.status=.running
 |.leaf,_,_,h=>p _ _ h
 |.node f,g,s,h=>by
  rcases h with h|⟨s',_,h⟩|⟨h,_⟩
  .grind
  .exact jZ.run p (r:=f s) h
  grind
def WS.status{a st d:Nat}{r:Rk}{g:ak}(h:WS P ty Y N val l c x a st r d g w):g.status=.running∨g.status=.finished:=by
 cases h with
 |am h1 _ _=>exact .inl (h1.run λg s h=>h.1)
 |rel h1=>exact .inl (Goes.running (λ_ _ x=>x.1) w (Go.ConcN.RW.refl w) h1)
 |tail _ h1=>exact h1.status
def WS.woken{a st d:Nat}{r:Rk}{g:ak}(h:WS P ty Y N val l c x a st r d g w)(b e:ak)(w':aA):woken P b e w' g=g:=by
 unfold Go.Conc.woken;split
 .exact again_running _ h.status
 .rfl
def Com.at(h:Com P ty Y N val l c j gs w t D A K n)(d:Nat):Com P ty Y N val l c j gs (w.at d) t D A K n :=
 ⟨h.size,h.lv,h.above,λx a=>let ⟨g,h1,h2⟩:=h.wk x a;⟨g,h1,h2.I4 (.at ..) h.live h.pay h.kc λ_ _=>rfl⟩,h.tl,h.norel,h.deaf0,h.deafW,h.rel,h.xL,h.Bu,h.pay,h.live,h.A0,h.Di,h.LW,h.kc,h.MK⟩
def Com.stepW(h:Com P ty Y N val l c j gs w t D A K n)(hx:x<j){g':ak}{fn:aM}{pos:String}{es:Array Event}{a' qk d':Nat}{r':Rk}(hh:∀b,b<w.heap.size->hm' b=l b)(B:w.heap.size<=w'.heap.size)(u:∀y,y<j->y≠x->GP Y l (c y) y w w')(O:WS P ty Y N val hm' c x a' qk r' d' g' w')(SN:∀e∈es,(aG e).low w'.heap.size)(US:∀e∈es,∀a,(aG e).touch?=aa a->a.loc.isMemory=ab->qt Y hm' (c x) x a)(W:∀e∈es,∀a,e.loc≠.mark (.release a))(I:deafBehind (D x).deaf es=d')(Z:qk<=6->∃r,RelBy (stA Y.Wg) (t++MemOp.ofEvents (Y.base+x) fn pos es) (Y.base+x) r)(h1:a'=0->∀i,1<=i->i<Y.kc->w'.cell? ⟨Y.C,Y.kc*x+i,af⟩=aa (val x i))(h0:qk<=6->Has Y.C (Y.kc*x) (val x 0) w')(G:PayAt Y.C N w')(q:WgLive ty Y.Wg w'):
  Com P ty Y N val hm' c j ((gs.map (woken P g g' w')).setIfInBounds (Y.base+x) g') w' (t++MemOp.ofEvents (Y.base+x) fn pos es) (upd D x ⟨qk,0,d'⟩) (upd A x a') (upd K (Y.base+x) r') n:=by
 have hb:=h.tl.base;have F:∀y,y≠x->Y.base+x≠Y.base+y:=λy d e=>d (by omega);have Q:∀i H,0<i->i<Y.base->((gs.map (Go.Conc.woken P g g' w')).setIfInBounds (Y.base+x) g')[i]?=aa H->gs[i]?=aa H:=by intro i H hi OJ FF;rw[get_map_set _ _ _ _ (by omega)]at FF;obtain⟨z,hz,rfl⟩:=sF.1 FF;obtain⟨m,_,hq⟩:=h.lv i z hi OJ hz;grind[woken_quitsD]
 refine⟨by simp[h.size],λi H hi OJ FF=>?_,λi hi=>?_,λy d=>?_,?_,h.norel.app W,by rw[Deaf_other t (by omega) _ g_of_ofEvents,h.deaf0],λy d=>?_,λy d k=>?_,λy d L i T M=>?_,λy d k=>?_,G,q,cA h.A0 B,cA h.Di B,λb hb=>cA (h.LW b hb) B,h.kc,λy d b o v R=>cA (h.MK y d b o v R) B⟩
 .obtain⟨m,U,V⟩:=h.lv i H hi OJ (Q i H hi OJ FF);refine⟨m,by rw[upd_ne K _ (by omega)];exact U,?_⟩;rw[Deaf_other t (by omega) _ g_of_ofEvents];exact V
 .rw[Deaf_other t (by omega) _ g_of_ofEvents];exact h.above i hi
 .by_cases e:y=x
  .subst e;exact⟨g',get_map_set_same _ _ _ (by rw[h.size];omega),by rw[upd_same,upd_same,upd_same];exact O⟩
  .obtain⟨H,FF,J⟩:=h.wk y d;refine⟨H,by rw[get_map_set _ _ _ _ (F y e),FF,mz,J.woken],?_⟩;rw[upd_ne A _ e,upd_ne D _ e,upd_ne K _ (F y e).symm];exact J.I4 (u y d e) q G h.kc hh
 .refine(h.tl.sR hh B h.A0 h.Di h.LW λy d b o v R=>?_).appW hx (λop iu=>by grind[Go.Conc.mem_ofEvents]) (λop iu=>?_) (λop iu a L ZL=>?_)
  .exact h.MK y d b o v R
  .grind [Go.Conc.mem_ofEvents]
  grind[Go.Conc.mem_ofEvents]
 .by_cases e:y=x
  .subst e;rw[Deaf_own,h.deafW y d,upd_same];exact I
  .rw[Deaf_other t (F y e) _ g_of_ofEvents,h.deafW y d,upd_ne D _ e]
 .by_cases e:y=x
  .subst e;rw[upd_same]at k;grind
  .rw[upd_ne D _ e]at k;obtain⟨r,hr⟩:=h.rel y d k;exact⟨r,hr.appOther g_of_ofEvents (F y e)⟩
 .by_cases e:y=x
  .subst e;rw[upd_same]at L;grind
  .rw[upd_ne A _ e]at L;rw[(u y d e).pay _ (by omega) (by omega)];exact h.xL y d L i T M
 .by_cases e:y=x
  .subst e;rw[upd_same]at k;grind
  .rw[upd_ne D _ e]at k;have:=h.Bu y d k;have hk:=h.kc;simp only[Has]at this⊢;rw[(u y d e).pay _ (by omega) (by omega)];exact this
def Com.step0(h:Com P ty Y N val l c j gs w t D A K n){g':ak}{fn:aM}{pos:String}{es:Array Event}(hh:∀b,b<w.heap.size->hm' b=l b)(u:w.heap.size<=w'.heap.size)(q:∀y,y<j->GP Y l (c y) y w w')(Q:∀e∈es,(aG e).low w'.heap.size)(Z:∀e∈es,∀a,(aG e).touch?=aa a->a.loc.isMemory=ab->rV Y hm' a)(U:∀e∈es,∀a,(aG e).touch?=aa a->a.kind=.plain->a.write=ab->∀x,x<j->∀b o v,a.loc=.cell ⟨b,o,af⟩->c x b o≠aa v)(O:∀e∈es,∀a,e.loc≠.mark (.release a))(B:PayAt Y.C N w')(k:WgLive ty Y.Wg w'):
  Com P ty Y N val hm' c j ((gs.map (woken P g g' w')).setIfInBounds 0 g') w' (t++MemOp.ofEvents 0 fn pos es) D A K (deafBehind n es):=by
 have hb:=h.tl.base;have hk:=h.kc;refine⟨by simp[h.size],λi R hi OJ FF=>?_,λi hi=>?_,λy d=>?_,?_,h.norel.app O,by rw[Deaf_own,h.deaf0],λy d=>by rw[Deaf_other t (by omega) _ g_of_ofEvents,h.deafW y d],λy d F=>?_,λy d L i J I=>?_,λy d F=>?_,B,k,cA h.A0 u,cA h.Di u,λb hb=>cA (h.LW b hb) u,h.kc,λy d b o v V=>cA (h.MK y d b o v V) u⟩
 .rw[get_map_set _ _ _ _ (by omega)]at FF;obtain⟨z,W,rfl⟩:=sF.1 FF;obtain⟨m,M,H⟩:=h.lv i z hi OJ W;exact⟨m,M,by rw[woken_quitsD H,Deaf_other t (by omega) _ g_of_ofEvents];exact H⟩
 .rw[Deaf_other t (by omega) _ g_of_ofEvents];exact h.above i hi
 .obtain⟨R,FF,G⟩:=h.wk y d;exact⟨R,by rw[get_map_set _ _ _ _ (by omega),FF,mz,G.woken],G.I4 (q y d) k B h.kc hh⟩
 .refine(h.tl.sR hh u h.A0 h.Di h.LW h.MK).app0 (λop iu=>by grind[Go.Conc.mem_ofEvents]) (λop iu=>?_) (λop iu a L ZL=>?_) (λop iu a L=>?_)
  .grind [Go.Conc.mem_ofEvents]
  .grind [Go.Conc.mem_ofEvents]
  grind[Go.Conc.mem_ofEvents]
 .obtain⟨r,T⟩:=h.rel y d F;exact⟨r,T.appOther g_of_ofEvents (by omega)⟩
 .rw[(q y d).pay _ (by omega) (by omega)];exact h.xL y d L i J I
 .have:=h.Bu y d F;simp only[Has]at this⊢;rw[(q y d).pay _ (by omega) (by omega)];exact this
def Com.leave(h:Com P ty Y N val l c j gs w t D A K n){m:Nat}(hi:0<i)(L:i<Y.base){g':ak}{fn:aM}{pos:String}{es:Array Event}(C:∀e∈es,e.mute=ab)(Q:QuitsD P m (deafBehind (Deaf t i) es) g'):
  Com P ty Y N val l c j ((gs.map (woken P g g' w)).setIfInBounds i g') w (t++MemOp.ofEvents i fn pos es) D A (upd K i (Rk.nat m)) n:=by
 have hb:=h.tl.base;have G:∀e∈es,∀a,e.loc≠.mark (.release a):=λe M a=>vm (C e M) a;refine⟨by simp[h.size],λk H u F b=>?_,λk u=>?_,λy d=>?_,?_,h.norel.app G,by rw[Deaf_other t (by omega) _ g_of_ofEvents,h.deaf0],λy d=>by rw[Deaf_other t (by omega) _ g_of_ofEvents,h.deafW y d],λy d B=>?_,h.xL,h.Bu,h.pay,h.live,h.A0,h.Di,h.LW,h.kc,h.MK⟩
 .by_cases e:k=i
  .subst e;rw[get_map_set_same _ _ _ (by grind)]at b;cases b;exact⟨m,by rw[upd_same],by grind[Deaf_own]⟩
  .rw[get_map_set _ _ _ _ (Ne.symm e)]at b;obtain⟨z,I,rfl⟩:=sF.1 b;obtain⟨O,v,q⟩:=h.lv k z u F I;exact⟨O,by rw[upd_ne K _ e];exact v,by rw[woken_quitsD q,Deaf_other t (Ne.symm e) _ g_of_ofEvents];exact q⟩
 .rw[Deaf_other t (by omega) _ g_of_ofEvents];exact h.above k u
 .obtain⟨H,b,o⟩:=h.wk y d;exact⟨H,by rw[get_map_set _ _ _ _ (by omega),b,mz,o.woken],by rw[upd_ne K _ (by omega)];exact o⟩
 .exact h.tl.mute (g:=i) (λop iu=>by grind[Go.Conc.mem_ofEvents]) (λop iu=>by grind[Go.Conc.mem_ofEvents,low_mute]) (λop iu=>by grind[Go.Conc.mem_ofEvents,touch_mute])
 .obtain⟨r,J⟩:=h.rel y d B;exact⟨r,J.appOther g_of_ofEvents (by omega)⟩
def Com.spawn(h:Com P ty Y N val l c j gs w t D A K 0){a' child:ak}{x y:MemOp}{r:Rk}(L:x.g=0/\x.act=.go (Y.base+j))(H:y.g=Y.base+j/\y.act=.start)(I:∀b o v,c j b o=aa v->l b=0/\b≠Y.C/\b≠Y.Wg/\¬Y.Sh b/\b<w.heap.size)(O:jZ (Cx.work P) E0 (I3 P ty Y N val j) r child s)(F:bZ s {s with w:=w})(M:lH l (c j) (Y.base+j) s):
  Com P ty Y N val l c (j+1) ((gs.setIfInBounds 0 a').push child) w (t++#[x,y]) (upd D j ⟨7,0,0⟩) (upd A j 1) (upd K (Y.base+j) r) 0:=by
 have hb:=h.tl.base;have Q:∀op∈#[x,y],op=x∨op=y:=by grind
 have d:∀op∈#[x,y],op.act≠.mark .disable/\op.act≠.mark .enable:=by grind
 have q:∀i,0<i->i<Y.base+j->((gs.setIfInBounds 0 a').push child)[i]?=gs[i]?:=λi hi uS=>by rw[Array.getElem?_push_lt (by simp[h.size];omega),<-gg,nv (by omega)]
 refine⟨by simp[h.size];omega,λi g hi OJ hg=>?_,λi hi=>?_,λz k=>?_,h.tl.fork L H h.deaf0 (h.above _ (ba _)) λb o v u=>let ⟨h1,h2,J,R,_⟩:=I b o v u;⟨h1,h2,J,R⟩,λad=>(h.norel ad).app λop iu=>?_,by rw[Deaf_still t 0 _ d,h.deaf0],λz k=>?_,λz k e=>?_,λz k B=>?_,λz k e=>?_,h.pay,h.live,h.A0,h.Di,h.LW,h.kc,λz k b o v u=>?_⟩
 .rw[q i hi (by omega)]at hg;obtain⟨m,h1,h2⟩:=h.lv i g hi OJ hg;exact⟨m,by rw[upd_ne K _ (by omega)];exact h1,by rw[Deaf_still t _ _ d];exact h2⟩
 .rw[Deaf_still t _ _ d];exact h.above i (by omega)
 .rcases cM z j with uS|a
  .obtain⟨g,hg,G⟩:=h.wk z uS;exact⟨g,by grind,by rw[upd_ne D _ (by omega),upd_ne A _ (by omega),upd_ne K _ (by omega)];exact G⟩
  .obtain rfl:z=j:=by omega
   refine⟨child,?_,by rw[upd_same,upd_same,upd_same];exact .am O F M⟩;rw[show Y.base+z=(gs.setIfInBounds 0 a').size by simp[h.size],Array.getElem?_push_size]
 .grind
 .rw[Deaf_still t _ _ d];rcases cM z j with uS|a
  .rw[h.deafW z uS,upd_ne D _ (by omega)]
  .obtain rfl:z=j:=by omega
   rw[upd_same];exact h.above _ (ba _)
 .rcases cM z j with uS|a
  .rw[upd_ne D _ (by omega)]at e;obtain⟨r,F⟩:=h.rel z uS e;refine⟨r,F.appNot λop iu=>?_⟩;grind
  .obtain rfl:z=j:=by omega
   rw[upd_same]at e;grind
 .rcases cM z j with uS|a
  .rw[upd_ne A _ (by omega)]at B;exact h.xL z uS B
  .obtain rfl:z=j:=by omega
   rw[upd_same]at B;grind
 .rcases cM z j with uS|a
  .rw[upd_ne D _ (by omega)]at e;exact h.Bu z uS e
  .obtain rfl:z=j:=by omega
   rw[upd_same]at e;grind
 .rcases cM z j with uS|a
  .exact h.MK z uS b o v u
  grind
end
end
section
open Go.Conc
open Go.ConcN (WD CTag Mode Vc Ssum pend phi cnt WgLive PayAt Has RW DWs WSit RelBy sumTo upd upd_same upd_ne AtR0)
open Go.ConcR (KK WgAt stA smA rd wr mk Payload g_of_ofEvents again_blocked)
variable [Payload]
section
variable (P:aK)(ty:av)(Y:Lay)(N:Nat)(val:Nat->Nat->aj)(n:Nat)(T l:ak->St->Prop)
def AtAcq(g:ak)(s:St):Prop:=g.status=.running/\∃g',(∀w,aH P ab g w=.go g' w #[mk (.acquire (stA Y.Wg))])/\∀c,(Cx.lead P ty Y.Wg).rely s c->T g' c
def AtKe(g:ak)(s:St):Prop:=g.status=.running/\∃g',(∀w,aH P ab g w=.go g' w #[mk .enable])/\∀c,(Cx.lead P ty Y.Wg).rely s c->(eg (Cx.lead P ty Y.Wg) (Es Y.Wg)) (AtAcq P ty Y T) g' c
def AtW4(g:ak)(s:St):Prop:=g.status=.running/\∀c,(Cx.lead P ty Y.Wg).rely s c->WgAt ty Y.Wg c.w 0 0->∃g',aH P ab g c.w=.go g' c.w #[rd (stA Y.Wg)]/\(eg (Cx.lead P ty Y.Wg) (Es Y.Wg)) (AtKe P ty Y T) g' c
def AtW3(g:ak)(s:St):Prop:=g.status=.running/\g.offers=af/\∀c,(Cx.lead P ty Y.Wg).rely s c ->
 ((∃st,WgAt ty Y.Wg c.w st 0)->aH P ab g c.w=.go {g with status:=.blocked} c.w #[]) /\
 (WgAt ty Y.Wg c.w 0 1->∃g',aH P ab g c.w=.go g' (c.w.setCell (smA Y.Wg) (.int .u32 0)) (semEvents (smA Y.Wg))/\(eg (Cx.lead P ty Y.Wg) (Es Y.Wg)) (AtW4 P ty Y T) g' {c with w:=c.w.setCell (smA Y.Wg) (.int .u32 0)})
def AtW2(vs:Nat)(g:ak)(s:St):Prop:=g.status=.running/\∀c,(Cx.lead P ty Y.Wg).rely s c->∀v:Nat,v<2147483648->WgAt ty Y.Wg c.w (v*KK) 0 ->
 (v=vs->∃g',aH P ab g c.w=.go g' (c.w.setCell (stA Y.Wg) (.int .u64 (v*KK+1))) #[rd (stA Y.Wg),wr (stA Y.Wg)]/\(eg (Cx.lead P ty Y.Wg) (Es Y.Wg)) (AtW3 P ty Y T) g' {c with w:=c.w.setCell (stA Y.Wg) (.int .u64 (v*KK+1))}) /\
 (v≠vs->∃g',aH P ab g c.w=.go g' c.w #[rd (stA Y.Wg)]/\l g' c)
def AtW1(g:ak)(s:St):Prop:=g.status=.running/\∀c,(Cx.lead P ty Y.Wg).rely s c->∀v:Nat,v<2147483648->WgAt ty Y.Wg c.w (v*KK) 0 ->
 ∃g',aH P ab g c.w=.go g' c.w #[rd (stA Y.Wg)]/\(v=0->(eg (Cx.lead P ty Y.Wg) (Es Y.Wg)) (AtKe P ty Y T) g' c)/\(v≠0->(eg (Cx.lead P ty Y.Wg) (Es Y.Wg)) (AtW2 P ty Y T l v) g' c)
def AtKd(g:ak)(s:St):Prop:=g.status=.running/\∃g',(∀w,aH P ab g w=.go g' w #[mk .disable])/\∀c,(Cx.lead P ty Y.Wg).rely s c->l g' c
def St.child(s:St):St:={β:=[],M:=s.M,w:=s.w,own:=λ_=>False}
def AtGo(j:Nat)(Next:ak->St->Prop)(g:ak)(s:St):Prop:=g.status=.running/\∀c,(Cx.lead P ty Y.Wg).rely s c ->
 ∃g' child,aH P ab g c.w=.spawn g' child c.w #[]/\child.status=.running/\eg (Cx.work P) E0 (I3 P ty Y N val j) child c.child/\Next g' c
def AtKeS(j:Nat)(Next:ak->St->Prop)(g:ak)(s:St):Prop:=g.status=.running/\∃g',(∀w,aH P ab g w=.go g' w #[mk .enable])/\∀c,(Cx.lead P ty Y.Wg).rely s c->(eg (Cx.lead P ty Y.Wg) (Es Y.Wg)) (AtGo P ty Y N val j Next) g' c
def AtA1(j:Nat)(Next:ak->St->Prop)(g:ak)(s:St):Prop:=g.status=.running/\∀c,(Cx.lead P ty Y.Wg).rely s c->∀v:Nat,v<2147483647->WgAt ty Y.Wg c.w (v*KK) 0 ->
 ∃g',aH P ab g c.w=.go g' (c.w.setCell (stA Y.Wg) (.int .u64 ((v+1)*KK))) #[rd (stA Y.Wg),wr (stA Y.Wg)]/\(eg (Cx.lead P ty Y.Wg) (Es Y.Wg)) (AtKeS P ty Y N val j Next) g' {c with w:=c.w.setCell (stA Y.Wg) (.int .u64 ((v+1)*KK))}
def AtKdS(j:Nat)(Next:ak->St->Prop)(g:ak)(s:St):Prop:=g.status=.running/\∃g',(∀w,aH P ab g w=.go g' w #[mk .disable])/\∀c,(Cx.lead P ty Y.Wg).rely s c->(eg (Cx.lead P ty Y.Wg) (Es Y.Wg)) (AtA1 P ty Y N val j Next) g' c
def Spawns:Nat->ak->St->Prop
 |0,g,s=>(eg (Cx.lead P ty Y.Wg) (Es Y.Wg)) (AtKd P ty Y l) g s
 |r+1,g,s=>(eg (Cx.lead P ty Y.Wg) (Es Y.Wg)) (AtKdS P ty Y N val (n-(r+1)) (Spawns r)) g s
def Rk.lift:Rk->Rk
 |.leaf=>.node λ_=>.leaf
 |.node f=>.node λs=>Rk.lift (f s)
omit [Payload]in
def Rk.FG:∀{x r:Rk},Rk.lt x r->Rk.lt x.lift r.lift
 |_,.leaf,h=>h.elim
 |_,.node _,⟨s,h⟩=>⟨s,h.elim (λe=>.inl (by rw[e])) λh=>.inr (Rk.FG h)⟩
omit [Payload]in
def Rk.I5(s:St):∀r:Rk,∃x,Rk.lt x r.lift
 |.leaf=>⟨.leaf,s,.inl rfl⟩
 |.node f=>⟨(f s).lift,s,.inl rfl⟩
inductive CS:CTag->Nat->Rk->Nat->ak->St->Prop
 |skd {r:Nat} {rk:Rk} {g:ak} {s:St}:r<n->(jZ (Cx.lead P ty Y.Wg) (Es Y.Wg)) (AtKdS P ty Y N val (n-(r+1)) (Spawns P ty Y N val n l r)) rk g s->CS (.sp r 5) (n-(r+1)) rk 0 g s
 |sa1 {r:Nat} {rk:Rk} {g:ak} {s:St}:r<n->(jZ (Cx.lead P ty Y.Wg) (Es Y.Wg)) (AtA1 P ty Y N val (n-(r+1)) (Spawns P ty Y N val n l r)) rk g s->CS (.sp r 4) (n-(r+1)) rk 1 g s
 |ske {r:Nat} {rk:Rk} {g:ak} {s:St}:r<n->(jZ (Cx.lead P ty Y.Wg) (Es Y.Wg)) (AtKeS P ty Y N val (n-(r+1)) (Spawns P ty Y N val n l r)) rk g s->CS (.sp r 3) (n-(r+1)) rk 1 g s
 |sgo {r:Nat} {rk:Rk} {g:ak} {s:St}:r<n->(jZ (Cx.lead P ty Y.Wg) (Es Y.Wg)) (AtGo P ty Y N val (n-(r+1)) (Spawns P ty Y N val n l r)) rk g s->CS (.sp r 2) (n-(r+1)) rk 0 g s
 |kd {rk:Rk} {g:ak} {s:St}:(jZ (Cx.lead P ty Y.Wg) (Es Y.Wg)) (AtKd P ty Y l) rk g s->CS .kd n rk 0 g s
 |w1 {rk:Rk} {g:ak} {s:St}:(jZ (Cx.lead P ty Y.Wg) (Es Y.Wg)) (AtW1 P ty Y T l) rk g s->CS .w1 n rk 1 g s
 |w2 {vs:Nat} {rk:Rk} {g:ak} {s:St}:(jZ (Cx.lead P ty Y.Wg) (Es Y.Wg)) (AtW2 P ty Y T l vs) rk g s->CS (.w2 vs) n rk 1 g s
 |w3 {rk:Rk} {g:ak} {s:St}:(jZ (Cx.lead P ty Y.Wg) (Es Y.Wg)) (AtW3 P ty Y T) rk g s->CS .w3 n rk.lift 1 g s
 |blk {rk:Rk} {g:ak} {s:St}:AtW3 P ty Y T g s->CS .blk n rk 1 {g with status:=.blocked} s
 |w4 {rk:Rk} {g:ak} {s:St}:(jZ (Cx.lead P ty Y.Wg) (Es Y.Wg)) (AtW4 P ty Y T) rk g s->CS .w4 n rk 1 g s
 |ke {rk:Rk} {g:ak} {s:St}:(jZ (Cx.lead P ty Y.Wg) (Es Y.Wg)) (AtKe P ty Y T) rk g s->CS .ke n rk 1 g s
 |acq {rk:Rk} {g:ak} {s:St}:(jZ (Cx.lead P ty Y.Wg) (Es Y.Wg)) (AtAcq P ty Y T) rk g s->CS .acq n rk 0 g s
structure ML(p:Nat->Nat)(o:Nat->Mem)(m:Machine)(t:Trace):Prop where
 out:∃(gs:Array ak) (w:aA) (sl:Option (Nat×Nat)) (a:ak) (s:St) (q:Nat->Nat),m=crowd gs w sl/\gs[0]?=aa a/\gs.size=Y.base+n/\T a {s with w:=w}/\bZ s {s with w:=w}/\jB Y p o n s /\
  Leavers P t gs q/\Past (ku λb=>Y.Sh b∨b=Y.Wg) w.heap.size t/\mO t/\PayAt Y.C N w/\(∀x,x<n->∀i,i<Y.kc->w.cell? ⟨Y.C,Y.kc*x+i,af⟩=aa (val x i))/\Y.C<w.heap.size/\Y.Wg<w.heap.size/\∀b,Y.Sh b->b<w.heap.size
abbrev Mu:=Nat×((Nat->Rk)×Rk)
def FH(M:Nat):Mu->Mu->Prop:=Prod.Lex (· < ·) (Prod.Lex (Vec M) Rk.lt)
omit [Payload]in
def P3(M:Nat):WellFounded (FH M):=(Prod.lex Nat.lt_wfRel ⟨_,(Prod.lex ⟨Vec M,I2 M⟩ ⟨Rk.lt,⟨Rk.acc⟩⟩).wf⟩).wf
structure sT(μ:Mu)(gs:Array ak)(w:aA)(t:Trace)(p:Nat->Nat)(o:Nat->Mem)(j:Nat)(D:Nat->WD)(A:Nat->Nat)(K:Nat->Rk)(d0:Nat)(tag:CTag)(rk:Rk)(a:ak)(s:St)(st sm:Int):Prop where
 a0:gs[0]?=aa a
 cs:CS P ty Y N val n T l tag j rk d0 a s
 rely:bZ s {s with w:=w}
 lead:jB Y p o j s
 gq:Com P ty Y N val p o j gs w t D A K d0
 wg:WgAt ty Y.Wg w st sm
 mode:Go.ConcN.Mode j D tag st sm
 mu:μ=(phi n (Vc j D) tag+Ssum j D+sumTo j A,(K,rk))
def Inv(i:Mu)(m:Machine)(t:Trace):Prop :=
 ∃(gs:Array ak) (w:aA) (sl:Option (Nat×Nat)) (p:Nat->Nat) (o:Nat->Mem) (j:Nat) (D:Nat->WD) (A:Nat->Nat) (K:Nat->Rk) (b:Nat) (tag:CTag) (rk:Rk) (a:ak) (s:St) (st sm:Int),
  m=crowd gs w sl/\sT P ty Y N val n T l i gs w t p o j D A K b tag rk a s st sm
end
section
variable {P:aK}{ty:av}{Y:Lay}{N:Nat}{val:Nat->Nat->aj}{n:Nat}{T l:ak->St->Prop}{p hm':Nat->Nat}{o:Nat->Mem}{tag:CTag}{rk:Rk}{d:Nat}{a:ak}
omit [Payload]in
def fV(h:bZ s {s with w:=w})(B:WgLive ty Y.Wg w):(Cx.lead P ty Y.Wg).rely s {s with w:=w}:=⟨h,λ_=>B⟩
omit [Payload]in
def AtW3.rely{c:St}(h:AtW3 P ty Y T g s)(u:(Cx.lead P ty Y.Wg).rely s c):AtW3 P ty Y T g c :=
 ⟨h.1,h.2.1,λs2 z=>h.2.2 s2 ⟨u.1.trans z.1,λx=>z.2 (u.2 x)⟩⟩
def CS.status(h:CS P ty Y N val n T l tag j rk d a s):(a.status=.running/\tag≠.blk)∨(a.status=.blocked/\tag=.blk):=by
 cases h with
 |skd _ h=>exact .inl ⟨h.run λ_ _ x=>x.1,by simp⟩
 |sa1 _ h=>exact .inl ⟨h.run λ_ _ x=>x.1,by simp⟩
 |ske _ h=>exact .inl ⟨h.run λ_ _ x=>x.1,by simp⟩
 |sgo _ h=>exact .inl ⟨h.run λ_ _ x=>x.1,by simp⟩
 |kd h=>exact .inl ⟨h.run λ_ _ x=>x.1,by simp⟩
 |w1 h=>exact .inl ⟨h.run λ_ _ x=>x.1,by simp⟩
 |w2 h=>exact .inl ⟨h.run λ_ _ x=>x.1,by simp⟩
 |w3 h=>exact .inl ⟨h.run λ_ _ x=>x.1,by simp⟩
 |blk h=>grind
 |w4 h=>exact .inl ⟨h.run λ_ _ x=>x.1,by simp⟩
 |ke h=>exact .inl ⟨h.run λ_ _ x=>x.1,by simp⟩
 |acq h=>exact .inl ⟨h.run λ_ _ x=>x.1,by simp⟩
def CS.wokenBy(h:CS P ty Y N val n T l tag j rk d a s)(g g':ak)(w':aA):
  ∃tag' rk',CS P ty Y N val n T l tag' j rk' d (woken P g g' w' a) s/\(tag'=tag∨(tag=.blk/\tag'=.w3))/\(mayWake P g=ab->g'.status=.running->tag'≠.blk):=by
 unfold Go.Conc.woken;split
 .rcases h.status with⟨i,b⟩|⟨_,rfl⟩
  .grind [again_running]
  .cases h with
   |blk hb=>exact⟨.w3,Rk.lift .leaf,by rw[again_blocked hb.1 hb.2.1];exact .w3 (show jZ _ _ _ .leaf _ _ from hb),.inr ⟨rfl,rfl⟩,λ_ _=>by simp⟩
 grind
def kC{μ:Mu}{sl:Option (Nat×Nat)}{t:Trace}{D:Nat->WD}{A:Nat->Nat}{K:Nat->Rk}{st sm:Int}(I:sT P ty Y N val n T l μ gs w t p o j D A K d tag rk a s st sm){x:Nat}(W:x<j){g':ak}{es:Array Event}{a' s' d':Nat}{r':Rk}{E H:Int}(hg:gs[Y.base+x]?=aa g)(hgo:aH P ae g w=.go g' w' es)(hh:∀b,b<w.heap.size->hm' b=p b)(Iw:w.heap.size<=w'.heap.size)(L:∀y,y<j->y≠x->GP Y p (o y) y w w')(J:DM Y p w w')(Z:WS P ty Y N val hm' o x a' s' r' d' g' w')(S:∀e∈es,(aG e).low w'.heap.size)(US:∀e∈es,∀a,(aG e).touch?=aa a->a.loc.isMemory=ab->qt Y hm' (o x) x a)(Fh:∀e∈es,∀a,e.loc≠.mark (.release a))(F:deafBehind (D x).deaf es=d')(O:s'<=6->∃r,RelBy (stA Y.Wg) (t++MemOp.ofEvents (Y.base+x) g.frame.fn g.frame.place es) (Y.base+x) r)(h1:a'=0->∀i,1<=i->i<Y.kc->w'.cell? ⟨Y.C,Y.kc*x+i,af⟩=aa (val x i))(h0:s'<=6->Has Y.C (Y.kc*x) (val x 0) w')(Q:PayAt Y.C N w')(U:WgAt ty Y.Wg w' E H)(G:∀tag',(tag'=tag∨(tag=.blk/\tag'=.w3))->(mayWake P g=ab->g'.status=.running->tag'≠.blk)->Go.ConcN.Mode j (upd D x ⟨s',0,d'⟩) tag' E H)(X:(s'+a'<(D x).stage+A x/\cnt ⟨s',0,d'⟩<=cnt (D x))∨(s'=(D x).stage/\a'=A x/\Rk.lt r' (K (Y.base+x))))(Zi:Y.base+j<=Y.base+n):
  ∃q ops μ',runT P (crowd gs w sl) (Y.base+x)=(.next q,ops)/\FH (Y.base+n) μ' μ/\Inv P ty Y N val n T l μ' q (t++ops):=by
 have hb:=I.gq.tl.base;obtain⟨tag',rk',R,m,VV⟩:=I.cs.wokenBy g g' w';have ZM:(Y.base+x==0)=ae:=by grind
 have V:=runT_crowd_go (P:=P) (sl:=sl) (i:=Y.base+x) hg (by rw[ZM];exact hgo)
 have e1:=Go.ConcN.sumTo_upd D (⟨s',0,d'⟩:WD) cnt W;have e2:=Go.ConcN.sumTo_upd D (⟨s',0,d'⟩:WD) WD.stage W;have e3:sumTo j (upd A x a')+A x=sumTo j A+a':=Go.ConcN.sumTo_upd A a' id W;refine⟨_,_,(phi n (Vc j (upd D x ⟨s',0,d'⟩)) tag'+Ssum j (upd D x ⟨s',0,d'⟩)+sumTo j (upd A x a'),(upd K (Y.base+x) r',rk')),V,?_,
  _,w',sl,hm',o,j,_,_,_,d,tag',rk',woken P g g' w' a,s,E,H,rfl,⟨by rw[Go.ConcN.get_map_set _ _ _ _ (by omega),I.a0];rfl,R,I.lead.I4 I.rely J,I.lead.sR I.rely.size hh,
   I.gq.stepW W hh Iw L Z S US Fh F O h1 h0 Q ⟨_,_,U⟩,U,G tag' m VV,rfl⟩⟩
 rw[I.mu,Go.ConcN.phi_retag n _ m];simp only[Vc,Ssum]at *;rcases X with⟨q1,q2⟩|⟨q1,q2,q3⟩
 .refine Prod.Lex.left _ _ ?_;have:=Go.ConcN.phi_mono n (v':=sumTo j λa=>cnt (upd D x ⟨s',0,d'⟩ a)) (v:=sumTo j λa=>cnt (D a)) (by omega) tag;omega
 .have ec:cnt (⟨s',0,d'⟩:WD)=cnt (D x):=by simp only[cnt,q1]
  have ev:(sumTo j λa=>cnt (upd D x ⟨s',0,d'⟩ a))=sumTo j λa=>cnt (D a):=by omega
  have es':(sumTo j λa=>(upd D x ⟨s',0,d'⟩ a).stage)=sumTo j λa=>(D a).stage:=by omega
  have ea:sumTo j (upd A x a')=sumTo j A:=by omega
  rw[ev,es',ea];exact Prod.Lex.right _ (Prod.Lex.left _ _ ⟨Y.base+x,by omega,by rw[upd_same];exact q3,λk hk=>upd_ne K _ hk⟩)
end
end
section
open Go.Conc
open Go.ConcN (WD CTag Vc Ssum pend phi cnt WgLive PayAt Has RW DWs WSit RelBy sumTo upd upd_same upd_ne AtR0 isW3 isOpen OpenSt deafBehind_idle bk_cell okW_none Vc_upd Vc_le le_sumTo others_uncounted)
open Go.ConcR (KK WgAt stA smA rd wr mk Payload g_of_ofEvents Bk bk_of_mute ofEvent_loc_mark ofEvent_cell)
variable [Payload]
section
variable {Y:Lay}{T G:ak->St->Prop}{F hm':Nat->Nat}{O:Nat->Mem}{tag:CTag}{rk:Rk}{d:Nat}{a:ak}
omit [Payload]in
def GP.wg(h:Aside Y.Wg w w')(E:F Y.Wg=0)(k:1<=Y.base)(hM:∀b o v,O j b o=aa v->b≠Y.Wg)(hC:Y.C≠Y.Wg):GP Y F (O j) j w w' :=
 ⟨by rw[h.size];grind,λb _ oB=>h.block b (λe=>by grind),λb o v H V=>by rw[jC (h.block b (hM b o v H))];exact V,λo _ _=>jC (h.block _ hC) o,h.os,h.tape,h.output⟩
omit [Payload]in
def DM.wg(h:Aside Y.Wg w w'):DM Y F w w':=⟨by rw[h.size];grind,λb _ _ _ z=>h.block b z,h.os,h.tape,h.output⟩
omit [Payload]in
def DM.refl(w:aA):DM Y F w w:=⟨ba _,λ_ _ _ _ _=>rfl,rfl,rfl,rfl⟩
omit [Payload]in
def I6{B:Nat}{es:Array Event}(h:∀e∈es,Bk Y.Wg e)(E:Y.Wg<B):∀e∈es,(aG e).low B:=by
 intro e c;rcases h e c with l|l|⟨ad,wr,rfl,J⟩
 .rw[ofEvent_loc_mark l];trivial
 .rw[ofEvent_loc_mark l];trivial
 .rw[ofEvent_cell];show ad.block<B;grind
omit [Payload]in
def MM{x:Nat}{es:Array Event}(h:∀e∈es,Bk Y.Wg e):∀e∈es,∀a,(aG e).touch?=aa a->a.loc.isMemory=ab->qt Y F (O x) x a:=by
 intro e c b k _;rcases h e c with l|l|⟨ad,wr,rfl,J⟩
 .rw[ofEvent_loc_mark l]at k;cases k
 .rw[ofEvent_loc_mark l]at k;cases k
 .rw[ofEvent_cell]at k;simp only[bl,dm]at k;subst k;exact .inl ⟨ad,rfl,J,rfl⟩
omit [Payload]in
def Bv{es:Array Event}(h:∀e∈es,Bk Y.Wg e):∀e∈es,∀a,e.loc≠.mark (.release a):=by
 intro e c a W;rcases h e c with l|l|⟨ad,wr,rfl,_⟩
 .grind
 .grind
 grind
omit [Payload]in
def MN{x:Nat}{s2:St}{es:Array Event}(S:lH F (O x) (Y.base+x) s)(U:aF σ s)(R:eN s es)(st:Step σ s σ' s2):
  (∀e∈es,(aG e).low s2.w.heap.size)/\(∀e∈es,∀a,(aG e).touch?=aa a->a.loc.isMemory=ab->qt Y (m0 F s.w.heap.size (Y.base+x)) (O x) x a) /\
  (∀e∈es,e.loc≠.mark .disable/\e.loc≠.mark .enable)/\∀e∈es,∀a,e.loc≠.mark (.release a):=by
 have key:∀e∈es,(aG e).low s2.w.heap.size/\(∀a,(aG e).touch?=aa a->a.loc.isMemory=ab->qt Y (m0 F s.w.heap.size (Y.base+x)) (O x) x a)/\(e.loc≠.mark .disable/\e.loc≠.mark .enable)/\∀a,e.loc≠.mark (.release a):=by
  intro e c;have h:=R e c;obtain⟨loc,wr,sy⟩:=e;cases loc with
  |cell ad =>
   obtain⟨l,z,p⟩:=h;simp only at l z p;subst l;have u:ad.block<s.w.heap.size:=by
    rcases p with p|⟨⟨L,Q,p⟩,_⟩|⟨_,v,p⟩
    .exact p.elim
    .exact U.lt L Q _ p
    .exact gn.lt U.mem p
   refine⟨by rw[ofEvent_cell];exact cA u st.size,λb k _=>?_,⟨by simp,by simp⟩,by simp⟩;rw[ofEvent_cell]at k;simp only[bl,dm]at k;subst k;refine .inr ⟨rfl,?_⟩;rcases p with p|⟨⟨L,Q,p⟩,_⟩|⟨X,v,p⟩
   .exact p.elim
   .exact .inl ⟨ad.block,rfl,by rw[eT u];exact(S.blk _ (.inr ⟨L,Q,p⟩)).1⟩
   .rcases(S.M _ _ _ p).1 with Z|Z
    .exact .inl ⟨ad.block,rfl,by grind[eT]⟩
    .refine .inr (.inr ⟨X,ad.block,ad.off,v,?_,Z⟩);obtain⟨b,o,sp⟩:=ad;grind
  |obj r =>
   obtain⟨l,z⟩:=h;simp only at l z;subst l;obtain⟨L,Q,p⟩:=z.resolve_left id;have u:=U.lt L Q _ p;refine⟨?_,λb k _=>?_,⟨by simp,by simp⟩,by simp⟩
   .simp[aG,MemAct.low,Loc.low];exact cA u st.size
   .simp[aG,bl]at k;subst k;exact .inr ⟨rfl,.inl ⟨r,rfl,by rw[eT u];exact(S.blk _ (.inr ⟨L,Q,p⟩)).1⟩⟩
  |mark m =>
   simp only[nJ]at h;rcases h with rfl|⟨f,rfl⟩
   .exact⟨by simp[aG,MemAct.low],λb k=>by simp[aG,bl]at k,⟨by simp,by simp⟩,by simp⟩
   .exact⟨by simp[aG,MemAct.low],λb k=>by simp[aG,bl]at k,⟨by simp,by simp⟩,by simp⟩
  |_=>exact h.elim
 grind
def stepWorker{μ:Mu}{sl:Option (Nat×Nat)}{t:Trace}{D:Nat->WD}{A:Nat->Nat}{K:Nat->Rk}{st sm:Int}(I:sT P ty Y N val n T G μ gs w t F O j D A K d tag rk a s st sm)(hn:n<2147483648)(hj:j<=n)(hpd:j+pend tag<=n){x:Nat}(hx:x<j)(hg:gs[Y.base+x]?=aa g)(vK:g.status=.running):
  ∃m₁ ops μ',runT P (crowd gs w sl) (Y.base+x)=(.next m₁,ops)/\FH (Y.base+n) μ' μ/\Inv P ty Y N val n T G μ' m₁ (t++ops):=by
 have I7:=I.gq.tl.base;obtain⟨g₁,XP,hs⟩:=I.gq.wk x hx;obtain rfl:g=g₁:=by grind
 generalize FI:(D x).stage=sg at hs;generalize XQ:K (Y.base+x)=r at hs;generalize SO:(D x).deaf=dd at hs;generalize hA:A x=ax at hs;have XR:Deaf t (Y.base+x)=dd:=by rw[I.gq.deafW x hx,SO]
 have ZN:=Vc_le j D;have same:∀m' FJ,Go.ConcN.Mode j (upd D x ⟨sg,m',FJ⟩) tag st sm:=λm' FJ=>by have:=I.mode.same (i:=x) m' FJ;grind
 cases hs with
 |@am r g s0 w l z p =>
  rcases l.norm (λs0=>bZ s0 {s0 with w:=w}/\lH F (O x) (Y.base+x) s0) (λs0 s' SP hi=>⟨hi.1.ghost SP,hi.2.ghost SP⟩) (λ_ s0 s' SP hi=>⟨hi.1.forget SP,hi.2.forget SP⟩) ⟨z,p⟩with⟨s',⟨k1,k2⟩,lI⟩|⟨_,s',⟨k1,k2⟩,lJ⟩
  ·
   obtain⟨g',w2,es,hgo,E,VX,m,hk⟩:=lI.2 w k1 I.gq.pay I.gq.live;have XS:=I.gq.kc;refine kC I hx hg hgo (hm':=F) (λ_ _=>rfl) (by rw[E.size];grind) (λy hy XT=>⟨by rw[E.size];grind,λb _ k=>E.block b (λe=>by rw[e,I.gq.tl.hC]at k;omega),λb o v H V=>?_,λo XU XV=>E.out o ?_,E.os,E.tape,E.output⟩)
    ⟨by rw[E.size];grind,λb _ _ z _=>E.block b z,E.os,E.tape,E.output⟩ (.rel hk) (λe c=>?_) (λe c b k _=>?_) (λe c=>?_) ?_ (λh=>absurd h (by decide)) (λ_ i _ hi=>E.new i hi) (λh=>absurd h (by decide)) E.pay
    (I.wg.of_block (E.block _ (Ne.symm I.gq.tl.ne))) (λ_ ht _=>(same _ _).retag ht) (.inl ⟨by omega,by simp[cnt,FI]⟩) (by omega)
   .rw[jC (E.block b (I.gq.tl.ms y hy b o v H).2.1)];exact V
   .rcases Nat.lt_or_gt_of_ne XT with h|h
    .have:=uK Y.kc (show y+1<=x from h);grind
    .have:=uK Y.kc (show x+1<=y from h);grind
   .obtain⟨o,rfl,_⟩:=VX e c;rw[ofEvent_cell];show Y.C<_;rw[E.size];exact I.gq.Di
   .obtain⟨o,rfl,XU,XV⟩:=VX e c;rw[ofEvent_cell]at k;simp only[bl,dm]at k;subst k;exact .inr ⟨rfl,.inr (.inl ⟨o,rfl,XU,XV⟩)⟩
   .grind
   .rw[SO];exact deafBehind_idle (λe c=>by grind) 0
  ·
   obtain⟨g',s2,es,r',hgo,VY,LU,u⟩:=lJ _ k1;obtain⟨⟨σ,σ',U,jL,Ie⟩,R⟩:=VY.resolve_right id;have k3:lH F (O x) (Y.base+x) {s' with w:=w}:=k2.rely k1.size;obtain⟨e1,e2,e3,e4⟩:=MN k3 U R Ie;have vW:∀b,b<w.heap.size->F b≠Y.base+x->s2.w.heap[b]?=w.heap[b]?:=λb k Bi=>Ie.keep b k λL Q Pm=>Bi (k3.blk b (.inr ⟨L,Q,Pm⟩)).1;refine kC I hx hg hgo (hm':=m0 F w.heap.size (Y.base+x)) (λb k=>eT k) Ie.size (λy hy XT=>⟨Ie.size,λb k ZO=>vW b k (by omega),λb o v H V=>?_,λo _ _=>jC (vW _ I.gq.Di (by rw[I.gq.tl.hC];omega)) o,Ie.os,Ie.tape,Ie.output⟩)
    ⟨Ie.size,λb k h0 _ _=>vW b k (by omega),Ie.os,Ie.tape,Ie.output⟩ (.am LU (bZ.vV jL.mem) (k3.step jL Ie)) e1 e2 e4 (by rw[SO];exact deafBehind_idle e3 0) (λh=>absurd h (by decide)) (λh=>absurd h (by decide)) (λh=>absurd h (by decide)) ?_
    (I.wg.of_block (vW _ I.gq.A0 (by rw[I.gq.tl.Ib];omega))) (λ_ ht _=>(same _ _).retag ht) (.inr ⟨FI.symm,hA.symm,by grind⟩) (by omega)
   .rw[jC (vW b (I.gq.MK y hy b o v H) (by rw[(I.gq.tl.ms y hy b o v H).1];omega))];exact V
   .obtain⟨cs,c1,c2⟩:=I.gq.pay;exact⟨cs,(vW _ I.gq.Di (by rw[I.gq.tl.hC];omega)).trans c1,c2⟩
 |@rel m g w h =>
  rcases Goes.cases h with lI|⟨m',rfl,lJ⟩
  ·
   obtain⟨_,ZP,g',hgo,m₂,hk⟩:=lI w (Go.ConcN.RW.refl w);refine kC I hx hg hgo (hm':=F) (λ_ _=>rfl) (ba _) (λy _ _=>.refl ..) (.refl w) (.tail (by decide) (.k1 hk)) (λe c=>?_) (λe c b k _=>?_) (λe c=>?_) (by rw[SO];rfl) (λ_=>⟨t.size,RelBy.new XR _ _⟩) (λ_=>I.gq.xL x hx hA) (λ_=>by grind) I.gq.pay I.wg
    (λ_ ht _=>(I.mode.counted hx (by omega) (.inl rfl) _ _).retag ht) (.inl ⟨by omega,by simp[cnt,FI]⟩) (by omega)
   .simp at c;subst c;exact I.gq.A0
   .simp at c;subst c;simp[mk,aG,bl]at k
   .simp at c;subst c;simp[mk]
  .obtain⟨g',w',es,hgo,⟨rfl,rfl⟩,FK⟩:=lJ w (Go.ConcN.RW.refl w);exact kC I hx hg hgo (hm':=F) (λ_ _=>rfl) (ba _) (λy _ _=>.refl ..) (.refl w') (.rel FK) (by simp) (by simp) (by simp) (by rw[SO];rfl) (λh=>absurd h (by decide)) (λ_=>I.gq.xL x hx hA) (λh=>absurd h (by decide)) I.gq.pay I.wg (λ_ ht _=>(same _ _).retag ht)
    (.inr ⟨FI.symm,hA.symm,by rw[XQ];exact Rk.DL _ s⟩) (by omega)
 |@tail sg m dd g w h6 h =>
  have OK:∀{g':ak} {w':aA} {es:Array Event} {s' m' FJ:Nat} {qk GQ:Int},aH P ae g w=.go g' w' es->Aside Y.Wg w w'->WgAt ty Y.Wg w' qk GQ->(∀e∈es,Bk Y.Wg e) ->
    (∀jx e,es[jx]?=aa e->(aG e).touch?=af∨0<deafBehind dd (es.extract 0 jx))->s'<=6->WSit P ty Y.Wg Y.C N OI OI 0 (Y.kc*x+1) (val x 0) s' m' FJ g' w'->deafBehind dd es=FJ ->
    (∀tag',(tag'=tag∨(tag=.blk/\tag'=.w3))->(mayWake P g=ab->g'.status=.running->tag'≠.blk)->Go.ConcN.Mode j (upd D x ⟨s',0,FJ⟩) tag' qk GQ)->((s'<sg/\cnt ⟨s',0,FJ⟩<=cnt (D x))∨(s'=sg/\m'+1=m)) ->
    ∃m₁ ops μ',runT P (crowd gs w sl) (Y.base+x)=(.next m₁,ops)/\FH (Y.base+n) μ' μ/\Inv P ty Y N val n T G μ' m₁ (t++ops):=by
   intro g' w' es s' m' FJ qk GQ hgo DN I8 GR hd VZ SQ XW vX u;obtain⟨cs,V0,V1⟩:=I.gq.pay;refine kC I hx hg hgo (hm':=F) (λ_ _=>rfl) (by rw[DN.size];grind) (λy hy _=>.wg DN I.gq.tl.Ib I7 (λb o v H=>(I.gq.tl.ms y hy b o v H).2.2.1) I.gq.tl.ne) (.wg DN) (.tail VZ SQ) (I6 GR (by rw[DN.size];exact I.gq.A0)) (MM GR) (Bv GR) (by grind)
    (λ_=>let ⟨r,hr⟩:=I.gq.rel x hx (by omega);⟨r,hr.book XR _ _ GR hd⟩) (λ_ i ZQ R0=>(jC (DN.block _ I.gq.tl.ne) _).trans (I.gq.xL x hx hA i ZQ R0)) (λ_=>(jC (DN.block _ I.gq.tl.ne) _).trans (I.gq.Bu x hx (by omega))) ⟨cs,(DN.block _ I.gq.tl.ne).trans V0,V1⟩ I8 vX
    (u.imp (λh=>⟨by omega,h.2⟩) λh=>⟨by omega,hA.symm,by rw[XQ,<-h.2];exact Rk.DL _ s⟩) (by omega)
  have book:∀{g':ak} {w':aA} {es:Array Event} {s' m' FJ:Nat} {qk GQ:Int},aH P ae g w=.go g' w' es->Aside Y.Wg w w'->WgAt ty Y.Wg w' qk GQ->(∀e∈es,Bk Y.Wg e) ->
    (∀jx e,es[jx]?=aa e->(aG e).touch?=af∨0<deafBehind dd (es.extract 0 jx))->s'<=6->WSit P ty Y.Wg Y.C N OI OI 0 (Y.kc*x+1) (val x 0) s' m' FJ g' w'->deafBehind dd es=FJ ->
    Go.ConcN.Mode j (upd D x ⟨s',0,FJ⟩) tag qk GQ->((s'<sg/\cnt ⟨s',0,FJ⟩<=cnt (D x))∨(s'=sg/\m'+1=m)) ->
    ∃m₁ ops μ',runT P (crowd gs w sl) (Y.base+x)=(.next m₁,ops)/\FH (Y.base+n) μ' μ/\Inv P ty Y N val n T G μ' m₁ (t++ops) :=
   λhgo DN I8 GR hd VZ SQ XW vX u=>OK hgo DN I8 GR hd VZ SQ XW (λ_ ht _=>vX.retag ht) u
  have idle:∀{g':ak} {m':Nat},aH P ae g w=.go g' w #[]->WSit P ty Y.Wg Y.C N OI OI 0 (Y.kc*x+1) (val x 0) sg m' dd g' w->m'+1=m ->
    ∃m₁ ops μ',runT P (crowd gs w sl) (Y.base+x)=(.next m₁,ops)/\FH (Y.base+n) μ' μ/\Inv P ty Y N val n T G μ' m₁ (t++ops):=by intro g' m' hgo SQ F;exact book hgo (.refl Y.Wg w) I.wg (by simp) (by simp) h6 SQ rfl (same _ _) (.inr ⟨rfl,F⟩)
  cases h with
  |r0 h=>omega
  |k1 h =>
   rcases Goes.cases h with lI|⟨m',rfl,lJ⟩
   .obtain⟨_,g',hgo,m₂,hk⟩:=lI w (Go.ConcN.RW.refl w);exact book hgo (.refl Y.Wg w) I.wg (by intro e c;simp at c;subst c;exact .inl rfl) (by intro jx e c;exact .inl (by have:=pv c;simp at this;subst this;rfl)) (by decide) (.d1 hk) rfl (I.mode.counted hx (by omega) (.inr rfl) _ _) (.inl ⟨by omega,by simp[cnt,FI]⟩)
   .obtain⟨g',w',es,hgo,⟨rfl,rfl⟩,FK⟩:=lJ w (Go.ConcN.RW.refl w);exact idle hgo (.k1 FK) rfl
  |d1 h =>
   rcases Goes.cases h with lI|⟨m',rfl,lJ⟩
   .obtain⟨_,PE⟩:=lI w (Go.ConcN.RW.refl w);have zI:=I.wg;have I9:=I.mode;have UM:cnt (D x)=1:=by simp[cnt,FI]
    have hV1:1<=Vc j D:=by have:=le_sumTo (f:=λx=>cnt (D x)) hx;simp only[Vc];omega
    have bk2:∀e∈#[rd (stA Y.Wg),wr (stA Y.Wg)],Bk Y.Wg e:=by intro e c;simp at c;rcases c with rfl|rfl<;>exact bk_cell _ _ rfl
    have UT:∀jx e,(#[rd (stA Y.Wg),wr (stA Y.Wg)]:Array Event)[jx]?=aa e->(aG e).touch?=af∨0<deafBehind 1 ((#[rd (stA Y.Wg),wr (stA Y.Wg)]:Array Event).extract 0 jx):=by
     intro jx e c
     match jx,c with
     |0,_=>exact .inr (by simp[deafBehind])
     |1,_=>exact .inr (by simp[deafBehind,rd])
     |jx+2,c=>simp at c
    have hq0:∀q,cnt (⟨1,q,1⟩:WD)=0:=λ_=>rfl;have dg:∀q,OpenSt j D->OpenSt j (upd D x ⟨1,q,1⟩):=λq h a J=>by
     by_cases e:a=x
     .subst e;rw[upd_same];simp
     .rw[upd_ne D _ e];exact h a J
    generalize ZR:st=V2 at I9 zI;generalize ZS:sm=ZT at I9 zI;cases I9 with
    |opn l z p =>
     obtain⟨v,H⟩:∃v,Vc j D+pend tag=v+1:=⟨Vc j D+pend tag-1,by omega⟩
     rw[H]at zI;have Ps:WgAt ty Y.Wg w (((v:Nat)+1)*KK+((0:Nat):Int)) 0:=by grind
     obtain⟨g',hgo,_,hq⟩:=PE v 0 (by omega) (by omega) Ps;obtain⟨q,hq⟩:=hq (by omega);have UC:Vc j (upd D x ⟨1,0,1⟩)+pend tag=v:=by have:=Vc_upd D (⟨1,0,1⟩:WD) hx;grind
     refine book hgo (aside_setCell w (stA Y.Wg) _) (zI.setSt _) bk2 UT (by decide) (.quit hq) rfl ?_ (.inl ⟨by omega,by grind⟩);have e:((v:Nat):Int)*KK+((0:Nat):Int)=((Vc j (upd D x ⟨1,0,1⟩)+pend tag:Nat):Int)*KK:=by grind
     rw[e];exact .opn l (dg 0 z) (λvs ev=>by grind)
    |reg l z p =>
     obtain⟨v,H⟩:∃v,Vc j D=v+1:=⟨Vc j D-1,by omega⟩
     rw[H]at zI;have hp:pend tag=0:=by cases tag<;>first|rfl|exact l.elim
     have Ps:WgAt ty Y.Wg w (((v:Nat)+1)*KK+((1:Nat):Int)) 0:=by grind
     obtain⟨g',hgo,W,hq⟩:=PE v 1 (by omega) (by omega) Ps;by_cases Po:v=0
     .subst Po;obtain⟨m₂,hk⟩:=W ⟨rfl,rfl⟩;refine book hgo (aside_setCell w (stA Y.Wg) _) (zI.setSt _) bk2 UT (by decide) (.d2 hk) rfl ?_ (.inl ⟨by omega,by simp[cnt]⟩);have Du:∀a,a<j->a≠x->(D a).stage=1:=λa J e=>by have c0:=others_uncounted hx H UM a J e;have:=z a J;simp only[cnt]at c0;split at c0<;>omega
      have:=Go.ConcN.Mode.last (j:=j) (D:=upd D x ⟨4,0,1⟩) (tag:=tag) x l hx (by rw[upd_same];simp) (λa J e=>by rw[upd_ne D _ e];grind);rw[upd_same]at this;grind
     .obtain⟨q,hq⟩:=hq (by omega);have UC:Vc j (upd D x ⟨1,0,1⟩)=v:=by have:=Vc_upd D (⟨1,0,1⟩:WD) hx;grind
      refine book hgo (aside_setCell w (stA Y.Wg) _) (zI.setSt _) bk2 UT (by decide) (.quit hq) rfl ?_ (.inl ⟨by omega,by grind⟩);have e:((v:Nat):Int)*KK+((1:Nat):Int)=((Vc j (upd D x ⟨1,0,1⟩):Nat):Int)*KK+1:=by grind
      rw[e];exact .reg l (dg 0 z) (by omega)
    |last L _ z p X =>
     grind
    |sema z=>have:=z x hx;omega
    |fin _ z=>have:=z x hx;omega
   .obtain⟨g',w',es,hgo,⟨rfl,rfl⟩,FK⟩:=lJ w (Go.ConcN.RW.refl w);exact idle hgo (.d1 FK) rfl
  |d2 h =>
   rcases Goes.cases h with lI|⟨m',rfl,lJ⟩
   .obtain⟨_,OL⟩:=lI w (Go.ConcN.RW.refl w);obtain⟨SR,Du,e1,e2⟩:=I.mode.isLast hx (by omega);have zI:=I.wg;rw[e1,e2,FI]at zI;obtain⟨g',hgo,m₂,hk⟩:=OL (by grind);refine book hgo (.refl Y.Wg w) zI (by intro e c;simp at c;subst c;exact bk_cell _ _ rfl) (by intro jx e c;match jx,c with|0,_=>exact .inr (by simp[deafBehind])|jx+1,c=>grind) (by decide) (.d3 hk) rfl ?_ (.inl ⟨by omega,by simp[cnt]⟩);have:=Go.ConcN.Mode.last (j:=j) (D:=upd D x ⟨3,0,1⟩) (tag:=tag) x SR hx (by rw[upd_same];simp) (λa J e=>by rw[upd_ne D _ e];grind);rw[upd_same]at this;grind
   .obtain⟨g',w',es,hgo,⟨rfl,rfl⟩,FK⟩:=lJ w (Go.ConcN.RW.refl w);exact idle hgo (.d2 FK) rfl
  |d3 h =>
   rcases Goes.cases h with lI|⟨m',rfl,lJ⟩
   .obtain⟨_,OL⟩:=lI w (Go.ConcN.RW.refl w);obtain⟨SR,Du,e1,e2⟩:=I.mode.isLast hx (by omega);have zI:=I.wg;rw[e1,e2,FI]at zI;obtain⟨g',hgo,m₂,hk⟩:=OL (by grind);refine book hgo (aside_setCell w (stA Y.Wg) _) (zI.setSt 0) (by intro e c;simp at c;subst c;exact bk_cell _ _ rfl) (by intro jx e c;match jx,c with|0,_=>exact .inr (by simp[deafBehind])|jx+1,c=>grind) (by decide) (.d4 hk) rfl ?_ (.inl ⟨by omega,by simp[cnt]⟩);have:=Go.ConcN.Mode.last (j:=j) (D:=upd D x ⟨2,0,1⟩) (tag:=tag) x SR hx (by rw[upd_same];simp) (λa J e=>by rw[upd_ne D _ e];grind);rw[upd_same]at this;grind
   .obtain⟨g',w',es,hgo,⟨rfl,rfl⟩,FK⟩:=lJ w (Go.ConcN.RW.refl w);exact idle hgo (.d3 FK) rfl
  |d4 h =>
   rcases Goes.cases h with lI|⟨m',rfl,lJ⟩
   .obtain⟨_,ZU,OL⟩:=lI w (Go.ConcN.RW.refl w);obtain⟨SR,Du,e1,e2⟩:=I.mode.isLast hx (by omega);have zI:=I.wg;rw[e1,e2,FI]at zI;obtain⟨g',hgo,q,hq⟩:=OL (by grind);have vY:g'.status=.running:=by
     cases q with
     |zero=>exact absurd hq.2 (by decide)
     |succ q=>exact hq.elim (λx=>absurd x.2 (by decide)) (λx=>x.1)
    refine OK hgo (aside_setCell w (smA Y.Wg) _) (zI.setSm 1) (es:=semEvents (smA Y.Wg)) ?_ ?_ (by decide) (.quit hq) (by simp[deafBehind,semEvents]) ?_ (.inl ⟨by omega,by simp[cnt]⟩)
    .intro e c;simp[semEvents]at c;rcases c with rfl|rfl|rfl|rfl
     .exact .inl rfl
     .exact bk_cell _ _ rfl
     .exact bk_cell _ _ rfl
     .exact .inr (.inl rfl)
    .intro jx e c
     match jx,c with
     |0,c=>simp[semEvents]at c;subst c;exact .inl rfl
     |1,_=>exact .inr (by simp[deafBehind,semEvents])
     |2,_=>exact .inr (by simp[deafBehind,semEvents])
     |3,c=>simp[semEvents]at c;subst c;exact .inl rfl
     |jx+4,c=>simp[semEvents]at c
    .intro tag' ht S;have hnb:=S ZU vY;have e3:tag'=.w3:=by
      rcases ht with rfl|⟨_,rfl⟩
      .cases tag'<;>first|rfl|exact SR.elim|grind
      .rfl
     subst e3;simp only[bY];exact .sema λa J=>by
      by_cases e:a=x
      .subst e;rw[upd_same]
      .rw[upd_ne D _ e];grind
   .obtain⟨g',w',es,hgo,⟨rfl,rfl⟩,FK⟩:=lJ w (Go.ConcN.RW.refl w);exact idle hgo (.d4 FK) rfl
  |quit h =>
   cases m with
   |zero=>rw[h.1]at vK;cases vK
   |succ q =>
    rcases h with⟨hf,_⟩|⟨_,g',es,OM,lJ,hq⟩
    .grind
    .have GR:∀e∈es,Bk Y.Wg e:=λe c=>bk_of_mute (OM e c);have XL:∀jx e,es[jx]?=aa e->(aG e).touch?=af∨0<deafBehind dd (es.extract 0 jx):=λjx e c=>.inl (touch_mute (OM e (pv c)));exact book (lJ w) (.refl Y.Wg w) I.wg GR XL (by decide) (.quit hq) rfl (same _ _) (.inr ⟨rfl,rfl⟩)
end
end
section
open Go.Conc
open Go.ConcN (WD CTag Vc Ssum pend phi cnt WgLive PayAt Has RW DWs WSit RelBy sumTo upd upd_same upd_ne AtR0 isW3 isOpen OpenSt deafBehind_idle bk_cell okW_none Vc_upd Vc_le le_sumTo others_uncounted sumTo_upd_out bk_dis bk_en bk_rd bk_rw bk_sem allQuit_of exists_counted)
open Go.ConcR (KK WgAt stA smA rd wr mk Payload g_of_ofEvents Bk bk_of_mute ofEvent_loc_mark ofEvent_cell ofEvent_mk)
variable [Payload]
section
variable {Y:Lay}{T k:ak->St->Prop}{l hm':Nat->Nat}{z G:Nat->Mem}{tag:CTag}{rk:Rk}{d:Nat}{a:ak}{R:Mu}{sl:Option (Nat×Nat)}{t:Trace}{D:Nat->WD}{A:Nat->Nat}{K:Nat->Rk}{st sm:Int}
omit [Payload]in
def TL.congr{B:Nat}(h:TL Y l z t j B)(e:∀y,y<j->G y=z y):TL Y l G t j B :=
 ⟨h.base,h.Ib,h.hC,h.ne,h.OH,h.P1,h.Ic,λx H=>by rw[e x H];exact h.ms x H,h.T0,h.nr,h.seen,h.old,h.P2,h.GO,λi a hi X l=>(h.new i a hi X l).imp id λ⟨x,H,p,F⟩=>⟨x,H,p,by grind⟩,
  λx H=>by rw[e x H];exact h.mw x H,h.over⟩
def WS.congr{x a st d:Nat}{r:Rk}(h:WS P ty Y N val l z x a st r d g w)(e:G x=z x):WS P ty Y N val l G x a st r d g w:=by
 cases h with
 |am p F J=>exact .am p F (by grind)
 |rel p=>exact .rel p
 |tail h0 p=>exact .tail h0 p
def Com.congr{q:Nat}(h:Com P ty Y N val l z j gs w t D A K q)(e:∀y,y<j->G y=z y):Com P ty Y N val l G j gs w t D A K q :=
 ⟨h.size,h.lv,h.above,λx H=>let ⟨g,p,F⟩:=h.wk x H;⟨g,p,F.congr (e x H)⟩,h.tl.congr e,h.norel,h.deaf0,h.deafW,h.rel,h.xL,h.Bu,h.pay,h.live,h.A0,h.Di,h.LW,h.kc,λy n=>by rw[e y n];exact h.MK y n⟩
omit [Payload]in
def MO{s2:St}{es:Array Event}(V:jB Y l z j s)(W:aF σ s)(O:eN s es)(st:Step σ s σ' s2):
  (∀e∈es,(aG e).low s2.w.heap.size)/\(∀e∈es,∀a,(aG e).touch?=aa a->a.loc.isMemory=ab->rV Y (m0 l s.w.heap.size 0) a) /\
  (∀e∈es,∀a,(aG e).touch?=aa a->a.kind=.plain->a.write=ab->∀x,x<j->∀b o v,a.loc=.cell ⟨b,o,af⟩->z x b o≠aa v) /\
  (∀e∈es,e.loc≠.mark .disable/\e.loc≠.mark .enable)/\∀e∈es,∀a,e.loc≠.mark (.release a):=by
 have key:∀e∈es,(aG e).low s2.w.heap.size/\(∀a,(aG e).touch?=aa a->a.loc.isMemory=ab->rV Y (m0 l s.w.heap.size 0) a) /\
   (∀a,(aG e).touch?=aa a->a.kind=.plain->a.write=ab->∀x,x<j->∀b o v,a.loc=.cell ⟨b,o,af⟩->z x b o≠aa v)/\(e.loc≠.mark .disable/\e.loc≠.mark .enable)/\∀a,e.loc≠.mark (.release a):=by
  intro e E;have h:=O e E;obtain⟨loc,wr,sy⟩:=e;cases loc with
  |cell ad =>
   obtain⟨p,F,J⟩:=h;simp only at p F J;subst p;have u:ad.block<s.w.heap.size/\l ad.block=0/\ad.block≠Y.C/\ad.block≠Y.Wg/\¬Y.Sh ad.block:=by
    rcases J with J|⟨⟨L,U,J⟩,_⟩|⟨_,v,J⟩
    .exact J.elim
    .obtain⟨k1,Z,Q,k4,k5⟩:=V.blk _ (.inr ⟨L,U,J⟩);grind
    .obtain⟨k1,Z,Q,k4,k5⟩:=V.M _ _ _ J;grind
   refine⟨by rw[ofEvent_cell];exact cA u.1 st.size,λb c _=>?_,λb c _ ZV x H b' o v hl S=>?_,⟨by simp,by simp⟩,by simp⟩
   .rw[ofEvent_cell]at c;simp only[bl,dm]at c;subst c;exact .inr ⟨ad.block,rfl,by grind[eT],u.2.2.2.1,u.2.2.1,u.2.2.2.2,rfl⟩
   .rw[ofEvent_cell]at c;simp only[bl,dm]at c;subst c;simp only at ZV hl;have hM:=V.ms x H b' o v S;grind
  |obj r =>
   obtain⟨p,F⟩:=h;simp only at p F;subst p;obtain⟨L,U,J⟩:=F.resolve_left id;obtain⟨k1,Z,Q,k4,k5⟩:=V.blk _ (.inr ⟨L,U,J⟩);refine⟨?_,λb c _=>?_,λb c _ _ x _ b' o v hl=>?_,⟨by simp,by simp⟩,by simp⟩
   .simp[aG,MemAct.low,Loc.low];exact cA k5 st.size
   .simp[aG,bl]at c;subst c;exact .inr ⟨r,rfl,by grind[eT],Q,Z,k4,rfl⟩
   .simp[aG,bl]at c;grind
  |mark m =>
   simp only[nJ]at h;rcases h with rfl|⟨f,rfl⟩
   .exact⟨by simp[aG,MemAct.low],λb c=>by simp[aG,bl]at c,λb c=>by simp[aG,bl]at c,⟨by simp,by simp⟩,by simp⟩
   .exact⟨by simp[aG,MemAct.low],λb c=>by simp[aG,bl]at c,λb c=>by simp[aG,bl]at c,⟨by simp,by simp⟩,by simp⟩
  |_=>exact h.elim
 grind
def sU(I:sT P ty Y N val n T k R gs w t l z j D A K d tag rk a s st sm){a':ak}{es:Array Event}{tag':CTag}{rk':Rk}{qk GQ:Int}(hgo:aH P ab a w=.go a' w' es)(W:∀b,b<w.heap.size->hm' b=l b)(Iw:w.heap.size<=w'.heap.size)(V3:∀y,y<j->GP Y l (z y) y w w')(SN:∀e∈es,(aG e).low w'.heap.size)(ZW:∀e∈es,∀a,(aG e).touch?=aa a->a.loc.isMemory=ab->rV Y hm' a)(US:∀e∈es,∀a,(aG e).touch?=aa a->a.kind=.plain->a.write=ab->∀x,x<j->∀b o v,a.loc=.cell ⟨b,o,af⟩->z x b o≠aa v)(Fh:∀e∈es,∀a,e.loc≠.mark (.release a))(Ja:PayAt Y.C N w')(zI:WgAt ty Y.Wg w' qk GQ)(GS:CS P ty Y N val n T k tag' j rk' (deafBehind d es) a' s')(SU:bZ s' {s' with w:=w'})(g:jB Y hm' z j s')(q:Go.ConcN.Mode j D tag' qk GQ)(u:phi n (Vc j D) tag'<phi n (Vc j D) tag∨(phi n (Vc j D) tag'=phi n (Vc j D) tag/\Rk.lt rk' rk)):
  ∃m₁ ops μ',runT P (crowd gs w sl) 0=(.next m₁,ops)/\FH (Y.base+n) μ' R/\Inv P ty Y N val n T k μ' m₁ (t++ops):=by
 have c:=I.gq.tl.base;have vK:=runT_crowd_go (P:=P) (sl:=sl) (i:=0) I.a0 (by simpa using hgo)
 refine⟨_,_,(phi n (Vc j D) tag'+Ssum j D+sumTo j A,(K,rk')),vK,?_,_,w',sl,hm',z,j,D,A,K,deafBehind d es,tag',rk',a',s',qk,GQ,rfl,
  ⟨Go.ConcN.get_map_set_same _ _ _ (by rw[I.gq.size];omega),GS,SU,g,I.gq.step0 W Iw V3 SN ZW US Fh Ja ⟨_,_,zI⟩,zI,q,rfl⟩⟩
 rw[I.mu];rcases u with h|⟨p,F⟩
 .exact Prod.Lex.left _ _ (by omega)
 .rw[p];exact Prod.Lex.right _ (Prod.Lex.right _ F)
def ig(I:sT P ty Y N val n T k R gs w t l z j D A K d tag rk a s st sm){a':ak}{es:Array Event}{rk':Rk}{s1:St}(p:bZ s1 {s1 with w:=w})(q:jB Y l z j s1)(hgo:aH P ab a w=.go a' s'.w es)(VY:qF {s1 with w:=w} s' es∨Es Y.Wg {s1 with w:=w} s' es)(GS:CS P ty Y N val n T k tag j rk' d a' s')(u:Rk.lt rk' rk):
  ∃m₁ ops μ',runT P (crowd gs w sl) 0=(.next m₁,ops)/\FH (Y.base+n) μ' R/\Inv P ty Y N val n T k μ' m₁ (t++ops):=by
 rcases VY with⟨⟨σ,σ',W,jL,g⟩,O⟩|⟨rfl,ad,ZX,VX⟩
 .have Q:jB Y l z j {s1 with w:=w}:=q.rely p.size;obtain⟨e1,e2,e3,e4,e5⟩:=MO Q W O g;have vW:∀b,b<w.heap.size->(l b≠0∨b=Y.C∨b=Y.Wg)->s'.w.heap[b]?=w.heap[b]?:=λb c Bi=>g.keep b c λL U Pm=>by obtain⟨q1,q2,q3,_⟩:=Q.blk b (.inr ⟨L,U,Pm⟩);grind
  have I7:=I.gq.tl.base;refine sU I hgo (hm':=m0 l w.heap.size 0) (λb c=>eT c) g.size (λy hy=>⟨g.size,λb c ZO=>vW b c (.inl (by omega)),λb o v S _=>jL.mem b o v (g.mem _ _ _ (q.ms y hy b o v S)),λo _ _=>jC (vW _ I.gq.Di (.inr (.inl rfl))) o,g.os,g.tape,g.output⟩) e1 e2 e3 e5 ?_
   (I.wg.of_block (vW _ I.gq.A0 (.inr (.inr rfl)))) (s':=s') (tag':=tag) (rk':=rk') (by rw[deafBehind_idle e4];exact GS) (bZ.vV jL.mem) (Q.step jL g I.gq.A0 I.gq.Di I.gq.LW) I.mode (.inr ⟨rfl,u⟩)
  obtain⟨cs,c1,c2⟩:=I.gq.pay;exact⟨cs,(vW _ I.gq.Di (.inr (.inl rfl))).trans c1,c2⟩
 .have SW:∀e∈es,e=mk (.read ad)∨e=mk (.write ad):=by grind
  refine sU I hgo (hm':=l) (λb c=>rfl) (ba _) (λy hy=>.refl ..) (λe E=>?_) (λe E b c _=>?_) (λe E b c hk=>?_) (λe E=>?_) I.gq.pay I.wg (s':={s1 with w:=w}) (tag':=tag) (rk':=rk') ?_ (p.trans' ) (q.rely p.size) I.mode (.inr ⟨rfl,u⟩)
  .have hW:=I.gq.A0;rcases SW e E with rfl|rfl<;>(rw[ofEvent_mk];show ad.block<_;grind)
  .rcases SW e E with rfl|rfl<;>(rw[ofEvent_mk]at c;simp[bl]at c;subst c;exact .inl ⟨ad,rfl,ZX,by simp⟩)
  .rcases SW e E with rfl|rfl<;>(rw[ofEvent_mk]at c;simp[bl]at c;grind)
  .rcases SW e E with rfl|rfl<;>simp[mk]
  .rw[deafBehind_idle (λe E=>by rcases SW e E with rfl|rfl<;>simp[mk])];exact GS
def gz(I:sT P ty Y N val n T k R gs w t l z j D A K d tag rk a s st sm){a':ak}{es:Array Event}{tag':CTag}{rk':Rk}{qk GQ:Int}{s1:St}(p:bZ s1 {s1 with w:=w})(g:jB Y l z j s1)(hgo:aH P ab a w=.go a' w' es)(DN:Aside Y.Wg w w')(I8:WgAt ty Y.Wg w' qk GQ)(GR:∀e∈es,Bk Y.Wg e)(GS:CS P ty Y N val n T k tag' j rk' (deafBehind d es) a' {s1 with w:=w'})(vX:Go.ConcN.Mode j D tag' qk GQ)(u:phi n (Vc j D) tag'<phi n (Vc j D) tag∨(phi n (Vc j D) tag'=phi n (Vc j D) tag/\Rk.lt rk' rk)):
  ∃m₁ ops μ',runT P (crowd gs w sl) 0=(.next m₁,ops)/\FH (Y.base+n) μ' R/\Inv P ty Y N val n T k μ' m₁ (t++ops):=by
 obtain⟨cs,UM,RQ⟩:=I.gq.pay;have F:bZ s1 {s1 with w:=w'}:=g.I4 p (DM.wg DN);refine sU I hgo (hm':=l) (λb c=>rfl) (by rw[DN.size];grind) (λy hy=>.wg DN I.gq.tl.Ib I.gq.tl.base (λb o v S=>(I.gq.tl.ms y hy b o v S).2.2.1) I.gq.tl.ne) (I6 GR (by rw[DN.size];exact I.gq.A0)) (λe E b c l=>?_) (λe E b c hk=>?_) (Bv GR)
  ⟨cs,(DN.block _ I.gq.tl.ne).trans UM,RQ⟩ I8 GS F.trans' (g.rely F.size) vX u
 .rcases GR e E with q|q|⟨ad,wr,rfl,X⟩
  .rw[ofEvent_loc_mark q]at c;cases c
  .rw[ofEvent_loc_mark q]at c;cases c
  .rw[ofEvent_cell]at c;simp only[bl,dm]at c;subst c;exact .inl ⟨ad,rfl,X,by simp⟩
 .rcases GR e E with q|q|⟨ad,wr,rfl,X⟩
  .rw[ofEvent_loc_mark q]at c;cases c
  .rw[ofEvent_loc_mark q]at c;cases c
  .rw[ofEvent_cell]at c;simp only[bl,dm]at c;grind
end
section
variable {Y:Lay}{T f:ak->St->Prop}{p hm':Nat->Nat}{u k:Nat->Mem}{tag:CTag}{rk:Rk}{d:Nat}{a:ak}{C:Mu}{sl:Option (Nat×Nat)}{t:Trace}{D:Nat->WD}{A:Nat->Nat}{K:Nat->Rk}{st E:Int}
def CS.bound(h:CS P ty Y N val n T f tag j rk d a s):j+pend tag<=n:=by cases h<;>simp only[pend]<;>(try simp)<;>omega
omit [Payload]in
def ij(h:jZ (Cx.lead P ty Y.Wg) (Es Y.Wg) S rk a s)(l:bZ s {s with w:=w})(F:jB Y p u j s)(live:WgLive ty Y.Wg w):
  (∃s',bZ s' {s' with w:=w}/\jB Y p u j s'/\S a s')∨∃s',bZ s' {s' with w:=w}/\jB Y p u j s'/\∃g' s2 es r',aH P ab a w=.go g' s2.w es/\(qF {s' with w:=w} s2 es∨Es Y.Wg {s' with w:=w} s2 es)/\jZ (Cx.lead P ty Y.Wg) (Es Y.Wg) S r' g' s2/\Rk.lt r' rk:=by
 rcases h.norm (λs0=>bZ s0 {s0 with w:=w}/\jB Y p u j s0) (λs0 s' B hi=>⟨hi.1.ghost B,hi.2.ghost B⟩) (λG=>False.elim G) ⟨l,F⟩with⟨s',⟨k1,c⟩,z⟩|⟨_,s',⟨k1,c⟩,z⟩
 .grind
 .exact .inr ⟨s',k1,c,z _ ⟨k1,λ_=>live⟩⟩
def WS.quits{x a st d:Nat}{r:Rk}{g:ak}(h:WS P ty Y N val p u x a st r d g w)(b:st=1):∃m,QuitsD P m d g:=by
 cases h with
 |am _ _ _=>cases b
 |rel _=>cases b
 |tail _ h=>exact⟨_,h.quits b⟩
def WS.small{x a st d:Nat}{r:Rk}(h:WS P ty Y N val p u x a st r d g w)(b:st=1):a=0:=by
 cases h with
 |am _ _ _=>cases b
 |rel _=>rfl
 |tail _ h=>rfl
def Jb(I:sT P ty Y N val n T f C gs w t p u j D A K d tag rk a s st E)(hn:n<2147483648)(UU:∀g s,f g s->eg (Cx.lead P ty Y.Wg) (Es Y.Wg) (AtW1 P ty Y T f) g s)(vK:a.status=.running):
  ∃W ops,runT P (crowd gs w sl) 0=(.next W,ops)/\((∃hm' k,ML P Y N val n T hm' k W (t++ops))∨∃μ',FH (Y.base+n) μ' C/\Inv P ty Y N val n T f μ' W (t++ops)):=by
 have ZN:=Vc_le j D;have I7:=I.gq.tl.base;have live:=I.gq.live;have fin:∀{X:Prop},(∃W ops μ',runT P (crowd gs w sl) 0=(.next W,ops)/\FH (Y.base+n) μ' C/\Inv P ty Y N val n T f μ' W (t++ops)) ->
   ∃W ops,runT P (crowd gs w sl) 0=(.next W,ops)/\((∃hm' k,ML P Y N val n T hm' k W (t++ops))∨∃μ',FH (Y.base+n) μ' C/\Inv P ty Y N val n T f μ' W (t++ops)) :=
  λ{_} ⟨W,ops,μ',l,h2,h3⟩=>⟨W,ops,l,.inr ⟨μ',h2,h3⟩⟩
 have hbound:=I.cs.bound;have cs:=I.cs;have Q:=I.wg;have J:=I.mode;cases cs with
 |@skd r rk g s hr h =>
  rcases ij h I.rely I.lead live with⟨s',k1,c,_,g',H,O⟩|⟨s',k1,c,g',s2,es,r',H,U,O,R⟩
  .obtain⟨r2,O⟩:=O {s' with w:=w} (fV k1 live);exact fin (X:=True) (gz I k1 c (H w) (.refl Y.Wg w) Q bk_dis (.sa1 hr O) (J.reopen aq aq rfl (by simp)) (.inl (by simp only[phi];omega)))
  .exact fin (X:=True) (ig I k1 c H U (.skd hr O) R)
 |@sa1 r rk g s hr h =>
  rcases ij h I.rely I.lead live with⟨s',k1,c,_,V⟩|⟨s',k1,c,g',s2,es,r',H,U,O,R⟩
  .obtain⟨ho,e1,e2,_⟩:=J.open_inv aq;rw[e1,e2]at Q;obtain⟨a',H,r2,O⟩:=V {s' with w:=w} (fV k1 live) (Vc (n-(r+1)) D) (by omega) (by simpa[pend]using Q);refine fin (X:=True) (gz I k1 c H (aside_setCell w (stA Y.Wg) _) (Q.setSt _) bk_rw (.ske hr O) ?_ (.inl (by simp only[phi];omega)));have e:(((Vc (n-(r+1)) D:Nat):Int)+1)*KK=((Vc (n-(r+1)) D+pend (.sp r 3):Nat):Int)*KK:=by simp[pend]
   rw[e];exact .opn aq ho (by simp)
  .exact fin (X:=True) (ig I k1 c H U (.sa1 hr O) R)
 |@ske r rk g s hr h =>
  rcases ij h I.rely I.lead live with⟨s',k1,c,_,g',H,O⟩|⟨s',k1,c,g',s2,es,r',H,U,O,R⟩
  .obtain⟨r2,O⟩:=O {s' with w:=w} (fV k1 live);exact fin (X:=True) (gz I k1 c (H w) (.refl Y.Wg w) Q bk_en (.sgo hr O) (J.reopen aq aq rfl (by simp)) (.inl (by simp only[phi];omega)))
  .exact fin (X:=True) (ig I k1 c H U (.ske hr O) R)
 |@sgo r rk g s hr h =>
  rcases ij h I.rely I.lead live with⟨s',k1,c,_,V⟩|⟨s',k1,c,g',s2,es,r',H,U,O,R⟩
  .obtain⟨a',child,V4,_,⟨rc,VV⟩,ON⟩:=V {s' with w:=w} (fV k1 live);obtain⟨ho,e1,e2,_⟩:=J.open_inv aq;rw[e1,e2]at Q;have vY:=runT_crowd_spawn (P:=P) (sl:=sl) (i:=0) I.a0 (by simpa using V4);rw[I.gq.size]at vY;have z:jB Y p u (n-(r+1)) {s' with w:=w}:=c.rely k1.size;let k:=upd u (n-(r+1)) s'.M;have XX:∀y,y<n-(r+1)->k y=u y:=λy hy=>upd_ne u _ (by omega);have V5:k (n-(r+1))=s'.M:=upd_same u _ _;have P4:bZ (St.child {s' with w:=w}) {St.child {s' with w:=w}with w:=w}:=bZ.vV k1.mem;have SX:lH p (k (n-(r+1))) (Y.base+(n-(r+1))) (St.child {s' with w:=w}):=by
    refine⟨λb hb=>?_,λb o v hv=>⟨.inr (by rw[V5];exact hv),(z.M b o v hv).2.2.2.2⟩⟩;rcases hb with hb|⟨L,hL,_⟩
    .exact hb.elim
    .simp[St.child]at hL
   have FL:=(I.gq.congr XX).spawn (a':=a') (x:={g:=0,fn:=a.frame.fn,pos:=a.frame.place,act:=.go (Y.base+(n-(r+1)))}) (y:={g:=Y.base+(n-(r+1)),fn:=child.frame.fn,pos:=a.frame.place,act:=.start}) ⟨rfl,rfl⟩ ⟨rfl,rfl⟩
    (λb o v hv=>by rw[V5]at hv;exact z.M b o v hv) VV P4 SX
   have eV:Vc (n-(r+1)+1) (upd D (n-(r+1)) ⟨7,0,0⟩)=Vc (n-(r+1)) D+1:=by simp only[Vc,sumTo,upd_same];rw[sumTo_upd_out D _ cnt (ba _)];rfl
   have eS:Ssum (n-(r+1)+1) (upd D (n-(r+1)) ⟨7,0,0⟩)=Ssum (n-(r+1)) D+7:=by simp only[Ssum,sumTo,upd_same];rw[sumTo_upd_out D _ WD.stage (ba _)]
   have eA:sumTo (n-(r+1)+1) (upd A (n-(r+1)) 1)=sumTo (n-(r+1)) A+1:=by have:sumTo (n-(r+1)) (upd A (n-(r+1)) 1)=sumTo (n-(r+1)) A:=sumTo_upd_out A 1 id (i:=n-(r+1)) (j:=n-(r+1)) (ba _);show sumTo (n-(r+1)) (upd A (n-(r+1)) 1)+upd A (n-(r+1)) 1 (n-(r+1))=_;rw[upd_same];grind
   have UW:OpenSt (n-(r+1)+1) (upd D (n-(r+1)) ⟨7,0,0⟩):=λi hi=>by
    by_cases e:i=n-(r+1)
    .subst e;rw[upd_same];simp
    .rw[upd_ne D _ e];exact ho i (by omega)
   have V6:((gs.setIfInBounds 0 a').push child)[0]?=aa a':=by
    have h0:0<gs.size:=by rw[I.gq.size];omega
    grind
   have zJ:jB Y p k (n-(r+1)+1) {s' with w:=w}:=⟨z.blk,z.M,λy hy b o v hv=>by
    rcases cM y (n-(r+1))with l|l
    .rw[XX y l]at hv;exact z.ms y l b o v hv
    .obtain rfl:y=n-(r+1):=by omega
     rw[V5]at hv;exact hv⟩
   have ej:n-(r+1)+1=n-r:=by omega
   rw[ej]at FL eV eS eA UW zJ;have V7:∀tag',pend tag'=0->((Vc (n-(r+1)) D+pend (.sp r 2):Nat):Int)*KK=((Vc (n-r) (upd D (n-(r+1)) ⟨7,0,0⟩)+pend tag':Nat):Int)*KK:=λtag' hp=>by rw[eV,hp];simp[pend]
   cases r with
   |zero =>
    obtain⟨r3,O⟩:=ON;simp only[l8]at FL eV eS eA UW V7 zJ;refine⟨_,_,vY,.inr ⟨(phi n (Vc n (upd D (n-(0+1)) ⟨7,0,0⟩)) .kd+Ssum n (upd D (n-(0+1)) ⟨7,0,0⟩)+sumTo n (upd A (n-(0+1)) 1),(upd K (Y.base+(n-(0+1))) rc,r3)),by rw[I.mu];exact Prod.Lex.left _ _ (by simp only[phi];omega),
     _,w,sl,p,k,n,_,_,_,0,.kd,r3,a',{s' with w:=w},_,_,rfl,⟨V6,.kd O,k1.trans',zJ,FL,Q,?_,rfl⟩⟩⟩
    rw[V7 .kd rfl];exact .opn aq UW (by simp)
   |succ r' =>
    obtain⟨r3,O⟩:=ON;refine⟨_,_,vY,.inr ⟨(phi n (Vc (n-(r'+1)) (upd D (n-(r'+1+1)) ⟨7,0,0⟩)) (.sp r' 5)+Ssum (n-(r'+1)) (upd D (n-(r'+1+1)) ⟨7,0,0⟩)+sumTo (n-(r'+1)) (upd A (n-(r'+1+1)) 1),(upd K (Y.base+(n-(r'+1+1))) rc,r3)),by rw[I.mu];exact Prod.Lex.left _ _ (by simp only[phi];omega),
     _,w,sl,p,k,n-(r'+1),_,_,_,0,.sp r' 5,r3,a',{s' with w:=w},_,_,rfl,⟨V6,.skd (by omega) O,k1.trans',zJ,FL,Q,?_,rfl⟩⟩⟩
    rw[V7 (.sp r' 5) rfl];exact .opn aq UW (by simp)
  .exact fin (X:=True) (ig I k1 c H U (.sgo hr O) R)
 |kd h =>
  rcases ij h I.rely I.lead live with⟨s',k1,c,_,g',H,O⟩|⟨s',k1,c,g',s2,es,r',H,U,O,R⟩
  .obtain⟨r2,O⟩:=UU _ _ (O {s' with w:=w} (fV k1 live));exact fin (X:=True) (gz I k1 c (H w) (.refl Y.Wg w) Q bk_dis (.w1 O) (J.reopen aq aq rfl (by simp)) (.inl (by simp only[phi];omega)))
  .exact fin (X:=True) (ig I k1 c H U (.kd O) R)
 |w1 h =>
  rcases ij h I.rely I.lead live with⟨s',k1,c,_,V⟩|⟨s',k1,c,g',s2,es,r',H,U,O,R⟩
  .obtain⟨ho,e1,e2,_⟩:=J.open_inv aq;rw[e1,e2]at Q;have hV:=Vc_le n D;obtain⟨a',H,h0,Bi⟩:=V {s' with w:=w} (fV k1 live) (Vc n D) (by omega) (by grind);by_cases hv:Vc n D=0
   .obtain⟨r2,O⟩:=h0 hv;refine fin (X:=True) (gz I k1 c H (.refl Y.Wg w) Q bk_rd (.ke O) ?_ (.inl (by simp only[phi];omega)));have e:((Vc n D+pend .w1:Nat):Int)*KK=0:=by grind
    rw[e];exact .fin aq (allQuit_of ho hv)
   .obtain⟨r2,O⟩:=Bi hv;refine fin (X:=True) (gz I k1 c H (.refl Y.Wg w) Q bk_rd (.w2 O) ?_ (.inl (by simp only[phi];omega)));have:=J.reopen (tag':=.w2 (Vc n D)) aq aq rfl (λvs e=>by grind);grind
  .exact fin (X:=True) (ig I k1 c H U (.w1 O) R)
 |@w2 vs rk g s h =>
  rcases ij h I.rely I.lead live with⟨s',k1,c,_,V⟩|⟨s',k1,c,g',s2,es,r',H,U,O,R⟩
  .obtain⟨ho,e1,e2,V8⟩:=J.open_inv aq;rw[e1,e2]at Q;obtain⟨hle,l⟩:=V8 vs rfl;obtain⟨V9,SY⟩:=V {s' with w:=w} (fV k1 live) (Vc n D) (by omega) (by grind);by_cases e:Vc n D=vs
   .obtain⟨a',H,r2,O⟩:=V9 e;exact fin (X:=True) (gz I k1 c H (aside_setCell w (stA Y.Wg) _) (Q.setSt _) bk_rw (.w3 O) (.reg aq ho (by omega)) (.inl (by simp only[phi];omega)))
   .obtain⟨a',H,O⟩:=SY e;obtain⟨r2,O⟩:=UU _ _ O;refine fin (X:=True) (gz I k1 c H (.refl Y.Wg w) Q bk_rd (.w1 O) ?_ (.inl (by simp only[phi];omega)));have:=J.reopen (tag':=.w1) aq aq rfl (by simp);grind
  .exact fin (X:=True) (ig I k1 c H U (.w2 O) R)
 |@w3 rk g s h =>
  rcases ij h I.rely I.lead live with⟨s',k1,c,lI⟩|⟨s',k1,c,g',s2,es,r',H,U,O,R⟩
  .obtain⟨_,Sz,V⟩:=lI;obtain⟨MP,SZ⟩:=V {s' with w:=w} (fV k1 live);obtain⟨x,hx⟩:=Rk.I5 s rk;have S0:AtW3 P ty Y T a {s' with w:=w}:=AtW3.rely ⟨vK,Sz,V⟩ (fV k1 live);generalize st=V2 at J Q;generalize E=ZT at J Q;cases J with
   |opn l _ _=>exact l.elim
   |reg l h2 h3=>exact fin (X:=True) (gz I k1 c (MP ⟨_,Q⟩) (.refl Y.Wg w) Q (by simp) (.blk (rk:=x) S0) (.reg aq h2 h3) (.inr ⟨rfl,hx⟩))
   |last L l h2 h3 h4=>exact fin (X:=True) (gz I k1 c (MP ⟨_,Q⟩) (.refl Y.Wg w) Q (by simp) (.blk (rk:=x) S0) (.last L aq h2 h3 h4) (.inr ⟨rfl,hx⟩))
   |sema h2 =>
    obtain⟨a',H,r2,O⟩:=SZ Q;exact fin (X:=True) (gz I k1 c H (aside_setCell w (smA Y.Wg) _) (Q.setSm 0) bk_sem (.w4 O) (.fin aq h2) (.inl (by simp only[phi];omega)))
   |fin l _=>exact l.elim
  .exact fin (X:=True) (ig I k1 c H U (.w3 O) (Rk.FG R))
 |blk h=>grind
 |w4 h =>
  rcases ij h I.rely I.lead live with⟨s',k1,c,_,V⟩|⟨s',k1,c,g',s2,es,r',H,U,O,R⟩
  .obtain⟨hq,e1,e2⟩:=J.fin_inv aq;rw[e1,e2]at Q;obtain⟨a',H,r2,O⟩:=V {s' with w:=w} (fV k1 live) Q;exact fin (X:=True) (gz I k1 c H (.refl Y.Wg w) Q bk_rd (.ke O) (.fin aq hq) (.inl (by simp only[phi];omega)))
  .exact fin (X:=True) (ig I k1 c H U (.w4 O) R)
 |ke h =>
  rcases ij h I.rely I.lead live with⟨s',k1,c,_,g',H,O⟩|⟨s',k1,c,g',s2,es,r',H,U,O,R⟩
  .obtain⟨r2,O⟩:=O {s' with w:=w} (fV k1 live);obtain⟨hq,e1,e2⟩:=J.fin_inv aq;rw[e1,e2]at Q;exact fin (X:=True) (gz I k1 c (H w) (.refl Y.Wg w) Q bk_en (.acq O) (.fin aq hq) (.inl (by simp only[phi];omega)))
  .exact fin (X:=True) (ig I k1 c H U (.ke O) R)
 |acq h =>
  rcases ij h I.rely I.lead live with⟨s',k1,c,_,a',H,O⟩|⟨s',k1,c,g',s2,es,r',H,U,O,R⟩
  .obtain⟨hq,e1,e2⟩:=J.fin_inv aq;have vY:=runT_crowd_go (P:=P) (sl:=sl) (i:=0) I.a0 (by simpa using H w);have ev:MemOp.ofEvents 0 a.frame.fn a.frame.place #[mk (.acquire (stA Y.Wg))]=#[{g:=0,fn:=a.frame.fn,pos:=a.frame.place,act:=.mark (.acquire (stA Y.Wg))}]:=by rw[ofEvents_eq];simp[ofEvent_mk]
   have Z:=I.gq.step0 (g:=a) (g':=a') (fn:=a.frame.fn) (pos:=a.frame.place) (es:=#[mk (.acquire (stA Y.Wg))]) (hm':=p) (w':=w) (λ_ _=>rfl) (ba _) (λy _=>.refl ..) (by simp;exact I.gq.A0) (by intro e he b hb;simp at he;subst he;simp[mk,aG,bl]at hb) (by intro e he b hb;simp at he;subst he;simp[mk,aG,bl]at hb) (by intro e he;simp at he;subst he;simp[mk]) I.gq.pay live;have hd0:deafBehind 0 #[mk (.acquire (stA Y.Wg))]=0:=rfl;have hy:(t++#[({g:=0,fn:=a.frame.fn,pos:=a.frame.place,act:=.mark (.acquire (stA Y.Wg))}:MemOp)])[t.size]?=aa {g:=0,fn:=a.frame.fn,pos:=a.frame.place,act:=.mark (.acquire (stA Y.Wg))}:=by simp
   have S1:=Z.tl.Px (by rw[Z.deaf0];rfl) (Z.norel _) (q:=t.size) (by rw[ev,act?_of hy]) (by rw[ev];simp[Trace.g?]) (by rw[ev];exact⟨0,by simp[Trace.g?],by rw[deaf_old (ba _)];exact I.gq.deaf0⟩) (λx hx=>by
    obtain⟨r,hr⟩:=I.gq.rel x hx (by rw[hq x hx];omega)
    exact⟨r,hr.appOther g_of_ofEvents (by omega),lt_of_act? hr.act⟩)
   have GA:∃q,Leavers P (t++MemOp.ofEvents 0 a.frame.fn a.frame.place #[mk (.acquire (stA Y.Wg))]) ((gs.map (woken P a a' w)).setIfInBounds 0 a') q:=by
    have each:∀i,∃m,∀g,0<i->((gs.map (woken P a a' w)).setIfInBounds 0 a')[i]?=aa g->QuitsD P m (Deaf (t++MemOp.ofEvents 0 a.frame.fn a.frame.place #[mk (.acquire (stA Y.Wg))]) i) g:=by
     intro i;cases PC:((gs.map (woken P a a' w)).setIfInBounds 0 a')[i]? with
     |none=>exact⟨0,λg _ B=>by cases B⟩
     |some g =>
      rcases nw i with e|P5
      .exact⟨0,λg' h=>by omega⟩
      .rcases cM i Y.base with R|RZ
       .obtain⟨m,_,S4⟩:=Z.lv i g P5 R PC;exact⟨m,λg' _ FK=>by grind⟩
       .obtain⟨x,rfl⟩:∃x,i=Y.base+x:=⟨i-Y.base,by omega⟩
        have hx:x<n:=by have:=(eX.1 PC).1;rw[Z.size]at this;omega
        obtain⟨g0,FF,Wa⟩:=Z.wk x hx;rw[PC]at FF;cases FF;obtain⟨m,S4⟩:=Wa.quits (hq x hx);refine⟨m,λg' _ FK=>?_⟩;cases FK;rw[Z.deafW x hx];exact S4
    exact⟨λi=>Classical.choose (each i),λi g hi B=>Classical.choose_spec (each i) g hi B,λi hi=>Z.above i (by rw[Z.size]at hi;exact hi)⟩
   obtain⟨q,GA⟩:=GA;refine⟨_,_,vY,.inl ⟨p,u,⟨_,w,sl,a',s',q,rfl,Go.ConcN.get_map_set_same _ _ _ (by rw[I.gq.size];omega),Z.size,O {s' with w:=w} (fV k1 live),k1,c,GA,S1,Z.norel,I.gq.pay,λx hx i hi=>?_,I.gq.Di,I.gq.A0,I.gq.LW⟩⟩⟩;obtain⟨g0,_,Wa⟩:=I.gq.wk x hx;rcases nw i with e|P5
   .subst e;exact I.gq.Bu x hx (by rw[hq x hx];omega)
   .exact I.gq.xL x hx (Wa.small (hq x hx)) i P5 hi
  .exact fin (X:=True) (ig I k1 c H U (.acq O) R)
end
end
section
open Go.Conc
open Go.ConcN (WD CTag Vc Ssum pend phi cnt WgLive PayAt Has WSit RelBy sumTo upd upd_same upd_ne exists_counted)
open Go.ConcR (KK WgAt stA smA Payload)
variable [Payload]
section
variable {Y:Lay}{T c:ak->St->Prop}{l:Nat->Nat}{p:Nat->Mem}{tag:CTag}{rk:Rk}{d:Nat}{a:ak}{f:Mu}{sl:Option (Nat×Nat)}{t:Trace}{D:Nat->WD}{A:Nat->Nat}{K:Nat->Rk}{st u:Int}
def WS.running_of{x a st d:Nat}{r:Rk}{g:ak}(h:WS P ty Y N val l p x a st r d g w)(b:st≠1):g.status=.running:=by
 cases h with
 |am h1 _ _=>exact h1.run λ_ _ x=>x.1
 |rel h1=>exact Goes.running (λ_ _ x=>x.1) w (Go.ConcN.RW.refl w) h1
 |tail _ h1=>exact h1.running_of b
def someone_runs(I:sT P ty Y N val n T c f gs w t l p j D A K d tag rk a s st u):∃(i:Nat)(g:ak),gs[i]?=aa g/\g.status=.running:=by
 rcases I.cs.status with⟨e,_⟩|⟨_,rfl⟩
 .exact⟨0,a,I.a0,e⟩
 .have b:=I.mode;cases b with
  |opn h1 _ _=>exact h1.elim
  |reg _ _ k =>
   obtain⟨i,hi,o⟩:=exists_counted k;obtain⟨g,h,e⟩:=I.gq.wk i hi;exact⟨_,g,h,e.running_of (by omega)⟩
  |last L _ m k _ =>
   obtain⟨g,h,e⟩:=I.gq.wk L m;exact⟨_,g,h,e.running_of (by omega)⟩
  |fin h1 _=>exact h1.elim
def all_awake(I:sT P ty Y N val n T c f gs w t l p j D A K d tag rk a s st u):∀g∈gs,awake g:=by
 intro g q z;obtain⟨i,hi⟩:=Array.mem_iff_getElem?.1 q;rcases nw i with rfl|b
 .rw[I.a0]at hi;cases hi;rcases I.cs.status with⟨k,_⟩|⟨k,_⟩<;>rw[k]<;>simp
 .rcases cM i Y.base with o|v
  .obtain⟨m,_,y⟩:=I.gq.lv i g b o hi;rcases y.status with h|h<;>rw[h]<;>simp
  .obtain⟨x,rfl⟩:∃x,i=Y.base+x:=⟨i-Y.base,by omega⟩
   have r:x<j:=by have:=(eX.1 hi).1;rw[I.gq.size]at this;omega
   obtain⟨g',e,k⟩:=I.gq.wk x r;rw[hi]at e;cases e;rcases k.status with h|h<;>rw[h]<;>simp
def sT.at(I:sT P ty Y N val n T c f gs w t l p j D A K d tag rk a s st u)(dr:Nat):sT P ty Y N val n T c f gs (w.at dr) t l p j D A K d tag rk a s st u :=
 ⟨I.a0,I.cs,I.rely.more (ba _) (λ_ _=>rfl) (λ_ _ _ _ h=>h) rfl rfl rfl,I.lead,I.gq.at dr,I.wg,I.mode,I.mu⟩
def DO(I:sT P ty Y N val n T c f gs w t l p j D A K d tag rk a s st u)(hi:0<i)(v:i<Y.base)(C:gs[i]?=aa g)(h:g.status=.running):
  ∃e ops μ',runT P (crowd gs w sl) i=(.next e,ops)/\FH (Y.base+n) μ' f/\Inv P ty Y N val n T c μ' e (t++ops):=by
 obtain⟨m,G,E⟩:=I.gq.lv i g hi v C;cases m with
 |zero=>rw[E.1]at h;cases h
 |succ m =>
  rcases E with⟨J,_⟩|⟨_,g',es,B,x,y⟩
  .grind
  .have z:(i==0)=ae:=by grind
   have q:=runT_crowd_go (P:=P) (sl:=sl) (i:=i) C (by rw[z];exact x w)
   obtain⟨tag',rk',r,o,H⟩:=I.cs.wokenBy g g' w;have b:Go.ConcN.Mode j D tag' st u:=I.mode.retag o;refine⟨_,_,(phi n (Vc j D) tag'+Ssum j D+sumTo j A,(upd K i (Rk.nat m),rk')),q,?_,_,w,sl,l,p,j,D,A,_,d,tag',rk',woken P g g' w a,s,st,u,rfl,
    ⟨by rw[Go.ConcN.get_map_set _ _ _ _ (by omega),I.a0];rfl,r,I.rely,I.lead,I.gq.leave hi v B y,I.wg,b,rfl⟩⟩
   rw[I.mu,Go.ConcN.phi_retag n _ o];exact Prod.Lex.right _ (Prod.Lex.left _ _ ⟨i,by omega,by rw[upd_same,G];exact Rk.DL _ s,λk F=>upd_ne K _ F⟩)
def Jc(C:n<2147483648)(B:∀g s,c g s->eg (Cx.lead P ty Y.Wg) (Es Y.Wg) (AtW1 P ty Y T c) g s){m:Machine}(h:Inv P ty Y N val n T c f m t):
  ∃b ops,stepT P m=(.next b,ops)/\((∃hm' MQ,ML P Y N val n T hm' MQ b (t++ops))∨∃k,FH (Y.base+n) k f/\Inv P ty Y N val n T c k b (t++ops)):=by
 obtain⟨gs,w,sl,l,p,j,D,A,K,M,tag,rk,a,s,st,u,rfl,I⟩:=h;obtain⟨i,g,dr,o,v,e,q⟩:=crowd_pick (P:=P) (w:=w) (sl:=sl) (all_awake I) (someone_runs I);rw[q];have z:=I.at dr;have J:j<=n:=by have:=I.cs.bound;omega
 rcases nw i with rfl|r
 .rw[I.a0]at v;cases v;exact Jb (sl:=o) z C B e
 .rcases cM i Y.base with y|H
  .obtain⟨b,ops,k,L,F,E⟩:=DO (sl:=o) z r y v e;grind
  .obtain⟨x,rfl⟩:∃x,i=Y.base+x:=⟨i-Y.base,by omega⟩
   have G:x<j:=by have:=(eX.1 v).1;rw[I.gq.size]at this;omega
   obtain⟨b,ops,k,L,F,E⟩:=stepWorker (sl:=o) z C J I.cs.bound G v e;grind
def GU(w:n<2147483648)(o:∀g s,c g s->eg (Cx.lead P ty Y.Wg) (Es Y.Wg) (AtW1 P ty Y T c) g s):∀(f:Mu)(m:Machine)(t:Trace),Inv P ty Y N val n T c f m t ->
  ∃M j i hm' MQ,runNT P M m t=(.next j,i)/\ML P Y N val n T hm' MQ j i:=by
 intro f;induction(P3 (Y.base+n)).apply f with
 |intro f _ x =>
  intro m t h;obtain⟨b,ops,q,e⟩:=Jc w o h;rcases e with⟨hm',MQ,e⟩|⟨k,e,r⟩
  .exact⟨1,b,t++ops,hm',MQ,by simp[runNT,q],e⟩
  .obtain⟨M,j,i,hm',MQ,k1,v⟩:=x k e b (t++ops) r;exact⟨M+1,j,i,hm',MQ,by simp only[runNT,q];exact k1,v⟩
def AX.fork{s0:St}{T':ak->St->Prop}(kc:Nat)(XS:0<kc)(Wg C:Nat)(hn:n<2147483648)(Bi:C≠Wg)(hg:eR s s0)(vK:g.status=.running)(hC:∃L∈s.β,C∈L.bs)(hW:∃L∈s.β,Wg∈L.bs)(E:∀b,(s.own b∨∃L∈s.β,b∈L.bs)->b<s.w.heap.size)(h0:∀b,(b=C∨b=Wg)->¬s0.own b/\(∀L∈s0.β,b∉L.bs)/\∀o,s0.M b o=af)(S:WgAt ty Wg s.w 0 0)(Ja:PayAt C N s.w)(h:∀Y:Lay,Y.Wg=Wg->Y.C=C->Y.kc=kc->∃T c,(∀g s,c g s->eg (Cx.lead P ty Y.Wg) (Es Y.Wg) (AtW1 P ty Y T c) g s)/\Spawns P ty Y N val n c n g s0 /\
   ∀g' s',T g' s'->gn s'->PayAt C N s'.w->(∀x,x<n->∀i,i<kc->s'.w.cell? ⟨C,kc*x+i,af⟩=aa (val x i))->C<s'.w.heap.size->(∀b,(b=C∨b=Wg)->¬s'.own b/\(∀L∈s'.β,b∉L.bs)/\∀o,s'.M b o=af) ->
    ∃s2,T' g' s2/\s2.w=s'.w/\gn s2/\∀Sh:Nat->Prop,Clear Sh s'->¬Sh C->Clear Sh s2):AX P g s T':=by
 intro Sh gs sl t q l ha G hP hc Fh;have Wb:¬Sh C:=λhs=>let ⟨L,G,hb⟩:=hC;hc.β C hs L G hb
 have X:¬Sh Wg:=λhs=>let ⟨L,G,hb⟩:=hW;hc.β Wg hs L G hb
 have S5:=E C (.inr hC);have W:=E Wg (.inr hW);have V:1<=gs.size:=(eX.1 ha).1;let Y:Lay:={Sh:=Sh,T0:=t.size,Wg:=Wg,C:=C,base:=gs.size,kc:=kc}
 obtain⟨T,c,UU,m,Wc⟩:=h Y rfl rfl rfl;have Q:=hc.ghost hg;have U:gn s0:=.ghost hg;have F:jB Y (λ_=>0) (λ_ _ _=>af) 0 s0:=by
  refine⟨λb hb=>⟨rfl,λe=>?_,λe=>?_,λe=>?_,by rw[hg.w];exact E b (hg.blk b hb)⟩,λb o v Z=>⟨rfl,λe=>?_,λe=>?_,λe=>?_,gn.lt U Z⟩,λx y=>absurd y (iY x)⟩
  .grind
  .grind
  .rcases hb with hb|⟨L,G,hb⟩
   .exact Q.own b e hb
   .exact Q.β b e L G hb
  .grind
  .grind
  .rw[Q.M b e o]at Z;cases Z
 have J:Com P ty Y N val (λ_=>0) (λ_ _ _=>af) 0 gs s.w t (λ_=>⟨0,0,0⟩) (λ_=>0) (λi=>Rk.nat (q i)) 0 :=
  ⟨rfl,λi g hi _ PC=>⟨q i,rfl,G.old i g hi PC⟩,G.above,λx y=>absurd y (iY x),TL.start hP rfl V Bi X Wb,Fh,hP.hears,λx y=>absurd y (iY x),λx y=>absurd y (iY x),λx y=>absurd y (iY x),λx y=>absurd y (iY x),
   Ja,⟨_,_,S⟩,W,S5,hc.lt,XS,λx y=>absurd y (iY x)⟩
 have O:bZ s0 {s0 with w:=s.w}:=by have:=bZ.vV U;rw[<-hg.w];exact this
 have z:∃f,Inv P ty Y N val n T c f (crowd gs s.w sl) t:=by
  cases n with
  |zero =>
   obtain⟨r,m⟩:=m;exact⟨_,gs,s.w,sl,_,_,0,_,_,_,0,.kd,r,g,s0,_,_,rfl,⟨ha,.kd m,O,F,J,S,by have:=Go.ConcN.Mode.opn (j:=0) (D:=λ_=>(⟨0,0,0⟩:WD)) (tag:=.kd) aq (λi hi=>absurd hi (iY i)) (by simp);simpa[Vc,sumTo,pend]using this,rfl⟩⟩
  |succ n =>
   obtain⟨r,m⟩:=m;have UX:CS P ty Y N val (n+1) T c (.sp n 5) (n+1-(n+1)) r 0 g s0:=.skd (Nat.lt_succ_self n) m;rw[Nat.sub_self]at UX;exact⟨_,gs,s.w,sl,_,_,0,_,_,_,0,.sp n 5,r,g,s0,_,_,rfl,⟨ha,UX,O,F,J,S,by have:=Go.ConcN.Mode.opn (j:=0) (D:=λ_=>(⟨0,0,0⟩:WD)) (tag:=.sp n 5) aq (λi hi=>absurd hi (iY i)) (by simp);simpa[Vc,sumTo,pend]using this,rfl⟩⟩
 obtain⟨f,z⟩:=z;obtain⟨M,m',t',hm',MQ,XY,⟨gs',w',sl',a',H,q',rfl,V6,_,hT,R2,S6,gh,hP',ZY,ZZ,I,Z0,hlW,Z1⟩⟩:=GU hn UU f _ _ z;have R:jB Y hm' MQ n {H with w:=w'}:=S6.rely R2.size;have B:∀b,(b=C∨b=Wg∨Sh b)->¬H.own b/\(∀L∈H.β,b∉L.bs)/\∀o,H.M b o=af:=by
  intro b hb;have key:∀x,(hm' x=0/\x≠Y.C/\x≠Y.Wg/\¬Y.Sh x/\x<w'.heap.size)->x≠b:=by grind
  refine⟨λho=>key b (R.blk b (.inl ho)) rfl,λL G Pm=>key b (R.blk b (.inr ⟨L,G,Pm⟩)) rfl,λo=>?_⟩;cases hM:H.M b o with
  |none=>rfl
  |some v=>exact absurd rfl (key b (R.M b o v hM))
 obtain⟨s2,hT2,V8,S4,RQ⟩:=Wc a' {H with w:=w'} hT (λb o v Z=>R2.mem b o v Z) ZZ I Z0 (λb hb=>B b (hb.elim .inl λe=>.inr (.inl e)));have LS:Clear (λb=>Sh b∨b=Wg) {H with w:=w'}:=by have k:∀b,(Sh b∨b=Wg)->¬H.own b/\(∀L∈H.β,b∉L.bs)/\∀o,H.M b o=af:=λb hb=>B b (hb.elim (λe=>.inr (.inr e)) λe=>.inr (.inl e));exact⟨λb hb=>(k b hb).1,λb hb=>(k b hb).2.1,λb hb=>(k b hb).2.2,λb hb=>hb.elim (Z1 b) λe=>by grind⟩
 grind
end
end
section
open Go.Conc Go.RowKit Go.Conc.Lib Go.ConcR.Gen
open Go.ConcN (WgLive)
open Go.ConcR (KK WgAt stA smA rd wr mk DC0)
variable {L:WgLink}
section
variable (P:aK)(R:aA->aA->Prop)(L:WgLink)(Wg:Nat)(a:ak)
def Wz(g:ak)(_:aA):Prop:=g.status=.running/\∃g',(∀w,aH P ab g w=.go g' w #[mk .enable])/\∀w1,WgLive L.tWg Wg w1->∃m,Goes P ab R DC0 (λg _=>g=a) m g' w1
def GRd(g:ak)(_:aA):Prop:=g.status=.running/\∃g' ad,ad.block=Wg/\(∀w,aH P ab g w=.go g' w #[mk (.read ad)])/\∀w1,WgLive L.tWg Wg w1->∃m,Goes P ab R DC0 (Wz P R L Wg a) m g' w1
def Ym(g:ak)(w:aA):Prop:=g.status=.running/\∀v:Nat,v<2147483647->WgAt L.tWg Wg w (v*KK) 0 ->
 ∃g',aH P ab g w=.go g' (w.setCell (stA Wg) (.int .u64 ((v+1)*KK))) #[rd (stA Wg),wr (stA Wg)]/\∃m,Goes P ab R DC0 (λg w=>GRd P R L Wg a g w∨Wz P R L Wg a g w) m g' (w.setCell (stA Wg) (.int .u64 ((v+1)*KK)))
def GKd(g:ak)(_:aA):Prop:=g.status=.running/\∃g',(∀w,aH P ab g w=.go g' w #[mk .disable])/\∀w1,WgLive L.tWg Wg w1->∃m,Goes P ab R DC0 (Ym P R L Wg a) m g' w1
end
set_option maxRecDepth 100000 in
def M7{P:aK}(H:WgLib P L){R:aA->aA->Prop}{Wg:Nat}(c:∀{w w1},WgLive L.tWg Wg w->R w w1->WgLive L.tWg Wg w1){b₀:aU}{a₀:Act}{ops₀:Array aD}{i₀:Nat}{rest₀:List Nat}{k₀:List Item}(w:aA)(b:WgLive L.tWg Wg w):
  Goes P ab R DC0 (GKd P R L Wg (G (b₀.at (a₀.put ((ops₀[i₀]?).bind (·.dst)) (.tuple #[])) (.inRegion ops₀ rest₀::k₀)) cs)) 12
   (G ((base L.add).at ⟨#[.pointer (aa ⟨Wg,0,af⟩),.int .i64 1,ai,ai,ai,ai,ai,ai,ai,ai,ai,ai,ai,ai,ai,ai,ai,ai,ai,ai,ai,ai,ai,ai,ai,ai,ai,ai,ai,ai,ai,ai,ai,ai,ai,ai,ai,ai,ai,ai,ai,ai,ai,ai,ai,ai,ai,ai,ai,ai,ai,ai,ai,ai,ai,ai,ai,ai,ai,ai,ai,ai,ai,ai,ai,ai,ai,ai,ai,ai,ai,ai,ai,ai,ai,ai,ai,ai,ai,ai,ai,ai,ai,ai,ai,ai,ai,ai,ai,ai,ai,ai,ai,ai,ai,ai,ai,ai,ai,ai,ai,ai,ai,ai,ai,ai,ai,ai,ai,ai,ai,ai,ai,ai,ai,ai,ai],[]⟩ [.code (body_add L)]) (b₀.at a₀ (.inRegion ops₀ (i₀::rest₀)::k₀)::cs)) w:=by
 lib_facts
 simp only[body_add,addFn,gx]
 repeat (u_c ay c b)
 u_cond ab c b
 repeat (u_c ay c b)
 u_reg c b
 u_op c b
 u_op c b
 u_c aw c b
 repeat (u_c ay c b)
 u_cond ae c b
 u_c stepG_skip c b
 repeat (u_c ay c b)
 u_reg c b
 refine Goes.stop (λm g=>?_);refine⟨rfl,_,λw=>stepG_mark0 .disable (by simp) rfl rfl (by k_ne) rfl H.f_disable (x_disable_n L) (x_disable_b L) (x_disable_x L) (x_disable_f L),λw b=>?_⟩;clear g;refine⟨40,?_⟩
 walk_nrm
 u_c aw c b
 repeat (u_c ay c b)
 u_reg c b
 u_defer c b
 u_c aw c b
 repeat (u_c ay c b)
 u_reg c b
 u_op c b
 u_c aw c b
 repeat (u_c ay c b)
 u_reg c b
 u_bub c b
 u_c aw c b
 repeat (u_c ay c b)
 u_cond ae c b
 u_c stepG_skip c b
 repeat (u_c ay c b)
 u_reg c b
 u_op c b
 u_op c b
 u_op c b
 u_op c b
 u_op c b
 u_op c b
 u_call H.f_uAdd (nm_uAdd L) uAddFn c b
 repeat (u_c ay c b)
 u_reg c b
 u_op c b
 u_c aw c b
 repeat (u_c ay c b)
 u_reg c b
 u_op c b
 u_op c b
 u_op c b
 u_op c b
 refine Goes.stop (λi e=>?_);replace b:=c b e;clear e;refine⟨rfl,λv u j=>?_⟩;have k:KK=4294967296:=rfl;have p:IntKind.u64.wrap ((v:Int)*KK+4294967296)=((v:Int)+1)*KK:=by rw[IntKind.wrap_u64];simp only[k];omega
 refine⟨_,(stepG_add_atomic rfl rfl (by k_ne) rfl H.f_addU64 (x_addU64_n L) (x_addU64_b L) (x_addU64_x L) .u64 (x_addU64_f L) rfl rfl j.cellSt (j.thaw 0)).trans (by rw[p];rfl),110,?_⟩;replace b:WgLive L.tWg Wg (i.setCell (stA Wg) (.int .u64 (((v:Int)+1)*KK))):=⟨_,_,j.setSt _⟩
 clear j
 walk_nrm
 u_op c b
 u_c aw c b
 u_c stepG_ret' c b
 u_leave1 H.f_uAdd c b
 u_op c b
 u_c aw c b
 have t:bits .and .u64 (((v:Int)+1)*4294967296) 2147483648=0:=by have:=Go.ConcN.st_flag (v+1) 0 (by omega) (by omega);grind
 have q:bits .and .u64 (((v:Int)+1)*4294967296) 2147483647=0:=by have:=Go.ConcN.st_waiters (v+1) 0 (by omega) (by omega);grind
 have r:((v:Int)+1+2147483648) % 4294967296-2147483648=(v:Int)+1:=by omega
 have s:¬((v:Int)+1<0):=by omega
 have x:(0:Int)<(v:Int)+1:=by omega
 repeat (u_c ay c b)
 u_reg c b
 u_op c b
 u_op c b
 u_op c b
 u_op c b
 u_skip c b
 u_skip c b
 u_op c b
 u_c aw c b
 repeat (u_c ay c b)
 u_cond ae c b
 u_c stepG_skip c b
 repeat (u_c ay c b)
 u_reg c b
 u_op c b
 u_op c b
 u_op c b
 u_op c b
 u_c aw c b
 repeat (u_c ay c b)
 u_reg c b
 u_op c b
 u_op c b
 u_op c b
 u_op c b
 u_c aw c b
 by_cases n:(v:Int)+1=1
 .repeat (u_c ay c b)
  u_reg c b
  u_op c b
  u_op c b
  u_op c b
  u_op c b
  u_op c b
  u_op c b
  u_op c b
  u_op c b
  u_op c b
  u_op c b
  u_c aw c b
  repeat (u_c ay c b)
  u_cond ab c b
  repeat (u_c ay c b)
  u_reg c b
  u_op c b
  u_op c b
  u_op c b
  u_conv H.underlying_tPU32 H.room_tU32 (Go.ConcN.Gen.WgLive.cell1 b).choose_spec c b
  refine Goes.stop (λl f=>.inl ?_);clear f;refine⟨rfl,_,⟨Wg,1,af⟩,rfl,λw=>stepG_markAt .read (by simp) rfl rfl (by k_ne) rfl H.f_raceRead (x_raceRead_n L) (x_raceRead_b L) (x_raceRead_x L) (x_raceRead_f L) (ad:=⟨Wg,1,af⟩) (by simp[Act.eval]),λw b=>⟨50,?_⟩⟩
  walk_nrm
  u_c aw c b
  repeat (u_c ay c b)
  u_reg c b
  u_op c b
  u_op c b
  u_c aw c b
  repeat (u_c ay c b)
  u_cond ae c b
  u_c stepG_skip c b
  repeat (u_c ay c b)
  u_reg c b
  u_op c b
  u_op c b
  u_op c b
  u_skip c b
  u_skip c b
  u_op c b
  u_op c b
  u_skip c b
  u_skip c b
  u_skip c b
  u_skip c b
  u_op c b
  u_c aw c b
  repeat (u_c ay c b)
  u_cond ae c b
  u_c stepG_skip c b
  repeat (u_c ay c b)
  u_reg c b
  u_op c b
  u_op c b
  u_op c b
  u_skip c b
  u_skip c b
  u_op c b
  u_c aw c b
  repeat (u_c ay c b)
  u_cond ab c b
  u_c stepG_ret' c b
  refine Goes.stop (λh d=>?_);clear d;refine⟨rfl,_,λw=>stepG_unwind_entry (v:=.tuple #[]) (evs:=#[mk .enable]) rfl H.f_enable (x_enable_n L) (x_enable_b L) (x_enable_x L) (x_enable_f L) (by simp[Extern.Race.none_]) (by simp[mk]) (by simp[mk]),λw b=>⟨1,?_⟩⟩
  u_leave0 H.f_add c b
  grind[Goes.stop]
 .have o:((v:Int)+1==1)=ae:=by grind
  repeat (u_c ay c b)
  u_reg c b
  u_op c b
  u_op c b
  u_op c b
  u_op c b
  u_op c b
  u_op c b
  u_op c b
  u_op c b
  u_op c b
  u_op c b
  u_c aw c b
  repeat (u_c ay c b)
  u_cond ae c b
  u_c stepG_skip c b
  repeat (u_c ay c b)
  u_reg c b
  u_op c b
  u_op c b
  u_c aw c b
  repeat (u_c ay c b)
  u_cond ae c b
  u_c stepG_skip c b
  repeat (u_c ay c b)
  u_reg c b
  u_op c b
  u_op c b
  u_op c b
  u_skip c b
  u_skip c b
  u_op c b
  u_op c b
  u_skip c b
  u_skip c b
  u_skip c b
  u_skip c b
  u_op c b
  u_c aw c b
  repeat (u_c ay c b)
  u_cond ae c b
  u_c stepG_skip c b
  repeat (u_c ay c b)
  u_reg c b
  u_op c b
  u_op c b
  u_op c b
  u_skip c b
  u_skip c b
  u_op c b
  u_c aw c b
  repeat (u_c ay c b)
  u_cond ab c b
  u_c stepG_ret' c b
  refine Goes.stop (λh d=>.inr ?_);clear d;refine⟨rfl,_,λw=>stepG_unwind_entry (v:=.tuple #[]) (evs:=#[mk .enable]) rfl H.f_enable (x_enable_n L) (x_enable_b L) (x_enable_x L) (x_enable_f L) (by simp[Extern.Race.none_]) (by simp[mk]) (by simp[mk]),λw b=>⟨1,?_⟩⟩
  u_leave0 H.f_add c b
  grind[Goes.stop]
end
section
open Go.Conc Go.RowKit Go.Conc.Lib Go.ConcR.Gen
open Go.ConcN (WgLive)
open Go.ConcR (KK WgAt stA smA rd wr mk DC0)
section
variable (P:aK)(R:aA->aA->Prop)(L:WgLink)(Wg:Nat)(a:ak)(b:ak->Prop)
def Tn(g:ak)(_:aA):Prop:=g.status=.running/\∃g',(∀w,aH P ab g w=.go g' w #[mk (.acquire (stA Wg))])/\∀w1,WgLive L.tWg Wg w1->∃m,Goes P ab R DC0 (λg _=>g=a) m g' w1
def WA(g:ak)(_:aA):Prop:=g.status=.running/\∃g',(∀w,aH P ab g w=.go g' w #[mk .enable])/\∀w1,WgLive L.tWg Wg w1->∃m,Goes P ab R DC0 (Tn P R L Wg a) m g' w1
def Yn(g:ak)(w:aA):Prop:=g.status=.running/\(WgAt L.tWg Wg w 0 0->∃g',aH P ab g w=.go g' w #[rd (stA Wg)]/\∃m,Goes P ab R DC0 (WA P R L Wg a) m g' w)
def Yo(g:ak)(w:aA):Prop:=g.status=.running/\g.offers=af/\((∃st,WgAt L.tWg Wg w st 0)->aH P ab g w=.go {g with status:=.blocked} w #[]) /\
 (WgAt L.tWg Wg w 0 1->∃g',aH P ab g w=.go g' (w.setCell (smA Wg) (.int .u32 0)) (semEvents (smA Wg))/\∃m,Goes P ab R DC0 (Yn P R L Wg a) m g' (w.setCell (smA Wg) (.int .u32 0)))
def Yp(g:ak)(_:aA):Prop:=g.status=.running/\∃g' ad,ad.block=Wg/\(∀w,aH P ab g w=.go g' w #[mk (.write ad)])/\∀w1,WgLive L.tWg Wg w1->∃m,Goes P ab R DC0 (Yo P R L Wg a) m g' w1
def Yq(vs:Nat)(g:ak)(w:aA):Prop:=g.status=.running/\∀v:Nat,v<2147483648->WgAt L.tWg Wg w (v*KK) 0 ->
 (v=vs->∃g',aH P ab g w=.go g' (w.setCell (stA Wg) (.int .u64 (v*KK+1))) #[rd (stA Wg),wr (stA Wg)]/\∃m,Goes P ab R DC0 (Yp P R L Wg a) m g' (w.setCell (stA Wg) (.int .u64 (v*KK+1)))) /\
 (v≠vs->∃g',aH P ab g w=.go g' w #[rd (stA Wg)]/\∃m,Goes P ab R DC0 (λg _=>b g) m g' w)
def HW1(g:ak)(w:aA):Prop:=g.status=.running/\∀v:Nat,v<2147483648->WgAt L.tWg Wg w (v*KK) 0 ->
 ∃g',aH P ab g w=.go g' w #[rd (stA Wg)]/\(v=0->∃m,Goes P ab R DC0 (WA P R L Wg a) m g' w)/\(v≠0->∃m,Goes P ab R DC0 (Yq P R L Wg a b v) m g' w)
def HKd(g:ak)(_:aA):Prop:=g.status=.running/\∃g',(∀w,aH P ab g w=.go g' w #[mk .disable])/\∀w1,WgLive L.tWg Wg w1->∃m,Goes P ab R DC0 (λg _=>b g) m g' w1
end
def Qt(L:WgLink)(Wg:Nat)(c:aU)(cs:List aU)(g:ak):Prop :=
 ∃T:Array aj,g=G ((base L.wait).at ⟨T,[]⟩ [.code (L7 L),.inLoop (L7 L),.inBlock 0]) (c::cs)/\T.size=84/\T[0]?=aa (.pointer (aa ⟨Wg,0,af⟩))
set_option maxRecDepth 100000 in
def D4{L:WgLink}(H:WgLib P L){R:aA->aA->Prop}{Wg:Nat}(b:∀{w w1},WgLive L.tWg Wg w->R w w1->WgLive L.tWg Wg w1){c:aU}(w:aA)(a:WgLive L.tWg Wg w):
  Goes P ab R DC0 (HKd P R L Wg (Qt L Wg c cs)) 6 (G ((base L.wait).at ⟨#[.pointer (aa ⟨Wg,0,af⟩),ai,ai,ai,ai,ai,ai,ai,ai,ai,ai,ai,ai,ai,ai,ai,ai,ai,ai,ai,ai,ai,ai,ai,ai,ai,ai,ai,ai,ai,ai,ai,ai,ai,ai,ai,ai,ai,ai,ai,ai,ai,ai,ai,ai,ai,ai,ai,ai,ai,ai,ai,ai,ai,ai,ai,ai,ai,ai,ai,ai,ai,ai,ai,ai,ai,ai,ai,ai,ai,ai,ai,ai,ai,ai,ai,ai,ai,ai,ai,ai,ai,ai,ai],[]⟩ [.code (body_wait L)]) (c::cs)) w:=by
 lib_facts
 unfold Qt;simp only[L7,body_wait,waitFn,gx]
 repeat (u_c ay b a)
 u_cond ab b a
 repeat (u_c ay b a)
 u_reg b a
 refine Goes.stop (λe d=>?_);clear d;refine⟨rfl,_,λw=>stepG_mark0 .disable (by simp) rfl rfl (by k_ne) rfl H.f_disable (x_disable_n L) (x_disable_b L) (x_disable_x L) (x_disable_f L),λw a=>⟨6,?_⟩⟩
 walk_nrm
 u_c aw b a
 repeat (u_c ay b a)
 u_c stepG_block b a
 u_c stepG_loop b a
 exact Goes.stop λ_ _=>⟨_,rfl,rfl,rfl⟩
end
section
open Go.Conc Go.RowKit Go.Conc.Lib Go.ConcR.Gen
open Go.ConcN (WgLive)
open Go.ConcN.Gen
open Go.ConcR (KK WgAt stA smA rd wr mk DC0)
set_option maxRecDepth 100000 in
def D3{L:WgLink}(H:WgLib P L){R:aA->aA->Prop}{Wg:Nat}(b:∀{w w1},WgLive L.tWg Wg w->R w w1->WgLive L.tWg Wg w1){b₀:aU}{a₀:Act}{ops₀:Array aD}{i₀:Nat}{rest₀:List Nat}{k₀:List Item}(g:ak)(hg:Qt L Wg (b₀.at a₀ (.inRegion ops₀ (i₀::rest₀)::k₀)) cs g)(w:aA)(a:WgLive L.tWg Wg w):
  ∃m,Goes P ab R DC0 (HW1 P R L Wg (G (b₀.at (a₀.put ((ops₀[i₀]?).bind (·.dst)) (.tuple #[])) (.inRegion ops₀ rest₀::k₀)) cs) (Qt L Wg (b₀.at a₀ (.inRegion ops₀ (i₀::rest₀)::k₀)) cs)) m g w:=by
 lib_facts
 obtain⟨T,rfl,p,t⟩:=hg;obtain⟨v0,v1,v2,v3,v4,v5,v6,v7,v8,v9,v10,v11,Y,O,v14,v15,A,v17,v18,v19,v20,v21,v22,v23,v24,v25,X,U,v28,v29,v30,v31,W,v33,B,v35,v36,K,M,v39,v40,C,v42,v43,v44,v45,v46,v47,v48,v49,v50,z,E,F,v54,v55,v56,V,N,v59,v60,v61,v62,v63,v64,v65,v66,x,J,v69,Z,v71,D,v73,I,v75,Q,v77,v78,v79,v80,u,v82,y,rfl⟩:=array84 T p;simp only[gT,iF,dm]at t;subst t;refine⟨30,?_⟩;unfold Qt;simp only[L7,body_wait,waitFn,gx]
 u_c stepG_block b a
 repeat (u_c ay b a)
 u_reg b a
 u_op b a
 u_op b a
 u_op b a
 u_call H.f_uLoad (nm_uLoad L) uLoadFn b a
 repeat (u_c ay b a)
 u_reg b a
 u_op b a
 u_c aw b a
 repeat (u_c ay b a)
 u_reg b a
 u_op b a
 u_op b a
 u_op b a
 refine Goes.stop (λq j=>?_);replace a:=b a j;clear j;refine⟨rfl,λv hv d=>?_⟩;rcases nw v with rfl|hvp
 .replace d:WgAt L.tWg Wg q 0 0:=by grind
  refine⟨_,stepG_load_atomic (v:=0) rfl rfl (by k_ne) rfl H.f_loadU64 (x_loadU64_n L) (x_loadU64_b L) (x_loadU64_x L) .u64 (x_loadU64_f L) rfl d.cellSt,λ_=>⟨80,?_⟩,λh=>absurd rfl h⟩;clear d
  walk_nrm
  u_op b a
  u_c aw b a
  u_c stepG_ret' b a
  u_leave1 H.f_uLoad b a
  u_op b a
  u_c aw b a
  repeat (u_c ay b a)
  u_reg b a
  u_op b a
  u_op b a
  u_op b a
  u_op b a
  u_c aw b a
  repeat (u_c ay b a)
  u_reg b a
  u_op b a
  u_op b a
  u_op b a
  u_op b a
  u_c aw b a
  repeat (u_c ay b a)
  u_reg b a
  u_op b a
  u_op b a
  u_c aw b a
  repeat (u_c ay b a)
  u_cond ab b a
  repeat (u_c ay b a)
  u_cond ab b a
  repeat (u_c ay b a)
  u_reg b a
  refine Goes.stop (λf c=>?_);clear c;refine⟨rfl,_,λw=>stepG_mark0 .enable (by simp) rfl rfl (by k_ne) rfl H.f_enable (x_enable_n L) (x_enable_b L) (x_enable_x L) (x_enable_f L),λw a=>⟨20,?_⟩⟩
  walk_nrm
  u_c aw b a
  repeat (u_c ay b a)
  u_reg b a
  u_op b a
  u_conv H.underlying_tWgP H.room_tWg (Go.ConcN.Gen.WgLive.cell0 a).choose_spec b a
  refine Goes.stop (λf c=>?_);clear c;refine⟨rfl,_,λw=>stepG_markAt .acquire (by simp) rfl rfl (by k_ne) rfl H.f_acquire (x_acquire_n L) (x_acquire_b L) (x_acquire_x L) (x_acquire_f L) (by simp[Act.eval,stA]),λw a=>⟨40,?_⟩⟩
  walk_nrm
  u_c aw b a
  repeat (u_c ay b a)
  u_reg b a
  u_op b a
  u_op b a
  u_op b a
  u_op b a
  u_op b a
  u_op b a
  u_op b a
  u_op b a
  u_skip b a
  u_skip b a
  u_op b a
  u_c aw b a
  repeat (u_c ay b a)
  u_cond ae b a
  u_c stepG_skip b a
  u_c stepG_ret' b a
  u_leave0 H.f_wait b a
  grind[Goes.stop]
 .obtain⟨S,l⟩:∃S:Int,(v:Int)*KK=S:=⟨_,rfl⟩;have a1:S / 4294967296=(v:Int):=by rw[<-l];simp only[KK];omega
  have b1:bits .and .u64 S 2147483648=0:=by rw[<-l];have:=Go.ConcN.st_flag v 0 (by omega) (by omega);simpa[KK]using this
  have b2:bits .and .u64 S 2147483647=0:=by rw[<-l];have:=Go.ConcN.st_waiters v 0 (by omega) (by omega);simpa[KK]using this
  have c1:IntKind.i32.wrap (v:Int)=(v:Int):=by grind[IntKind.wrap_i32]
  have w1:IntKind.u64.wrap (S+1)=S+1:=by rw[IntKind.wrap_u64,<-l];simp only[KK];omega
  have q3:decide ((v:Int)<0)=ae:=gH (by omega);have q4:decide (0<(v:Int))=ab:=dc (by omega);have q5:((v:Int)==0)=ae:=by grind
  have q6:decide ((v:Int)=0)=ae:=gH (by omega);rw[l]at d;refine⟨_,stepG_load_atomic (v:=S) rfl rfl (by k_ne) rfl H.f_loadU64 (x_loadU64_n L) (x_loadU64_b L) (x_loadU64_x L) .u64 (x_loadU64_f L) rfl d.cellSt,λh0=>absurd h0 (by omega),λ_=>⟨80,?_⟩⟩;clear d
  walk_nrm
  u_op b a
  u_c aw b a
  u_c stepG_ret' b a
  u_leave1 H.f_uLoad b a
  u_op b a
  u_c aw b a
  repeat (u_c ay b a)
  u_reg b a
  u_op b a
  u_op b a
  u_op b a
  u_op b a
  u_c aw b a
  repeat (u_c ay b a)
  u_reg b a
  u_op b a
  u_op b a
  u_op b a
  u_op b a
  u_c aw b a
  repeat (u_c ay b a)
  u_reg b a
  u_op b a
  u_op b a
  u_c aw b a
  repeat (u_c ay b a)
  u_cnd ae b a
  u_c stepG_skip b a
  repeat (u_c ay b a)
  u_reg b a
  u_op b a
  u_op b a
  u_op b a
  u_op b a
  u_op b a
  u_op b a
  u_call H.f_uCas (nm_uCas L) uCasFn b a
  repeat (u_c ay b a)
  u_reg b a
  u_op b a
  u_c aw b a
  repeat (u_c ay b a)
  u_reg b a
  u_op b a
  u_op b a
  u_op b a
  u_op b a
  u_op b a
  refine Goes.stop (λf c=>?_);replace a:=b a c;clear c;refine⟨rfl,λv' UC d=>⟨λe=>?_,λe=>?_⟩⟩
  .subst e;rw[l]at d⊢;refine⟨_,(stepG_cas_hit (v:=S) (n:=S+1) rfl rfl (by k_ne) rfl H.f_casU64 (x_casU64_n L) (x_casU64_b L) (x_casU64_x L) .u64 (x_casU64_f L) rfl rfl rfl d.cellSt (d.thaw 0)).trans (by rfl),90,?_⟩;replace a:WgLive L.tWg Wg (f.setCell (stA Wg) (.int .u64 (S+1))):=⟨_,_,d.setSt _⟩
   clear d
   walk_nrm
   u_op b a
   u_c aw b a
   u_c stepG_ret' b a
   u_leave1 H.f_uCas b a
   u_c aw b a
   repeat (u_c ay b a)
   u_cond ab b a
   repeat (u_c ay b a)
   u_reg b a
   u_op b a
   u_op b a
   u_op b a
   u_op b a
   u_c aw b a
   repeat (u_c ay b a)
   u_cond ab b a
   repeat (u_c ay b a)
   u_reg b a
   u_op b a
   u_op b a
   u_op b a
   u_conv H.underlying_tPU32 H.room_tU32 (Go.ConcN.Gen.WgLive.cell1 a).choose_spec b a
   refine Goes.stop (λf c=>?_);clear c;refine⟨rfl,_,⟨Wg,1,af⟩,rfl,λw=>stepG_markAt .write (by simp) rfl rfl (by k_ne) rfl H.f_raceWrite (x_raceWrite_n L) (x_raceWrite_b L) (x_raceWrite_x L) (x_raceWrite_f L) (ad:=⟨Wg,1,af⟩) (by simp[Act.eval]),λw a=>⟨60,?_⟩⟩
   walk_nrm
   u_c aw b a
   repeat (u_c ay b a)
   u_reg b a
   u_op b a
   u_c aw b a
   repeat (u_c ay b a)
   u_reg b a
   u_op b a
   u_op b a
   u_op b a
   u_op b a
   u_skip b a
   u_op b a
   u_c aw b a
   repeat (u_c ay b a)
   u_cond ae b a
   u_c stepG_skip b a
   repeat (u_c ay b a)
   u_reg b a
   u_op b a
   u_op b a
   u_op b a
   u_op b a
   refine Goes.stop (λo i=>?_);replace a:=b a i;clear i;refine⟨rfl,rfl,λ⟨st,d⟩=>stepG_semacquire_wait rfl rfl rfl H.f_semacquire (x_semacquire_n L) (x_semacquire_b L) (x_semacquire_x L) (x_semacquire_f L) (by simp[Act.eval,smA]) d.cellSm,λr=>?_⟩;refine⟨_,(stepG_semacquire (n:=1) rfl rfl (by k_ne) rfl H.f_semacquire (x_semacquire_n L) (x_semacquire_b L) (x_semacquire_x L) (x_semacquire_f L) (by simp[Act.eval,smA]) r.cellSm (by k_ne) (r.thaw 1)).trans (by rfl),40,?_⟩;replace a:WgLive L.tWg Wg (o.setCell (smA Wg) (.int .u32 0)):=⟨_,_,r.setSm 0⟩
   clear r
   walk_nrm
   u_c aw b a
   repeat (u_c ay b a)
   u_reg b a
   u_op b a
   u_op b a
   u_op b a
   u_call H.f_uLoad (nm_uLoad L) uLoadFn b a
   repeat (u_c ay b a)
   u_reg b a
   u_op b a
   u_c aw b a
   repeat (u_c ay b a)
   u_reg b a
   u_op b a
   u_op b a
   u_op b a
   refine Goes.stop (λs k=>?_);replace a:=b a k;clear k;refine⟨rfl,λd=>⟨_,stepG_load_atomic (v:=0) rfl rfl (by k_ne) rfl H.f_loadU64 (x_loadU64_n L) (x_loadU64_b L) (x_loadU64_x L) .u64 (x_loadU64_f L) rfl d.cellSt,40,?_⟩⟩;clear d
   walk_nrm
   u_op b a
   u_c aw b a
   u_c stepG_ret' b a
   u_leave1 H.f_uLoad b a
   u_op b a
   u_op b a
   u_c aw b a
   repeat (u_c ay b a)
   u_cond ab b a
   repeat (u_c ay b a)
   u_reg b a
   refine Goes.stop (λf c=>?_);clear c;refine⟨rfl,_,λw=>stepG_mark0 .enable (by simp) rfl rfl (by k_ne) rfl H.f_enable (x_enable_n L) (x_enable_b L) (x_enable_x L) (x_enable_f L),λw a=>⟨20,?_⟩⟩
   walk_nrm
   u_c aw b a
   repeat (u_c ay b a)
   u_reg b a
   u_op b a
   u_conv H.underlying_tWgP H.room_tWg (Go.ConcN.Gen.WgLive.cell0 a).choose_spec b a
   refine Goes.stop (λf c=>?_);clear c;refine⟨rfl,_,λw=>stepG_markAt .acquire (by simp) rfl rfl (by k_ne) rfl H.f_acquire (x_acquire_n L) (x_acquire_b L) (x_acquire_x L) (x_acquire_f L) (by simp[Act.eval,stA]),λw a=>⟨40,?_⟩⟩
   walk_nrm
   u_c aw b a
   repeat (u_c ay b a)
   u_reg b a
   u_op b a
   u_c aw b a
   repeat (u_c ay b a)
   u_cond ae b a
   u_c stepG_skip b a
   u_c stepG_ret' b a
   u_leave0 H.f_wait b a
   grind[Goes.stop]
  .refine⟨_,stepG_cas_miss (v:=(v':Int)*KK) (old:=S) (n:=S+1) rfl rfl (by k_ne) rfl H.f_casU64 (x_casU64_n L) (x_casU64_b L) (x_casU64_x L) .u64 (x_casU64_f L) rfl rfl rfl d.cellSt (d.thaw 0) (by rw[<-l];simp only[KK];omega),30,?_⟩;clear d
   walk_nrm
   u_op b a
   u_c aw b a
   u_c stepG_ret' b a
   u_leave1 H.f_uCas b a
   u_c aw b a
   repeat (u_c ay b a)
   u_cond ae b a
   u_c stepG_skip b a
   u_c stepG_inBlock b a
   u_c stepG_inLoop b a
   exact Goes.stop λ_ _=>⟨_,rfl,by simp,by simp⟩
end
section
open Go.Conc Go.Conc.Lib
open Go.ConcN (WgLive)
open Go.ConcR (KK WgAt stA smA rd wr mk DC0 Payload)
def fy(ty:av)(Wg:Nat)(w w1:aA):Prop:=WgLive ty Wg w->WgLive ty Wg w1
def fy.refl{ty:av}{Wg:Nat}(w:aA):fy ty Wg w w:=id
def fy.trans{ty:av}{Wg:Nat}{a b c:aA}(h:fy ty Wg a b)(k:fy ty Wg b c):fy ty Wg a c:=λx=>k (h x)
def xO(R:aA->aA->Prop)(Stop:ak->aA->Prop)(g:ak)(w:aA):Prop:=∀w1,R w w1->Stop g w1
def Goes.Tl{P:aK}{main:Bool}{R:aA->aA->Prop}{D:aA->aA->Array Event->Prop}{Stop:ak->aA->Prop}(k:∀a b c,R a b->R b c->R a c):
  ∀{n:Nat} {g:ak} {w:aA},Goes P main R D Stop n g w->Goes P main R D (xO R Stop) n g w
 |0,g,w,h=>λw1 l w2 p=>h w2 (k _ _ _ l p)
 |n+1,g,w,h=>by
  rcases h with h|⟨d,h⟩
  .exact .inl λw1 l w2 p=>h w2 (k _ _ _ l p)
  .refine .inr ⟨d,λw1 l=>?_⟩;have p:=h w1 l;cases j:aH P main g w1 with
   |go g' w' es =>
    rw[j,goes_go]at p;rw[goes_go];exact⟨p.1,Goes.Tl k p.2⟩
   |_=>rw[j]at p;exact p.elim
structure Apart(Wg:Nat)(F:St->Prop):Prop where
 rely:∀s s',F s->bZ s s'->F s'
 heap:∀s,F s->∃σ,aF σ s
 free:∀s,F s->¬s.own Wg/\(∀L∈s.β,Wg∉L.bs)/\∀o,s.M Wg o=af
section
variable {P:aK}{L:WgLink}{Wg:Nat}{F:St->Prop}
def yr(ty:av)(Wg:Nat)(F:St->Prop)(s:St):Prop:=F s/\WgLive ty Wg s.w
def Apart.OT(A:Apart Wg F){s:St}(h:F s):gn s:=(A.heap s h).choose_spec.mem
def Apart.set(A:Apart Wg F){s:St}(h:F s)(a:Addr)(x:a.block=Wg)(v:aj):bZ s {s with w:=s.w.setCell a v}:=by
 obtain⟨l,p,y⟩:=A.free s h;have j:∀b,b≠Wg->(s.w.setCell a v).heap[b]?=s.w.heap[b]?:=λb hb=>by have:=(aside_setCell s.w a v).block b (by grind);exact this
 refine⟨rfl,rfl,rfl,Nat.le_of_eq (aside_setCell s.w a v).size.symm,λb hb=>j b ?_,λb o u k=>?_,(aside_setCell s.w a v).os,(aside_setCell s.w a v).tape,(aside_setCell s.w a v).output⟩
 .grind
 .have E:b≠Wg:=by grind
  show(s.w.setCell a v).cell? _=_;rw[jC (j b E) o];exact A.OT h b o u k
def Apart.next(A:Apart Wg F){ty:av}{s i:St}(h:yr ty Wg F s)(r:(Cx.lead P ty Wg).rely s i):yr ty Wg F i:=⟨A.rely s i h.1 r.1,r.2 h.2⟩
def Apart.here(A:Apart Wg F){ty:av}{s:St}(h:yr ty Wg F s):(Cx.lead P ty Wg).rely s s:=⟨bZ.vV (A.OT h.1),id⟩
def Apart.goes(A:Apart Wg F){ty:av}{S:ak->St->Prop}{Stop:ak->aA->Prop}(k:∀g s,yr ty Wg F s->xO (fy ty Wg) Stop g s.w->eg (Cx.lead P ty Wg) (Es Wg) S g s){n:Nat}{g:ak}{s:St}(d:yr ty Wg F s)(h:Goes P ab (fy ty Wg) DC0 Stop n g s.w):eg (Cx.lead P ty Wg) (Es Wg) S g s:=by refine eg.goes (X:=Cx.lead P ty Wg) (R:=fy ty Wg) (D:=DC0) (Stop:=xO (fy ty Wg) Stop) (yr ty Wg F) (λs i hi f=>A.next hi f) (λs i _ f=>f.2) ?_ (λs hi=>A.here hi) k n g s d (Goes.Tl (λ_ _ _ l p=>l.trans p) h);rintro s es hi w' ⟨rfl,rfl⟩;exact⟨rfl,.inl (.quiet (A.heap s hi.1).choose_spec)⟩
end
set_option maxRecDepth 100000 in
def D2{P:aK}{L:WgLink}(H:WgLib P L){Wg:Nat}:Frame.enter P L.add #[.pointer (aa ⟨Wg,0,af⟩),.int .i64 1] .normal=(base L.add).at ⟨#[.pointer (aa ⟨Wg,0,af⟩),.int .i64 1,ai,ai,ai,ai,ai,ai,ai,ai,ai,ai,ai,ai,ai,ai,ai,ai,ai,ai,ai,ai,ai,ai,ai,ai,ai,ai,ai,ai,ai,ai,ai,ai,ai,ai,ai,ai,ai,ai,ai,ai,ai,ai,ai,ai,ai,ai,ai,ai,ai,ai,ai,ai,ai,ai,ai,ai,ai,ai,ai,ai,ai,ai,ai,ai,ai,ai,ai,ai,ai,ai,ai,ai,ai,ai,ai,ai,ai,ai,ai,ai,ai,ai,ai,ai,ai,ai,ai,ai,ai,ai,ai,ai,ai,ai,ai,ai,ai,ai,ai,ai,ai,ai,ai,ai,ai,ai,ai,ai,ai,ai,ai,ai,ai,ai,ai],[]⟩ [.code (Go.ConcR.Gen.body_add L)] :=
 (enter_at (c:=Go.ConcR.Gen.body_add L) _ H.f_add (by kernel_rfl)).trans (by kernel_rfl)
set_option maxRecDepth 100000 in
def BL{P:aK}{L:WgLink}(H:WgLib P L){Wg:Nat}:Frame.enter P L.wait #[.pointer (aa ⟨Wg,0,af⟩)] .normal=(base L.wait).at ⟨#[.pointer (aa ⟨Wg,0,af⟩),ai,ai,ai,ai,ai,ai,ai,ai,ai,ai,ai,ai,ai,ai,ai,ai,ai,ai,ai,ai,ai,ai,ai,ai,ai,ai,ai,ai,ai,ai,ai,ai,ai,ai,ai,ai,ai,ai,ai,ai,ai,ai,ai,ai,ai,ai,ai,ai,ai,ai,ai,ai,ai,ai,ai,ai,ai,ai,ai,ai,ai,ai,ai,ai,ai,ai,ai,ai,ai,ai,ai,ai,ai,ai,ai,ai,ai,ai,ai,ai,ai,ai,ai],[]⟩ [.code (Go.ConcR.Gen.body_wait L)] :=
 (enter_at (c:=Go.ConcR.Gen.body_wait L) _ H.f_wait (by kernel_rfl)).trans (by kernel_rfl)
section
variable [Payload]{P:aK}{L:WgLink}{Y:Lay}{F:St->Prop}{N n:Nat}{val:Nat->Nat->aj}
def Wy(H:WgLib P L)(A:Apart Y.Wg F){j:Nat}{Next:ak->St->Prop}{b₀:aU}{a₀:Act}{ops₀:Array aD}{i₀:Nat}{rest₀:List Nat}{k₀:List Item}{cs:List aU}(o:∀s,yr L.tWg Y.Wg F s->eg (Cx.lead P L.tWg Y.Wg) (Es Y.Wg) (AtGo P L.tWg Y N val j Next) (G (b₀.at (a₀.put ((ops₀[i₀]?).bind (·.dst)) (.tuple #[])) (.inRegion ops₀ rest₀::k₀)) cs) s){s:St}(d:yr L.tWg Y.Wg F s):
  eg (Cx.lead P L.tWg Y.Wg) (Es Y.Wg) (AtKdS P L.tWg Y N val j Next) (G (Frame.enter P L.add #[.pointer (aa ⟨Y.Wg,0,af⟩),.int .i64 1] .normal) (b₀.at a₀ (.inRegion ops₀ (i₀::rest₀)::k₀)::cs)) s:=by
 have z:∀g s,yr L.tWg Y.Wg F s->Wz P (fy L.tWg Y.Wg) L Y.Wg (G (b₀.at (a₀.put ((ops₀[i₀]?).bind (·.dst)) (.tuple #[])) (.inRegion ops₀ rest₀::k₀)) cs) g s.w->eg (Cx.lead P L.tWg Y.Wg) (Es Y.Wg) (AtKeS P L.tWg Y N val j Next) g s:=by rintro g s d ⟨l,g',p,y⟩;refine⟨.leaf,l,g',p,λi f=>?_⟩;have a:=A.next d f;obtain⟨m,q⟩:=y i.w a.2;exact A.goes (λg s d h=>by obtain rfl:=h s.w (.refl _);grind) a q
 have b:∀g s,yr L.tWg Y.Wg F s->xO (fy L.tWg Y.Wg) (Ym P (fy L.tWg Y.Wg) L Y.Wg (G (b₀.at (a₀.put ((ops₀[i₀]?).bind (·.dst)) (.tuple #[])) (.inRegion ops₀ rest₀::k₀)) cs)) g s.w->eg (Cx.lead P L.tWg Y.Wg) (Es Y.Wg) (AtA1 P L.tWg Y N val j Next) g s:=by
  rintro g s d h;refine⟨.leaf,(h s.w (.refl _)).1,λi f v I t=>?_⟩;have a:=A.next d f;obtain⟨g',l,m,q⟩:=(h i.w f.2).2 v I t;have k:yr L.tWg Y.Wg F {i with w:=i.w.setCell (stA Y.Wg) (.int .u64 ((v+1)*KK))}:=⟨A.rely _ _ a.1 (A.set a.1 _ rfl _),⟨_,_,t.setSt _⟩⟩;refine⟨g',l,A.goes (λg s d h=>?_) k q⟩
  rcases h s.w (.refl _)with h|h
  .obtain⟨l,g',ad,p,y,Q⟩:=h;refine .step l λi f=>⟨g',i,_,y i.w,.inr ⟨rfl,ad,p,.inl rfl⟩,?_⟩
   have a:=A.next d f;obtain⟨m,q⟩:=Q i.w a.2;exact A.goes (λg s d h=>z g s d (h s.w (.refl _))) a q
  grind
 have t:=M7 (P:=P) (L:=L) H (R:=fy L.tWg Y.Wg) (Wg:=Y.Wg) (λh r=>r h) (b₀:=b₀) (a₀:=a₀) (ops₀:=ops₀) (i₀:=i₀) (rest₀:=rest₀) (k₀:=k₀) (cs:=cs) s.w d.2;rw[D2 H];refine A.goes (λg s d h=>?_) d t;obtain⟨l,g',p,y⟩:=h s.w (.refl _);refine⟨.leaf,l,g',p,λi f=>?_⟩;have a:=A.next d f;obtain⟨m,q⟩:=y i.w a.2;exact A.goes b a q
section
variable (P L Y F)
def TW(B g:ak)(s:St):Prop:=yr L.tWg Y.Wg F s/\∃m,Goes P ab (fy L.tWg Y.Wg) DC0 (λg _=>g=B) m g s.w
def FY(c:aU)(cs:List aU)(g:ak)(s:St):Prop:=yr L.tWg Y.Wg F s/\∃m,Goes P ab (fy L.tWg Y.Wg) DC0 (λg _=>Qt L Y.Wg c cs g) m g s.w
end
variable {b₀:aU}{a₀:Act}{ops₀:Array aD}{i₀:Nat}{rest₀:List Nat}{k₀:List Item}{cs:List aU}
omit [Payload]in
def Tm(H:WgLib P L)(A:Apart Y.Wg F){T J:ak->St->Prop}(O:∀g s,TW P L Y F (G (b₀.at (a₀.put ((ops₀[i₀]?).bind (·.dst)) (.tuple #[])) (.inRegion ops₀ rest₀::k₀)) cs) g s->T g s)(C:∀g s,FY P L Y F (b₀.at a₀ (.inRegion ops₀ (i₀::rest₀)::k₀)) cs g s->J g s){g:ak}{s:St}(h:FY P L Y F (b₀.at a₀ (.inRegion ops₀ (i₀::rest₀)::k₀)) cs g s):
  eg (Cx.lead P L.tWg Y.Wg) (Es Y.Wg) (AtW1 P L.tWg Y T J) g s:=by
 generalize hc:b₀.at a₀ (.inRegion ops₀ (i₀::rest₀)::k₀)=c at *;generalize V:G (b₀.at (a₀.put ((ops₀[i₀]?).bind (·.dst)) (.tuple #[])) (.inRegion ops₀ rest₀::k₀)) cs=B at O;have K:∀g s,yr L.tWg Y.Wg F s->xO (fy L.tWg Y.Wg) (Tn P (fy L.tWg Y.Wg) L Y.Wg B) g s.w->eg (Cx.lead P L.tWg Y.Wg) (Es Y.Wg) (AtAcq P L.tWg Y T) g s:=by intro g s d h;obtain⟨l,g',p,y⟩:=h s.w (.refl _);exact⟨.leaf,l,g',p,λi f=>O _ _ ⟨A.next d f,y i.w (A.next d f).2⟩⟩
 have z:∀g s,yr L.tWg Y.Wg F s->xO (fy L.tWg Y.Wg) (WA P (fy L.tWg Y.Wg) L Y.Wg B) g s.w->eg (Cx.lead P L.tWg Y.Wg) (Es Y.Wg) (AtKe P L.tWg Y T) g s:=by intro g s d h;obtain⟨l,g',p,y⟩:=h s.w (.refl _);refine⟨.leaf,l,g',p,λi f=>?_⟩;obtain⟨m,q⟩:=y i.w (A.next d f).2;exact A.goes K (A.next d f) q
 have U:∀g s,yr L.tWg Y.Wg F s->xO (fy L.tWg Y.Wg) (Yn P (fy L.tWg Y.Wg) L Y.Wg B) g s.w->eg (Cx.lead P L.tWg Y.Wg) (Es Y.Wg) (AtW4 P L.tWg Y T) g s:=by intro g s d h;refine⟨.leaf,(h s.w (.refl _)).1,λi f t=>?_⟩;obtain⟨g',l,m,q⟩:=(h i.w f.2).2 t;exact⟨g',l,A.goes z (A.next d f) q⟩
 have Z:∀g s,yr L.tWg Y.Wg F s->xO (fy L.tWg Y.Wg) (Yo P (fy L.tWg Y.Wg) L Y.Wg B) g s.w->eg (Cx.lead P L.tWg Y.Wg) (Es Y.Wg) (AtW3 P L.tWg Y T) g s:=by intro g s d h;refine⟨.leaf,(h s.w (.refl _)).1,(h s.w (.refl _)).2.1,λi f=>⟨(h i.w f.2).2.2.1,λt=>?_⟩⟩;obtain⟨g',l,m,q⟩:=(h i.w f.2).2.2.2 t;exact⟨g',l,A.goes U (s:={i with w:=i.w.setCell (smA Y.Wg) (.int .u32 0)}) ⟨A.rely _ _ (A.next d f).1 (A.set (A.next d f).1 _ rfl _),⟨_,_,t.setSm 0⟩⟩ q⟩
 have W:∀g s,yr L.tWg Y.Wg F s->xO (fy L.tWg Y.Wg) (Yp P (fy L.tWg Y.Wg) L Y.Wg B) g s.w->eg (Cx.lead P L.tWg Y.Wg) (Es Y.Wg) (AtW3 P L.tWg Y T) g s:=by
  intro g s d h;obtain⟨l,g',ad,p,y,Q⟩:=h s.w (.refl _);refine .step l λi f=>⟨g',i,_,y i.w,.inr ⟨rfl,ad,p,.inr rfl⟩,?_⟩
  obtain⟨m,q⟩:=Q i.w (A.next d f).2;exact A.goes Z (A.next d f) q
 have gW2:∀(v:Nat) g s,yr L.tWg Y.Wg F s->xO (fy L.tWg Y.Wg) (Yq P (fy L.tWg Y.Wg) L Y.Wg B (Qt L Y.Wg c cs) v) g s.w->eg (Cx.lead P L.tWg Y.Wg) (Es Y.Wg) (AtW2 P L.tWg Y T J v) g s:=by
  intro vs g s d h;refine⟨.leaf,(h s.w (.refl _)).1,λi f v I t=>⟨λe=>?_,λe=>?_⟩⟩
  .obtain⟨g',l,m,q⟩:=((h i.w f.2).2 v I t).1 e;exact⟨g',l,A.goes W (s:={i with w:=i.w.setCell (stA Y.Wg) (.int .u64 (v*KK+1))}) ⟨A.rely _ _ (A.next d f).1 (A.set (A.next d f).1 _ rfl _),⟨_,_,t.setSt _⟩⟩ q⟩
  .obtain⟨g',l,m,q⟩:=((h i.w f.2).2 v I t).2 e;exact⟨g',l,C _ _ ⟨A.next d f,m,q⟩⟩
 obtain⟨d,m,q⟩:=h;refine A.goes (λg s d h=>?_) d q;obtain⟨m,t⟩:=D3 (P:=P) (L:=L) H (R:=fy L.tWg Y.Wg) (Wg:=Y.Wg) (λh r=>r h) (b₀:=b₀) (a₀:=a₀) (ops₀:=ops₀) (i₀:=i₀) (rest₀:=rest₀) (k₀:=k₀) (cs:=cs) g (by rw[hc];exact h s.w (.refl _)) s.w d.2;rw[hc,V]at t;refine A.goes (λg s d h=>?_) d t;refine⟨.leaf,(h s.w (.refl _)).1,λi f v I t=>?_⟩;obtain⟨g',l,p,y⟩:=(h i.w f.2).2 v I t;refine⟨g',l,λh0=>?_,λE=>?_⟩
 .obtain⟨m,q⟩:=p h0;exact A.goes z (A.next d f) q
 .obtain⟨m,q⟩:=y E;exact A.goes (gW2 v) (A.next d f) q
omit [Payload]in
def To(H:WgLib P L)(A:Apart Y.Wg F){c:aU}{J:ak->St->Prop}(C:∀g s,FY P L Y F c cs g s->J g s){s:St}(d:yr L.tWg Y.Wg F s):
  eg (Cx.lead P L.tWg Y.Wg) (Es Y.Wg) (AtKd P L.tWg Y J) (G (Frame.enter P L.wait #[.pointer (aa ⟨Y.Wg,0,af⟩)] .normal) (c::cs)) s:=by have t:=D4 (P:=P) (L:=L) H (R:=fy L.tWg Y.Wg) (Wg:=Y.Wg) (λh r=>r h) (c:=c) (cs:=cs) s.w d.2;rw[BL H];refine A.goes (λg s d h=>?_) d t;obtain⟨l,g',p,y⟩:=h s.w (.refl _);exact⟨.leaf,l,g',p,λi f=>C _ _ ⟨A.next d f,y i.w (A.next d f).2⟩⟩
end
end
section
open Go.Conc Go.RowKit Go.Conc.Lib Go.ConcR.Gen
open Go.ConcN (WgLive Has RW DWs AtR0 EvW)
open Go.ConcN.Gen
open Go.ConcR (KK WgAt stA smA rd wr mk DC0 Payload)
section
variable {R:aA->aA->Prop}{D:aA->aA->Array Event->Prop}{Stop A:ak->aA->Prop}
def Goes.never(b:∀w,R w w)(f:∀g w,Stop g w->∃g' e,aH P ae g w=.go g' w #[e])(d:∀n g w,A g w->¬Goes P ae R D Stop n g w):
  ∀(m n:Nat) (g:ak) (w:aA),Goes P ae R DC0 A m g w->¬Goes P ae R D Stop n g w
 |0,n,g,w,h,k=>d n g w (h w (b w)) k
 |m+1,n,g,w,h,k=>by
  rcases h with h|⟨_,h⟩
  .grind
  .have h1:=h w (b w);cases a:aH P ae g w with
   |go g' w' es =>
    rw[a,goes_go]at h1;obtain⟨⟨rfl,rfl⟩,h2⟩:=h1;have no:¬Stop g w':=λi=>by grind
    cases n with
    |zero=>exact no (k w' (b w'))
    |succ n =>
     rcases k with k|⟨_,k⟩
     .grind
     .have k1:=k w' (b w');rw[a,goes_go]at k1;exact Goes.never b f d m n g' w' h2 k1.2
   |_=>rw[a]at h1;exact h1.elim
def Goes.meet(d:∀w,R w w)(i:∀g w,Stop g w->∃g' e,aH P ae g w=.go g' w #[e])(b:∀n g w,A g w->Goes P ae R D Stop n g w->∀w1,R w w1->Stop g w1):
  ∀(m n:Nat) (g:ak) (w:aA),Goes P ae R DC0 A m g w->Goes P ae R D Stop n g w->Goes P ae R DC0 Stop m g w
 |0,n,g,w,h,k=>b n g w (h w (d w)) k
 |m+1,n,g,w,h,k=>by
  rcases h with h|⟨f,h⟩
  .exact .inl (b n g w (h w (d w)) k)
  .refine .inr ⟨f,λw1 hr=>?_⟩;have h1:=h w1 hr;cases a:aH P ae g w1 with
   |go g' w' es =>
    rw[a,goes_go]at h1;rw[goes_go];obtain⟨⟨rfl,rfl⟩,h2⟩:=h1;have no:¬Stop g w':=λf=>by grind
    refine⟨⟨rfl,rfl⟩,?_⟩;cases n with
    |zero=>exact absurd (k w' hr) no
    |succ n =>
     rcases k with k|⟨_,k⟩
     .grind
     .have k1:=k w' hr;rw[a,goes_go]at k1;exact Goes.meet d i b m n g' w' h2 k1.2
   |_=>rw[a]at h1;exact h1.elim
end
variable [Payload]{L:WgLink}{Wg C Low x:Nat}{val:aj}{c:aU}
def StK(P:aK)(g:ak)(_:aA):Prop:=∃a,∀w,aH P ae g w=.go a w #[mk .disable]
def StR(P:aK)(L:WgLink)(Wg C n Low x:Nat)(val:aj)(g:ak)(w:aA):Prop :=
 (WgLive L.tWg Wg w/\Has C (x-1) val w)/\∃g2,(∀w,aH P ae g w=.go g2 w #[mk (.releaseMerge (stA Wg))])/\∀w,WgLive L.tWg Wg w/\Has C (x-1) val w->∃m,Goes P ae (RW L.tWg Wg C n Low (x-1)) DC0 (StK P) m g2 w
set_option maxRecDepth 100000 in
def LI(H:WgLib P L)(w:aA)(a:WgLive L.tWg Wg w/\Has C (x-1) val w):
  Goes P ae (RW L.tWg Wg C n Low (x-1)) DC0 (StR P L Wg C n Low x val) 23 (G ((baseD L.done).at ⟨#[.pointer (aa ⟨Wg,0,af⟩),ai,ai,ai],[]⟩ [.code (body_done L)]) (c::cs)) w:=by
 lib_facts
 simp only[body_done,body_add,doneFn,addFn,gx]
 u_reg kn_rely a
 u_op kn_rely a
 u_in kn_rely a
 refine goes_call rfl rfl (by k_ne) rfl H.f_add (nm_add L) rfl ⟨by u_nil,?_⟩
 walk_nrmf addFn
 repeat (u_c ay kn_rely a)
 u_cond ab kn_rely a
 repeat (u_c ay kn_rely a)
 u_reg kn_rely a
 u_op kn_rely a
 u_op kn_rely a
 u_c aw kn_rely a
 repeat (u_c ay kn_rely a)
 u_cond ab kn_rely a
 u_reg kn_rely a
 u_op kn_rely a
 u_conv H.underlying_tWgP H.room_tWg (Go.ConcN.Gen.WgLive.cell0 a.1).choose_spec kn_rely a
 refine Goes.stop (λd b=>?_);replace a:=kn_rely a b;clear b;refine⟨a,_,λw=>stepG_markAt .releaseMerge (by simp) rfl rfl (by k_ne) rfl H.f_relMerge (x_relMerge_n L) (x_relMerge_b L) (x_relMerge_x L) (x_relMerge_f L) (by simp[Act.eval,stA]),λw a=>⟨10,?_⟩⟩
 walk_nrm
 u_c aw kn_rely a
 repeat (u_c ay kn_rely a)
 u_reg kn_rely a
 exact Goes.stop λd b=>⟨_,λw=>stepG_mark0 .disable (by simp) rfl rfl (by k_ne) rfl H.f_disable (x_disable_n L) (x_disable_b L) (x_disable_x L) (x_disable_f L)⟩
def TC(H:WgLib P L){r:Nat}(d:c.mode=.returning)(y:QuitsD P r 0 (G c cs))(w:aA)(b:WgLive L.tWg Wg w/\Has C (x-1) val w):
  Goes P ae (RW L.tWg Wg C n Low (x-1)) DC0 (AtR0 P L.tWg Wg C n Low x val) 23 (G ((baseD L.done).at ⟨#[.pointer (aa ⟨Wg,0,af⟩),ai,ai,ai],[]⟩ [.code (body_done L)]) (c::cs)) w:=by
 have v:=doneN (Own:=λ_ _=>False) (Rd:=λ_ _=>False) (Low:=Low) (n:=n) H d y w b;have f:∀g w,AtR0 P L.tWg Wg C n Low x val g w->∃g' e,aH P ae g w=.go g' w #[e]:=λg w h=>by obtain⟨_,_,g',t,_⟩:=h;grind
 have p:(mk (.releaseMerge (stA Wg)):Event)≠mk .disable:=by simp[mk]
 refine Goes.meet (λw=>.refl w) f ?_ _ _ _ _ (LI H w b) v;intro j g w h k w1 hr;obtain⟨b,g2,t,o⟩:=h;have a:AtR0 P L.tWg Wg C n Low x val g w1∨∃i,Goes P ae (RW L.tWg Wg C n Low (x-1)) (DWs Wg (λ_ _=>False) (λ_ _=>False) C n x) (AtR0 P L.tWg Wg C n Low x val) i g2 w1:=by
  cases j with
  |zero=>exact .inl (k w1 hr)
  |succ j =>
   rcases k with k|⟨_,k⟩
   .grind
   grind[goes_go]
 rcases a with h|⟨i,h⟩
 .exact h
 .exfalso;obtain⟨m,q⟩:=o w1 (kn_rely b hr);refine Goes.never (λw=>.refl w) f ?_ _ _ _ _ q h;rintro l u w4 ⟨F,z⟩ k;have bad:∀w,¬AtR0 P L.tWg Wg C n Low x val u w:=λw s=>by obtain⟨_,_,E,B,_⟩:=s;grind
  cases l with
  |zero=>exact bad w4 (k w4 (.refl w4))
  |succ l =>
   rcases k with k|⟨_,k⟩
   .exact bad w4 (k w4 (.refl w4))
   .have k1:=k w4 (.refl w4);rw[z w4,goes_go]at k1;have:=(k1.1.2 _ (Array.mem_singleton.2 rfl)).2.1;exact this rfl
end
section
open Go.Conc (G crowd rcase scase ph partners_nil offersAt crowd_send_room crowd_recv_buf crowd_recv_closed runT_crowd_go EvL listed)
def g7(z:aj)(cap:Nat)(q:List Int)(cl:Bool):aj->(Nat->Option Obj)->Prop:=λv a=>v=z/\∃r s t,z=.chan (aa r)/\(∀n∈q,bt .i64 n)/\∀b,a b=if b=r then aa (.chan cap (q.map (Value.int .i64)).toArray cl s t ae)else af
structure yb(s:St)(l:Nat)(z:aj)(cap:Nat)(q:List Int)(cl:Bool)(L:Loc)(r sn rc:Nat):Prop where
 at':s.β[l]?=aa L
 v:L.v=z
 m:z=.chan (aa r)
 inr:∀n∈q,bt .i64 n
 heap:s.w.heap[r]?=aa (.chan cap (q.map (Value.int .i64)).toArray cl sn rc ae)
 bs:∀b,b∈L.bs↔b=r
section
variable {z:aj}{cap:Nat}{q:List Int}{cl:Bool}
def g7.open(hh:aF σ s)(hl:σ[l]?=aa (.dg (g7 z cap q cl))):∃L r sn rc,yb s l z cap q cl L r sn rc:=by
 have hb:l<s.β.length:=by rw[hh.len];grind
 obtain⟨ch,⟨h1,r,sn,rc,h2,c,e⟩,a,d,_⟩:=hh.box l _ _ hl (bn hb);exact⟨_,r,sn,rc,bn hb,h1,h2,c,a r _ (by grind),λb=>by grind⟩
def yb.jk{L:Loc}{r sn rc:Nat}(g:yb s l z cap q cl L r sn rc)(hh:aF σ s)(hl:σ[l]?=aa (.dg (g7 z cap q cl))){q':List Int}(a:Bool)(d c:Nat)(j:∀n∈q',bt .i64 n):
  aF (σ.set l (.dg (g7 z cap q' a))) {s with w:=s.w.setChan r cap (q'.map (Value.int .i64)).toArray a d c ae}/\Step σ s (σ.set l (.dg (g7 z cap q' a))) {s with w:=s.w.setChan r cap (q'.map (Value.int .i64)).toArray a d c ae}:=by
 have f:r<s.w.heap.size:=(eX.1 g.heap).1;have h:=hh.jk (H':=g7 z cap q' a) (L':=L) (w':=s.w.setChan r cap (q'.map (Value.int .i64)).toArray a d c ae) hl g.at' rfl (by simp[World.setChan]) (λb _ hb=>by show(s.w.heap.setIfInBounds r _)[b]?=_;rw[nv (by rintro rfl;exact hb ((g.bs r).2 rfl))]) (λb hb=>.inl hb)
  ⟨λb=>if b=r then aa (.chan cap (q'.map (Value.int .i64)).toArray a d c ae)else af,⟨g.v,r,d,c,g.m,j,λ_=>rfl⟩,λb k hb=>by
   simp only[World.setChan]
   grind,λb=>by rw[g.bs];by_cases e:b=r<;>simp[e]⟩ rfl rfl rfl
 have e1:s.β.set l L=s.β:=by
  apply g9;intro i;by_cases e:l=i
  .subst e;rw[gw (cf.1 g.at').1,g.at']
  grind
 rwa [e1]at h
end
def mc(c:Nat):MemAct->Prop
 |.send k _|.sendDone k _|.recv k _ _|.recvDone k _|.recvClosed k=>k=c
 |_=>False
def mc.Px{Sh:Go.Loc->Prop}{B c:Nat}{t u:Trace}(h:Go.Conc.Past Sh B t)(e:∀op∈u,op.g=0/\mc c op.act)(j:c<B):Go.Conc.Past Sh B (t++u):=by
 refine h.app0 (λop iu=>(e op iu).1) (λop iu b hb=>?_) ?_ λop iu=>?_
 .have:=(e op iu).2;cases a:op.act<;>simp[a,mc,bl]at this hb
 .obtain⟨u⟩:=u;rw[Go.Conc.Deaf_append];have:∀(l:List MemOp) (d:Nat),(∀op∈l,mc c op.act)->l.foldl (Go.Conc.deafStep 0) d=d:=λl=>by
   induction l with
   |nil=>exactλd _=>rfl
   |cons x l i =>
    intro d hl;have f:=hl x oE;rw[jq,i _ λop iu=>hl op (mx _ iu)];cases a:x.act<;>simp[a,mc,Go.Conc.deafStep]at f⊢
  exact this u _ λop iu=>(e op (by simpa using iu)).2
 .have:=(e op iu).2;cases a:op.act<;>simp[a,mc,MemAct.low]at this⊢<;>omega
def mc.norel{c:Nat}{t u:Trace}(h:mO t)(b:∀op∈u,op.g=0/\mc c op.act):mO (t++u) :=
 λa=>(h a).app λop iu hx=>by have:=(b op iu).2;rw[hx]at this;exact this
section
def mT(P:aK)(N:Nat)(o:aD)(φ:Fr)(σ:List bm)(x:D)(σ':List bm):Prop :=
 ∀s a,cx N σ s φ a->aF σ s->∀(b:aU) (k:List Item) (cs:List aU) (ops:Array aD) (i:Nat) (rest:List Nat),b.kind≠.early->ops[i]?=aa o->a9 o (yielded ops a.tmps)=ab ->
  AX P (G (b.aT a (.inRegion ops (i::rest)::k)) cs) s λg' s'=>∃v,g'=G (b.aT (a.put o.dst v) (.inRegion ops rest::k)) cs/\aF σ' s'/\cO σ s σ' s'/\dk σ' s' v x
def AK.zx{x:D}(h:mT P N o φ σ x σ')(i:o.guard=af)(g:gm N o.dst=ab)(k:AK (Cx.beside P) N Qf (.ops all rest::K) .normal (kO o.dst x φ) σ'):AK (Cx.beside P) N Qf (.ops all (o::rest)::K) .normal φ σ:=by
 intro s a f hh b kk cs S idx hb ia hQ;cases idx with
 |nil=>exact ia.elim
 |cons j idx =>
 refine .vl (h s a f hh b kk cs _ j idx hb ia.1 (dD i)) ?_;rintro g' s' ⟨v,rfl,e,d,m⟩;refine k s' _ ?_ e b kk cs S idx hb ia.2 λc σ2 s2 a2 q l h2 st=>hQ c σ2 s2 a2 q l h2 (d.trans st);cases p:o.dst with
 |none=>exact f.mono d hh.len
 |some t=>exact(f.mono d hh.len).put (gM g t p) m
def Py{t:Trace}{q:Nat->Nat}(b:Go.Conc.Leavers P t gs q)(r:Nat)(send:Bool):partners (gs.setIfInBounds 0 ph) r send=[]:=by
 refine partners_nil λj g a=>?_;rcases nw j with rfl|c
 .rw[Array.getElem?_setIfInBounds]at a;split at a
  .split at a
   .cases a;rfl
   .cases a
  .simp at *
 .rw[nv (by omega)]at a;have:=(b.old j g c a).status;unfold offersAt;rcases this with h|h<;>rw[h]
def zy{g2:ak}{c:Nat}{T:ak->St->Prop}(u:g.status=.running)(F:aF σ s)(one:∀(d:Nat) (gs:Array ak) (sl:Option (Nat×Nat)),gs[0]?=aa g->(∀r send,partners (gs.setIfInBounds 0 ph) r send=[]) ->
   ∃a ops,runT P (crowd gs (s.w.at d) sl) 0=(.next (crowd (gs.setIfInBounds 0 g2) a.w sl),ops)/\(∀op∈ops,op.g=0/\mc c op.act)/\aF σ' a/\Step σ {s with w:=s.w.at d} σ' a/\T g2 a)(B:c<s.w.heap.size):AX P g s T:=by
 refine AX.slip u λE gs d sl t q D m k p h l=>?_;obtain⟨a,ops,x,b,v,i,C⟩:=one d gs sl m λr send=>Py k r send;have f:0<gs.size:=(eX.1 m).1;refine⟨_,g2,a,ops,x,v.mem,by simp[f],⟨λj y e o=>?_,λj e=>?_⟩,mc.Px (p.mono i.size) b (cA B i.size),(h.at d).step i,mc.norel l b,C⟩
 .rw[nv (by omega)]at o;rw[Go.Conc.Deaf_other t (g':=0) (by omega) _ λop iu=>(b op iu).1];exact k.old j y e o
 .rw[Go.Conc.Deaf_other t (g':=0) (by simp at e;omega) _ λop iu=>(b op iu).1];exact k.above j (by simpa using e)
def Pz{b:aU}{a:Act}{k:List Item}{rest:List Nat}(hi:ops[i]?=aa o){cc:Array CommCase}{d:CommShape}{j:Int}{ok:Bool}:
  (G (b.aT a (.inRegion ops (i::rest)::k)) cs).finishComm P cc d j v ok=G (b.aT (a.put o.dst (commResult cc d j v ok)) (.inRegion ops rest::k)) cs:=by have c:=jd (b:=b) (a:=a) (k:=k) ops i rest (commResult cc d j v ok);rw[hi]at c;simp only[my]at c;simp only[Goroutine.finishComm,G,c]
def Fv{fn:aM}{pos:String}{c:Nat}{a b:MemAct}{f g:aM}{p q:String}(d:mc c a:=by rfl)(e:mc c b:=by rfl):∀op∈MemOp.ofEvents 0 fn pos #[]++#[{g:=0,fn:=f,pos:=p,act:=a},{g:=0,fn:=g,pos:=q,act:=b}],op.g=0/\mc c op.act:=by
 intro op iu;simp[MemOp.ofEvents]at iu;rcases iu with rfl|rfl
 .exact⟨rfl,d⟩
 .exact⟨rfl,e⟩
section
variable {z:aj}{cap:Nat}{q:List Int}{n:Int}
def mT.send(ho:o.op=.send x y)(hl:σ[l]?=aa (.dg (g7 z cap q ae)))(J:bO φ x=.e (.one (.v z)))(H:bO φ y=.e (.one (.c (.int .i64 n))))(O:q.length<cap):
  mT P N o φ σ .any (σ.set l (.dg (g7 z cap (q++[n]) ae))):=by
 intro s a f hh b k cs ops i rest hb hi hw;obtain⟨L,r,sn,D,g⟩:=g7.open hh hl;have ex:a.eval x=.chan (aa r):=(LV (dt f x) J).trans g.m;obtain⟨K,M⟩:=UL (dt f y) H;have u:r<s.w.heap.size:=(eX.1 g.heap).1;refine zy (c:=r) (σ':=σ.set l (.dg (g7 z cap (q++[n]) ae))) (g2:=G (b.aT (a.put o.dst ai) (.inRegion ops rest::k)) cs) rfl hh (λd gs sl h0 hp=>?_) u;have p:bZ s {s with w:=s.w.at d}:=bZ.at hh.mem d;have t:=hh.rely p;have I:yb {s with w:=s.w.at d} l z cap q ae L r sn D:=⟨g.at',g.v,g.m,g.inr,g.heap,g.bs⟩;obtain⟨E,F⟩:=I.jk t hl (q':=q++[n]) ae (sn+1) D (λm hm=>(ff.1 hm).elim (g.inr m) λh=>by rw[iX.1 h];exact M)
 have B:aH P (0==0) (G (b.aT a (.inRegion ops (i::rest)::k)) cs) (s.w.at d)=.comm (G (b.aT a (.inRegion ops (i::rest)::k)) cs) #[scase r (.int .i64 n) (.tuple #[])] ab .send (s.w.at d) #[]:=by
  have C:(b.kind==CallKind.early)=ae:=by grind
  rw[pL hi hw (by simp[ho])];simp[stepG.apply,an,ho,ex,K,G,Frame.aT,C,GStep.after,scase,seen]
 have j:=crowd_send_room (P:=P) (sl:=sl) h0 B g.heap (by simpa using O) (hp r ae);rw[Pz hi,show(q.map (Value.int .i64)).toArray.push (.int .i64 n)=((q++[n]).map (Value.int .i64)).toArray by simp]at j;refine⟨{s with w:=(s.w.at d).setChan r cap ((q++[n]).map (Value.int .i64)).toArray ae (sn+1) D ae},_,j,Fv,E,F,ai,rfl,E,p.stepW.trans (F.oe t),aq⟩
variable {T:av}{A:ChanDir}
def Oy(ho:o.op=.recv T x ab){b:aU}{a:Act}{k:List Item}{rest:List Nat}{r:Nat}(m:b.kind≠.early)(hi:ops[i]?=aa o)(h:a9 o (yielded ops a.tmps)=ab)(g:P.underlying T=aa (.chan A E))(e:∀w,(zeroValue E).run P w=.ok (.int .i64 0) w)(f:a.eval x=.chan (aa r)):
  aH P (0==0) (G (b.aT a (.inRegion ops (i::rest)::k)) cs) w=.comm (G (b.aT a (.inRegion ops (i::rest)::k)) cs) #[rcase r (.int .i64 0)] ab (.recv ab) w #[]:=by
 have c:(b.kind==CallKind.early)=ae:=by grind
 have d:(underlying T).run P w=.ok (.chan A E) w:=by simp[underlying,g]
 have l:(an a.eval o).run P w=.ok (.comm #[rcase r (.int .i64 0)] ab (.recv ab)) w:=by simp[an,ho,f,d,e,rcase]
 have j:(an a.eval o).events P w #[]=#[]:=by simp[an,ho,f,d,e,rcase]
 rw[pL hi h (by simp[ho])];simp[stepG.apply,l,j,G,Frame.aT,c,GStep.after,seen]
def mT.recv(ho:o.op=.recv T x ab)(D:P.underlying T=aa (.chan A E))(H:∀w,(zeroValue E).run P w=.ok (.int .i64 0) w){cl:Bool}(hl:σ[l]?=aa (.dg (g7 z cap (n::q) cl)))(F:bO φ x=.e (.one (.v z))):
  mT P N o φ σ (.fK [.one (.c (.int .i64 n)),.one (.c (.bool ab))]) (σ.set l (.dg (g7 z cap q cl))):=by
 intro s a f hh b k cs ops i rest hb hi hw;obtain⟨L,r,sn,u,g⟩:=g7.open hh hl;have ex:a.eval x=.chan (aa r):=(LV (dt f x) F).trans g.m;have t:r<s.w.heap.size:=(eX.1 g.heap).1;refine zy (c:=r) (σ':=σ.set l (.dg (g7 z cap q cl))) (g2:=G (b.aT (a.put o.dst (.tuple #[.int .i64 n,.bool ab])) (.inRegion ops rest::k)) cs) rfl hh (λd gs sl h0 hp=>?_) t;have j:bZ s {s with w:=s.w.at d}:=bZ.at hh.mem d;have p:=hh.rely j;have C:yb {s with w:=s.w.at d} l z cap (n::q) cl L r sn u:=⟨g.at',g.v,g.m,g.inr,g.heap,g.bs⟩;obtain⟨B,y⟩:=C.jk p hl (q':=q) cl sn (u+1) λm hm=>g.inr m (mx _ hm)
 have h:=crowd_recv_buf (P:=P) (w:=s.w.at d) (sl:=sl) h0 (Oy ho hb hi hw D H ex) g.heap (by simp) (hp r ab);have e1:((n::q).map (Value.int .i64)).toArray.extract 1 ((n::q).map (Value.int .i64)).toArray.size=(q.map (Value.int .i64)).toArray:=by simp[List.take_of_length_le]
 have e2:((n::q).map (Value.int .i64)).toArray.getD 0 ai=.int .i64 n:=by simp
 rw[Pz hi,e1,e2]at h;exact⟨{s with w:=(s.w.at d).setChan r cap (q.map (Value.int .i64)).toArray cl sn (u+1) ae},_,h,Fv,B,y,_,rfl,B,j.stepW.trans (y.oe p),⟨_,rfl,Rd.int (g.inr n oE),Rd.bool,aq⟩⟩
def mT.IB(ho:o.op=.recv T x ab)(u:P.underlying T=aa (.chan A E))(B:∀w,(zeroValue E).run P w=.ok (.int .i64 0) w)(hl:σ[l]?=aa (.dg (g7 z cap [] ab)))(y:bO φ x=.e (.one (.v z))):
  mT P N o φ σ (.fK [.one (.c (.int .i64 0)),.one (.c (.bool ae))]) σ:=by intro s a f hh b k cs ops i rest hb hi hw;obtain⟨L,r,sn,C,g⟩:=g7.open hh hl;have ex:a.eval x=.chan (aa r):=(LV (dt f x) y).trans g.m;have t:r<s.w.heap.size:=(eX.1 g.heap).1;refine zy (c:=r) (σ':=σ) (g2:=G (b.aT (a.put o.dst (.tuple #[.int .i64 0,.bool ae])) (.inRegion ops rest::k)) cs) rfl hh (λd gs sl h0 hp=>?_) t;have j:bZ s {s with w:=s.w.at d}:=bZ.at hh.mem d;have p:=hh.rely j;have h:=crowd_recv_closed (P:=P) (w:=s.w.at d) (sl:=sl) h0 (Oy ho hb hi hw u B ex) g.heap (hp r ab);rw[Pz hi]at h;refine⟨{s with w:=s.w.at d},_,h,λop iu=>?_,p,.refl _ _,_,rfl,p,j.stepW,⟨_,rfl,Rd.int (by simp[bt]),Rd.bool,aq⟩⟩;simp[MemOp.ofEvents]at iu;rw[iu];exact⟨rfl,rfl⟩
def mT.close(ho:o.op=.call {callee:=.builtin .close,args:=#[x],argTypes:=jN})(hl:σ[l]?=aa (.dg (g7 z cap q ae)))(j:bO φ x=.e (.one (.v z))):
  mT P N o φ σ .any (σ.set l (.dg (g7 z cap q ab))):=by
 intro s a f hh b k cs ops i rest hb hi hw;obtain⟨L,r,sn,E,g⟩:=g7.open hh hl;have ex:a.eval x=.chan (aa r):=(LV (dt f x) j).trans g.m;have H:r<s.w.heap.size:=(eX.1 g.heap).1;refine AX.slip rfl λSh gs d sl t q' hm h0 hL hP hc Fh=>?_;have y:bZ s {s with w:=s.w.at d}:=bZ.at hh.mem d;have B:=hh.rely y;have R:yb {s with w:=s.w.at d} l z cap q ae L r sn E:=⟨g.at',g.v,g.m,g.inr,g.heap,g.bs⟩;obtain⟨Q,F⟩:=R.jk B hl (q':=q) ab sn E g.inr;have C:an a.eval o=(do pure (.value (<-Builtin.close_ jN o.type #[a.eval x]))):=by simp[an,ho,resolve,invoke,builtin]
 have p:(s.w.at d).heap[r]?=aa (.chan cap (q.map (Value.int .i64)).toArray ae sn E ae):=g.heap;have D:(an a.eval o).run P (s.w.at d)=.ok (.value (.tuple #[])) ((s.w.at d).setChan r cap (q.map (Value.int .i64)).toArray ab sn E ae):=by rw[C,ex];simp[run_close_open _ _ p,World.setChan]
 have I:(an a.eval o).events P (s.w.at d) #[]=#[⟨.obj r,ae,ab⟩,⟨.obj r,ab,ab⟩]:=by rw[C,ex];simp[run_close_open _ _ p,events_close_open _ _ p]
 have J:=A3 (rest:=rest) (k:=k) (cs:=cs) (main:=0==0) hi hw hb D;have S:=runT_crowd_go (P:=P) (sl:=sl) (i:=0) h0 J;have c:0<gs.size:=(eX.1 h0).1;have K:¬Sh r:=λx=>hc.β _ x L (bL g.at') ((g.bs r).2 rfl);have h:∀e∈listed P b.fn a o (s.w.at d),e=⟨.obj r,ae,ab⟩∨e=⟨.obj r,ab,ab⟩:=λe u=>by have:=Go.Conc.mem_seen u;rw[I]at this;simpa using this
 refine⟨_,G (b.aT (a.put o.dst (.tuple #[])) (.inRegion ops rest::k)) cs,{s with w:=(s.w.at d).setChan r cap (q.map (Value.int .i64)).toArray ab sn E ae},_,S,Q.mem,by simp[c],hL.own (λop iu=>by grind[Go.Conc.mem_ofEvents]) c,?_,(hc.at d).step F,Fh.app λe u a j=>?_,.tuple #[],rfl,Q,y.stepW.trans (F.oe B),aq⟩
 .refine(hP.mono F.size).own λe u=>?_;have M:=cA H F.size;rcases h e u with rfl|rfl
  .exact⟨λx j O=>by simp[aG,bl]at j;subst j;exact absurd O K,by simp,by simp,by simp[aG,MemAct.low,Loc.low];exact M⟩
  .exact⟨λx j O=>by simp[aG,bl]at j,by simp,by simp,by simp[aG,MemAct.low];exact M⟩
 .rcases h e u with rfl|rfl<;>cases j
end
section
variable {X:Cx P}{T:av}{A:ChanDir}
def AK.Mn(h:o.op=.makeChan T x)(d:P.underlying T=aa (.chan A E)){i:TypeInfo}(f:P.info? E=aa i){n:Nat}(t:bO φ x=.e (.one (.c (.int .i64 n))))(hb:i.bytes=8)(C:n<=4000000)(p:o.guard=af)(j:gm N o.dst=ab)(k:∀z,AK X N Qf (.ops all rest::K) .normal (kO o.dst (.e (.one (.v z))) φ) (σ++[.dg (g7 z n [] ae)])):AK X N Qf (.ops all (o::rest)::K) .normal φ σ:=by
 refine AK.hand (ι:=aj) (λz=>.e (.one (.v z))) (λz=>σ++[.dg (g7 z n [] ae)]) p j (λs a r hh=>?_) k;obtain⟨ex,_⟩:=UL (dt r x) t;let w':aA:={s.w with heap:=s.w.heap.push (.chan n #[] ae 0 0 ae)}
 have g:w'.heap[s.w.heap.size]?=aa (.chan n #[] ae 0 0 ae):=by grind
 have l:w'.heap.size=s.w.heap.size+1:=by grind
 obtain⟨m,g2⟩:=hh.grow (M':=s.M) (w':=w') (by grind) (λb hb=>by grind) (λ_ _ _=>rfl) (λb hb o v hm=>by have:=hh.block hm;omega) rfl rfl rfl;obtain⟨y,u⟩:=m.hU g2 rfl hh (B:=.dg (g7 (.chan (aa s.w.heap.size)) n [] ae)) (L:=⟨.chan (aa s.w.heap.size),[s.w.heap.size]⟩)
  ⟨λb=>if b=s.w.heap.size then aa (.chan n #[] ae 0 0 ae)else af,⟨rfl,_,0,0,rfl,by simp,λ_=>rfl⟩,λb o hb=>by
   grind,λb=>by by_cases e:b=s.w.heap.size<;>simp[e],λb hb o=>by
   simp at hb;subst hb;show s.M _ _=af;cases hm:s.M s.w.heap.size o with
   |none=>rfl
   |some v=>have:=hh.block hm;omega⟩ (λb hb=>by grind)
 refine⟨.chan (aa s.w.heap.size),.value (.chan (aa s.w.heap.size)),_,.chan (aa s.w.heap.size),?_,.inl rfl,Rd.val rfl,y,u,?_⟩
 .simp[an,h,ex,Go.Conc.run_makeChan d f .i64 n (by omega) (by rw[hb];omega),w']
 .simp[an,h,ex,Go.Conc.run_makeChan d f .i64 n (by omega) (by rw[hb];omega),Go.Conc.events_makeChan d f .i64 n (by omega) (by rw[hb];omega)];exact .nil
end
end
end
section
open Go.RowKit
open Go.Conc (G solo crowd AtRel Past EvL Leavers)
def St.top(w:aA):St:={β:=[],M:=λb o=>w.cell? ⟨b,o,af⟩,w:=w,own:=λb=>b<w.heap.size}
def aF.top(w:aA):aF [] (St.top w):=⟨λ_ _ _ h=>h,rfl,by simp,by simp[St.top],by simp[St.top],λb hb=>⟨hb,by simp[St.top]⟩⟩
def Qs{f:aM}{a:aU}(h:um P f a v s)(hi:P.inits.idxOf? f=af)(w:aA)(j:∀b o u,s.M b o=aa u->w.cell? ⟨b,o,af⟩=aa u):∃es,aH P ab (G a []) w=.ended (.done v) w es/\∀e∈es,∃b o u,e=⟨.cell ⟨b,o,af⟩,ae,ae⟩/\s.M b o=aa u:=by
 obtain⟨fn,g,c⟩:=h.fn;obtain⟨l,i⟩:=c w j;refine⟨seen P a.fn ((results fn a.tmps).events P w #[]),?_,λe k=>i e (Go.Conc.mem_seen k)⟩;have d:P.inits.idxOf? a.fn=af:=by rw[h.Y5];exact hi
 simp[G,aH,unwind,doReturn,h.mode,h.defers,h.kind,g,l,d,GStep.after]
def dW.r7{f:aM}{args:List D}{σ':ι->List bm}(h:dW (Cx.beside P) f args [] res σ')(hi:P.inits.idxOf? f=af)(z:cn [] (St.top w) vs args){Post:aj->aA->Prop}(F:∀i v s',dk (σ' i) s' v (res i)->aF (σ' i) s'->Below w.heap.size w s'.w->∀d,Post v (s'.w.at d)):
  ∃M last o w' t',runNT P (M+1) (solo (G (Frame.enter P f vs.toArray .normal) []) w) #[]=(.ended o w',t')/\runN P M (solo (G (Frame.enter P f vs.toArray .normal) []) w)=.next last /\
   step P last=.ended o w'/\Go.Conc.Good P Post last o w' t':=by
 have key:=h.2 (St.top w) vs z (aF.top w) (λg s'=>∃i v fr,g=G fr []/\um P f fr v s'/\dk (σ' i) s' v (res i)/\aF (σ' i) s'/\Below w.heap.size w s'.w) []
  (λi fr v s' h1 h2 h3 h4=>.stop ⟨i,v,fr,rfl,h1,h2,h3,⟨h4.os,h4.tape,h4.output,h4.size,λk s=>h4.keep k s⟩⟩)
 have A:AM.ku (λ_=>False)=λ_=>False:=by funext l;cases l<;>rfl
 obtain⟨N,q,p,g',s',c,t',q',h1,h2,h3,h4,L,C,S,⟨i,v,fr,rfl,k1,t,E,O⟩⟩:=key.beside (λ_=>False) #[G (Frame.enter P f vs.toArray .normal) []] af #[] (λ_=>0) (aF.top w).mem rfl (Go.Conc.leavers_one P _)
  (by rw[A];exact Go.Conc.past_nil.mono (j9 _)) ⟨λ_ h=>h.elim,λ_ h=>h.elim,λ_ h=>h.elim,λ_ h=>h.elim⟩ (λa=>by intro i hi;simp[Trace.act?]at hi)
 have j:=Go.Conc.beside_ends (P:=P) (Shun:=AM.ku q) (B:=s'.w.heap.size) (D:=λ_ _ _=>False) (Post:=Post) (λ_ _ _ h=>h.elim) (sl:=c) (n:=0) h3 h4 L (Go.Conc.Goes.stop λw1 Ps=>by
  obtain⟨d,rfl⟩:=Ps;obtain⟨es,e1,e2⟩:=Qs k1 hi (s'.w.at d) (λb o u r=>h2 b o u r);refine⟨rfl,v,es,e1,λe K=>?_,F i v s' t E O d⟩;obtain⟨b,o,u,rfl,r⟩:=e2 e K;refine Go.Conc.evL_cell _ _ (λy=>?_) (gn.lt h2 r);have:=C.M b y o
  grind)
 obtain⟨m,last,o,w',x,H,R,I,J⟩:=j;refine⟨N+m,last,o,w',x,?_,?_,I,J⟩
 .rw[show N+m+1=N+(m+1) by omega];exact(runNT_add N (m+1) h1).trans H
 .have e:=runNT_fst P N (crowd #[G (Frame.enter P f vs.toArray .normal) []] w af) #[];have Q:(runNT P N (crowd #[G (Frame.enter P f vs.toArray .normal) []] w af) #[]).1=.next (crowd p s'.w c):=by have:runNT P N (crowd #[G (Frame.enter P f vs.toArray .normal) []] w af) #[]=_:=h1;grind
  grind[Go.Conc.solo_eq_crowd,runN_add]
end
section
open Go.ChangeShapes Go.WideShapes Go.ChangeAt Go.RowKit
def AO{H:Type}{enc:av×aj->H}{a:Assume}{C:Checked}{os:Os}{f:aM}{fn:Func}{s:ChangeSpec}{g:List PathCond}{apart fresh handsOn again:Bool}{X:aA->Array aj->Prop}(E:∀(w w':aA) (args:Array aj),w.heap=w'.heap->X w args->X w' args)(own:ownKnob C.prog.godebug=af)(h:os.Started)(u:C.prog.funcs[f]?=aa fn)(d:∃(w:aA) (b:Tape) (i:Input),w.os=os/\(w.forCall b i).Shaped C.prog/\i.vars=[]/\Input.okWide C.prog (w.forCall b i) .any w.heap.size f i /\
   ((s.pre enc C.prog fn g apart (w.forCall b i).memory i.args/\X (w.forCall b i).memory i.args)/\sizedMet enc C.prog fn (OpenSpec.ofChange s) apart (w.forCall b i).memory i.args)/\a.holds C.prog (lone (Frame.enter C.prog f i.args .normal) [] (w.forCall b i)))(l:∀(W:aA) (base:Nat) (args:Array aj) (ds gs:List (DataW H)) (c:List MemPlace),
   (∀(j:Nat) t v,fn.params[j]?=aa t->args[j]?=aa v->Value.okWide C.prog W .any base t v) ->
   DataW.Whole enc C.prog fn.params.toList s.vars apart W args.toList ds gs c->W.ShapedOpen C.prog->X W args ->
   ∃M last o w' t',runNT C.prog (M+1) (Conc.solo (Conc.G (Frame.enter C.prog f args .normal) []) W) #[]=(.ended o w',t')/\runN C.prog M (Conc.solo (Conc.G (Frame.enter C.prog f args .normal) []) W)=.next last /\
    step C.prog last=.ended o w'/\Conc.Good C.prog (λv D=>s.post enc C.prog fn apart fresh handsOn again W args v D) last o w' t'):
  ReturnsInLeavingWide a C os f .any (λw args=>(s.pre enc C.prog fn g apart w args/\X w args)/\sizedMet enc C.prog fn (OpenSpec.ofChange s) apart w args) (s.post enc C.prog fn apart fresh handsOn again):=by refine returnsInLeavingWide_of_good own h d ?_;intro w b i _ q _ x n p;obtain⟨_,_,_,r,m,_,_,_,_,k⟩:=x;have e:r=fn:=nA (m.symm.trans u);subst e;obtain⟨⟨⟨ds,gs,c,B,N⟩,I⟩,L⟩:=n;have y:=DataW.Whole.of_heap (w':=w.forCall b i) (by rfl) B;obtain⟨M,last,o,w',t',F,z,A,J⟩:=l (w.forCall b i) w.heap.size i.args ds gs c k y q (E (w.forCall b i).memory (w.forCall b i) i.args rfl I);exact⟨M,last,o,w',t',F,z,A,J.mono λv K=>ChangeSpec.post_blind K⟩
def pj{H:Type}{enc:av×aj->H}{a:Assume}{C:Checked}{os:Os}{f:aM}{fn:Func}{s:ChangeSpec}{d:List PathCond}{apart fresh handsOn again:Bool}{X:aA->Array aj->Prop}(n:∀(w w':aA) (args:Array aj),w.heap=w'.heap->X w args->X w' args)(own:ownKnob C.prog.godebug=af)(e:os.Started)(k:C.prog.funcs[f]?=aa fn)(g:∃(w:aA) (b:Tape) (i:Input),w.os=os/\(w.forCall b i).Shaped C.prog/\i.vars=[]/\Input.okWide C.prog (w.forCall b i) .any w.heap.size f i /\
   ((s.pre enc C.prog fn d apart (w.forCall b i).memory i.args/\X (w.forCall b i).memory i.args)/\sizedMet enc C.prog fn (OpenSpec.ofChange s) apart (w.forCall b i).memory i.args)/\a.holds C.prog (lone (Frame.enter C.prog f i.args .normal) [] (w.forCall b i)))(h:∀(W:aA) (base:Nat) (args:Array aj) (ds gs:List (DataW H)) (c:List MemPlace),
   (∀(j:Nat) t v,fn.params[j]?=aa t->args[j]?=aa v->Value.okWide C.prog W .any base t v) ->
   DataW.Whole enc C.prog fn.params.toList s.vars apart W args.toList ds gs c ->
   ∃M last o w' t',runNT C.prog (M+1) (Conc.solo (Conc.G (Frame.enter C.prog f args .normal) []) W) #[]=(.ended o w',t')/\runN C.prog M (Conc.solo (Conc.G (Frame.enter C.prog f args .normal) []) W)=.next last /\
    step C.prog last=.ended o w'/\Conc.Good C.prog (λv m=>s.post enc C.prog fn apart fresh handsOn again W args v m) last o w' t'):
  ReturnsInLeavingWide a C os f .any (λw args=>(s.pre enc C.prog fn d apart w args/\X w args)/\sizedMet enc C.prog fn (OpenSpec.ofChange s) apart w args) (s.post enc C.prog fn apart fresh handsOn again) :=
 AO n own e k g λW base args ds gs c p l _ _=>h W base args ds gs c p l
def tn(k:Looks){p:Pinned}{s:OpenSpec}{c:OpenClaim}(l:List (List PathCond))(kinds:List LaidKind)(a:Bool)(b:Bool×String)(lk:Bool)(x:c.holds p s)(m:∀D∈l,(c.withDomain D).holds p s)(w:c.wfByText s=ab)(e:∀D∈l,(c.withDomain D).wfByText s=ab)(i:c.laidByTextAt k p kinds a)(d:c.start=.entering)(g:c.noBlocks=ae/\c.again=ae)(n:p.checked.prog.mainIs=aa (b.1,b.2.toList))(y:(!b.1&&b.2.isEmpty&&!lk)=ae)(u:∀f fn,p.checked.prog.funcNamed c.func=aa f->p.checked.prog.funcs[f]?=aa fn->lk=p.checked.prog.looks []/\∀(j:Nat) t,fn.params[j]?=aa t->p.checked.prog.wantsStandIn t=ae)(v:ab=c.goesBy p.checked.prog):
  Claim7.holds p (.plain s) {stood:={row:=c,standIns:=[],harness:=b,looks:=lk},kinds:=[],alts:=l,goes:=ab,laidByText:=ab,laidKinds:=kinds,laidTests:=a,laidLooks:=k}:=by
 have q:∀r:OpenClaim,Claim7.isSixth {stood:={row:=r,standIns:=[],harness:=b,looks:=lk},kinds:=[]}=ae:=λr=>by simpa[Claim7.isSixth]using y
 refine⟨Claim7.tied_new_at k kinds a (Claim7.new_of_sixth x b lk d g n (q c) u) w,λD o=>?_,i,(λh=>by cases h),v⟩;exact Claim7.tied_new_at k kinds a (Claim7.new_of_sixth (m D o) b lk d g n (q _) u) (e D o)
end
namespace R1
section
variable {X:Cx ag}
def Rq:dv:=λargs σ=>match args,σ with
 |[.e (.one (.c (.str b)))],[]=>aa (dB (dF b),[],[])
 |_,_=>af
def t106:dH X 106 Rq:=by intro args σ res σ' obs h _;unfold Rq at h;grind[HO]
def NV:dv:=λargs σ=>match args,σ with
 |[.e (.one (.c (.str b)))],[]=>aa (dB (dN b),[],[])
 |_,_=>af
def t107:dH X 107 NV:=by intro args σ res σ' obs h _;unfold NV at h;grind[HP]
def Rr:dv:=λargs σ=>match args,σ with
 |[.e (.one (.c (.str a))),.e (.one (.c (.str b)))],[]=>aa (dB (clash a b),[],[a≠[],b≠[]])
 |_,_=>af
def t111:dH X 111 Rr:=by
 intro args σ res σ' obs h ho;unfold Rr at h;split at h
 .cases h;exact K9 _ _ ho.1 ho.2
 grind
def YC:List (Nat×dv):=(106,Rq)::(107,NV)::(111,Rr)::YB
def tA:bR X YC:=bR.cons t106 (bR.cons t107 (bR.cons t111 CP))
def fe(t:List bu)(i:Nat):Bs:=(t.getD i ([],[])).1
def uy(t:List bu)(i:Nat):Bs:=(t.getD i ([],[])).2
def gC(t:List bu)(i:Nat):(t.getD i cF.b8).1=fe t i:=rfl
def pr(t:List bu)(i:Nat):(t.getD i cF.b8).2=uy t i:=rfl
def gB(t:List bu)(i:Nat):Bool:=dF (fe t i)&&dN (uy t i)&&(i==0||bd (fe t (i-1)) (fe t i))&&(bg i).all λj=>!clash (fe t j) (fe t i)
def cE(t:List bu):Bool:=(bg t.length).all (gB t)&&decide (t.length<=6)
def cK{p:Nat->Bool}:(bg n).all p=ab↔∀i,i<n->p i=ab:=by grind
def qi{s:Bs}(h:dF s=ab):s≠[]:=by rintro rfl;simp[dF]at h
def ld{t:List bu}(hi:i<t.length)(h:gB t i=ae):cE t=ae:=by
 cases a:cE t with
 |false=>rfl
 |true =>
  simp only[cE,bJ]at a;grind
def yC(t:List bu):Ev X 85 [cF.sl t] [] (dB (cE t)) []:=by
 refine Ev.bQ Tryz.func85 rfl λu=>?_;have o:=u.sl 0 rfl;refine bX tA rfl aq ?_;refine AK.wa (λi=>i<=t.length/\∀j,j<i->gB t j=ab) (λi:Nat=>[(0,cF.sl t),(3,dI i)]) (λ_=>[]) (λi=>t.length-i) 0 rfl (by simp[cq]) ⟨by omega,by omega⟩ rfl ?_;rintro i ⟨hi,k⟩;by_cases h:i<t.length
 .by_cases b:dF (fe t i)=ab
  .by_cases d:dN (uy t i)=ab
   .by_cases m:i=0∨bd (fe t (i-1)) (fe t i)=ab
    .apply AK.join [(0,cF.sl t),(3,dI i),(4,dI 0)] []
     .intro p;by_cases c:i=0
      .refine aO tA [(8,ab),(16,ab),(24,ab),(29,ae)] rfl ?_ (p _ _ rfl ?_)
       .simp[-ah,h,gC,pr,b,d];omega
       .simp[cq]
      .have g:=m.resolve_left c;have f:bt .i64 ((i:Int)-1):=by simp only[bt];omega
       have n:((i:Int)-1).toNat=i-1:=by omega
       refine aO tA [(8,ab),(16,ab),(24,ab),(29,ab),(42,ae)] rfl ?_ (p _ _ rfl ?_)
       .simp[-ah,h,gC,pr,b,d,g,f,n];omega
       .simp[cq]
     ·
      have q:gB t i=(bg i).all (λj=>!clash (fe t j) (fe t i)):=by
       rcases m with rfl|g
       .simp[gB,b,d]
       .simp[gB,b,d,g]
      refine AK.wa (λj=>j<=i/\∀s,s<j->clash (fe t s) (fe t i)=ae) (λj:Nat=>[(0,cF.sl t),(3,dI i),(4,dI j)]) (λ_=>[]) (λj=>i-j) 0 rfl (by simp[cq]) ⟨by omega,by omega⟩ rfl ?_;rintro j ⟨w,v⟩;by_cases a:j<i
      .have l:dF (fe t j)=ab:=by have:=k j a;simp only[gB,bJ]at this;exact this.1.1.1
       cases r:clash (fe t j) (fe t i)with
       |true =>
        refine aO tA [(47,ab),(60,ab)] rfl ?_ (AK.gO (AK.rX (cg.zero rfl ?_)))
        .simp[-ah,h,a,gC,r,qi b,qi l];omega
        .have:gB t i=ae:=by grind
         simp[ld h this]
       |false =>
        refine aO tA [(47,ab),(60,ae)] rfl ?_ (AK.again (j+1) rfl ?_ ?_ ?_ rfl)
        .simp[-ah,h,a,gC,r,qi b,qi l,bt];omega
        .simp[cq]
        .grind
        .omega
      .have a:j=i:=by omega
       subst a;refine aO tA [(47,ae)] rfl (by simp) (AK.leave rfl rfl ?_);refine bX tA rfl ?_ (AK.again (j+1) rfl ?_ ?_ ?_ rfl)
       .simp[bt];omega
       .simp[cq]
       .grind
       .omega
    .have c:i≠0:=λe=>m (.inl e);have g:bd (fe t (i-1)) (fe t i)=ae:=by grind
     have f:bt .i64 ((i:Int)-1):=by simp only[bt];omega
     have n:((i:Int)-1).toNat=i-1:=by omega
     refine aO tA [(8,ab),(16,ab),(24,ab),(29,ab),(42,ab)] rfl ?_ (AK.gO (cg.zero rfl ?_))
     .simp[-ah,h,gC,pr,b,d,g,f,n];omega
     .simp[ar,ld h (by simp[gB,c,g])]
   .refine aO tA [(8,ab),(16,ab),(24,ae)] rfl ?_ (AK.gO (cg.zero rfl ?_))
    .simp[-ah,h,gC,pr,b,d]
    .simp[ar,ld h (by simp[gB,d])]
  .refine aO tA [(8,ab),(16,ae)] rfl ?_ (AK.gO (cg.zero rfl ?_))
   .simp[-ah,h,gC,b]
   .simp[ar,ld h (by simp[gB,b])]
 .refine aO tA [(8,ae)] rfl (by simp;omega) (AK.leave rfl rfl ?_);refine bX tA rfl aq (AK.bq rfl ?_);simp only[ar,cE];grind
end
def dl(s:Bs)(i:Nat):Int:=(cz s i-97) % 256
def jk(t:Bs)(e:Nat):Bool:=(dl t (e-1)+2*dl t (e-2)+3*dl t (e-3)) % 5==0
def tb(t:Bs)(f:Nat):Nat->Nat
 |0=>min (f+8) t.length
 |k+1=>if t.length<=f+(7-k)then t.length else if jk t (f+(7-k))then f+(7-k)else tb t f k
def cutAt(t:Bs)(f:Nat):Nat:=tb t f 5
def Gl(t:Bs)(f:Nat)(a:f<t.length):∀k,k<=5->f<tb t f k/\tb t f k<=t.length/\tb t f k<=f+8
 |0,_=>by simp only[tb];omega
 |k+1,b=>by
  simp only[tb];split
  .omega
  .split
   .omega
   .exact Gl t f a k (by omega)
theorem m8(t:Bs)(f:Nat)(a:f<t.length):f<cutAt t f/\cutAt t f<=t.length/\cutAt t f<=f+8:=Gl t f a 5 (by omega)
def mj(t:Bs):Nat->Nat->List Nat
 |0,_=>[]
 |k+1,f=>if f<t.length then cutAt t f::mj t k (cutAt t f)else[]
def Aq(t:Bs):List Nat:=mj t t.length 0
def fp(t:Bs):Nat->Nat->List Bs
 |0,_=>[]
 |k+1,f=>if f<t.length then(t.drop f).take (cutAt t f-f)::fp t k (cutAt t f)else[]
def pieces(t:Bs):List Bs:=fp t t.length 0
def fZ(l:List Bs):Option Bs:=if dN l.flatten&&(pieces l.flatten==l)then aa l.flatten else af
def bH(p:Bs):Bool:=decide (1<=p.length)&&decide (p.length<=8)&&b9 p
def codeOf(p:Bs):Int:=p.foldl (λn b=>27*n+((b.toNat:Int)-97) % 256+1) 0
def cD(k:Int):Bool:=decide (1<=k)&&decide (k<=99)
def iM(k:Int)(p:Bs):Int:=(codeOf p*(2*k+1)+k*7919) % 999999999989
def cJ(n:Nat):Nat:=if n<1∨8<n then 0 else if n<=2 then 2 else if n<=4 then 4 else 8
def iA(p:Bs):Bs:=if bH p then p++List.replicate (cJ p.length-p.length) 46 else[]
def strip(b:Bs):Bs:=(b.reverse.dropWhile (·==46)).reverse
def fj(b:Bs):Option Bs:=if bH (strip b)&&(iA (strip b)==b)then aa (strip b)else af
abbrev db:=Int×Bs
abbrev bo:=Int×List db
def right(k:Int)(x:db):Bool:=match fj x.2 with|some p=>iM k p==x.1|none=>ae
def Ai(l:List Int):Bool:=(bg l.length).all λi=>i==0||decide (l.getD (i-1) 0<l.getD i 0)
def jc(k:Int)(p:bo):Bool :=
 decide (1<=p.1)&&decide (p.1<=99)&&cD k&&decide (1<=p.2.length)&&decide (p.2.length<=4)&&p.2.all (right k)&&Ai (p.2.map (·.1))
def chunk(k:Int)(x:db):Option Bs:=match fj x.2 with|some p=>if cD k&&(iM k p==x.1)then aa p else af|none=>af
def dx(k:Int)(p:bo)(n:Int):Option Bs:=match p.2.find? (λx=>x.1==n)with|some x=>chunk k x|none=>af
def ck(p:bo)(ns:List Int):bo:=(p.1,p.2.filter λx=>ns.contains x.1)
def r8(l:List db)(x:db):List db:=match l with
 |[]=>[x]
 |y::r=>if x.1<y.1 then x::y::r else y::r8 r x
def jG(no k:Int)(ps:List Bs):bo:=(no,ps.foldl (λl p=>r8 l (iM k p,iA p)) [])
abbrev dy:=Int×Int
def kQ(s:dy):Bool:=decide (0<=s.1)&&decide (s.1<999999999989)&&decide (1<=s.2)&&decide (s.2<=99)
def qX(l:List dy)(s:dy):List dy:=match l with
 |[]=>[s]
 |y::r=>if y.1<s.1 then y::qX r s else s::(y::r).filter (λz=>!(z.1==s.1))
def tY(l:List dy)(n:Int):Int:=match l.find? (λs=>s.1==n)with|some s=>s.2|none=>0
def eF(l:List bo):List dy:=l.flatMap λp=>p.2.map λx=>(x.1,p.1)
def indexOf(l:List bo):List dy:=if(eF l).all kQ then(eF l).foldl qX []else[]
abbrev gK:=Bs×List Int
abbrev cW:=Int×List gK
def ua(k:Int)(f:bu):gK:=(f.1,(pieces f.2).map (iM k))
def fU(no k:Int)(t:List bu):cW:=(no,t.map (ua k))
def na(k:Int)(l:List dy)(out:List Bs)(p:Bs):List Bs:=if tY l (iM k p)==0&&!out.contains p then out++[p]else out
def jH(k:Int)(t:List bu)(l:List dy):List Bs:=(t.flatMap λf=>pieces f.2).foldl (na k l) []
def di(k:Int)(ps:List bo)(n:Int):Option Bs:=ps.findSome? λp=>dx k p n
def kG{p:Bs}(h:b9 p=ab):∀b∈p,97<=b.toNat/\b.toNat<=122:=by intro b a;have:=List.all_eq_true.1 h b a;simpa[eJ]using this
def wB:∀(p:Bs) (n m:Int)(k:Nat),(∀b∈p,97<=b.toNat/\b.toNat<=122)->0<=n->n<m->1<=m ->
  0<=p.foldl (λn b=>27*n+((b.toNat:Int)-97) % 256+1) n/\p.foldl (λn b=>27*n+((b.toNat:Int)-97) % 256+1) n<m*27 ^ p.length
 |[],n,m,_,_,d,c,_=>by grind
 |b::p,n,m,k,a,d,c,f=>by obtain⟨e,q2⟩:=a b (by simp);have:=wB p (27*n+((b.toNat:Int)-97) % 256+1) (m*27) k (λx g=>a x (by grind)) (by omega) (by omega) (by omega);grind[Int.mul_assoc]
def OW:∀{n:Nat},n<=8->(27:Int) ^ n<=282429536481:=by
 intro n a
 match n,a with
 |0,_|1,_|2,_|3,_|4,_|5,_|6,_|7,_|8,_=>decide
def yt{p:Bs}(h:bH p=ab):0<=codeOf p/\codeOf p<282429536481:=by simp only[bH,bJ,bh]at h;obtain⟨a,q2⟩:=wB p 0 1 0 (kG h.2) (by omega) (by omega) (by omega);have:=OW h.1.2;rw[Int.one_mul]at q2;exact⟨a,Int.lt_of_lt_of_le q2 this⟩
end R1
end Go.AM
