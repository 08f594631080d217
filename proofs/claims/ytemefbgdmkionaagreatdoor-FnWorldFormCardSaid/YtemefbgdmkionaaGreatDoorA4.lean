/-
  Part 4: a machine of values without memory, sound over the model, and contracts of functions. No condition.
-/
import Derived.Test.YtemefbgdmkionaaGreatDoorA3
import Derived.Conc.WgGenN2
import Derived.Conc.WgGenN3
import Derived.Lib.FrozenHead
import Derived.Lib.UnsafeStr
import Derived.Lib.MakeNoZero
import Derived.Laws.Externs
import Derived.Lib.Builder
set_option linter.unusedVariables false
set_option linter.unusedSimpArgs false
set_option linter.defProp false
set_option linter.deprecated false
open Go renaming Value → ak
open Option renaming some → aa
open Go renaming Program → an
open Go renaming TypeId → ar
open Bool renaming true → ab
open Option renaming none → af
open Go renaming Oper → av
open Go renaming Operand → aq
open Bool renaming false → ae
open Go renaming undef → aj
open Go.World renaming cell? → aY
open List renaming getD_eq_getElem?_getD → ag
open Go.Sem renaming events_bind → aP
open Go.Result renaming evThen_ok → aV
open Go renaming execOp → aw
open Go renaming World → az
open Go renaming Goroutine → au
open Go renaming stepG → aK
open Go renaming Frame → aQ
open List renaming range → bc
open Go renaming FuncId → aX
open Go.MemAct renaming ofEvent → aM
open Nat renaming beq → aA
open Nat renaming ble → bw
open Go.Region renaming ready → aZ
open Go.Proofs.Tryz renaming prog → ah
open List renaming all_eq_true → bq
open Go.Conc renaming stepG_seq → aD
open Go.Conc renaming stepG_region_end → aC
namespace Go.AM
open Go.Conc
open Go.ConcN (WD CTag Mode Vc Ssum pend phi cnt WgLive PayAt Has RW DWs WSit RelBy sumTo upd upd_same upd_ne AtR0 get_map_set get_map_set_same norel_of Deaf_still)
open Go.ConcR (KK WgAt stA smA rd wr mk Payload g_of_ofEvents)
def Cx.work(P:an):Cx P:={ main:=ae,rely:=cm,xq:=λ_ _ _=>False,iO:=id,A4:=True }
def Cx.lead(P:an)(ty:ar)(Wg:Nat):Cx P:={ main:=ab,rely:=λs s'=>cm s s'/\(WgLive ty Wg s.w->WgLive ty Wg s'.w),xq:=λ_ _ _=>False,iO:=λh=>h.1,A4:=False }
instance (P:an):(Cx.work P).jN:=⟨ay⟩
def E0:St->St->Array Event->Prop:=λ_ _ _=>False
def Es(Wg:Nat):St->St->Array Event->Prop:=λs s' es=>s'=s/\∃ a:Addr,a.block=Wg/\(es=#[mk (.read a)]∨es=#[mk (.write a)])
def OK:Nat->Go.Loc->Prop:=λ_ _=>False
variable [Payload]
structure Tw (C N lo k:Nat)(vs:Nat->ak)(w w':az):Prop where
 tape:w'.tape=w.tape
 os:w'.os=w.os
 output:w'.output=w.output
 size:w'.heap.size=w.heap.size
 block:∀ b,b≠C->w'.heap[b]?=w.heap[b]?
 pay:PayAt C N w'
 out:∀ o,(o<lo∨lo+k<=o)->w'.cell? ⟨C,o,af⟩=w.cell? ⟨C,o,af⟩
 new:∀ i,i<k->w'.cell? ⟨C,lo+i,af⟩=aa (vs i)
section
variable (P:an)(ty:ar)(Y:Lay)(N:Nat)(val:Nat->Nat->ak)
def I0(x:Nat)(g:au)(s:St):Prop :=
 g.status=.running/\∀ w1,cm s { s with w:=w1 }->PayAt Y.C N w1->WgLive ty Y.Wg w1 ->
  ∃ g' w2 es,aK P ae g w1=.go g' w2 es/\Tw Y.C N (Y.kc*x) Y.kc (val x) w1 w2/\(∀ e∈es,∃ o,e=⟨.cell ⟨Y.C,o,af⟩,ab,ae⟩/\Y.kc*x<=o/\o<Y.kc*x+Y.kc) /\
   ∃ m,Goes P ae (RW ty Y.Wg Y.C N 0 (Y.kc*x)) Go.ConcR.DC0 (AtR0 P ty Y.Wg Y.C N 0 (Y.kc*x+1) (val x 0)) m g' w2
end
structure lW (l:Nat->Nat)(t:Mem)(g:Nat)(s:St):Prop where
 blk:∀ b,(s.own b∨∃ L∈s.β,b∈L.bs)->l b=g/\b<s.w.heap.size
 M:∀ b o v,s.M b o=aa v->(l b=g∨t b o=aa v)/\b<s.w.heap.size
structure jS (Y:Lay)(l:Nat->Nat)(E:Nat->Mem)(j:Nat)(s:St):Prop where
 blk:∀ b,(s.own b∨∃ L∈s.β,b∈L.bs)->l b=0/\b≠Y.C/\b≠Y.Wg/\¬Y.Sh b/\b<s.w.heap.size
 M:∀ b o v,s.M b o=aa v->l b=0/\b≠Y.C/\b≠Y.Wg/\¬Y.Sh b/\b<s.w.heap.size
 ms:∀ x,x<j->∀ b o v,E x b o=aa v->s.M b o=aa v
structure Gh (Y:Lay)(l:Nat->Nat)(t:Mem)(y:Nat)(w w':az):Prop where
 size:w.heap.size<=w'.heap.size
 blk:∀ b,b<w.heap.size->l b=Y.base+y->w'.heap[b]?=w.heap[b]?
 cell:∀ b o v,t b o=aa v->w.cell? ⟨b,o,af⟩=aa v->w'.cell? ⟨b,o,af⟩=aa v
 pay:∀ o,Y.kc*y<=o->o<Y.kc*y+Y.kc->w'.cell? ⟨Y.C,o,af⟩=w.cell? ⟨Y.C,o,af⟩
 os:w'.os=w.os
 tape:w'.tape=w.tape
 output:w'.output=w.output
omit [Payload] in
theorem Gh.refl(Y:Lay)(l:Nat->Nat)(t:Mem)(y:Nat)(w:az):Gh Y l t y w w:=⟨ba _,λ_ _ _=>rfl,λ_ _ _ _ h=>h,λ_ _ _=>rfl,rfl,rfl,rfl⟩
omit [Payload] in
theorem Gh.at(Y:Lay)(l:Nat->Nat)(t:Mem)(y:Nat)(w:az)(d:Nat):Gh Y l t y w (w.at d):=⟨ba _,λ_ _ _=>rfl,λ_ _ _ _ h=>h,λ_ _ _=>rfl,rfl,rfl,rfl⟩
structure Du (Y:Lay)(l:Nat->Nat)(w w':az):Prop where
 size:w.heap.size<=w'.heap.size
 blk:∀ b,b<w.heap.size->l b=0->b≠Y.C->b≠Y.Wg->w'.heap[b]?=w.heap[b]?
 os:w'.os=w.os
 tape:w'.tape=w.tape
 output:w'.output=w.output
omit [Payload] in
theorem jT{w w':az}{b:Nat}(h:w'.heap[b]?=w.heap[b]?)(o:Nat):w'.cell? ⟨b,o,af⟩=w.cell? ⟨b,o,af⟩:=by simp[aY,h]
omit [Payload] in
theorem cm.more{s:St}{w w':az}(h:cm s { s with w:=w })(A:w.heap.size<=w'.heap.size)(f:∀ b,(s.own b∨∃ L∈s.β,b∈L.bs)->w'.heap[b]?=w.heap[b]?)
  (X:∀ b o v,s.M b o=aa v->w.cell? ⟨b,o,af⟩=aa v->w'.cell? ⟨b,o,af⟩=aa v) (c:w'.os=w.os) (p:w'.tape=w.tape) (D:w'.output=w.output):cm s { s with w:=w' } :=
 ⟨rfl,rfl,rfl,eG h.size A,λb O=>by show w'.heap[b]?=_;rw[f b O];exact h.eH b O,λb o v q=>X b o v q (h.mem b o v q),c.trans h.os,p.trans h.tape,D.trans h.output⟩
section
variable {Y:Lay}{l hm':Nat->Nat}{E:Nat->Mem}{j y:Nat}{s:St}{w w':az}
omit [Payload] in
theorem lW.I1(n:lW l (E y) (Y.base+y) s)(h:cm s { s with w:=w })(k:Gh Y l (E y) y w w'):cm s { s with w:=w' }:=by
 have A:=h.size;refine h.more k.size (λb f=>?_) (λb o v q U=>?_) k.os k.tape k.output
 .obtain⟨c,p⟩:=n.blk b f;exact k.blk b (cz p A) c
 .obtain⟨c,p⟩:=n.M b o v q;rcases c with c|c
  .rw[jT (k.blk b (cz p A) c) o];exact U
  .exact k.cell b o v c U
omit [Payload] in
theorem lW.sV{t:Mem}{g:Nat}(n:lW l t g s)(h:s.w.heap.size<=w.heap.size)(Q:∀ b,b<w.heap.size->hm' b=l b):lW hm' t g s :=
 ⟨λb f=>let ⟨c,p⟩:=n.blk b f;⟨by rw[Q b (cz p h)];exact c,p⟩,λb o v q=>let ⟨c,p⟩:=n.M b o v q;⟨by rw[Q b (cz p h)];exact c,p⟩⟩
omit [Payload] in
theorem jS.I1(n:jS Y l E j s)(h:cm s { s with w:=w })(k:Du Y l w w'):cm s { s with w:=w' }:=by
 have A:=h.size;refine h.more k.size (λb f=>?_) (λb o v q U=>?_) k.os k.tape k.output
 .obtain⟨c,p,D,G,u⟩:=n.blk b f;exact k.blk b (cz u A) c p D
 .obtain⟨c,p,D,G,u⟩:=n.M b o v q;rw[jT (k.blk b (cz u A) c p D) o];exact U
omit [Payload] in
theorem jS.sV(n:jS Y l E j s)(h:s.w.heap.size<=w.heap.size)(Q:∀ b,b<w.heap.size->hm' b=l b):jS Y hm' E j s :=
 ⟨λb f=>let ⟨c,p,D,G,u⟩:=n.blk b f;⟨by rw[Q b (cz u h)];exact c,p,D,G,u⟩,
  λb o v q=>let ⟨c,p,D,G,u⟩:=n.M b o v q;⟨by rw[Q b (cz u h)];exact c,p,D,G,u⟩,n.ms⟩
omit [Payload] in
theorem lW.rely{t:Mem}{g:Nat}(n:lW l t g s)(h:s.w.heap.size<=w.heap.size):lW l t g { s with w:=w } :=
 ⟨λb f=>let ⟨c,p⟩:=n.blk b f;⟨c,cz p h⟩,λb o v q=>let ⟨c,p⟩:=n.M b o v q;⟨c,cz p h⟩⟩
omit [Payload] in
theorem jS.rely(n:jS Y l E j s)(h:s.w.heap.size<=w.heap.size):jS Y l E j { s with w:=w } :=
 ⟨λb f=>let ⟨c,p,D,G,u⟩:=n.blk b f;⟨c,p,D,G,cz u h⟩,λb o v q=>let ⟨c,p,D,G,u⟩:=n.M b o v q;⟨c,p,D,G,cz u h⟩,n.ms⟩
omit [Payload] in
theorem lW.ghost{t:Mem}{g:Nat}{s':St}(n:lW l t g s)(k:eW s s'):lW l t g s':=by
 refine⟨λb f=>by rw[k.w];exact n.blk b (k.blk b f),λb o v q=>?_⟩
 rw[k.w]
 by_cases f:∃ L∈s.β,b∈L.bs
 .obtain⟨c,p⟩:=n.blk b (.inr f);exact⟨.inl c,p⟩
 .exact n.M b o v (by rw[<-k.jq b (λL F z=>f ⟨L,F,z⟩)];exact q)
omit [Payload] in
theorem lW.forget{t:Mem}{g:Nat}{s':St}(n:lW l t g s)(k:mU s s'):lW l t g s' :=
 ⟨λb f=>by rw[k.w];exact n.blk b (by rw[<-k.own,<-k.β];exact f),λb o v q=>by rw[k.w];exact n.M b o v (k.less b o v q)⟩
omit [Payload] in
theorem jS.ghost{s':St}(n:jS Y l E j s)(k:eW s s'):jS Y l E j s':=by
 refine⟨λb f=>by rw[k.w];exact n.blk b (k.blk b f),λb o v q=>?_,λx V b o v q=>k.mem _ _ _ (n.ms x V b o v q)⟩
 rw[k.w]
 by_cases f:∃ L∈s.β,b∈L.bs
 .exact n.blk b (.inr f)
 .exact n.M b o v (by rw[<-k.jq b (λL F z=>f ⟨L,F,z⟩)];exact q)
def nw(l:Nat->Nat)(B g:Nat):Nat->Nat:=λb=>if b<B then l b else g
omit [Payload] in
theorem fa{l:Nat->Nat}{B g b:Nat}(h:b<B):nw l B g b=l b:=by simp[nw,h]
omit [Payload] in
theorem sW{l:Nat->Nat}{B g b:Nat}(h:B<=b):nw l B g b=g:=by simp[nw,mq.2 h]
omit [Payload] in
theorem lW.step{t:Mem}{g:Nat}{s':St}{σ σ':List aW}(n:lW l t g s)(H:aJ σ' s')(st:Step σ s σ' s'):lW (nw l s.w.heap.size g) t g s':=by
 refine⟨λb f=>?_,λb o v q=>?_⟩
 .rcases f with f|⟨L,F,f⟩
  .rw[st.own] at f;obtain⟨c,p⟩:=n.blk b (.inl f);exact⟨by rw[fa p];exact c,cz p st.size⟩
  .have r:=H.lt L F b f;rcases st.tK L F b f with c|⟨W,J,c⟩
   .exact⟨sW c,r⟩
   .obtain⟨k1,K⟩:=n.blk b (.inr ⟨W,J,c⟩);exact⟨by rw[fa K];exact k1,r⟩
 .have r:=gC.lt H.mem q;rcases cr b s.w.heap.size with c|c
  .rw[fa c]
   by_cases f:∃ L∈s.β,b∈L.bs
   .exact⟨.inl (n.blk b (.inr f)).1,r⟩
   .rw[st.jq b c (λL F z=>f ⟨L,F,z⟩)] at q
    exact⟨(n.M b o v q).1,r⟩
  .exact⟨.inl (sW c),r⟩
omit [Payload] in
theorem jS.step{s':St}{σ σ':List aW}(n:jS Y l E j s)(H:aJ σ' s')(st:Step σ s σ' s')(hW:Y.Wg<s.w.heap.size)(hC:Y.C<s.w.heap.size)(Z:∀ b,Y.Sh b->b<s.w.heap.size):jS Y (nw l s.w.heap.size 0) E j s':=by
 have I:∀ b,s.w.heap.size<=b->b<s'.w.heap.size->nw l s.w.heap.size 0 b=0/\b≠Y.C/\b≠Y.Wg/\¬Y.Sh b/\b<s'.w.heap.size:=λb c p =>
  ⟨sW c,by omega,by omega,λh=>by have:=Z b h;omega,p⟩
 refine⟨λb f=>?_,λb o v q=>?_,λx V b o v q=>st.mem _ _ _ (n.ms x V b o v q)⟩
 .rcases f with f|⟨L,F,f⟩
  .rw[st.own] at f;obtain⟨c,p,D,G,u⟩:=n.blk b (.inl f);exact⟨by rw[fa u];exact c,p,D,G,cz u st.size⟩
  .have r:=H.lt L F b f;rcases st.tK L F b f with c|⟨W,J,c⟩
   .exact I b c r
   .obtain⟨k1,K,T,R,S⟩:=n.blk b (.inr ⟨W,J,c⟩);exact⟨by rw[fa S];exact k1,K,T,R,r⟩
 .have r:=gC.lt H.mem q;rcases cr b s.w.heap.size with c|c
  .by_cases f:∃ L∈s.β,b∈L.bs
   .obtain⟨k1,K,T,R,S⟩:=n.blk b (.inr f);exact⟨by rw[fa S];exact k1,K,T,R,r⟩
   .rw[st.jq b c (λL F z=>f ⟨L,F,z⟩)] at q
    obtain⟨k1,K,T,R,S⟩:=n.M b o v q;exact⟨by rw[fa S];exact k1,K,T,R,r⟩
  .exact I b c r
end
end Go.AM
namespace Go.AM
open Go.Conc
open Go.ConcN (WD CTag Mode Vc Ssum pend phi cnt WgLive PayAt Has RW DWs WSit RelBy sumTo upd upd_same upd_ne AtR0 get_map_set get_map_set_same norel_of Deaf_still)
open Go.ConcR (KK WgAt stA smA rd wr mk Payload g_of_ofEvents)
variable [Payload]
section
variable (P:an)(ty:ar)(Y:Lay)(N:Nat)(val:Nat->Nat->ak)(l:Nat->Nat)(c:Nat->Mem)
inductive WS (x:Nat):Nat->Nat->Rk->Nat->au->az->Prop
 |am {r:Rk} {g:au} {s:St} {w:az}:kn (Cx.work P) E0 (I0 P ty Y N val x) r g s->cm s { s with w:=w }->lW l (c x) (Y.base+x) s->WS x 1 7 r 0 g w
 |rel {m:Nat} {g:au} {w:az}:Goes P ae (RW ty Y.Wg Y.C N 0 (Y.kc*x)) Go.ConcR.DC0 (AtR0 P ty Y.Wg Y.C N 0 (Y.kc*x+1) (val x 0)) m g w->WS x 0 7 (Rk.nat m) 0 g w
 |tail {st m d:Nat} {g:au} {w:az}:st<=6->WSit P ty Y.Wg Y.C N OK OK 0 (Y.kc*x+1) (val x 0) st m d g w->WS x 0 st (Rk.nat m) d g w
structure Com (j:Nat)(n:Array au)(w:az)(t:Trace)(D:Nat->WD)(A:Nat->Nat)(K:Nat->Rk)(p:Nat):Prop where
 size:n.size=Y.base+j
 lv:∀ i g,0<i->i<Y.base->n[i]?=aa g->∃ m,K i=Rk.nat m/\QuitsD P m (Deaf t i) g
 above:∀ i,Y.base+j<=i->Deaf t i=0
 wk:∀ x,x<j->∃ g,n[Y.base+x]?=aa g/\WS P ty Y N val l c x (A x) (D x).stage (K (Y.base+x)) (D x).deaf g w
 tl:TL Y l c t j w.heap.size
 norel:rG t
 deaf0:Deaf t 0=p
 deafW:∀ x,x<j->Deaf t (Y.base+x)=(D x).deaf
 rel:∀ x,x<j->(D x).stage<=6->∃ r,RelBy (stA Y.Wg) t (Y.base+x) r
 xC:∀ x,x<j->A x=0->∀ i,1<=i->i<Y.kc->w.cell? ⟨Y.C,Y.kc*x+i,af⟩=aa (val x i)
 Br:∀ x,x<j->(D x).stage<=6->Has Y.C (Y.kc*x) (val x 0) w
 pay:PayAt Y.C N w
 live:WgLive ty Y.Wg w
 zM:Y.Wg<w.heap.size
 Bt:Y.C<w.heap.size
 LY:∀ b,Y.Sh b->b<w.heap.size
 kc:0<Y.kc
 MQ:∀ y,y<j->∀ b o v,c y b o=aa v->b<w.heap.size
end
section
variable {P:an}{ty:ar}{Y:Lay}{N:Nat}{val:Nat->Nat->ak}{l hm':Nat->Nat}{c:Nat->Mem}{j x:Nat}{n:Array au}{w w':az}{t:Trace}{D:Nat->WD}{A:Nat->Nat}{K:Nat->Rk}{p:Nat}
theorem RW.I1(k:Gh Y l (c x) x w w')(hl:WgLive ty Y.Wg w')(a:PayAt Y.C N w')(d:0<Y.kc):RW ty Y.Wg Y.C N 0 (Y.kc*x+1-1) w w' :=
 ⟨λb hb=>absurd hb (jm b),λ_=>hl,λ_=>a,k.pay _ (ba _) (by simp;omega)⟩
theorem WS.I1{a st d:Nat}{r:Rk}{g:au}(h:WS P ty Y N val l c x a st r d g w)(k:Gh Y l (c x) x w w')(hl:WgLive ty Y.Wg w')(i:PayAt Y.C N w')(e:0<Y.kc)(hh:∀ b,b<w.heap.size->hm' b=l b) :
  WS P ty Y N val hm' c x a st r d g w':=by
 cases h with
 |am h1 h2 h3=>exact .am h1 (h3.I1 h2 k) (h3.sV h2.size hh)
 |rel h1=>exact .rel (Goes.rely (λ_ _ _ h1 h2=>h1.trans h2) h1 (RW.I1 k hl i e))
 |tail h0 h1=>exact .tail h0 (h1.rely (RW.I1 k hl i e))
omit [Payload] in
theorem kn.run{X:Cx P}{E:St->St->Array Event->Prop}{S:au->St->Prop}(q:∀ g s,S g s->g.status=.running):∀ {r:Rk}{g:au}{s:St},kn X E S r g s->g.status=.running
 |.leaf,_,_,h=>q _ _ h
 |.node f,g,s,h=>by
  rcases h with h|⟨s',_,h⟩|⟨h,_⟩
  .exact q _ _ h
  .exact kn.run q (r:=f s) h
  .exact h
theorem WS.status{a st d:Nat}{r:Rk}{g:au}(h:WS P ty Y N val l c x a st r d g w):g.status=.running∨g.status=.finished:=by
 cases h with
 |am h1 _ _=>exact .inl (h1.run λg s h=>h.1)
 |rel h1=>exact .inl (Goes.running (λ_ _ x=>x.1) w (Go.ConcN.RW.refl w) h1)
 |tail _ h1=>exact h1.status
theorem WS.woken{a st d:Nat}{r:Rk}{g:au}(h:WS P ty Y N val l c x a st r d g w)(b e:au)(w':az):woken P b e w' g=g:=by
 unfold Go.Conc.woken;split
 .exact again_running _ h.status
 .rfl
theorem Com.at(h:Com P ty Y N val l c j n w t D A K p)(d:Nat):Com P ty Y N val l c j n (w.at d) t D A K p :=
 ⟨h.size,h.lv,h.above,λx a=>let ⟨g,h1,h2⟩:=h.wk x a;⟨g,h1,h2.I1 (.at ..) h.live h.pay h.kc λ_ _=>rfl⟩,h.tl,h.norel,h.deaf0,h.deafW,h.rel,h.xC,h.Br,h.pay,h.live,h.zM,h.Bt,h.LY,h.kc,h.MQ⟩
theorem Com.stepW(h:Com P ty Y N val l c j n w t D A K p)(hx:x<j){g g':au}{fn:aX}{pos:String}{es:Array Event}{a' qn d':Nat}{r':Rk}
  (hh:∀ b,b<w.heap.size->hm' b=l b) (B:w.heap.size<=w'.heap.size) (F:∀ y,y<j->y≠x->Gh Y l (c y) y w w')
  (W4:WS P ty Y N val hm' c x a' qn r' d' g' w') (O:∀ e∈es,(aM e).low w'.heap.size) (V:∀ e∈es,∀ a,(aM e).touch?=aa a->a.loc.isMemory=ab->qw Y hm' (c x) x a)
  (Qa:∀ e∈es,∀ a,e.loc≠.mark (.release a)) (J:deafBehind (D x).deaf es=d')
  (R:qn<=6->∃ r,RelBy (stA Y.Wg) (t++MemOp.ofEvents (Y.base+x) fn pos es) (Y.base+x) r)
  (h1:a'=0->∀ i,1<=i->i<Y.kc->w'.cell? ⟨Y.C,Y.kc*x+i,af⟩=aa (val x i)) (h0:qn<=6->Has Y.C (Y.kc*x) (val x 0) w') (I:PayAt Y.C N w') (u:WgLive ty Y.Wg w') :
  Com P ty Y N val hm' c j ((n.map (woken P g g' w')).setIfInBounds (Y.base+x) g') w' (t++MemOp.ofEvents (Y.base+x) fn pos es) (upd D x ⟨qn,0,d'⟩) (upd A x a') (upd K (Y.base+x) r') p:=by
 have hb:=h.tl.base;have G:∀ y,y≠x->Y.base+x≠Y.base+y:=λy k e=>k (by omega)
 have Z:∀ i H,0<i->i<Y.base->((n.map (Go.Conc.woken P g g' w')).setIfInBounds (Y.base+x) g')[i]?=aa H->n[i]?=aa H:=by
  intro i H hi OL Fb;rw[get_map_set _ _ _ _ (by omega)] at Fb
  obtain⟨z,hz,rfl⟩:=nS.1 Fb;obtain⟨m,_,hq⟩:=h.lv i z hi OL hz;rw[woken_quitsD hq];exact hz
 refine⟨by simp[h.size],λi H hi OL Fb=>?_,λi hi=>?_,λy k=>?_,?_,h.norel.app Qa,by rw[Deaf_other t (by omega) _ g_of_ofEvents,h.deaf0],λy k=>?_,λy k d=>?_,λy k L i T Q=>?_,λy k d=>?_,I,u,cz h.zM B,cz h.Bt B,λb hb=>cz (h.LY b hb) B,h.kc,λy k b o v hv=>cz (h.MQ y k b o v hv) B⟩
 .obtain⟨m,Pw,W⟩:=h.lv i H hi OL (Z i H hi OL Fb);refine⟨m,by rw[upd_ne K _ (by omega)];exact Pw,?_⟩
  rw[Deaf_other t (by omega) _ g_of_ofEvents];exact W
 .rw[Deaf_other t (by omega) _ g_of_ofEvents];exact h.above i hi
 .by_cases e:y=x
  .subst e;exact⟨g',get_map_set_same _ _ _ (by rw[h.size];omega),by rw[upd_same,upd_same,upd_same];exact W4⟩
  .obtain⟨H,Fb,M⟩:=h.wk y k;refine⟨H,by rw[get_map_set _ _ _ _ (G y e),Fb,jl,M.woken],?_⟩
   rw[upd_ne A _ e,upd_ne D _ e,upd_ne K _ (G y e).symm];exact M.I1 (F y k e) u I h.kc hh
 .refine(h.tl.sV hh B h.zM h.Bt h.LY λy k b o v hv=>?_).appW hx (λop gT=>by obtain⟨e,_,rfl⟩:=Go.Conc.mem_ofEvents gT;rfl) (λop gT=>?_) (λop gT a L U=>?_)
  .exact h.MQ y k b o v hv
  .obtain⟨e,he,rfl⟩:=Go.Conc.mem_ofEvents gT;exact O e he
  .obtain⟨e,he,rfl⟩:=Go.Conc.mem_ofEvents gT;exact V e he a L U
 .by_cases e:y=x
  .subst e;rw[Deaf_own,h.deafW y k,upd_same];exact J
  .rw[Deaf_other t (G y e) _ g_of_ofEvents,h.deafW y k,upd_ne D _ e]
 .by_cases e:y=x
  .subst e;rw[upd_same] at d;exact R d
  .rw[upd_ne D _ e] at d;obtain⟨r,hr⟩:=h.rel y k d;exact⟨r,hr.appOther g_of_ofEvents (G y e)⟩
 .by_cases e:y=x
  .subst e;rw[upd_same] at L;exact h1 L i T Q
  .rw[upd_ne A _ e] at L;rw[(F y k e).pay _ (by omega) (by omega)]
   exact h.xC y k L i T Q
 .by_cases e:y=x
  .subst e;rw[upd_same] at d;exact h0 d
  .rw[upd_ne D _ e] at d;have:=h.Br y k d;have hk:=h.kc;simp only[Has] at this ⊢;rw[(F y k e).pay _ (by omega) (by omega)]
   exact this
theorem Com.step0(h:Com P ty Y N val l c j n w t D A K p){g g':au}{fn:aX}{pos:String}{es:Array Event}
  (hh:∀ b,b<w.heap.size->hm' b=l b) (u:w.heap.size<=w'.heap.size) (B:∀ y,y<j->Gh Y l (c y) y w w')
  (L:∀ e∈es,(aM e).low w'.heap.size) (R:∀ e∈es,∀ a,(aM e).touch?=aa a->a.loc.isMemory=ab->rY Y hm' a)
  (Q:∀ e∈es,∀ a,(aM e).touch?=aa a->a.kind=.plain->a.write=ab->∀ x,x<j->∀ b o v,a.loc=.cell ⟨b,o,af⟩->c x b o≠aa v)
  (U:∀ e∈es,∀ a,e.loc≠.mark (.release a)) (F:PayAt Y.C N w') (k:WgLive ty Y.Wg w') :
  Com P ty Y N val hm' c j ((n.map (woken P g g' w')).setIfInBounds 0 g') w' (t++MemOp.ofEvents 0 fn pos es) D A K (deafBehind p es):=by
 have hb:=h.tl.base;have hk:=h.kc;refine⟨by simp[h.size],λi Z hi OL Fb=>?_,λi hi=>?_,λy d=>?_,?_,h.norel.app U,by rw[Deaf_own,h.deaf0],λy d=>by rw[Deaf_other t (by omega) _ g_of_ofEvents,h.deafW y d],λy d G=>?_,λy d I i W T=>?_,λy d G=>?_,F,k,cz h.zM u,cz h.Bt u,λb hb=>cz (h.LY b hb) u,h.kc,λy d b o v hv=>cz (h.MQ y d b o v hv) u⟩
 .rw[get_map_set _ _ _ _ (by omega)] at Fb
  obtain⟨z,hz,rfl⟩:=nS.1 Fb;obtain⟨m,V,H⟩:=h.lv i z hi OL hz;exact⟨m,V,by rw[woken_quitsD H,Deaf_other t (by omega) _ g_of_ofEvents];exact H⟩
 .rw[Deaf_other t (by omega) _ g_of_ofEvents];exact h.above i hi
 .obtain⟨Z,Fb,J⟩:=h.wk y d;exact⟨Z,by rw[get_map_set _ _ _ _ (by omega),Fb,jl,J.woken],J.I1 (B y d) k F h.kc hh⟩
 .refine(h.tl.sV hh u h.zM h.Bt h.LY h.MQ).app0 (λop gT=>by obtain⟨e,_,rfl⟩:=Go.Conc.mem_ofEvents gT;rfl) (λop gT=>?_) (λop gT a I O=>?_) (λop gT a I=>?_)
  .obtain⟨e,M,rfl⟩:=Go.Conc.mem_ofEvents gT;exact L e M
  .obtain⟨e,M,rfl⟩:=Go.Conc.mem_ofEvents gT;exact R e M a I O
  .obtain⟨e,M,rfl⟩:=Go.Conc.mem_ofEvents gT;exact Q e M a I
 .obtain⟨r,hr⟩:=h.rel y d G;exact⟨r,hr.appOther g_of_ofEvents (by omega)⟩
 .rw[(B y d).pay _ (by omega) (by omega)]
  exact h.xC y d I i W T
 .have:=h.Br y d G;simp only[Has] at this ⊢;rw[(B y d).pay _ (by omega) (by omega)]
  exact this
theorem Com.leave(h:Com P ty Y N val l c j n w t D A K p){i m:Nat}(hi:0<i)(M:i<Y.base){g g':au}{fn:aX}{pos:String}{es:Array Event}
  (d:∀ e∈es,e.mute=ab) (R:QuitsD P m (deafBehind (Deaf t i) es) g') :
  Com P ty Y N val l c j ((n.map (woken P g g' w)).setIfInBounds i g') w (t++MemOp.ofEvents i fn pos es) D A (upd K i (Rk.nat m)) p:=by
 have hb:=h.tl.base;have C:∀ e∈es,∀ a,e.loc≠.mark (.release a):=λe B a=>vr (d e B) a
 refine⟨by simp[h.size],λk J I H b=>?_,λk I=>?_,λy v=>?_,?_,h.norel.app C,by rw[Deaf_other t (by omega) _ g_of_ofEvents,h.deaf0],λy v=>by rw[Deaf_other t (by omega) _ g_of_ofEvents,h.deafW y v],λy v G=>?_,h.xC,h.Br,h.pay,h.live,h.zM,h.Bt,h.LY,h.kc,h.MQ⟩
 .by_cases e:k=i
  .subst e;rw[get_map_set_same _ _ _ (by rw[h.size];omega)] at b
   cases b;exact⟨m,by rw[upd_same],by rw[Deaf_own];exact R⟩
  .rw[get_map_set _ _ _ _ (iL e)] at b;obtain⟨z,O,rfl⟩:=nS.1 b;obtain⟨L,F,o⟩:=h.lv k z I H O;exact⟨L,by rw[upd_ne K _ e];exact F,by rw[woken_quitsD o,Deaf_other t (iL e) _ g_of_ofEvents];exact o⟩
 .rw[Deaf_other t (by omega) _ g_of_ofEvents];exact h.above k I
 .obtain⟨J,b,u⟩:=h.wk y v;exact⟨J,by rw[get_map_set _ _ _ _ (by omega),b,jl,u.woken],by rw[upd_ne K _ (by omega)];exact u⟩
 .exact h.tl.mute (g:=i) (λop gT=>by obtain⟨e,_,rfl⟩:=Go.Conc.mem_ofEvents gT;rfl) (λop gT=>by obtain⟨e,B,rfl⟩:=Go.Conc.mem_ofEvents gT;exact low_mute (d e B) _) (λop gT=>by obtain⟨e,B,rfl⟩:=Go.Conc.mem_ofEvents gT;exact touch_mute (d e B))
 .obtain⟨r,Q⟩:=h.rel y v G;exact⟨r,Q.appOther g_of_ofEvents (by omega)⟩
theorem Com.spawn(h:Com P ty Y N val l c j n w t D A K 0){a' child:au}{x y:MemOp}{r:Rk}{s:St}(H:x.g=0/\x.act=.go (Y.base+j))(G:y.g=Y.base+j/\y.act=.start)
  (M:∀ b o v,c j b o=aa v->l b=0/\b≠Y.C/\b≠Y.Wg/\¬Y.Sh b/\b<w.heap.size)
  (T:kn (Cx.work P) E0 (I0 P ty Y N val j) r child s) (L:cm s { s with w:=w }) (Q:lW l (c j) (Y.base+j) s) :
  Com P ty Y N val l c (j+1) ((n.setIfInBounds 0 a').push child) w (t++#[x,y]) (upd D j ⟨7,0,0⟩) (upd A j 1) (upd K (Y.base+j) r) 0:=by
 have hb:=h.tl.base;have u:∀ op∈#[x,y],op=x∨op=y:=by intro op gT;simpa using gT
 have d:∀ op∈#[x,y],op.act≠.mark .disable/\op.act≠.mark .enable:=by
  intro op gT;rcases u op gT with rfl|rfl
  .rw[H.2];exact⟨by simp,by simp⟩
  .rw[G.2];exact⟨by simp,by simp⟩
 have k:∀ i,0<i->i<Y.base+j->((n.setIfInBounds 0 a').push child)[i]?=n[i]?:=λi hi qu=>by
  rw[q8 (by simp[h.size];omega),<-dm,kX (by omega)]
 refine⟨by simp[h.size];omega,λi g hi OL hg=>?_,λi hi=>?_,λz B=>?_,h.tl.fork H G h.deaf0 (h.above _ (ba _)) λb o v I=>let ⟨h1,h2,R,O,_⟩:=M b o v I;⟨h1,h2,R,O⟩,λad=>(h.norel ad).app λop gT=>?_,by rw[Deaf_still t 0 _ d,h.deaf0],λz B=>?_,λz B e=>?_,λz B F=>?_,λz B e=>?_,h.pay,h.live,h.zM,h.Bt,h.LY,h.kc,λz B b o v I=>?_⟩
 .rw[k i hi (by omega)] at hg
  obtain⟨m,h1,h2⟩:=h.lv i g hi OL hg;exact⟨m,by rw[upd_ne K _ (by omega)];exact h1,by rw[Deaf_still t _ _ d];exact h2⟩
 .rw[Deaf_still t _ _ d];exact h.above i (by omega)
 .rcases cr z j with qu|a
  .obtain⟨g,hg,J⟩:=h.wk z qu;exact⟨g,by rw[k _ (by omega) (by omega)];exact hg,by rw[upd_ne D _ (by omega),upd_ne A _ (by omega),upd_ne K _ (by omega)];exact J⟩
  .obtain rfl:z=j:=by omega
   refine⟨child,?_,by rw[upd_same,upd_same,upd_same];exact .am T L Q⟩
   rw[show Y.base+z=(n.setIfInBounds 0 a').size by simp[h.size],Array.getElem?_push_size]
 .rcases u op gT with rfl|rfl
  .rw[H.2];simp
  .rw[G.2];simp
 .rw[Deaf_still t _ _ d];rcases cr z j with qu|a
  .rw[h.deafW z qu,upd_ne D _ (by omega)]
  .obtain rfl:z=j:=by omega
   rw[upd_same];exact h.above _ (ba _)
 .rcases cr z j with qu|a
  .rw[upd_ne D _ (by omega)] at e
   obtain⟨r,L⟩:=h.rel z qu e;refine⟨r,L.appNot λop gT=>?_⟩
   rcases u op gT with rfl|rfl
   .rw[H.1];omega
   .rw[G.1];omega
  .obtain rfl:z=j:=by omega
   rw[upd_same] at e;simp at e
 .rcases cr z j with qu|a
  .rw[upd_ne A _ (by omega)] at F
   exact h.xC z qu F
  .obtain rfl:z=j:=by omega
   rw[upd_same] at F;simp at F
 .rcases cr z j with qu|a
  .rw[upd_ne D _ (by omega)] at e
   exact h.Br z qu e
  .obtain rfl:z=j:=by omega
   rw[upd_same] at e;simp at e
 .rcases cr z j with qu|a
  .exact h.MQ z qu b o v I
  .obtain rfl:z=j:=by omega
   exact(M b o v I).2.2.2.2
end
end Go.AM
namespace Go.AM
open Go.Conc
open Go.ConcN (WD CTag Mode Vc Ssum pend phi cnt WgLive PayAt Has RW DWs WSit RelBy sumTo upd upd_same upd_ne AtR0)
open Go.ConcR (KK WgAt stA smA rd wr mk Payload g_of_ofEvents again_blocked)
variable [Payload]
section
variable (P:an)(ty:ar)(Y:Lay)(N:Nat)(val:Nat->Nat->ak)(n:Nat)(T l:au->St->Prop)
def AtAcq(g:au)(s:St):Prop:=g.status=.running/\∃ g',(∀ w,aK P ab g w=.go g' w #[mk (.acquire (stA Y.Wg))])/\∀ c,(Cx.lead P ty Y.Wg).rely s c->T g' c
def AtKe(g:au)(s:St):Prop:=g.status=.running/\∃ g',(∀ w,aK P ab g w=.go g' w #[mk .enable])/\∀ c,(Cx.lead P ty Y.Wg).rely s c->(eg (Cx.lead P ty Y.Wg) (Es Y.Wg)) (AtAcq P ty Y T) g' c
def AtW4(g:au)(s:St):Prop:=g.status=.running/\∀ c,(Cx.lead P ty Y.Wg).rely s c->WgAt ty Y.Wg c.w 0 0->∃ g',aK P ab g c.w=.go g' c.w #[rd (stA Y.Wg)]/\(eg (Cx.lead P ty Y.Wg) (Es Y.Wg)) (AtKe P ty Y T) g' c
def AtW3(g:au)(s:St):Prop:=g.status=.running/\g.offers=af/\∀ c,(Cx.lead P ty Y.Wg).rely s c ->
 ((∃ st,WgAt ty Y.Wg c.w st 0)->aK P ab g c.w=.go { g with status:=.blocked } c.w #[]) /\
 (WgAt ty Y.Wg c.w 0 1->∃ g',aK P ab g c.w=.go g' (c.w.setCell (smA Y.Wg) (.int .u32 0)) (semEvents (smA Y.Wg))/\(eg (Cx.lead P ty Y.Wg) (Es Y.Wg)) (AtW4 P ty Y T) g' { c with w:=c.w.setCell (smA Y.Wg) (.int .u32 0) })
def AtW2(vs:Nat)(g:au)(s:St):Prop:=g.status=.running/\∀ c,(Cx.lead P ty Y.Wg).rely s c->∀ v:Nat,v<2147483648->WgAt ty Y.Wg c.w (v*KK) 0 ->
 (v=vs->∃ g',aK P ab g c.w=.go g' (c.w.setCell (stA Y.Wg) (.int .u64 (v*KK+1))) #[rd (stA Y.Wg),wr (stA Y.Wg)]/\(eg (Cx.lead P ty Y.Wg) (Es Y.Wg)) (AtW3 P ty Y T) g' { c with w:=c.w.setCell (stA Y.Wg) (.int .u64 (v*KK+1)) }) /\
 (v≠vs->∃ g',aK P ab g c.w=.go g' c.w #[rd (stA Y.Wg)]/\l g' c)
def AtW1(g:au)(s:St):Prop:=g.status=.running/\∀ c,(Cx.lead P ty Y.Wg).rely s c->∀ v:Nat,v<2147483648->WgAt ty Y.Wg c.w (v*KK) 0 ->
 ∃ g',aK P ab g c.w=.go g' c.w #[rd (stA Y.Wg)]/\(v=0->(eg (Cx.lead P ty Y.Wg) (Es Y.Wg)) (AtKe P ty Y T) g' c)/\(v≠0->(eg (Cx.lead P ty Y.Wg) (Es Y.Wg)) (AtW2 P ty Y T l v) g' c)
def AtKd(g:au)(s:St):Prop:=g.status=.running/\∃ g',(∀ w,aK P ab g w=.go g' w #[mk .disable])/\∀ c,(Cx.lead P ty Y.Wg).rely s c->l g' c
def St.child(s:St):St:={ β:=[],M:=s.M,w:=s.w,own:=λ_=>False }
def AtGo(j:Nat)(Next:au->St->Prop)(g:au)(s:St):Prop:=g.status=.running/\∀ c,(Cx.lead P ty Y.Wg).rely s c ->
 ∃ g' child,aK P ab g c.w=.spawn g' child c.w #[]/\child.status=.running/\eg (Cx.work P) E0 (I0 P ty Y N val j) child c.child/\Next g' c
def AtKeS(j:Nat)(Next:au->St->Prop)(g:au)(s:St):Prop:=g.status=.running/\∃ g',(∀ w,aK P ab g w=.go g' w #[mk .enable])/\∀ c,(Cx.lead P ty Y.Wg).rely s c->(eg (Cx.lead P ty Y.Wg) (Es Y.Wg)) (AtGo P ty Y N val j Next) g' c
def AtA1(j:Nat)(Next:au->St->Prop)(g:au)(s:St):Prop:=g.status=.running/\∀ c,(Cx.lead P ty Y.Wg).rely s c->∀ v:Nat,v<2147483647->WgAt ty Y.Wg c.w (v*KK) 0 ->
 ∃ g',aK P ab g c.w=.go g' (c.w.setCell (stA Y.Wg) (.int .u64 ((v+1)*KK))) #[rd (stA Y.Wg),wr (stA Y.Wg)]/\(eg (Cx.lead P ty Y.Wg) (Es Y.Wg)) (AtKeS P ty Y N val j Next) g' { c with w:=c.w.setCell (stA Y.Wg) (.int .u64 ((v+1)*KK)) }
def AtKdS(j:Nat)(Next:au->St->Prop)(g:au)(s:St):Prop:=g.status=.running/\∃ g',(∀ w,aK P ab g w=.go g' w #[mk .disable])/\∀ c,(Cx.lead P ty Y.Wg).rely s c->(eg (Cx.lead P ty Y.Wg) (Es Y.Wg)) (AtA1 P ty Y N val j Next) g' c
def Spawns:Nat->au->St->Prop
 |0,g,s=>(eg (Cx.lead P ty Y.Wg) (Es Y.Wg)) (AtKd P ty Y l) g s
 |r+1,g,s=>(eg (Cx.lead P ty Y.Wg) (Es Y.Wg)) (AtKdS P ty Y N val (n-(r+1)) (Spawns r)) g s
def Rk.lift:Rk->Rk
 |.leaf=>.node λ_=>.leaf
 |.node f=>.node λs=>Rk.lift (f s)
omit [Payload] in
theorem Rk.Fc:∀ {x r:Rk},Rk.lt x r->Rk.lt x.lift r.lift
 |_,.leaf,h=>h.elim
 |_,.node _,⟨s,h⟩=>⟨s,h.elim (λe=>.inl (by rw[e])) λh=>.inr (Rk.Fc h)⟩
omit [Payload] in
theorem Rk.I2(s:St):∀ r:Rk,∃ x,Rk.lt x r.lift
 |.leaf=>⟨.leaf,s,.inl rfl⟩
 |.node f=>⟨(f s).lift,s,.inl rfl⟩
inductive CS:CTag->Nat->Rk->Nat->au->St->Prop
 |skd {r:Nat} {rk:Rk} {g:au} {s:St}:r<n->(kn (Cx.lead P ty Y.Wg) (Es Y.Wg)) (AtKdS P ty Y N val (n-(r+1)) (Spawns P ty Y N val n l r)) rk g s->CS (.sp r 5) (n-(r+1)) rk 0 g s
 |sa1 {r:Nat} {rk:Rk} {g:au} {s:St}:r<n->(kn (Cx.lead P ty Y.Wg) (Es Y.Wg)) (AtA1 P ty Y N val (n-(r+1)) (Spawns P ty Y N val n l r)) rk g s->CS (.sp r 4) (n-(r+1)) rk 1 g s
 |ske {r:Nat} {rk:Rk} {g:au} {s:St}:r<n->(kn (Cx.lead P ty Y.Wg) (Es Y.Wg)) (AtKeS P ty Y N val (n-(r+1)) (Spawns P ty Y N val n l r)) rk g s->CS (.sp r 3) (n-(r+1)) rk 1 g s
 |sgo {r:Nat} {rk:Rk} {g:au} {s:St}:r<n->(kn (Cx.lead P ty Y.Wg) (Es Y.Wg)) (AtGo P ty Y N val (n-(r+1)) (Spawns P ty Y N val n l r)) rk g s->CS (.sp r 2) (n-(r+1)) rk 0 g s
 |kd {rk:Rk} {g:au} {s:St}:(kn (Cx.lead P ty Y.Wg) (Es Y.Wg)) (AtKd P ty Y l) rk g s->CS .kd n rk 0 g s
 |w1 {rk:Rk} {g:au} {s:St}:(kn (Cx.lead P ty Y.Wg) (Es Y.Wg)) (AtW1 P ty Y T l) rk g s->CS .w1 n rk 1 g s
 |w2 {vs:Nat} {rk:Rk} {g:au} {s:St}:(kn (Cx.lead P ty Y.Wg) (Es Y.Wg)) (AtW2 P ty Y T l vs) rk g s->CS (.w2 vs) n rk 1 g s
 |w3 {rk:Rk} {g:au} {s:St}:(kn (Cx.lead P ty Y.Wg) (Es Y.Wg)) (AtW3 P ty Y T) rk g s->CS .w3 n rk.lift 1 g s
 |blk {rk:Rk} {g:au} {s:St}:AtW3 P ty Y T g s->CS .blk n rk 1 { g with status:=.blocked } s
 |w4 {rk:Rk} {g:au} {s:St}:(kn (Cx.lead P ty Y.Wg) (Es Y.Wg)) (AtW4 P ty Y T) rk g s->CS .w4 n rk 1 g s
 |ke {rk:Rk} {g:au} {s:St}:(kn (Cx.lead P ty Y.Wg) (Es Y.Wg)) (AtKe P ty Y T) rk g s->CS .ke n rk 1 g s
 |acq {rk:Rk} {g:au} {s:St}:(kn (Cx.lead P ty Y.Wg) (Es Y.Wg)) (AtAcq P ty Y T) rk g s->CS .acq n rk 0 g s
structure Fin (p:Nat->Nat)(o:Nat->Mem)(m:Machine)(t:Trace):Prop where
 out:∃ (gs:Array au) (w:az) (sl:Option (Nat×Nat)) (a:au) (s:St) (q:Nat->Nat),m=crowd gs w sl/\gs[0]?=aa a/\gs.size=Y.base+n/\T a { s with w:=w }/\cm s { s with w:=w }/\jS Y p o n s /\
  Leavers P t gs q/\Past (lQ λb=>Y.Sh b∨b=Y.Wg) w.heap.size t/\rG t/\PayAt Y.C N w/\(∀ x,x<n->∀ i,i<Y.kc->w.cell? ⟨Y.C,Y.kc*x+i,af⟩=aa (val x i))/\Y.C<w.heap.size/\Y.Wg<w.heap.size/\∀ b,Y.Sh b->b<w.heap.size
abbrev Mu:=Nat×((Nat->Rk)×Rk)
def Fe(M:Nat):Mu->Mu->Prop:=Prod.Lex (· < ·) (Prod.Lex (Vec M) Rk.lt)
omit [Payload] in
theorem Qb(M:Nat):WellFounded (Fe M):=(Prod.lex Nat.lt_wfRel ⟨_,(Prod.lex ⟨Vec M,IZ M⟩ ⟨Rk.lt,⟨Rk.acc⟩⟩).wf⟩).wf
structure sX (μ:Mu)(gs:Array au)(w:az)(t:Trace)(p:Nat->Nat)(o:Nat->Mem)(j:Nat)(D:Nat->WD)(A:Nat->Nat)(K:Nat->Rk)(d0:Nat)(tag:CTag)(rk:Rk)(a:au)(s:St) (st sm:Int):Prop where
 a0:gs[0]?=aa a
 cs:CS P ty Y N val n T l tag j rk d0 a s
 rely:cm s { s with w:=w }
 lead:jS Y p o j s
 gp:Com P ty Y N val p o j gs w t D A K d0
 wg:WgAt ty Y.Wg w st sm
 mode:Go.ConcN.Mode j D tag st sm
 mu:μ=(phi n (Vc j D) tag+Ssum j D+sumTo j A,(K,rk))
def Inv(k:Mu)(m:Machine)(t:Trace):Prop :=
 ∃ (b:Array au) (w:az) (sl:Option (Nat×Nat)) (p:Nat->Nat) (o:Nat->Mem) (j:Nat) (D:Nat->WD) (A:Nat->Nat) (K:Nat->Rk) (i:Nat) (tag:CTag) (rk:Rk) (a:au) (s:St) (st sm:Int),
  m=crowd b w sl/\sX P ty Y N val n T l k b w t p o j D A K i tag rk a s st sm
end
section
variable {P:an}{ty:ar}{Y:Lay}{N:Nat}{val:Nat->Nat->ak}{n:Nat}{T l:au->St->Prop}{p hm':Nat->Nat}{o:Nat->Mem}{j:Nat}{tag:CTag}{rk:Rk}{d:Nat}{a:au}{s:St}{w w':az}
omit [Payload] in
theorem fY{s:St}(h:cm s { s with w:=w })(B:WgLive ty Y.Wg w):(Cx.lead P ty Y.Wg).rely s { s with w:=w }:=⟨h,λ_=>B⟩
omit [Payload] in
theorem AtW3.rely{g:au}{c:St}(h:AtW3 P ty Y T g s)(z:(Cx.lead P ty Y.Wg).rely s c):AtW3 P ty Y T g c :=
 ⟨h.1,h.2.1,λs2 u=>h.2.2 s2 ⟨z.1.trans u.1,λx=>u.2 (z.2 x)⟩⟩
theorem CS.status(h:CS P ty Y N val n T l tag j rk d a s):(a.status=.running/\tag≠.blk)∨(a.status=.blocked/\tag=.blk):=by
 cases h with
 |skd _ h=>exact .inl ⟨h.run λ_ _ x=>x.1,by simp⟩
 |sa1 _ h=>exact .inl ⟨h.run λ_ _ x=>x.1,by simp⟩
 |ske _ h=>exact .inl ⟨h.run λ_ _ x=>x.1,by simp⟩
 |sgo _ h=>exact .inl ⟨h.run λ_ _ x=>x.1,by simp⟩
 |kd h=>exact .inl ⟨h.run λ_ _ x=>x.1,by simp⟩
 |w1 h=>exact .inl ⟨h.run λ_ _ x=>x.1,by simp⟩
 |w2 h=>exact .inl ⟨h.run λ_ _ x=>x.1,by simp⟩
 |w3 h=>exact .inl ⟨h.run λ_ _ x=>x.1,by simp⟩
 |blk h=>exact .inr ⟨rfl,rfl⟩
 |w4 h=>exact .inl ⟨h.run λ_ _ x=>x.1,by simp⟩
 |ke h=>exact .inl ⟨h.run λ_ _ x=>x.1,by simp⟩
 |acq h=>exact .inl ⟨h.run λ_ _ x=>x.1,by simp⟩
theorem CS.wokenBy(h:CS P ty Y N val n T l tag j rk d a s)(g g':au)(w':az) :
  ∃ tag' rk',CS P ty Y N val n T l tag' j rk' d (woken P g g' w' a) s/\(tag'=tag∨(tag=.blk/\tag'=.w3))/\(mayWake P g=ab->g'.status=.running->tag'≠.blk):=by
 unfold Go.Conc.woken;split
 .rcases h.status with⟨i,b⟩|⟨_,rfl⟩
  .exact⟨tag,rk,by rw[again_running _ (.inl i)];exact h,.inl rfl,λ_ _=>b⟩
  .cases h with
   |blk hb=>exact⟨.w3,Rk.lift .leaf,by rw[again_blocked hb.1 hb.2.1];exact .w3 (show kn _ _ _ .leaf _ _ from hb),.inr ⟨rfl,rfl⟩,λ_ _=>by simp⟩
 .rename_i k
  exact⟨tag,rk,h,.inl rfl,λh1 u=>absurd (by simp[h1,u]) k⟩
theorem kN{μ:Mu}{gs:Array au}{sl:Option (Nat×Nat)}{t:Trace}{D:Nat->WD}{A:Nat->Nat}{K:Nat->Rk}{st sm:Int}(I:sX P ty Y N val n T l μ gs w t p o j D A K d tag rk a s st sm)
  {x:Nat} (W:x<j) {g g':au} {es:Array Event} {a' s' d':Nat} {r':Rk} {H G:Int} (hg:gs[Y.base+x]?=aa g) (hgo:aK P ae g w=.go g' w' es)
  (hh:∀ b,b<w.heap.size->hm' b=p b) (Z:w.heap.size<=w'.heap.size) (R:∀ y,y<j->y≠x->Gh Y p (o y) y w w') (J:Du Y p w w')
  (W4:WS P ty Y N val hm' o x a' s' r' d' g' w') (L:∀ e∈es,(aM e).low w'.heap.size) (X:∀ e∈es,∀ a,(aM e).touch?=aa a->a.loc.isMemory=ab->qw Y hm' (o x) x a)
  (Qa:∀ e∈es,∀ a,e.loc≠.mark (.release a)) (E:deafBehind (D x).deaf es=d')
  (O:s'<=6->∃ r,RelBy (stA Y.Wg) (t++MemOp.ofEvents (Y.base+x) g.frame.fn g.frame.place es) (Y.base+x) r)
  (h1:a'=0->∀ i,1<=i->i<Y.kc->w'.cell? ⟨Y.C,Y.kc*x+i,af⟩=aa (val x i)) (h0:s'<=6->Has Y.C (Y.kc*x) (val x 0) w') (V:PayAt Y.C N w') (Q:WgAt ty Y.Wg w' H G)
  (F:∀ tag',(tag'=tag∨(tag=.blk/\tag'=.w3))->(mayWake P g=ab->g'.status=.running->tag'≠.blk)->Go.ConcN.Mode j (upd D x ⟨s',0,d'⟩) tag' H G)
  (qu:(s'+a'<(D x).stage+A x/\cnt ⟨s',0,d'⟩<=cnt (D x))∨(s'=(D x).stage/\a'=A x/\Rk.lt r' (K (Y.base+x)))) (Vx:Y.base+j<=Y.base+n) :
  ∃ q ops μ',runT P (crowd gs w sl) (Y.base+x)=(.next q,ops)/\Fe (Y.base+n) μ' μ/\Inv P ty Y N val n T l μ' q (t++ops):=by
 have hb:=I.gp.tl.base;obtain⟨tag',rk',U,m,W5⟩:=I.cs.wokenBy g g' w';have Wa:(Y.base+x==0)=ae:=by simp;omega
 have S:=runT_crowd_go (P:=P) (sl:=sl) (i:=Y.base+x) hg (by rw[Wa];exact hgo)
 have e1:=Go.ConcN.sumTo_upd D (⟨s',0,d'⟩:WD) cnt W;have e2:=Go.ConcN.sumTo_upd D (⟨s',0,d'⟩:WD) WD.stage W;have e3:sumTo j (upd A x a')+A x=sumTo j A+a':=Go.ConcN.sumTo_upd A a' id W;refine⟨_,_,(phi n (Vc j (upd D x ⟨s',0,d'⟩)) tag'+Ssum j (upd D x ⟨s',0,d'⟩)+sumTo j (upd A x a'),(upd K (Y.base+x) r',rk')),S,?_,
  _,w',sl,hm',o,j,_,_,_,d,tag',rk',woken P g g' w' a,s,H,G,rfl,⟨by rw[Go.ConcN.get_map_set _ _ _ _ (by omega),I.a0];rfl,U,I.lead.I1 I.rely J,I.lead.sV I.rely.size hh,
   I.gp.stepW W hh Z R W4 L X Qa E O h1 h0 V ⟨_,_,Q⟩,Q,F tag' m W5,rfl⟩⟩
 rw[I.mu,Go.ConcN.phi_retag n _ m];simp only[Vc,Ssum] at *;rcases qu with⟨q1,q2⟩|⟨q1,q2,q3⟩
 .refine Prod.Lex.left _ _ ?_;have:=Go.ConcN.phi_mono n (v':=sumTo j λa=>cnt (upd D x ⟨s',0,d'⟩ a)) (v:=sumTo j λa=>cnt (D a)) (by omega) tag
  omega
 .have ec:cnt (⟨s',0,d'⟩:WD)=cnt (D x):=by simp only[cnt,q1]
  have ev:(sumTo j λa=>cnt (upd D x ⟨s',0,d'⟩ a))=sumTo j λa=>cnt (D a):=by omega
  have es':(sumTo j λa=>(upd D x ⟨s',0,d'⟩ a).stage)=sumTo j λa=>(D a).stage:=by omega
  have ea:sumTo j (upd A x a')=sumTo j A:=by omega
  rw[ev,es',ea];exact Prod.Lex.right _ (Prod.Lex.left _ _ ⟨Y.base+x,by omega,by rw[upd_same];exact q3,λk hk=>upd_ne K _ hk⟩)
end
end Go.AM
namespace Go.AM
open Go.Conc
open Go.ConcN (WD CTag Vc Ssum pend phi cnt WgLive PayAt Has RW DWs WSit RelBy sumTo upd upd_same upd_ne AtR0 isW3 isOpen OpenSt deafBehind_idle bk_cell okW_none Vc_upd Vc_le le_sumTo others_uncounted)
open Go.ConcR (KK WgAt stA smA rd wr mk Payload g_of_ofEvents Bk bk_of_mute ofEvent_loc_mark ofEvent_cell)
variable [Payload]
section
variable {P:an}{ty:ar}{Y:Lay}{N:Nat}{val:Nat->Nat->ak}{n:Nat}{T G:au->St->Prop}{F hm':Nat->Nat}{O:Nat->Mem}{j:Nat}{tag:CTag}{rk:Rk}{d:Nat}{a:au}{s:St}{w w':az}
omit [Payload] in
theorem Gh.wg(h:Aside Y.Wg w w')(E:F Y.Wg=0)(k:1<=Y.base)(hM:∀ b o v,O j b o=aa v->b≠Y.Wg)(hC:Y.C≠Y.Wg):Gh Y F (O j) j w w' :=
 ⟨by rw[h.size];exact ba _,λb _ X=>h.block b (λe=>by rw[e,E] at X;omega),λb o v J W=>by rw[jT (h.block b (hM b o v J))];exact W,λo _ _=>jT (h.block _ hC) o,h.os,h.tape,h.output⟩
omit [Payload] in
theorem Du.wg(h:Aside Y.Wg w w'):Du Y F w w':=⟨by rw[h.size];exact ba _,λb _ _ _ z=>h.block b z,h.os,h.tape,h.output⟩
omit [Payload] in
theorem Du.refl(w:az):Du Y F w w:=⟨ba _,λ_ _ _ _ _=>rfl,rfl,rfl,rfl⟩
omit [Payload] in
theorem I4{B:Nat}{es:Array Event}(h:∀ e∈es,Bk Y.Wg e)(E:Y.Wg<B):∀ e∈es,(aM e).low B:=by
 intro e c;rcases h e c with p|p|⟨ad,wr,rfl,H⟩
 .rw[ofEvent_loc_mark p];trivial
 .rw[ofEvent_loc_mark p];trivial
 .rw[ofEvent_cell];show ad.block<B;rw[H];exact E
omit [Payload] in
theorem MR{x:Nat}{es:Array Event}(h:∀ e∈es,Bk Y.Wg e):∀ e∈es,∀ a,(aM e).touch?=aa a->a.loc.isMemory=ab->qw Y F (O x) x a:=by
 intro e c b k _;rcases h e c with p|p|⟨ad,wr,rfl,H⟩
 .rw[ofEvent_loc_mark p] at k;cases k
 .rw[ofEvent_loc_mark p] at k;cases k
 .rw[ofEvent_cell] at k;simp only[MemAct.touch?,cV] at k;subst k;exact .inl ⟨ad,rfl,H,rfl⟩
omit [Payload] in
theorem Bu{es:Array Event}(h:∀ e∈es,Bk Y.Wg e):∀ e∈es,∀ a,e.loc≠.mark (.release a):=by
 intro e c a S;rcases h e c with p|p|⟨ad,wr,rfl,_⟩
 .rw[p] at S;cases S
 .rw[p] at S;cases S
 .cases S
omit [Payload] in
theorem MS{x:Nat}{σ σ':List aW}{s2:St}{es:Array Event}(U:lW F (O x) (Y.base+x) s)(V:aJ σ s)(R:ft s es)(st:Step σ s σ' s2) :
  (∀ e∈es,(aM e).low s2.w.heap.size)/\(∀ e∈es,∀ a,(aM e).touch?=aa a->a.loc.isMemory=ab->qw Y (nw F s.w.heap.size (Y.base+x)) (O x) x a) /\
  (∀ e∈es,e.loc≠.mark .disable/\e.loc≠.mark .enable)/\∀ e∈es,∀ a,e.loc≠.mark (.release a):=by
 have key:∀ e∈es,(aM e).low s2.w.heap.size/\(∀ a,(aM e).touch?=aa a->a.loc.isMemory=ab->qw Y (nw F s.w.heap.size (Y.base+x)) (O x) x a)/\(e.loc≠.mark .disable/\e.loc≠.mark .enable)/\∀ a,e.loc≠.mark (.release a):=by
  intro e c;have h:=R e c;obtain⟨loc,wr,sy⟩:=e;cases loc with
  |cell ad =>
   obtain⟨p,z,u⟩:=h;simp only at p z u;subst p;have l:ad.block<s.w.heap.size:=by
    rcases u with u|⟨⟨L,Q,u⟩,_⟩|⟨_,v,u⟩
    .exact u.elim
    .exact V.lt L Q _ u
    .exact gC.lt V.mem u
   refine⟨by rw[ofEvent_cell];exact cz l st.size,λb k _=>?_,⟨by simp,by simp⟩,by simp⟩
   rw[ofEvent_cell] at k;simp only[MemAct.touch?,cV] at k;subst k;refine .inr ⟨rfl,?_⟩;rcases u with u|⟨⟨L,Q,u⟩,_⟩|⟨Z,v,u⟩
   .exact u.elim
   .exact .inl ⟨ad.block,rfl,by rw[fa l];exact(U.blk _ (.inr ⟨L,Q,u⟩)).1⟩
   .rcases(U.M _ _ _ u).1 with h5|h5
    .exact .inl ⟨ad.block,rfl,by rw[fa l];exact h5⟩
    .refine .inr (.inr ⟨Z,ad.block,ad.off,v,?_,h5⟩);obtain⟨b,o,sp⟩:=ad;simp only at z;subst z;rfl
  |obj r =>
   obtain⟨p,z⟩:=h;simp only at p z;subst p;obtain⟨L,Q,u⟩:=z.resolve_left id;have l:=V.lt L Q _ u;refine⟨?_,λb k _=>?_,⟨by simp,by simp⟩,by simp⟩
   .simp[aM,MemAct.low,Loc.low];exact cz l st.size
   .simp[aM,MemAct.touch?] at k;subst k;exact .inr ⟨rfl,.inl ⟨r,rfl,by rw[fa l];exact(U.blk _ (.inr ⟨L,Q,u⟩)).1⟩⟩
  |mark m =>
   simp only[oG] at h;rcases h with rfl|⟨f,rfl⟩
   .exact⟨by simp[aM,MemAct.low],λb k=>by simp[aM,MemAct.touch?] at k,⟨by simp,by simp⟩,by simp⟩
   .exact⟨by simp[aM,MemAct.low],λb k=>by simp[aM,MemAct.touch?] at k,⟨by simp,by simp⟩,by simp⟩
  |_=>exact h.elim
 exact⟨λe c=>(key e c).1,λe c=>(key e c).2.1,λe c=>(key e c).2.2.1,λe c=>(key e c).2.2.2⟩
set_option maxHeartbeats 1600000 in
theorem stepWorker{μ:Mu}{gs:Array au}{sl:Option (Nat×Nat)}{t:Trace}{D:Nat->WD}{A:Nat->Nat}{K:Nat->Rk}{st sm:Int}(I:sX P ty Y N val n T G μ gs w t F O j D A K d tag rk a s st sm)(hn:n<2147483648)(hj:j<=n)
  (hpd:j+pend tag<=n) {x:Nat} (hx:x<j) {g:au} (hg:gs[Y.base+x]?=aa g) (rK:g.status=.running) :
  ∃ m₁ ops μ',runT P (crowd gs w sl) (Y.base+x)=(.next m₁,ops)/\Fe (Y.base+n) μ' μ/\Inv P ty Y N val n T G μ' m₁ (t++ops):=by
 have I5:=I.gp.tl.base;obtain⟨g₁,OM,hs⟩:=I.gp.wk x hx;obtain rfl:g=g₁:=by rw[hg] at OM;exact lM OM
 generalize Gi:(D x).stage=sg at hs;generalize W7:K (Y.base+x)=r at hs;generalize SA:(D x).deaf=dd at hs;generalize hA:A x=ax at hs;have Zs:Deaf t (Y.base+x)=dd:=by rw[I.gp.deafW x hx,SA]
 have hVj:=Vc_le j D;have same:∀ m' Ff,Go.ConcN.Mode j (upd D x ⟨sg,m',Ff⟩) tag st sm:=λm' Ff=>by have:=I.mode.same (i:=x) m' Ff;rwa [Gi] at this
 cases hs with
 |@am r g s0 w p z u =>
  rcases p.norm (λs0=>cm s0 { s0 with w:=w }/\lW F (O x) (Y.base+x) s0) (λs0 s' Tx hi=>⟨hi.1.ghost Tx,hi.2.ghost Tx⟩) (λ_ s0 s' Tx hi=>⟨hi.1.forget Tx,hi.2.forget Tx⟩) ⟨z,u⟩ with⟨s',⟨k1,k2⟩,lX⟩|⟨_,s',⟨k1,k2⟩,j3⟩
  ·
   obtain⟨g',w2,es,hgo,E,SB,m,hk⟩:=lX.2 w k1 I.gp.pay I.gp.live;have Zt:=I.gp.kc;refine kN I hx hg hgo (hm':=F) (λ_ _=>rfl) (by rw[E.size];exact ba _) (λy hy Zu=>⟨by rw[E.size];exact ba _,λb _ k=>E.block b (λe=>by rw[e,I.gp.tl.hC] at k;omega),λb o v J W=>?_,λo Zv Zw=>E.out o ?_,E.os,E.tape,E.output⟩)
    ⟨by rw[E.size];exact ba _,λb _ _ z _=>E.block b z,E.os,E.tape,E.output⟩ (.rel hk) (λe c=>?_) (λe c b k _=>?_) (λe c=>?_) ?_ (λh=>absurd h (by decide)) (λ_ i _ hi=>E.new i hi) (λh=>absurd h (by decide)) E.pay
    (I.wg.of_block (E.block _ (iL I.gp.tl.ne))) (λ_ ht _=>(same _ _).retag ht) (.inl ⟨by omega,by simp[cnt,Gi]⟩) (by omega)
   .rw[jT (E.block b (I.gp.tl.ms y hy b o v J).2.1)];exact W
   .rcases Nat.lt_or_gt_of_ne Zu with h|h
    .have:=uQ Y.kc (show y+1<=x from h)
     rw[rv,pL] at this;omega
    .have:=uQ Y.kc (show x+1<=y from h)
     rw[rv,pL] at this;omega
   .obtain⟨o,rfl,_⟩:=SB e c;rw[ofEvent_cell];show Y.C<_;rw[E.size];exact I.gp.Bt
   .obtain⟨o,rfl,Zv,Zw⟩:=SB e c;rw[ofEvent_cell] at k;simp only[MemAct.touch?,cV] at k;subst k;exact .inr ⟨rfl,.inr (.inl ⟨o,rfl,Zv,Zw⟩)⟩
   .obtain⟨o,rfl,_⟩:=SB e c;simp
   .rw[SA];exact deafBehind_idle (λe c=>by obtain⟨o,rfl,_⟩:=SB e c;exact⟨by simp,by simp⟩) 0
  ·
   obtain⟨g',s2,es,r',hgo,W8,Qc,l⟩:=j3 _ k1;obtain⟨⟨σ,σ',V,lG,HX⟩,R⟩:=W8.resolve_right id;have k3:lW F (O x) (Y.base+x) { s' with w:=w }:=k2.rely k1.size;obtain⟨e1,e2,e3,e4⟩:=MS k3 V R HX;have vX:∀ b,b<w.heap.size->F b≠Y.base+x->s2.w.heap[b]?=w.heap[b]?:=λb k zD=>HX.eH b k λL Q LS=>zD (k3.blk b (.inr ⟨L,Q,LS⟩)).1
   refine kN I hx hg hgo (hm':=nw F w.heap.size (Y.base+x)) (λb k=>fa k) HX.size (λy hy Zu=>⟨HX.size,λb k hby=>vX b k (by omega),λb o v J W=>?_,λo _ _=>jT (vX _ I.gp.Bt (by rw[I.gp.tl.hC];omega)) o,HX.os,HX.tape,HX.output⟩)
    ⟨HX.size,λb k h0 _ _=>vX b k (by omega),HX.os,HX.tape,HX.output⟩ (.am Qc (cm.vW lG.mem) (k3.step lG HX)) e1 e2 e4 (by rw[SA];exact deafBehind_idle e3 0) (λh=>absurd h (by decide)) (λh=>absurd h (by decide)) (λh=>absurd h (by decide)) ?_
    (I.wg.of_block (vX _ I.gp.zM (by rw[I.gp.tl.HV];omega))) (λ_ ht _=>(same _ _).retag ht) (.inr ⟨Gi.symm,hA.symm,by rw[W7];exact l⟩) (by omega)
   .rw[jT (vX b (I.gp.MQ y hy b o v J) (by rw[(I.gp.tl.ms y hy b o v J).1];omega))];exact W
   .obtain⟨cs,c1,c2⟩:=I.gp.pay;exact⟨cs,(vX _ I.gp.Bt (by rw[I.gp.tl.hC];omega)).trans c1,c2⟩
 |@rel m g w h =>
  rcases Goes.cases h with lX|⟨m',rfl,j3⟩
  ·
   obtain⟨_,W9,g',hgo,m₂,hk⟩:=lX w (Go.ConcN.RW.refl w);refine kN I hx hg hgo (hm':=F) (λ_ _=>rfl) (ba _) (λy _ _=>.refl ..) (.refl w) (.tail (by decide) (.k1 hk)) (λe c=>?_) (λe c b k _=>?_) (λe c=>?_) (by rw[SA];rfl) (λ_=>⟨t.size,RelBy.new Zs _ _⟩) (λ_=>I.gp.xC x hx hA) (λ_=>by simpa using W9) I.gp.pay I.wg
    (λ_ ht _=>(I.mode.counted hx (by omega) (.inl rfl) _ _).retag ht) (.inl ⟨by omega,by simp[cnt,Gi]⟩) (by omega)
   .simp at c;subst c;exact I.gp.zM
   .simp at c;subst c;simp[mk,aM,MemAct.touch?] at k
   .simp at c;subst c;simp[mk]
  .obtain⟨g',w',es,hgo,⟨rfl,rfl⟩,Dv⟩:=j3 w (Go.ConcN.RW.refl w);exact kN I hx hg hgo (hm':=F) (λ_ _=>rfl) (ba _) (λy _ _=>.refl ..) (.refl w') (.rel Dv) (by simp) (by simp) (by simp) (by rw[SA];rfl) (λh=>absurd h (by decide)) (λ_=>I.gp.xC x hx hA) (λh=>absurd h (by decide)) I.gp.pay I.wg (λ_ ht _=>(same _ _).retag ht)
    (.inr ⟨Gi.symm,hA.symm,by rw[W7];exact Rk.Dt _ s⟩) (by omega)
 |@tail sg m dd g w h6 h =>
  have ON:∀ {g':au} {w':az} {es:Array Event} {s' m' Ff:Nat} {qn Gj:Int},aK P ae g w=.go g' w' es->Aside Y.Wg w w'->WgAt ty Y.Wg w' qn Gj->(∀ e∈es,Bk Y.Wg e) ->
    (∀ jx e,es[jx]?=aa e->(aM e).touch?=af∨0<deafBehind dd (es.extract 0 jx))->s'<=6->WSit P ty Y.Wg Y.C N OK OK 0 (Y.kc*x+1) (val x 0) s' m' Ff g' w'->deafBehind dd es=Ff ->
    (∀ tag',(tag'=tag∨(tag=.blk/\tag'=.w3))->(mayWake P g=ab->g'.status=.running->tag'≠.blk)->Go.ConcN.Mode j (upd D x ⟨s',0,Ff⟩) tag' qn Gj)->((s'<sg/\cnt ⟨s',0,Ff⟩<=cnt (D x))∨(s'=sg/\m'+1=m)) ->
    ∃ m₁ ops μ',runT P (crowd gs w sl) (Y.base+x)=(.next m₁,ops)/\Fe (Y.base+n) μ' μ/\Inv P ty Y N val n T G μ' m₁ (t++ops):=by
   intro g' w' es s' m' Ff qn Gj hgo Dw I6 Gk hd Xa Ty Xb vY l;obtain⟨cs,Xc,Xd⟩:=I.gp.pay;refine kN I hx hg hgo (hm':=F) (λ_ _=>rfl) (by rw[Dw.size];exact ba _) (λy hy _=>.wg Dw I.gp.tl.HV I5 (λb o v J=>(I.gp.tl.ms y hy b o v J).2.2.1) I.gp.tl.ne) (.wg Dw) (.tail Xa Ty) (I4 Gk (by rw[Dw.size];exact I.gp.zM)) (MR Gk) (Bu Gk) (by rw[SA];exact Xb)
    (λ_=>let ⟨r,hr⟩:=I.gp.rel x hx (by omega);⟨r,hr.book Zs _ _ Gk hd⟩) (λ_ i hi1 IP=>(jT (Dw.block _ I.gp.tl.ne) _).trans (I.gp.xC x hx hA i hi1 IP)) (λ_=>(jT (Dw.block _ I.gp.tl.ne) _).trans (I.gp.Br x hx (by omega))) ⟨cs,(Dw.block _ I.gp.tl.ne).trans Xc,Xd⟩ I6 vY
    (l.imp (λh=>⟨by omega,h.2⟩) λh=>⟨by omega,hA.symm,by rw[W7,<-h.2];exact Rk.Dt _ s⟩) (by omega)
  have book:∀ {g':au} {w':az} {es:Array Event} {s' m' Ff:Nat} {qn Gj:Int},aK P ae g w=.go g' w' es->Aside Y.Wg w w'->WgAt ty Y.Wg w' qn Gj->(∀ e∈es,Bk Y.Wg e) ->
    (∀ jx e,es[jx]?=aa e->(aM e).touch?=af∨0<deafBehind dd (es.extract 0 jx))->s'<=6->WSit P ty Y.Wg Y.C N OK OK 0 (Y.kc*x+1) (val x 0) s' m' Ff g' w'->deafBehind dd es=Ff ->
    Go.ConcN.Mode j (upd D x ⟨s',0,Ff⟩) tag qn Gj->((s'<sg/\cnt ⟨s',0,Ff⟩<=cnt (D x))∨(s'=sg/\m'+1=m)) ->
    ∃ m₁ ops μ',runT P (crowd gs w sl) (Y.base+x)=(.next m₁,ops)/\Fe (Y.base+n) μ' μ/\Inv P ty Y N val n T G μ' m₁ (t++ops) :=
   λhgo Dw I6 Gk hd Xa Ty Xb vY l=>ON hgo Dw I6 Gk hd Xa Ty Xb (λ_ ht _=>vY.retag ht) l
  have idle:∀ {g':au} {m':Nat},aK P ae g w=.go g' w #[]->WSit P ty Y.Wg Y.C N OK OK 0 (Y.kc*x+1) (val x 0) sg m' dd g' w->m'+1=m ->
    ∃ m₁ ops μ',runT P (crowd gs w sl) (Y.base+x)=(.next m₁,ops)/\Fe (Y.base+n) μ' μ/\Inv P ty Y N val n T G μ' m₁ (t++ops):=by
   intro g' m' hgo Ty F;exact book hgo (.refl Y.Wg w) I.wg (by simp) (by simp) h6 Ty rfl (same _ _) (.inr ⟨rfl,F⟩)
  cases h with
  |r0 h=>omega
  |k1 h =>
   rcases Goes.cases h with lX|⟨m',rfl,j3⟩
   .obtain⟨_,g',hgo,m₂,hk⟩:=lX w (Go.ConcN.RW.refl w);exact book hgo (.refl Y.Wg w) I.wg (by intro e c;simp at c;subst c;exact .inl rfl) (by intro jx e c;exact .inl (by have:=pA c;simp at this;subst this;rfl)) (by decide) (.d1 hk) rfl (I.mode.counted hx (by omega) (.inr rfl) _ _) (.inl ⟨by omega,by simp[cnt,Gi]⟩)
   .obtain⟨g',w',es,hgo,⟨rfl,rfl⟩,Dv⟩:=j3 w (Go.ConcN.RW.refl w);exact idle hgo (.k1 Dv) rfl
  |d1 h =>
   rcases Goes.cases h with lX|⟨m',rfl,j3⟩
   .obtain⟨_,Tz⟩:=lX w (Go.ConcN.RW.refl w);have vh:=I.wg;have I7:=I.mode;have Vz:cnt (D x)=1:=by simp[cnt,Gi]
    have hV1:1<=Vc j D:=by have:=le_sumTo (f:=λx=>cnt (D x)) hx;simp only[Vc];omega
    have bk2:∀ e∈#[rd (stA Y.Wg),wr (stA Y.Wg)],Bk Y.Wg e:=by intro e c;simp at c;rcases c with rfl|rfl <;> exact bk_cell _ _ rfl
    have VF:∀ jx e,(#[rd (stA Y.Wg),wr (stA Y.Wg)]:Array Event)[jx]?=aa e->(aM e).touch?=af∨0<deafBehind 1 ((#[rd (stA Y.Wg),wr (stA Y.Wg)]:Array Event).extract 0 jx):=by
     intro jx e c
     match jx,c with
     |0,_=>exact .inr (by simp[deafBehind])
     |1,_=>exact .inr (by simp[deafBehind,rd])
     |jx+2,c=>simp at c
    have Zx:∀ q,cnt (⟨1,q,1⟩:WD)=0:=λ_=>rfl
    have dM:∀ q,OpenSt j D->OpenSt j (upd D x ⟨1,q,1⟩):=λq h a H=>by
     by_cases e:a=x
     .subst e;rw[upd_same];simp
     .rw[upd_ne D _ e];exact h a H
    generalize abv:st=TB at I7 vh;generalize abw:sm=sm0 at I7 vh;cases I7 with
    |opn p z u =>
     obtain⟨v,J⟩:∃ v,Vc j D+pend tag=v+1:=⟨Vc j D+pend tag-1,by omega⟩
     rw[J] at vh;have PF:WgAt ty Y.Wg w (((v:Nat)+1)*KK+((0:Nat):Int)) 0:=by simpa using vh
     obtain⟨g',hgo,_,hq⟩:=Tz v 0 (by omega) (by omega) PF
     obtain⟨q,hq⟩:=hq (by omega)
     have So:Vc j (upd D x ⟨1,0,1⟩)+pend tag=v:=by have:=Vc_upd D (⟨1,0,1⟩:WD) hx;have:=Zx 0;omega
     refine book hgo (aside_setCell w (stA Y.Wg) _) (vh.setSt _) bk2 VF (by decide) (.quit hq) rfl ?_ (.inl ⟨by omega,by simp[cnt]⟩)
     have e:((v:Nat):Int)*KK+((0:Nat):Int)=((Vc j (upd D x ⟨1,0,1⟩)+pend tag:Nat):Int)*KK:=by rw[So];simp
     rw[e];exact .opn p (dM 0 z) (λvs ev=>by have:=u vs ev;omega)
    |reg p z u =>
     obtain⟨v,J⟩:∃ v,Vc j D=v+1:=⟨Vc j D-1,by omega⟩
     rw[J] at vh;have hp:pend tag=0:=by cases tag <;> first|rfl|exact p.elim
     have PF:WgAt ty Y.Wg w (((v:Nat)+1)*KK+((1:Nat):Int)) 0:=by simpa using vh
     obtain⟨g',hgo,S,hq⟩:=Tz v 1 (by omega) (by omega) PF
     by_cases Mj:v=0
     .subst Mj;obtain⟨m₂,hk⟩:=S ⟨rfl,rfl⟩;refine book hgo (aside_setCell w (stA Y.Wg) _) (vh.setSt _) bk2 VF (by decide) (.d2 hk) rfl ?_ (.inl ⟨by omega,by simp[cnt]⟩)
      have zw:∀ a,a<j->a≠x->(D a).stage=1:=λa H e=>by
       have c0:=others_uncounted hx J Vz a H e;have:=z a H;simp only[cnt] at c0;split at c0 <;> omega
      have:=Go.ConcN.Mode.last (j:=j) (D:=upd D x ⟨4,0,1⟩) (tag:=tag) x p hx (by rw[upd_same];simp) (λa H e=>by rw[upd_ne D _ e];exact zw a H e)
      rw[upd_same] at this;simpa using this
     .obtain⟨q,hq⟩:=hq (by omega)
      have So:Vc j (upd D x ⟨1,0,1⟩)=v:=by have:=Vc_upd D (⟨1,0,1⟩:WD) hx;have:=Zx 0;omega
      refine book hgo (aside_setCell w (stA Y.Wg) _) (vh.setSt _) bk2 VF (by decide) (.quit hq) rfl ?_ (.inl ⟨by omega,by simp[cnt]⟩)
      have e:((v:Nat):Int)*KK+((1:Nat):Int)=((Vc j (upd D x ⟨1,0,1⟩):Nat):Int)*KK+1:=by rw[So];simp
      rw[e];exact .reg p (dM 0 z) (by omega)
    |last L _ z u Z =>
     by_cases e:x=L
     .subst e;omega
     .have:=Z x hx e;omega
    |sema z=>have:=z x hx;omega
    |fin _ z=>have:=z x hx;omega
   .obtain⟨g',w',es,hgo,⟨rfl,rfl⟩,Dv⟩:=j3 w (Go.ConcN.RW.refl w);exact idle hgo (.d1 Dv) rfl
  |d2 h =>
   rcases Goes.cases h with lX|⟨m',rfl,j3⟩
   .obtain⟨_,LZ⟩:=lX w (Go.ConcN.RW.refl w);obtain⟨TC,zw,e1,e2⟩:=I.mode.isLast hx (by omega)
    have vh:=I.wg;rw[e1,e2,Gi] at vh;obtain⟨g',hgo,m₂,hk⟩:=LZ (by simpa using vh)
    refine book hgo (.refl Y.Wg w) vh (by intro e c;simp at c;subst c;exact bk_cell _ _ rfl) (by intro jx e c;match jx,c with|0,_=>exact .inr (by simp[deafBehind])|jx+1,c=>simp at c) (by decide) (.d3 hk) rfl ?_ (.inl ⟨by omega,by simp[cnt]⟩)
    have:=Go.ConcN.Mode.last (j:=j) (D:=upd D x ⟨3,0,1⟩) (tag:=tag) x TC hx (by rw[upd_same];simp) (λa H e=>by rw[upd_ne D _ e];exact zw a H e)
    rw[upd_same] at this;simpa using this
   .obtain⟨g',w',es,hgo,⟨rfl,rfl⟩,Dv⟩:=j3 w (Go.ConcN.RW.refl w);exact idle hgo (.d2 Dv) rfl
  |d3 h =>
   rcases Goes.cases h with lX|⟨m',rfl,j3⟩
   .obtain⟨_,LZ⟩:=lX w (Go.ConcN.RW.refl w);obtain⟨TC,zw,e1,e2⟩:=I.mode.isLast hx (by omega)
    have vh:=I.wg;rw[e1,e2,Gi] at vh;obtain⟨g',hgo,m₂,hk⟩:=LZ (by simpa using vh)
    refine book hgo (aside_setCell w (stA Y.Wg) _) (vh.setSt 0) (by intro e c;simp at c;subst c;exact bk_cell _ _ rfl) (by intro jx e c;match jx,c with|0,_=>exact .inr (by simp[deafBehind])|jx+1,c=>simp at c) (by decide) (.d4 hk) rfl ?_ (.inl ⟨by omega,by simp[cnt]⟩)
    have:=Go.ConcN.Mode.last (j:=j) (D:=upd D x ⟨2,0,1⟩) (tag:=tag) x TC hx (by rw[upd_same];simp) (λa H e=>by rw[upd_ne D _ e];exact zw a H e)
    rw[upd_same] at this;simpa using this
   .obtain⟨g',w',es,hgo,⟨rfl,rfl⟩,Dv⟩:=j3 w (Go.ConcN.RW.refl w);exact idle hgo (.d3 Dv) rfl
  |d4 h =>
   rcases Goes.cases h with lX|⟨m',rfl,j3⟩
   .obtain⟨_,hmw,LZ⟩:=lX w (Go.ConcN.RW.refl w);obtain⟨TC,zw,e1,e2⟩:=I.mode.isLast hx (by omega)
    have vh:=I.wg;rw[e1,e2,Gi] at vh;obtain⟨g',hgo,q,hq⟩:=LZ (by simpa using vh)
    have vZ:g'.status=.running:=by
     cases q with
     |zero=>exact absurd hq.2 (by decide)
     |succ q=>exact hq.elim (λx=>absurd x.2 (by decide)) (λx=>x.1)
    refine ON hgo (aside_setCell w (smA Y.Wg) _) (vh.setSm 1) (es:=semEvents (smA Y.Wg)) ?_ ?_ (by decide) (.quit hq) (by simp[deafBehind,semEvents]) ?_ (.inl ⟨by omega,by simp[cnt]⟩)
    .intro e c;simp[semEvents] at c;rcases c with rfl|rfl|rfl|rfl
     .exact .inl rfl
     .exact bk_cell _ _ rfl
     .exact bk_cell _ _ rfl
     .exact .inr (.inl rfl)
    .intro jx e c
     match jx,c with
     |0,c=>simp[semEvents] at c;subst c;exact .inl rfl
     |1,_=>exact .inr (by simp[deafBehind,semEvents])
     |2,_=>exact .inr (by simp[deafBehind,semEvents])
     |3,c=>simp[semEvents] at c;subst c;exact .inl rfl
     |jx+4,c=>simp[semEvents] at c
    .intro tag' ht U;have hnb:=U hmw vZ;have e3:tag'=.w3:=by
      rcases ht with rfl|⟨_,rfl⟩
      .cases tag' <;> first|rfl|exact TC.elim|exact absurd rfl hnb
      .rfl
     subst e3;simp only[bO];exact .sema λa H=>by
      by_cases e:a=x
      .subst e;rw[upd_same]
      .rw[upd_ne D _ e];exact zw a H e
   .obtain⟨g',w',es,hgo,⟨rfl,rfl⟩,Dv⟩:=j3 w (Go.ConcN.RW.refl w);exact idle hgo (.d4 Dv) rfl
  |quit h =>
   cases m with
   |zero=>rw[h.1] at rK;cases rK
   |succ q =>
    rcases h with⟨hf,_⟩|⟨_,g',es,OO,j3,hq⟩
    .rw[hf] at rK;cases rK
    .have Gk:∀ e∈es,Bk Y.Wg e:=λe c=>bk_of_mute (OO e c)
     have Tq:∀ jx e,es[jx]?=aa e->(aM e).touch?=af∨0<deafBehind dd (es.extract 0 jx):=λjx e c=>.inl (touch_mute (OO e (pA c)))
     exact book (j3 w) (.refl Y.Wg w) I.wg Gk Tq (by decide) (.quit hq) rfl (same _ _) (.inr ⟨rfl,rfl⟩)
end
end Go.AM
namespace Go.AM
open Go.Conc
open Go.ConcN (WD CTag Vc Ssum pend phi cnt WgLive PayAt Has RW DWs WSit RelBy sumTo upd upd_same upd_ne AtR0 isW3 isOpen OpenSt deafBehind_idle bk_cell okW_none Vc_upd Vc_le le_sumTo others_uncounted sumTo_upd_out bk_dis bk_en bk_rd bk_rw bk_sem allQuit_of exists_counted)
open Go.ConcR (KK WgAt stA smA rd wr mk Payload g_of_ofEvents Bk bk_of_mute ofEvent_loc_mark ofEvent_cell ofEvent_mk)
variable [Payload]
section
variable {P:an}{ty:ar}{Y:Lay}{N:Nat}{val:Nat->Nat->ak}{n:Nat}{T l:au->St->Prop}{u hm':Nat->Nat}{F J:Nat->Mem}{j:Nat}{tag:CTag}{rk:Rk}{d:Nat}{a:au}{s:St}{w w':az}
 {V:Mu} {R:Array au} {sl:Option (Nat×Nat)} {t:Trace} {D:Nat->WD} {A:Nat->Nat} {K:Nat->Rk} {st sm:Int}
omit [Payload] in
theorem TL.congr{B:Nat}(h:TL Y u F t j B)(e:∀ y,y<j->J y=F y):TL Y u J t j B :=
 ⟨h.base,h.HV,h.hC,h.ne,h.OJ,h.P8,h.HW,λx H=>by rw[e x H];exact h.ms x H,h.T0,h.nr,h.seen,h.old,h.P9,h.Gg,λi a hi ha u=>(h.new i a hi ha u).imp id λ⟨x,H,z,G⟩=>⟨x,H,z,by rw[e x H];exact G⟩,
  λx H=>by rw[e x H];exact h.mw x H,h.over⟩
theorem WS.congr{x a st d:Nat}{r:Rk}{g:au}(h:WS P ty Y N val u F x a st r d g w)(e:J x=F x):WS P ty Y N val u J x a st r d g w:=by
 cases h with
 |am z G E=>exact .am z G (by rw[e];exact E)
 |rel z=>exact .rel z
 |tail h0 z=>exact .tail h0 z
theorem Com.congr{q:Nat}(h:Com P ty Y N val u F j R w t D A K q)(e:∀ y,y<j->J y=F y):Com P ty Y N val u J j R w t D A K q :=
 ⟨h.size,h.lv,h.above,λx H=>let ⟨g,z,G⟩:=h.wk x H;⟨g,z,G.congr (e x H)⟩,h.tl.congr e,h.norel,h.deaf0,h.deafW,h.rel,h.xC,h.Br,h.pay,h.live,h.zM,h.Bt,h.LY,h.kc,λy I=>by rw[e y I];exact h.MQ y I⟩
omit [Payload] in
theorem MT{σ σ':List aW}{s2:St}{es:Array Event}(hw:jS Y u F j s)(hh:aJ σ s)(S:ft s es)(st:Step σ s σ' s2) :
  (∀ e∈es,(aM e).low s2.w.heap.size)/\(∀ e∈es,∀ a,(aM e).touch?=aa a->a.loc.isMemory=ab->rY Y (nw u s.w.heap.size 0) a) /\
  (∀ e∈es,∀ a,(aM e).touch?=aa a->a.kind=.plain->a.write=ab->∀ x,x<j->∀ b o v,a.loc=.cell ⟨b,o,af⟩->F x b o≠aa v) /\
  (∀ e∈es,e.loc≠.mark .disable/\e.loc≠.mark .enable)/\∀ e∈es,∀ a,e.loc≠.mark (.release a):=by
 have key:∀ e∈es,(aM e).low s2.w.heap.size/\(∀ a,(aM e).touch?=aa a->a.loc.isMemory=ab->rY Y (nw u s.w.heap.size 0) a) /\
   (∀ a,(aM e).touch?=aa a->a.kind=.plain->a.write=ab->∀ x,x<j->∀ b o v,a.loc=.cell ⟨b,o,af⟩->F x b o≠aa v)/\(e.loc≠.mark .disable/\e.loc≠.mark .enable)/\∀ a,e.loc≠.mark (.release a):=by
  intro e k;have h:=S e k;obtain⟨loc,wr,sy⟩:=e;cases loc with
  |cell ad =>
   obtain⟨z,G,E⟩:=h;simp only at z G E;subst z;have p:ad.block<s.w.heap.size/\u ad.block=0/\ad.block≠Y.C/\ad.block≠Y.Wg/\¬Y.Sh ad.block:=by
    rcases E with E|⟨⟨L,hL,E⟩,_⟩|⟨_,v,E⟩
    .exact E.elim
    .obtain⟨k1,X,O,W,U⟩:=hw.blk _ (.inr ⟨L,hL,E⟩);exact⟨U,k1,X,O,W⟩
    .obtain⟨k1,X,O,W,U⟩:=hw.M _ _ _ E;exact⟨U,k1,X,O,W⟩
   refine⟨by rw[ofEvent_cell];exact cz p.1 st.size,λb c _=>?_,λb c _ Q x H b' o v hl Z=>?_,⟨by simp,by simp⟩,by simp⟩
   .rw[ofEvent_cell] at c;simp only[MemAct.touch?,cV] at c;subst c;exact .inr ⟨ad.block,rfl,by rw[fa p.1];exact p.2.1,p.2.2.2.1,p.2.2.1,p.2.2.2.2,rfl⟩
   .rw[ofEvent_cell] at c;simp only[MemAct.touch?,cV] at c;subst c;simp only at Q hl;have hM:=hw.ms x H b' o v Z;cases hl;rcases E with E|⟨_,E⟩|⟨E,_⟩
    .exact E.elim
    .rw[E Q] at hM;cases hM
    .rw[E] at Q;cases Q
  |obj r =>
   obtain⟨z,G⟩:=h;simp only at z G;subst z;obtain⟨L,hL,E⟩:=G.resolve_left id;obtain⟨k1,X,O,W,U⟩:=hw.blk _ (.inr ⟨L,hL,E⟩);refine⟨?_,λb c _=>?_,λb c _ _ x _ b' o v hl=>?_,⟨by simp,by simp⟩,by simp⟩
   .simp[aM,MemAct.low,Loc.low];exact cz U st.size
   .simp[aM,MemAct.touch?] at c;subst c;exact .inr ⟨r,rfl,by rw[fa U];exact k1,O,X,W,rfl⟩
   .simp[aM,MemAct.touch?] at c;subst c;cases hl
  |mark m =>
   simp only[oG] at h;rcases h with rfl|⟨f,rfl⟩
   .exact⟨by simp[aM,MemAct.low],λb c=>by simp[aM,MemAct.touch?] at c,λb c=>by simp[aM,MemAct.touch?] at c,⟨by simp,by simp⟩,by simp⟩
   .exact⟨by simp[aM,MemAct.low],λb c=>by simp[aM,MemAct.touch?] at c,λb c=>by simp[aM,MemAct.touch?] at c,⟨by simp,by simp⟩,by simp⟩
  |_=>exact h.elim
 exact⟨λe k=>(key e k).1,λe k=>(key e k).2.1,λe k=>(key e k).2.2.1,λe k=>(key e k).2.2.2.1,λe k=>(key e k).2.2.2.2⟩
theorem sY(I:sX P ty Y N val n T l V R w t u F j D A K d tag rk a s st sm){a':au}{es:Array Event}{tag':CTag}{rk':Rk}{qn Gj:Int}{s':St}(hgo:aK P ab a w=.go a' w' es)
  (hh:∀ b,b<w.heap.size->hm' b=u b) (HR:w.heap.size<=w'.heap.size) (Xe:∀ y,y<j->Gh Y u (F y) y w w')
  (Xf:∀ e∈es,(aM e).low w'.heap.size) (htm:∀ e∈es,∀ a,(aM e).touch?=aa a->a.loc.isMemory=ab->rY Y hm' a)
  (htw:∀ e∈es,∀ a,(aM e).touch?=aa a->a.kind=.plain->a.write=ab->∀ x,x<j->∀ b o v,a.loc=.cell ⟨b,o,af⟩->F x b o≠aa v)
  (Qa:∀ e∈es,∀ a,e.loc≠.mark (.release a)) (I8:PayAt Y.C N w') (vh:WgAt ty Y.Wg w' qn Gj)
  (Gl:CS P ty Y N val n T l tag' j rk' (deafBehind d es) a' s') (TD:cm s' { s' with w:=w' }) (q:jS Y hm' F j s') (g:Go.ConcN.Mode j D tag' qn Gj)
  (p:phi n (Vc j D) tag'<phi n (Vc j D) tag∨(phi n (Vc j D) tag'=phi n (Vc j D) tag/\Rk.lt rk' rk)) :
  ∃ m₁ ops μ',runT P (crowd R w sl) 0=(.next m₁,ops)/\Fe (Y.base+n) μ' V/\Inv P ty Y N val n T l μ' m₁ (t++ops):=by
 have c:=I.gp.tl.base;have rK:=runT_crowd_go (P:=P) (sl:=sl) (i:=0) I.a0 (by simpa using hgo)
 refine⟨_,_,(phi n (Vc j D) tag'+Ssum j D+sumTo j A,(K,rk')),rK,?_,_,w',sl,hm',F,j,D,A,K,deafBehind d es,tag',rk',a',s',qn,Gj,rfl,
  ⟨Go.ConcN.get_map_set_same _ _ _ (by rw[I.gp.size];omega),Gl,TD,q,I.gp.step0 hh HR Xe Xf htm htw Qa I8 ⟨_,_,vh⟩,vh,g,rfl⟩⟩
 rw[I.mu];rcases p with h|⟨z,G⟩
 .exact Prod.Lex.left _ _ (by omega)
 .rw[z];exact Prod.Lex.right _ (Prod.Lex.right _ G)
theorem iB(I:sX P ty Y N val n T l V R w t u F j D A K d tag rk a s st sm){a':au}{es:Array Event}{rk':Rk}{s1 s':St}(z:cm s1 { s1 with w:=w })(q:jS Y u F j s1)(hgo:aK P ab a w=.go a' s'.w es)
  (W8:qG { s1 with w:=w } s' es∨Es Y.Wg { s1 with w:=w } s' es) (Gl:CS P ty Y N val n T l tag j rk' d a' s') (p:Rk.lt rk' rk) :
  ∃ m₁ ops μ',runT P (crowd R w sl) 0=(.next m₁,ops)/\Fe (Y.base+n) μ' V/\Inv P ty Y N val n T l μ' m₁ (t++ops):=by
 rcases W8 with⟨⟨σ,σ',hh,lG,g⟩,S⟩|⟨rfl,ad,Zy,SB⟩
 .have O:jS Y u F j { s1 with w:=w }:=q.rely z.size;obtain⟨e1,e2,e3,e4,e5⟩:=MT O hh S g;have vX:∀ b,b<w.heap.size->(u b≠0∨b=Y.C∨b=Y.Wg)->s'.w.heap[b]?=w.heap[b]?:=λb c zD=>g.eH b c λL hL LS=>by
   obtain⟨q1,q2,q3,_⟩:=O.blk b (.inr ⟨L,hL,LS⟩);rcases zD with h|h|h
   .exact h q1
   .exact q2 h
   .exact q3 h
  have I5:=I.gp.tl.base;refine sY I hgo (hm':=nw u w.heap.size 0) (λb c=>fa c) g.size (λy hy=>⟨g.size,λb c hby=>vX b c (.inl (by omega)),λb o v Z _=>lG.mem b o v (g.mem _ _ _ (q.ms y hy b o v Z)),λo _ _=>jT (vX _ I.gp.Bt (.inr (.inl rfl))) o,g.os,g.tape,g.output⟩) e1 e2 e3 e5 ?_
   (I.wg.of_block (vX _ I.gp.zM (.inr (.inr rfl)))) (s':=s') (tag':=tag) (rk':=rk') (by rw[deafBehind_idle e4];exact Gl) (cm.vW lG.mem) (O.step lG g I.gp.zM I.gp.Bt I.gp.LY) I.mode (.inr ⟨rfl,p⟩)
  obtain⟨cs,c1,c2⟩:=I.gp.pay;exact⟨cs,(vX _ I.gp.Bt (.inr (.inl rfl))).trans c1,c2⟩
 .have MU:∀ e∈es,e=mk (.read ad)∨e=mk (.write ad):=by
   intro e k;rcases SB with rfl|rfl
   .simp at k;exact .inl k
   .simp at k;exact .inr k
  refine sY I hgo (hm':=u) (λb c=>rfl) (ba _) (λy hy=>.refl ..) (λe k=>?_) (λe k b c _=>?_) (λe k b c hk=>?_) (λe k=>?_) I.gp.pay I.wg (s':={ s1 with w:=w }) (tag':=tag) (rk':=rk') ?_ (z.trans' ) (q.rely z.size) I.mode (.inr ⟨rfl,p⟩)
  .have hW:=I.gp.zM;rcases MU e k with rfl|rfl <;> (rw[ofEvent_mk];show ad.block<_;rw[Zy];exact hW)
  .rcases MU e k with rfl|rfl <;> (rw[ofEvent_mk] at c;simp[MemAct.touch?] at c;subst c;exact .inl ⟨ad,rfl,Zy,by simp⟩)
  .rcases MU e k with rfl|rfl <;> (rw[ofEvent_mk] at c;simp[MemAct.touch?] at c;subst c;cases hk)
  .rcases MU e k with rfl|rfl <;> simp[mk]
  .rw[deafBehind_idle (λe k=>by rcases MU e k with rfl|rfl <;> simp[mk])];exact Gl
theorem gv(I:sX P ty Y N val n T l V R w t u F j D A K d tag rk a s st sm){a':au}{es:Array Event}{tag':CTag}{rk':Rk}{qn Gj:Int}{s1:St}(z:cm s1 { s1 with w:=w })(g:jS Y u F j s1)
  (hgo:aK P ab a w=.go a' w' es) (Dw:Aside Y.Wg w w') (I6:WgAt ty Y.Wg w' qn Gj) (Gk:∀ e∈es,Bk Y.Wg e) (Gl:CS P ty Y N val n T l tag' j rk' (deafBehind d es) a' { s1 with w:=w' }) (vY:Go.ConcN.Mode j D tag' qn Gj)
  (p:phi n (Vc j D) tag'<phi n (Vc j D) tag∨(phi n (Vc j D) tag'=phi n (Vc j D) tag/\Rk.lt rk' rk)) :
  ∃ m₁ ops μ',runT P (crowd R w sl) 0=(.next m₁,ops)/\Fe (Y.base+n) μ' V/\Inv P ty Y N val n T l μ' m₁ (t++ops):=by
 obtain⟨cs,Vz,Pq⟩:=I.gp.pay;have G:cm s1 { s1 with w:=w' }:=g.I1 z (Du.wg Dw);refine sY I hgo (hm':=u) (λb c=>rfl) (by rw[Dw.size];exact ba _) (λy hy=>.wg Dw I.gp.tl.HV I.gp.tl.base (λb o v Z=>(I.gp.tl.ms y hy b o v Z).2.2.1) I.gp.tl.ne) (I4 Gk (by rw[Dw.size];exact I.gp.zM)) (λe k b c u=>?_) (λe k b c hk=>?_) (Bu Gk)
  ⟨cs,(Dw.block _ I.gp.tl.ne).trans Vz,Pq⟩ I6 Gl G.trans' (g.rely G.size) vY p
 .rcases Gk e k with q|q|⟨ad,wr,rfl,ha⟩
  .rw[ofEvent_loc_mark q] at c;cases c
  .rw[ofEvent_loc_mark q] at c;cases c
  .rw[ofEvent_cell] at c;simp only[MemAct.touch?,cV] at c;subst c;exact .inl ⟨ad,rfl,ha,by simp⟩
 .rcases Gk e k with q|q|⟨ad,wr,rfl,ha⟩
  .rw[ofEvent_loc_mark q] at c;cases c
  .rw[ofEvent_loc_mark q] at c;cases c
  .rw[ofEvent_cell] at c;simp only[MemAct.touch?,cV] at c;subst c;cases hk
end
section
variable {P:an}{ty:ar}{Y:Lay}{N:Nat}{val:Nat->Nat->ak}{n:Nat}{T f:au->St->Prop}{l hm':Nat->Nat}{u k:Nat->Mem}{j:Nat}{tag:CTag}{rk:Rk}{d:Nat}{a:au}{s:St}{w w':az}
 {E:Mu} {B:Array au} {sl:Option (Nat×Nat)} {t:Trace} {D:Nat->WD} {A:Nat->Nat} {K:Nat->Rk} {st F:Int}
theorem CS.bound(h:CS P ty Y N val n T f tag j rk d a s):j+pend tag<=n:=by
 cases h <;> simp only[pend] <;> (try simp) <;> omega
omit [Payload] in
theorem iC{S:au->St->Prop}(h:kn (Cx.lead P ty Y.Wg) (Es Y.Wg) S rk a s)(p:cm s { s with w:=w })(H:jS Y l u j s)(live:WgLive ty Y.Wg w) :
  (∃ s',cm s' { s' with w:=w }/\jS Y l u j s'/\S a s')∨∃ s',cm s' { s' with w:=w }/\jS Y l u j s'/\∃ g' s2 es r',aK P ab a w=.go g' s2.w es/\(qG { s' with w:=w } s2 es∨Es Y.Wg { s' with w:=w } s2 es)/\kn (Cx.lead P ty Y.Wg) (Es Y.Wg) S r' g' s2/\Rk.lt r' rk:=by
 rcases h.norm (λs0=>cm s0 { s0 with w:=w }/\jS Y l u j s0) (λs0 s' C hi=>⟨hi.1.ghost C,hi.2.ghost C⟩) (λG=>False.elim G) ⟨p,H⟩ with⟨s',⟨k1,c⟩,z⟩|⟨_,s',⟨k1,c⟩,z⟩
 .exact .inl ⟨s',k1,c,z⟩
 .exact .inr ⟨s',k1,c,z _ ⟨k1,λ_=>live⟩⟩
theorem WS.quits{x a st d:Nat}{r:Rk}{g:au}(h:WS P ty Y N val l u x a st r d g w)(b:st=1):∃ m,QuitsD P m d g:=by
 cases h with
 |am _ _ _=>cases b
 |rel _=>cases b
 |tail _ h=>exact⟨_,h.quits b⟩
theorem WS.small{x a st d:Nat}{r:Rk}{g:au}(h:WS P ty Y N val l u x a st r d g w)(b:st=1):a=0:=by
 cases h with
 |am _ _ _=>cases b
 |rel _=>rfl
 |tail _ h=>rfl
set_option maxHeartbeats 1600000 in
theorem I9(I:sX P ty Y N val n T f E B w t l u j D A K d tag rk a s st F)(hn:n<2147483648)(VG:∀ g s,f g s->eg (Cx.lead P ty Y.Wg) (Es Y.Wg) (AtW1 P ty Y T f) g s)(rK:a.status=.running) :
  ∃ Z ops,runT P (crowd B w sl) 0=(.next Z,ops)/\((∃ hm' k,Fin P Y N val n T hm' k Z (t++ops))∨∃ μ',Fe (Y.base+n) μ' E/\Inv P ty Y N val n T f μ' Z (t++ops)):=by
 have hVj:=Vc_le j D;have I5:=I.gp.tl.base;have live:=I.gp.live;have fin:∀ {X:Prop},(∃ Z ops μ',runT P (crowd B w sl) 0=(.next Z,ops)/\Fe (Y.base+n) μ' E/\Inv P ty Y N val n T f μ' Z (t++ops)) ->
   ∃ Z ops,runT P (crowd B w sl) 0=(.next Z,ops)/\((∃ hm' k,Fin P Y N val n T hm' k Z (t++ops))∨∃ μ',Fe (Y.base+n) μ' E/\Inv P ty Y N val n T f μ' Z (t++ops)) :=
  λ{_} ⟨Z,ops,μ',p,h2,h3⟩=>⟨Z,ops,p,.inr ⟨μ',h2,h3⟩⟩
 have hbound:=I.cs.bound;have cs:=I.cs;have Q:=I.wg;have O:=I.mode;cases cs with
 |@skd r rk g s hr h =>
  rcases iC h I.rely I.lead live with⟨s',k1,c,_,g',J,R⟩|⟨s',k1,c,g',s2,es,r',J,V,R,U⟩
  .obtain⟨r2,R⟩:=R { s' with w:=w } (fY k1 live);exact fin (X:=True) (gv I k1 c (J w) (.refl Y.Wg w) Q bk_dis (.sa1 hr R) (O.reopen ay ay rfl (by simp)) (.inl (by simp only[phi];omega)))
  .exact fin (X:=True) (iB I k1 c J V (.skd hr R) U)
 |@sa1 r rk g s hr h =>
  rcases iC h I.rely I.lead live with⟨s',k1,c,_,W⟩|⟨s',k1,c,g',s2,es,r',J,V,R,U⟩
  .obtain⟨ho,e1,e2,_⟩:=O.open_inv ay;rw[e1,e2] at Q;obtain⟨a',J,r2,R⟩:=W { s' with w:=w } (fY k1 live) (Vc (n-(r+1)) D) (by omega) (by simpa[pend] using Q)
   refine fin (X:=True) (gv I k1 c J (aside_setCell w (stA Y.Wg) _) (Q.setSt _) bk_rw (.ske hr R) ?_ (.inl (by simp only[phi];omega)))
   have e:(((Vc (n-(r+1)) D:Nat):Int)+1)*KK=((Vc (n-(r+1)) D+pend (.sp r 3):Nat):Int)*KK:=by simp[pend]
   rw[e];exact .opn ay ho (by simp)
  .exact fin (X:=True) (iB I k1 c J V (.sa1 hr R) U)
 |@ske r rk g s hr h =>
  rcases iC h I.rely I.lead live with⟨s',k1,c,_,g',J,R⟩|⟨s',k1,c,g',s2,es,r',J,V,R,U⟩
  .obtain⟨r2,R⟩:=R { s' with w:=w } (fY k1 live);exact fin (X:=True) (gv I k1 c (J w) (.refl Y.Wg w) Q bk_en (.sgo hr R) (O.reopen ay ay rfl (by simp)) (.inl (by simp only[phi];omega)))
  .exact fin (X:=True) (iB I k1 c J V (.ske hr R) U)
 |@sgo r rk g s hr h =>
  rcases iC h I.rely I.lead live with⟨s',k1,c,_,W⟩|⟨s',k1,c,g',s2,es,r',J,V,R,U⟩
  .obtain⟨a',child,hsp,_,⟨rc,W5⟩,E3⟩:=W { s' with w:=w } (fY k1 live);obtain⟨ho,e1,e2,_⟩:=O.open_inv ay;rw[e1,e2] at Q;have vZ:=runT_crowd_spawn (P:=P) (sl:=sl) (i:=0) I.a0 (by simpa using hsp)
   rw[I.gp.size] at vZ;have z:jS Y l u (n-(r+1)) { s' with w:=w }:=c.rely k1.size
   let k:=upd u (n-(r+1)) s'.M
   have Zz:∀ y,y<n-(r+1)->k y=u y:=λy hy=>upd_ne u _ (by omega)
   have Xg:k (n-(r+1))=s'.M:=upd_same u _ _;have Qd:cm (St.child { s' with w:=w }) { St.child { s' with w:=w } with w:=w }:=cm.vW k1.mem;have TE:lW l (k (n-(r+1))) (Y.base+(n-(r+1))) (St.child { s' with w:=w }):=by
    refine⟨λb hb=>?_,λb o v hv=>⟨.inr (by rw[Xg];exact hv),(z.M b o v hv).2.2.2.2⟩⟩
    rcases hb with hb|⟨L,hL,_⟩
    .exact hb.elim
    .simp[St.child] at hL
   have Fg:=(I.gp.congr Zz).spawn (a':=a') (x:={ g:=0,fn:=a.frame.fn,pos:=a.frame.place,act:=.go (Y.base+(n-(r+1))) }) (y:={ g:=Y.base+(n-(r+1)),fn:=child.frame.fn,pos:=a.frame.place,act:=.start }) ⟨rfl,rfl⟩ ⟨rfl,rfl⟩
    (λb o v hv=>by rw[Xg] at hv;exact z.M b o v hv) W5 Qd TE
   have eV:Vc (n-(r+1)+1) (upd D (n-(r+1)) ⟨7,0,0⟩)=Vc (n-(r+1)) D+1:=by
    simp only[Vc,sumTo,upd_same];rw[sumTo_upd_out D _ cnt (ba _)];rfl
   have eS:Ssum (n-(r+1)+1) (upd D (n-(r+1)) ⟨7,0,0⟩)=Ssum (n-(r+1)) D+7:=by
    simp only[Ssum,sumTo,upd_same];rw[sumTo_upd_out D _ WD.stage (ba _)]
   have eA:sumTo (n-(r+1)+1) (upd A (n-(r+1)) 1)=sumTo (n-(r+1)) A+1:=by
    have:sumTo (n-(r+1)) (upd A (n-(r+1)) 1)=sumTo (n-(r+1)) A:=sumTo_upd_out A 1 id (i:=n-(r+1)) (j:=n-(r+1)) (ba _);show sumTo (n-(r+1)) (upd A (n-(r+1)) 1)+upd A (n-(r+1)) 1 (n-(r+1))=_;rw[upd_same];exact dc (·+1) this
   have VH:OpenSt (n-(r+1)+1) (upd D (n-(r+1)) ⟨7,0,0⟩):=λi hi=>by
    by_cases e:i=n-(r+1)
    .subst e;rw[upd_same];simp
    .rw[upd_ne D _ e];exact ho i (by omega)
   have VI:((B.setIfInBounds 0 a').push child)[0]?=aa a':=by
    have h0:0<B.size:=by rw[I.gp.size];omega
    rw[q8 (by simpa using h0),<-dm,mO h0]
   have zN:jS Y l k (n-(r+1)+1) { s' with w:=w }:=⟨z.blk,z.M,λy hy b o v hv=>by
    rcases cr y (n-(r+1)) with p|p
    .rw[Zz y p] at hv;exact z.ms y p b o v hv
    .obtain rfl:y=n-(r+1):=by omega
     rw[Xg] at hv;exact hv⟩
   have ej:n-(r+1)+1=n-r:=by omega
   rw[ej] at Fg eV eS eA VH zN;have Xh:∀ tag',pend tag'=0->((Vc (n-(r+1)) D+pend (.sp r 2):Nat):Int)*KK=((Vc (n-r) (upd D (n-(r+1)) ⟨7,0,0⟩)+pend tag':Nat):Int)*KK:=λtag' hp=>by rw[eV,hp];simp[pend]
   cases r with
   |zero =>
    obtain⟨r3,R⟩:=E3;simp only[lu] at Fg eV eS eA VH Xh zN;refine⟨_,_,vZ,.inr ⟨(phi n (Vc n (upd D (n-(0+1)) ⟨7,0,0⟩)) .kd+Ssum n (upd D (n-(0+1)) ⟨7,0,0⟩)+sumTo n (upd A (n-(0+1)) 1),(upd K (Y.base+(n-(0+1))) rc,r3)),by rw[I.mu];exact Prod.Lex.left _ _ (by simp only[phi];omega),
     _,w,sl,l,k,n,_,_,_,0,.kd,r3,a',{ s' with w:=w },_,_,rfl,⟨VI,.kd R,k1.trans',zN,Fg,Q,?_,rfl⟩⟩⟩
    rw[Xh .kd rfl];exact .opn ay VH (by simp)
   |succ r' =>
    obtain⟨r3,R⟩:=E3;refine⟨_,_,vZ,.inr ⟨(phi n (Vc (n-(r'+1)) (upd D (n-(r'+1+1)) ⟨7,0,0⟩)) (.sp r' 5)+Ssum (n-(r'+1)) (upd D (n-(r'+1+1)) ⟨7,0,0⟩)+sumTo (n-(r'+1)) (upd A (n-(r'+1+1)) 1),(upd K (Y.base+(n-(r'+1+1))) rc,r3)),by rw[I.mu];exact Prod.Lex.left _ _ (by simp only[phi];omega),
     _,w,sl,l,k,n-(r'+1),_,_,_,0,.sp r' 5,r3,a',{ s' with w:=w },_,_,rfl,⟨VI,.skd (by omega) R,k1.trans',zN,Fg,Q,?_,rfl⟩⟩⟩
    rw[Xh (.sp r' 5) rfl];exact .opn ay VH (by simp)
  .exact fin (X:=True) (iB I k1 c J V (.sgo hr R) U)
 |kd h =>
  rcases iC h I.rely I.lead live with⟨s',k1,c,_,g',J,R⟩|⟨s',k1,c,g',s2,es,r',J,V,R,U⟩
  .obtain⟨r2,R⟩:=VG _ _ (R { s' with w:=w } (fY k1 live));exact fin (X:=True) (gv I k1 c (J w) (.refl Y.Wg w) Q bk_dis (.w1 R) (O.reopen ay ay rfl (by simp)) (.inl (by simp only[phi];omega)))
  .exact fin (X:=True) (iB I k1 c J V (.kd R) U)
 |w1 h =>
  rcases iC h I.rely I.lead live with⟨s',k1,c,_,W⟩|⟨s',k1,c,g',s2,es,r',J,V,R,U⟩
  .obtain⟨ho,e1,e2,_⟩:=O.open_inv ay;rw[e1,e2] at Q;have hV:=Vc_le n D;obtain⟨a',J,h0,zD⟩:=W { s' with w:=w } (fY k1 live) (Vc n D) (by omega) (by simpa[pend] using Q)
   by_cases hv:Vc n D=0
   .obtain⟨r2,R⟩:=h0 hv;refine fin (X:=True) (gv I k1 c J (.refl Y.Wg w) Q bk_rd (.ke R) ?_ (.inl (by simp only[phi];omega)))
    have e:((Vc n D+pend .w1:Nat):Int)*KK=0:=by rw[hv];simp[pend]
    rw[e];exact .fin ay (allQuit_of ho hv)
   .obtain⟨r2,R⟩:=zD hv;refine fin (X:=True) (gv I k1 c J (.refl Y.Wg w) Q bk_rd (.w2 R) ?_ (.inl (by simp only[phi];omega)))
    have:=O.reopen (tag':=.w2 (Vc n D)) ay ay rfl (λvs e=>by cases e;omega)
    rwa [e1,e2] at this
  .exact fin (X:=True) (iB I k1 c J V (.w1 R) U)
 |@w2 vs rk g s h =>
  rcases iC h I.rely I.lead live with⟨s',k1,c,_,W⟩|⟨s',k1,c,g',s2,es,r',J,V,R,U⟩
  .obtain⟨ho,e1,e2,Qe⟩:=O.open_inv ay;rw[e1,e2] at Q;obtain⟨hle,p⟩:=Qe vs rfl;obtain⟨Xi,TG⟩:=W { s' with w:=w } (fY k1 live) (Vc n D) (by omega) (by simpa[pend] using Q)
   by_cases e:Vc n D=vs
   .obtain⟨a',J,r2,R⟩:=Xi e;exact fin (X:=True) (gv I k1 c J (aside_setCell w (stA Y.Wg) _) (Q.setSt _) bk_rw (.w3 R) (.reg ay ho (by omega)) (.inl (by simp only[phi];omega)))
   .obtain⟨a',J,R⟩:=TG e;obtain⟨r2,R⟩:=VG _ _ R;refine fin (X:=True) (gv I k1 c J (.refl Y.Wg w) Q bk_rd (.w1 R) ?_ (.inl (by simp only[phi];omega)))
    have:=O.reopen (tag':=.w1) ay ay rfl (by simp)
    rwa [e1,e2] at this
  .exact fin (X:=True) (iB I k1 c J V (.w2 R) U)
 |@w3 rk g s h =>
  rcases iC h I.rely I.lead live with⟨s',k1,c,lX⟩|⟨s',k1,c,g',s2,es,r',J,V,R,U⟩
  .obtain⟨_,Te,W⟩:=lX;obtain⟨MV,TH⟩:=W { s' with w:=w } (fY k1 live);obtain⟨x,hx⟩:=Rk.I2 s rk;have TJ:AtW3 P ty Y T a { s' with w:=w }:=AtW3.rely ⟨rK,Te,W⟩ (fY k1 live);generalize st=TB at O Q;generalize F=sm0 at O Q;cases O with
   |opn p _ _=>exact p.elim
   |reg p h2 h3=>exact fin (X:=True) (gv I k1 c (MV ⟨_,Q⟩) (.refl Y.Wg w) Q (by simp) (.blk (rk:=x) TJ) (.reg ay h2 h3) (.inr ⟨rfl,hx⟩))
   |last L p h2 h3 h4=>exact fin (X:=True) (gv I k1 c (MV ⟨_,Q⟩) (.refl Y.Wg w) Q (by simp) (.blk (rk:=x) TJ) (.last L ay h2 h3 h4) (.inr ⟨rfl,hx⟩))
   |sema h2 =>
    obtain⟨a',J,r2,R⟩:=TH Q;exact fin (X:=True) (gv I k1 c J (aside_setCell w (smA Y.Wg) _) (Q.setSm 0) bk_sem (.w4 R) (.fin ay h2) (.inl (by simp only[phi];omega)))
   |fin p _=>exact p.elim
  .exact fin (X:=True) (iB I k1 c J V (.w3 R) (Rk.Fc U))
 |blk h=>simp at rK
 |w4 h =>
  rcases iC h I.rely I.lead live with⟨s',k1,c,_,W⟩|⟨s',k1,c,g',s2,es,r',J,V,R,U⟩
  .obtain⟨hq,e1,e2⟩:=O.fin_inv ay;rw[e1,e2] at Q;obtain⟨a',J,r2,R⟩:=W { s' with w:=w } (fY k1 live) Q;exact fin (X:=True) (gv I k1 c J (.refl Y.Wg w) Q bk_rd (.ke R) (.fin ay hq) (.inl (by simp only[phi];omega)))
  .exact fin (X:=True) (iB I k1 c J V (.w4 R) U)
 |ke h =>
  rcases iC h I.rely I.lead live with⟨s',k1,c,_,g',J,R⟩|⟨s',k1,c,g',s2,es,r',J,V,R,U⟩
  .obtain⟨r2,R⟩:=R { s' with w:=w } (fY k1 live);obtain⟨hq,e1,e2⟩:=O.fin_inv ay;rw[e1,e2] at Q;exact fin (X:=True) (gv I k1 c (J w) (.refl Y.Wg w) Q bk_en (.acq R) (.fin ay hq) (.inl (by simp only[phi];omega)))
  .exact fin (X:=True) (iB I k1 c J V (.ke R) U)
 |acq h =>
  rcases iC h I.rely I.lead live with⟨s',k1,c,_,a',J,R⟩|⟨s',k1,c,g',s2,es,r',J,V,R,U⟩
  .obtain⟨hq,e1,e2⟩:=O.fin_inv ay;have vZ:=runT_crowd_go (P:=P) (sl:=sl) (i:=0) I.a0 (by simpa using J w)
   have ev:MemOp.ofEvents 0 a.frame.fn a.frame.place #[mk (.acquire (stA Y.Wg))]=#[{ g:=0,fn:=a.frame.fn,pos:=a.frame.place,act:=.mark (.acquire (stA Y.Wg)) }]:=by rw[ofEvents_eq];simp[ofEvent_mk]
   have wa:=I.gp.step0 (g:=a) (g':=a') (fn:=a.frame.fn) (pos:=a.frame.place) (es:=#[mk (.acquire (stA Y.Wg))]) (hm':=l) (w':=w) (λ_ _=>rfl) (ba _) (λy _=>.refl ..) (by simp;exact I.gp.zM) (by intro e he b hb;simp at he;subst he;simp[mk,aM,MemAct.touch?] at hb) (by intro e he b hb;simp at he;subst he;simp[mk,aM,MemAct.touch?] at hb) (by intro e he;simp at he;subst he;simp[mk]) I.gp.pay live
   have hd0:deafBehind 0 #[mk (.acquire (stA Y.Wg))]=0:=rfl;have hy:(t++#[({ g:=0,fn:=a.frame.fn,pos:=a.frame.place,act:=.mark (.acquire (stA Y.Wg)) }:MemOp)])[t.size]?=aa { g:=0,fn:=a.frame.fn,pos:=a.frame.place,act:=.mark (.acquire (stA Y.Wg)) }:=by simp
   have TK:=wa.tl.W3 (by rw[wa.deaf0];rfl) (wa.norel _) (q:=t.size) (by rw[ev,act?_of hy]) (by rw[ev];simp[Trace.g?]) (by rw[ev];exact⟨0,by simp[Trace.g?],by rw[deaf_old (ba _)];exact I.gp.deaf0⟩) (λx hx=>by
    obtain⟨r,hr⟩:=I.gp.rel x hx (by rw[hq x hx];omega)
    exact⟨r,hr.appOther g_of_ofEvents (by omega),lt_of_act? hr.act⟩)
   have C1:∃ q,Leavers P (t++MemOp.ofEvents 0 a.frame.fn a.frame.place #[mk (.acquire (stA Y.Wg))]) ((B.map (woken P a a' w)).setIfInBounds 0 a') q:=by
    have each:∀ i,∃ m,∀ g,0<i->((B.map (woken P a a' w)).setIfInBounds 0 a')[i]?=aa g->QuitsD P m (Deaf (t++MemOp.ofEvents 0 a.frame.fn a.frame.place #[mk (.acquire (stA Y.Wg))]) i) g:=by
     intro i;cases OC:((B.map (woken P a a' w)).setIfInBounds 0 a')[i]? with
     |none=>exact⟨0,λg _ C=>by cases C⟩
     |some g =>
      rcases jF i with e|Ja
      .exact⟨0,λg' h=>by omega⟩
      .rcases cr i Y.base with U|Pv
       .obtain⟨m,_,TM⟩:=wa.lv i g Ja U OC;exact⟨m,λg' _ Dv=>by cases Dv;exact TM⟩
       .obtain⟨x,rfl⟩:∃ x,i=Y.base+x:=⟨i-Y.base,by omega⟩
        have hx:x<n:=by
         have:=(gE.1 OC).1;rw[wa.size] at this;omega
        obtain⟨g0,Fb,Xj⟩:=wa.wk x hx;rw[OC] at Fb;cases Fb;obtain⟨m,TM⟩:=Xj.quits (hq x hx);refine⟨m,λg' _ Dv=>?_⟩
        cases Dv;rw[wa.deafW x hx];exact TM
    exact⟨λi=>Classical.choose (each i),λi g hi C=>rb (each i) g hi C,λi hi=>wa.above i (by rw[wa.size] at hi;exact hi)⟩
   obtain⟨q,C1⟩:=C1;refine⟨_,_,vZ,.inl ⟨l,u,⟨_,w,sl,a',s',q,rfl,Go.ConcN.get_map_set_same _ _ _ (by rw[I.gp.size];omega),wa.size,R { s' with w:=w } (fY k1 live),k1,c,C1,TK,wa.norel,I.gp.pay,λx hx i hi=>?_,I.gp.Bt,I.gp.zM,I.gp.LY⟩⟩⟩
   obtain⟨g0,_,Xj⟩:=I.gp.wk x hx;rcases jF i with e|Ja
   .subst e;exact I.gp.Br x hx (by rw[hq x hx];omega)
   .exact I.gp.xC x hx (Xj.small (hq x hx)) i Ja hi
  .exact fin (X:=True) (iB I k1 c J V (.acq R) U)
end
end Go.AM
namespace Go.AM
open Go.Conc
open Go.ConcN (WD CTag Vc Ssum pend phi cnt WgLive PayAt Has WSit RelBy sumTo upd upd_same upd_ne exists_counted)
open Go.ConcR (KK WgAt stA smA Payload)
variable [Payload]
section
variable {P:an}{ty:ar}{Y:Lay}{N:Nat}{val:Nat->Nat->ak}{n:Nat}{T c:au->St->Prop}{p:Nat->Nat}{y:Nat->Mem}{j:Nat}{tag:CTag}{rk:Rk}{d:Nat}{a:au}{s:St}{w:az}
 {f:Mu} {l:Array au} {sl:Option (Nat×Nat)} {t:Trace} {D:Nat->WD} {A:Nat->Nat} {K:Nat->Rk} {st u:Int}
theorem WS.running_of{x a st d:Nat}{r:Rk}{g:au}(h:WS P ty Y N val p y x a st r d g w)(b:st≠1):g.status=.running:=by
 cases h with
 |am h1 _ _=>exact h1.run λ_ _ x=>x.1
 |rel h1=>exact Goes.running (λ_ _ x=>x.1) w (Go.ConcN.RW.refl w) h1
 |tail _ h1=>exact h1.running_of b
theorem someone_runs(I:sX P ty Y N val n T c f l w t p y j D A K d tag rk a s st u):∃ (i:Nat)(g:au),l[i]?=aa g/\g.status=.running:=by
 rcases I.cs.status with⟨e,_⟩|⟨_,rfl⟩
 .exact⟨0,a,I.a0,e⟩
 .have b:=I.mode;cases b with
  |opn h1 _ _=>exact h1.elim
  |reg _ _ k =>
   obtain⟨i,hi,o⟩:=exists_counted k;obtain⟨g,h,e⟩:=I.gp.wk i hi;exact⟨_,g,h,e.running_of (by omega)⟩
  |last L _ m k _ =>
   obtain⟨g,h,e⟩:=I.gp.wk L m;exact⟨_,g,h,e.running_of (by omega)⟩
  |fin h1 _=>exact h1.elim
theorem all_awake(I:sX P ty Y N val n T c f l w t p y j D A K d tag rk a s st u):∀ g∈l,awake g:=by
 intro g q B;obtain⟨i,hi⟩:=Array.mem_iff_getElem?.1 q;rcases jF i with rfl|e
 .rw[I.a0] at hi;cases hi;rcases I.cs.status with⟨k,_⟩|⟨k,_⟩ <;> rw[k] <;> simp
 .rcases cr i Y.base with o|v
  .obtain⟨m,_,z⟩:=I.gp.lv i g e o hi;rcases z.status with h|h <;> rw[h] <;> simp
  .obtain⟨x,rfl⟩:∃ x,i=Y.base+x:=⟨i-Y.base,by omega⟩
   have r:x<j:=by
    have:=(gE.1 hi).1;rw[I.gp.size] at this;omega
   obtain⟨g',b,k⟩:=I.gp.wk x r;rw[hi] at b;cases b;rcases k.status with h|h <;> rw[h] <;> simp
theorem sX.at(I:sX P ty Y N val n T c f l w t p y j D A K d tag rk a s st u)(b:Nat):sX P ty Y N val n T c f l (w.at b) t p y j D A K d tag rk a s st u :=
 ⟨I.a0,I.cs,I.rely.more (ba _) (λ_ _=>rfl) (λ_ _ _ _ h=>h) rfl rfl rfl,I.lead,I.gp.at b,I.wg,I.mode,I.mu⟩
theorem Dx(I:sX P ty Y N val n T c f l w t p y j D A K d tag rk a s st u){i:Nat}(hi:0<i)(r:i<Y.base){g:au}(E:l[i]?=aa g)(b:g.status=.running) :
  ∃ o ops μ',runT P (crowd l w sl) i=(.next o,ops)/\Fe (Y.base+n) μ' f/\Inv P ty Y N val n T c μ' o (t++ops):=by
 obtain⟨m,H,F⟩:=I.gp.lv i g hi r E;cases m with
 |zero=>rw[F.1] at b;cases b
 |succ m =>
  rcases F with⟨G,_⟩|⟨_,g',es,C,x,z⟩
  .rw[G] at b;cases b
  .have B:(i==0)=ae:=by simp;omega
   have q:=runT_crowd_go (P:=P) (sl:=sl) (i:=i) E (by rw[B];exact x w)
   obtain⟨tag',rk',v,h,J⟩:=I.cs.wokenBy g g' w;have e:Go.ConcN.Mode j D tag' st u:=I.mode.retag h;refine⟨_,_,(phi n (Vc j D) tag'+Ssum j D+sumTo j A,(upd K i (Rk.nat m),rk')),q,?_,_,w,sl,p,y,j,D,A,_,d,tag',rk',woken P g g' w a,s,st,u,rfl,
    ⟨by rw[Go.ConcN.get_map_set _ _ _ _ (by omega),I.a0];rfl,v,I.rely,I.lead,I.gp.leave hi r C z,I.wg,e,rfl⟩⟩
   rw[I.mu,Go.ConcN.phi_retag n _ h];exact Prod.Lex.right _ (Prod.Lex.left _ _ ⟨i,by omega,by rw[upd_same,H];exact Rk.Dt _ s,λk L=>upd_ne K _ L⟩)
theorem Jb(H:n<2147483648)(C:∀ g s,c g s->eg (Cx.lead P ty Y.Wg) (Es Y.Wg) (AtW1 P ty Y T c) g s){m:Machine}(h:Inv P ty Y N val n T c f m t) :
  ∃ b ops,stepT P m=(.next b,ops)/\((∃ hm' MW,Fin P Y N val n T hm' MW b (t++ops))∨∃ e,Fe (Y.base+n) e f/\Inv P ty Y N val n T c e b (t++ops)):=by
 obtain⟨l,w,sl,p,y,j,D,A,K,Q,tag,rk,a,s,st,u,rfl,I⟩:=h;obtain⟨i,g,J,o,v,k,q⟩:=crowd_pick (P:=P) (w:=w) (sl:=sl) (all_awake I) (someone_runs I);rw[q];have z:=I.at J;have M:j<=n:=by have:=I.cs.bound;omega
 rcases jF i with rfl|r
 .rw[I.a0] at v;cases v;exact I9 (sl:=o) z H C k
 .rcases cr i Y.base with F|O
  .obtain⟨b,ops,e,B,G,E⟩:=Dx (sl:=o) z r F v k;exact⟨b,ops,B,.inr ⟨e,G,E⟩⟩
  .obtain⟨x,rfl⟩:∃ x,i=Y.base+x:=⟨i-Y.base,by omega⟩
   have L:x<j:=by
    have:=(gE.1 v).1;rw[I.gp.size] at this;omega
   obtain⟨b,ops,e,B,G,E⟩:=stepWorker (sl:=o) z H M I.cs.bound L v k;exact⟨b,ops,B,.inr ⟨e,G,E⟩⟩
theorem Gm(v:n<2147483648)(o:∀ g s,c g s->eg (Cx.lead P ty Y.Wg) (Es Y.Wg) (AtW1 P ty Y T c) g s):∀ (f:Mu)(m:Machine)(t:Trace),Inv P ty Y N val n T c f m t ->
  ∃ M k i hm' MW,runNT P M m t=(.next k,i)/\Fin P Y N val n T hm' MW k i:=by
 intro f
 induction (Qb (Y.base+n)).apply f with
 |intro f _ B =>
  intro m t h;obtain⟨b,ops,r,e⟩:=Jb v o h;rcases e with⟨hm',MW,e⟩|⟨q,e,x⟩
  .exact⟨1,b,t++ops,hm',MW,by simp[runNT,r],e⟩
  .obtain⟨M,k,i,hm',MW,k1,z⟩:=B q e b (t++ops) x;exact⟨M+1,k,i,hm',MW,by simp only[runNT,r];exact k1,z⟩
theorem SP.fork{g:au}{s s0:St}{T':au->St->Prop}(kc:Nat)(Zt:0<kc)(Wg C:Nat)(hn:n<2147483648)(Z:C≠Wg)(hg:eW s s0)(rK:g.status=.running)
  (hC:∃ L∈s.β,C∈L.bs) (hW:∃ L∈s.β,Wg∈L.bs) (H:∀ b,(s.own b∨∃ L∈s.β,b∈L.bs)->b<s.w.heap.size)
  (h0:∀ b,(b=C∨b=Wg)->¬s0.own b/\(∀ L∈s0.β,b∉L.bs)/\∀ o,s0.M b o=af) (X:WgAt ty Wg s.w 0 0) (I8:PayAt C N s.w)
  (h:∀ Y:Lay,Y.Wg=Wg->Y.C=C->Y.kc=kc->∃ T c,(∀ g s,c g s->eg (Cx.lead P ty Y.Wg) (Es Y.Wg) (AtW1 P ty Y T c) g s)/\Spawns P ty Y N val n c n g s0 /\
   ∀ g' s',T g' s'->gC s'->PayAt C N s'.w->(∀ x,x<n->∀ i,i<kc->s'.w.cell? ⟨C,kc*x+i,af⟩=aa (val x i))->C<s'.w.heap.size->(∀ b,(b=C∨b=Wg)->¬s'.own b/\(∀ L∈s'.β,b∉L.bs)/\∀ o,s'.M b o=af) ->
    ∃ s2,T' g' s2/\s2.w=s'.w/\gC s2/\∀ Sh:Nat->Prop,Clear Sh s'->¬Sh C->Clear Sh s2):SP P g s T':=by
 intro Sh l sl t q p ha m hP hc Qa;have Q:¬Sh C:=λhs=>let ⟨L,m,hb⟩:=hC;hc.β C hs L m hb
 have Xk:¬Sh Wg:=λhs=>let ⟨L,m,hb⟩:=hW;hc.β Wg hs L m hb
 have Qg:=H C (.inr hC);have Xl:=H Wg (.inr hW);have Ja:1<=l.size:=(gE.1 ha).1
 let Y:Lay:={ Sh:=Sh,T0:=t.size,Wg:=Wg,C:=C,base:=l.size,kc:=kc }
 obtain⟨T,c,VG,z,Xm⟩:=h Y rfl rfl rfl;have W:=hc.ghost hg;have MU:gC s0:=.ghost hg;have E:jS Y (λ_=>0) (λ_ _ _=>af) 0 s0:=by
  refine⟨λb hb=>⟨rfl,λe=>?_,λe=>?_,λe=>?_,by rw[hg.w];exact H b (hg.blk b hb)⟩,λb o v O=>⟨rfl,λe=>?_,λe=>?_,λe=>?_,gC.lt MU O⟩,λx B=>absurd B (jm x)⟩
  .obtain⟨q1,q2,_⟩:=h0 b (.inl e);rcases hb with hb|⟨L,m,hb⟩
   .exact q1 hb
   .exact q2 L m hb
  .obtain⟨q1,q2,_⟩:=h0 b (.inr e);rcases hb with hb|⟨L,m,hb⟩
   .exact q1 hb
   .exact q2 L m hb
  .rcases hb with hb|⟨L,m,hb⟩
   .exact W.own b e hb
   .exact W.β b e L m hb
  .rw[(h0 b (.inl e)).2.2 o] at O;cases O
  .rw[(h0 b (.inr e)).2.2 o] at O;cases O
  .rw[W.M b e o] at O;cases O
 have R:Com P ty Y N val (λ_=>0) (λ_ _ _=>af) 0 l s.w t (λ_=>⟨0,0,0⟩) (λ_=>0) (λi=>Rk.nat (q i)) 0 :=
  ⟨rfl,λi g hi _ OC=>⟨q i,rfl,m.old i g hi OC⟩,m.above,λx B=>absurd B (jm x),TL.start hP rfl Ja Z Xk Q,Qa,hP.hears,λx B=>absurd B (jm x),λx B=>absurd B (jm x),λx B=>absurd B (jm x),λx B=>absurd B (jm x),
   I8,⟨_,_,X⟩,Xl,Qg,hc.lt,Zt,λx B=>absurd B (jm x)⟩
 have S:cm s0 { s0 with w:=s.w }:=by
  have:=cm.vW MU;rw[<-hg.w];exact this
 have G:∃ f,Inv P ty Y N val n T c f (crowd l s.w sl) t:=by
  cases n with
  |zero =>
   obtain⟨r,z⟩:=z;exact⟨_,l,s.w,sl,_,_,0,_,_,_,0,.kd,r,g,s0,_,_,rfl,⟨ha,.kd z,S,E,R,X,by have:=Go.ConcN.Mode.opn (j:=0) (D:=λ_=>(⟨0,0,0⟩:WD)) (tag:=.kd) ay (λi hi=>absurd hi (jm i)) (by simp);simpa[Vc,sumTo,pend] using this,rfl⟩⟩
  |succ n =>
   obtain⟨r,z⟩:=z;have VJ:CS P ty Y N val (n+1) T c (.sp n 5) (n+1-(n+1)) r 0 g s0:=.skd (Nat.lt_succ_self n) z;rw[pJ] at VJ;exact⟨_,l,s.w,sl,_,_,0,_,_,_,0,.sp n 5,r,g,s0,_,_,rfl,⟨ha,VJ,S,E,R,X,by have:=Go.ConcN.Mode.opn (j:=0) (D:=λ_=>(⟨0,0,0⟩:WD)) (tag:=.sp n 5) ay (λi hi=>absurd hi (jm i)) (by simp);simpa[Vc,sumTo,pend] using this,rfl⟩⟩
 obtain⟨f,G⟩:=G;obtain⟨M,m',t',hm',MW,U,⟨gs',w',sl',a',I,q',rfl,VI,_,hT,C3,Qh,hU,hP',Xn,hp',J,hlC,hlW,hlS⟩⟩:=Gm hn VG f _ _ G;have V:jS Y hm' MW n { I with w:=w' }:=Qh.rely C3.size;have F:∀ b,(b=C∨b=Wg∨Sh b)->¬I.own b/\(∀ L∈I.β,b∉L.bs)/\∀ o,I.M b o=af:=by
  intro b hb;have key:∀ x,(hm' x=0/\x≠Y.C/\x≠Y.Wg/\¬Y.Sh x/\x<w'.heap.size)->x≠b:=by
   rintro x ⟨_,h1,h2,h3,_⟩ rfl;rcases hb with e|e|e
   .exact h1 e
   .exact h2 e
   .exact h3 e
  refine⟨λho=>key b (V.blk b (.inl ho)) rfl,λL m LS=>key b (V.blk b (.inr ⟨L,m,LS⟩)) rfl,λo=>?_⟩
  cases hM:I.M b o with
  |none=>rfl
  |some v=>exact absurd rfl (key b (V.M b o v hM))
 obtain⟨s2,hT2,Qe,TM,Pq⟩:=Xm a' { I with w:=w' } hT (λb o v O=>C3.mem b o v O) hp' J hlC (λb hb=>F b (hb.elim .inl λe=>.inr (.inl e)))
 have C2:Clear (λb=>Sh b∨b=Wg) { I with w:=w' }:=by
  have k:∀ b,(Sh b∨b=Wg)->¬I.own b/\(∀ L∈I.β,b∉L.bs)/\∀ o,I.M b o=af:=λb hb=>F b (hb.elim (λe=>.inr (.inr e)) λe=>.inr (.inl e))
  exact⟨λb hb=>(k b hb).1,λb hb=>(k b hb).2.1,λb hb=>(k b hb).2.2,λb hb=>hb.elim (hlS b) λe=>by rw[e];exact hlW⟩
 refine⟨M,_,gs',a',s2,sl',t',q',by rw[Qe];exact U,TM,VI,hU,by rw[Qe];exact hP',Pq _ C2 (λe=>e.elim Q λe=>Z e),Xn,hT2⟩
end
end Go.AM
namespace Go.AM
open Go.Conc Go.RowKit Go.Conc.Lib Go.ConcR.Gen
open Go.ConcN (WgLive)
open Go.ConcR (KK WgAt stA smA rd wr mk DC0)
variable {L:WgLink}
section
variable (P:an)(R:az->az->Prop)(L:WgLink)(Wg:Nat)(a:au)
def XG(g:au)(_:az):Prop:=g.status=.running/\∃ g',(∀ w,aK P ab g w=.go g' w #[mk .enable])/\∀ w1,WgLive L.tWg Wg w1->∃ m,Goes P ab R DC0 (λg _=>g=a) m g' w1
def GRd(g:au)(_:az):Prop:=g.status=.running/\∃ g' ad,ad.block=Wg/\(∀ w,aK P ab g w=.go g' w #[mk (.read ad)])/\∀ w1,WgLive L.tWg Wg w1->∃ m,Goes P ab R DC0 (XG P R L Wg a) m g' w1
def ZL(g:au)(w:az):Prop:=g.status=.running/\∀ v:Nat,v<2147483647->WgAt L.tWg Wg w (v*KK) 0 ->
 ∃ g',aK P ab g w=.go g' (w.setCell (stA Wg) (.int .u64 ((v+1)*KK))) #[rd (stA Wg),wr (stA Wg)]/\∃ m,Goes P ab R DC0 (λg w=>GRd P R L Wg a g w∨XG P R L Wg a g w) m g' (w.setCell (stA Wg) (.int .u64 ((v+1)*KK)))
def GKd(g:au)(_:az):Prop:=g.status=.running/\∃ g',(∀ w,aK P ab g w=.go g' w #[mk .disable])/\∀ w1,WgLive L.tWg Wg w1->∃ m,Goes P ab R DC0 (ZL P R L Wg a) m g' w1
end
set_option maxRecDepth 100000 in
set_option maxHeartbeats 2000000 in
theorem M9{P:an}(H:WgLib P L){R:az->az->Prop}{Wg:Nat}(c:∀ {w w1},WgLive L.tWg Wg w->R w w1->WgLive L.tWg Wg w1){b₀:aQ}{a₀:Act}{ops₀:Array av}{i₀:Nat}{rest₀:List Nat}{k₀:List Item}{cs:List aQ}
  (w:az) (b:WgLive L.tWg Wg w) :
  Goes P ab R DC0 (GKd P R L Wg (G (b₀.at (a₀.put ((ops₀[i₀]?).bind (·.dst)) (.tuple #[])) (.inRegion ops₀ rest₀::k₀)) cs)) 12
   (G ((base L.add).at ⟨#[.pointer (aa ⟨Wg,0,af⟩),.int .i64 1,aj,aj,aj,aj,aj,aj,aj,aj,aj,aj,aj,aj,aj,aj,aj,aj,aj,aj,aj,aj,aj,aj,aj,aj,aj,aj,aj,aj,aj,aj,aj,aj,aj,aj,aj,aj,aj,aj,aj,aj,aj,aj,aj,aj,aj,aj,aj,aj,aj,aj,aj,aj,aj,aj,aj,aj,aj,aj,aj,aj,aj,aj,aj,aj,aj,aj,aj,aj,aj,aj,aj,aj,aj,aj,aj,aj,aj,aj,aj,aj,aj,aj,aj,aj,aj,aj,aj,aj,aj,aj,aj,aj,aj,aj,aj,aj,aj,aj,aj,aj,aj,aj,aj,aj,aj,aj,aj,aj,aj,aj,aj,aj,aj,aj,aj],[]⟩ [.code (body_add L)]) (b₀.at a₀ (.inRegion ops₀ (i₀::rest₀)::k₀)::cs)) w:=by
 lib_facts
 simp only[body_add,addFn,dG]
 repeat (u_c aD c b)
 u_cond ab c b
 repeat (u_c aD c b)
 u_reg c b
 u_op c b
 u_op c b
 u_c aC c b
 repeat (u_c aD c b)
 u_cond ae c b
 u_c stepG_skip c b
 repeat (u_c aD c b)
 u_reg c b
 refine Goes.stop (λm i=>?_)
 refine⟨rfl,_,λw=>stepG_mark0 .disable (by simp) rfl rfl (by k_ne) rfl H.f_disable (x_disable_n L) (x_disable_b L) (x_disable_x L) (x_disable_f L),λw b=>?_⟩
 clear i;refine⟨40,?_⟩
 walk_nrm
 u_c aC c b
 repeat (u_c aD c b)
 u_reg c b
 u_defer c b
 u_c aC c b
 repeat (u_c aD c b)
 u_reg c b
 u_op c b
 u_c aC c b
 repeat (u_c aD c b)
 u_reg c b
 u_bub c b
 u_c aC c b
 repeat (u_c aD c b)
 u_cond ae c b
 u_c stepG_skip c b
 repeat (u_c aD c b)
 u_reg c b
 u_op c b
 u_op c b
 u_op c b
 u_op c b
 u_op c b
 u_op c b
 u_call H.f_uAdd (nm_uAdd L) uAddFn c b
 repeat (u_c aD c b)
 u_reg c b
 u_op c b
 u_c aC c b
 repeat (u_c aD c b)
 u_reg c b
 u_op c b
 u_op c b
 u_op c b
 u_op c b
 refine Goes.stop (λf e=>?_)
 replace b:=c b e
 clear e;refine⟨rfl,λv u j=>?_⟩
 have l:KK=4294967296:=rfl;have o:IntKind.u64.wrap ((v:Int)*KK+4294967296)=((v:Int)+1)*KK:=by rw[IntKind.wrap_u64];simp only[l];omega
 refine⟨_,(stepG_add_atomic rfl rfl (by k_ne) rfl H.f_addU64 (x_addU64_n L) (x_addU64_b L) (x_addU64_x L) .u64 (x_addU64_f L) rfl rfl j.cellSt (j.thaw 0)).trans (by rw[o];rfl),110,?_⟩
 replace b:WgLive L.tWg Wg (f.setCell (stA Wg) (.int .u64 (((v:Int)+1)*KK))):=⟨_,_,j.setSt _⟩
 clear j
 walk_nrm
 u_op c b
 u_c aC c b
 u_c stepG_ret' c b
 u_leave1 H.f_uAdd c b
 u_op c b
 u_c aC c b
 have s:bits .and .u64 (((v:Int)+1)*4294967296) 2147483648=0:=by
  have:=Go.ConcN.st_flag (v+1) 0 (by omega) (by omega)
  simpa using this
 have x:bits .and .u64 (((v:Int)+1)*4294967296) 2147483647=0:=by
  have:=Go.ConcN.st_waiters (v+1) 0 (by omega) (by omega)
  simpa using this
 have r:((v:Int)+1+2147483648) % 4294967296-2147483648=(v:Int)+1:=by omega
 have t:¬((v:Int)+1<0):=by omega
 have q:(0:Int)<(v:Int)+1:=by omega
 repeat (u_c aD c b)
 u_reg c b
 u_op c b
 u_op c b
 u_op c b
 u_op c b
 u_skip c b
 u_skip c b
 u_op c b
 u_c aC c b
 repeat (u_c aD c b)
 u_cond ae c b
 u_c stepG_skip c b
 repeat (u_c aD c b)
 u_reg c b
 u_op c b
 u_op c b
 u_op c b
 u_op c b
 u_c aC c b
 repeat (u_c aD c b)
 u_reg c b
 u_op c b
 u_op c b
 u_op c b
 u_op c b
 u_c aC c b
 by_cases k:(v:Int)+1=1
 .repeat (u_c aD c b)
  u_reg c b
  u_op c b
  u_op c b
  u_op c b
  u_op c b
  u_op c b
  u_op c b
  u_op c b
  u_op c b
  u_op c b
  u_op c b
  u_c aC c b
  repeat (u_c aD c b)
  u_cond ab c b
  repeat (u_c aD c b)
  u_reg c b
  u_op c b
  u_op c b
  u_op c b
  u_conv H.underlying_tPU32 H.room_tU32 (Go.ConcN.Gen.WgLive.cell1 b).choose_spec c b
  refine Goes.stop (λn h=>.inl ?_)
  clear h;refine⟨rfl,_,⟨Wg,1,af⟩,rfl,λw=>stepG_markAt .read (by simp) rfl rfl (by k_ne) rfl H.f_raceRead (x_raceRead_n L) (x_raceRead_b L) (x_raceRead_x L) (x_raceRead_f L) (ad:=⟨Wg,1,af⟩) (by simp[Act.eval]),λw b=>⟨50,?_⟩⟩
  walk_nrm
  u_c aC c b
  repeat (u_c aD c b)
  u_reg c b
  u_op c b
  u_op c b
  u_c aC c b
  repeat (u_c aD c b)
  u_cond ae c b
  u_c stepG_skip c b
  repeat (u_c aD c b)
  u_reg c b
  u_op c b
  u_op c b
  u_op c b
  u_skip c b
  u_skip c b
  u_op c b
  u_op c b
  u_skip c b
  u_skip c b
  u_skip c b
  u_skip c b
  u_op c b
  u_c aC c b
  repeat (u_c aD c b)
  u_cond ae c b
  u_c stepG_skip c b
  repeat (u_c aD c b)
  u_reg c b
  u_op c b
  u_op c b
  u_op c b
  u_skip c b
  u_skip c b
  u_op c b
  u_c aC c b
  repeat (u_c aD c b)
  u_cond ab c b
  u_c stepG_ret' c b
  refine Goes.stop (λg d=>?_)
  clear d;refine⟨rfl,_,λw=>stepG_unwind_entry (v:=.tuple #[]) (evs:=#[mk .enable]) rfl H.f_enable (x_enable_n L) (x_enable_b L) (x_enable_x L) (x_enable_f L) (by simp[Extern.Race.none_]) (by simp[mk]) (by simp[mk]),λw b=>⟨1,?_⟩⟩
  u_leave0 H.f_add c b
  exact Goes.stop λ_ _=>rfl
 .have p:((v:Int)+1==1)=ae:=by simpa using k
  repeat (u_c aD c b)
  u_reg c b
  u_op c b
  u_op c b
  u_op c b
  u_op c b
  u_op c b
  u_op c b
  u_op c b
  u_op c b
  u_op c b
  u_op c b
  u_c aC c b
  repeat (u_c aD c b)
  u_cond ae c b
  u_c stepG_skip c b
  repeat (u_c aD c b)
  u_reg c b
  u_op c b
  u_op c b
  u_c aC c b
  repeat (u_c aD c b)
  u_cond ae c b
  u_c stepG_skip c b
  repeat (u_c aD c b)
  u_reg c b
  u_op c b
  u_op c b
  u_op c b
  u_skip c b
  u_skip c b
  u_op c b
  u_op c b
  u_skip c b
  u_skip c b
  u_skip c b
  u_skip c b
  u_op c b
  u_c aC c b
  repeat (u_c aD c b)
  u_cond ae c b
  u_c stepG_skip c b
  repeat (u_c aD c b)
  u_reg c b
  u_op c b
  u_op c b
  u_op c b
  u_skip c b
  u_skip c b
  u_op c b
  u_c aC c b
  repeat (u_c aD c b)
  u_cond ab c b
  u_c stepG_ret' c b
  refine Goes.stop (λg d=>.inr ?_)
  clear d;refine⟨rfl,_,λw=>stepG_unwind_entry (v:=.tuple #[]) (evs:=#[mk .enable]) rfl H.f_enable (x_enable_n L) (x_enable_b L) (x_enable_x L) (x_enable_f L) (by simp[Extern.Race.none_]) (by simp[mk]) (by simp[mk]),λw b=>⟨1,?_⟩⟩
  u_leave0 H.f_add c b
  exact Goes.stop λ_ _=>rfl
end Go.AM
namespace Go.AM
open Go.Conc Go.RowKit Go.Conc.Lib Go.ConcR.Gen
open Go.ConcN (WgLive)
open Go.ConcR (KK WgAt stA smA rd wr mk DC0)
section
variable (P:an)(R:az->az->Prop)(L:WgLink)(Wg:Nat)(a:au)(b:au->Prop)
def T5(g:au)(_:az):Prop:=g.status=.running/\∃ g',(∀ w,aK P ab g w=.go g' w #[mk (.acquire (stA Wg))])/\∀ w1,WgLive L.tWg Wg w1->∃ m,Goes P ab R DC0 (λg _=>g=a) m g' w1
def XH(g:au)(_:az):Prop:=g.status=.running/\∃ g',(∀ w,aK P ab g w=.go g' w #[mk .enable])/\∀ w1,WgLive L.tWg Wg w1->∃ m,Goes P ab R DC0 (T5 P R L Wg a) m g' w1
def ZM(g:au)(w:az):Prop:=g.status=.running/\(WgAt L.tWg Wg w 0 0->∃ g',aK P ab g w=.go g' w #[rd (stA Wg)]/\∃ m,Goes P ab R DC0 (XH P R L Wg a) m g' w)
def ZN(g:au)(w:az):Prop:=g.status=.running/\g.offers=af/\((∃ st,WgAt L.tWg Wg w st 0)->aK P ab g w=.go { g with status:=.blocked } w #[]) /\
 (WgAt L.tWg Wg w 0 1->∃ g',aK P ab g w=.go g' (w.setCell (smA Wg) (.int .u32 0)) (semEvents (smA Wg))/\∃ m,Goes P ab R DC0 (ZM P R L Wg a) m g' (w.setCell (smA Wg) (.int .u32 0)))
def ZO(g:au)(_:az):Prop:=g.status=.running/\∃ g' ad,ad.block=Wg/\(∀ w,aK P ab g w=.go g' w #[mk (.write ad)])/\∀ w1,WgLive L.tWg Wg w1->∃ m,Goes P ab R DC0 (ZN P R L Wg a) m g' w1
def ZP(vs:Nat)(g:au)(w:az):Prop:=g.status=.running/\∀ v:Nat,v<2147483648->WgAt L.tWg Wg w (v*KK) 0 ->
 (v=vs->∃ g',aK P ab g w=.go g' (w.setCell (stA Wg) (.int .u64 (v*KK+1))) #[rd (stA Wg),wr (stA Wg)]/\∃ m,Goes P ab R DC0 (ZO P R L Wg a) m g' (w.setCell (stA Wg) (.int .u64 (v*KK+1)))) /\
 (v≠vs->∃ g',aK P ab g w=.go g' w #[rd (stA Wg)]/\∃ m,Goes P ab R DC0 (λg _=>b g) m g' w)
def HW1(g:au)(w:az):Prop:=g.status=.running/\∀ v:Nat,v<2147483648->WgAt L.tWg Wg w (v*KK) 0 ->
 ∃ g',aK P ab g w=.go g' w #[rd (stA Wg)]/\(v=0->∃ m,Goes P ab R DC0 (XH P R L Wg a) m g' w)/\(v≠0->∃ m,Goes P ab R DC0 (ZP P R L Wg a b v) m g' w)
def HKd(g:au)(_:az):Prop:=g.status=.running/\∃ g',(∀ w,aK P ab g w=.go g' w #[mk .disable])/\∀ w1,WgLive L.tWg Wg w1->∃ m,Goes P ab R DC0 (λg _=>b g) m g' w1
end
def QK(L:WgLink)(Wg:Nat)(c:aQ)(cs:List aQ)(g:au):Prop :=
 ∃ T:Array ak,g=G ((base L.wait).at ⟨T,[]⟩ [.code (L7 L),.inLoop (L7 L),.inBlock 0]) (c::cs)/\T.size=84/\T[0]?=aa (.pointer (aa ⟨Wg,0,af⟩))
set_option maxRecDepth 100000 in
set_option maxHeartbeats 2000000 in
theorem DQ{L:WgLink}{P:an}(H:WgLib P L){R:az->az->Prop}{Wg:Nat}(b:∀ {w w1},WgLive L.tWg Wg w->R w w1->WgLive L.tWg Wg w1){c:aQ}{cs:List aQ}(w:az)(a:WgLive L.tWg Wg w) :
  Goes P ab R DC0 (HKd P R L Wg (QK L Wg c cs)) 6 (G ((base L.wait).at ⟨#[.pointer (aa ⟨Wg,0,af⟩),aj,aj,aj,aj,aj,aj,aj,aj,aj,aj,aj,aj,aj,aj,aj,aj,aj,aj,aj,aj,aj,aj,aj,aj,aj,aj,aj,aj,aj,aj,aj,aj,aj,aj,aj,aj,aj,aj,aj,aj,aj,aj,aj,aj,aj,aj,aj,aj,aj,aj,aj,aj,aj,aj,aj,aj,aj,aj,aj,aj,aj,aj,aj,aj,aj,aj,aj,aj,aj,aj,aj,aj,aj,aj,aj,aj,aj,aj,aj,aj,aj,aj,aj],[]⟩ [.code (body_wait L)]) (c::cs)) w:=by
 lib_facts
 unfold QK;simp only[L7,body_wait,waitFn,dG]
 repeat (u_c aD b a)
 u_cond ab b a
 repeat (u_c aD b a)
 u_reg b a
 refine Goes.stop (λe d=>?_)
 clear d;refine⟨rfl,_,λw=>stepG_mark0 .disable (by simp) rfl rfl (by k_ne) rfl H.f_disable (x_disable_n L) (x_disable_b L) (x_disable_x L) (x_disable_f L),λw a=>⟨6,?_⟩⟩
 walk_nrm
 u_c aC b a
 repeat (u_c aD b a)
 u_c stepG_block b a
 u_c stepG_loop b a
 exact Goes.stop λ_ _=>⟨_,rfl,rfl,rfl⟩
end Go.AM
namespace Go.AM
open Go.Conc Go.RowKit Go.Conc.Lib Go.ConcR.Gen
open Go.ConcN (WgLive)
open Go.ConcN.Gen
open Go.ConcR (KK WgAt stA smA rd wr mk DC0)
set_option maxRecDepth 100000 in
set_option maxHeartbeats 4000000 in
theorem DO{L:WgLink}{P:an}(H:WgLib P L){R:az->az->Prop}{Wg:Nat}(b:∀ {w w1},WgLive L.tWg Wg w->R w w1->WgLive L.tWg Wg w1){b₀:aQ}{a₀:Act}{ops₀:Array av}{i₀:Nat}{rest₀:List Nat}{k₀:List Item}{cs:List aQ}
  (g:au) (N:QK L Wg (b₀.at a₀ (.inRegion ops₀ (i₀::rest₀)::k₀)) cs g) (w:az) (a:WgLive L.tWg Wg w) :
  ∃ m,Goes P ab R DC0 (HW1 P R L Wg (G (b₀.at (a₀.put ((ops₀[i₀]?).bind (·.dst)) (.tuple #[])) (.inRegion ops₀ rest₀::k₀)) cs) (QK L Wg (b₀.at a₀ (.inRegion ops₀ (i₀::rest₀)::k₀)) cs)) m g w:=by
 lib_facts
 obtain⟨T,rfl,p,s⟩:=N;obtain⟨v0,v1,v2,v3,v4,v5,v6,v7,v8,v9,v10,v11,v12,B,v14,v15,v16,v17,v18,v19,v20,v21,v22,z,v24,v25,v26,v27,X,v29,v30,D,v32,u,v34,v35,v36,v37,Q,U,M,v41,v42,K,v44,v45,J,v47,v48,C,I,Z,v52,v53,v54,v55,v56,v57,v58,W,x,v61,O,y,F,v65,v66,v67,v68,V,v70,v71,v72,v73,v74,v75,A,v77,Y,v79,v80,v81,E,v83,rfl⟩:=array84 T p;simp only[iR,kZ,cV] at s;subst s;refine⟨30,?_⟩;unfold QK;simp only[L7,body_wait,waitFn,dG]
 u_c stepG_block b a
 repeat (u_c aD b a)
 u_reg b a
 u_op b a
 u_op b a
 u_op b a
 u_call H.f_uLoad (nm_uLoad L) uLoadFn b a
 repeat (u_c aD b a)
 u_reg b a
 u_op b a
 u_c aC b a
 repeat (u_c aD b a)
 u_reg b a
 u_op b a
 u_op b a
 u_op b a
 refine Goes.stop (λo j=>?_)
 replace a:=b a j
 clear j;refine⟨rfl,λv hv d=>?_⟩
 rcases jF v with rfl|hvp
 .replace d:WgAt L.tWg Wg o 0 0:=by simpa using d
  refine⟨_,stepG_load_atomic (v:=0) rfl rfl (by k_ne) rfl H.f_loadU64 (x_loadU64_n L) (x_loadU64_b L) (x_loadU64_x L) .u64 (x_loadU64_f L) rfl d.cellSt,λ_=>⟨80,?_⟩,λh=>absurd rfl h⟩
  clear d
  walk_nrm
  u_op b a
  u_c aC b a
  u_c stepG_ret' b a
  u_leave1 H.f_uLoad b a
  u_op b a
  u_c aC b a
  repeat (u_c aD b a)
  u_reg b a
  u_op b a
  u_op b a
  u_op b a
  u_op b a
  u_c aC b a
  repeat (u_c aD b a)
  u_reg b a
  u_op b a
  u_op b a
  u_op b a
  u_op b a
  u_c aC b a
  repeat (u_c aD b a)
  u_reg b a
  u_op b a
  u_op b a
  u_c aC b a
  repeat (u_c aD b a)
  u_cond ab b a
  repeat (u_c aD b a)
  u_cond ab b a
  repeat (u_c aD b a)
  u_reg b a
  refine Goes.stop (λf c=>?_)
  clear c;refine⟨rfl,_,λw=>stepG_mark0 .enable (by simp) rfl rfl (by k_ne) rfl H.f_enable (x_enable_n L) (x_enable_b L) (x_enable_x L) (x_enable_f L),λw a=>⟨20,?_⟩⟩
  walk_nrm
  u_c aC b a
  repeat (u_c aD b a)
  u_reg b a
  u_op b a
  u_conv H.underlying_tWgP H.room_tWg (Go.ConcN.Gen.WgLive.cell0 a).choose_spec b a
  refine Goes.stop (λf c=>?_)
  clear c;refine⟨rfl,_,λw=>stepG_markAt .acquire (by simp) rfl rfl (by k_ne) rfl H.f_acquire (x_acquire_n L) (x_acquire_b L) (x_acquire_x L) (x_acquire_f L) (by simp[Act.eval,stA]),λw a=>⟨40,?_⟩⟩
  walk_nrm
  u_c aC b a
  repeat (u_c aD b a)
  u_reg b a
  u_op b a
  u_op b a
  u_op b a
  u_op b a
  u_op b a
  u_op b a
  u_op b a
  u_op b a
  u_skip b a
  u_skip b a
  u_op b a
  u_c aC b a
  repeat (u_c aD b a)
  u_cond ae b a
  u_c stepG_skip b a
  u_c stepG_ret' b a
  u_leave0 H.f_wait b a
  exact Goes.stop λ_ _=>rfl
 .obtain⟨S,l⟩:∃ S:Int,(v:Int)*KK=S:=⟨_,rfl⟩;have a1:S / 4294967296=(v:Int):=by rw[<-l];simp only[KK];omega
  have b1:bits .and .u64 S 2147483648=0:=by rw[<-l];have:=Go.ConcN.st_flag v 0 (by omega) (by omega);simpa[KK] using this
  have b2:bits .and .u64 S 2147483647=0:=by rw[<-l];have:=Go.ConcN.st_waiters v 0 (by omega) (by omega);simpa[KK] using this
  have c1:IntKind.i32.wrap (v:Int)=(v:Int):=by rw[IntKind.wrap_i32];omega
  have w1:IntKind.u64.wrap (S+1)=S+1:=by rw[IntKind.wrap_u64,<-l];simp only[KK];omega
  have q3:decide ((v:Int)<0)=ae:=cJ (by omega)
  have q4:decide (0<(v:Int))=ab:=b9 (by omega)
  have q5:((v:Int)==0)=ae:=by simp;omega
  have q6:decide ((v:Int)=0)=ae:=cJ (by omega)
  rw[l] at d;refine⟨_,stepG_load_atomic (v:=S) rfl rfl (by k_ne) rfl H.f_loadU64 (x_loadU64_n L) (x_loadU64_b L) (x_loadU64_x L) .u64 (x_loadU64_f L) rfl d.cellSt,λh0=>absurd h0 (by omega),λ_=>⟨80,?_⟩⟩
  clear d
  walk_nrm
  u_op b a
  u_c aC b a
  u_c stepG_ret' b a
  u_leave1 H.f_uLoad b a
  u_op b a
  u_c aC b a
  repeat (u_c aD b a)
  u_reg b a
  u_op b a
  u_op b a
  u_op b a
  u_op b a
  u_c aC b a
  repeat (u_c aD b a)
  u_reg b a
  u_op b a
  u_op b a
  u_op b a
  u_op b a
  u_c aC b a
  repeat (u_c aD b a)
  u_reg b a
  u_op b a
  u_op b a
  u_c aC b a
  repeat (u_c aD b a)
  u_cnd ae b a
  u_c stepG_skip b a
  repeat (u_c aD b a)
  u_reg b a
  u_op b a
  u_op b a
  u_op b a
  u_op b a
  u_op b a
  u_op b a
  u_call H.f_uCas (nm_uCas L) uCasFn b a
  repeat (u_c aD b a)
  u_reg b a
  u_op b a
  u_c aC b a
  repeat (u_c aD b a)
  u_reg b a
  u_op b a
  u_op b a
  u_op b a
  u_op b a
  u_op b a
  refine Goes.stop (λf c=>?_)
  replace a:=b a c
  clear c;refine⟨rfl,λv' So d=>⟨λe=>?_,λe=>?_⟩⟩
  .subst e;rw[l] at d ⊢;refine⟨_,(stepG_cas_hit (v:=S) (n:=S+1) rfl rfl (by k_ne) rfl H.f_casU64 (x_casU64_n L) (x_casU64_b L) (x_casU64_x L) .u64 (x_casU64_f L) rfl rfl rfl d.cellSt (d.thaw 0)).trans (by rfl),90,?_⟩
   replace a:WgLive L.tWg Wg (f.setCell (stA Wg) (.int .u64 (S+1))):=⟨_,_,d.setSt _⟩
   clear d
   walk_nrm
   u_op b a
   u_c aC b a
   u_c stepG_ret' b a
   u_leave1 H.f_uCas b a
   u_c aC b a
   repeat (u_c aD b a)
   u_cond ab b a
   repeat (u_c aD b a)
   u_reg b a
   u_op b a
   u_op b a
   u_op b a
   u_op b a
   u_c aC b a
   repeat (u_c aD b a)
   u_cond ab b a
   repeat (u_c aD b a)
   u_reg b a
   u_op b a
   u_op b a
   u_op b a
   u_conv H.underlying_tPU32 H.room_tU32 (Go.ConcN.Gen.WgLive.cell1 a).choose_spec b a
   refine Goes.stop (λf c=>?_)
   clear c;refine⟨rfl,_,⟨Wg,1,af⟩,rfl,λw=>stepG_markAt .write (by simp) rfl rfl (by k_ne) rfl H.f_raceWrite (x_raceWrite_n L) (x_raceWrite_b L) (x_raceWrite_x L) (x_raceWrite_f L) (ad:=⟨Wg,1,af⟩) (by simp[Act.eval]),λw a=>⟨60,?_⟩⟩
   walk_nrm
   u_c aC b a
   repeat (u_c aD b a)
   u_reg b a
   u_op b a
   u_c aC b a
   repeat (u_c aD b a)
   u_reg b a
   u_op b a
   u_op b a
   u_op b a
   u_op b a
   u_skip b a
   u_op b a
   u_c aC b a
   repeat (u_c aD b a)
   u_cond ae b a
   u_c stepG_skip b a
   repeat (u_c aD b a)
   u_reg b a
   u_op b a
   u_op b a
   u_op b a
   u_op b a
   refine Goes.stop (λq k=>?_)
   replace a:=b a k
   clear k;refine⟨rfl,rfl,λ⟨st,d⟩=>stepG_semacquire_wait rfl rfl rfl H.f_semacquire (x_semacquire_n L) (x_semacquire_b L) (x_semacquire_x L) (x_semacquire_f L) (by simp[Act.eval,smA]) d.cellSm,λr=>?_⟩
   refine⟨_,(stepG_semacquire (n:=1) rfl rfl (by k_ne) rfl H.f_semacquire (x_semacquire_n L) (x_semacquire_b L) (x_semacquire_x L) (x_semacquire_f L) (by simp[Act.eval,smA]) r.cellSm (by k_ne) (r.thaw 1)).trans (by rfl),40,?_⟩
   replace a:WgLive L.tWg Wg (q.setCell (smA Wg) (.int .u32 0)):=⟨_,_,r.setSm 0⟩
   clear r
   walk_nrm
   u_c aC b a
   repeat (u_c aD b a)
   u_reg b a
   u_op b a
   u_op b a
   u_op b a
   u_call H.f_uLoad (nm_uLoad L) uLoadFn b a
   repeat (u_c aD b a)
   u_reg b a
   u_op b a
   u_c aC b a
   repeat (u_c aD b a)
   u_reg b a
   u_op b a
   u_op b a
   u_op b a
   refine Goes.stop (λt i=>?_)
   replace a:=b a i
   clear i;refine⟨rfl,λd=>⟨_,stepG_load_atomic (v:=0) rfl rfl (by k_ne) rfl H.f_loadU64 (x_loadU64_n L) (x_loadU64_b L) (x_loadU64_x L) .u64 (x_loadU64_f L) rfl d.cellSt,40,?_⟩⟩
   clear d
   walk_nrm
   u_op b a
   u_c aC b a
   u_c stepG_ret' b a
   u_leave1 H.f_uLoad b a
   u_op b a
   u_op b a
   u_c aC b a
   repeat (u_c aD b a)
   u_cond ab b a
   repeat (u_c aD b a)
   u_reg b a
   refine Goes.stop (λf c=>?_)
   clear c;refine⟨rfl,_,λw=>stepG_mark0 .enable (by simp) rfl rfl (by k_ne) rfl H.f_enable (x_enable_n L) (x_enable_b L) (x_enable_x L) (x_enable_f L),λw a=>⟨20,?_⟩⟩
   walk_nrm
   u_c aC b a
   repeat (u_c aD b a)
   u_reg b a
   u_op b a
   u_conv H.underlying_tWgP H.room_tWg (Go.ConcN.Gen.WgLive.cell0 a).choose_spec b a
   refine Goes.stop (λf c=>?_)
   clear c;refine⟨rfl,_,λw=>stepG_markAt .acquire (by simp) rfl rfl (by k_ne) rfl H.f_acquire (x_acquire_n L) (x_acquire_b L) (x_acquire_x L) (x_acquire_f L) (by simp[Act.eval,stA]),λw a=>⟨40,?_⟩⟩
   walk_nrm
   u_c aC b a
   repeat (u_c aD b a)
   u_reg b a
   u_op b a
   u_c aC b a
   repeat (u_c aD b a)
   u_cond ae b a
   u_c stepG_skip b a
   u_c stepG_ret' b a
   u_leave0 H.f_wait b a
   exact Goes.stop λ_ _=>rfl
  .refine⟨_,stepG_cas_miss (v:=(v':Int)*KK) (old:=S) (n:=S+1) rfl rfl (by k_ne) rfl H.f_casU64 (x_casU64_n L) (x_casU64_b L) (x_casU64_x L) .u64 (x_casU64_f L) rfl rfl rfl d.cellSt (d.thaw 0) (by rw[<-l];simp only[KK];omega),30,?_⟩
   clear d
   walk_nrm
   u_op b a
   u_c aC b a
   u_c stepG_ret' b a
   u_leave1 H.f_uCas b a
   u_c aC b a
   repeat (u_c aD b a)
   u_cond ae b a
   u_c stepG_skip b a
   u_c stepG_inBlock b a
   u_c stepG_inLoop b a
   exact Goes.stop λ_ _=>⟨_,rfl,by simp,by simp⟩
end Go.AM
namespace Go.AM
open Go.Conc Go.Conc.Lib
open Go.ConcN (WgLive)
open Go.ConcR (KK WgAt stA smA rd wr mk DC0 Payload)
def fD(ty:ar)(Wg:Nat)(w w1:az):Prop:=WgLive ty Wg w->WgLive ty Wg w1
theorem fD.refl{ty:ar}{Wg:Nat}(w:az):fD ty Wg w w:=id
theorem fD.trans{ty:ar}{Wg:Nat}{a b c:az}(h:fD ty Wg a b)(k:fD ty Wg b c):fD ty Wg a c:=λx=>k (h x)
def xG(R:az->az->Prop)(Stop:au->az->Prop)(g:au)(w:az):Prop:=∀ w1,R w w1->Stop g w1
theorem Goes.all{P:an}{main:Bool}{R:az->az->Prop}{D:az->az->Array Event->Prop}{Stop:au->az->Prop}(k:∀ a b c,R a b->R b c->R a c) :
  ∀ {n:Nat} {g:au} {w:az},Goes P main R D Stop n g w->Goes P main R D (xG R Stop) n g w
 |0,g,w,h=>λw1 l w2 p=>h w2 (k _ _ _ l p)
 |n+1,g,w,h=>by
  rcases h with h|⟨d,h⟩
  .exact .inl λw1 l w2 p=>h w2 (k _ _ _ l p)
  .refine .inr ⟨d,λw1 l=>?_⟩
   have p:=h w1 l;cases j:aK P main g w1 with
   |go g' w' es =>
    rw[j,goes_go] at p;rw[goes_go];exact⟨p.1,Goes.all k p.2⟩
   |_=>rw[j] at p;exact p.elim
structure Apart (Wg:Nat)(F:St->Prop):Prop where
 rely:∀ s s',F s->cm s s'->F s'
 heap:∀ s,F s->∃ σ,aJ σ s
 free:∀ s,F s->¬s.own Wg/\(∀ L∈s.β,Wg∉L.bs)/\∀ o,s.M Wg o=af
section
variable {P:an}{L:WgLink}{Wg:Nat}{F:St->Prop}
def yn(ty:ar)(Wg:Nat)(F:St->Prop)(s:St):Prop:=F s/\WgLive ty Wg s.w
theorem Apart.OW(A:Apart Wg F){s:St}(h:F s):gC s:=(A.heap s h).choose_spec.mem
theorem Apart.set(A:Apart Wg F){s:St}(h:F s)(a:Addr)(x:a.block=Wg)(v:ak):cm s { s with w:=s.w.setCell a v }:=by
 obtain⟨l,p,y⟩:=A.free s h;have k:∀ b,b≠Wg->(s.w.setCell a v).heap[b]?=s.w.heap[b]?:=λb hb=>by
  have:=(aside_setCell s.w a v).block b (by rw[x];exact hb)
  exact this
 refine⟨rfl,rfl,rfl,Nat.le_of_eq (aside_setCell s.w a v).size.symm,λb hb=>k b ?_,λb o u j=>?_,(aside_setCell s.w a v).os,(aside_setCell s.w a v).tape,(aside_setCell s.w a v).output⟩
 .rintro rfl;rcases hb with hb|⟨L,D,hb⟩
  .exact l hb
  .exact p L D hb
 .have C:b≠Wg:=by rintro rfl;rw[y] at j;cases j
  show (s.w.setCell a v).cell? _=_;rw[jT (k b C) o];exact A.OW h b o u j
theorem Apart.next(A:Apart Wg F){ty:ar}{s i:St}(h:yn ty Wg F s)(r:(Cx.lead P ty Wg).rely s i):yn ty Wg F i:=⟨A.rely s i h.1 r.1,r.2 h.2⟩
theorem Apart.here(A:Apart Wg F){ty:ar}{s:St}(h:yn ty Wg F s):(Cx.lead P ty Wg).rely s s:=⟨cm.vW (A.OW h.1),id⟩
theorem Apart.goes(A:Apart Wg F){ty:ar}{S:au->St->Prop}{Stop:au->az->Prop}(k:∀ g s,yn ty Wg F s->xG (fD ty Wg) Stop g s.w->eg (Cx.lead P ty Wg) (Es Wg) S g s){n:Nat}{g:au}{s:St}
  (d:yn ty Wg F s) (h:Goes P ab (fD ty Wg) DC0 Stop n g s.w):eg (Cx.lead P ty Wg) (Es Wg) S g s:=by
 refine eg.goes (X:=Cx.lead P ty Wg) (R:=fD ty Wg) (D:=DC0) (Stop:=xG (fD ty Wg) Stop) (yn ty Wg F) (λs i hi f=>A.next hi f) (λs i _ f=>f.2) ?_ (λs hi=>A.here hi) k n g s d (Goes.all (λ_ _ _ l p=>l.trans p) h)
 rintro s es hi w' ⟨rfl,rfl⟩;exact⟨rfl,.inl (.quiet (A.heap s hi.1).choose_spec)⟩
end
set_option maxRecDepth 100000 in
theorem DN{P:an}{L:WgLink}(H:WgLib P L){Wg:Nat}:Frame.enter P L.add #[.pointer (aa ⟨Wg,0,af⟩),.int .i64 1] .normal=(base L.add).at ⟨#[.pointer (aa ⟨Wg,0,af⟩),.int .i64 1,aj,aj,aj,aj,aj,aj,aj,aj,aj,aj,aj,aj,aj,aj,aj,aj,aj,aj,aj,aj,aj,aj,aj,aj,aj,aj,aj,aj,aj,aj,aj,aj,aj,aj,aj,aj,aj,aj,aj,aj,aj,aj,aj,aj,aj,aj,aj,aj,aj,aj,aj,aj,aj,aj,aj,aj,aj,aj,aj,aj,aj,aj,aj,aj,aj,aj,aj,aj,aj,aj,aj,aj,aj,aj,aj,aj,aj,aj,aj,aj,aj,aj,aj,aj,aj,aj,aj,aj,aj,aj,aj,aj,aj,aj,aj,aj,aj,aj,aj,aj,aj,aj,aj,aj,aj,aj,aj,aj,aj,aj,aj,aj,aj,aj,aj],[]⟩ [.code (Go.ConcR.Gen.body_add L)] :=
 (enter_at (c:=Go.ConcR.Gen.body_add L) _ H.f_add (by kernel_rfl)).trans (by kernel_rfl)
set_option maxRecDepth 100000 in
theorem BK{P:an}{L:WgLink}(H:WgLib P L){Wg:Nat}:Frame.enter P L.wait #[.pointer (aa ⟨Wg,0,af⟩)] .normal=(base L.wait).at ⟨#[.pointer (aa ⟨Wg,0,af⟩),aj,aj,aj,aj,aj,aj,aj,aj,aj,aj,aj,aj,aj,aj,aj,aj,aj,aj,aj,aj,aj,aj,aj,aj,aj,aj,aj,aj,aj,aj,aj,aj,aj,aj,aj,aj,aj,aj,aj,aj,aj,aj,aj,aj,aj,aj,aj,aj,aj,aj,aj,aj,aj,aj,aj,aj,aj,aj,aj,aj,aj,aj,aj,aj,aj,aj,aj,aj,aj,aj,aj,aj,aj,aj,aj,aj,aj,aj,aj,aj,aj,aj,aj],[]⟩ [.code (Go.ConcR.Gen.body_wait L)] :=
 (enter_at (c:=Go.ConcR.Gen.body_wait L) _ H.f_wait (by kernel_rfl)).trans (by kernel_rfl)
section
variable [Payload] {P:an}{L:WgLink}{Y:Lay}{F:St->Prop}{N n:Nat}{val:Nat->Nat->ak}
theorem XF(H:WgLib P L)(A:Apart Y.Wg F){j:Nat}{Next:au->St->Prop}{b₀:aQ}{a₀:Act}{ops₀:Array av}{i₀:Nat}{rest₀:List Nat}{k₀:List Item}{cs:List aQ}
  (b:∀ s,yn L.tWg Y.Wg F s->eg (Cx.lead P L.tWg Y.Wg) (Es Y.Wg) (AtGo P L.tWg Y N val j Next) (G (b₀.at (a₀.put ((ops₀[i₀]?).bind (·.dst)) (.tuple #[])) (.inRegion ops₀ rest₀::k₀)) cs) s)
  {s:St} (d:yn L.tWg Y.Wg F s) :
  eg (Cx.lead P L.tWg Y.Wg) (Es Y.Wg) (AtKdS P L.tWg Y N val j Next) (G (Frame.enter P L.add #[.pointer (aa ⟨Y.Wg,0,af⟩),.int .i64 1] .normal) (b₀.at a₀ (.inRegion ops₀ (i₀::rest₀)::k₀)::cs)) s:=by
 have z:∀ g s,yn L.tWg Y.Wg F s->XG P (fD L.tWg Y.Wg) L Y.Wg (G (b₀.at (a₀.put ((ops₀[i₀]?).bind (·.dst)) (.tuple #[])) (.inRegion ops₀ rest₀::k₀)) cs) g s.w->eg (Cx.lead P L.tWg Y.Wg) (Es Y.Wg) (AtKeS P L.tWg Y N val j Next) g s:=by
  rintro g s d ⟨l,g',p,y⟩;refine⟨.leaf,l,g',p,λi f=>?_⟩
  have a:=A.next d f;obtain⟨m,q⟩:=y i.w a.2;exact A.goes (λg s d h=>by obtain rfl:=h s.w (.refl _);exact b s d) a q
 have k:∀ g s,yn L.tWg Y.Wg F s->xG (fD L.tWg Y.Wg) (ZL P (fD L.tWg Y.Wg) L Y.Wg (G (b₀.at (a₀.put ((ops₀[i₀]?).bind (·.dst)) (.tuple #[])) (.inRegion ops₀ rest₀::k₀)) cs)) g s.w->eg (Cx.lead P L.tWg Y.Wg) (Es Y.Wg) (AtA1 P L.tWg Y N val j Next) g s:=by
  rintro g s d h;refine⟨.leaf,(h s.w (.refl _)).1,λi f v J t=>?_⟩
  have a:=A.next d f;obtain⟨g',l,m,q⟩:=(h i.w f.2).2 v J t;have o:yn L.tWg Y.Wg F { i with w:=i.w.setCell (stA Y.Wg) (.int .u64 ((v+1)*KK)) }:=⟨A.rely _ _ a.1 (A.set a.1 _ rfl _),⟨_,_,t.setSt _⟩⟩;refine⟨g',l,A.goes (λg s d h=>?_) o q⟩
  rcases h s.w (.refl _) with h|h
  .obtain⟨l,g',ad,p,y,Q⟩:=h;refine .step l λi f=>⟨g',i,_,y i.w,.inr ⟨rfl,ad,p,.inl rfl⟩,?_⟩
   have a:=A.next d f;obtain⟨m,q⟩:=Q i.w a.2;exact A.goes (λg s d h=>z g s d (h s.w (.refl _))) a q
  .exact z g s d h
 have t:=M9 (P:=P) (L:=L) H (R:=fD L.tWg Y.Wg) (Wg:=Y.Wg) (λh r=>r h) (b₀:=b₀) (a₀:=a₀) (ops₀:=ops₀) (i₀:=i₀) (rest₀:=rest₀) (k₀:=k₀) (cs:=cs) s.w d.2
 rw[DN H];refine A.goes (λg s d h=>?_) d t
 obtain⟨l,g',p,y⟩:=h s.w (.refl _);refine⟨.leaf,l,g',p,λi f=>?_⟩
 have a:=A.next d f;obtain⟨m,q⟩:=y i.w a.2;exact A.goes k a q
section
variable (P L Y F)
def TW(B g:au)(s:St):Prop:=yn L.tWg Y.Wg F s/\∃ m,Goes P ab (fD L.tWg Y.Wg) DC0 (λg _=>g=B) m g s.w
def Fv(c:aQ)(cs:List aQ)(g:au)(s:St):Prop:=yn L.tWg Y.Wg F s/\∃ m,Goes P ab (fD L.tWg Y.Wg) DC0 (λg _=>QK L Y.Wg c cs g) m g s.w
end
variable {b₀:aQ}{a₀:Act}{ops₀:Array av}{i₀:Nat}{rest₀:List Nat}{k₀:List Item}{cs:List aQ}
omit [Payload] in
theorem T4(H:WgLib P L)(A:Apart Y.Wg F){T I:au->St->Prop}(K:∀ g s,TW P L Y F (G (b₀.at (a₀.put ((ops₀[i₀]?).bind (·.dst)) (.tuple #[])) (.inRegion ops₀ rest₀::k₀)) cs) g s->T g s)
  (E:∀ g s,Fv P L Y F (b₀.at a₀ (.inRegion ops₀ (i₀::rest₀)::k₀)) cs g s->I g s) {g:au} {s:St} (h:Fv P L Y F (b₀.at a₀ (.inRegion ops₀ (i₀::rest₀)::k₀)) cs g s) :
  eg (Cx.lead P L.tWg Y.Wg) (Es Y.Wg) (AtW1 P L.tWg Y T I) g s:=by
 generalize hc:b₀.at a₀ (.inRegion ops₀ (i₀::rest₀)::k₀)=c at *;generalize U:G (b₀.at (a₀.put ((ops₀[i₀]?).bind (·.dst)) (.tuple #[])) (.inRegion ops₀ rest₀::k₀)) cs=B at K;have O:∀ g s,yn L.tWg Y.Wg F s->xG (fD L.tWg Y.Wg) (T5 P (fD L.tWg Y.Wg) L Y.Wg B) g s.w->eg (Cx.lead P L.tWg Y.Wg) (Es Y.Wg) (AtAcq P L.tWg Y T) g s:=by
  intro g s d h;obtain⟨l,g',p,y⟩:=h s.w (.refl _);exact⟨.leaf,l,g',p,λi f=>K _ _ ⟨A.next d f,y i.w (A.next d f).2⟩⟩
 have z:∀ g s,yn L.tWg Y.Wg F s->xG (fD L.tWg Y.Wg) (XH P (fD L.tWg Y.Wg) L Y.Wg B) g s.w->eg (Cx.lead P L.tWg Y.Wg) (Es Y.Wg) (AtKe P L.tWg Y T) g s:=by
  intro g s d h;obtain⟨l,g',p,y⟩:=h s.w (.refl _);refine⟨.leaf,l,g',p,λi f=>?_⟩
  obtain⟨m,q⟩:=y i.w (A.next d f).2;exact A.goes O (A.next d f) q
 have V:∀ g s,yn L.tWg Y.Wg F s->xG (fD L.tWg Y.Wg) (ZM P (fD L.tWg Y.Wg) L Y.Wg B) g s.w->eg (Cx.lead P L.tWg Y.Wg) (Es Y.Wg) (AtW4 P L.tWg Y T) g s:=by
  intro g s d h;refine⟨.leaf,(h s.w (.refl _)).1,λi f t=>?_⟩
  obtain⟨g',l,m,q⟩:=(h i.w f.2).2 t;exact⟨g',l,A.goes z (A.next d f) q⟩
 have W:∀ g s,yn L.tWg Y.Wg F s->xG (fD L.tWg Y.Wg) (ZN P (fD L.tWg Y.Wg) L Y.Wg B) g s.w->eg (Cx.lead P L.tWg Y.Wg) (Es Y.Wg) (AtW3 P L.tWg Y T) g s:=by
  intro g s d h;refine⟨.leaf,(h s.w (.refl _)).1,(h s.w (.refl _)).2.1,λi f=>⟨(h i.w f.2).2.2.1,λt=>?_⟩⟩
  obtain⟨g',l,m,q⟩:=(h i.w f.2).2.2.2 t;exact⟨g',l,A.goes V (s:={ i with w:=i.w.setCell (smA Y.Wg) (.int .u32 0) }) ⟨A.rely _ _ (A.next d f).1 (A.set (A.next d f).1 _ rfl _),⟨_,_,t.setSm 0⟩⟩ q⟩
 have Z:∀ g s,yn L.tWg Y.Wg F s->xG (fD L.tWg Y.Wg) (ZO P (fD L.tWg Y.Wg) L Y.Wg B) g s.w->eg (Cx.lead P L.tWg Y.Wg) (Es Y.Wg) (AtW3 P L.tWg Y T) g s:=by
  intro g s d h;obtain⟨l,g',ad,p,y,Q⟩:=h s.w (.refl _);refine .step l λi f=>⟨g',i,_,y i.w,.inr ⟨rfl,ad,p,.inr rfl⟩,?_⟩
  obtain⟨m,q⟩:=Q i.w (A.next d f).2;exact A.goes W (A.next d f) q
 have gW2:∀ (v:Nat) g s,yn L.tWg Y.Wg F s->xG (fD L.tWg Y.Wg) (ZP P (fD L.tWg Y.Wg) L Y.Wg B (QK L Y.Wg c cs) v) g s.w->eg (Cx.lead P L.tWg Y.Wg) (Es Y.Wg) (AtW2 P L.tWg Y T I v) g s:=by
  intro vs g s d h;refine⟨.leaf,(h s.w (.refl _)).1,λi f v J t=>⟨λe=>?_,λe=>?_⟩⟩
  .obtain⟨g',l,m,q⟩:=((h i.w f.2).2 v J t).1 e;exact⟨g',l,A.goes Z (s:={ i with w:=i.w.setCell (stA Y.Wg) (.int .u64 (v*KK+1)) }) ⟨A.rely _ _ (A.next d f).1 (A.set (A.next d f).1 _ rfl _),⟨_,_,t.setSt _⟩⟩ q⟩
  .obtain⟨g',l,m,q⟩:=((h i.w f.2).2 v J t).2 e;exact⟨g',l,E _ _ ⟨A.next d f,m,q⟩⟩
 obtain⟨d,m,q⟩:=h;refine A.goes (λg s d h=>?_) d q
 obtain⟨m,t⟩:=DO (P:=P) (L:=L) H (R:=fD L.tWg Y.Wg) (Wg:=Y.Wg) (λh r=>r h) (b₀:=b₀) (a₀:=a₀) (ops₀:=ops₀) (i₀:=i₀) (rest₀:=rest₀) (k₀:=k₀) (cs:=cs) g (by rw[hc];exact h s.w (.refl _)) s.w d.2
 rw[hc,U] at t;refine A.goes (λg s d h=>?_) d t
 refine⟨.leaf,(h s.w (.refl _)).1,λi f v J t=>?_⟩
 obtain⟨g',l,p,y⟩:=(h i.w f.2).2 v J t;refine⟨g',l,λh0=>?_,λC=>?_⟩
 .obtain⟨m,q⟩:=p h0;exact A.goes z (A.next d f) q
 .obtain⟨m,q⟩:=y C;exact A.goes (gW2 v) (A.next d f) q
omit [Payload] in
theorem T6(H:WgLib P L)(A:Apart Y.Wg F){c:aQ}{I:au->St->Prop}(E:∀ g s,Fv P L Y F c cs g s->I g s){s:St}(d:yn L.tWg Y.Wg F s) :
  eg (Cx.lead P L.tWg Y.Wg) (Es Y.Wg) (AtKd P L.tWg Y I) (G (Frame.enter P L.wait #[.pointer (aa ⟨Y.Wg,0,af⟩)] .normal) (c::cs)) s:=by
 have t:=DQ (P:=P) (L:=L) H (R:=fD L.tWg Y.Wg) (Wg:=Y.Wg) (λh r=>r h) (c:=c) (cs:=cs) s.w d.2
 rw[BK H];refine A.goes (λg s d h=>?_) d t
 obtain⟨l,g',p,y⟩:=h s.w (.refl _);exact⟨.leaf,l,g',p,λi f=>E _ _ ⟨A.next d f,y i.w (A.next d f).2⟩⟩
end
end Go.AM
namespace Go.AM.R1
open Go.Proofs Go.Conc.Lib
def O1:WgLink:={ add:=139,done:=141,wait:=143,relMerge:=173,disable:=174,enable:=175,inBubble:=176,associate:=177,fatal:=178,uOr:=179,uAdd:=180,raceRead:=181,uLoad:=182,uStore:=183,disassociate:=184,semrelease:=185,acquire:=187,isAssociated:=188,uCas:=189,raceWrite:=190,semacquire:=191,orU64:=211,addU64:=212,loadU64:=213,storeU64:=214,casU64:=217,tWgP:=222,tUP:=224,tAssoc:=226,tWg:=190,tAU:=188,tU64:=181,tUint:=154,tU32:=179,tPU32:=230,tPAU:=259,tPU64:=261,tNoCopy:=184,tANoCopy:=185,tAlign64:=186 }
theorem BW:WgLib ah O1 where
 f_add:=Tryz.func139.trans (dc aa (by kernel_rfl))
 f_done:=Tryz.func141.trans (dc aa (by kernel_rfl))
 f_wait:=Tryz.func143.trans (dc aa (by kernel_rfl))
 f_relMerge:=Tryz.func173.trans (dc aa (by kernel_rfl))
 f_disable:=Tryz.func174.trans (dc aa (by kernel_rfl))
 f_enable:=Tryz.func175.trans (dc aa (by kernel_rfl))
 f_inBubble:=Tryz.func176.trans (dc aa (by kernel_rfl))
 f_associate:=Tryz.func177.trans (dc aa (by kernel_rfl))
 f_fatal:=Tryz.func178.trans (dc aa (by kernel_rfl))
 f_uOr:=Tryz.func179.trans (dc aa (by kernel_rfl))
 f_uAdd:=Tryz.func180.trans (dc aa (by kernel_rfl))
 f_raceRead:=Tryz.func181.trans (dc aa (by kernel_rfl))
 f_uLoad:=Tryz.func182.trans (dc aa (by kernel_rfl))
 f_uStore:=Tryz.func183.trans (dc aa (by kernel_rfl))
 f_disassociate:=Tryz.func184.trans (dc aa (by kernel_rfl))
 f_semrelease:=Tryz.func185.trans (dc aa (by kernel_rfl))
 f_acquire:=Tryz.func187.trans (dc aa (by kernel_rfl))
 f_isAssociated:=Tryz.func188.trans (dc aa (by kernel_rfl))
 f_uCas:=Tryz.func189.trans (dc aa (by kernel_rfl))
 f_raceWrite:=Tryz.func190.trans (dc aa (by kernel_rfl))
 f_semacquire:=Tryz.func191.trans (dc aa (by kernel_rfl))
 f_orU64:=Tryz.func211.trans (dc aa (by kernel_rfl))
 f_addU64:=Tryz.func212.trans (dc aa (by kernel_rfl))
 f_loadU64:=Tryz.func213.trans (dc aa (by kernel_rfl))
 f_storeU64:=Tryz.func214.trans (dc aa (by kernel_rfl))
 f_casU64:=Tryz.func217.trans (dc aa (by kernel_rfl))
 underlying_tWgP:=Tryz.underlying222
 runUnderlying_tWgP:=Tryz.runUnderlying222
 sizeOf_tWgP:=Tryz.sizeOf222
 isAgg_tWgP:=Tryz.isAgg222
 zeroValue_tWgP:=Tryz.zeroValue222
 underlying_tUP:=Tryz.underlying224
 runUnderlying_tUP:=Tryz.runUnderlying224
 sizeOf_tUP:=Tryz.sizeOf224
 isAgg_tUP:=Tryz.isAgg224
 zeroValue_tUP:=Tryz.zeroValue224
 underlying_tI32:=Tryz.underlying226
 runUnderlying_tI32:=Tryz.runUnderlying226
 sizeOf_tI32:=Tryz.sizeOf226
 isAgg_tI32:=Tryz.isAgg226
 zeroValue_tI32:=Tryz.zeroValue226
 underlying_tWg:=Tryz.underlying190
 runUnderlying_tWg:=Tryz.runUnderlying190
 sizeOf_tWg:=Tryz.sizeOf190
 isAgg_tWg:=Tryz.isAgg190
 zeroValue_tWg:=Tryz.zeroValue190
 underlying_tAU:=Tryz.underlying188
 runUnderlying_tAU:=Tryz.runUnderlying188
 sizeOf_tAU:=Tryz.sizeOf188
 isAgg_tAU:=Tryz.isAgg188
 zeroValue_tAU:=Tryz.zeroValue188
 underlying_tU64:=Tryz.underlying181
 runUnderlying_tU64:=Tryz.runUnderlying181
 sizeOf_tU64:=Tryz.sizeOf181
 isAgg_tU64:=Tryz.isAgg181
 zeroValue_tU64:=Tryz.zeroValue181
 underlying_tSh:=Tryz.underlying154
 runUnderlying_tSh:=Tryz.runUnderlying154
 sizeOf_tSh:=Tryz.sizeOf154
 isAgg_tSh:=Tryz.isAgg154
 zeroValue_tSh:=Tryz.zeroValue154
 underlying_tU32:=Tryz.underlying179
 runUnderlying_tU32:=Tryz.runUnderlying179
 sizeOf_tU32:=Tryz.sizeOf179
 isAgg_tU32:=Tryz.isAgg179
 zeroValue_tU32:=Tryz.zeroValue179
 underlying_tPU32:=Tryz.underlying230
 runUnderlying_tPU32:=Tryz.runUnderlying230
 sizeOf_tPU32:=Tryz.sizeOf230
 isAgg_tPU32:=Tryz.isAgg230
 zeroValue_tPU32:=Tryz.zeroValue230
 underlying_tPAU:=Tryz.underlying259
 runUnderlying_tPAU:=Tryz.runUnderlying259
 sizeOf_tPAU:=Tryz.sizeOf259
 isAgg_tPAU:=Tryz.isAgg259
 zeroValue_tPAU:=Tryz.zeroValue259
 underlying_tPU64:=Tryz.underlying261
 runUnderlying_tPU64:=Tryz.runUnderlying261
 sizeOf_tPU64:=Tryz.sizeOf261
 isAgg_tPU64:=Tryz.isAgg261
 zeroValue_tPU64:=Tryz.zeroValue261
 underlying_t0:=Tryz.underlying0
 runUnderlying_t0:=Tryz.runUnderlying0
 sizeOf_t0:=Tryz.sizeOf0
 isAgg_t0:=Tryz.isAgg0
 zeroValue_t0:=Tryz.zeroValue0
 underlying_t3:=Tryz.underlying3
 runUnderlying_t3:=Tryz.runUnderlying3
 sizeOf_t3:=Tryz.sizeOf3
 isAgg_t3:=Tryz.isAgg3
 zeroValue_t3:=Tryz.zeroValue3
 underlying_t4:=Tryz.underlying4
 runUnderlying_t4:=Tryz.runUnderlying4
 sizeOf_t4:=Tryz.sizeOf4
 isAgg_t4:=Tryz.isAgg4
 zeroValue_t4:=Tryz.zeroValue4
 underlying_t9:=Tryz.underlying9
 runUnderlying_t9:=Tryz.runUnderlying9
 sizeOf_t9:=Tryz.sizeOf9
 isAgg_t9:=Tryz.isAgg9
 zeroValue_t9:=Tryz.zeroValue9
 underlying_t20:=Tryz.underlying20
 runUnderlying_t20:=Tryz.runUnderlying20
 sizeOf_t20:=Tryz.sizeOf20
 isAgg_t20:=Tryz.isAgg20
 zeroValue_t20:=Tryz.zeroValue20
 underlying_t21:=Tryz.underlying21
 runUnderlying_t21:=Tryz.runUnderlying21
 sizeOf_t21:=Tryz.sizeOf21
 isAgg_t21:=Tryz.isAgg21
 zeroValue_t21:=Tryz.zeroValue21
 room_tWg:=by kernel_rfl
 room_tU32:=by kernel_rfl
end Go.AM.R1
namespace Go.AM
open Go.Conc (G)
structure JC {P:an}(X:Cx P)(N:Nat)(ops:Array av)(φ:Fr)(σ:List aW)(x:Nat->D)(c:Nat->Fr)(idx:Nat->Option Nat)(last:Nat):Prop where
 back:∀ i o,ops[i]?=aa o->∀ e∈o.after,de e=ab->e.on<i
 IC:∀ i o d,ops[i]?=aa o->o.dst=aa d->idx d=aa i/\d<N
 xx:∀ d i,idx d=aa i->∃ o,ops[i]?=aa o/\o.dst=aa d
 one:∀ i o,ops[i]?=aa o->i≠last->OA X N ops.toList o (c i) σ (x i) σ
 Sw:∀ i o,ops[i]?=aa o->i≠last->∀ t σ s v,dh σ s v (match idx t with|some j=>(if ∃ e∈o.after,de e=ab/\e.on=j then x j else .any)|none=>look φ t)->dh σ s v (look (c i) t)
 ZK:∀ o,ops[last]?=aa o->∀ j,j<ops.size->j≠last->∃ e∈o.after,de e=ab/\e.on=j
 has:last<ops.size
section
variable {P:an}{X:Cx P}{N:Nat}{ops:Array av}{φ:Fr}{σ:List aW}{x:Nat->D}{c:Nat->Fr}{idx:Nat->Option Nat}{last:Nat}
theorem BF{a t:Nat}{L:Array Bool}(h:∀ i,i<ops.size->L.getD i ab=ab):Region.linearise.go .any ops a t L []=[]:=by
 cases a with
 |zero=>exact vN t L
 |succ n =>
  have b:aZ .any ops L=[]:=by
   cases b:aZ .any ops L with
   |nil=>rfl
   |cons y g =>
    have e:y∈aZ .any ops L:=by rw[b];simp
    obtain⟨o,f,d,_⟩:=mem_ready.1 e;rw[h y (gE.1 f).1] at d;cases d
  rw[oX,b];rfl
theorem JC.arr(h:JC X N ops φ σ x c idx last){SS:au->St->Prop}{b:aQ}{kk:List Item}{cs:List aQ}(hb:b.kind≠.early){s0:St}
  (hQ:∀ s a,a.tmps.size=N->(∀ t,dh σ s (a.tmps.getD t aj) (match idx t with|some j=>if j=last then .any else x j|none=>look φ t))->a.defers=[]->aJ σ s->cC σ s0 σ s->fG X SS (G (b.aT a (.inRegion ops [last]::kk)) cs) s) :
  ∀ (g:Nat) (L:Array Bool),L.size=ops.size->(L.toList.filter (λb=>!b)).length<=g->¬L.getD last ae=ab ->
   (∀ i o,ops[i]?=aa o->L.getD i ae=ab->∀ e∈o.after,de e=ab->L.getD e.on ae=ab) ->
   ∀ (s:St) (a:Act),HT N σ s (gn φ x idx L) a->a.defers=[]->aJ σ s->cC σ s0 σ s ->
   ∀ t,fG X SS (G (b.aT a (.inRegion ops (Region.linearise.go .any ops g t L [])::kk)) cs) s:=by
 intro g
 induction g with
 |zero =>
  intro L hs hf m T s a k Q hh st t;exfalso;have Y:L[last]'(by have:=h.has;omega)∈L.toList:=by simp
  have O:=h.has;cases hb:L[last]'(by omega) with
  |true=>exact m (by simp[cT,dm (by omega:last<L.size),hb])
  |false =>
   have:L[last]'(by omega)∈L.toList.filter (λb=>!b):=lq.2 ⟨Y,by simp[hb]⟩
   have:=uN this;omega
 |succ g ih =>
  intro L hs hf m T s a k Q hh st t;rw[oX];cases w:(aZ .any ops L)[t % (aZ .any ops L).length]? with
  |none =>
   exfalso;have hr:aZ .any ops L=[]:=by
    cases hr:aZ .any ops L with
    |nil=>rfl
    |cons y ys =>
     rw[hr] at w;have O:t % (y::ys).length<(y::ys).length:=ik _ (by simp)
     simp at w;simp at O;omega
   have U:∀ i,i<ops.size->L.getD i ae=ab:=by
    intro i
    induction i using Nat.strongRecOn with
    |_ i Wr =>
     intro hi;cases hb:L.getD i ae with
     |true=>rfl
     |false =>
      have Y:i∈aZ .any ops L:=mem_ready.2 ⟨ops[i],dm hi,by
       simpa[cT,dm (by omega:i<L.size)] using hb,λe z u=>by
       have:=h.back i _ (dm hi) e z u;exact Wr _ this (by omega)⟩
      rw[hr] at Y;simp at Y
   exact m (U last h.has)
  |some i =>
   have hi:=bz w;obtain⟨o,A,W,q⟩:=mem_ready.1 hi;have O:i<ops.size:=(gE.1 A).1;have V:¬L.getD i ae=ab:=by
    simp only[cT,dm (by omega:i<L.size),dG] at W ⊢
    simp[W]
   by_cases H:i=last
   .subst H;have M:Region.linearise.go .any ops g (t / (aZ .any ops L).length) (L.setIfInBounds i ab) []=[]:=by
     refine BF λj hj=>?_
     have R:(L.setIfInBounds i ab).getD j ae=ab:=by
      rw[eF (by omega)]
      by_cases e:j=i
      .exact .inl e
      .obtain⟨ed,z,u,rfl⟩:=h.ZK o A j hj e;exact .inr (q ed z u)
     simp only[cT,dm (by simp;omega:j<(L.setIfInBounds i ab).size),dG] at R ⊢
     exact R
    simp only[M];refine hQ s a k.size (λt=>?_) Q hh st
    have:=k.slot t;unfold gn at this;cases f:idx t with
    |none=>simpa[f] using this
    |some j =>
     simp only[f] at this ⊢;obtain⟨oj,p,_⟩:=h.xx _ _ f
     by_cases e:j=i
     .rw[aU e];trivial
     .rw[aO e];obtain⟨ed,z,u,rfl⟩:=h.ZK o A j (gE.1 p).1 e;rw[aU (q ed z u)] at this;exact this
   have E:(L.setIfInBounds i ab).size=ops.size:=by simp[hs]
   have B:((L.setIfInBounds i ab).toList.filter (λb=>!b)).length<=g:=by
    have h1:L.toList[i]?=aa ae:=by
     rw[rh,dm (by omega:i<L.size)]
     simpa[cT,dm (by omega:i<L.size)] using V
    have:=count_set h1;rw[uK];omega
   have S:∀ j Z,ops[j]?=aa Z->(L.setIfInBounds i ab).getD j ae=ab->∀ e∈Z.after,de e=ab->(L.setIfInBounds i ab).getD e.on ae=ab:=by
    intro j Z I hj e z hb;rw[eF (by omega)] at hj ⊢
    rcases hj with rfl|hj
    .rw[A] at I;cases I;exact .inr (q e z hb)
    .exact .inr (T j Z I hj e z hb)
   have C:¬(L.setIfInBounds i ab).getD last ae=ab:=by
    rw[eF (by omega)]
    rintro(e|e)
    .exact H e.symm
    .exact m e
   have Ti:cw N σ s (c i) a:=k.IB λt σ s v F=>h.Sw i o A H t σ s v (by
    unfold gn at F;cases f:idx t with
    |none=>simpa[f] using F
    |some j =>
     simp only[f] at F ⊢;split
     .rename_i hex
      obtain⟨e,z,hb,rfl⟩:=hex;rw[aU (q e z hb)] at F;exact F
     .trivial)
   have J:∀ (s':St) (v:ak),cC σ s σ s'->dh σ s' v (x i)->HT N σ s' (gn φ x idx (L.setIfInBounds i ab)) (a.put o.dst v):=by
    intro s' v n F;cases Q:o.dst with
    |none =>
     refine⟨k.size,k.defers.imp λ_ h1=>h1.mono n.ext,λt=>?_⟩
     have l:=(k.slot t).mono n.ext hh.len;simp only[Act.put];unfold gn at l ⊢;cases f:idx t with
     |none=>simpa[f] using l
     |some j =>
      simp only[f] at l ⊢;obtain⟨oj,p,r⟩:=h.xx _ _ f;have K:j≠i:=by rintro rfl;rw[A] at p;cases p;rw[Q] at r;cases r
      have:((L.setIfInBounds i ab).getD j ae=ab)↔L.getD j ae=ab:=by rw[eF (by omega)];simp[K]
      simp only[this];exact l
    |some d =>
     obtain⟨Wt,Wu⟩:=h.IC i o d A Q;refine⟨by simp[Act.put,k.size],k.defers.imp λ_ h1=>h1.mono n.ext,λt=>?_⟩
     simp only[Act.put]
     by_cases e:d=t
     .subst e;have Wv:d<a.tmps.size:=by rw[k.size];exact Wu
      simp only[cT,mO Wv,dG];unfold gn;simp only[Wt];rw[aU ((eF (by omega)).2 (.inl rfl))]
      exact F
     .have l:=(k.slot t).mono n.ext hh.len;simp only[cT] at l ⊢;rw[kX e];unfold gn at l ⊢;cases f:idx t with
      |none=>simpa[f] using l
      |some j =>
       simp only[f] at l ⊢;obtain⟨oj,p,r⟩:=h.xx _ _ f;have K:j≠i:=by rintro rfl;rw[A] at p;cases p;rw[Q] at r;cases r;exact e rfl
       have:((L.setIfInBounds i ab).getD j ae=ab)↔L.getD j ae=ab:=by rw[eF (by omega)];simp[K]
       simp only[this];exact l
   have:=h.one i o A H s a Ti hh b kk cs SS i (Region.linearise.go .any ops g (t / (aZ .any ops L).length) (L.setIfInBounds i ab) []) hb (by simpa using A)
   simp only[nT] at this;exact this λv s' F lG n=>ih _ E B C S s' _ (J _ _ n F) (by cases o.dst <;> exact Q) lG (st.trans n) _
theorem JC.region(h:JC X N ops φ σ x c idx last)(v:P.follows Departure.mixedOrders=ab){r:au->St->Prop}{b:aQ}{kk:List Item}{cs:List aQ}(hb:b.kind≠.early){s0:St}{a0:Act}{id:Nat}
  (u:cw N σ s0 φ a0) (p:a0.defers=[]) (l:aJ σ s0)
  (y:∀ s a,a.tmps.size=N->(∀ t,dh σ s (a.tmps.getD t aj) (match idx t with|some j=>if j=last then .any else x j|none=>look φ t))->a.defers=[]->aJ σ s->cC σ s0 σ s->fG X r (G (b.aT a (.inRegion ops [last]::kk)) cs) s) :
  fG X r (G (b.aT a0 (.code (.region id ops ab)::kk)) cs) s0:=by
 refine .next rfl λg e=>?_
 have e:=X.iO e;have f:=l.rely e;have m:=u.rely e l;have k:Step σ g σ { g with w:={ g.w with drawn:=g.w.drawn+1 } }:=Step.same rfl rfl rfl rfl;have n:aJ σ { g with w:={ g.w with drawn:=g.w.drawn+1 } }:=f.same rfl;have q:=e.stepW.trans (k.oA f);refine⟨_,{ g with w:={ g.w with drawn:=g.w.drawn+1 } },#[],lP,⟨⟨σ,σ,f,n,k⟩,.nil⟩,?_⟩;simp only[Region.schedule,v,Bool.true_or,bO];refine h.arr hb (s0:=s0) y ops.size _ (by simp) (by simp) ?_ ?_ _ a0 ?_ p n q _
 .simp[cT,mP];split <;> simp
 .intro i o A hi;simp[cT,mP] at hi;split at hi <;> simp at hi
 .have d:=m.mono (k.oA f) f.len;refine⟨d.size,d.defers,λt=>?_⟩
  unfold gn;cases z:idx t with
  |none=>exact d.slot t
  |some j =>
   simp only;rw[aO]
   .exact d.slot t
   .simp[cT,mP];split <;> simp
end
end Go.AM
namespace Go.AM
open Go.Conc Go.RowKit Go.Conc.Lib Go.ConcR.Gen
open Go.ConcN (WgLive Has RW DWs AtR0 EvW)
open Go.ConcN.Gen
open Go.ConcR (KK WgAt stA smA rd wr mk DC0 Payload)
section
variable {P:an}{R:az->az->Prop}{D:az->az->Array Event->Prop}{Stop A:au->az->Prop}
theorem Goes.never(b:∀ w,R w w)(f:∀ g w,Stop g w->∃ g' e,aK P ae g w=.go g' w #[e])(d:∀ n g w,A g w->¬Goes P ae R D Stop n g w) :
  ∀ (m n:Nat) (g:au) (w:az),Goes P ae R DC0 A m g w->¬Goes P ae R D Stop n g w
 |0,n,g,w,h,k=>d n g w (h w (b w)) k
 |m+1,n,g,w,h,k=>by
  rcases h with h|⟨_,h⟩
  .exact d n g w (h w (b w)) k
  .have h1:=h w (b w);cases a:aK P ae g w with
   |go g' w' es =>
    rw[a,goes_go] at h1;obtain⟨⟨rfl,rfl⟩,h2⟩:=h1;have no:¬Stop g w':=λj=>by
     obtain⟨g2,e,i⟩:=f g w' j;rw[i] at a;simp at a
    cases n with
    |zero=>exact no (k w' (b w'))
    |succ n =>
     rcases k with k|⟨_,k⟩
     .exact no (k w' (b w'))
     .have k1:=k w' (b w');rw[a,goes_go] at k1;exact Goes.never b f d m n g' w' h2 k1.2
   |_=>rw[a] at h1;exact h1.elim
theorem Goes.meet(b:∀ w,R w w)(i:∀ g w,Stop g w->∃ g' e,aK P ae g w=.go g' w #[e])(d:∀ n g w,A g w->Goes P ae R D Stop n g w->∀ w1,R w w1->Stop g w1) :
  ∀ (m n:Nat) (g:au) (w:az),Goes P ae R DC0 A m g w->Goes P ae R D Stop n g w->Goes P ae R DC0 Stop m g w
 |0,n,g,w,h,k=>d n g w (h w (b w)) k
 |m+1,n,g,w,h,k=>by
  rcases h with h|⟨f,h⟩
  .exact .inl (d n g w (h w (b w)) k)
  .refine .inr ⟨f,λw1 hr=>?_⟩
   have h1:=h w1 hr;cases a:aK P ae g w1 with
   |go g' w' es =>
    rw[a,goes_go] at h1;rw[goes_go];obtain⟨⟨rfl,rfl⟩,h2⟩:=h1;have no:¬Stop g w':=λf=>by
     obtain⟨g2,e,j⟩:=i g w' f;rw[j] at a;simp at a
    refine⟨⟨rfl,rfl⟩,?_⟩;cases n with
    |zero=>exact absurd (k w' hr) no
    |succ n =>
     rcases k with k|⟨_,k⟩
     .exact absurd (k w' hr) no
     .have k1:=k w' hr;rw[a,goes_go] at k1;exact Goes.meet b i d m n g' w' h2 k1.2
   |_=>rw[a] at h1;exact h1.elim
end
variable [Payload] {L:WgLink}{P:an}{Wg C n Low x:Nat}{val:ak}{c:aQ}{cs:List aQ}
def StK(P:an)(g:au)(_:az):Prop:=∃ g3,∀ w,aK P ae g w=.go g3 w #[mk .disable]
def StR(P:an)(L:WgLink)(Wg C n Low x:Nat)(val:ak)(g:au)(w:az):Prop :=
 (WgLive L.tWg Wg w/\Has C (x-1) val w)/\∃ g2,(∀ w,aK P ae g w=.go g2 w #[mk (.releaseMerge (stA Wg))])/\∀ w,WgLive L.tWg Wg w/\Has C (x-1) val w->∃ m,Goes P ae (RW L.tWg Wg C n Low (x-1)) DC0 (StK P) m g2 w
set_option maxRecDepth 100000 in
set_option maxHeartbeats 2000000 in
theorem LQ(H:WgLib P L)(w:az)(a:WgLive L.tWg Wg w/\Has C (x-1) val w) :
  Goes P ae (RW L.tWg Wg C n Low (x-1)) DC0 (StR P L Wg C n Low x val) 23 (G ((baseD L.done).at ⟨#[.pointer (aa ⟨Wg,0,af⟩),aj,aj,aj],[]⟩ [.code (body_done L)]) (c::cs)) w:=by
 lib_facts
 simp only[body_done,body_add,doneFn,addFn,dG]
 u_reg kn_rely a
 u_op kn_rely a
 u_in kn_rely a
 refine goes_call rfl rfl (by k_ne) rfl H.f_add (nm_add L) rfl ⟨by u_nil,?_⟩
 walk_nrmf addFn
 repeat (u_c aD kn_rely a)
 u_cond ab kn_rely a
 repeat (u_c aD kn_rely a)
 u_reg kn_rely a
 u_op kn_rely a
 u_op kn_rely a
 u_c aC kn_rely a
 repeat (u_c aD kn_rely a)
 u_cond ab kn_rely a
 u_reg kn_rely a
 u_op kn_rely a
 u_conv H.underlying_tWgP H.room_tWg (Go.ConcN.Gen.WgLive.cell0 a.1).choose_spec kn_rely a
 refine Goes.stop (λd b=>?_)
 replace a:=kn_rely a b
 clear b;refine⟨a,_,λw=>stepG_markAt .releaseMerge (by simp) rfl rfl (by k_ne) rfl H.f_relMerge (x_relMerge_n L) (x_relMerge_b L) (x_relMerge_x L) (x_relMerge_f L) (by simp[Act.eval,stA]),λw a=>⟨10,?_⟩⟩
 walk_nrm
 u_c aC kn_rely a
 repeat (u_c aD kn_rely a)
 u_reg kn_rely a
 exact Goes.stop λd b=>⟨_,λw=>stepG_mark0 .disable (by simp) rfl rfl (by k_ne) rfl H.f_disable (x_disable_n L) (x_disable_b L) (x_disable_x L) (x_disable_f L)⟩
theorem Ul(H:WgLib P L){z:Nat}(i:c.mode=.returning)(u:QuitsD P z 0 (G c cs))(w:az)(d:WgLive L.tWg Wg w/\Has C (x-1) val w) :
  Goes P ae (RW L.tWg Wg C n Low (x-1)) DC0 (AtR0 P L.tWg Wg C n Low x val) 23 (G ((baseD L.done).at ⟨#[.pointer (aa ⟨Wg,0,af⟩),aj,aj,aj],[]⟩ [.code (body_done L)]) (c::cs)) w:=by
 have B:=doneN (Own:=λ_ _=>False) (Rd:=λ_ _=>False) (Low:=Low) (n:=n) H i u w d
 have l:∀ g w,AtR0 P L.tWg Wg C n Low x val g w->∃ g' e,aK P ae g w=.go g' w #[e]:=λg w h=>by
  obtain⟨_,_,g',j,_⟩:=h;exact⟨g',_,j⟩
 have y:(mk (.releaseMerge (stA Wg)):Event)≠mk .disable:=by simp[mk]
 refine Goes.meet (λw=>.refl w) l ?_ _ _ _ _ (LQ H w d) B
 intro f g w h k w1 hr;obtain⟨d,g2,j,s⟩:=h;have a:AtR0 P L.tWg Wg C n Low x val g w1∨∃ o,Goes P ae (RW L.tWg Wg C n Low (x-1)) (DWs Wg (λ_ _=>False) (λ_ _=>False) C n x) (AtR0 P L.tWg Wg C n Low x val) o g2 w1:=by
  cases f with
  |zero=>exact .inl (k w1 hr)
  |succ f =>
   rcases k with k|⟨_,k⟩
   .exact .inl (k w1 hr)
   .have k1:=k w1 hr;rw[j w1,goes_go] at k1;exact .inr ⟨f,k1.2⟩
 rcases a with h|⟨o,h⟩
 .exact h
 .exfalso;obtain⟨m,t⟩:=s w1 (kn_rely d hr);refine Goes.never (λw=>.refl w) l ?_ _ _ _ _ t h
  rintro r g4 w4 ⟨g5,p⟩ k;have b:∀ w,¬AtR0 P L.tWg Wg C n Low x val g4 w:=λw v=>by
   obtain⟨_,_,g6,q,_⟩:=v;rw[p w] at q;simp[mk] at q
  cases r with
  |zero=>exact b w4 (k w4 (.refl w4))
  |succ r =>
   rcases k with k|⟨_,k⟩
   .exact b w4 (k w4 (.refl w4))
   .have k1:=k w4 (.refl w4);rw[p w4,goes_go] at k1;have:=(k1.1.2 _ (Array.mem_singleton.2 rfl)).2.1;exact this rfl
end Go.AM
namespace Go.AM.R1
open Go.Proofs Go.Conc Go.Conc.Lib
open Go.ConcN (WgLive PayAt Has RW AtR0)
open Go.ConcR (KK WgAt stA smA rd wr mk Payload DC0)
instance pay:Payload:=⟨193⟩
def l4(f:Int):dC:=λargs σ=>match args,σ with
 |[.e (.one (.c (.int .i64 k))),g,.e (.one (.c (.int .i64 n)))],[]=>match lg 2 g with
  |none=>af
  |some (b,d)=>aa (VM (dF k (cP.list b d) n),[],[cP.fits b d,k=f])
 |_,_=>af
noncomputable def O2:Code:=(Tryz.f140.body).getD .skip
noncomputable def J0:Array av:=match O2 with|.seq (.region _ o _) _=>o|_=>#[]
noncomputable def J1:Array av:=match O2 with|.seq _ (.region _ o _)=>o|_=>#[]
theorem J2:Tryz.f140.body=aa (.seq (.region 0 J0 ae) (.region 1 J1 ab)):=by kernel_rfl
def oW(d:Option Nat)(op:Op)(ty:ar)(b:Array Edge):av:={ dst:=d,op:=op,type:=ty,pos:= "l12_snap.go:82",after:=b,guard:=af }
def uD:List av:=[oW (aa 6) (.load 182 (.tmp 4)) 182 #[],oW (aa 7) (.load 3 (.tmp 5)) 3 #[],oW (aa 8) (.load 3 (.tmp 1)) 3 #[],oW (aa 9) (.load 23 (.tmp 2)) 23 #[],oW (aa 10) (.load 3 (.tmp 3)) 3 #[],
 oW (aa 11) (.call { callee:=.value (.func 142),args:=#[.tmp 8,.tmp 9,.tmp 10],argTypes:=#[3,23,3] }) 193 #[⟨2,.data⟩,⟨3,.data⟩,⟨4,.data⟩],
 oW (aa 12) (.indexAddr 182 (.tmp 6) (.tmp 7)) 0 #[⟨0,.data⟩,⟨1,.data⟩,⟨0,.phase⟩,⟨1,.phase⟩,⟨2,.phase⟩,⟨3,.phase⟩,⟨4,.phase⟩,⟨5,.phase⟩],
 oW af (.store 193 (.tmp 12) (.tmp 11)) 0 #[⟨6,.data⟩,⟨5,.data⟩,⟨5,.chain⟩,⟨0,.phase⟩,⟨1,.phase⟩,⟨2,.phase⟩,⟨3,.phase⟩,⟨4,.phase⟩,⟨5,.phase⟩]]
theorem Nr:J1=uD.toArray:=by kernel_rfl
theorem ou{i:Nat}{o:av}(h:uD[i]?=aa o):i<8:=(bt.1 h).1
section
variable (k:Int)(ps:List bC) (a:Int)(n x C:Nat)
def Uj(b:ak):Fr:=[(0,.e (.one (.v b))),(1,.e (.one (.c (.rp [.int .i64 k])))),(2,.e (.one (.c (.rp [.sl ae 2 ps.length (cP.fn ps)])))),(3,.e (.one (.c (.rp [.int .i64 a])))),(4,.e (.one (.c (.rp [.val (.slice (aa ⟨C,0,af⟩) n n)])))),(5,.e (.one (.c (.rp [.int .i64 x]))))]
def xW:Nat->D
 |0=>.e (.one (.v (.slice (aa ⟨C,0,af⟩) n n)))
 |1=>dI x
 |2=>dI k
 |3=>cP.sl ps
 |4=>dI a
 |5=>VM (dF k ps a)
 |6=>.e (.one (.v (.pointer (aa ⟨C,x*2,af⟩))))
 |_=>.any
def D5:Nat->Option Nat
 |6=>aa 0|7=>aa 1|8=>aa 2|9=>aa 3|10=>aa 4|11=>aa 5|12=>aa 6|_=>af
def ZR(b:ak):Nat->Fr
 |5=>[(8,dI k),(9,cP.sl ps),(10,dI a)]
 |6=>[(6,.e (.one (.v (.slice (aa ⟨C,0,af⟩) n n)))),(7,dI x)]
 |_=>Uj k ps a n x C b
end
theorem Ns{X:Cx ah}{n x C:Nat}(h:x<n):OA X 13 uD (oW (aa 12) (.indexAddr 182 (.tmp 6) (.tmp 7)) 0 #[⟨0,.data⟩,⟨1,.data⟩,⟨0,.phase⟩,⟨1,.phase⟩,⟨2,.phase⟩,⟨3,.phase⟩,⟨4,.phase⟩,⟨5,.phase⟩]) [(6,.e (.one (.v (.slice (aa ⟨C,0,af⟩) n n)))),(7,dI x)] [] (.e (.one (.v (.pointer (aa ⟨C,x*2,af⟩))))) []:=by
 refine .lJ (λ_ _ _ _=>dJ rfl) (bR.quiet λs ρ l g=>?_)
 have d:=g (.tmp 6);have b:=g (.tmp 7);have i:cj [(6,D.e (.one (.v (.slice (aa ⟨C,0,af⟩) n n)))),(7,dI x)] (.tmp 6)=.e (.one (.v (.slice (aa ⟨C,0,af⟩) n n))):=rfl;have j:cj [(6,D.e (.one (.v (.slice (aa ⟨C,0,af⟩) n n)))),(7,dI x)] (.tmp 7)=dI x:=rfl;rw[i] at d;rw[j] at b;have d:=Rd.gm d;have b:=ga b;generalize c:ρ (.tmp 7)=vy at b;cases b;have f:=(tok 182 i182 rfl).run_underlying (w:=s.w);refine⟨.pointer (aa ⟨C,x*2,af⟩),?_,Rd.val rfl,?_⟩
 .simp[aw,oW,d,c,Instr.indexAt,asIntOf,f,i182,(tok 193 i193 rfl).run_sizeOf,i193,di,h]
 .simp[aw,oW,d,c,Instr.indexAt,asIntOf,f,i182,di,h]
theorem Uk{X:Cx ah}{k:Int}(l:eb X 142 (l4 k))(ps:List bC) (a:Int)(n x C:Nat)(u:x<n)(m:ak) :
  JC X 13 uD.toArray (Uj k ps a n x C m) [] (xW k ps a n x C) (ZR k ps a n x C m) D5 7:=by
 have q:b5 X [(142,l4 k)]:=b5.cons l b5.nil;have f:∀ (i:Nat) (o:av) (φ:Fr) (d:D) (obs:List Prop),uD[i]?=aa o->E4 tt [(142,l4 k)] [] uD φ [] o=aa (d,af,obs)->ai obs->OA X 13 uD o φ [] d [] :=
  λi o φ d obs _ h b=>hY tok q h b
 refine⟨?_,?_,?_,?_,?_,?_,by decide⟩
 .intro i o b e p _;simp only[iR] at b;have hi:=ou b
  match i,hi with
  |0,_|1,_|2,_|3,_|4,_|5,_|6,_|7,_ =>
   cases b;simp[oW] at p
   try (rcases p with rfl|rfl|rfl|rfl|rfl|rfl|rfl|rfl|rfl <;> decide)
   try (rcases p with rfl|rfl|rfl <;> decide)
 .intro i o d b r;simp only[iR] at b;have hi:=ou b
  match i,hi with
  |0,_|1,_|2,_|3,_|4,_|5,_|6,_|7,_ =>
   cases b;cases r
   try exact⟨rfl,by decide⟩
 .intro d i h;unfold D5 at h;split at h <;> cases h <;> exact⟨_,rfl,rfl⟩
 .intro i o b c;simp only[iR] at b;have hi:=ou b
  match i,hi with
  |0,_=>cases b;exact f 0 _ _ _ _ rfl rfl ay
  |1,_=>cases b;exact f 1 _ _ _ _ rfl rfl ay
  |2,_=>cases b;exact f 2 _ _ _ _ rfl rfl ay
  |3,_=>cases b;exact f 3 _ _ _ _ rfl rfl ay
  |4,_=>cases b;exact f 4 _ _ _ _ rfl rfl ay
  |5,_ =>
   cases b;have:=f 5 _ (ZR k ps a n x C m 5) _ _ rfl rfl (by simp[ai,cP.aH])
   rw[cP.list_fn] at this;exact this
  |6,_=>cases b;exact Ns u
  |7,_=>exact absurd rfl c
 .intro i o b c t σ s v g;simp only[iR] at b;have hi:=ou b
  match i,hi with
  |0,_|1,_|2,_|3,_|4,_ =>
   match t with
   |0|1|2|3|4|5=>exact g
   |t+6=>trivial
  |5,_ =>
   cases b
   match t with
   |8=>exact(show dh σ s v (xW k ps a n x C 2) from by simpa[D5,oW,de,Region.binds] using g)
   |9=>exact(show dh σ s v (xW k ps a n x C 3) from by simpa[D5,oW,de,Region.binds] using g)
   |10=>exact(show dh σ s v (xW k ps a n x C 4) from by simpa[D5,oW,de,Region.binds] using g)
   |0|1|2|3|4|5|6|7=>trivial
   |t+11=>trivial
  |6,_ =>
   cases b
   match t with
   |6=>exact(show dh σ s v (xW k ps a n x C 0) from by simpa[D5,oW,de,Region.binds] using g)
   |7=>exact(show dh σ s v (xW k ps a n x C 1) from by simpa[D5,oW,de,Region.binds] using g)
   |0|1|2|3|4|5=>trivial
   |t+8=>trivial
  |7,_=>exact absurd rfl c
 .intro o b j w c;simp only[iR] at b;cases b
  match j,w with
  |0,_=>exact⟨⟨0,.phase⟩,by simp[oW],rfl,rfl⟩
  |1,_=>exact⟨⟨1,.phase⟩,by simp[oW],rfl,rfl⟩
  |2,_=>exact⟨⟨2,.phase⟩,by simp[oW],rfl,rfl⟩
  |3,_=>exact⟨⟨3,.phase⟩,by simp[oW],rfl,rfl⟩
  |4,_=>exact⟨⟨4,.phase⟩,by simp[oW],rfl,rfl⟩
  |5,_=>exact⟨⟨5,.phase⟩,by simp[oW],rfl,rfl⟩
  |6,_=>exact⟨⟨6,.data⟩,by simp[oW],rfl,rfl⟩
  |7,_=>exact absurd rfl c
noncomputable def uE:aQ:={ (default:aQ) with fn:=Tryz.prog.funcs.size,defers:=[],mode:=.panicking [goexitEntry] }
def wH(vs:Array ak):Deferred:={ target:=.fn (.func 140) vs,args:=#[] }
theorem GM(v0 v1 v2 v3 v4 v5:ak)(w:az):aK ah ae (born ah (wH #[v0,v1,v2,v3,v4,v5])) w =
  .go (G ((baseD 140).at ⟨#[v0,v1,v2,v3,v4,v5,aj,aj,aj,aj,aj,aj,aj],[]⟩ [.code (.seq (.region 0 J0 ae) (.region 1 J1 ab))]) [uE]) w #[]:=by
 have d:=J2;have c:Tryz.f140.ntmps=13:=by kernel_rfl
 have b:¬Tryz.f140.name= "runtime.NumGoroutine":=by
  have:(Tryz.f140.name== "runtime.NumGoroutine")=ae:=by kernel_rfl
  simpa using this
 simp[born,wH,aK,unwind,callDeferred,invoke,callFunc,Tryz.func140,d,c,b,seen,GStep.after,G,Frame.enter,Frame.at,baseD,uE]
end Go.AM.R1
namespace Go.AM.R1
open Go.Proofs
variable {X:Cx ah}
abbrev pk(ps:List bC)(i:Nat):bC:=ps.getD i (0,[])
theorem JU{k n:Int}{ps:List bC}{i:Nat}{r:Bs}(hi:i<ps.length)(h:dL k (pk ps i) n=aa r)(a:∀ j,j<i->dL k (pk ps j) n=af):dF k ps n=aa r:=by
 unfold dF
 induction ps generalizing i with
 |nil=>simp at hi
 |cons p ps ih =>
  cases i with
  |zero=>simp only[pk,List.getD_cons_zero] at h;simp[zh,h]
  |succ i =>
   have b:=a 0 (by omega)
   simp only[pk,List.getD_cons_zero] at b;simp only[zh,b];exact ih (i:=i) (by simpa using hi) (by simpa[pk] using h) λj c=>by have:=a (j+1) (by omega);simpa[pk] using this
theorem DY{k n:Int}{ps:List bC}(a:∀ j,j<ps.length->dL k (pk ps j) n=af):dF k ps n=af:=by
 unfold dF;rw[List.findSome?_eq_none_iff];intro p c;obtain⟨j,b,rfl⟩:=dN c;have:=a j b;simpa[pk,ag,aR b] using this
theorem Bg.Vy{P:an}{φ:Fr}{σ:List aW}{T:List (Nat×TI)}(f:dk P T){fn:Func}{c:Nat}{res:D}{σ':List aW}(ks:List Nat){ps:List Prop}(h:Mz T fn.results.toList ks φ res=aa ps)(e:ai ps)(i:kW ks σ=aa σ')(b:km σ'=ab)(hn:eh ks=ab)(k:∀ j,j<c->ks[j]?=aa j) :
  Bg P fn c res σ' .ret φ σ:=by
 refine⟨.inl rfl,ks,?_⟩;unfold Mz at h;split at h
 .rename_i ds Iw
  split at h
  .rename_i d g
   split at h
   .rename_i a
    exact⟨d,ps,Be.Vy f Iw g,h,e,a,i,b,hn,k⟩
   .cases h
  .cases h
 .cases h
theorem l3{a:List Nat}:∀ j,j<0->a[j]?=aa j:=λ_ h=>absurd h (jm _)
theorem JV(b:eb X 165 pe) (k:Int)(ps:List bC) (n:Int)(m:cD k=ab):Ev X 142 [dI k,cP.sl ps,dI n] [] (VM (dF k ps n)) []:=by
 refine Ev.kL Tryz.func142 rfl rfl rfl λo=>?_
 have l:=o.sl 1 rfl;have d:b5 X [(186,C5 aI (JS eY) aI (λk p n=>Ae (dL k p n)) λk _ _=>[cD k=ab])]:=.cons (QV b) .nil
 refine aE d [] 100 rfl ay ?_;refine AK.cd 1 (λi=>i<=ps.length/\∀ j,j<i->dL k (pk ps j) n=af) (λi:Nat=>[(0,dI k),(2,dI n),(6,.e (.one (.ptr 0 0))),(11,cP.sl ps),(12,dI ps.length),(13,dI i)]) (λ_=>[.cells 193 [.c (.str []),.c (.bool ae)]]) (λi=>ps.length-i) 0 rfl ?_ rfl ?_ rfl ⟨by omega,by omega⟩ ?_
 .simp[ai.cat,ai,a9.same]
 .simp[ai.cat,ai]
 rintro i ⟨hi,a⟩
 by_cases h:i<ps.length
 .cases f:dL k (pk ps i) n with
  |some r =>
   refine aE d [(14,ab),(24,ab)] 100 rfl ?_ (AK.freeze 6 0 rfl rfl rfl (AK.eC ?_))
   .simp only[ai,bu,eY.list_fn];refine⟨?_,eY.aH _,m,by omega,by omega,b9 (by omega)⟩
    show (dL k (pk ps i) n).isSome=ab;rw[f];rfl
   .refine Bg.Vy tok [] rfl ?_ rfl rfl rfl l3;rw[JU h f a];simp only[bu,eY.list_fn];have e:dL k ((ps.getD i cP.bU).1,(ps.getD i cP.bU).2) n=aa r:=f;rw[e];simp[ai.cat,ai]
  |none =>
   refine aE d [(14,ab),(24,ae)] 100 rfl ?_ (AK.bg (i+1) rfl ?_ rfl rfl rfl ?_ rfl ?_ ?_)
   .simp only[ai,bu,eY.list_fn];refine⟨by simp only[bD];omega,?_,eY.aH _,m,by omega,by omega,b9 (by omega)⟩
    show (dL k (pk ps i) n).isSome=ae;rw[f];rfl
   .simp[ai.cat,ai,a9.same]
   .simp[ai.cat,ai]
   .refine⟨by omega,λj g=>?_⟩
    rcases fU.1 g with g|rfl
    .exact a j g
    .exact f
   .show ps.length-(i+1)<ps.length-i;omega
 .refine aE d [(14,ae)] 100 rfl (by simp[ai];omega) (AK.leaveD rfl rfl ?_)
  refine aE d [] 100 rfl ay ?_;refine AK.freeze 6 0 rfl rfl rfl ?_;refine AK.mX tok [] rfl ?_ rfl rfl rfl l3;rw[DY λj g=>a j (by omega)]
  simp[ai.cat,ai]
theorem QW(a:eb X 165 pe){k:Int}(d:cD k=ab):eb X 142 (l4 k):=by
 intro args σ res σ' obs h e;unfold l4 at h;split at h
 .rename_i k1 da n
  split at h
  .cases h
  .rename_i f g c
   cases h;obtain⟨b,rfl⟩:=e;exact(JV a _ _ n d).args λs vs=>cG.imp (λ_ r=>r) (cG.imp (λ_ r=>cP.ko c b r) (cG.imp (λ_ r=>r) (λ_ r=>r))) vs
 .cases h
def Gy:dC:=λargs σ=>match args,σ with
 |[.e (.one (.c (.str [46]))),.e (.one (.c (.int .i64 c)))],[]=>aa (dS (List.replicate c.toNat 46),[],[0<=c/\c<=3])
 |_,_=>af
theorem t209:eb X 209 (k6 aI (λn=>dI (cB n.toNat)) λn=>[0<=n/\n<=4000000]):=.pf λn h=>by
 have a:0<=n/\n<=4000000:=h;obtain⟨m,rfl⟩:∃ m:Nat,n=m:=⟨n.toNat,by omega⟩
 exact BQ (X:=X) m (by omega)
theorem JW{n:Nat}(b:1<=n)(a:n<=8):n<=cB n/\cB n<=n+3:=by
 unfold cB;split
 .omega
 .split
  .omega
  .split <;> omega
theorem JX(a:eb X 208 Gy)(p:Bs):Ev X 165 [dS p] [] (dS (iQ p)) []:=by
 refine Ev.body Tryz.func165 rfl rfl rfl λe=>?_
 have d:b5 X [(164,k6 aS (λs=>dB (bT s)) λ_=>[]),(209,k6 aI (λn=>dI (cB n.toNat)) λn=>[0<=n/\n<=4000000]),(208,Gy)]:=.cons t164 (.cons t209 (.cons a .nil))
 by_cases b:bT p=ab
 .have c:=b;simp only[bT,bG,bh] at c;have f:=JW c.1.1 c.1.2;refine aE d [(5,ae)] 100 rfl ?_ (AK.br rfl ?_)
  .simp[ai,b,bD];omega
  .simp[ai,ai.cat,iQ,b]
 .refine aE d [(5,ab)] 100 rfl ?_ (AK.br rfl ?_)
  .simp[ai,b]
  .simp[ai,ai.cat,iQ,b]
theorem Uc(a:eb X 208 Gy):eb X 165 pe:=.pf λp _=>JX a p
theorem Nj:Ev X 208 [dS [46],dI 0] [] (dS []) []:=by
 refine Ev.body Tryz.func208 rfl rfl rfl λa=>?_
 refine bd [(12,ab)] 100 rfl ?_ (AK.br rfl ?_)
 .simp[ai]
 .simp[ai,ai.cat]
theorem Nk:Ev X 208 [dS [46],dI 1] [] (dS [46]) []:=by
 refine Ev.body Tryz.func208 rfl rfl rfl λa=>?_
 refine bd [(12,ae),(14,ab)] 100 rfl ?_ (AK.br rfl ?_)
 .simp[ai]
 .simp[ai,ai.cat]
theorem Ua(a:Ev X 208 [dS [46],dI 2] [] (dS [46,46]) [])(d:Ev X 208 [dS [46],dI 3] [] (dS [46,46,46]) []):eb X 208 Gy:=by
 intro args σ res σ' obs h b;unfold Gy at h;split at h
 .rename_i c
  cases h;have:c=0∨c=1∨c=2∨c=3:=by have:0<=c/\c<=3:=b;omega
  rcases this with rfl|rfl|rfl|rfl
  .exact Nj
  .exact Nk
  .exact a
  .exact d
 .cases h
end Go.AM.R1
namespace Go.AM.R1
open Go.Proofs
theorem D2{P:an}{o:av}{k:aq->D}{σ:List aW}{op:BinOp}{t ty:ar}{x y:aq}(h:o.op=.binOp op t x y ty){e:ar}(C:P.underlying t=aa (.pointer e)){b c:Bool}
  (A:∀ s u v,aJ σ s->dh σ s u (k x)->dh σ s v (k y)->∃ p q,u=.pointer p/\v=.pointer q/\(p==q)=b/\(eqGuard op t x y u v).run P s.w=.ok () s.w/\(∀ es,(eqGuard op t x y u v).events P s.w es=es) /\
   (Op.equal t u v).run P s.w=.ok b s.w/\∀ es,(Op.equal t u v).events P s.w es=es)
  (n:lU op b=aa c):bR P o k σ (.e (.one (.c (.bool c)))) σ:=by
 refine .quiet λs ρ z r=>?_
 obtain⟨p,q,f,g,B,i,l,j,m⟩:=A s _ _ z (r x) (r y);rw[f,g] at i j;have d:=l #[];have a:=m #[];rw[f,g] at d a;cases op <;> simp only[lU,reduceCtorEq,cV] at n
 .subst n;exact⟨.bool b,by simp[aw,h,f,g,i,binOp,j],Rd.bool,by simp[aw,h,f,g,i,d,binOp,j,a]⟩
 .subst n;exact⟨.bool (!b),by simp[aw,h,f,g,i,binOp,j],Rd.bool,by simp[aw,h,f,g,i,d,binOp,j,a]⟩
theorem QL{P:an}{o:av}{i:aq->D}{σ:List aW}{op:BinOp}{t ty:ar}{x:aq}(h:o.op=.binOp op t x (.const (.pointer af)) ty){e:ar}(g:P.underlying t=aa (.pointer e)){c:Bool}
  (l:i x=.e (.one (.c .mb))) (j:i (.const (.pointer af))=.e (.one (.c .mb))) (m:lU op ab=aa c):bR P o i σ (.e (.one (.c (.bool c)))) σ:=by
 refine D2 h g (b:=ab) ?_ m;intro s u v _ d a;rw[l] at d;rw[j] at a
 replace d:=ga d
 replace a:=ga a
 cases d;cases a;have k:(Op.equal t (.pointer af) (.pointer af)).run P s.w=.ok ab s.w:=by
  show (Op.equalIn (9999+1) t _ _).run P s.w=_;unfold Op.equalIn;simp[underlying,g]
 have f:∀ es,(Op.equal t (.pointer af) (.pointer af)).events P s.w es=es:=λes=>by
  show (Op.equalIn (9999+1) t _ _).events P s.w es=es;unfold Op.equalIn;simp[underlying,g]
 exact⟨af,af,rfl,rfl,rfl,by cases op <;> simp[eqGuard],λes=>by cases op <;> simp[eqGuard],k,f⟩
theorem QM{P:an}{o:av}{g:aq->D}{σ:List aW}{op:BinOp}{t ty:ar}{x:aq}(h:o.op=.binOp op t x (.const (.pointer af)) ty){e:ar}(f:P.underlying t=aa (.pointer e)){c:Bool}{l off:Nat}
  (m:g x=.e (.one (.ptr l off))) (j:g (.const (.pointer af))=.e (.one (.c .mb))) (n:lU op ae=aa c):bR P o g σ (.e (.one (.c (.bool c)))) σ:=by
 refine D2 h f (b:=ae) ?_ n;intro s u v _ i a;rw[m] at i;rw[j] at a
 replace a:=ga a
 cases a;obtain⟨_,L,b,_,_,rfl⟩:=(i:gB σ s u (.ptr l off));have k:(Op.equal t (.pointer (aa ⟨b,off,af⟩)) (.pointer af)).run P s.w=.ok ae s.w:=by
  show (Op.equalIn (9999+1) t _ _).run P s.w=_;unfold Op.equalIn;simp[underlying,f]
 have d:∀ es,(Op.equal t (.pointer (aa ⟨b,off,af⟩)) (.pointer af)).events P s.w es=es:=λes=>by
  show (Op.equalIn (9999+1) t _ _).events P s.w es=es;unfold Op.equalIn;simp[underlying,f]
 exact⟨_,af,rfl,rfl,rfl,by cases op <;> simp[eqGuard],λes=>by cases op <;> simp[eqGuard],k,d⟩
theorem Na{P:an}{o:av}{k:aq->D}{σ:List aW}{op:BinOp}{t ty:ar}{x y:aq}(h:o.op=.binOp op t x y ty){e:ar}(i:P.underlying t=aa (.pointer e)){n:Nat}(m:n≠0)
  (r:∀ w,(sizeOf e).run P w=.ok n w) (j:∀ w es,(sizeOf e).events P w es=es) {c:Bool} {l off:Nat}
  (A:k x=.e (.one (.ptr l off))) (B:k y=.e (.one (.ptr l off))) (E:lU op ab=aa c):bR P o k σ (.e (.one (.c (.bool c)))) σ:=by
 refine D2 h i (b:=ab) ?_ E;intro s u v _ q p;rw[A] at q;rw[B] at p;obtain⟨_,L,b,z,f,rfl⟩:=(q:gB σ s u (.ptr l off));obtain⟨_,F,G,d,a,rfl⟩:=(p:gB σ s v (.ptr l off));rw[z] at d;cases d;rw[f] at a;cases a;have C:(Op.equal t (.pointer (aa ⟨b,off,af⟩)) (.pointer (aa ⟨b,off,af⟩))).run P s.w=.ok ab s.w:=by
  show (Op.equalIn (9999+1) t _ _).run P s.w=_;unfold Op.equalIn;simp[underlying,i,r,m,sameAddr]
 have g:∀ es,(Op.equal t (.pointer (aa ⟨b,off,af⟩)) (.pointer (aa ⟨b,off,af⟩))).events P s.w es=es:=λes=>by
  show (Op.equalIn (9999+1) t _ _).events P s.w es=es;unfold Op.equalIn;simp[underlying,i,r,j,m,sameAddr]
 exact⟨_,_,rfl,rfl,by simp,by cases op <;> simp[eqGuard],λes=>by cases op <;> simp[eqGuard],C,g⟩
end Go.AM.R1
namespace Go.AM
open Go.Conc (G)
def tQ{P:an}(X:Cx P)(N:Nat)(all:List av)(o:av)(φ:Fr)(σ:List aW){ι:Type}(x:ι->D)(σ':ι->List aW):Prop :=
 ∀ s a,cw N σ s φ a->aJ σ s->∀ (b:aQ) (k:List Item) (cs:List aQ) (S:au->St->Prop) (i:Nat) (rest:List Nat),b.kind≠.early->all.toArray[i]?=aa o ->
  (∀ j v s',dh (σ' j) s' v (x j)->aJ (σ' j) s'->cC σ s (σ' j) s'->fG X S (G (b.aT (a.put o.dst v) (.inRegion all.toArray rest::k)) cs) s')->fG X S (G (b.aT a (.inRegion all.toArray (i::rest)::k)) cs) s
def zV:List av->Nat->(Nat->D)->List (Option Nat×D)
 |[],_,_=>[]
 |o::r,i,x=>(o.dst,x i)::zV r (i+1) x
theorem wj{x:Nat->D}:∀ {l:List av}{k j:Nat},(zV l k x)[j]?=(l[j]?).map λo=>(o.dst,x (k+j))
 |[],k,j=>by simp[zV]
 |o::r,k,0=>by simp[zV]
 |o::r,k,j+1=>by
  simp only[zV,lK];rw[wj,show k+1+j=k+(j+1) by omega]
def nL(all:List av)(φ:Fr)(x:Nat->D)(i:Nat):Fr:=js (λj=>hX j (b6 (all.getD i ja).after.toList)) 0 (zV all 0 x) (uz all φ)
def MO(all:List av)(φ:Fr)(x:Nat->D):Fr:=js (λ_=>ab) 0 (zV all 0 x) (uz all φ)
def o0(N:Nat):List av->Bool
 |[]=>ab
 |o::r=>match iP N o.dst with|true=>o0 N r|false=>ae
theorem yg{N:Nat}:∀ {l:List av},o0 N l=ab->∀ (i:Nat)(o:av),l[i]?=aa o->iP N o.dst=ab
 |[],_,i,o,h=>by simp at h
 |p::r,h,i,o,hi=>by
  simp only[o0] at h;split at h
  .rename_i a
   cases i with
   |zero=>simp at hi;subst hi;exact a
   |succ i=>exact yg h i o (by simpa using hi)
  .cases h
def tR:List av->Nat->Bool
 |[],_=>ab
 |o::r,i=>match Sx i (b6 o.after.toList) with|true=>tR r (i+1)|false=>ae
theorem BD:∀ {l:List av}{k:Nat},tR l k=ab->∀ (i:Nat)(o:av),l[i]?=aa o->∀ e∈b6 o.after.toList,e<k+i
 |[],_,_,i,o,h=>by simp at h
 |p::r,k,h,i,o,hi=>by
  simp only[tR] at h;split at h
  .rename_i b
   cases i with
   |zero=>simp at hi;subst hi;exact Dl b
   |succ i=>intro e a;have:=BD h i o (by simpa using hi) e a;omega
  .cases h
def zW(pre:Nat->Bool):List Nat->Bool
 |[]=>ae
 |e::r=>match pre e with|true=>zW pre r|false=>ab
theorem yh{pre:Nat->Bool}:∀ {l:List Nat},zW pre l=ab->∃ e∈l,pre e=ae
 |[],h=>by cases h
 |e::r,h=>by
  simp only[zW] at h;split at h
  .obtain⟨b,d,a⟩:=yh h;exact⟨b,j9 _ d,a⟩
  .rename_i c;exact⟨e,by simp,c⟩
def zX(pre:Nat->Bool)(m:Nat):List av->Nat->Bool
 |[],_=>ab
 |o::r,i=>match pre i with
  |true=>zX pre m r (i+1)
  |false=>match aA i m with
   |true=>zX pre m r (i+1)
   |false=>match zW pre (b6 o.after.toList) with|true=>zX pre m r (i+1)|false=>ae
theorem Fp{pre:Nat->Bool}{m:Nat}:∀ {l:List av}{k:Nat},zX pre m l k=ab->∀ (i:Nat)(o:av),l[i]?=aa o->pre (k+i)=ae->k+i≠m->∃ e∈b6 o.after.toList,pre e=ae
 |[],_,_,i,o,h=>by simp at h
 |p::r,k,h,i,o,hi=>by
  intro b c;simp only[zX] at h;cases i with
  |zero =>
   simp at hi;subst hi;simp only[gG] at b c;have a:aA k m=ae:=by
    cases a:aA k m with
    |true=>exact absurd (bE a) c
    |false=>rfl
   simp only[b,a] at h;split at h
   .rename_i d;exact yh d
   .cases h
  |succ i =>
   have f:zX pre m r (k+1)=ab:=by
    split at h
    .exact h
    .split at h
     .exact h
     .split at h
      .exact h
      .cases h
   exact Fp f i o (by simpa using hi) (by rw[show k+1+i=k+(i+1) by omega];exact b) (by omega)
section
variable {P:an}{X:Cx P}{N:Nat}{ops:Array av}{φ:Fr}{σ:List aW}{idx:Nat->Option Nat}
theorem MZ{x:Nat->D}{s:St}{a:Act}{L:Array Bool}{i:Nat}{o:av}(g:∀ t σ s v,dh σ s v (match idx t with|some j=>(if ∃ e∈o.after,de e=ab/\e.on=j then x j else .any)|none=>look φ t)->dh σ s v (look (nL ops.toList φ x i) t))
  (h:HT N σ s (gn φ x idx L) a) (c:∀ e∈o.after,de e=ab->L.getD e.on ae=ab):cw N σ s (nL ops.toList φ x i) a:=h.IB λt σ s v d=>g t σ s v (by
 unfold gn at d;cases b:idx t with
 |none=>simpa[b] using d
 |some j =>
  simp only[b] at d ⊢;split
  .rename_i f
   obtain⟨e,l,k,rfl⟩:=f;rw[aU (c e l k)] at d;exact d
  .trivial)
theorem Gt{x y:Nat->D}{σ2:List aW}{s s':St}{a:Act}{v:ak}{L:Array Bool}{i:Nat}{o:av}(n:∀ d,o.dst=aa d->idx d=aa i/\d<N)(l:∀ d j,idx d=aa j->∃ o,ops[j]?=aa o/\o.dst=aa d)
  (C:ops[i]?=aa o) (B:i<L.size) (z:∀ j,L.getD j ae=ab->y j=x j) (p:s.β.length=σ.length) (st:cC σ s σ2 s') (c:HT N σ s (gn φ x idx L) a) (F:dh σ2 s' v (y i)):HT N σ2 s' (gn φ y idx (L.setIfInBounds i ab)) (a.put o.dst v):=by
 have old:∀ t,idx t≠aa i->dh σ2 s' (a.tmps.getD t aj) (gn φ y idx (L.setIfInBounds i ab) t):=by
  intro t E;have b:=(c.slot t).mono st.ext p;unfold gn at b ⊢;cases m:idx t with
  |none=>simpa[m] using b
  |some j =>
   simp only[m] at b ⊢;have q:j≠i:=by rintro rfl;exact E m
   have e:((L.setIfInBounds i ab).getD j ae=ab)↔L.getD j ae=ab:=by rw[eF B];simp[q]
   by_cases k:L.getD j ae=ab
   .rw[aU (e.2 k),z j k];rw[aU k] at b;exact b
   .rw[aO (λh=>k (e.1 h))];rw[aO k] at b;exact b
 cases k:o.dst with
 |none =>
  refine⟨c.size,c.defers.imp λ_ r=>r.mono st.ext,λt=>?_⟩
  refine old t λh=>?_
  obtain⟨G,g,f⟩:=l _ _ h;rw[C] at g;cases g;rw[k] at f;cases f
 |some d =>
  obtain⟨u,A⟩:=n d k;refine⟨by simp[Act.put,c.size],c.defers.imp λ_ r=>r.mono st.ext,λt=>?_⟩
  simp only[Act.put]
  by_cases e:d=t
  .subst e;have w:d<a.tmps.size:=by rw[c.size];exact A
   simp only[cT,mO w,dG];unfold gn;simp only[u];rw[aU ((eF B).2 (.inl rfl))];exact F
  .have:=old t (λh=>by
    obtain⟨G,g,f⟩:=l _ _ h;rw[C] at g;cases g;rw[k] at f;cases f;exact e rfl)
   simp only[cT] at this ⊢;rw[kX e];exact this
theorem Jq{back:∀ i o,ops[i]?=aa o->∀ e∈o.after,de e=ab->e.on<i}{L:Array Bool}(h:L.size=ops.size)(g:aZ .any ops L=[]):∀ i,i<ops.size->L.getD i ae=ab:=by
 intro i
 induction i using Nat.strongRecOn with
 |_ i a =>
  intro hi;cases d:L.getD i ae with
  |true=>rfl
  |false =>
   have c:i∈aZ .any ops L:=mem_ready.2 ⟨ops[i],dm hi,by
    simpa[cT,dm (by omega:i<L.size)] using d,λe f b=>by
    have:=back i _ (dm hi) e f b;exact a _ this (by omega)⟩
   rw[g] at c;simp at c
theorem DI{L:Array Bool}{t:Nat}(a:(aZ .any ops L)[t % (aZ .any ops L).length]?=af):aZ .any ops L=[]:=by
 cases d:aZ .any ops L with
 |nil=>rfl
 |cons y c =>
  rw[d] at a;have b:t % (y::c).length<(y::c).length:=ik _ (by simp)
  simp at a;simp at b;omega
theorem zY{L:Array Bool}(d:L.size=ops.size)(e:(L.toList.filter (λb=>!b)).length<=0):∀ i,i<ops.size->L.getD i ae=ab:=by
 intro i hi;have c:L[i]'(by omega)∈L.toList:=by simp
 cases a:L[i]'(by omega) with
 |true=>simp[cT,dm (by omega:i<L.size),a]
 |false =>
  have:L[i]'(by omega)∈L.toList.filter (λb=>!b):=lq.2 ⟨c,by simp[a]⟩
  have:=uN this;omega
end
def qk(xs:List UInt8):List ak:=xs.map λx=>.int .u8 x.toNat
theorem pR{xs:List UInt8}:(qk xs).length=xs.length:=by simp[qk]
theorem Mn{xs b:List UInt8}:qk (xs++b)=qk xs++qk b:=by simp[qk]
def oR(bf:Option (Nat×Nat))(n:Nat):ak:=match bf with|none=>.slice af 0 0|some (g,cap)=>.slice (aa ⟨g,0,af⟩) n cap
def BB(T E:ar)(a:Bool)(v1:ak)(bf:Option (Nat×Nat))(xs:List UInt8)(f:Nat):ak->(Nat->Option Obj)->Prop:=λv d =>
 ∃ b,v=.pointer (aa ⟨b,0,af⟩)/\c8 v1=ab/\d b=aa (.cells #[if a then v else .pointer af,v1] T (0,0)) /\
 match bf with
 |none=>xs=[]/\∀ c,(d c).isSome=ab↔c=b
 |some (g,cap)=>g≠b/\xs.length<=cap/\0<cap/\cap<=9223372036854775807/\f<=xs.length/\(∃ e,(qk xs++e).length=cap/\d g=aa (.cells (qk xs++e).toArray E (0,f)))/\∀ c,(d c).isSome=ab↔c=b∨c=g
section
variable {P:an}{X:Cx P}{N:Nat}{m:List (Nat×TI)}{o:av}{k:aq->D}{σ:List aW}{l:Nat}{T E:ar}{a:Bool}{v1:ak}{bf:Option (Nat×Nat)}{xs:List UInt8}{f:Nat}{s:St}
structure vt (P:an)(σ:List aW)(s:St)(l:Nat)(T E:ar)(a:Bool)(v1:ak)(bf:Option (Nat×Nat))(xs:List UInt8)(f:Nat)(L:Loc)(b:Nat)(ch:Nat->Option Obj):Prop where
 β:s.β[l]?=aa L
 v:L.v=.pointer (aa ⟨b,0,af⟩)
 bb:BB T E a v1 bf xs f L.v ch
 heap:∀ (b:Nat) (o:Obj),ch b=aa o->s.w.heap[b]?=aa o
 bs:∀ b,b∈L.bs↔(ch b).isSome=ab
 M:∀ b∈L.bs,∀ o,s.M b o=af
 ch:ch b=aa (.cells #[if a then L.v else .pointer af,v1] T (0,0))
 cell:c8 v1=ab
theorem BB.row(hh:aJ σ s)(hl:σ[l]?=aa (.dM (BB T E a v1 bf xs f))):∃ L b ch,vt P σ s l T E a v1 bf xs f L b ch:=by
 have c:l<s.β.length:=by rw[hh.len];exact(bt.1 hl).1
 have d:=aR c;generalize s.β[l]=L at d;obtain⟨ch,g,h1,h2,h⟩:=hh.box l _ L hl d;have e:=g;obtain⟨b,j,i,hb,_⟩:=e;exact⟨L,b,ch,d,j,g,h1,h2,h,hb,i⟩
theorem vt.mem{L:Loc}{b:Nat}{ch:Nat->Option Obj}(r:vt P σ s l T E a v1 bf xs f L b ch):b∈L.bs:=(r.bs b).2 (by rw[r.ch];rfl)
theorem vt.ptr{L:Loc}{b:Nat}{ch:Nat->Option Obj}(r:vt P σ s l T E a v1 bf xs f L b ch){v:ak}{off:Nat}(h:dh σ s v (.e (.one (.ptr l off)))):v=.pointer (aa ⟨b,off,af⟩):=by
 obtain⟨_,c,d,h1,h2,rfl⟩:=(h:gB σ s v (.ptr l off));rw[r.β] at h1;cases h1;rw[r.v] at h2;cases h2;rfl
theorem Ic(A:dk P m){t:ar}{x:aq}{i:TI}(h:o.op=.load t x)(hi:bL m t=aa i)(z:i.agg=ae)(H:σ[l]?=aa (.dM (BB T E a v1 bf xs f))){off:Nat}{d:D}(J:k x=.e (.one (.ptr l off)))
  (G:∀ s L b ch,aJ σ s->vt P σ s l T E a v1 bf xs f L b ch->∃ v,(#[if a then L.v else .pointer af,v1]:Array ak)[off]?=aa v/\dh σ s v d):bR P o k σ d σ:=by
 refine .n5 λs ρ C I=>?_
 obtain⟨L,b,ch,r⟩:=BB.row (P:=P) C H;have F:=r.ptr (by have:=I x;rwa [J] at this)
 obtain⟨v,y,u⟩:=G s L b ch C r;have c:s.w.cell? ⟨b,off,af⟩=aa v:=by
  simp only[aY,r.heap _ _ r.ch];simpa using y
 have g:(loadVar t ⟨b,off,af⟩).run P s.w=.ok v s.w:=by
  simp[loadVar,(A t i hi).jy,z,run_load,c]
 refine⟨v,by simp[aw,h,F,Instr.loadAt,Instr.sureAddr,g],u,λB p=>?_⟩
 have q:B∈(loadVar t ⟨b,off,af⟩).events P s.w #[]:=by
  have e:aw ρ o=(do pure (.value (<-loadVar t ⟨b,off,af⟩))):=by simp[aw,h,F,Instr.loadAt,Instr.sureAddr]
  rw[e] at p;simpa[g] using p
 obtain⟨j,K,rfl⟩:=jr (A t i hi) (n:=1) (λj K=>by
  rw[show j=0 by omega];exact⟨v,c⟩) (by simp[z]) B q
 exact rH (bz r.β) r.mem
theorem bR.fu(g:dk P m){t:ar}{x:aq}{i:TI}(h:o.op=.load t x)(hi:bL m t=aa i)(c:i.agg=ae)(hl:σ[l]?=aa (.dM (BB T E a v1 bf xs f)))(d:k x=.e (.one (.ptr l 1))):bR P o k σ (.e (.one (.v v1))) σ :=
 Ic g h hi c hl d λs L b ch hh r=>⟨v1,by simp,Rd.val r.cell⟩
theorem Mo{H:ak->(Nat->Option Obj)->Prop}(b:σ[l]?=aa (.dM H)):∀ B,σ[l]?=aa B->B.gr=ae:=by intro B h;rw[b] at h;cases h;rfl
theorem bR.Ie(g:dk P m){t:ar}{x:aq}{i:TI}(h:o.op=.load t x)(hi:bL m t=aa i)(c:i.agg=ae)(hl:σ[l]?=aa (.dM (BB T E ab v1 bf xs f)))(d:k x=.e (.one (.ptr l 0))):bR P o k σ (.e (.one (.ptr l 0))) σ :=
 Ic g h hi c hl d λs L b ch hh r=>⟨L.v,by simp,Mo hl,L,b,r.β,r.v,r.v⟩
theorem bR.Py(j:dk P m){t:ar}{x:aq}{i:TI}(h:o.op=.load t x)(hi:bL m t=aa i)(d:i.agg=ae)(hl:σ[l]?=aa (.dM (BB T E ae v1 bf xs f)))(g:k x=.e (.one (.ptr l 0))):bR P o k σ (.e (.one (.c .mb))) σ :=
 Ic j h hi d hl g λs L b ch hh r=>⟨.pointer af,by simp,Rd.mb⟩
theorem setRow_size(w:az)(b:Nat)(row:Array ak):(w.setRow b row).heap.size=w.heap.size:=by simp[World.setRow]
theorem Ig(hT:dk P m){t:ar}{x y:aq}{i:TI}(h:o.op=.store t x y)(hi:bL m t=aa i)(J:i.size=1)(hl:σ[l]?=aa (.dM (BB T E a v1 bf xs f))){off:Nat}{c:Bool}{n:ak}(hx:k x=.e (.one (.ptr l off)))(ho:off<2)(hc:c8 n=ab)
  (hd:∀ s L b ch v,aJ σ s->vt P σ s l T E a v1 bf xs f L b ch->dh σ s v (k y)->c8 v=ab/\(#[if a then L.v else .pointer af,v1]:Array ak).setIfInBounds off v=#[if c then L.v else .pointer af,n]):bR P o k σ .any (σ.set l (.dM (BB T E c n bf xs f))):=by
 intro s ρ Y hr;obtain⟨L,b,ch,r⟩:=BB.row (P:=P) Y hl;have R:=r.ptr (by have:=hr x;rwa [hx] at this)
 obtain⟨Q,K⟩:=hd s L b ch (ρ y) Y r (hr y);have z:(ρ y).cells=#[ρ y]:=by cases hy:ρ y <;> simp[hy,c8,Value.cells] at Q ⊢
 have C:∀ v∈[ρ y],v.oneCell'=ab:=by
  intro v R;simp at R;subst R;cases hy:ρ y <;> simp[hy,c8,Value.oneCell'] at Q ⊢
 have u:=r.heap _ _ r.ch;have H:=run_storeCells_at P b off T [ρ y] 0 _ s.w u (by simp;omega) C
 have G:((#[if a then L.v else .pointer af,v1]:Array ak).toList.take (off+0)++[ρ y]++(#[if a then L.v else .pointer af,v1]:Array ak).toList.drop (off+0+[ρ y].length)).toArray=#[if c then L.v else .pointer af,n]:=by
  rw[<-K]
  match off,ho with
  |0,_=>apply il;simp
  |1,_=>apply il;simp
 rw[G] at H;have S:(s.w.setRow b #[if c then L.v else .pointer af,n]).heap[b]?=aa (.cells #[if c then L.v else .pointer af,n] T (0,0)):=setRow_heap s.w b _ _ T _ u
 have F:∀ d,d≠b->(s.w.setRow b #[if c then L.v else .pointer af,n]).heap[d]?=s.w.heap[d]?:=λd q=>setRow_other s.w b d _ q
 obtain⟨t1,t2⟩:=Y.k5 (l:=l) (H':=BB T E c n bf xs f) (L':=L) (w':=s.w.setRow b #[if c then L.v else .pointer af,n]) hl r.β rfl (by rw[setRow_size];exact ba _)
  (λd q hn=>F d (by rintro rfl;exact hn r.mem)) (λd q=>.inl q)
  ⟨λd=>if d=b then aa (.cells #[if c then L.v else .pointer af,n] T (0,0)) else ch d,by
   obtain⟨U,Z,q2,q3,V⟩:=r.bb;have:U=b:=by rw[r.v] at Z;simpa using Z.symm
   subst this;have A:∀ d,(if d=U then aa (Obj.cells #[if c then L.v else .pointer af,n] T (0,0)) else ch d).isSome=ab↔(ch d).isSome=ab:=by
    intro d
    by_cases e:d=U
    .subst e;simp[r.ch]
    .simp[e]
   refine⟨U,Z,hc,by simp,?_⟩
   cases bf with
   |none=>exact⟨V.1,λd=>(A d).trans (V.2 d)⟩
   |some p =>
    obtain⟨g,cap⟩:=p;obtain⟨a1,a2,a3,a4,a5,⟨zs,a6,a7⟩,a8⟩:=V;exact⟨a1,a2,a3,a4,a5,⟨zs,a6,by simp[a1,a7]⟩,λd=>(A d).trans (a8 d)⟩,λd o' q=>by
   by_cases e:d=b
   .subst e;simp only[bO] at q;cases q;exact S
   .simp only[e,bH] at q;rw[F d e];exact r.heap _ _ q,λd=>by
   rw[r.bs d]
   by_cases e:d=b
   .subst e;simp[r.ch]
   .simp[e]⟩ rfl rfl rfl
 have I:s.β.set l L=s.β:=by
  apply jk
  intro j
  by_cases e:l=j
  .subst e;rw[cf (bt.1 r.β).1,r.β]
  .rw[cQ e]
 rw[I] at t1 t2;refine⟨.skip,{ s with w:=s.w.setRow b #[if c then L.v else .pointer af,n] },?_,rfl,t1,t2,?_⟩
 .simp[aw,h,R,Instr.storeAt,Instr.sureAddr,storeVar,(hT t i hi).run_sizeOf,J,z,H]
 .intro ev B;have e:aw ρ o=(do storeVar t ⟨b,off,af⟩ (ρ y);pure .skip):=by simp[aw,h,R,Instr.storeAt,Instr.sureAddr]
  rw[e] at B;have O:ev∈(storeCells ⟨b,off,af⟩ [ρ y]).events P s.w #[]:=by
   simp only[storeVar,aP,(hT t i hi).run_sizeOf,z,J,aV,events_sizeOf,cW,fH,bH,bZ,cg,Sem.events_pure,nW,dw] at B;generalize (storeCells ⟨b,off,af⟩ [ρ y]).run P s.w=r at B;cases r with
   |ok v w'=>simpa using B
   |halt x w'=>simpa using B
  rcases eN [ρ y] 0 _ s.w #[] u (by simp;omega) C ev O with W|⟨j,_,_,rfl⟩
  .simp at W
  .exact mv (bz r.β) r.mem (r.M _ r.mem _)
theorem bR.zp(n:dk P m){t:ar}{x y:aq}{i:TI}(h:o.op=.store t x y)(hi:bL m t=aa i)(d:i.size=1)(hl:σ[l]?=aa (.dM (BB T E a v1 bf xs f))){c:ak}(q:k x=.e (.one (.ptr l 1)))(p:k y=.e (.one (.v c)))(g:c8 c=ab):bR P o k σ .any (σ.set l (.dM (BB T E a c bf xs f))) :=
 Ig n h hi d hl q (by omega) g λs L b ch v hh r j=>by
  rw[p] at j;have:=Rd.gm j;subst this;exact⟨g,rfl⟩
theorem bR.Mp(g:dk P m){t:ar}{x y:aq}{i:TI}(h:o.op=.store t x y)(hi:bL m t=aa i)(c:i.size=1)(hl:σ[l]?=aa (.dM (BB T E a v1 bf xs f)))(n:k x=.e (.one (.ptr l 0)))(j:k y=.e (.one (.ptr l 0)))(p:c8 v1=ab):bR P o k σ .any (σ.set l (.dM (BB T E ab v1 bf xs f))) :=
 Ig g h hi c hl n (by omega) p λs L b ch v hh r d=>by
  rw[j] at d;have:=r.ptr d;subst this;refine⟨rfl,?_⟩;rw[<-r.v];rfl
theorem bR.Pz{T:ar}(h:o.op=.alloc T)(n:∀ w,(zeroValue T).run P w=.ok (.agg #[.pointer af,.slice af 0 0]) w)(i:∀ w es,(zeroValue T).events P w es=es):bR P o k σ (.e (.one (.ptr σ.length 0))) (σ++[.dM (BB T E ae (.slice af 0 0) af [] 0)]):=by
 intro s ρ hh hr
 let w':=s.w.alloc (.cells #[.pointer af,.slice af 0 0] T)
 obtain⟨r,g2⟩:=hh.grow (M':=s.M) (w':=w') (by simp[w']) (λb hb=>cN s.w _ hb) (λ_ _ _=>rfl) (λb hb o v j=>by have:=hh.block j;omega) rfl rfl rfl
 have t:w'.heap.size=s.w.heap.size+1:=by simp[w']
 have g:w'.heap[s.w.heap.size]?=aa (.cells #[.pointer af,.slice af 0 0] T (0,0)):=dE s.w _;obtain⟨q,u⟩:=r.ix g2 rfl hh (B:=.dM (BB T E ae (.slice af 0 0) af [] 0)) (L:=⟨.pointer (aa ⟨s.w.heap.size,0,af⟩),[s.w.heap.size]⟩)
  ⟨λd=>if d=s.w.heap.size then aa (.cells #[.pointer af,.slice af 0 0] T (0,0)) else af,⟨s.w.heap.size,rfl,rfl,by simp,rfl,λd=>by by_cases e:d=s.w.heap.size <;> simp[e]⟩,λd p c=>by
   by_cases e:d=s.w.heap.size
   .subst e;simp only[bO] at c;cases c;exact g
   .simp[e] at c,λd=>by by_cases e:d=s.w.heap.size <;> simp[e],λd c p=>by
   simp at c;subst c;show s.M _ _=af;cases j:s.M s.w.heap.size p with
   |none=>rfl
   |some v=>have:=hh.block j;omega⟩ (λd c=>by simp at c;subst c;exact⟨ba _,by show _<w'.heap.size;omega⟩)
 refine⟨.value (.pointer (aa ⟨s.w.heap.size,0,af⟩)),_,?_,⟨by simp,⟨.pointer (aa ⟨s.w.heap.size,0,af⟩),[s.w.heap.size]⟩,s.w.heap.size,?_,rfl,rfl⟩,q,u,?_⟩
 .simp[aw,h,Instr.alloc,n,Go.newVar,newRow,Value.cells,w']
 .simp[<-hh.len]
 .simp[aw,h,Instr.alloc,n,i,Go.newVar,newRow];exact .nil
end
section
variable {P:an}{X:Cx P}{N:Nat}{z:List (Nat×TI)}{o:av}{q:aq->D}{σ:List aW}{l:Nat}{T E:ar}{d:Bool}{v1:ak}{bf:Option (Nat×Nat)}{xs:List UInt8}{k:Nat}{s:St}
theorem oS{P:an}{b o:Nat}{t:ar}{k:Nat×Nat}:∀ (vs:List ak)(i:Nat)(a:Array ak)(w:az)(es:Array Event),w.heap[b]?=aa (.cells a t k)->k.2<=o+i->o+i+vs.length<=a.size->(∀ v∈vs,v.oneCell'=ab) ->
  ∀ e∈(storeCells ⟨b,o,af⟩ vs i).events P w es,e∈es∨∃ j,i<=j/\j<i+vs.length/\e=F6 b (o+j)
 |[],_,_,_,_,_,_,_,_=>λe h=>.inl (by simpa[storeCells] using h)
 |v::rest,i,a,w,es,g,r,y,x=>λe h=>by
  have hi:o+i<a.size:=by simp at y;omega
  have c:w.cell? ⟨b,o+i,af⟩=aa a[o+i]:=by simp[aY,g,hi]
  have f:w.frozen? ⟨b,o+i,af⟩=ae:=by
   obtain⟨lo,C⟩:=k;simp only[World.frozen?,g,rf,bY]
   right
   simp only at r;omega
  have p:(store (⟨b,o+i,af⟩:Addr) v).run P w=.ok () (w.setRow b (a.setIfInBounds (o+i) v)):=by
   rw[run_store P w _ v _ (x v (by simp)),c]
   simp[f,setCell_eq_setRow w b (o+i) a t k v g]
  have n:(store (⟨b,o+i,af⟩:Addr) v).events P w es=es.push (F6 b (o+i)):=by
   rw[events_store P w es _ v _ (x v (by simp)),c]
   simp only[f,gi,bH];rfl
  simp only[storeCells,aP,di,p,n,aV] at h;rcases oS rest (i+1) (a.setIfInBounds (o+i) v) _ _ (setRow_heap _ _ _ _ _ _ g) (by omega) (by simp at y ⊢;omega) (λu A=>x u (by simp[A])) e h with m|⟨j,F,B,rfl⟩
  .rcases rr.1 m with m|rfl
   .exact .inl m
   .exact .inr ⟨i,ba _,by simp,rfl⟩
  .exact .inr ⟨j,by omega,by simp at B ⊢;omega,rfl⟩
theorem vt.at{L:Loc}{b g cap:Nat}{ch:Nat->Option Obj}(r:vt P σ s l T E d v1 (aa (g,cap)) xs k L b ch) :
  g≠b/\xs.length<=cap/\0<cap/\cap<=9223372036854775807/\k<=xs.length/\(∃ a,(qk xs++a).length=cap/\ch g=aa (.cells (qk xs++a).toArray E (0,k)))/\(∀ c,(ch c).isSome=ab↔c=b∨c=g)/\g∈L.bs:=by
 obtain⟨i,f,_,_,a1,a2,a3,a4,a5,a6,h⟩:=r.bb;have:i=b:=by rw[r.v] at f;simpa using f.symm
 subst this;obtain⟨a,a6,e⟩:=a6;exact⟨a1,a2,a3,a4,a5,⟨a,a6,e⟩,h,(r.bs g).2 (by rw[e];rfl)⟩
theorem Ih{L:Loc}(h:s.β[l]?=aa L):s.β.set l L=s.β:=by
 apply jk
 intro j
 by_cases e:l=j
 .subst e;rw[cf (bt.1 h).1,h]
 .rw[cQ e]
theorem vt.k5{L:Loc}{b g cap:Nat}{ch:Nat->Option Obj}(hh:aJ σ s)(hl:σ[l]?=aa (.dM (BB T E d v1 (aa (g,cap)) xs k)))(r:vt P σ s l T E d v1 (aa (g,cap)) xs k L b ch){xs':List UInt8}{fz':Nat}{zs':List ak}{w':az}
  (f:(qk xs'++zs').length=cap) (A:xs'.length<=cap) (n:fz'<=xs'.length) (u:w'.heap.size=s.w.heap.size) (m:∀ a,a≠g->w'.heap[a]?=s.w.heap[a]?) (y:w'.heap[g]?=aa (.cells (qk xs'++zs').toArray E (0,fz'))) (B:w'.os=s.w.os) (t:w'.tape=s.w.tape) (p:w'.output=s.w.output) :
  aJ (σ.set l (.dM (BB T E d v1 (aa (g,cap)) xs' fz'))) { s with w:=w' }/\Step σ s (σ.set l (.dM (BB T E d v1 (aa (g,cap)) xs' fz'))) { s with w:=w' }:=by
 obtain⟨a1,a2,a3,a4,a5,⟨G,a6,x⟩,C,h⟩:=r.at;obtain⟨i,j⟩:=hh.k5 (l:=l) (H':=BB T E d v1 (aa (g,cap)) xs' fz') (L':=L) (w':=w') hl r.β rfl (by omega)
  (λa c hn=>m a (by rintro rfl;exact hn h)) (λa c=>.inl c)
  ⟨λa=>if a=g then aa (.cells (qk xs'++zs').toArray E (0,fz')) else ch a,⟨b,r.v,r.cell,(show (if b=g then _ else ch b)=_ from (aO λe=>a1 e.symm).trans r.ch),a1,A,a3,a4,n,⟨zs',f,by simp⟩,λa=>by
   by_cases e:a=g
   .subst e;simp
   .simp only[e,bH];exact(C a).trans (by simp[e])⟩,λa F c=>by
   by_cases e:a=g
   .subst e;simp only[bO] at c;cases c;exact y
   .simp only[e,bH] at c;rw[m a e];exact r.heap _ _ c,λa=>by
   rw[r.bs a]
   by_cases e:a=g
   .subst e;simp[x]
   .simp[e]⟩ B t p
 rw[Ih r.β] at i j;exact⟨i,j⟩
theorem bR.Mq{t Q:ar}{x y:aq}(ho:o.op=.call { callee:=.builtin .append,args:=#[x,y],argTypes:=#[t,Q] }){V:TypeInfo}(ht:P.underlying t=aa (.slice E))(G:P.underlying Q=aa .string)(K:P.info? E=aa V)(u:V.size=1)
  {g cap n:Nat} (hl:σ[l]?=aa (.dM (BB T E d v1 (aa (g,cap)) xs k))) (hx:q x=.e (.one (.v (oR (aa (g,cap)) n)))) (hn:xs.length=n) {str:List UInt8} (hy:q y=.e (.one (.c (.str str)))) (aaE:n+str.length<=cap) :
  bR P o q σ (.e (.one (.v (oR (aa (g,cap)) (n+str.length))))) (σ.set l (.dM (BB T E d v1 (aa (g,cap)) (xs++str) k))):=by
 intro s ρ hh hr;subst hn;obtain⟨L,b,ch,r⟩:=BB.row (P:=P) hh hl;obtain⟨a1,a2,a3,a4,a5,⟨a,a6,a7⟩,a8,J⟩:=r.at;have I:=hr x;rw[hx] at I;have I:=Rd.gm I;have p:=hr y;rw[hy] at p;have p:=ga p;generalize H:ρ y=vy at p;cases p with
 |@str sb _ Z aaF =>
 have C:sb.size=str.length:=by rw[<-Z,gZ];rfl
 have R:=r.heap _ _ a7;have f:(qk xs++a).toArray.size=cap:=by simpa using a6
 have B:=Lib.run_append_room_stringF (P:=P) s.w t Q o.type E V ht G K u g xs.length cap _ _ R a5 sb (by omega) (by rw[f];omega)
 have F:((qk xs++a).toArray.toList.take xs.length++Lib.strCells sb++(qk xs++a).toArray.toList.drop (xs.length+sb.size))=qk (xs++str)++a.drop str.length:=by
  have e1:(qk xs++a).take xs.length=qk xs:=by rw[<-pR (xs:=xs)];simp
  have e2:(qk xs++a).drop (xs.length+sb.size)=a.drop str.length:=by
   rw[uX,pR,y8 (by rw[pR];omega),C]
   simp
  have e3:Lib.strCells sb=qk str:=by simp[Lib.strCells,qk,Z]
  rw[uR,e1,e2,e3,Mn]
 rw[F,C] at B;have hlz:a.length=cap-xs.length:=by simp[pR] at a6;omega
 have m:(qk (xs++str)++a.drop str.length).length=cap:=by simp[pR];omega
 have O:(s.w.setRow g (qk (xs++str)++a.drop str.length).toArray).heap[g]?=aa (.cells (qk (xs++str)++a.drop str.length).toArray E (0,k)):=setRow_heap s.w g _ _ E _ R;obtain⟨t1,W⟩:=r.k5 (fz':=k) (w':=s.w.setRow g (qk (xs++str)++a.drop str.length).toArray) hh hl m (by simp;omega) (by simp;omega) (setRow_size _ _ _) (λb' S=>setRow_other s.w g b' _ S) O rfl rfl rfl
 refine⟨.value (.slice (aa ⟨g,0,af⟩) (xs.length+str.length) cap),_,?_,Rd.val rfl,t1,W,?_⟩
 .rw[c9 ho,I,H];simp only[bZ,c7];have A:(Builtin.append_ #[t,Q] o.type #[oR (aa (g,cap)) xs.length,.string sb]).run P s.w=_:=B;rw[A];rfl
 .rw[c9 ho,I,H];refine eD λe he=>?_
  have hf:=Lib.run_firstCells_string (P:=P) s.w 1 sb;have U:=run_storeCells_atF P g xs.length E (0,k) (Lib.strCells sb) 0 _ s.w R (by simpa using a5) (by rw[Lib.strCells_length,f];omega) (Lib.strCells_oneCell sb)
  have i:xs.length+sb.size<=cap:=by omega
  have Y:(Builtin.firstCells 1 sb.size (.string sb)).events P s.w #[]=#[]:=rfl;simp[oR,Builtin.append_,run_underlying ht,run_underlying G,sizeOf,typeInfo,K,u,Builtin.lenOf,i,hf,Y,di,U] at he;rcases oS (Lib.strCells sb) 0 _ s.w _ R (by simpa using a5) (by rw[Lib.strCells_length,f];omega) (Lib.strCells_oneCell sb) e he with h|⟨j,h1,h2,rfl⟩
  .simp at h
  .exact mv (bz r.β) J (r.M _ J _)
theorem bR.Ii{t r:ar}{x y:aq}(A:o.op=.call { callee:=.builtin .append,args:=#[x,y],argTypes:=#[t,r] }){m:TypeInfo}(p:P.underlying t=aa (.slice E))(g:P.underlying r=aa .string)(f:P.info? E=aa m)
  (F:q x=.e (.one (.v (oR af 0)))) (C:q y=.e (.one (.c (.str [])))):bR P o q σ (.e (.one (.v (oR af 0)))) σ:=by
 refine .quiet λs ρ hh hr=>?_
 have i:=hr x;rw[F] at i;have i:=Rd.gm i;have b:=hr y;rw[C] at b;have b:=ga b;generalize h:ρ y=vy at b;cases b with
 |@str sb _ B u =>
 have a:sb.size=0:=by
  have:sb.data.toList.length=0:=by rw[B];rfl
  rw[gZ] at this;exact this
 have j:=Lib.run_firstCells_string (P:=P) s.w m.size sb;rw[a] at j;have n:(Builtin.firstCells m.size 0 (.string sb)).events P s.w #[]=#[]:=rfl;refine⟨.slice af 0 0,?_,Rd.val rfl,?_⟩
 .rw[c9 A,i,h];simp[oR,Builtin.append_,run_underlying p,run_underlying g,sizeOf,typeInfo,f,Builtin.lenOf,a,j]
 .rw[c9 A,i,h];simp[oR,Builtin.append_,run_underlying p,run_underlying g,sizeOf,typeInfo,f,Builtin.lenOf,a,j,n]
theorem SQ{f:aX}{fn:Func}{ps:Array ar}{t:ar}(ht:P.underlying t=aa (.slice E))(hf:P.funcs[f]?=aa fn)(A:(fn.name== "runtime.NumGoroutine")=ae)
  (hb:fn.body.isNone=ab) (hn:Extern.findNext fn=af) (O:Extern.find fn=aa (Extern.BytealgMakeNoZero.makeNoZero ps #[t])) {J x:aq} {Vw:Array ar} (ho:o.op=.call { callee:=.value J,args:=#[x],argTypes:=Vw })
  (Y:q J=.e (.one (.c (.fn (.func f) [] [])))) {n:Nat} (hx:q x=.e (.one (.c (.int .i64 n)))) (h0:0<n) (aaG:n<=140737488355328) (hl:σ[l]?=aa (.dM (BB T E d v1 af xs k))) :
  ∀ s ρ,aJ σ s->(∀ y,dh σ s (ρ y) (q y))->∃ (j:{ p:Nat×Nat // n<=p.2 }) (s':St) (v:ak),(aw ρ o).run P s.w=.ok (.value v) s'.w/\dh (σ.set l (.dM (BB T E d v1 (aa j.1) [] 0))) s' v (.e (.one (.v (oR (aa j.1) n)))) /\
   aJ (σ.set l (.dM (BB T E d v1 (aa j.1) [] 0))) s'/\Step σ s (σ.set l (.dM (BB T E d v1 (aa j.1) [] 0))) s'/\ft s ((aw ρ o).events P s.w #[]):=by
 intro s ρ W hr;obtain⟨L,b,ch,r⟩:=BB.row (P:=P) W hl;have H:ρ J=.func (.func f) #[] #[]:=by
  have i:=hr J;rw[Y] at i;have i:=ga i;generalize ρ J=v at i;cases i with
  |fn fs cs a b f1 f2 c1 c2 d1 d2 =>
   have:fs=[]:=gh a;subst this;have:cs=[]:=gh b;subst this;rfl
 have G:ρ x=.int .i64 n:=by
  have i:=hr x;rw[hx] at i;have i:=ga i;generalize ρ x=v at i;cases i;rfl
 obtain⟨cs,i,h2,Z⟩:=Lib.run_makeNoZero (P:=P) s.w ps t E ht n (by omega)
 have Z:=Z (by simp only[maxLen];omega)
 have F:(callFunc f #[.int .i64 n]).run P s.w=.ok (.value (.slice (aa ⟨s.w.heap.size,0,af⟩) n cs.size)) (s.w.drew.drew.alloc (.cells cs E)):=by
  rw[run_callFunc_extern hf A hb hn O,i];rfl
 let w':az:=s.w.drew.drew.alloc (.cells cs E)
 have R:w'.heap[s.w.heap.size]?=aa (.cells cs E (0,0)):=dE s.w.drew.drew _;have HR:w'.heap.size=s.w.heap.size+1:=by show (s.w.drew.drew.heap.push _).size=_;simp
 obtain⟨B,q1,q2,q3,q4⟩:=r.bb;have U:B=b:=by rw[r.v] at q1;simpa using q1.symm
 subst U;have K:B<s.w.heap.size:=W.lt L (bz r.β) B r.mem;have C:s.w.heap.size≠B:=by omega
 obtain⟨t1,t2⟩:=W.k5 (l:=l) (H':=BB T E d v1 (aa (s.w.heap.size,cs.size)) [] 0) (L':=⟨L.v,[B,s.w.heap.size]⟩) (w':=w') hl r.β rfl (by omega)
  (λu g hn=>cN s.w.drew.drew _ g) (λu g=>by
   simp at g;rcases g with rfl|rfl
   .exact .inl r.mem
   .exact .inr ⟨ba _,by omega⟩)
  ⟨λu=>if u=B then aa (.cells #[if d then L.v else .pointer af,v1] T (0,0)) else if u=s.w.heap.size then aa (.cells cs E (0,0)) else af,⟨B,r.v,r.cell,by simp,C,by simp,by omega,by simp only[maxLen] at Z;omega,by simp,⟨cs.toList,by simp[qk],by simp[C,qk]⟩,λu=>by
   by_cases e:u=B
   .simp[e]
   .by_cases I:u=s.w.heap.size <;> simp[e,I,C]⟩,λu o' g=>by
   by_cases e:u=B
   .subst e;simp only[bO] at g;have:w'.heap[u]?=s.w.heap[u]?:=cN s.w.drew.drew _ K;rw[this,<-g];exact r.heap _ _ r.ch
   .simp only[e,bH] at g
    by_cases I:u=s.w.heap.size
    .subst I;simp only[bO] at g;cases g;exact R
    .simp[I] at g,λu=>by
   by_cases e:u=B
   .simp[e]
   .by_cases I:u=s.w.heap.size <;> simp[e,I,C]⟩ rfl rfl rfl
 refine⟨⟨(s.w.heap.size,cs.size),h2⟩,_,_,?_,Rd.val rfl,t1,t2,?_⟩
 .simp[aw,ho,resolve,Deferred.ofValue,invoke,H,G,F,w',oR]
 .intro ev Q;simp only[aw,ho,resolve,Deferred.ofValue,invoke,H,G] at Q;have M:ev∈(callFunc f #[.int .i64 n]).events P s.w #[]:=by
   simpa[H,G] using Q
  have S:fn.name≠ "runtime.NumGoroutine":=by simpa using A
  have Y5:fn.body=af:=by simpa using hb
  have key:∀ es:Array Event,∀ e∈(Extern.BytealgMakeNoZero.makeNoZero ps #[t] #[.int .i64 n]).events P s.w es,e∈es∨∃ m,e=⟨.mark m,ae,ab⟩/\Go.Conc.Neutral m:=by
   intro es e O
   change e∈Sem.events P (underlying _ >>= _) _ _ at O
   have i:¬(n:Int)<0:=by omega
   have h2:¬(281474976710656:Int)<(n:Int):=by omega
   have V:e∈(askRoom (grownCap s.w n 0 E)).events P s.w.drew es:=by
    simpa[run_underlying ht,i,h2,Question.forced,newRow,grownCap] using O
   exact Go.Conc.events_askRoom _ _ _ e V
  have:ev∈(Extern.BytealgMakeNoZero.makeNoZero ps #[t] #[.int .i64 n]).events P s.w ((#[]:Array Event).push ⟨.mark (.extern f),ae,ab⟩):=by
   have e:callFunc f #[.int .i64 n]=callFunc f #[.int .i64 n]:=rfl;simpa[callFunc,hf,S,Y5,hn,O,i] using M
  rcases key _ _ this with h|⟨m,rfl,hm⟩
  .simp at h;subst h;exact .inr ⟨f,rfl⟩
  .exact .inl hm
theorem SR{H I:ar}{x y:aq}(ho:o.op=.call { callee:=.builtin .unsafeString,args:=#[x,y],argTypes:=#[H,I] })(hp:P.underlying H=aa (.pointer E))(F:P.cellsOf E=1)
  {g cap:Nat} (hl:σ[l]?=aa (.dM (BB T E d v1 (aa (g,cap)) xs k))) (hx:q x=.e (.one (.v (.pointer (aa ⟨g,0,af⟩))))) (hy:q y=.e (.one (.c (.int .i64 xs.length)))) :
  bR P o q σ (.e (.one (.c (.str xs)))) (σ.set l (.dM (BB T E d v1 (aa (g,cap)) xs xs.length))):=by
 intro s ρ Z hr;obtain⟨L,b,ch,r⟩:=BB.row (P:=P) Z hl;obtain⟨a1,U,a3,a4,a5,⟨S,W,a7⟩,a8,hgL⟩:=r.at;have B:=hr x;rw[hx] at B;have B:=Rd.gm B;have t:ρ y=.int .i64 xs.length:=by
  have K:=hr y;rw[hy] at K;have K:=ga K;generalize ρ y=v at K;cases K;rfl
 have Q:=r.heap _ _ a7;have p:aw ρ o=(do pure (.value (<-Builtin.unsafeString_ #[H,I] o.type #[ρ x,ρ y]))):=by simp[aw,ho,resolve,invoke,builtin]
 have M:(qk xs++S).toArray.size=cap:=by simpa using W
 by_cases h0:xs=[]
 .subst h0;have n:=Lib.run_unsafeString_none (P:=P) s.w H I o.type (aa ⟨g,0,af⟩);obtain⟨t1,t2⟩:=r.k5 (xs':=[]) (fz':=0) (zs':=S) (w':=s.w) Z hl W U (by simp) rfl (λ_ _=>rfl) (by have e:k=0:=(by simpa using a5);rw[e] at Q;exact Q) rfl rfl rfl
  refine⟨.value (.string .empty),_,?_,Rd.str rfl (by simp),t1,t2,?_⟩
  .rw[p,B,t];simp only[bZ,c7];have:(Builtin.unsafeString_ #[H,I] o.type #[.pointer (aa ⟨g,0,af⟩),.int .i64 ([]:List UInt8).length]).run P s.w=_:=n;rw[this];rfl
  .rw[p,B,t];refine eD ?_
   change ft s (Sem.events P (asInt (.int .i64 0) >>= _) _ _)
   simp[asInt,asIntOf,IntKind.max];exact .nil
 .have i:∀ j x,xs[j]?=aa x->s.w.cell? ((⟨g,0,af⟩:Addr).add j)=aa (.int .u8 x.toNat):=by
   intro j x G;rw[di];simp only[aY,Q,bm];have qu:j<xs.length:=(bt.1 G).1;have:(qk xs)[j]?=aa (.int .u8 x.toNat):=by simp[qk,G]
   simp[b7 (by rw[pR];exact qu:j<(qk xs).length),this]
  have C:s.w.shape? g=aa (E,cap):=by simp only[World.shape?,Q];rw[M]
  have n:=Lib.run_unsafeString_row (P:=P) s.w H I o.type E hp F g cap C xs h0 U (by omega) i
  have f:xs.length≠0:=by simpa using h0
  have hfz:(s.w.freeze ⟨g,0,af⟩ xs.length).heap[g]?=aa (.cells (qk xs++S).toArray E (0,xs.length)):=by
   simp only[World.freeze,f,bH,zc,bO,Q,jl]
   by_cases hf0:k=0
   .subst hf0;simp
   .have e1:((0:Nat)==k)=ae:=by
     simp only[dx,cW];omega
    simp only[e1,gi,bH,Nat.min_self,bm];rw[Nat.max_eq_right a5]
  obtain⟨t1,t2⟩:=r.k5 (xs':=xs) (fz':=xs.length) (zs':=S) (w':=s.w.freeze ⟨g,0,af⟩ xs.length) Z hl W U (ba _) (by simp[World.freeze,f]) (λb' V=>by
   simp only[World.freeze,f,bH,zc];rw[aO (λe=>V e.symm)]) hfz (by simp[World.freeze,f]) (by simp[World.freeze,f]) (by simp[World.freeze,f])
  refine⟨.value (.string ⟨xs.toArray⟩),_,?_,Rd.str (by simp) (by omega),t1,t2,?_⟩
  .rw[p,B,t];simp only[bZ,c7,n];rfl
  .rw[p,B,t];refine eD λe A=>?_
   have J:¬(xs.length:Int)<0:=by omega
   have h63:¬(9223372036854775807:Int)<(xs.length:Int):=by omega
   have m:=Lib.liesAt_bytes (P:=P) F (cap / P.cellsOf E) xs.length (by rw[F];simpa using U)
   have R:IntKind.i64.max=9223372036854775807:=rfl;have Y:=Lib.run_loadBytes (P:=P) s.w xs ⟨g,0,af⟩ .empty i;have H8:∀ (O:List UInt8) (a:Nat) (acc:ByteArray) (es:Array Event),(∀ j x,O[j]?=aa x->s.w.cell? ⟨g,a+j,af⟩=aa (.int .u8 x.toNat))->∀ e∈(loadBytes ⟨g,a,af⟩ acc O.length).events P s.w es,e∈es∨∃ j,e=zl g j:=by
    intro O
    induction O with
    |nil=>intro a acc es _ e A;exact .inl (by simpa[loadBytes] using A)
    |cons y O ih =>
     intro a acc es F e A;have u:=F 0 y rfl;simp only[gG] at u;have hl0:(load ⟨g,a,af⟩).run P s.w=.ok (.int .u8 y.toNat) s.w:=by simp[run_load,u]
     simp only[db,loadBytes,aP,hl0,aV,zq u,di] at A;rcases ih (a+1) _ _ (λj x G=>by have:=F (j+1) x (by simpa using G);rwa [show a+1+j=a+(j+1) by omega]) e A with h|h
     .rcases rr.1 h with h|rfl
      .exact .inl h
      .exact .inr ⟨a,rfl⟩
     .exact .inr h
   have hva:(variablesAt ⟨g,0,af⟩ E xs.length).run P s.w=.ok ab s.w:=by simp[variablesAt,C,m]
   have hve:∀ es,(variablesAt ⟨g,0,af⟩ E xs.length).events P s.w es=es:=λes=>by simp[variablesAt,C,m]
   have HS:e∈(loadBytes ⟨g,0,af⟩ .empty xs.length).events P s.w #[]:=by
    change e∈Sem.events P (asInt (.int .i64 (xs.length:Int)) >>= _) _ _ at A
    simpa[asInt,asIntOf,R,J,h63,f,elemOf,run_underlying hp,hva,hve,Y] using A
   rcases H8 xs 0 .empty #[] (λj x G=>by have:=i j x G;rwa [di] at this) e HS with h|⟨j,rfl⟩
   .simp at h
   .exact rH (bz r.β) hgL
end
section
variable {P:an}{X:Cx P}{N:Nat}{q:List (Nat×TI)}{o:av}{g:aq->D}{σ:List aW}{l:Nat}{T E:ar}{i:Bool}{v1:ak}{bf:Option (Nat×Nat)}{xs:List UInt8}{p:Nat}{s:St}
theorem bR.exact{x:aq}{v r:ak}{d:D}(b:g x=.e (.one (.v v)))(h:∀ (ρ:aq->ak) w,ρ x=v->(aw ρ o).run P w=.ok (.value r) w/\(aw ρ o).events P w #[]=#[])(c:∀ σ s,dh σ s r d):bR P o g σ d σ:=by
 refine .quiet λs ρ hh hr=>?_
 have a:=hr x;rw[b] at a;have a:=Rd.gm a;obtain⟨h1,h2⟩:=h ρ s.w a;exact⟨r,h1,c _ _,h2⟩
theorem bR.uw{x:aq}{b:Array ar}{t E:ar}(h:o.op=.call { callee:=.builtin .len,args:=#[x],argTypes:=b })(d:b[0]?=aa t)(f:P.underlying t=aa (.slice E)){a:Option Addr}{n c:Nat}(j:g x=.e (.one (.v (.slice a n c))))(hn:n<=9223372036854775807):bR P o g σ (.e (.one (.c (.int .i64 n)))) σ :=
 .exact j (λρ w k=>by constructor <;> simp[aw,h,resolve,invoke,builtin,Builtin.len_,k,run_underlying f,goInt,d]) (λ_ _=>Rd.int (by simp only[bD];omega))
theorem bR.Mr{x:aq}{b:Array ar}{t E:ar}(h:o.op=.call { callee:=.builtin .cap,args:=#[x],argTypes:=b })(d:b[0]?=aa t)(f:P.underlying t=aa (.slice E)){a:Option Addr}{n c:Nat}(j:g x=.e (.one (.v (.slice a n c))))(hn:c<=9223372036854775807):bR P o g σ (.e (.one (.c (.int .i64 c)))) σ :=
 .exact j (λρ w k=>by constructor <;> simp[aw,h,resolve,invoke,builtin,Builtin.cap_,k,run_underlying f,goInt,d]) (λ_ _=>Rd.int (by simp only[bD];omega))
theorem bR.SU{x:aq}{a:Array ar}(h:o.op=.call { callee:=.builtin .unsafeSliceData,args:=#[x],argTypes:=a }){n c:Nat}(b:g x=.e (.one (.v (.slice af n c)))):bR P o g σ (.e (.one (.v (.pointer af)))) σ :=
 .exact b (λρ w d=>by
  have e:Builtin.unsafeSliceData_ a o.type #[.slice af n c]=pure (.pointer af):=rfl
  constructor <;> simp[aw,h,resolve,invoke,builtin,d,e]) (λ_ _=>Rd.val rfl)
theorem bR.SV{x:aq}{b:Array ar}(h:o.op=.call { callee:=.builtin .unsafeSliceData,args:=#[x],argTypes:=b }){a:Addr}{n c:Nat}(d:g x=.e (.one (.v (.slice (aa a) n c))))(f:c≠0):bR P o g σ (.e (.one (.v (.pointer (aa a))))) σ :=
 .exact d (λρ w j=>by
  obtain⟨m,rfl⟩:=Nat.exists_eq_succ_of_ne_zero f;have e:Builtin.unsafeSliceData_ b o.type #[.slice (aa a) n (m+1)]=pure (.pointer (aa a)):=rfl
  constructor <;> simp[aw,h,resolve,invoke,builtin,j,e]) (λ_ _=>Rd.val rfl)
theorem bR.SW{t E:ar}{x y:aq}(h:o.op=.slice t x af (aa y) af)(m:P.underlying t=aa (.slice E)){A:TypeInfo}(hi:P.info? E=aa A){a:Addr}{n c k:Nat}(F:g x=.e (.one (.v (.slice (aa a) n c))))(C:g y=.e (.one (.c (.int .i64 k))))(z:k<=n)(hn:n<=c)(u:c≠0)(B:a.add 0=a):bR P o g σ (.e (.one (.v (.slice (aa a) k c)))) σ:=by
 refine .quiet λs ρ hh hr=>?_
 have d:=hr x;rw[F] at d;have d:=Rd.gm d;have b:ρ y=.int .i64 k:=by
  have h1:=hr y;rw[C] at h1;have h1:=ga h1;generalize ρ y=v at h1;cases h1;rfl
 have hl:((af:Option ak)=af/\(af:Option Int)=af)∨∃ k j,(af:Option ak)=aa (.int k j)/\(af:Option Int)=aa j:=.inl ⟨rfl,rfl⟩;have hh:(aa (Value.int .i64 k)=af/\(aa (k:Int))=af)∨∃ k' j,aa (Value.int .i64 k)=aa (.int k' j)/\(aa (k:Int))=aa j:=.inr ⟨_,_,rfl,rfl⟩;have r:ai (iU n af (aa (k:Int))):=by simp[ai,iU,z]
 obtain⟨hb,_,_⟩:=n6 (P:=P) (isS:=ab) hn hl hh r s.w;have f:=pS (P:=P) (isS:=ab) hn hl hh r s.w;simp only[cE,bu] at hb;refine⟨.slice (aa a) k c,?_,Rd.val rfl,?_⟩
 .simp[aw,h,d,b,Instr.sliceAt,run_underlying m,Instr.slice,hb,sizeOf,typeInfo,hi,u,B]
 .simp[aw,h,d,b,Instr.sliceAt,run_underlying m,Instr.slice,hb,f,sizeOf,typeInfo,hi,u]
theorem bR.copyV{t E k:ar}{x y:aq}(h:o.op=.call { callee:=.builtin .copy,args:=#[x,y],argTypes:=#[t,k] })(m:P.underlying t=aa (.slice E)){f:TypeInfo}(hi:P.info? E=aa f){a:Addr}{c:Nat}(n:g x=.e (.one (.v (.slice (aa a) 0 c))))(j:g y=.e (.one (.v (.slice af 0 0)))):bR P o g σ (.e (.one (.c (.int .i64 0)))) σ:=by
 refine .quiet λs ρ hh hr=>?_
 have d:=hr x;rw[n] at d;have d:=Rd.gm d;have b:=hr y;rw[j] at b;have b:=Rd.gm b;refine⟨.int .i64 0,?_,Rd.int (by simp[bD]),?_⟩ <;>
 simp[aw,h,resolve,invoke,builtin,Builtin.copy_,d,b,run_underlying m,sizeOf,typeInfo,hi,Builtin.lenOf,Builtin.firstCells,storeCells,goInt]
theorem bR.SX{j h:ar}{x y:aq}(n:o.op=.call { callee:=.builtin .unsafeString,args:=#[x,y],argTypes:=#[j,h] })(m:g x=.e (.one (.v (.pointer af))))(k:g y=.e (.one (.c (.int .i64 ((0:Nat):Int))))):bR P o g σ (.e (.one (.c (.str [])))) σ:=by
 refine .n5 λs ρ hh hr=>?_
 have f:=hr x;rw[m] at f;have f:=Rd.gm f;have d:ρ y=.int .i64 0:=by
  have h1:=hr y;rw[k] at h1;have h1:=ga h1;generalize ρ y=v at h1;cases h1;rfl
 have b:aw ρ o=(do pure (.value (<-Builtin.unsafeString_ #[j,h] o.type #[ρ x,ρ y]))):=by simp[aw,n,resolve,invoke,builtin]
 have a:=Lib.run_unsafeString_none (P:=P) s.w j h o.type af;refine⟨.string .empty,?_,Rd.str rfl (by simp),?_⟩
 .rw[b,f,d];simp only[bZ,c7,a];rfl
 .rw[b,f,d];refine eD ?_
  change ft s (Sem.events P (asInt (.int .i64 0) >>= _) _ _)
  simp[asInt,asIntOf,IntKind.max];exact .nil
theorem bR.bTo(m:σ[l]?=aa (.dM (BB T E i v1 bf xs p))){c dst:ar}{x:aq}(h:o.op=.convert c dst x)(t:P.underlying c=aa (.pointer T))(n:P.underlying dst=aa .unsafePointer){j:TypeInfo}(hj:P.info? T=aa j)(f:j.size≠0)(v:g x=.e (.one (.ptr l 0))):bR P o g σ (.e (.one (.ptr l 0))) σ:=by
 refine .quiet λs ρ hh hr=>?_
 obtain⟨L,b,ch,r⟩:=BB.row (P:=P) hh m;have d:=hr x;rw[v] at d;have u:=r.ptr d;have k:s.w.shape? b=aa (T,2):=by simp[World.shape?,r.heap _ _ r.ch]
 have a:=Lib.run_to_unsafe (P:=P) s.w ⟨b,0,af⟩ t n hj f k (by simp)
 refine⟨ρ x,by simp[aw,h,u,a],d,?_⟩
 have:(convert c dst (.pointer (aa ⟨b,0,af⟩))).events P s.w #[]=#[]:=by
  simp[convert,run_underlying t,run_underlying n,Conv.unsafePointer,Conv.seenAt,viewAt,cellsIn,k,sizeOf,typeInfo,hj,f]
 simp[aw,h,u,a,this]
theorem bR.SY(m:σ[l]?=aa (.dM (BB T E i v1 bf xs p))){d dst:ar}{x:aq}(h:o.op=.convert d dst x)(u:P.underlying d=aa .unsafePointer)(t:P.underlying dst=aa (.pointer T)){j:TypeInfo}(hj:P.info? T=aa j)(n:j.size≠0)(a:liesAt P P.depth T (2 / P.cellsOf T) 0 T 1=ab)(y:g x=.e (.one (.ptr l 0))):bR P o g σ (.e (.one (.ptr l 0))) σ:=by
 refine .quiet λs ρ hh hr=>?_
 obtain⟨L,b,ch,r⟩:=BB.row (P:=P) hh m;have f:=hr x;rw[y] at f;have v:=r.ptr f;have k:s.w.shape? b=aa (T,2):=by simp[World.shape?,r.heap _ _ r.ch]
 have c:=Lib.run_from_unsafe (P:=P) s.w ⟨b,0,af⟩ u t hj k a;refine⟨ρ x,by simp[aw,h,v,c],f,?_⟩
 have:(convert d dst (.pointer (aa ⟨b,0,af⟩))).events P s.w #[]=#[]:=by
  simp[convert,run_underlying u,run_underlying t,Conv.unsafePointer,Conv.seenAt,viewAt,variablesAt,k,sizeOf,typeInfo,hj,n,a]
 simp[aw,h,v,c,this]
theorem bR.SZ{f:aX}{fn:Func}(y:P.funcs[f]?=aa fn)(j:(fn.name== "runtime.NumGoroutine")=ae)(hb:fn.body.isNone=ab)(hn:Extern.findNext fn=af)(z:Extern.find fn=aa Extern.AbiNoEscape.same)
  {m x:aq} {t:Array ar} (A:o.op=.call { callee:=.value m,args:=#[x],argTypes:=t }) (r:g m=.e (.one (.c (.fn (.func f) [] [])))) {d:D} (B:g x=d):bR P o g σ d σ:=by
 refine .n5 λs ρ hh hr=>?_
 have n:ρ m=.func (.func f) #[] #[]:=by
  have h1:=hr m;rw[r] at h1;have h1:=ga h1;generalize ρ m=v at h1;cases h1 with
  |fn fs cs a b F C c1 c2 d1 d2 =>
   have:fs=[]:=gh a;subst this;have:cs=[]:=gh b;subst this;rfl
 have k:(callFunc f #[ρ x]).run P s.w=.ok (.value (ρ x)) s.w:=by
  rw[run_callFunc_extern y j hb hn z];rfl
 have u:=lR (P:=P) y j hb hn z #[ρ x] (λ_ _=>rfl) s.w #[]
 refine⟨ρ x,?_,by have:=hr x;rwa [B] at this,λG h=>?_⟩
 .simp[aw,A,resolve,Deferred.ofValue,invoke,n,k]
 .simp[aw,A,resolve,Deferred.ofValue,invoke,n,u] at h;subst h;exact .inr ⟨_,rfl⟩
end
end Go.AM
namespace Go.AM.R1
open Go.Proofs
variable {X:Cx ah}
abbrev bB(a:Bool)(v1:ak)(bf:Option (Nat×Nat))(xs:Bs)(b:Nat):aW:=.dM (BB 239 5 a v1 bf xs b)
theorem BL(v1:ak)(c:c8 v1=ab)(bf:Option (Nat×Nat))(xs:Bs)(a:Nat):Ev X 218 [.e (.one (.ptr 0 0))] [bB ae v1 bf xs a] (.fW []) [bB ab v1 bf xs a]:=by
 refine Ev.body Tryz.func218 rfl rfl rfl λd=>?_
 refine bP rfl ay ?_;refine AK.law (bR.Py tok rfl rfl rfl rfl rfl) rfl rfl ?_;refine AK.law (QL rfl Tryz.underlying237 rfl rfl rfl) rfl rfl ?_;refine bP rfl ay ?_;refine AK.law (bR.bTo rfl rfl Tryz.underlying237 Tryz.underlying224 (bA Tryz.type239) (by simp[Tryz.t239]) rfl) rfl rfl ?_
 refine AK.law (bR.SZ Tryz.func229 (by kernel_rfl) (by kernel_rfl) (by kernel_rfl) (by kernel_rfl) rfl rfl rfl) rfl rfl ?_
 refine AK.law (bR.SY rfl rfl Tryz.underlying224 Tryz.underlying237 (bA Tryz.type239) (by simp[Tryz.t239]) (by kernel_rfl) rfl) rfl rfl ?_
 refine bP rfl ay ?_;refine AK.law (bR.Mp tok rfl rfl rfl rfl rfl rfl c) rfl rfl ?_;refine bP rfl ay ?_;exact cn.tb [0] rfl ay rfl rfl rfl (λj b=>by
  have:j=0:=by simpa using b
  subst this;rfl)
theorem BM(v1:ak)(bf:Option (Nat×Nat))(xs:Bs)(a:Nat):Ev X 218 [.e (.one (.ptr 0 0))] [bB ab v1 bf xs a] (.fW []) [bB ab v1 bf xs a]:=by
 refine Ev.body Tryz.func218 rfl rfl rfl λc=>?_
 refine bP rfl ay ?_;refine AK.law (bR.Ie tok rfl rfl rfl rfl rfl) rfl rfl ?_;refine AK.law (QM rfl Tryz.underlying237 rfl rfl rfl) rfl rfl ?_;refine bP rfl ay ?_;refine AK.law (bR.Ie tok rfl rfl rfl rfl rfl) rfl rfl ?_;refine bP rfl ay ?_;refine AK.law (Na rfl Tryz.underlying237 (n:=2) (by decide) (λw=>by simp[sizeOf,typeInfo,bA Tryz.type239,Tryz.t239]) (λw es=>by simp[sizeOf,typeInfo,bA Tryz.type239]) rfl rfl rfl) rfl rfl ?_
 refine bP rfl ay ?_;exact cn.tb [0] rfl ay rfl rfl rfl (λj b=>by
  have:j=0:=by simpa using b
  subst this;rfl)
end Go.AM.R1
namespace Go.AM
open Go.Conc (G)
def cY(i:Nat)(D:Nat->Bool):Nat->Bool:=λj=>match aA j i with|true=>ab|false=>D j
section
variable {P:an}{X:Cx P}{N:Nat}{ops:Array av}{φ:Fr}{σ:List aW}{g:Type}{x:g->Nat->D}{idx:Nat->Option Nat}{S:g->(Nat->Bool)->List aW}{Inv:g->(Nat->Bool)->Prop}{c:Nat}
def ld(L:Array Bool):Nat->Bool:=λi=>L.getD i ae
theorem Gx{L:Array Bool}{i:Nat}(hi:i<L.size):ld (L.setIfInBounds i ab)=cY i (ld L):=by
 funext j
 have h:=eF (L:=L) (i:=i) (j:=j) hi;simp only[ld,cY];cases a:aA j i with
 |true =>
  have e:=bE a;exact h.2 (.inl e)
 |false =>
  have b:j≠i:=by rintro rfl;rw[jI] at a;cases a
  cases d:L.getD j ae with
  |true=>exact h.2 (.inr d)
  |false =>
   cases f:(L.setIfInBounds i ab).getD j ae with
   |false=>rfl
   |true =>
    rcases h.1 f with e|e
    .exact absurd e b
    .rw[d] at e;cases e
theorem Qy{L:Array Bool}{n c:Nat}(f:L.size=n)(h:∀ k,c<=k->¬L.getD k ae=ab):n-c<=(L.toList.filter (λb=>!b)).length:=by
 have e:(L.toList.drop c).filter (λb=>!b)=L.toList.drop c:=by
  rw[List.filter_eq_self];intro b d;obtain⟨i,hi,rfl⟩:=dN d;have:=h (c+i) (by omega)
  simp only[gF,gZ] at hi;simp only[cT,dm (by omega:c+i<L.size),dG] at this
  simpa using this
 have a:((L.toList.drop c).filter (λb=>!b)).length<=(L.toList.filter (λb=>!b)).length:=((List.drop_sublist c L.toList).filter _).length_le
 rw[e] at a;simp at a;omega
theorem Names.TU(all:List av)(c:Nat):Names all (List.range' c (all.length-c)) (all.drop c):=by
 have key:∀ (l:List av) (n:Nat),(∀ j o,l[j]?=aa o->all[n+j]?=aa o)->Names all (List.range' n l.length) l:=by
  intro l
  induction l with
  |nil=>intro n _;trivial
  |cons o r b =>
   intro n h;rw[db,List.range'_succ];refine⟨by simpa using h 0 o rfl,b (n+1) λj a hj=>?_⟩
   have:=h (j+1) a (by simpa using hj)
   rwa [show n+(j+1)=n+1+j by omega] at this
 have:=key (all.drop c) c λj o h=>by simpa[mR] using h
 simpa using this
structure TV {P:an}(X:Cx P)(N:Nat)(ops:Array av)(φ:Fr){g:Type}(x:g->Nat->D)(S:g->(Nat->Bool)->List aW)(Inv:g->(Nat->Bool)->Prop)(idx:Nat->Option Nat)(c:Nat):Prop where
 back:∀ i o,ops[i]?=aa o->∀ e∈o.after,de e=ab->e.on<i
 IC:∀ i o d,ops[i]?=aa o->o.dst=aa d->idx d=aa i/\d<N
 xx:∀ d i,idx d=aa i->∃ o,ops[i]?=aa o/\o.dst=aa d
 one:∀ κ (D:Nat->Bool) i o,Inv κ D->ops[i]?=aa o->i<c->D i=ae->(∀ e∈o.after,de e=ab->D e.on=ab)->(∀ j o',ops[j]?=aa o'->D j=ab->∀ e∈o'.after,de e=ab->D e.on=ab)->tQ X N ops.toList o (nL ops.toList φ (x κ) i) (S κ D) (λq:{ κ':g // (∀ j,D j=ab->x κ' j=x κ j)/\Inv κ' (cY i D) }=>x q.1 i) (λq=>S q.1 (cY i D))
 Sw:∀ (x:Nat->D) i o,ops[i]?=aa o->∀ t σ s v,dh σ s v (match idx t with|some j=>(if ∃ e∈o.after,de e=ab/\e.on=j then x j else .any)|none=>look φ t)->dh σ s v (look (nL ops.toList φ x i) t)
 fin:∀ (x:Nat->D) t σ s v,dh σ s v (match idx t with|some j=>x j|none=>look φ t)->dh σ s v (look (MO ops.toList φ x) t)
 SD:∀ i o,ops[i]?=aa o->c<=i->∀ L:Array Bool,(∀ i o,ops[i]?=aa o->L.getD i ae=ab->∀ e∈o.after,de e=ab->L.getD e.on ae=ab)->(∀ e∈o.after,de e=ab->L.getD e.on ae=ab)->∀ k,k<i->L.getD k ae=ab
 cc:c<=ops.size
 QA:∀ κ (D:Nat->Bool),Inv κ D->(∀ i,i<c->D i=ab)->∀ i,c<=i->i<ops.size->x κ i=.any
theorem Ft{L:Array Bool}{i n:Nat}(a:L.size=n)(hi:i<n):L.getD i ab=ae↔¬L.getD i ae=ab:=by
 simp only[cT,dm (by omega:i<L.size),dG]
 simp
theorem TV.seq(h:TV X N ops φ x S Inv idx c):∀ (a d:Nat)(L:Array Bool)(t:Nat),L.size=ops.size->c<=d->d<=ops.size->ops.size-d<=a->(∀ k,k<ops.size->(L.getD k ae=ab↔k<d)) ->
  Region.linearise.go .any ops a t L []=List.range' d (ops.size-d):=by
 intro a
 induction a with
 |zero =>
  intro d L t r y C w f;have:ops.size-d=0:=by omega
  rw[this,vN];rfl
 |succ a A =>
  intro d L t r y C w f
  by_cases z:d=ops.size
  .rw[BF (λi hi=>by
    have:=(f i hi).2 (by omega)
    simp only[cT,dm (by omega:i<L.size),dG] at this ⊢
    exact this),z]
   simp
  .rw[oX];have b:d<ops.size:=by omega
   have s:∀ i o,ops[i]?=aa o->L.getD i ae=ab->∀ e∈o.after,de e=ab->L.getD e.on ae=ab:=λi o q hi e m hb=>by
    have j:=(gE.1 q).1;have h1:=(f i j).1 hi;have h2:=h.back i o q e m hb;exact(f e.on (by omega)).2 (by omega)
   have v:∀ i,i∈aZ .any ops L->i=d:=λi hi=>by
    obtain⟨o,q,hl,B⟩:=mem_ready.1 hi;have j:=(gE.1 q).1;have hn:¬i<d:=λn=>(Ft r j).1 hl ((f i j).2 n)
    rcases cr d i with h1|h1
    .have:=h.SD i o q (by omega) L s B d h1
     have:=(f d b).1 this;omega
    .omega
   have u:d∈aZ .any ops L:=mem_ready.2 ⟨ops[d],dm b,(Ft r b).2 (λhh=>by have:=(f d b).1 hh;omega),λe m hb=>by
    have:=h.back d _ (dm b) e m hb;exact(f e.on (by omega)).2 this⟩
   have p:0<(aZ .any ops L).length:=uN u;have l:=ik t p;rw[aR l];have e1:=v _ (dy l);simp only[e1];rw[A (d+1) _ _ (by simp[r]) (by omega) (by omega) (by omega) (λk E=>by
    rw[eF (by omega)]
    rw[f k E];omega)]
   rw[show ops.size-d=(ops.size-(d+1))+1 by omega,List.range'_succ]
theorem TV.arr(h:TV X N ops φ x S Inv idx c){V:au->St->Prop}{b:aQ}{kk:List Item}{cs:List aQ}(hb:b.kind≠.early){σ0:List aW}{s0:St}
  (hQ:∀ l D s a,Inv l D->(∀ i,i<c->D i=ab)->cw N (S l D) s (MO ops.toList φ (x l)) a->aJ (S l D) s->cC σ0 s0 (S l D) s->fG X V (G (b.aT a (.inRegion ops (List.range' c (ops.size-c))::kk)) cs) s) :
  ∀ (f:Nat) (l:g) (L:Array Bool),Inv l (ld L)->L.size=ops.size->(L.toList.filter (λb=>!b)).length<=f->(∀ k,c<=k->¬L.getD k ae=ab) ->
   (∀ i o,ops[i]?=aa o->L.getD i ae=ab->∀ e∈o.after,de e=ab->L.getD e.on ae=ab) ->
   ∀ (s:St) (a:Act),HT N (S l (ld L)) s (gn φ (x l) idx L) a->aJ (S l (ld L)) s->cC σ0 s0 (S l (ld L)) s ->
   ∀ t,fG X V (G (b.aT a (.inRegion ops (Region.linearise.go .any ops f t L [])::kk)) cs) s:=by
 have fin:∀ (l:g) (L:Array Bool) (s:St) (a:Act) (f t:Nat),Inv l (ld L)->L.size=ops.size->(L.toList.filter (λb=>!b)).length<=f->(∀ k,c<=k->¬L.getD k ae=ab)->(∀ i,i<c->L.getD i ae=ab)->HT N (S l (ld L)) s (gn φ (x l) idx L) a->aJ (S l (ld L)) s->cC σ0 s0 (S l (ld L)) s->fG X V (G (b.aT a (.inRegion ops (Region.linearise.go .any ops f t L [])::kk)) cs) s:=by
  intro l L s a f t H y O m r p hh st;have T:=h.cc;rw[h.seq f c L t y (ba _) T (by
   have h2:=Qy (n:=ops.size) (c:=c) y m;omega) (λk hk=>⟨λM=>by
    rcases cr k c with h1|h1
    .exact h1
    .exact absurd M (m k h1),λM=>r k M⟩)]
  exact hQ l _ s a H r (p.IB λt σ s v E=>h.fin (x l) t σ s v (by
   unfold gn at E;cases hi:idx t with
   |none=>simpa[hi] using E
   |some k =>
    simp only[hi] at E ⊢;obtain⟨o,z,_⟩:=h.xx _ _ hi;rcases cr k c with h1|h1
    .rw[aU (r k h1)] at E;exact E
    .rw[h.QA l _ H r k h1 (gE.1 z).1];trivial)) hh st
 intro f
 induction f with
 |zero =>
  intro l L H y O m B s a p hh st t;have T:=h.cc;exact fin l L s a 0 t H y O m (λi hi=>zY y O i (by omega)) p hh st
 |succ f ih =>
  intro l L H y O m B s a p hh st t;have T:=h.cc;cases w:(aZ .any ops L)[t % (aZ .any ops L).length]? with
  |none=>exact fin l L s a _ t H y O m (λi hi=>Jq (back:=h.back) y (DI w) i (by omega)) p hh st
  |some i =>
   have hi:=bz w;obtain⟨o,z,U,u⟩:=mem_ready.1 hi;have qu:i<ops.size:=(gE.1 z).1;rcases cr i c with I|I
   rotate_left
   .exact fin l L s a _ t H y O m (λk hk=>h.SD i o z I L B u k (by omega)) p hh st
   rw[oX,w];have F:¬L.getD i ae=ab:=by
    simp only[cT,dm (by omega:i<L.size),dG] at U ⊢
    simp[U]
   have A:((L.setIfInBounds i ab).toList.filter (λb=>!b)).length<=f:=by
    have h1:L.toList[i]?=aa ae:=by
     rw[rh,dm (by omega:i<L.size)]
     simpa[cT,dm (by omega:i<L.size)] using F
    have:=count_set h1;rw[uK];omega
   have R:∀ j W,ops[j]?=aa W->(L.setIfInBounds i ab).getD j ae=ab->∀ e∈W.after,de e=ab->(L.setIfInBounds i ab).getD e.on ae=ab:=by
    intro j W J hj e he hb;rw[eF (by omega)] at hj ⊢
    rcases hj with rfl|hj
    .rw[z] at J;cases J;exact .inr (u e he hb)
    .exact .inr (B j W J hj e he hb)
   have Ti:cw N (S l (ld L)) s (nL ops.toList φ (x l) i) a:=MZ (h.Sw (x l) i o z) p u;have:=h.one l (ld L) i o H z I (by unfold ld;cases T:L.getD i ae with|true=>exact absurd T F|false=>rfl) u B s a Ti hh b kk cs V i (Region.linearise.go .any ops f (t / (aZ .any ops L).length) (L.setIfInBounds i ab) []) hb (by simpa using z)
   simp only[nT] at this;refine this λq v s' E K C=>?_
   obtain⟨κ',Y,Q⟩:=q;have Z:=Gx (L:=L) (i:=i) (by omega)
   simp only at E K C;rw[<-Z] at E K C Q;exact ih κ' _ Q (by simp[y]) A (λk hk=>by rw[eF (by omega)];rintro(e|e);omega;exact m k hk e) R s' _ (Gt (λd hd=>h.IC i o d z hd) h.xx z (by omega) (λj hj=>Y j hj) hh.len C p E) K (st.trans C) _
theorem AW.reg(hf:P.follows Departure.mixedOrders=ab){all:List av}(c:Nat)(x:g->Nat->D)(S:g->(Nat->Bool)->List aW)(Inv:g->(Nat->Bool)->Prop)(T:g)(hI0:Inv T λ_=>ae)(h0:S T (λ_=>ae)=σ)
  (O:nn all=ab) (U:tR all 0=ab) (Xy:o0 N all=ab) (hc:c<=all.length)
  (SD:∀ i,c<=i->i<all.length->∀ L:Nat->Prop,(∀ i,i<all.length->L i->∀ e∈b6 (all.getD i ja).after.toList,L e)->(∀ e∈b6 (all.getD i ja).after.toList,L e)->∀ k,k<i->L k)
  (QA:∀ z (D:Nat->Bool),Inv z D->(∀ i,i<c->D i=ab)->∀ i,c<=i->i<all.length->x z i=.any)
  (one:∀ z (D:Nat->Bool) i o,Inv z D->all[i]?=aa o->i<c->D i=ae->(∀ e∈b6 o.after.toList,D e=ab)->(∀ j o',all[j]?=aa o'->D j=ab->∀ e∈b6 o'.after.toList,D e=ab)->tQ X N all o (nL all φ (x z) i) (S z D) (λq:{ κ':g // (∀ j,D j=ab->x κ' j=x z j)/\Inv κ' (cY i D) }=>x q.1 i) (λq=>S q.1 (cY i D)))
  {Q:Post} (hQ:∀ z D,Inv z D->(∀ i,i<c->D i=ab)->jE X N all (all.drop c) (Q .normal) (MO all φ (x z)) (S z D)) (id:Nat) :
  AW X N (.region id all.toArray ab) Q φ σ:=by
 have f:∀ i:Nat,all.toArray[i]?=all[i]?:=λi=>by simp
 let idx:Nat->Option Nat:=λt=>(bc all.length).find? (λi=>decide ((all.getD i ja).dst=aa t))
 have n:∀ t j,idx t=aa j->∃ o,all[j]?=aa o/\o.dst=aa t:=by
  intro t j hj;have h1:=List.find?_some hj;have h2:j<all.length:=by simpa using List.mem_of_find?_eq_some hj
  refine⟨all[j],aR h2,?_⟩;simpa[aR h2] using h1
 have u:∀ i o d,all[i]?=aa o->o.dst=aa d->idx d=aa i:=by
  intro i o d r W;have hi:i<all.length:=(bt.1 r).1;cases hx:idx d with
  |none =>
   have:=uT.1 hx i (by simpa using hi)
   simp[r,W] at this
  |some j =>
   obtain⟨p,PN,PO⟩:=n d j hx;rw[sS O PN r PO W]
 have A:∀ t,oY t all=ab↔∃ j,idx t=aa j:=by
  intro t
  constructor
  .intro h;obtain⟨i,o,h1,h2⟩:=pV h;exact⟨i,u i o t h1 h2⟩
  .rintro⟨j,hj⟩;obtain⟨o,h1,h2⟩:=n t j hj;exact rP h1 h2
 have H:∀ i o,all[i]?=aa o->all.getD i ja=o:=λi o h=>by simp[ag,h]
 have W:TV X N all.toArray φ x S Inv idx c:=by
  refine⟨?_,?_,?_,?_,?_,?_,λi o r WZ L hLc hLp k hk=>?_,by simpa using hc,λz D hI hD i h1 h2=>QA z D hI hD i h1 (by simpa using h2)⟩
  .intro i o r e G hb;rw[f] at r;have:=BD U i o r e.on (eJ.2 ⟨e,by simpa using G,hb,rfl⟩)
   omega
  .intro i o d r W;rw[f] at r;exact⟨u i o d r W,iY (yg Xy i o r) d W⟩
  .intro d i h;obtain⟨o,h1,h2⟩:=n d i h;exact⟨o,by rw[f];exact h1,h2⟩
  .intro z D i o hI r hic hDi PQ C2;rw[f] at r;exact one z D i o hI r hic hDi (λe G=>by
    obtain⟨Y,q1,q2,rfl⟩:=eJ.1 G;exact PQ Y (by simpa using q1) q2) λj o hj hDj e G=>by
    obtain⟨Y,q1,q2,rfl⟩:=eJ.1 G;exact C2 j o (by rw[f];exact hj) hDj Y (by simpa using q1) q2
  .intro x i o r t σ s v M;rw[f] at r;show dh σ s v (look (nL all φ x i) t);unfold nL;rw[H i o r];rcases nq (m:=λj=>hX j (b6 o.after.toList)) (φ:=uz all φ) (t:=t) (l:=zV all 0 x) (i:=0) with⟨j,y,h1,h2,J⟩|J
   .rw[J];rw[wj] at h1;cases hj:all[j]? with
    |none=>simp[hj] at h1
    |some oj =>
     simp only[hj,jl,cV,kB,bm] at h1;rw[u j oj t hj h1.1] at M;simp only at M;rw[aU] at M
     .rw[<-h1.2];exact M
     .simp only[bm] at h2;obtain⟨e,a,b,c⟩:=eJ.1 (IH h2);exact⟨e,by simpa using a,b,c⟩
   .rw[J,lI];split
    .trivial
    .rename_i R
     cases C:idx t with
     |some j=>exact absurd ((A t).2 ⟨j,C⟩) R
     |none=>simpa[C] using M
  .intro x t σ s v M;show dh σ s v (look (MO all φ x) t);unfold MO;rcases nq (m:=λ_=>ab) (φ:=uz all φ) (t:=t) (l:=zV all 0 x) (i:=0) with⟨j,y,h1,h2,J⟩|J
   .rw[J];rw[wj] at h1;cases hj:all[j]? with
    |none=>simp[hj] at h1
    |some oj =>
     simp only[hj,jl,cV,kB,bm] at h1;rw[u j oj t hj h1.1] at M;rw[<-h1.2];exact M
   .rw[J,lI];split
    .trivial
    .rename_i R
     cases C:idx t with
     |some j=>exact absurd ((A t).2 ⟨j,C⟩) R
     |none=>simpa[C] using M
  .rw[f] at r;refine SD i WZ (bt.1 r).1 (λk=>L.getD k ae=ab) (λi' hi' hl e G=>?_) (λe G=>?_) k hk
   .have Z:=aR hi';rw[H i' _ Z] at G;obtain⟨Y,a,b,c⟩:=eJ.1 G;rw[<-c];exact hLc i' _ (by rw[f];exact Z) hl Y (by simpa using a) b
   .rw[H i o r] at G;obtain⟨Y,a,b,c⟩:=eJ.1 G;rw[<-c];exact hLp Y (by simpa using a) b
 intro s a LU hh b kk cs SS hb WO;refine .next rfl λI F=>?_
 have F:=X.iO F;have E:=hh.rely F;have PS:=LU.rely F hh;have V:Step σ I σ { I with w:={ I.w with drawn:=I.w.drawn+1 } }:=Step.same rfl rfl rfl rfl;have F8:aJ σ { I with w:={ I.w with drawn:=I.w.drawn+1 } }:=E.same rfl;have WQ:=F.stepW.trans (V.oA E);refine⟨_,{ I with w:={ I.w with drawn:=I.w.drawn+1 } },#[],lP,⟨⟨σ,σ,E,F8,V⟩,.nil⟩,?_⟩;simp only[Region.schedule,hf,Bool.true_or,bO];have K:ld (Array.replicate all.toArray.size ae)=λ_=>ae:=by
  funext i
  simp[ld,cT,mP];split <;> simp
 refine W.arr hb (σ0:=σ) (s0:=s) (λz D s2 a2 hI hD f2 h2 oT=>?_) all.toArray.size T _ (by rw[K];exact hI0) (by simp) (by simp) ?_ ?_ _ a ?_ (by rw[K,h0];exact F8) (by rw[K,h0];exact WQ) _
 .refine hQ z D hI hD s2 a2 f2 h2 b kk cs SS _ hb ?_ λφ3 σ3 s3 a3 q3 f3 J Jm=>WO .normal _ _ s3 a3 q3 f3 J (oT.trans Jm)
  have:=Names.TU all c;simpa using this
 .intro i _ hi;simp[cT,mP] at hi;split at hi <;> simp at hi
 .intro i o r hi;simp[cT,mP] at hi;split at hi <;> simp at hi
 .rw[K,h0];have B:=PS.mono (V.oA E) E.len;refine⟨B.size,B.defers,λt=>?_⟩
  unfold gn;cases C:idx t with
  |none=>exact B.slot t
  |some j =>
   simp only;rw[aO]
   .exact B.slot t
   .simp[cT,mP];split <;> simp
theorem tQ.to{all:List av}{o:av}{φ:Fr}{ι e:Type}{y:ι->D}{σ':ι->List aW}{z:e->D}{d:e->List aW}(h:tQ X N all o φ σ y σ')(l:∀ j,∃ k,y j=z k/\σ' j=d k):tQ X N all o φ σ z d:=by
 intro s a f hh b k cs S i rest hb hi hK;refine h s a f hh b k cs S i rest hb hi λj v s' r1 r2 r3=>?_
 obtain⟨q,p2,p3⟩:=l j;rw[p2] at r1;rw[p3] at r1 r2 r3;exact hK q v s' r1 r2 r3
theorem OA.EW{all:List av}{o:av}{φ:Fr}{d:Type}{y:D}{σ':List aW}{z:d->D}{e:d->List aW}(h:OA X N all o φ σ y σ')(k:d)(h1:y=z k)(h2:σ'=e k):tQ X N all o φ σ z e:=by
 subst h1 h2;exactλs a f hh b k' cs S i rest hb hi hK=>h s a f hh b k' cs S i rest hb hi λv s' r1 r2 r3=>hK k v s' r1 r2 r3
end
section
variable {P:an}{X:Cx P}{N:Nat}{all:List av}{φ:Fr}{σ:List aW}{o:av}
theorem tQ.lJ{ι:Type}{x:ι->D}{σ':ι->List aW}(m:o.guard=af)(h:∀ s ρ,aJ σ s->(∀ y,dh σ s (ρ y) (cj φ y))->∃ (j:ι)(s':St)(v:ak),(aw ρ o).run P s.w=.ok (.value v) s'.w/\dh (σ' j) s' v (x j)/\aJ (σ' j) s'/\Step σ s (σ' j) s'/\ft s ((aw ρ o).events P s.w #[])):tQ X N all o φ σ x σ':=by
 intro s a f hh b k cs S i rest hb hi hK;refine zO hb hi (dJ m) λn c=>?_
 have d:=hh.rely c;obtain⟨j,s',v,h1,h2,g,e,l⟩:=h n a.eval d (eP (f.rely c hh));exact⟨_,s',v,h1,.inl rfl,⟨⟨σ,σ' j,d,g,e⟩,l⟩,hK j v s' h2 g (c.stepW.trans (e.oA d))⟩
theorem tQ.wi{x:D}{σ':List aW}(h:OA X N all o φ σ x σ'):tQ X N all o φ σ (λ_:Unit=>x) (λ_=>σ') :=
 λs a f hh b k cs S i rest hb hi hK=>h s a f hh b k cs S i rest hb hi λv s'=>hK () v s'
theorem OA.law{x:D}{σ':List aW}(h:bR P o (cj φ) σ x σ')(a:o.guard=af):OA X N all o φ σ x σ':=.lJ (λ_ _ _ _=>dJ a) h
theorem OA.eval{T:List (Nat×TI)}{CT:List (Nat×dC)}{ds:List (Nat×Bool)}{x:D}{obs:List Prop}(a:dk P T)(hC:b5 X CT)(h:E4 T CT ds all φ σ o=aa (x,af,obs))(b:ai obs):OA X N all o φ σ x σ:=hY a hC h b
theorem OA.cK{T:List (Nat×TI)}{CT:List (Nat×dC)}{x:D}(a:dk P T)(hC:b5 X CT)(h:E4 T CT [] all φ σ o=aa (x,af,[])):OA X N all o φ σ x σ:=hY a hC h ay
def s8(X:Cx P)(N:Nat)(all:List av)(φ:Fr)(σ:List aW)(x:Nat->D)(pre:Nat->Bool):List av->Nat->Prop
 |[],_=>True
 |o::r,i=>(match pre i with|true=>OA X N all o (nL all φ x i) σ (x i) σ|false=>True)/\s8 X N all φ σ x pre r (i+1)
def s9(X:Cx P)(N:Nat)(all:List av)(φ:Fr)(σ:List aW)(x:Nat->D)(m:Nat):List av->Nat->Prop
 |[],_=>True
 |o::r,i=>(match aA i m with|true=>True|false=>OA X N all o (nL all φ x i) σ (x i) σ)/\s9 X N all φ σ x m r (i+1)
theorem s8.get{x:Nat->D}{pre:Nat->Bool}:∀ {l:List av}{k:Nat},s8 X N all φ σ x pre l k->∀ (i:Nat)(o:av),l[i]?=aa o->pre (k+i)=ab->OA X N all o (nL all φ x (k+i)) σ (x (k+i)) σ
 |[],_,_,i,o,h=>by simp at h
 |p::r,k,h,0,o,hi=>λa=>by
  simp at hi;subst hi;have h1:=h.1;simp only[gG] at a;rw[a] at h1;exact h1
 |p::r,k,h,i+1,o,hi=>λa=>by
  have:=s8.get h.2 i o (by simpa using hi) (by rw[show k+1+i=k+(i+1) by omega];exact a)
  rwa [show k+1+i=k+(i+1) by omega] at this
theorem s9.get{x:Nat->D}{m:Nat}:∀ {l:List av}{k:Nat},s9 X N all φ σ x m l k->∀ (i:Nat)(o:av),l[i]?=aa o->k+i≠m->OA X N all o (nL all φ x (k+i)) σ (x (k+i)) σ
 |[],_,_,i,o,h=>by simp at h
 |p::r,k,h,0,o,hi=>λa=>by
  simp at hi;subst hi;have h1:=h.1;simp only[gG] at a;have hb:aA k m=ae:=by
   cases hb:aA k m with
   |true=>exact absurd (bE hb) a
   |false=>rfl
  rw[hb] at h1;exact h1
 |p::r,k,h,i+1,o,hi=>λa=>by
  have:=s9.get h.2 i o (by simpa using hi) (by omega)
  rwa [show k+1+i=k+(i+1) by omega] at this
def DJ{ι:Type}(pre:Nat->Bool)(x:Nat->D)(y:ι->Nat->D)(j:ι)(i:Nat):D:=match pre i with|true=>x i|false=>y j i
theorem Fq{ι:Type}{m c:Nat}{pre:Nat->Bool}{x:Nat->D}{f:ι->Nat->D}{σ':ι->List aW}{S:ι->(Nat->Bool)->List aW}(I:pre m=ae)(A:zX pre m all 0=ab)(r:∀ j i,pre i=ab->f j i=x i)
  (one:∀ i o,all[i]?=aa o->pre i=ab->OA X N all o (nL all φ x i) σ (x i) σ)
  (B:∀ j (D:Nat->Bool) i o,all[i]?=aa o->i≠m->i<c->D i=ae->(∀ k u,all[k]?=aa u->D k=ab->∀ e∈b6 u.after.toList,D e=ab)->OA X N all o (nL all φ (f j) i) (S j D) (f j i) (S j (cY i D)))
  (C:∀ o,all[m]?=aa o->tQ X N all o (nL all φ x m) σ (λj=>f j m) σ') (F:∀ j (D:Nat->Bool),(∀ i,D i=ab->pre i=ab)->σ' j=S j (cY m D)) :
  ∀ (g:Option ι) (D:Nat->Bool) i o,(g.isSome=D m/\(g=af->∀ i,D i=ab->pre i=ab))->all[i]?=aa o->i<c->D i=ae->(∀ e∈b6 o.after.toList,D e=ab)->(∀ j u,all[j]?=aa u->D j=ab->∀ e∈b6 u.after.toList,D e=ab) ->
   tQ X N all o (nL all φ (g.elim x f) i) (g.elim σ λj=>S j D) (λq:{ n:Option ι // (∀ j,D j=ab->n.elim x f j=g.elim x f j)/\(n.isSome=cY i D m/\(n=af->∀ k,cY i D k=ab->pre k=ab)) }=>q.1.elim x f i) (λq=>q.1.elim σ λj=>S j (cY i D)):=by
 intro g D i o l y z v t s;have H:∀ {k},cY i D k=ab->k=i∨D k=ab:=λ{k} b=>by
  unfold cY at b;cases w:aA k i with
  |true=>exact .inl (bE w)
  |false=>rw[w] at b;exact .inr b
 have p:∀ {k},k≠i->cY i D k=D k:=λ{k} b=>by
  unfold cY;cases w:aA k i with
  |true=>exact absurd (bE w) b
  |false=>rfl
 by_cases a:i=m
 .subst a;cases g with
  |some j=>have:=l.1;rw[v] at this;cases this
  |none =>
   refine(C o y).to λj=>⟨⟨aa j,λk b=>r j k (l.2 rfl k b),?_,λh=>by cases h⟩,rfl,F j D (l.2 rfl)⟩
   unfold cY;rw[jI];rfl
 .cases g with
  |none =>
   have d:pre i=ab:=by
    cases d:pre i with
    |true=>rfl
    |false =>
     obtain⟨e,G,E⟩:=Fp A i o y (by simpa using d) (by simpa using a)
     rw[l.2 rfl e (t e G)] at E;cases E
   exact(one i o y d).EW ⟨af,λ_ _=>rfl,by rw[p (λh=>a h.symm)];exact l.1,λ_ k b=>by
    rcases H b with rfl|b
    .exact d
    .exact l.2 rfl k b⟩ rfl rfl
  |some j=>exact(B j D i o y a z v s).EW ⟨aa j,λ_ _=>rfl,by rw[p (λh=>a h.symm)];exact l.1,λh=>by cases h⟩ rfl rfl
theorem wm{ι:Type}{m c:Nat}{pre:Nat->Bool}{a:Option ι}{D:Nat->Bool}(d:a.isSome=D m/\(a=af->∀ i,D i=ab->pre i=ab))(e:m<c)(b:∀ i,i<c->D i=ab):∃ j,a=aa j:=by
 cases a with
 |some j=>exact⟨j,rfl⟩
 |none=>have:=d.1;rw[b m e] at this;cases this
theorem AK.HZ{ι:Type}(n:P.follows Departure.mixedOrders=ab)(m:Nat)(pre:Nat->Bool)(x:Nat->D)(y:ι->Nat->D)(σ':ι->List aW){ops:Array av}{id:Nat}{K:List It}{Qf:Post}
  (b:nn ops.toList=ab) (c:tR ops.toList 0=ab) (d:o0 N ops.toList=ab) (e:Nat.blt m ops.toList.length=ab) (g:pre m=ae) (f:zX pre m ops.toList 0=ab)
  (one:s8 X N ops.toList φ σ x pre ops.toList 0) (two:∀ j,s9 X N ops.toList φ (σ' j) (DJ pre x y j) m ops.toList 0)
  (HZ:tQ X N ops.toList (ops.toList.getD m ja) (nL ops.toList φ x m) σ (λj=>DJ pre x y j m) σ') (k:∀ j,AK X N Qf K .normal (MO ops.toList φ (DJ pre x y j)) (σ' j)):AK X N Qf (.code (.region id ops ab)::K) .normal φ σ:=by
 have e:=dn e;have:=AW.reg (X:=X) (N:=N) (φ:=φ) (σ:=σ) n (all:=ops.toList) ops.toList.length (λa:Option ι=>a.elim x (DJ pre x y)) (λa _=>a.elim σ σ') (λa D=>a.isSome=D m/\(a=af->∀ i,D i=ab->pre i=ab)) af ⟨rfl,λ_ _ h=>by cases h⟩ rfl b c d (ba _)
  (λi h1 h2=>absurd h2 (mq.2 h1)) (λa D _ _ i h1 h2=>absurd h2 (mq.2 h1))
  (Fq (S:=λj _=>σ' j) g f (λj i l=>by simp only[DJ,l]) (λi o hi l=>by have:=one.get i o hi (by rwa [bm]);rwa [bm] at this) (λj D i o hi zD _ _ _=>by have:=(two j).get i o hi (by rwa [bm]);rwa [bm] at this)
   (λo r=>by rw[show ops.toList.getD m ja=o by simp[ag,r]] at HZ;exact HZ) (λ_ _ _=>rfl))
  (Q:=AK X N Qf K) (λa D q p=>by
   obtain⟨j,rfl⟩:=wm q e p;rw[uW];exact .nil (k j)) id
 rw[nT] at this;exact this
end
end Go.AM
namespace Go.AM.R1
open Go.Proofs
variable {X:Cx ah}
abbrev bb(a:Bool)(bf:Option (Nat×Nat))(xs:Bs)(b:Nat):aW:=bB a (oR bf xs.length) bf xs b
theorem qO:∀ j,j<1->([0]:List Nat)[j]?=aa j:=λj a=>by
 have:j=0:=by omega
 subst this;rfl
theorem Ac(a:Bool)(bf:Option (Nat×Nat))(xs:Bs)(b:Nat)(c:xs.length<=9223372036854775807)(d:bf=af->xs=[]):Ev X 228 [.e (.one (.ptr 0 0))] [bb a bf xs b] (dI xs.length) [bb a bf xs b]:=by
 refine Ev.body Tryz.func228 rfl rfl rfl λf=>?_
 refine bP rfl ay ?_;refine AK.law (bR.fu tok rfl rfl rfl rfl rfl) rfl rfl ?_;cases bf with
 |none =>
  have:=d rfl;subst this;refine AK.law (bR.uw rfl rfl Tryz.underlying22 rfl (by simp)) rfl rfl ?_
  refine bP rfl ay (AK.eB [0] rfl ?_ rfl rfl rfl qO);simp[ai]
 |some p =>
  refine AK.law (bR.uw rfl rfl Tryz.underlying22 rfl c) rfl rfl ?_;refine bP rfl ay (AK.eB [0] rfl ?_ rfl rfl rfl qO);simp[ai]
theorem DR(g cap:Nat)(xs s:Bs)(b:Nat)(d:s.length<=9223372036854775807)(a:xs.length+s.length<=cap):Ev X 193 [.e (.one (.ptr 0 0)),dS s] [bb ab (aa (g,cap)) xs b] (.fW [.one (.c (.int .i64 s.length)),.one (.c .n8)]) [bb ab (aa (g,cap)) (xs++s) b]:=by
 refine Ev.body Tryz.func193 rfl rfl rfl λf=>?_
 refine bP rfl ay ?_;refine AK.bM (BM (oR (aa (g,cap)) xs.length) (aa (g,cap)) xs b) [0] rfl rfl rfl rfl rfl rfl rfl rfl rfl rfl rfl ?_;refine bP rfl ay ?_;refine AK.law (bR.fu tok rfl rfl rfl rfl rfl) rfl rfl ?_;refine bP rfl ay ?_;refine AK.law (bR.Mq (l:=0) (g:=g) (cap:=cap) (xs:=xs) rfl Tryz.underlying22 Tryz.underlying9 (bA Tryz.type5) (by simp[Tryz.t5]) rfl rfl rfl rfl a) rfl rfl ?_
 refine bP rfl ay ?_;refine AK.law (bR.zp tok rfl rfl rfl rfl rfl rfl rfl) rfl rfl ?_;have e:bb ab (aa (g,cap)) (xs++s) b=.dM (BB 239 5 ab (oR (aa (g,cap)) (xs.length+s.length)) (aa (g,cap)) (xs++s) b):=by simp[bb,bB]
 rw[e];refine bP rfl ay (AK.eB [0] rfl ?_ rfl rfl rfl qO);simp[ai,ai.cat]
theorem QN:Ev X 193 [.e (.one (.ptr 0 0)),dS []] [bb ab af [] 0] (.fW [.one (.c (.int .i64 0)),.one (.c .n8)]) [bb ab af [] 0]:=by
 refine Ev.body Tryz.func193 rfl rfl rfl λa=>?_
 refine bP rfl ay ?_;refine AK.bM (BM (oR af 0) af [] 0) [0] rfl rfl rfl rfl rfl rfl rfl rfl rfl rfl rfl ?_;refine bP rfl ay ?_;refine AK.law (bR.fu tok rfl rfl rfl rfl rfl) rfl rfl ?_;refine bP rfl ay ?_;refine AK.law (bR.Ii rfl Tryz.underlying22 Tryz.underlying9 (bA Tryz.type5) rfl rfl) rfl rfl ?_;refine bP rfl ay ?_;refine AK.law (bR.zp tok rfl rfl rfl rfl rfl rfl rfl) rfl rfl ?_;refine bP rfl ay (AK.eB [0] rfl ?_ rfl rfl rfl qO);simp[ai,ai.cat]
abbrev dp:D:=.e (.one (.ptr 0 0))
abbrev L8:D:=.e (.one (.ptr 0 1))
theorem DS(g cap:Nat)(xs:Bs)(c:Nat)(a:xs.length<=9223372036854775807)(b:cap≠0):Ev X 194 [.e (.one (.ptr 0 0))] [bb ab (aa (g,cap)) xs c] (dS xs) [bb ab (aa (g,cap)) xs xs.length]:=by
 refine Ev.body Tryz.func194 rfl rfl rfl λd=>?_
 refine bd [(1000001,ab)] 100 rfl ay ?_;refine AK.HZ eQ 10 (λi=>bw i 9) (λi=>[dp,dp,L8,.e (.one (.v (.slice (aa ⟨g,0,af⟩) xs.length cap))),.e (.one (.v (.pointer (aa ⟨g,0,af⟩)))),dp,dp,L8,.e (.one (.v (.slice (aa ⟨g,0,af⟩) xs.length cap))),dI xs.length].getD i .any) (λ(_:Unit) _=>dS xs)
  (λ_=>[bb ab (aa (g,cap)) xs xs.length]) rfl rfl rfl rfl rfl rfl ?_ ?_ ?_ ?_
 .refine⟨.cK tok b5.nil rfl,.cK tok b5.nil rfl,.cK tok b5.nil rfl,?_,?_,.cK tok b5.nil rfl,.cK tok b5.nil rfl,.cK tok b5.nil rfl,?_,?_,ay,ay,ay⟩
  .exact .law (bR.fu (l:=0) tok rfl rfl rfl rfl rfl) rfl
  .exact .law (bR.SV rfl rfl b) rfl
  .exact .law (bR.fu (l:=0) tok rfl rfl rfl rfl rfl) rfl
  .exact .law (bR.uw rfl rfl Tryz.underlying22 rfl a) rfl
 .intro _;refine⟨.cK tok b5.nil rfl,.cK tok b5.nil rfl,.cK tok b5.nil rfl,?_,?_,.cK tok b5.nil rfl,.cK tok b5.nil rfl,.cK tok b5.nil rfl,?_,?_,ay,.cK tok b5.nil rfl,ay⟩
  .exact .law (bR.fu (l:=0) tok rfl rfl rfl rfl rfl) rfl
  .exact .law (bR.SV rfl rfl b) rfl
  .exact .law (bR.fu (l:=0) tok rfl rfl rfl rfl rfl) rfl
  .exact .law (bR.uw rfl rfl Tryz.underlying22 rfl a) rfl
 .exact .wi (.law (SR (l:=0) rfl Tryz.underlying267 (by kernel_rfl) rfl rfl rfl) rfl)
 .intro _;refine bP rfl ay (AK.eB [0] rfl ?_ rfl rfl rfl qO);simp[ai]
theorem T9{o:av}{d:aq->D}{σ:List aW}{t ty:ar}{x y:aq}(h:o.op=.binOp .add t x y ty){b:Int}(f:d x=dI 0)(e:d y=dI b)(a:bD .i64 b):bR ah o d σ (dI b) σ:=by
 have:=bR.binOp (P:=ah) (σ:=σ) h f e (c:=.int .i64 (0+b)) (obs:=[bD .i64 (0+b)]) rfl (by rw[Int.zero_add];exact a)
 rwa [Int.zero_add] at this
theorem dZ.OX{ι:Type}{f:aX}{fn:Func}{c:Code}{args:List D}{σ:List aW}{σ':ι->List aW}{res:ι->D}(d:Tryz.prog.funcs[f]?=aa fn)(a:(fn.name== "runtime.NumGoroutine")=ae)(hb:fn.body=aa c)(b:bw args.length fn.ntmps=ab)
  (h:AK X fn.ntmps (λe φ σ1=>∃ j,cn fn σ.length (res j) (σ' j) e φ σ1) [.code c] .normal (iA 0 args) σ):dZ X f args σ res σ' :=
 dZ.intro d a hb (dn b) (AK.of_code h)
theorem Nb:Ev X 194 [.e (.one (.ptr 0 0))] [bb ab af [] 0] (dS []) [bb ab af [] 0]:=by
 refine Ev.body Tryz.func194 rfl rfl rfl λa=>?_
 refine bd [(1000001,ab)] 100 rfl ay ?_;refine AK.HZ eQ 10 (λi=>bw i 9) (λi=>[dp,dp,L8,.e (.one (.v (.slice af 0 0))),.e (.one (.v (.pointer af))),dp,dp,L8,.e (.one (.v (.slice af 0 0))),dI (0:Nat)].getD i .any) (λ(_:Unit) _=>dS [])
  (λ_=>[bb ab af [] 0]) rfl rfl rfl rfl rfl rfl ?_ ?_ ?_ ?_
 .refine⟨.cK tok b5.nil rfl,.cK tok b5.nil rfl,.cK tok b5.nil rfl,?_,?_,.cK tok b5.nil rfl,.cK tok b5.nil rfl,.cK tok b5.nil rfl,?_,?_,ay,ay,ay⟩
  .exact .law (bR.fu (l:=0) tok rfl rfl rfl rfl rfl) rfl
  .exact .law (bR.SU rfl rfl) rfl
  .exact .law (bR.fu (l:=0) tok rfl rfl rfl rfl rfl) rfl
  .exact .law (bR.uw rfl rfl Tryz.underlying22 rfl (by decide)) rfl
 .intro _;refine⟨.cK tok b5.nil rfl,.cK tok b5.nil rfl,.cK tok b5.nil rfl,?_,?_,.cK tok b5.nil rfl,.cK tok b5.nil rfl,.cK tok b5.nil rfl,?_,?_,ay,.cK tok b5.nil rfl,ay⟩
  .exact .law (bR.fu (l:=0) tok rfl rfl rfl rfl rfl) rfl
  .exact .law (bR.SU rfl rfl) rfl
  .exact .law (bR.fu (l:=0) tok rfl rfl rfl rfl rfl) rfl
  .exact .law (bR.uw rfl rfl Tryz.underlying22 rfl (by decide)) rfl
 .exact .wi (.law (bR.SX rfl rfl rfl) rfl)
 .intro _;refine bP rfl ay (AK.eB [0] rfl ?_ rfl rfl rfl qO);simp[ai]
theorem Nc(n:Nat)(d:0<n)(b:n<=140737488355328):dZ (ι:={ p:Nat×Nat // n<=p.2 }) X 219 [.e (.one (.ptr 0 0)),dI n] [bb ab af [] 0] (λ_=>.fW []) (λj=>[bb ab (aa j.1) [] 0]):=by
 refine dZ.OX Tryz.func219 rfl rfl rfl ?_;refine bd [(1000000,ab)] 100 rfl ay ?_;have a:bD .i64 (n:Int):=by simp only[bD];omega
 have v0:D:=.e (.one (.v (.slice af 0 0)));refine AK.HZ (ι:={ p:Nat×Nat // n<=p.2 }) eQ 8 (λi=>bw i 7||(bw 9 i&&bw i 13)) (λi=>[dp,dp,L8,.e (.one (.v (.slice af 0 0))),dI (0:Nat),dI 0,dI n,dI n,.any,dp,dp,L8,.e (.one (.v (.slice af 0 0))),dI (0:Nat)].getD i .any)
  (λj i=>[.e (.one (.v (oR (aa j.1) n))),.any,.any,.any,.any,.any,.e (.one (.v (.slice (aa ⟨j.1.1,0,af⟩) 0 j.1.2))),.e (.one (.v (.slice (aa ⟨j.1.1,0,af⟩) 0 j.1.2)))].getD (i-8) .any)
  (λj=>[bB ab (.slice af 0 0) (aa j.1) [] 0]) rfl rfl rfl rfl rfl rfl ?_ ?_ ?_ ?_
 .refine⟨.cK tok b5.nil rfl,.cK tok b5.nil rfl,.cK tok b5.nil rfl,?_,?_,?_,.cK tok b5.nil rfl,?_,ay,.cK tok b5.nil rfl,.cK tok b5.nil rfl,.cK tok b5.nil rfl,?_,?_,ay,ay,ay⟩
  .exact .law (bR.fu (l:=0) tok rfl rfl rfl rfl rfl) rfl
  .exact .law (bR.Mr rfl rfl Tryz.underlying22 rfl (by decide)) rfl
  .exact .law (JF 0 rfl rfl rfl (by simp[bD]) (λw=>rfl) (λw=>rfl)) rfl
  .exact .law (T9 rfl rfl rfl a) rfl
  .exact .law (bR.fu (l:=0) tok rfl rfl rfl rfl rfl) rfl
  .exact .law (bR.uw rfl rfl Tryz.underlying22 rfl (by decide)) rfl
 .intro j;have c:j.1.2≠0:=by have:=j.2;omega
  refine⟨.cK tok b5.nil rfl,.cK tok b5.nil rfl,.cK tok b5.nil rfl,?_,?_,?_,.cK tok b5.nil rfl,?_,ay,.cK tok b5.nil rfl,.cK tok b5.nil rfl,.cK tok b5.nil rfl,?_,?_,?_,.cK tok b5.nil rfl,ay⟩
  .exact .law (bR.fu (l:=0) tok rfl rfl rfl rfl rfl) rfl
  .exact .law (bR.Mr rfl rfl Tryz.underlying22 rfl (by decide)) rfl
  .exact .law (JF 0 rfl rfl rfl (by simp[bD]) (λw=>rfl) (λw=>rfl)) rfl
  .exact .law (T9 rfl rfl rfl a) rfl
  .exact .law (bR.fu (l:=0) tok rfl rfl rfl rfl rfl) rfl
  .exact .law (bR.uw rfl rfl Tryz.underlying22 rfl (by decide)) rfl
  .exact .law (bR.SW (k:=0) rfl Tryz.underlying22 (bA Tryz.type5) rfl rfl (iK _) j.2 c (di _ _ _)) rfl
 .exact .lJ rfl (SQ (l:=0) (ps:=#[3]) Tryz.underlying22 Tryz.func230 (by kernel_rfl) (by kernel_rfl) (by kernel_rfl) (by kernel_rfl) rfl rfl rfl d b rfl)
 .intro j;refine bP rfl ay ?_;refine AK.law (bR.fu (l:=0) tok rfl rfl rfl rfl rfl) rfl rfl ?_;refine AK.law (bR.copyV rfl Tryz.underlying22 (bA Tryz.type5) rfl rfl) rfl rfl ?_;refine bP rfl ay ?_;refine AK.law (bR.zp (l:=0) tok rfl rfl rfl rfl rfl rfl rfl) rfl rfl ?_;refine bP rfl ay ?_;exact⟨j,cn.tb [0] rfl ay rfl rfl rfl qO⟩
theorem Fw(n:Nat)(b:0<n)(a:n<=140737488355328):dZ (ι:={ p:Nat×Nat // n<=p.2 }) X 192 [.e (.one (.ptr 0 0)),dI n] [bb ae af [] 0] (λ_=>.fW []) (λj=>[bb ab (aa j.1) [] 0]):=by
 refine dZ.OX Tryz.func192 rfl rfl rfl ?_;refine bP rfl ay ?_;refine AK.bM (BL (oR af 0) rfl af [] 0) [0] rfl rfl rfl rfl rfl rfl rfl rfl rfl rfl rfl ?_;refine bd [(7,ae),(1000003,ab)] 100 rfl ?_ ?_
 .simp[ai]
 refine AK.HZ eQ 4 (λi=>bw i 3||(bw 5 i&&bw i 9)||aA i 11) (λi=>[dp,dp,L8,.e (.one (.v (.slice af 0 0))),.any,dp,dp,L8,.e (.one (.v (.slice af 0 0))),dI (0:Nat),.any,dI n].getD i .any)
  (λ(_:Unit) i=>[dI (0:Nat),.any,.any,.any,.any,.any,dI (0-0),.any,dB ab].getD (i-4) .any)
  (λ_=>[bb ab af [] 0]) rfl rfl rfl rfl rfl rfl ?_ ?_ ?_ ?_
 .refine⟨.cK tok b5.nil rfl,.cK tok b5.nil rfl,.cK tok b5.nil rfl,?_,ay,.cK tok b5.nil rfl,.cK tok b5.nil rfl,.cK tok b5.nil rfl,?_,?_,ay,.cK tok b5.nil rfl,ay,ay⟩
  .exact .law (bR.fu (l:=0) tok rfl rfl rfl rfl rfl) rfl
  .exact .law (bR.fu (l:=0) tok rfl rfl rfl rfl rfl) rfl
  .exact .law (bR.uw rfl rfl Tryz.underlying22 rfl (by decide)) rfl
 .intro _;refine⟨.cK tok b5.nil rfl,.cK tok b5.nil rfl,.cK tok b5.nil rfl,?_,ay,.cK tok b5.nil rfl,.cK tok b5.nil rfl,.cK tok b5.nil rfl,?_,?_,?_,.cK tok b5.nil rfl,?_,ay⟩
  .exact .law (bR.fu (l:=0) tok rfl rfl rfl rfl rfl) rfl
  .exact .law (bR.fu (l:=0) tok rfl rfl rfl rfl rfl) rfl
  .exact .law (bR.uw rfl rfl Tryz.underlying22 rfl (by decide)) rfl
  .exact .eval (ds:=[]) tok b5.nil (obs:=[bD .i64 (((0:Nat):Int)-((0:Nat):Int))]) rfl (by simp[ai,bD])
  .exact .eval (ds:=[(21,ab)]) tok b5.nil (obs:=[decide ((0:Int)-0<(n:Int))=ab]) rfl (by simp[ai];omega)
 .exact .wi (.law (bR.Mr rfl rfl Tryz.underlying22 rfl (by decide)) rfl)
 .intro _;refine bP rfl ay ?_;refine AK.cx (Nc n b a) [0] rfl rfl rfl rfl rfl rfl rfl (λ_=>rfl) rfl (λ_=>rfl) rfl λj=>?_
  refine bP rfl ay ?_;exact⟨j,cn.tb [0] rfl ay rfl rfl rfl qO⟩
theorem JG:Ev X 192 [.e (.one (.ptr 0 0)),dI (0:Nat)] [bb ae af [] 0] (.fW []) [bb ab af [] 0]:=by
 refine Ev.body Tryz.func192 rfl rfl rfl λa=>?_
 refine bP rfl ay ?_;refine AK.bM (BL (oR af 0) rfl af [] 0) [0] rfl rfl rfl rfl rfl rfl rfl rfl rfl rfl rfl ?_;refine bd [(7,ae),(1000003,ab)] 100 rfl ?_ ?_
 .simp[ai]
 refine AK.HZ eQ 4 (λi=>bw i 3||(bw 5 i&&bw i 9)||aA i 11) (λi=>[dp,dp,L8,.e (.one (.v (.slice af 0 0))),.any,dp,dp,L8,.e (.one (.v (.slice af 0 0))),dI (0:Nat),.any,dI (0:Nat)].getD i .any)
  (λ(_:Unit) i=>[dI (0:Nat),.any,.any,.any,.any,.any,dI (0-0),.any,dB ae].getD (i-4) .any)
  (λ_=>[bb ab af [] 0]) rfl rfl rfl rfl rfl rfl ?_ ?_ ?_ ?_
 .refine⟨.cK tok b5.nil rfl,.cK tok b5.nil rfl,.cK tok b5.nil rfl,?_,ay,.cK tok b5.nil rfl,.cK tok b5.nil rfl,.cK tok b5.nil rfl,?_,?_,ay,.cK tok b5.nil rfl,ay,ay⟩
  .exact .law (bR.fu (l:=0) tok rfl rfl rfl rfl rfl) rfl
  .exact .law (bR.fu (l:=0) tok rfl rfl rfl rfl rfl) rfl
  .exact .law (bR.uw rfl rfl Tryz.underlying22 rfl (by decide)) rfl
 .intro _;refine⟨.cK tok b5.nil rfl,.cK tok b5.nil rfl,.cK tok b5.nil rfl,?_,ay,.cK tok b5.nil rfl,.cK tok b5.nil rfl,.cK tok b5.nil rfl,?_,?_,?_,.cK tok b5.nil rfl,?_,ay⟩
  .exact .law (bR.fu (l:=0) tok rfl rfl rfl rfl rfl) rfl
  .exact .law (bR.fu (l:=0) tok rfl rfl rfl rfl rfl) rfl
  .exact .law (bR.uw rfl rfl Tryz.underlying22 rfl (by decide)) rfl
  .exact .eval (ds:=[]) tok b5.nil (obs:=[bD .i64 (((0:Nat):Int)-((0:Nat):Int))]) rfl (by simp[ai,bD])
  .exact .eval (ds:=[(21,ae)]) tok b5.nil (obs:=[decide ((0:Int)-0<((0:Nat):Int))=ae]) rfl (by simp[ai])
 .exact .wi (.law (bR.Mr rfl rfl Tryz.underlying22 rfl (by decide)) rfl)
 .intro _;refine bP rfl ay ?_;exact cn.tb [0] rfl ay rfl rfl rfl qO
theorem JH{o:av}{a:aq->D}{σ:List aW}(h:o.op=.alloc 239):bR ah o a σ (.e (.one (.ptr σ.length 0))) (σ++[bb ae af [] 0]) :=
 bR.Pz h (λw=>by simp[zeroValue,typeInfo,bA Tryz.type239,Tryz.t239]) (λw es=>by simp)
theorem JI{o:av}{n:aq->D}{σ:List aW}{x y z:aq}{p:Array ar}{a b c:Int} (m:Int)(h:o.op=.call { callee:=.builtin .min,args:=#[x,y,z],argTypes:=p })(v:n x=dI a)(t:n y=dI b)(r:n z=dI c)(q:min (min a b) c=m)(u:bD .i64 m):bR ah o n σ (dI m) σ:=by
 refine .quiet λs ρ w d=>?_
 have l:=d x;have f:=d y;have g:=d z;rw[v] at l;rw[t] at f;rw[r] at g
 replace l:=ga l
 replace f:=ga f
 replace g:=ga g
 generalize j:ρ x=vx at l;generalize k:ρ y=vy at f;generalize i:ρ z=vz at g;cases l;cases f;cases g;have e:(if c<(if b<a then b else a) then c else if b<a then b else a)=m:=by
  rw[<-q];split <;> split <;> omega
 exact⟨.int .i64 m,by simp[aw,h,resolve,invoke,builtin,j,k,i,Builtin.min_,Builtin.min2,e],.int u,by simp[aw,h,resolve,invoke,builtin,j,k,i,Builtin.min_,Builtin.min2]⟩
theorem JJ(n:Nat)(l:2<=n)(p:n<=3):Ev X 208 [dS [46],dI n] [] (dS (List.replicate n 46)) []:=by
 refine Ev.body Tryz.func208 rfl rfl rfl λo=>?_
 have a:b5 X [(227,QO)]:=.cons t227 .nil;refine aE a [(13,ae),(15,ae),(18,ae),(30,ae),(33,ae),(40,ae),(44,ae),(45,ae),(46,ae),(47,ae),(48,ae),(96,ae),(1000035,ab)] 200 rfl ?_ ?_
 .have h:(n:Int)=2∨(n:Int)=3:=by omega
  have e:(iV [46] 0).toNat=46:=rfl;simp[ai,bD,e,h];omega
 refine AK.region ?_;refine AK.law (JH rfl) rfl rfl ?_;refine aE a [] 200 rfl ay ?_;refine AK.cx (Fw n (by omega) (by omega)) [0] rfl rfl rfl rfl rfl rfl rfl (λ_=>rfl) rfl (λ_=>rfl) rfl λj=>?_
 obtain⟨⟨g,cap⟩,b⟩:=j;have b:n<=cap:=b;refine aE a [] 200 rfl ay ?_;refine AK.bM (DR g cap [] [46] 0 (by simp) (by simp;omega)) [0] rfl rfl rfl rfl rfl rfl rfl rfl rfl rfl rfl ?_
 refine aE a [] 200 rfl ay ?_;refine AK.j4 (λk=>1<=k/\k<=n) (λk:Nat=>[(0,dS [46]),(7,dI n),(8,dI n),(9,.e (.one (.ptr 0 0)))]) (λk=>[bb ab (aa (g,cap)) (List.replicate k 46) (k-1)]) (λk=>n-k) 1 rfl ?_ rfl ?_ ⟨by omega,by omega⟩ ?_
 .simp[ai,ai.cat]
 .exact ai.cat.2 ⟨rfl,ay⟩
 rintro k ⟨f,c⟩;refine aE a [] 200 rfl ay ?_;refine AK.bM (Ac ab (aa (g,cap)) (List.replicate k 46) (k-1) (by simp;omega) (by simp)) [0] rfl rfl rfl rfl rfl rfl rfl rfl rfl rfl rfl ?_
 by_cases q:k<n
 .refine aE a [(113,ab)] 200 rfl ?_ ?_
  .simp[ai];omega
  refine AK.bM (Ac ab (aa (g,cap)) (List.replicate k 46) (k-1) (by simp;omega) (by simp)) [0] rfl rfl rfl rfl rfl rfl rfl rfl rfl rfl rfl ?_
  refine aE a [] 200 rfl ?_ ?_
  .simp[ai,bD];omega
  refine AK.bM (Ac ab (aa (g,cap)) (List.replicate k 46) (k-1) (by simp;omega) (by simp)) [0] rfl rfl rfl rfl rfl rfl rfl rfl rfl rfl rfl ?_
  refine aE a [] 200 rfl ay ?_;refine AK.law (JI 1 rfl rfl rfl rfl (by simp;omega) (by simp[bD])) rfl rfl ?_
  refine aE a [] 200 rfl ay ?_;refine AK.bM (DS g cap (List.replicate k 46) (k-1) (by simp;omega) (by omega)) [0] rfl rfl rfl rfl rfl rfl rfl rfl rfl rfl rfl ?_
  have d:rT (List.replicate k (46:UInt8)) af (aa 1)=[46]:=by
   obtain⟨m,rfl⟩:∃ m,k=m+1:=⟨k-1,by omega⟩
   simp[rT,List.replicate_succ]
  refine aE a [] 200 rfl ?_ ?_
  .simp[ai];omega
  rw[d];refine AK.bM (DR g cap (List.replicate k 46) [46] (List.replicate k 46).length (by simp) (by simp;omega)) [0] rfl rfl rfl rfl rfl rfl rfl rfl rfl rfl rfl ?_
  have i:List.replicate k (46:UInt8)++[46]=List.replicate (k+1) 46:=by rw[List.replicate_succ']
  rw[i];refine aE a [] 200 rfl ay (AK.gw (k+1) rfl ?_ rfl ?_ ⟨by omega,by omega⟩ (by omega))
  .simp[ai,ai.cat]
  .refine ai.cat.2 ⟨?_,ay⟩;simp[ai]
 .refine aE a [(113,ae)] 200 rfl ?_ (AK.leave rfl rfl ?_)
  .simp[ai];omega
  have e:k=n:=by omega
  subst e;refine aE a [] 200 rfl ay ?_;refine AK.bM (DS g cap (List.replicate k 46) (k-1) (by simp;omega) (by omega)) [0] rfl rfl rfl rfl rfl rfl rfl rfl rfl rfl rfl ?_
  refine aE a [] 200 rfl ay (AK.br rfl ?_);simp[ai,ai.cat]
theorem XJ:eb X 208 Gy:=Ua (JJ 2 (by omega) (by omega)) (JJ 3 (by omega) (by omega))
theorem Ub:eb X 165 pe:=Uc XJ
def Room(bf:Option (Nat×Nat))(n:Nat):Prop:=match bf with|none=>n=0|some (_,cap)=>n<=cap/\0<cap
theorem _root_.Go.AM.dZ.re{P:an}{ι c:Type}{X:Cx P}{f:aX}{args:List D}{σ:List aW}{res:ι->D}{σ':ι->List aW}{a:c->D}{σ2:c->List aW}(h:dZ X f args σ res σ')(g:ι->c)(d:∀ i,a (g i)=res i)(b:∀ i,σ2 (g i)=σ' i):dZ X f args σ a σ2 :=
 ⟨h.1,λs vs h1 h2 S cs hS=>h.2 s vs h1 h2 S cs λi fr v s' k1 k2 k3 k4=>hS (g i) fr v s' k1 (by rw[b,d];exact k2) (by rw[b];exact k3) (by rw[b];exact k4)⟩
theorem JK(n:Nat)(a:n<=140737488355328):dZ (ι:={ bf:Option (Nat×Nat) // Room bf n }) X 192 [.e (.one (.ptr 0 0)),dI n] [bb ae af [] 0] (λ_=>.fW []) (λj=>[bb ab j.1 [] 0]):=by
 by_cases h:n=0
 .subst h;exact JG.EW.re (λ_=>⟨af,rfl⟩) (λ_=>rfl) (λ_=>rfl)
 .exact(Fw n (by omega) a).re (λp=>⟨aa p.1,p.2,by have:n<=p.1.2:=p.2;show 0<p.1.2;omega⟩) (λ_=>rfl) (λ_=>rfl)
theorem DT(bf:Option (Nat×Nat))(xs s:Bs)(a:s.length<=9223372036854775807)(h:Room bf (xs.length+s.length)):Ev X 193 [.e (.one (.ptr 0 0)),dS s] [bb ab bf xs 0] (.fW [.one (.c (.int .i64 s.length)),.one (.c .n8)]) [bb ab bf (xs++s) 0]:=by
 cases bf with
 |none =>
  have h:xs.length+s.length=0:=h;have d:xs=[]:=gh (by omega)
  have b:s=[]:=gh (by omega)
  subst d;subst b;exact QN
 |some p=>exact DR p.1 p.2 xs s 0 a h.1
def shown(bf:Option (Nat×Nat))(xs:Bs):Nat:=match bf with|none=>0|some _=>xs.length
theorem Nd(bf:Option (Nat×Nat))(xs:Bs)(a:xs.length<=9223372036854775807)(h:Room bf xs.length):Ev X 194 [.e (.one (.ptr 0 0))] [bb ab bf xs 0] (dS xs) [bb ab bf xs (shown bf xs)]:=by
 cases bf with
 |none =>
  have h:xs.length=0:=h;have b:xs=[]:=gh h;subst b;exact Nb
 |some p=>exact DS p.1 p.2 xs 0 a (by have:=h.2;omega)
def Fx(l:List Bs)(i:Nat):Bs:=(l.take i).flatten
theorem JL{l:List Bs}{i:Nat}(h:i<l.length):Fx l (i+1)=Fx l i++l.getD i []:=by
 unfold Fx;rw[mS,aR h,zg];simp[ag,aR h]
theorem Ud{l:List Bs}:Fx l l.length=l.flatten:=by simp[Fx]
theorem JM{l:List Bs}(i:Nat):(Fx l i).length<=l.flatten.length:=by
 have e:l.flatten=(l.take i).flatten++(l.drop i).flatten:=by rw[<-zg,j8]
 rw[e,bF];simp only[Fx];omega
theorem Nf(l:List Bs)(s:l.flatten.length<=140737488355328):Ev X 144 [cS.sl l,dS []] [] (dS l.flatten) []:=by
 refine Ev.body Tryz.func144 rfl rfl rfl λr=>?_
 have o:=r.sl 0 rfl
 by_cases f:l=[]
 .subst f;refine bd [(14,ab)] 100 rfl ?_ (AK.br rfl ?_)
  .simp[ai]
  .simp[ai]
 by_cases t:l.length=1
 .obtain⟨x,rfl⟩:=List.length_eq_one_iff.1 t;refine bd [(14,ae),(16,ab)] 100 rfl ?_ (AK.br rfl ?_)
  .simp[ai]
  .simp[ai,ai.cat,cS,iv.fn]
 have u:2<=l.length:=by
  have:l.length≠0:=by simpa using f
  omega
 refine bd [(14,ae),(16,ae),(22,ae)] 100 rfl ?_ ?_
 .simp[ai,f];omega
 refine AK.j4 (λi=>i<=l.length) (λi:Nat=>[(0,cS.sl l),(1,dS []),(5,dI (Fx l i).length),(39,cS.sl l),(40,dI l.length),(41,dI i)]) (λ_=>[]) (λi=>l.length-i) 0 rfl ?_ rfl ay (by omega) ?_
 .simp[ai,ai.cat,a9.same,Fx]
 .intro i hi;have v:=JM (l:=l) i
  by_cases h:i<l.length
  .have g:=JM (l:=l) (i+1);rw[JL h,bF] at g;refine bd [(42,ab),(49,ae)] 100 rfl ?_ (AK.gw (i+1) rfl ?_ rfl ay (by omega) (by omega))
   .have e:(l.getD (i:Int).toNat cS.bU)=l.getD i []:=rfl;simp only[ai,bD,e];refine⟨by omega,by omega,cJ (by omega),by omega,by omega,by omega,b9 (by omega)⟩
   .have e:(l.getD (i:Int).toNat cS.bU)=l.getD i []:=rfl;rw[JL h];rw[e];simp[ai,ai.cat,a9.same]
  .have e:i=l.length:=by omega
   subst e;refine bd [(42,ae),(1000018,ab)] 100 rfl ?_ (AK.leave rfl rfl ?_)
   .simp[ai]
   refine bd [(1000018,ab)] 100 rfl ay ?_;refine AK.region ?_;refine AK.law (JH rfl) rfl rfl ?_;refine ee rfl ay ?_;rw[Ud];refine AK.cx (JK l.flatten.length s) [0] rfl rfl rfl rfl rfl rfl rfl (λ_=>rfl) rfl (λ_=>rfl) rfl λj=>?_
   obtain⟨bf,k⟩:=j;refine ee rfl ?_ ?_
   .exact⟨by omega,show (0:Int)<(l.length:Int) by omega⟩
   have room:∀ n,n<=l.flatten.length->Room bf n:=λn q=>by
    cases bf with
    |none =>
     have:l.flatten.length=0:=k;show n=0;omega
    |some p=>exact⟨eG q k.1,k.2⟩
   have m:Fx l 1=l.getD 0 []:=by rw[JL (by omega)];simp[Fx]
   have b:=JM (l:=l) 1;rw[m] at b;refine AK.bM (DT bf [] (l.getD 0 []) (by omega) (room _ (by simpa using b))) [0] rfl rfl rfl rfl rfl rfl rfl rfl rfl rfl rfl ?_
   refine ee rfl ?_ ?_
   .exact⟨by omega,show (1:Int)<=(l.length:Int) by omega⟩
   refine AK.j4 (λi=>i+1<=l.length) (λi:Nat=>[(1,dS []),(8,.e (.one (.ptr 0 0))),(63,.e (.one (.c (.sl ae 1 (l.length-1) (jb 1 (cS.fn l)))))),(64,dI (l.length-1:Nat)),(65,dI i)]) (λi=>[bb ab bf (Fx l (i+1)) 0]) (λi=>l.length-i) 0 rfl ?_ rfl ?_ (by omega) ?_
   .simp[ai,ai.cat,cE,a9.same]
   .refine ai.cat.2 ⟨?_,ay⟩;rw[bm,m];exact rfl
   intro i hi;have d:=JM (l:=l) (i+1)
   by_cases h:i+1<l.length
   .have a:=JM (l:=l) (i+2);rw[JL h,bF] at a;refine bd [(66,ab)] 100 rfl ?_ ?_
    .exact⟨by omega,by omega,b9 (by omega)⟩
    refine AK.bM (DT bf (Fx l (i+1)) [] (by simp) (room _ (by simpa using d))) [0] rfl rfl rfl rfl rfl rfl rfl rfl rfl rfl rfl ?_
    rw[hJ];refine bP rfl ay ?_;refine AK.bM (DT bf (Fx l (i+1)) (l.getD (1+i) []) (by rw[kC 1 i];omega) (room _ (by rw[kC 1 i];exact a))) [0] rfl rfl rfl rfl rfl rfl rfl rfl rfl rfl rfl ?_
    refine bP rfl ?_ (AK.gw (i+1) rfl ?_ rfl ?_ (by omega) (by omega))
    .simp only[ai,bD];omega
    .simp[ai,ai.cat,a9.same]
    .refine ai.cat.2 ⟨?_,ay⟩;rw[JL h,kC 1 i];exact rfl
   .have e:i+1=l.length:=by omega
    refine bd [(66,ae)] 100 rfl ?_ (AK.leave rfl rfl ?_)
    .exact cJ (by omega)
    rw[e,Ud];refine bP rfl ay ?_;refine AK.bM (Nd bf l.flatten (by omega) (room _ (by omega))) [0] rfl rfl rfl rfl rfl rfl rfl rfl rfl rfl rfl ?_
    refine bP rfl ay (AK.br rfl ?_);simp[ai,ai.cat]
theorem GD{s:Bs}(h:ck s=ab)(i:Nat)(hi:i<s.length):97<=cv s i/\cv s i<=122:=by
 have a:=bq.1 h (s.getD i 0) (by rw[ag,aR hi];exact dy hi)
 simp only[eR,bG,bh] at a;unfold cv;omega
theorem BT(s:Bs)(i:Nat)(b:ck s=ab)(g:3<=i)(hi:i<=s.length)(j:s.length<=4000000):Ev X 231 [dS s,dI i] [] (dB (k5 s i)) []:=by
 refine Ev.body Tryz.func231 rfl rfl rfl λf=>?_
 have h:=GD b (i-1) (by omega)
 have k:=GD b (i-2) (by omega)
 have l:=GD b (i-3) (by omega)
 have c:((iV s ((i:Int)-1)).toNat:Int)=cv s (i-1):=by rw[cA,show ((i:Int)-1).toNat=i-1 by omega]
 have d:((iV s ((i:Int)-2)).toNat:Int)=cv s (i-2):=by rw[cA,show ((i:Int)-2).toNat=i-2 by omega]
 have e:((iV s ((i:Int)-3)).toNat:Int)=cv s (i-3):=by rw[cA,show ((i:Int)-3).toNat=i-3 by omega]
 refine bP rfl ?_ (AK.br rfl ?_)
 .simp only[ai,bD,c,d,e];omega
 .simp only[ai,ai.cat,c,d,e,k5,dl,aF];rw[mf (a:=cv s (i-1)-97) (by omega) (by omega),mf (a:=cv s (i-2)-97) (by omega) (by omega),mf (a:=cv s (i-3)-97) (by omega) (by omega)]
theorem GF:eb X 231 (qb aS aI (λs i=>dB (k5 s i.toNat)) λs i=>[ck s=ab,3<=i,i<=s.length,s.length<=4000000]):=.te λs i h=>by
 obtain⟨b,c,d,a⟩:=h;obtain⟨m,rfl⟩:∃ m:Nat,i=m:=⟨i.toNat,by omega⟩
 exact BT s m b (by omega) (by omega) a
theorem Ag{o:av}{k:aq->D}{σ:List aW}{x y:aq}{j:Array ar}{a b:Int} (m:Int)(h:o.op=.call { callee:=.builtin .min,args:=#[x,y],argTypes:=j })(q:k x=dI a)(n:k y=dI b)(l:min a b=m)(p:bD .i64 m):bR ah o k σ (dI m) σ:=by
 refine .quiet λs ρ r d=>?_
 have i:=d x;have c:=d y;rw[q] at i;rw[n] at c
 replace i:=ga i
 replace c:=ga c
 generalize f:ρ x=vx at i;generalize g:ρ y=vy at c;cases i;cases c;have e:(if b<a then b else a)=m:=by
  rw[<-l];split <;> omega
 exact⟨.int .i64 m,by simp[aw,h,resolve,invoke,builtin,f,g,Builtin.min_,Builtin.min2,e],.int p,by simp[aw,h,resolve,invoke,builtin,f,g,Builtin.min_,Builtin.min2]⟩
theorem JY{t:Bs}{f j:Nat}(h:t.length<=f+3+j)(c:j<=5):tf t f (5-j)=min (f+8) t.length:=by
 rcases cr j 5 with b|b
 .obtain⟨k,a⟩:∃ k,5-j=k+1:=⟨4-j,by omega⟩
  rw[a];simp only[tf];rw[aU (by omega)]
  omega
 .rw[show 5-j=0 by omega];rfl
theorem GG(t:Bs)(f:Nat)(m:ck t=ab)(n:f<=t.length)(q:t.length<=4000000):Ev X 221 [dS t,dI f] [] (dI (cutAt t f)) []:=by
 refine Ev.body Tryz.func221 rfl rfl rfl λp=>?_
 have a:b5 X [(231,qb aS aI (λs i=>dB (k5 s i.toNat)) λs i=>[ck s=ab,3<=i,i<=s.length,s.length<=4000000])]:=.cons GF .nil
 refine aE a [] 100 rfl ?_ ?_
 .simp[ai,bD];omega
 refine AK.j4 (λj=>j<=5/\tf t f (5-j)=cutAt t f) (λj:Nat=>[(0,dS t),(1,dI f),(5,dI (f+3+j))]) (λ_=>[]) (λj=>5-j) 0 rfl ?_ rfl ay ⟨by omega,rfl⟩ ?_
 .simp[ai,ai.cat]
 rintro j ⟨r,b⟩
 by_cases h:j<5/\f+3+j<t.length
 .obtain⟨k,o⟩:∃ k,5-j=k+1:=⟨4-j,by omega⟩
  have d:f+(7-k)=f+3+j:=by omega
  rw[o] at b;simp only[tf,d] at b;rw[aO (by omega)] at b
  have e:((f:Int)+3+j).toNat=f+3+j:=by omega
  cases c:k5 t (f+3+j) with
  |true =>
   rw[c,aU rfl] at b;refine aE a [(11,ab),(16,ab),(22,ab)] 100 rfl ?_ (AK.iq (cn.zero rfl ?_))
   .simp only[ai,bD,e,c,m,bh,eq_self,aG,aF];omega
   .simp[ai,ai.cat,<-b]
  |false =>
   rw[c,aO (by simp)] at b
   refine aE a [(11,ab),(16,ab),(22,ae)] 100 rfl ?_ (AK.gw (j+1) rfl ?_ rfl ay ⟨by omega,by rw[<-b];congr 1;omega⟩ (by omega))
   .simp only[ai,bD,e,c,m,bh,eq_self,aG,aF];omega
   .simp[ai,ai.cat];omega
 .have e:cutAt t f=min (f+8) t.length:=by
   rw[<-b];rcases cr j 5 with g|g
   .exact JY (by omega) (by omega)
   .rw[show 5-j=0 by omega];rfl
  have l:bD .i64 ((min (f+8) t.length:Nat):Int):=by simp only[bD];omega
  rcases cr j 5 with g|g
  .refine aE a [(11,ab),(16,ae)] 100 rfl ?_ (AK.leave rfl rfl ?_)
   .simp only[ai,bD,bh,bY];omega
   refine aE a [] 100 rfl ?_ ?_
   .simp only[ai,bD];omega
   refine AK.law (Ag ((min (f+8) t.length:Nat):Int) rfl rfl rfl (by omega) l) rfl rfl ?_
   refine aE a [] 100 rfl ay (AK.br rfl ?_);simp[ai,e]
  .refine aE a [(11,ae)] 100 rfl ?_ (AK.leave rfl rfl ?_)
   .simp only[ai,bD,bh,bY];omega
   refine aE a [] 100 rfl ?_ ?_
   .simp only[ai,bD];omega
   refine AK.law (Ag ((min (f+8) t.length:Nat):Int) rfl rfl rfl (by omega) l) rfl rfl ?_
   refine aE a [] 100 rfl ay (AK.br rfl ?_);simp[ai,e]
theorem QY:eb X 221 (qb aS aI (λs i=>dI (cutAt s i.toNat)) λs i=>[ck s=ab,0<=i,i<=s.length,s.length<=4000000]):=.te λs i h=>by
 obtain⟨b,c,d,a⟩:=h;obtain⟨m,rfl⟩:∃ m:Nat,i=m:=⟨i.toNat,by omega⟩
 exact GG s m b (by omega) a
end Go.AM.R1
