/-
  Part 5 of a machine of values without memory, proved sound over the model, and of contracts of the functions that the laws reach. Nothing is taken for granted: no condition.
-/
import Derived.Test.YtcdlknpnfnggfaaGreatDoorA4
import Derived.Conc.WgGenN2
import Derived.Lib.FrozenHead
import Derived.Lib.UnsafeStr
import Derived.Lib.MakeNoZero
import Derived.Laws.Externs
import Derived.Lib.Builder
import Derived.Maps.RangeRun
import Derived.Lib.Bytealg
import Derived.Conc.DeferLaws
set_option linter.unusedVariables false
set_option linter.unusedSimpArgs false
set_option linter.defProp false
set_option linter.deprecated false
namespace Go.AM
open Go.Conc Go.Conc.Lib
open Go.ConcN (WgLive)
open Go.ConcR (KK WgAt stA smA rd wr mk DC0 Payload)
def dK(ty:TypeId)(Wg:Nat)(w w1:World):Prop:=WgLive ty Wg w->WgLive ty Wg w1
theorem dK.kn{ty:TypeId}{Wg:Nat}{w w1:World}(h:WgLive ty Wg w)(r:dK ty Wg w w1):WgLive ty Wg w1:=r h
theorem dK.refl{ty:TypeId}{Wg:Nat}(w:World):dK ty Wg w w:=id
theorem dK.trans{ty:TypeId}{Wg:Nat}{a b c:World}(h:dK ty Wg a b)(k:dK ty Wg b c):dK ty Wg a c:=λx=>k (h x)
def vd(R:World->World->Prop)(Stop:Goroutine->World->Prop)(g:Goroutine)(w:World):Prop:=∀ w1,R w w1->Stop g w1
theorem Goes.all{P:Program}{main:Bool}{R:World->World->Prop}{D:World->World->Array Event->Prop}{Stop:Goroutine->World->Prop}(k:∀ a b c,R a b->R b c->R a c) :
  ∀ {n:Nat} {g:Goroutine} {w:World},Goes P main R D Stop n g w->Goes P main R D (vd R Stop) n g w
 |0,g,w,h=>λw1 l w2 p=>h w2 (k _ _ _ l p)
 |n+1,g,w,h=>by
  rcases h with h|⟨d,h⟩
  ·exact .inl λw1 l w2 p=>h w2 (k _ _ _ l p)
  ·refine .inr ⟨d,λw1 l=>?_⟩
   have p:=h w1 l;cases j:stepG P main g w1 with
   |go g' w' es =>
    rw[j,goes_go] at p;rw[goes_go];exact⟨p.1,Goes.all k p.2⟩
   |_=>rw[j] at p;exact p.elim
structure Apart (Wg:Nat)(F:St->Prop):Prop where
 rely:∀ s s',F s->br s s'->F s'
 heap:∀ s,F s->∃ σ,ag σ s
 free:∀ s,F s->¬s.own Wg/\(∀ L∈s.β,Wg∉L.bs)/\∀ o,s.M Wg o=none
section
variable {P:Program}{L:WgLink}{Wg:Nat}{F:St->Prop}
def vO(ty:TypeId)(Wg:Nat)(F:St->Prop)(s:St):Prop:=F s/\WgLive ty Wg s.w
theorem Apart.KH(A:Apart Wg F){s:St}(h:F s):fA s:=(A.heap s h).choose_spec.mem
theorem Apart.set(A:Apart Wg F){s:St}(h:F s)(a:Addr)(M:a.block=Wg)(v:Value):br s { s with w:=s.w.setCell a v }:=by
 obtain⟨l,p,y⟩:=A.free s h;have x:∀ b,b≠Wg->(s.w.setCell a v).heap[b]?=s.w.heap[b]?:=λb j=>by
  have:=(aside_setCell s.w a v).block b (by rw[M];exact j)
  exact this
 refine⟨rfl,rfl,rfl,Nat.le_of_eq (aside_setCell s.w a v).size.symm,λb j=>x b ?_,λb o u k=>?_,(aside_setCell s.w a v).os,(aside_setCell s.w a v).tape,(aside_setCell s.w a v).output⟩
 ·rintro rfl;rcases j with j|⟨L,D,j⟩
  ·exact l j
  ·exact p L D j
 ·have C:b≠Wg:=by rintro rfl;rw[y] at k;cases k
  show (s.w.setCell a v).cell? _=_;rw[iD (x b C) o];exact A.KH h b o u k
theorem Apart.next(A:Apart Wg F){ty:TypeId}{s i:St}(h:vO ty Wg F s)(r:(Cx.lead P ty Wg).rely s i):vO ty Wg F i:=⟨A.rely s i h.1 r.1,r.2 h.2⟩
theorem Apart.here(A:Apart Wg F){ty:TypeId}{s:St}(h:vO ty Wg F s):(Cx.lead P ty Wg).rely s s:=⟨br.tD (A.KH h.1),id⟩
theorem Apart.goes(A:Apart Wg F){ty:TypeId}{S:Goroutine->St->Prop}{Stop:Goroutine->World->Prop}(k:∀ g s,vO ty Wg F s->vd (dK ty Wg) Stop g s.w->dh (Cx.lead P ty Wg) (Es Wg) S g s){n:Nat}{g:Goroutine}{s:St}
  (d:vO ty Wg F s) (h:Goes P true (dK ty Wg) DC0 Stop n g s.w):dh (Cx.lead P ty Wg) (Es Wg) S g s:=by
 refine dh.goes (X:=Cx.lead P ty Wg) (R:=dK ty Wg) (D:=DC0) (Stop:=vd (dK ty Wg) Stop) (vO ty Wg F) (λs i hi f=>A.next hi f) (λs i _ f=>f.2) ?_ (λs hi=>A.here hi) k n g s d (Goes.all (λ_ _ _ l p=>l.trans p) h)
 rintro s es hi w' ⟨rfl,rfl⟩;exact⟨rfl,.inl (.quiet (A.heap s hi.1).choose_spec)⟩
end
set_option maxRecDepth 100000 in
theorem Ap{P:Program}{L:WgLink}(H:WgLib P L){Wg:Nat}:Frame.enter P L.add #[.pointer (some ⟨Wg,0,none⟩),.int .i64 1] .normal=(base L.add).at ⟨#[.pointer (some ⟨Wg,0,none⟩),.int .i64 1,undef,undef,undef,undef,undef,undef,undef,undef,undef,undef,undef,undef,undef,undef,undef,undef,undef,undef,undef,undef,undef,undef,undef,undef,undef,undef,undef,undef,undef,undef,undef,undef,undef,undef,undef,undef,undef,undef,undef,undef,undef,undef,undef,undef,undef,undef,undef,undef,undef,undef,undef,undef,undef,undef,undef,undef,undef,undef,undef,undef,undef,undef,undef,undef,undef,undef,undef,undef,undef,undef,undef,undef,undef,undef,undef,undef,undef,undef,undef,undef,undef,undef,undef,undef,undef,undef,undef,undef,undef,undef,undef,undef,undef,undef,undef,undef,undef,undef,undef,undef,undef,undef,undef,undef,undef,undef,undef,undef,undef,undef,undef,undef,undef,undef,undef],[]⟩ [.code (Go.ConcR.Gen.body_add L)] :=
 (enter_at (c:=Go.ConcR.Gen.body_add L) _ H.f_add (by kernel_rfl)).trans (by kernel_rfl)
set_option maxRecDepth 100000 in
theorem yQ{P:Program}{L:WgLink}(H:WgLib P L){Wg:Nat}:Frame.enter P L.wait #[.pointer (some ⟨Wg,0,none⟩)] .normal=(base L.wait).at ⟨#[.pointer (some ⟨Wg,0,none⟩),undef,undef,undef,undef,undef,undef,undef,undef,undef,undef,undef,undef,undef,undef,undef,undef,undef,undef,undef,undef,undef,undef,undef,undef,undef,undef,undef,undef,undef,undef,undef,undef,undef,undef,undef,undef,undef,undef,undef,undef,undef,undef,undef,undef,undef,undef,undef,undef,undef,undef,undef,undef,undef,undef,undef,undef,undef,undef,undef,undef,undef,undef,undef,undef,undef,undef,undef,undef,undef,undef,undef,undef,undef,undef,undef,undef,undef,undef,undef,undef,undef,undef,undef],[]⟩ [.code (Go.ConcR.Gen.body_wait L)] :=
 (enter_at (c:=Go.ConcR.Gen.body_wait L) _ H.f_wait (by kernel_rfl)).trans (by kernel_rfl)
section
variable [Payload] {P:Program}{L:WgLink}{Y:Lay}{F:St->Prop}{N n:Nat}{val:Nat->Nat->Value}
theorem Sn(H:WgLib P L)(A:Apart Y.Wg F){j:Nat}{Next:Goroutine->St->Prop}{b₀:Frame}{a₀:Act}{ops₀:Array Oper}{i₀:Nat}{rest₀:List Nat}{k₀:List Item}{cs:List Frame}
  (o:∀ s,vO L.tWg Y.Wg F s->dh (Cx.lead P L.tWg Y.Wg) (Es Y.Wg) (AtGo P L.tWg Y N val j Next) (G (b₀.at (a₀.put ((ops₀[i₀]?).bind (·.dst)) (.tuple #[])) (.inRegion ops₀ rest₀::k₀)) cs) s)
  {s:St} (d:vO L.tWg Y.Wg F s) :
  dh (Cx.lead P L.tWg Y.Wg) (Es Y.Wg) (AtKdS P L.tWg Y N val j Next) (G (Frame.enter P L.add #[.pointer (some ⟨Y.Wg,0,none⟩),.int .i64 1] .normal) (b₀.at a₀ (.inRegion ops₀ (i₀::rest₀)::k₀)::cs)) s:=by
 have z:∀ g s,vO L.tWg Y.Wg F s->So P (dK L.tWg Y.Wg) L Y.Wg (G (b₀.at (a₀.put ((ops₀[i₀]?).bind (·.dst)) (.tuple #[])) (.inRegion ops₀ rest₀::k₀)) cs) g s.w->dh (Cx.lead P L.tWg Y.Wg) (Es Y.Wg) (AtKeS P L.tWg Y N val j Next) g s:=by
  rintro g s d ⟨l,g',p,y⟩;refine⟨.leaf,l,g',p,λi f=>?_⟩
  have a:=A.next d f;obtain⟨m,q⟩:=y i.w a.2;exact A.goes (λg s d h=>by obtain rfl:=h s.w (.refl _);exact o s d) a q
 have k:∀ g s,vO L.tWg Y.Wg F s->vd (dK L.tWg Y.Wg) (UR P (dK L.tWg Y.Wg) L Y.Wg (G (b₀.at (a₀.put ((ops₀[i₀]?).bind (·.dst)) (.tuple #[])) (.inRegion ops₀ rest₀::k₀)) cs)) g s.w->dh (Cx.lead P L.tWg Y.Wg) (Es Y.Wg) (AtA1 P L.tWg Y N val j Next) g s:=by
  rintro g s d h;refine⟨.leaf,(h s.w (.refl _)).1,λi f v I t=>?_⟩
  have a:=A.next d f;obtain⟨g',l,m,q⟩:=(h i.w f.2).2 v I t;have b:vO L.tWg Y.Wg F { i with w:=i.w.setCell (stA Y.Wg) (.int .u64 ((v+1)*KK)) }:=⟨A.rely _ _ a.1 (A.set a.1 _ rfl _),⟨_,_,t.setSt _⟩⟩;refine⟨g',l,A.goes (λg s d h=>?_) b q⟩
  rcases h s.w (.refl _) with h|h
  ·obtain⟨l,g',ad,p,y,V⟩:=h;refine .step l λi f=>⟨g',i,_,y i.w,.inr ⟨rfl,ad,p,.inl rfl⟩,?_⟩
   have a:=A.next d f;obtain⟨m,q⟩:=V i.w a.2;exact A.goes (λg s d h=>z g s d (h s.w (.refl _))) a q
  ·exact z g s d h
 have t:=Ja (P:=P) (L:=L) H (R:=dK L.tWg Y.Wg) (Wg:=Y.Wg) (λh r=>r h) (b₀:=b₀) (a₀:=a₀) (ops₀:=ops₀) (i₀:=i₀) (rest₀:=rest₀) (k₀:=k₀) (cs:=cs) s.w d.2
 rw[Ap H];refine A.goes (λg s d h=>?_) d t
 obtain⟨l,g',p,y⟩:=h s.w (.refl _);refine⟨.leaf,l,g',p,λi f=>?_⟩
 have a:=A.next d f;obtain⟨m,q⟩:=y i.w a.2;exact A.goes k a q
section
variable (P L Y F)
def TW(B g:Goroutine)(s:St):Prop:=vO L.tWg Y.Wg F s/\∃ m,Goes P true (dK L.tWg Y.Wg) DC0 (λg _=>g=B) m g s.w
def B6(c:Frame)(cs:List Frame)(g:Goroutine)(s:St):Prop:=vO L.tWg Y.Wg F s/\∃ m,Goes P true (dK L.tWg Y.Wg) DC0 (λg _=>Mf L Y.Wg c cs g) m g s.w
end
variable {b₀:Frame}{a₀:Act}{ops₀:Array Oper}{i₀:Nat}{rest₀:List Nat}{k₀:List Item}{cs:List Frame}
omit [Payload] in
theorem OV(H:WgLib P L)(A:Apart Y.Wg F){T J:Goroutine->St->Prop}(K:∀ g s,TW P L Y F (G (b₀.at (a₀.put ((ops₀[i₀]?).bind (·.dst)) (.tuple #[])) (.inRegion ops₀ rest₀::k₀)) cs) g s->T g s)
  (E:∀ g s,B6 P L Y F (b₀.at a₀ (.inRegion ops₀ (i₀::rest₀)::k₀)) cs g s->J g s) {g:Goroutine} {s:St} (h:B6 P L Y F (b₀.at a₀ (.inRegion ops₀ (i₀::rest₀)::k₀)) cs g s) :
  dh (Cx.lead P L.tWg Y.Wg) (Es Y.Wg) (AtW1 P L.tWg Y T J) g s:=by
 generalize hc:b₀.at a₀ (.inRegion ops₀ (i₀::rest₀)::k₀)=c at *;generalize U:G (b₀.at (a₀.put ((ops₀[i₀]?).bind (·.dst)) (.tuple #[])) (.inRegion ops₀ rest₀::k₀)) cs=B at K;have O:∀ g s,vO L.tWg Y.Wg F s->vd (dK L.tWg Y.Wg) (OW P (dK L.tWg Y.Wg) L Y.Wg B) g s.w->dh (Cx.lead P L.tWg Y.Wg) (Es Y.Wg) (AtAcq P L.tWg Y T) g s:=by
  intro g s d h;obtain⟨l,g',p,y⟩:=h s.w (.refl _);exact⟨.leaf,l,g',p,λi f=>K _ _ ⟨A.next d f,y i.w (A.next d f).2⟩⟩
 have z:∀ g s,vO L.tWg Y.Wg F s->vd (dK L.tWg Y.Wg) (Sp P (dK L.tWg Y.Wg) L Y.Wg B) g s.w->dh (Cx.lead P L.tWg Y.Wg) (Es Y.Wg) (AtKe P L.tWg Y T) g s:=by
  intro g s d h;obtain⟨l,g',p,y⟩:=h s.w (.refl _);refine⟨.leaf,l,g',p,λi f=>?_⟩
  obtain⟨m,q⟩:=y i.w (A.next d f).2;exact A.goes O (A.next d f) q
 have Z:∀ g s,vO L.tWg Y.Wg F s->vd (dK L.tWg Y.Wg) (US P (dK L.tWg Y.Wg) L Y.Wg B) g s.w->dh (Cx.lead P L.tWg Y.Wg) (Es Y.Wg) (AtW4 P L.tWg Y T) g s:=by
  intro g s d h;refine⟨.leaf,(h s.w (.refl _)).1,λi f t=>?_⟩
  obtain⟨g',l,m,q⟩:=(h i.w f.2).2 t;exact⟨g',l,A.goes z (A.next d f) q⟩
 have Xf:∀ g s,vO L.tWg Y.Wg F s->vd (dK L.tWg Y.Wg) (UT P (dK L.tWg Y.Wg) L Y.Wg B) g s.w->dh (Cx.lead P L.tWg Y.Wg) (Es Y.Wg) (AtW3 P L.tWg Y T) g s:=by
  intro g s d h;refine⟨.leaf,(h s.w (.refl _)).1,(h s.w (.refl _)).2.1,λi f=>⟨(h i.w f.2).2.2.1,λt=>?_⟩⟩
  obtain⟨g',l,m,q⟩:=(h i.w f.2).2.2.2 t;exact⟨g',l,A.goes Z (s:={ i with w:=i.w.setCell (smA Y.Wg) (.int .u32 0) }) ⟨A.rely _ _ (A.next d f).1 (A.set (A.next d f).1 _ rfl _),⟨_,_,t.setSm 0⟩⟩ q⟩
 have W:∀ g s,vO L.tWg Y.Wg F s->vd (dK L.tWg Y.Wg) (UU P (dK L.tWg Y.Wg) L Y.Wg B) g s.w->dh (Cx.lead P L.tWg Y.Wg) (Es Y.Wg) (AtW3 P L.tWg Y T) g s:=by
  intro g s d h;obtain⟨l,g',ad,p,y,V⟩:=h s.w (.refl _);refine .step l λi f=>⟨g',i,_,y i.w,.inr ⟨rfl,ad,p,.inr rfl⟩,?_⟩
  obtain⟨m,q⟩:=V i.w (A.next d f).2;exact A.goes Xf (A.next d f) q
 have Q:∀ (v:Nat) g s,vO L.tWg Y.Wg F s->vd (dK L.tWg Y.Wg) (UW P (dK L.tWg Y.Wg) L Y.Wg B (Mf L Y.Wg c cs) v) g s.w->dh (Cx.lead P L.tWg Y.Wg) (Es Y.Wg) (AtW2 P L.tWg Y T J v) g s:=by
  intro vs g s d h;refine⟨.leaf,(h s.w (.refl _)).1,λi f v I t=>⟨λe=>?_,λe=>?_⟩⟩
  ·obtain⟨g',l,m,q⟩:=((h i.w f.2).2 v I t).1 e;exact⟨g',l,A.goes W (s:={ i with w:=i.w.setCell (stA Y.Wg) (.int .u64 (v*KK+1)) }) ⟨A.rely _ _ (A.next d f).1 (A.set (A.next d f).1 _ rfl _),⟨_,_,t.setSt _⟩⟩ q⟩
  ·obtain⟨g',l,m,q⟩:=((h i.w f.2).2 v I t).2 e;exact⟨g',l,E _ _ ⟨A.next d f,m,q⟩⟩
 obtain⟨d,m,q⟩:=h;refine A.goes (λg s d h=>?_) d q
 obtain⟨m,t⟩:=Aq (P:=P) (L:=L) H (R:=dK L.tWg Y.Wg) (Wg:=Y.Wg) (λh r=>r h) (b₀:=b₀) (a₀:=a₀) (ops₀:=ops₀) (i₀:=i₀) (rest₀:=rest₀) (k₀:=k₀) (cs:=cs) g (by rw[hc];exact h s.w (.refl _)) s.w d.2
 rw[hc,U] at t;refine A.goes (λg s d h=>?_) d t
 refine⟨.leaf,(h s.w (.refl _)).1,λi f v I t=>?_⟩
 obtain⟨g',l,p,y⟩:=(h i.w f.2).2 v I t;refine⟨g',l,λh0=>?_,λC=>?_⟩
 ·obtain⟨m,q⟩:=p h0;exact A.goes z (A.next d f) q
 ·obtain⟨m,q⟩:=y C;exact A.goes (Q v) (A.next d f) q
omit [Payload] in
theorem OX(H:WgLib P L)(A:Apart Y.Wg F){c:Frame}{J:Goroutine->St->Prop}(E:∀ g s,B6 P L Y F c cs g s->J g s){s:St}(d:vO L.tWg Y.Wg F s) :
  dh (Cx.lead P L.tWg Y.Wg) (Es Y.Wg) (AtKd P L.tWg Y J) (G (Frame.enter P L.wait #[.pointer (some ⟨Y.Wg,0,none⟩)] .normal) (c::cs)) s:=by
 have t:=Ar (P:=P) (L:=L) H (R:=dK L.tWg Y.Wg) (Wg:=Y.Wg) (λh r=>r h) (c:=c) (cs:=cs) s.w d.2
 rw[yQ H];refine A.goes (λg s d h=>?_) d t
 obtain⟨l,g',p,y⟩:=h s.w (.refl _);exact⟨.leaf,l,g',p,λi f=>E _ _ ⟨A.next d f,y i.w (A.next d f).2⟩⟩
end
end Go.AM
namespace Go.AM.R1
open Go.Proofs Go.Conc.Lib
def KP:WgLink:={ add:=73,done:=75,wait:=77,relMerge:=110,disable:=111,enable:=112,inBubble:=113,associate:=114,fatal:=115,uOr:=116,uAdd:=117,raceRead:=118,uLoad:=119,uStore:=120,disassociate:=121,semrelease:=122,acquire:=124,isAssociated:=125,uCas:=126,raceWrite:=127,semacquire:=128,orU64:=151,addU64:=152,loadU64:=153,storeU64:=154,casU64:=157,tWgP:=162,tUP:=164,tAssoc:=166,tWg:=128,tAU:=125,tU64:=123,tUint:=103,tU32:=126,tPU32:=170,tPAU:=204,tPU64:=206,tNoCopy:=120,tANoCopy:=121,tAlign64:=122 }
theorem y4:WgLib Tryz.prog KP where
 f_add:=Tryz.func73.trans (cn some (by kernel_rfl))
 f_done:=Tryz.func75.trans (cn some (by kernel_rfl))
 f_wait:=Tryz.func77.trans (cn some (by kernel_rfl))
 f_relMerge:=Tryz.func110.trans (cn some (by kernel_rfl))
 f_disable:=Tryz.func111.trans (cn some (by kernel_rfl))
 f_enable:=Tryz.func112.trans (cn some (by kernel_rfl))
 f_inBubble:=Tryz.func113.trans (cn some (by kernel_rfl))
 f_associate:=Tryz.func114.trans (cn some (by kernel_rfl))
 f_fatal:=Tryz.func115.trans (cn some (by kernel_rfl))
 f_uOr:=Tryz.func116.trans (cn some (by kernel_rfl))
 f_uAdd:=Tryz.func117.trans (cn some (by kernel_rfl))
 f_raceRead:=Tryz.func118.trans (cn some (by kernel_rfl))
 f_uLoad:=Tryz.func119.trans (cn some (by kernel_rfl))
 f_uStore:=Tryz.func120.trans (cn some (by kernel_rfl))
 f_disassociate:=Tryz.func121.trans (cn some (by kernel_rfl))
 f_semrelease:=Tryz.func122.trans (cn some (by kernel_rfl))
 f_acquire:=Tryz.func124.trans (cn some (by kernel_rfl))
 f_isAssociated:=Tryz.func125.trans (cn some (by kernel_rfl))
 f_uCas:=Tryz.func126.trans (cn some (by kernel_rfl))
 f_raceWrite:=Tryz.func127.trans (cn some (by kernel_rfl))
 f_semacquire:=Tryz.func128.trans (cn some (by kernel_rfl))
 f_orU64:=Tryz.func151.trans (cn some (by kernel_rfl))
 f_addU64:=Tryz.func152.trans (cn some (by kernel_rfl))
 f_loadU64:=Tryz.func153.trans (cn some (by kernel_rfl))
 f_storeU64:=Tryz.func154.trans (cn some (by kernel_rfl))
 f_casU64:=Tryz.func157.trans (cn some (by kernel_rfl))
 underlying_tWgP:=Tryz.underlying162
 runUnderlying_tWgP:=Tryz.runUnderlying162
 sizeOf_tWgP:=Tryz.sizeOf162
 isAgg_tWgP:=Tryz.isAgg162
 zeroValue_tWgP:=Tryz.zeroValue162
 underlying_tUP:=Tryz.underlying164
 runUnderlying_tUP:=Tryz.runUnderlying164
 sizeOf_tUP:=Tryz.sizeOf164
 isAgg_tUP:=Tryz.isAgg164
 zeroValue_tUP:=Tryz.zeroValue164
 underlying_tI32:=Tryz.underlying166
 runUnderlying_tI32:=Tryz.runUnderlying166
 sizeOf_tI32:=Tryz.sizeOf166
 isAgg_tI32:=Tryz.isAgg166
 zeroValue_tI32:=Tryz.zeroValue166
 underlying_tWg:=Tryz.underlying128
 runUnderlying_tWg:=Tryz.runUnderlying128
 sizeOf_tWg:=Tryz.sizeOf128
 isAgg_tWg:=Tryz.isAgg128
 zeroValue_tWg:=Tryz.zeroValue128
 underlying_tAU:=Tryz.underlying125
 runUnderlying_tAU:=Tryz.runUnderlying125
 sizeOf_tAU:=Tryz.sizeOf125
 isAgg_tAU:=Tryz.isAgg125
 zeroValue_tAU:=Tryz.zeroValue125
 underlying_tU64:=Tryz.underlying123
 runUnderlying_tU64:=Tryz.runUnderlying123
 sizeOf_tU64:=Tryz.sizeOf123
 isAgg_tU64:=Tryz.isAgg123
 zeroValue_tU64:=Tryz.zeroValue123
 underlying_tSh:=Tryz.underlying103
 runUnderlying_tSh:=Tryz.runUnderlying103
 sizeOf_tSh:=Tryz.sizeOf103
 isAgg_tSh:=Tryz.isAgg103
 zeroValue_tSh:=Tryz.zeroValue103
 underlying_tU32:=Tryz.underlying126
 runUnderlying_tU32:=Tryz.runUnderlying126
 sizeOf_tU32:=Tryz.sizeOf126
 isAgg_tU32:=Tryz.isAgg126
 zeroValue_tU32:=Tryz.zeroValue126
 underlying_tPU32:=Tryz.underlying170
 runUnderlying_tPU32:=Tryz.runUnderlying170
 sizeOf_tPU32:=Tryz.sizeOf170
 isAgg_tPU32:=Tryz.isAgg170
 zeroValue_tPU32:=Tryz.zeroValue170
 underlying_tPAU:=Tryz.underlying204
 runUnderlying_tPAU:=Tryz.runUnderlying204
 sizeOf_tPAU:=Tryz.sizeOf204
 isAgg_tPAU:=Tryz.isAgg204
 zeroValue_tPAU:=Tryz.zeroValue204
 underlying_tPU64:=Tryz.underlying206
 runUnderlying_tPU64:=Tryz.runUnderlying206
 sizeOf_tPU64:=Tryz.sizeOf206
 isAgg_tPU64:=Tryz.isAgg206
 zeroValue_tPU64:=Tryz.zeroValue206
 underlying_t0:=Tryz.underlying0
 runUnderlying_t0:=Tryz.runUnderlying0
 sizeOf_t0:=Tryz.sizeOf0
 isAgg_t0:=Tryz.isAgg0
 zeroValue_t0:=Tryz.zeroValue0
 underlying_t3:=Tryz.underlying3
 runUnderlying_t3:=Tryz.runUnderlying3
 sizeOf_t3:=Tryz.sizeOf3
 isAgg_t3:=Tryz.isAgg3
 zeroValue_t3:=Tryz.zeroValue3
 underlying_t4:=Tryz.underlying4
 runUnderlying_t4:=Tryz.runUnderlying4
 sizeOf_t4:=Tryz.sizeOf4
 isAgg_t4:=Tryz.isAgg4
 zeroValue_t4:=Tryz.zeroValue4
 underlying_t9:=Tryz.underlying9
 runUnderlying_t9:=Tryz.runUnderlying9
 sizeOf_t9:=Tryz.sizeOf9
 isAgg_t9:=Tryz.isAgg9
 zeroValue_t9:=Tryz.zeroValue9
 underlying_t20:=Tryz.underlying20
 runUnderlying_t20:=Tryz.runUnderlying20
 sizeOf_t20:=Tryz.sizeOf20
 isAgg_t20:=Tryz.isAgg20
 zeroValue_t20:=Tryz.zeroValue20
 underlying_t21:=Tryz.underlying21
 runUnderlying_t21:=Tryz.runUnderlying21
 sizeOf_t21:=Tryz.sizeOf21
 isAgg_t21:=Tryz.isAgg21
 zeroValue_t21:=Tryz.zeroValue21
 room_tWg:=by kernel_rfl
 room_tU32:=by kernel_rfl
end Go.AM.R1
namespace Go.AM
open Go.Conc (G)
structure F0 {P:Program}(X:Cx P)(N:Nat)(ops:Array Oper)(φ:Fr)(σ:List aj)(x:Nat->D)(c:Nat->Fr)(idx:Nat->Option Nat)(last:Nat):Prop where
 back:∀ i o,ops[i]?=some o->∀ e∈o.after,bd e=true->e.on<i
 nd:∀ i o d,ops[i]?=some o->o.dst=some d->idx d=some i/\d<N
 jN:∀ d i,idx d=some i->∃ o,ops[i]?=some o/\o.dst=some d
 one:∀ i o,ops[i]?=some o->i≠last->OA X N ops.toList o (c i) σ (x i) σ
 zX:∀ i o,ops[i]?=some o->i≠last->∀ t σ s v,cd σ s v (match idx t with|some j=>(if ∃ e∈o.after,bd e=true/\e.on=j then x j else .any)|none=>look φ t)->cd σ s v (look (c i) t)
 KE:∀ o,ops[last]?=some o->∀ j,j<ops.size->j≠last->∃ e∈o.after,bd e=true/\e.on=j
 has:last<ops.size
section
variable {P:Program}{X:Cx P}{N:Nat}{ops:Array Oper}{φ:Fr}{σ:List aj}{x:Nat->D}{c:Nat->Fr}{idx:Nat->Option Nat}{last:Nat}
theorem tQ{fuel t:Nat}{L:Array Bool}(h:∀ i,i<ops.size->L.getD i true=true):Region.linearise.go .any ops fuel t L []=[]:=by
 cases fuel with
 |zero=>exact nE t L
 |succ n =>
  have a:Region.ready .any ops L=[]:=by
   cases a:Region.ready .any ops L with
   |nil=>rfl
   |cons y f =>
    have d:y∈Region.ready .any ops L:=by rw[a];simp
    obtain⟨o,e,b,_⟩:=mem_ready.1 d;rw[h y (dE.1 e).1] at b;cases b
  rw[fQ,a];rfl
theorem F0.arr(h:F0 X N ops φ σ x c idx last){SS:Goroutine->St->Prop}{b:Frame}{kk:List Item}{cs:List Frame}(w:b.kind≠.early){s0:St}
  (hQ:∀ s a,a.tmps.size=N->(∀ t,cd σ s (a.tmps.getD t undef) (match idx t with|some j=>if j=last then .any else x j|none=>look φ t))->a.defers=[]->ag σ s->bo σ s0 σ s->dn X SS (G (b.aT a (.inRegion ops [last]::kk)) cs) s) :
  ∀ (fuel:Nat) (L:Array Bool),L.size=ops.size->(L.toList.filter (λb=>!b)).length<=fuel->¬L.getD last false=true ->
   (∀ i o,ops[i]?=some o->L.getD i false=true->∀ e∈o.after,bd e=true->L.getD e.on false=true) ->
   ∀ (s:St) (a:Act),vu N σ s (cX φ x idx L) a->a.defers=[]->ag σ s->bo σ s0 σ s ->
   ∀ t,dn X SS (G (b.aT a (.inRegion ops (Region.linearise.go .any ops fuel t L [])::kk)) cs) s:=by
 intro fuel
 induction fuel with
 |zero =>
  intro L hs hf l R s a g Q hh st t;exfalso;have Y:L[last]'(by have:=h.has;omega)∈L.toList:=by simp
  have O:=h.has;cases w:L[last]'(by omega) with
  |true=>exact l (by simp[bM,bw (by omega:last<L.size),w])
  |false =>
   have:L[last]'(by omega)∈L.toList.filter (λb=>!b):=mm.2 ⟨Y,by simp[w]⟩
   have:=sc this;omega
 |succ fuel ih =>
  intro L hs hf l R s a g Q hh st t;rw[fQ];cases r:(Region.ready .any ops L)[t % (Region.ready .any ops L).length]? with
  |none =>
   exfalso;have hr:Region.ready .any ops L=[]:=by
    cases hr:Region.ready .any ops L with
    |nil=>rfl
    |cons y ys =>
     rw[hr] at r;have O:t % (y::ys).length<(y::ys).length:=gU _ (by simp)
     simp at r;simp at O;omega
   have W:∀ i,i<ops.size->L.getD i false=true:=by
    intro i
    induction i using Nat.strongRecOn with
    |_ i Q7 =>
     intro hi;cases w:L.getD i false with
     |true=>rfl
     |false =>
      have Y:i∈Region.ready .any ops L:=mem_ready.2 ⟨ops[i],bw hi,by
       simpa[bM,bw (by omega:i<L.size)] using w,λe z u=>by
       have:=h.back i _ (bw hi) e z u;exact Q7 _ this (by omega)⟩
      rw[hr] at Y;simp at Y
   exact l (W last h.has)
  |some i =>
   have hi:=aE r;obtain⟨o,A,U,p⟩:=mem_ready.1 hi;have O:i<ops.size:=(dE.1 A).1;have S:¬L.getD i false=true:=by
    simp only[bM,bw (by omega:i<L.size),cK] at U ⊢
    simp[U]
   by_cases H:i=last
   ·subst H;have M:Region.linearise.go .any ops fuel (t / (Region.ready .any ops L).length) (L.setIfInBounds i true) []=[]:=by
     refine tQ λj hj=>?_
     have T:(L.setIfInBounds i true).getD j false=true:=by
      rw[bh (by omega)]
      by_cases e:j=i
      ·exact .inl e
      ·obtain⟨ed,z,u,rfl⟩:=h.KE o A j hj e;exact .inr (p ed z u)
     simp only[bM,bw (by simp;omega:j<(L.setIfInBounds i true).size),cK] at T ⊢
     exact T
    simp only[M];refine hQ s a g.size (λt=>?_) Q hh st
    have:=g.slot t;unfold cX at this;cases f:idx t with
    |none=>simpa[f] using this
    |some j =>
     simp only[f] at this ⊢;obtain⟨oj,n,_⟩:=h.jN _ _ f
     by_cases e:j=i
     ·rw[an e];trivial
     ·rw[ak e];obtain⟨ed,z,u,rfl⟩:=h.KE o A j (dE.1 n).1 e;rw[an (p ed z u)] at this;exact this
   have C:(L.setIfInBounds i true).size=ops.size:=by simp[hs]
   have E:((L.setIfInBounds i true).toList.filter (λb=>!b)).length<=fuel:=by
    have h1:L.toList[i]?=some false:=by
     rw[kt,bw (by omega:i<L.size)]
     simpa[bM,bw (by omega:i<L.size)] using S
    have:=count_set h1;rw[ly];omega
   have V:∀ j Z,ops[j]?=some Z->(L.setIfInBounds i true).getD j false=true->∀ e∈Z.after,bd e=true->(L.setIfInBounds i true).getD e.on false=true:=by
    intro j Z I hj e z w;rw[bh (by omega)] at hj ⊢
    rcases hj with rfl|hj
    ·rw[A] at I;cases I;exact .inr (p e z w)
    ·exact .inr (R j Z I hj e z w)
   have B:¬(L.setIfInBounds i true).getD last false=true:=by
    rw[bh (by omega)]
    rintro(e|e)
    ·exact H e.symm
    ·exact l e
   have Q9:bg N σ s (c i) a:=g.yt λt σ s v F=>h.zX i o A H t σ s v (by
    unfold cX at F;cases f:idx t with
    |none=>simpa[f] using F
    |some j =>
     simp only[f] at F ⊢;split
     ·rename_i hex
      obtain⟨e,z,w,rfl⟩:=hex;rw[an (p e z w)] at F;exact F
     ·trivial)
   have K:∀ (s':St) (v:Value),bo σ s σ s'->cd σ s' v (x i)->vu N σ s' (cX φ x idx (L.setIfInBounds i true)) (a.put o.dst v):=by
    intro s' v m F;cases Q:o.dst with
    |none =>
     refine⟨g.size,g.defers.imp λ_ h1=>h1.mono m.ext,λt=>?_⟩
     have k:=(g.slot t).mono m.ext hh.len;simp only[Act.put];unfold cX at k ⊢;cases f:idx t with
     |none=>simpa[f] using k
     |some j =>
      simp only[f] at k ⊢;obtain⟨oj,n,q⟩:=h.jN _ _ f;have J:j≠i:=by rintro rfl;rw[A] at n;cases n;rw[Q] at q;cases q
      have:((L.setIfInBounds i true).getD j false=true)↔L.getD j false=true:=by rw[bh (by omega)];simp[J]
      simp only[this];exact k
    |some d =>
     obtain⟨Ra,Rb⟩:=h.nd i o d A Q;refine⟨by simp[Act.put,g.size],g.defers.imp λ_ h1=>h1.mono m.ext,λt=>?_⟩
     simp only[Act.put]
     by_cases e:d=t
     ·subst e;have Rc:d<a.tmps.size:=by rw[g.size];exact Rb
      simp only[bM,l6 Rc,cK];unfold cX;simp only[Ra];rw[an ((bh (by omega)).2 (.inl rfl))]
      exact F
     ·have k:=(g.slot t).mono m.ext hh.len;simp only[bM] at k ⊢;rw[kr e];unfold cX at k ⊢;cases f:idx t with
      |none=>simpa[f] using k
      |some j =>
       simp only[f] at k ⊢;obtain⟨oj,n,q⟩:=h.jN _ _ f;have J:j≠i:=by rintro rfl;rw[A] at n;cases n;rw[Q] at q;cases q;exact e rfl
       have:((L.setIfInBounds i true).getD j false=true)↔L.getD j false=true:=by rw[bh (by omega)];simp[J]
       simp only[this];exact k
   have:=h.one i o A H s a Q9 hh b kk cs SS i (Region.linearise.go .any ops fuel (t / (Region.ready .any ops L).length) (L.setIfInBounds i true) []) w (by simpa using A)
   simp only[gi] at this;exact this λv s' F ia m=>ih _ C E B V s' _ (K _ _ m F) (by cases o.dst <;> exact Q) ia (st.trans m) _
theorem F0.region(h:F0 X N ops φ σ x c idx last)(u:P.follows Departure.mixedOrders=true){r:Goroutine->St->Prop}{b:Frame}{kk:List Item}{cs:List Frame}(A:b.kind≠.early){s0:St}{a0:Act}{id:Nat}
  (y:bg N σ s0 φ a0) (q:a0.defers=[]) (l:ag σ s0)
  (v:∀ s a,a.tmps.size=N->(∀ t,cd σ s (a.tmps.getD t undef) (match idx t with|some j=>if j=last then .any else x j|none=>look φ t))->a.defers=[]->ag σ s->bo σ s0 σ s->dn X r (G (b.aT a (.inRegion ops [last]::kk)) cs) s) :
  dn X r (G (b.aT a0 (.code (.region id ops true)::kk)) cs) s0:=by
 refine .next rfl λg e=>?_
 have e:=X.fz e;have f:=l.rely e;have n:=y.rely e l;have k:Step σ g σ { g with w:={ g.w with drawn:=g.w.drawn+1 } }:=Step.same rfl rfl rfl rfl;have m:ag σ { g with w:={ g.w with drawn:=g.w.drawn+1 } }:=f.same rfl;have p:=e.stepW.trans (k.lD f);refine⟨_,{ g with w:={ g.w with drawn:=g.w.drawn+1 } },#[],fi,⟨⟨σ,σ,f,m,k⟩,.nil⟩,?_⟩;simp only[Region.schedule,u,n7,aX];refine h.arr A (s0:=s0) v ops.size _ (by simp) (by simp) ?_ ?_ _ a0 ?_ q m p _
 ·simp[bM,eP];split <;> simp
 ·intro i o B hi;simp[bM,eP] at hi;split at hi <;> simp at hi
 ·have d:=n.mono (k.lD f) f.len;refine⟨d.size,d.defers,λt=>?_⟩
  unfold cX;cases z:idx t with
  |none=>exact d.slot t
  |some j =>
   simp only;rw[ak]
   ·exact d.slot t
   ·simp[bM,eP];split <;> simp
end
end Go.AM
namespace Go.AM
open Go.Conc Go.RowKit Go.Conc.Lib Go.ConcR.Gen
open Go.ConcN (WgLive Has RW DWs AtR0 EvW)
open Go.ConcN.Gen
open Go.ConcR (KK WgAt stA smA rd wr mk DC0 Payload)
section
variable {P:Program}{R:World->World->Prop}{D:World->World->Array Event->Prop}{Stop A:Goroutine->World->Prop}
theorem Goes.never(b:∀ w,R w w)(f:∀ g w,Stop g w->∃ g' e,stepG P false g w=.go g' w #[e])(d:∀ n g w,A g w->¬Goes P false R D Stop n g w) :
  ∀ (m n:Nat) (g:Goroutine) (w:World),Goes P false R DC0 A m g w->¬Goes P false R D Stop n g w
 |0,n,g,w,h,k=>d n g w (h w (b w)) k
 |m+1,n,g,w,h,k=>by
  rcases h with h|⟨_,h⟩
  ·exact d n g w (h w (b w)) k
  ·have h1:=h w (b w);cases a:stepG P false g w with
   |go g' w' es =>
    rw[a,goes_go] at h1;obtain⟨⟨rfl,rfl⟩,h2⟩:=h1;have no:¬Stop g w':=λj=>by
     obtain⟨g2,e,i⟩:=f g w' j;rw[i] at a;simp at a
    cases n with
    |zero=>exact no (k w' (b w'))
    |succ n =>
     rcases k with k|⟨_,k⟩
     ·exact no (k w' (b w'))
     ·have k1:=k w' (b w');rw[a,goes_go] at k1;exact Goes.never b f d m n g' w' h2 k1.2
   |_=>rw[a] at h1;exact h1.elim
theorem Goes.meet(b:∀ w,R w w)(i:∀ g w,Stop g w->∃ g' e,stepG P false g w=.go g' w #[e])(f:∀ n g w,A g w->Goes P false R D Stop n g w->∀ w1,R w w1->Stop g w1) :
  ∀ (m n:Nat) (g:Goroutine) (w:World),Goes P false R DC0 A m g w->Goes P false R D Stop n g w->Goes P false R DC0 Stop m g w
 |0,n,g,w,h,k=>f n g w (h w (b w)) k
 |m+1,n,g,w,h,k=>by
  rcases h with h|⟨d,h⟩
  ·exact .inl (f n g w (h w (b w)) k)
  ·refine .inr ⟨d,λw1 hr=>?_⟩
   have h1:=h w1 hr;cases a:stepG P false g w1 with
   |go g' w' es =>
    rw[a,goes_go] at h1;rw[goes_go];obtain⟨⟨rfl,rfl⟩,h2⟩:=h1;have no:¬Stop g w':=λd=>by
     obtain⟨g2,e,j⟩:=i g w' d;rw[j] at a;simp at a
    refine⟨⟨rfl,rfl⟩,?_⟩;cases n with
    |zero=>exact absurd (k w' hr) no
    |succ n =>
     rcases k with k|⟨_,k⟩
     ·exact absurd (k w' hr) no
     ·have k1:=k w' hr;rw[a,goes_go] at k1;exact Goes.meet b i f m n g' w' h2 k1.2
   |_=>rw[a] at h1;exact h1.elim
end
variable [Payload] {L:WgLink}{P:Program}{Wg C n Low x:Nat}{val:Value}{c:Frame}{cs:List Frame}
def YB(P:Program)(g:Goroutine)(_:World):Prop:=∃ g3,∀ w,stepG P false g w=.go g3 w #[mk .disable]
def YC(P:Program)(L:WgLink)(Wg C n Low x:Nat)(val:Value)(g:Goroutine)(w:World):Prop :=
 (WgLive L.tWg Wg w/\Has C (x-1) val w)/\∃ g2,(∀ w,stepG P false g w=.go g2 w #[mk (.releaseMerge (stA Wg))])/\∀ w,WgLive L.tWg Wg w/\Has C (x-1) val w->∃ m,Goes P false (RW L.tWg Wg C n Low (x-1)) DC0 (YB P) m g2 w
set_option maxRecDepth 100000 in
set_option maxHeartbeats 2000000 in
theorem HU(H:WgLib P L)(w:World)(a:WgLive L.tWg Wg w/\Has C (x-1) val w) :
  Goes P false (RW L.tWg Wg C n Low (x-1)) DC0 (YC P L Wg C n Low x val) 23 (G ((baseD L.done).at ⟨#[.pointer (some ⟨Wg,0,none⟩),undef,undef,undef],[]⟩ [.code (body_done L)]) (c::cs)) w:=by
 lib_facts
 simp only[body_done,body_add,doneFn,addFn,cK]
 u_reg kn_rely a
 u_op kn_rely a
 u_in kn_rely a
 refine goes_call rfl rfl (by k_ne) rfl H.f_add (nm_add L) rfl ⟨by u_nil,?_⟩
 walk_nrmf addFn
 repeat (u_c stepG_seq kn_rely a)
 u_cond true kn_rely a
 repeat (u_c stepG_seq kn_rely a)
 u_reg kn_rely a
 u_op kn_rely a
 u_op kn_rely a
 u_c stepG_region_end kn_rely a
 repeat (u_c stepG_seq kn_rely a)
 u_cond true kn_rely a
 u_reg kn_rely a
 u_op kn_rely a
 u_conv H.underlying_tWgP H.room_tWg (Go.ConcN.Gen.WgLive.cell0 a.1).choose_spec kn_rely a
 refine Goes.stop (λd b=>?_)
 replace a:=kn_rely a b
 clear b;refine⟨a,_,λw=>stepG_markAt .releaseMerge (by simp) rfl rfl (by k_ne) rfl H.f_relMerge (x_relMerge_n L) (x_relMerge_b L) (x_relMerge_x L) (x_relMerge_f L) (by simp[Act.eval,stA]),λw a=>⟨10,?_⟩⟩
 walk_nrm
 u_c stepG_region_end kn_rely a
 repeat (u_c stepG_seq kn_rely a)
 u_reg kn_rely a
 exact Goes.stop λd b=>⟨_,λw=>stepG_mark0 .disable (by simp) rfl rfl (by k_ne) rfl H.f_disable (x_disable_n L) (x_disable_b L) (x_disable_x L) (x_disable_f L)⟩
theorem Pa(H:WgLib P L){s:Nat}(i:c.mode=.returning)(y:QuitsD P s 0 (G c cs))(w:World)(d:WgLive L.tWg Wg w/\Has C (x-1) val w) :
  Goes P false (RW L.tWg Wg C n Low (x-1)) DC0 (AtR0 P L.tWg Wg C n Low x val) 23 (G ((baseD L.done).at ⟨#[.pointer (some ⟨Wg,0,none⟩),undef,undef,undef],[]⟩ [.code (body_done L)]) (c::cs)) w:=by
 have t:=doneN (Own:=λ_ _=>False) (Rd:=λ_ _=>False) (Low:=Low) (n:=n) H i y w d
 have r:∀ g w,AtR0 P L.tWg Wg C n Low x val g w->∃ g' e,stepG P false g w=.go g' w #[e]:=λg w h=>by
  obtain⟨_,_,g',f,_⟩:=h;exact⟨g',_,f⟩
 have B:(mk (.releaseMerge (stA Wg)):Event)≠mk .disable:=by simp[mk]
 refine Goes.meet (λw=>.refl w) r ?_ _ _ _ _ (HU H w d) t
 intro j g w h k w1 hr;obtain⟨d,g2,f,z⟩:=h;have a:AtR0 P L.tWg Wg C n Low x val g w1∨∃ q,Goes P false (RW L.tWg Wg C n Low (x-1)) (DWs Wg (λ_ _=>False) (λ_ _=>False) C n x) (AtR0 P L.tWg Wg C n Low x val) q g2 w1:=by
  cases j with
  |zero=>exact .inl (k w1 hr)
  |succ j =>
   rcases k with k|⟨_,k⟩
   ·exact .inl (k w1 hr)
   ·have k1:=k w1 hr;rw[f w1,goes_go] at k1;exact .inr ⟨j,k1.2⟩
 rcases a with h|⟨q,h⟩
 ·exact h
 ·exfalso;obtain⟨m,u⟩:=z w1 (kn_rely d hr);refine Goes.never (λw=>.refl w) r ?_ _ _ _ _ u h
  rintro o g4 w4 ⟨g5,l⟩ k;have b:∀ w,¬AtR0 P L.tWg Wg C n Low x val g4 w:=λw v=>by
   obtain⟨_,_,g6,p,_⟩:=v;rw[l w] at p;simp[mk] at p
  cases o with
  |zero=>exact b w4 (k w4 (.refl w4))
  |succ o =>
   rcases k with k|⟨_,k⟩
   ·exact b w4 (k w4 (.refl w4))
   ·have k1:=k w4 (.refl w4);rw[l w4,goes_go] at k1;have:=(k1.1.2 _ (Array.mem_singleton.2 rfl)).2.1;exact this rfl
end Go.AM
namespace Go.AM.R1
open Go.Proofs Go.Conc Go.Conc.Lib
open Go.ConcN (WgLive PayAt Has RW AtR0)
open Go.ConcR (KK WgAt stA smA rd wr mk Payload DC0)
instance pay:Payload:=⟨131⟩
def uf(f:Int):c7:=λargs σ=>match args,σ with
 |[.e (.one (.c (.int .i64 k))),g,.e (.one (.c (.int .i64 n)))],[]=>match iU 2 g with
  |none=>none
  |some (d,b)=>some (Qy (dx k (cP.list d b) n),[],[cP.fits d b,k=f])
 |_,_=>none
noncomputable def KQ:Code:=(Tryz.f74.body).getD .skip
noncomputable def Gq:Array Oper:=match KQ with|.seq (.region _ o _) _=>o|_=>#[]
noncomputable def Gr:Array Oper:=match KQ with|.seq _ (.region _ o _)=>o|_=>#[]
theorem Gs:Tryz.f74.body=some (.seq (.region 0 Gq false) (.region 1 Gr true)):=by kernel_rfl
def oW(d:Option Nat)(op:Op)(ty:TypeId)(b:Array Edge):Oper:={ dst:=d,op:=op,type:=ty,pos:= "l12_snap.go:82",after:=b,guard:=none }
def rZ:List Oper:=[oW (some 6) (.load 118 (.tmp 4)) 118 #[],oW (some 7) (.load 3 (.tmp 5)) 3 #[],oW (some 8) (.load 3 (.tmp 1)) 3 #[],oW (some 9) (.load 23 (.tmp 2)) 23 #[],oW (some 10) (.load 3 (.tmp 3)) 3 #[],
 oW (some 11) (.call { callee:=.value (.func 76),args:=#[.tmp 8,.tmp 9,.tmp 10],argTypes:=#[3,23,3] }) 131 #[⟨2,.data⟩,⟨3,.data⟩,⟨4,.data⟩],
 oW (some 12) (.indexAddr 118 (.tmp 6) (.tmp 7)) 0 #[⟨0,.data⟩,⟨1,.data⟩,⟨0,.phase⟩,⟨1,.phase⟩,⟨2,.phase⟩,⟨3,.phase⟩,⟨4,.phase⟩,⟨5,.phase⟩],
 oW none (.store 131 (.tmp 12) (.tmp 11)) 0 #[⟨6,.data⟩,⟨5,.data⟩,⟨5,.chain⟩,⟨0,.phase⟩,⟨1,.phase⟩,⟨2,.phase⟩,⟨3,.phase⟩,⟨4,.phase⟩,⟨5,.phase⟩]]
theorem Jp:Gr=rZ.toArray:=by kernel_rfl
theorem mR{i:Nat}{o:Oper}(h:rZ[i]?=some o):i<8:=(aD.1 h).1
section
variable (k:Int)(ps:List a9) (a:Int)(n x C:Nat)
def O8(b:Value):Fr:=[(0,.e (.one (.v b))),(1,.e (.one (.c (.rp [.int .i64 k])))),(2,.e (.one (.c (.rp [.sl false 2 ps.length (cP.fn ps)])))),(3,.e (.one (.c (.rp [.int .i64 a])))),(4,.e (.one (.c (.rp [.val (.slice (some ⟨C,0,none⟩) n n)])))),(5,.e (.one (.c (.rp [.int .i64 x]))))]
def xW:Nat->D
 |0=>.e (.one (.v (.slice (some ⟨C,0,none⟩) n n)))
 |1=>dI x
 |2=>dI k
 |3=>cP.sl ps
 |4=>dI a
 |5=>Qy (dx k ps a)
 |6=>.e (.one (.v (.pointer (some ⟨C,x*2,none⟩))))
 |_=>.any
def AL:Nat->Option Nat
 |6=>some 0|7=>some 1|8=>some 2|9=>some 3|10=>some 4|11=>some 5|12=>some 6|_=>none
def U1(b:Value):Nat->Fr
 |5=>[(8,dI k),(9,cP.sl ps),(10,dI a)]
 |6=>[(6,.e (.one (.v (.slice (some ⟨C,0,none⟩) n n)))),(7,dI x)]
 |_=>O8 k ps a n x C b
end
theorem Jq{X:Cx Tryz.prog}{n x C:Nat}(g:x<n):OA X 13 rZ (oW (some 12) (.indexAddr 118 (.tmp 6) (.tmp 7)) 0 #[⟨0,.data⟩,⟨1,.data⟩,⟨0,.phase⟩,⟨1,.phase⟩,⟨2,.phase⟩,⟨3,.phase⟩,⟨4,.phase⟩,⟨5,.phase⟩]) [(6,.e (.one (.v (.slice (some ⟨C,0,none⟩) n n)))),(7,dI x)] [] (.e (.one (.v (.pointer (some ⟨C,x*2,none⟩))))) []:=by
 refine .kJ (λ_ _ _ _=>cw rfl) (aM.quiet λs l m f=>?_)
 have b:=f (.tmp 6);have d:=f (.tmp 7);have j:bn [(6,D.e (.one (.v (.slice (some ⟨C,0,none⟩) n n)))),(7,dI x)] (.tmp 6)=.e (.one (.v (.slice (some ⟨C,0,none⟩) n n))):=rfl;have i:bn [(6,D.e (.one (.v (.slice (some ⟨C,0,none⟩) n n)))),(7,dI x)] (.tmp 7)=dI x:=rfl;rw[j] at b;rw[i] at d;have b:=Rd.fD b;have d:=eX d;generalize c:l (.tmp 7)=vy at d;cases d;have h:=(tok 118 i118 rfl).run_underlying (w:=s.w);refine⟨.pointer (some ⟨C,x*2,none⟩),?_,Rd.val rfl,?_⟩
 ·simp[execOp,oW,b,c,Instr.indexAt,asIntOf,h,i118,(tok 131 i131 rfl).run_sizeOf,i131,cO,g]
 ·simp[execOp,oW,b,c,Instr.indexAt,asIntOf,h,i118,cO,g]
theorem O9{X:Cx Tryz.prog}{k:Int}(p:dw X 76 (uf k))(ps:List a9) (a:Int)(n x C:Nat)(q:x<n)(m:Value) :
  F0 X 13 rZ.toArray (O8 k ps a n x C m) [] (xW k ps a n x C) (U1 k ps a n x C m) AL 7:=by
 have u:aY X [(76,uf k)]:=aY.cons p aY.nil;have f:∀ (i:Nat) (o:Oper) (φ:Fr) (d:D) (obs:List Prop),rZ[i]?=some o->BF tt [(76,uf k)] [] rZ φ [] o=some (d,none,obs)->aa obs->OA X 13 rZ o φ [] d [] :=
  λi o φ d obs _ h b=>gp tok u h b
 refine⟨?_,?_,?_,?_,?_,?_,by decide⟩
 ·intro i o b e l _;simp only[il] at b;have hi:=mR b
  match i,hi with
  |0,_|1,_|2,_|3,_|4,_|5,_|6,_|7,_ =>
   cases b;simp[oW] at l
   try (rcases l with rfl|rfl|rfl|rfl|rfl|rfl|rfl|rfl|rfl <;> decide)
   try (rcases l with rfl|rfl|rfl <;> decide)
 ·intro i o d b w;simp only[il] at b;have hi:=mR b
  match i,hi with
  |0,_|1,_|2,_|3,_|4,_|5,_|6,_|7,_ =>
   cases b;cases w
   try exact⟨rfl,by decide⟩
 ·intro d i h;unfold AL at h;split at h <;> cases h <;> exact⟨_,rfl,rfl⟩
 ·intro i o b c;simp only[il] at b;have hi:=mR b
  match i,hi with
  |0,_=>cases b;exact f 0 _ _ _ _ rfl rfl ab
  |1,_=>cases b;exact f 1 _ _ _ _ rfl rfl ab
  |2,_=>cases b;exact f 2 _ _ _ _ rfl rfl ab
  |3,_=>cases b;exact f 3 _ _ _ _ rfl rfl ab
  |4,_=>cases b;exact f 4 _ _ _ _ rfl rfl ab
  |5,_ =>
   cases b;have:=f 5 _ (U1 k ps a n x C m 5) _ _ rfl rfl (by simp[aa,cP.bu])
   rw[cP.list_fn] at this;exact this
  |6,_=>cases b;exact Jq q
  |7,_=>exact absurd rfl c
 ·intro i o b c t σ s v g;simp only[il] at b;have hi:=mR b
  match i,hi with
  |0,_|1,_|2,_|3,_|4,_ =>
   match t with
   |0|1|2|3|4|5=>exact g
   |t+6=>trivial
  |5,_ =>
   cases b
   match t with
   |8=>exact(show cd σ s v (xW k ps a n x C 2) from by simpa[AL,oW,bd,Region.binds] using g)
   |9=>exact(show cd σ s v (xW k ps a n x C 3) from by simpa[AL,oW,bd,Region.binds] using g)
   |10=>exact(show cd σ s v (xW k ps a n x C 4) from by simpa[AL,oW,bd,Region.binds] using g)
   |0|1|2|3|4|5|6|7=>trivial
   |t+11=>trivial
  |6,_ =>
   cases b
   match t with
   |6=>exact(show cd σ s v (xW k ps a n x C 0) from by simpa[AL,oW,bd,Region.binds] using g)
   |7=>exact(show cd σ s v (xW k ps a n x C 1) from by simpa[AL,oW,bd,Region.binds] using g)
   |0|1|2|3|4|5=>trivial
   |t+8=>trivial
  |7,_=>exact absurd rfl c
 ·intro o b j r c;simp only[il] at b;cases b
  match j,r with
  |0,_=>exact⟨⟨0,.phase⟩,by simp[oW],rfl,rfl⟩
  |1,_=>exact⟨⟨1,.phase⟩,by simp[oW],rfl,rfl⟩
  |2,_=>exact⟨⟨2,.phase⟩,by simp[oW],rfl,rfl⟩
  |3,_=>exact⟨⟨3,.phase⟩,by simp[oW],rfl,rfl⟩
  |4,_=>exact⟨⟨4,.phase⟩,by simp[oW],rfl,rfl⟩
  |5,_=>exact⟨⟨5,.phase⟩,by simp[oW],rfl,rfl⟩
  |6,_=>exact⟨⟨6,.data⟩,by simp[oW],rfl,rfl⟩
  |7,_=>exact absurd rfl c
noncomputable def r5:Frame:={ (default:Frame) with fn:=Tryz.prog.funcs.size,defers:=[],mode:=.panicking [goexitEntry] }
def uk(vs:Array Value):Deferred:={ target:=.fn (.func 74) vs,args:=#[] }
theorem Dm(v0 v1 v2 v3 v4 v5:Value)(w:World):stepG Tryz.prog false (born Tryz.prog (uk #[v0,v1,v2,v3,v4,v5])) w =
  .go (G ((baseD 74).at ⟨#[v0,v1,v2,v3,v4,v5,undef,undef,undef,undef,undef,undef,undef],[]⟩ [.code (.seq (.region 0 Gq false) (.region 1 Gr true))]) [r5]) w #[]:=by
 have c:=Gs;have d:Tryz.f74.ntmps=13:=by kernel_rfl
 have b:¬Tryz.f74.name= "runtime.NumGoroutine":=by
  have:(Tryz.f74.name== "runtime.NumGoroutine")=false:=by kernel_rfl
  simpa using this
 simp[born,uk,stepG,unwind,callDeferred,invoke,callFunc,Tryz.func74,c,d,b,seen,GStep.after,G,Frame.enter,Frame.at,baseD,r5]
end Go.AM.R1
namespace Go.AM.R1
open Go.Proofs
variable {X:Cx Tryz.prog}
abbrev pk(ps:List a9)(i:Nat):a9:=ps.getD i (0,[])
theorem Gj{k n:Int}{ps:List a9}{i:Nat}{r:Bs}(hi:i<ps.length)(h:eL k (pk ps i) n=some r)(a:∀ j,j<i->eL k (pk ps j) n=none):dx k ps n=some r:=by
 unfold dx
 induction ps generalizing i with
 |nil=>simp at hi
 |cons p ps ih =>
  cases i with
  |zero=>simp only[pk,List.getD_cons_zero] at h;simp[List.findSome?_cons,h]
  |succ i =>
   have b:=a 0 (by omega)
   simp only[pk,List.getD_cons_zero] at b;simp only[List.findSome?_cons,b];exact ih (i:=i) (by simpa using hi) (by simpa[pk] using h) λj c=>by have:=a (j+1) (by omega);simpa[pk] using this
theorem AF{k n:Int}{ps:List a9}(a:∀ j,j<ps.length->eL k (pk ps j) n=none):dx k ps n=none:=by
 unfold dx;rw[List.findSome?_eq_none_iff];intro p c;obtain⟨j,b,rfl⟩:=cJ c;have:=a j b;simpa[pk,List.getD_eq_getElem?_getD,ai b] using this
theorem yr.Qg{P:Program}{φ:Fr}{σ:List aj}{T:List (Nat×TI)}(k:cz P T){fn:Func}{c:Nat}{res:D}{σ':List aj}(ks:List Nat){ps:List Prop}(h:Iq T fn.results.toList ks φ res=some ps)(e:aa ps)(g:jS ks σ=some σ')(a:kH σ'=true)(i:dv ks=true)(f:∀ j,j<c->ks[j]?=some j) :
  yr P fn c res σ' .ret φ σ:=by
 refine⟨.inl rfl,ks,?_⟩;unfold Iq at h;split at h
 ·rename_i ds EO
  split at h
  ·rename_i d l
   split at h
   ·rename_i b
    exact⟨d,ps,yq.Qg k EO l,h,e,b,g,a,i,f⟩
   ·cases h
  ·cases h
 ·cases h
theorem mP{a:List Nat}:∀ j,j<0->a[j]?=some j:=λ_ h=>absurd h (hI _)
theorem Gk(b:dw X 146 ub) (k:Int)(ps:List a9) (n:Int)(l:b5 k=true):Ev X 76 [dI k,cP.sl ps,dI n] [] (Qy (dx k ps n)) []:=by
 refine Ev.jz Tryz.func76 rfl rfl rfl λo=>?_
 have m:=o.sl 1 rfl;have d:aY X [(123,El aI (H5 dO) aI (λk p n=>Gg (eL k p n)) λk _ _=>[b5 k=true])]:=.cons (SA b) .nil
 refine ah d [] 100 rfl ab ?_;refine AK.bA 1 (λi=>i<=ps.length/\∀ j,j<i->eL k (pk ps j) n=none) (λi:Nat=>[(0,dI k),(2,dI n),(6,.e (.one (.ptr 0 0))),(11,cP.sl ps),(12,dI ps.length),(13,dI i)]) (λ_=>[.cells 131 [.c (.str []),.c (.bool false)]]) (λi=>ps.length-i) 0 rfl ?_ rfl ?_ rfl ⟨by omega,by omega⟩ ?_
 ·simp[aa.cat,aa,au.same]
 ·simp[aa.cat,aa]
 rintro i ⟨hi,a⟩
 by_cases h:i<ps.length
 ·cases f:eL k (pk ps i) n with
  |some r =>
   refine ah d [(14,true),(24,true)] 100 rfl ?_ (AK.freeze 6 0 rfl rfl rfl (AK.jP ?_))
   ·simp only[aa,aF,dO.list_fn];refine⟨?_,dO.bu _,l,by omega,by omega,bx (by omega)⟩
    show (eL k (pk ps i) n).isSome=true;rw[f];rfl
   ·refine yr.Qg tok [] rfl ?_ rfl rfl rfl mP;rw[Gj h f a];simp only[aF,dO.list_fn];have e:eL k ((ps.getD i cP.bl).1,(ps.getD i cP.bl).2) n=some r:=f;rw[e];simp[aa.cat,aa]
  |none =>
   refine ah d [(14,true),(24,false)] 100 rfl ?_ (AK.ay (i+1) rfl ?_ rfl rfl rfl ?_ rfl ?_ ?_)
   ·simp only[aa,aF,dO.list_fn];refine⟨by simp only[aJ];omega,?_,dO.bu _,l,by omega,by omega,bx (by omega)⟩
    show (eL k (pk ps i) n).isSome=false;rw[f];rfl
   ·simp[aa.cat,aa,au.same]
   ·simp[aa.cat,aa]
   ·refine⟨by omega,λj g=>?_⟩
    rcases fE.1 g with g|rfl
    ·exact a j g
    ·exact f
   ·show ps.length-(i+1)<ps.length-i;omega
 ·refine ah d [(14,false)] 100 rfl (by simp[aa];omega) (AK.leaveD rfl rfl ?_)
  refine ah d [] 100 rfl ab ?_;refine AK.freeze 6 0 rfl rfl rfl ?_;refine AK.zV tok [] rfl ?_ rfl rfl rfl mP;rw[AF λj g=>a j (by omega)]
  simp[aa.cat,aa]
theorem t245(a:dw X 146 ub){k:Int}(b:b5 k=true):dw X 76 (uf k):=by
 intro args σ res σ' obs h d;unfold uf at h;split at h
 ·rename_i k1 da n
  split at h
  ·cases h
  ·rename_i f g e
   cases h;obtain⟨c,rfl⟩:=d;exact(Gk a _ _ n b).args λs vs=>bC.imp (λ_ r=>r) (bC.imp (λ_ r=>cP.hY e c r) (bC.imp (λ_ r=>r) (λ_ r=>r))) vs
 ·cases h
abbrev dQ(n:Int):D:=.e (.one (.c (.int .u64 n)))
theorem _root_.Go.AM.AW.Cb{P:Program}{X:Cx P}{N:Nat}{Q:Post}{φ:Fr}{σ:List aj}{x y:Code}(h:AW X N y Q φ σ):AW X N (.cond (.const (.bool false)) x y) Q φ σ:=by
 intro s a f hh b k cs S j d;refine .ctl hh rfl (λ_=>sK (t:=false) rfl) λg h1=>?_
 exact h g a (f.rely h1 hh) (hh.rely h1) b k cs S j λe c σ' s' a' q l i st=>d e c σ' s' a' q l i (h1.stepW.trans st)
theorem _root_.Go.AM.AK.Cb{P:Program}{X:Cx P}{N:Nat}{Qf:Post}{K:List It}{φ:Fr}{σ:List aj}{x y:Code}(h:AK X N Qf (.code y::K) .normal φ σ):AK X N Qf (.code (.cond (.const (.bool false)) x y)::K) .normal φ σ:=AW.Cb h
theorem F4{P:Program}{o:Oper}{n:Operand->D}{σ:List aj}{op:BinOp}{t ty:TypeId}{x y:Operand}{k l:IntKind}{a b:Int} (c:Int)(h:o.op=.binOp op t x y ty)
  (u:n x=.e (.one (.c (.int k a)))) (v:n y=.e (.one (.c (.int l b)))) (p:aJ k c)
  (d:∀ w,(binOp op t (.int k a) (.int l b)).run P w=.ok (.int k c) w) (m:∀ w,(binOp op t (.int k a) (.int l b)).events P w #[]=#[]) :
  aM P o n σ (.e (.one (.c (.int k c)))) σ:=by
 refine .quiet λs r z q=>?_
 have g:=q x;have j:=q y;rw[u] at g;rw[v] at j
 replace g:=eX g
 replace j:=eX j
 generalize f:r x=vx at g;generalize i:r y=vy at j;cases g;cases j;exact⟨.int k c,by simp only[execOp,h,bm,f,i,fC,bP,d,cY],.int p,by simp[execOp,h,f,i,fC,iw,d,m]⟩
theorem AG:Ev X 189 [dQ 1,dQ 2] [] (.dH [.one (.c (.int .u64 0)),.one (.c (.int .u64 2))]) []:=by
 refine Ev.body Tryz.func189 rfl rfl rfl λa=>?_
 refine cE rfl (by simp[aa,aJ]) (AK.aK rfl ?_)
 simp[aa,aa.cat]
theorem AH:Ev X 189 [dQ 1,dQ 3] [] (.dH [.one (.c (.int .u64 0)),.one (.c (.int .u64 3))]) []:=by
 refine Ev.body Tryz.func189 rfl rfl rfl λa=>?_
 refine cE rfl (by simp[aa,aJ]) (AK.aK rfl ?_)
 simp[aa,aa.cat]
def O5:c7:=λargs σ=>match args,σ with
 |[.e (.one (.c (.int .u64 1))),.e (.one (.c (.int .u64 c)))],[]=>some (.dH [.one (.c (.int .u64 0)),.one (.c (.int .u64 c))],[],[c=2∨c=3])
 |_,_=>none
theorem t189:dw X 189 O5:=by
 intro args σ res σ' obs h a;unfold O5 at h;split at h
 ·cases h;rcases a with rfl|rfl
  ·exact AG
  ·exact AH
 ·cases h
theorem Mr(c:Int)(a:c=2∨c=3):Ev X 178 [dQ 1,dQ c] [] (.dH [.one (.c (.int .u64 0)),.one (.c (.int .u64 c))]) []:=by
 refine Ev.body Tryz.func178 rfl rfl rfl λb=>?_
 refine ah (aY.cons t189 .nil) [] 100 rfl ab ?_;refine AK.Cb ?_;refine ah (aY.cons t189 .nil) [] 100 rfl ?_ (AK.aK rfl ?_)
 ·simp[aa,a]
 ·simp[aa,aa.cat]
def Mj:c7:=λargs σ=>match args,σ with
 |[.e (.one (.c (.int .u64 1))),.e (.one (.c (.int .u64 c)))],[]=>some (.dH [.one (.c (.int .u64 0)),.one (.c (.int .u64 c))],[],[c=2∨c=3])
 |_,_=>none
theorem t178:dw X 178 Mj:=by
 intro args σ res σ' obs h a;unfold Mj at h;split at h
 ·cases h;exact Mr _ a
 ·cases h
def C9:c7:=λargs σ=>match args,σ with
 |[.e (.one (.c (.str [46]))),.e (.one (.c (.int .i64 c)))],[]=>some (dS (List.replicate c.toNat 46),[],[0<=c/\c<=3])
 |_,_=>none
theorem t169:dw X 169 (nn aI (λn=>dI (bH n.toNat)) λn=>[0<=n/\n<=1000000]):=.vP λn h=>by
 have a:0<=n/\n<=1000000:=h;obtain⟨m,rfl⟩:∃ m:Nat,n=m:=⟨n.toNat,by omega⟩
 exact yV (X:=X) m (by omega)
theorem Gl{n:Nat}(b:1<=n)(a:n<=8):n<=bH n/\bH n<=n+3:=by
 unfold bH;split
 ·omega
 ·split
  ·omega
  ·split <;> omega
theorem Gm(b:dw X 168 C9)(p:Bs):Ev X 146 [dS p] [] (dS (gF p)) []:=by
 refine Ev.body Tryz.func146 rfl rfl rfl λe=>?_
 have d:aY X [(145,nn aS (λs=>dB (aR s)) λ_=>[]),(169,nn aI (λn=>dI (bH n.toNat)) λn=>[0<=n/\n<=1000000]),(168,C9)]:=.cons t145 (.cons t169 (.cons b .nil))
 by_cases a:aR p=true
 ·have c:=a;simp only[aR,bq,av] at c;have f:=Gl c.1.1 c.1.2;refine ah d [(5,false)] 100 rfl ?_ (AK.aK rfl ?_)
  ·simp[aa,a,aJ];omega
  ·simp[aa,aa.cat,gF,a]
 ·refine ah d [(5,true)] 100 rfl ?_ (AK.aK rfl ?_)
  ·simp[aa,a]
  ·simp[aa,aa.cat,gF,a]
theorem Su(a:dw X 168 C9):dw X 146 ub:=.vP λp _=>Gm a p
theorem Jk:Ev X 168 [dS [46],dI 0] [] (dS []) []:=by
 refine Ev.body Tryz.func168 rfl rfl rfl λa=>?_
 refine aq [(12,true)] 100 rfl ?_ (AK.aK rfl ?_)
 ·simp[aa]
 ·simp[aa,aa.cat]
theorem Jl:Ev X 168 [dS [46],dI 1] [] (dS [46]) []:=by
 refine Ev.body Tryz.func168 rfl rfl rfl λa=>?_
 refine aq [(12,false),(14,true)] 100 rfl ?_ (AK.aK rfl ?_)
 ·simp[aa]
 ·simp[aa,aa.cat]
theorem Ss(a:Ev X 168 [dS [46],dI 2] [] (dS [46,46]) [])(b:Ev X 168 [dS [46],dI 3] [] (dS [46,46,46]) []):dw X 168 C9:=by
 intro args σ res σ' obs h d;unfold C9 at h;split at h
 ·rename_i c
  cases h;have:c=0∨c=1∨c=2∨c=3:=by have:0<=c/\c<=3:=d;omega
  rcases this with rfl|rfl|rfl|rfl
  ·exact Jk
  ·exact Jl
  ·exact a
  ·exact b
 ·cases h
end Go.AM.R1
namespace Go.AM.R1
open Go.Proofs
theorem AI{P:Program}{o:Oper}{l:Operand->D}{σ:List aj}{op:BinOp}{t ty:TypeId}{x y:Operand}(h:o.op=.binOp op t x y ty){e:TypeId}(B:P.underlying t=some (.pointer e)){b c:Bool}
  (A:∀ s u v,ag σ s->cd σ s u (l x)->cd σ s v (l y)->∃ p q,u=.pointer p/\v=.pointer q/\(p==q)=b/\(eqGuard op t x y u v).run P s.w=.ok () s.w/\(∀ es,(eqGuard op t x y u v).events P s.w es=es) /\
   (Op.equal t u v).run P s.w=.ok b s.w/\∀ es,(Op.equal t u v).events P s.w es=es)
  (n:kI op b=some c):aM P o l σ (.e (.one (.c (.bool c)))) σ:=by
 refine .quiet λs C z r=>?_
 obtain⟨p,q,f,g,E,i,m,j,k⟩:=A s _ _ z (r x) (r y);rw[f,g] at i j;have a:=m #[];have d:=k #[];rw[f,g] at a d;cases op <;> simp only[kI,reduceCtorEq,bO] at n
 ·subst n;exact⟨.bool b,by simp[execOp,h,f,g,i,binOp,j],Rd.bool,by simp[execOp,h,f,g,i,a,binOp,j,d]⟩
 ·subst n;exact⟨.bool (!b),by simp[execOp,h,f,g,i,binOp,j],Rd.bool,by simp[execOp,h,f,g,i,a,binOp,j,d]⟩
theorem Mg{P:Program}{o:Oper}{i:Operand->D}{σ:List aj}{op:BinOp}{t ty:TypeId}{x:Operand}(h:o.op=.binOp op t x (.const (.pointer none)) ty){e:TypeId}(g:P.underlying t=some (.pointer e)){c:Bool}
  (j:i x=.e (.one (.c .j4))) (k:i (.const (.pointer none))=.e (.one (.c .j4))) (m:kI op true=some c):aM P o i σ (.e (.one (.c (.bool c)))) σ:=by
 refine AI h g (b:=true) ?_ m;intro s u v _ d a;rw[j] at d;rw[k] at a
 replace d:=eX d
 replace a:=eX a
 cases d;cases a;have l:(Op.equal t (.pointer none) (.pointer none)).run P s.w=.ok true s.w:=by
  show (Op.equalIn (9999+1) t _ _).run P s.w=_;unfold Op.equalIn;simp[underlying,g]
 have f:∀ es,(Op.equal t (.pointer none) (.pointer none)).events P s.w es=es:=λes=>by
  show (Op.equalIn (9999+1) t _ _).events P s.w es=es;unfold Op.equalIn;simp[underlying,g]
 exact⟨none,none,rfl,rfl,rfl,by cases op <;> simp[eqGuard],λes=>by cases op <;> simp[eqGuard],l,f⟩
theorem Mh{P:Program}{o:Oper}{g:Operand->D}{σ:List aj}{op:BinOp}{t ty:TypeId}{x:Operand}(h:o.op=.binOp op t x (.const (.pointer none)) ty){e:TypeId}(f:P.underlying t=some (.pointer e)){c:Bool}{l off:Nat}
  (j:g x=.e (.one (.ptr l off))) (k:g (.const (.pointer none))=.e (.one (.c .j4))) (n:kI op false=some c):aM P o g σ (.e (.one (.c (.bool c)))) σ:=by
 refine AI h f (b:=false) ?_ n;intro s u v _ i a;rw[j] at i;rw[k] at a
 replace a:=eX a
 cases a;obtain⟨_,L,b,_,_,rfl⟩:=(i:gd σ s u (.ptr l off));have m:(Op.equal t (.pointer (some ⟨b,off,none⟩)) (.pointer none)).run P s.w=.ok false s.w:=by
  show (Op.equalIn (9999+1) t _ _).run P s.w=_;unfold Op.equalIn;simp[underlying,f]
 have d:∀ es,(Op.equal t (.pointer (some ⟨b,off,none⟩)) (.pointer none)).events P s.w es=es:=λes=>by
  show (Op.equalIn (9999+1) t _ _).events P s.w es=es;unfold Op.equalIn;simp[underlying,f]
 exact⟨_,none,rfl,rfl,rfl,by cases op <;> simp[eqGuard],λes=>by cases op <;> simp[eqGuard],m,d⟩
theorem Jb{P:Program}{o:Oper}{i:Operand->D}{σ:List aj}{op:BinOp}{t ty:TypeId}{x y:Operand}(h:o.op=.binOp op t x y ty){e:TypeId}(g:P.underlying t=some (.pointer e)){n:Nat}(p:n≠0)
  (r:∀ w,(sizeOf e).run P w=.ok n w) (k:∀ w es,(sizeOf e).events P w es=es) {c:Bool} {l off:Nat}
  (z:i x=.e (.one (.ptr l off))) (A:i y=.e (.one (.ptr l off))) (E:kI op true=some c):aM P o i σ (.e (.one (.c (.bool c)))) σ:=by
 refine AI h g (b:=true) ?_ E;intro s u v _ q m;rw[z] at q;rw[A] at m;obtain⟨_,L,b,C,j,rfl⟩:=(q:gd σ s u (.ptr l off));obtain⟨_,F,G,d,a,rfl⟩:=(m:gd σ s v (.ptr l off));rw[C] at d;cases d;rw[j] at a;cases a;have B:(Op.equal t (.pointer (some ⟨b,off,none⟩)) (.pointer (some ⟨b,off,none⟩))).run P s.w=.ok true s.w:=by
  show (Op.equalIn (9999+1) t _ _).run P s.w=_;unfold Op.equalIn;simp[underlying,g,r,p,sameAddr]
 have f:∀ es,(Op.equal t (.pointer (some ⟨b,off,none⟩)) (.pointer (some ⟨b,off,none⟩))).events P s.w es=es:=λes=>by
  show (Op.equalIn (9999+1) t _ _).events P s.w es=es;unfold Op.equalIn;simp[underlying,g,r,k,p,sameAddr]
 exact⟨_,_,rfl,rfl,by simp,by cases op <;> simp[eqGuard],λes=>by cases op <;> simp[eqGuard],B,f⟩
end Go.AM.R1
namespace Go.AM
open Go.Conc (G)
def tI{P:Program}(X:Cx P)(N:Nat)(all:List Oper)(o:Oper)(φ:Fr)(σ:List aj){ι:Type}(x:ι->D)(σ':ι->List aj):Prop :=
 ∀ s a,bg N σ s φ a->ag σ s->∀ (b:Frame) (k:List Item) (cs:List Frame) (S:Goroutine->St->Prop) (i:Nat) (rest:List Nat),b.kind≠.early->all.toArray[i]?=some o ->
  (∀ j v s',cd (σ' j) s' v (x j)->ag (σ' j) s'->bo σ s (σ' j) s'->dn X S (G (b.aT (a.put o.dst v) (.inRegion all.toArray rest::k)) cs) s')->dn X S (G (b.aT a (.inRegion all.toArray (i::rest)::k)) cs) s
def o5:List Oper->Nat->(Nat->D)->List (Option Nat×D)
 |[],_,_=>[]
 |o::r,i,x=>(o.dst,x i)::o5 r (i+1) x
theorem iA{x:Nat->D}:∀ {l:List Oper}{k j:Nat},(o5 l k x)[j]?=(l[j]?).map λo=>(o.dst,x (k+j))
 |[],k,j=>by simp[o5]
 |o::r,k,0=>by simp[o5]
 |o::r,k,j+1=>by
  simp only[o5,oS];rw[iA,show k+1+j=k+(j+1) by omega]
def iO(all:List Oper)(φ:Fr)(x:Nat->D)(i:Nat):Fr:=hU (λj=>dZ j (aV (all.getD i dN).after.toList)) 0 (o5 all 0 x) (nh all φ)
def po(all:List Oper)(φ:Fr)(x:Nat->D):Fr:=hU (λ_=>true) 0 (o5 all 0 x) (nh all φ)
def kM(N:Nat):List Oper->Bool
 |[]=>true
 |o::r=>match gg N o.dst with|true=>kM N r|false=>false
theorem lT{N:Nat}:∀ {l:List Oper},kM N l=true->∀ (i:Nat)(o:Oper),l[i]?=some o->gg N o.dst=true
 |[],_,i,o,h=>by simp at h
 |p::r,h,i,o,hi=>by
  simp only[kM] at h;split at h
  ·rename_i a
   cases i with
   |zero=>simp at hi;subst hi;exact a
   |succ i=>exact lT h i o (by simpa using hi)
  ·cases h
def nH:List Oper->Nat->Bool
 |[],_=>true
 |o::r,i=>match Ny i (aV o.after.toList) with|true=>nH r (i+1)|false=>false
theorem nI:∀ {l:List Oper}{k:Nat},nH l k=true->∀ (i:Nat)(o:Oper),l[i]?=some o->∀ e∈aV o.after.toList,e<k+i
 |[],_,_,i,o,h=>by simp at h
 |p::r,k,h,i,o,hi=>by
  simp only[nH] at h;split at h
  ·rename_i b
   cases i with
   |zero=>simp at hi;subst hi;exact zY b
   |succ i=>intro e a;have:=nI h i o (by simpa using hi) e a;omega
  ·cases h
def xp(pre:Nat->Bool):List Nat->Bool
 |[]=>false
 |e::r=>match pre e with|true=>xp pre r|false=>true
theorem vG{pre:Nat->Bool}:∀ {l:List Nat},xp pre l=true->∃ e∈l,pre e=false
 |[],h=>by cases h
 |e::r,h=>by
  simp only[xp] at h;split at h
  ·obtain⟨d,b,a⟩:=vG h;exact⟨d,im _ b,a⟩
  ·rename_i c;exact⟨e,by simp,c⟩
def rX(pre:Nat->Bool)(m:Nat):List Oper->Nat->Bool
 |[],_=>true
 |o::r,i=>match pre i with
  |true=>rX pre m r (i+1)
  |false=>match Nat.beq i m with
   |true=>rX pre m r (i+1)
   |false=>match xp pre (aV o.after.toList) with|true=>rX pre m r (i+1)|false=>false
theorem sT{pre:Nat->Bool}{m:Nat}:∀ {l:List Oper}{k:Nat},rX pre m l k=true->∀ (i:Nat)(o:Oper),l[i]?=some o->pre (k+i)=false->k+i≠m->∃ e∈aV o.after.toList,pre e=false
 |[],_,_,i,o,h=>by simp at h
 |p::r,k,h,i,o,hi=>by
  intro a c;simp only[rX] at h;cases i with
  |zero =>
   simp at hi;subst hi;simp only[gm] at a c;have b:Nat.beq k m=false:=by
    cases b:Nat.beq k m with
    |true=>exact absurd (aO b) c
    |false=>rfl
   simp only[a,b] at h;split at h
   ·rename_i g;exact vG g
   ·cases h
  |succ i =>
   have d:rX pre m r (k+1)=true:=by
    split at h
    ·exact h
    ·split at h
     ·exact h
     ·split at h
      ·exact h
      ·cases h
   exact sT d i o (by simpa using hi) (by rw[show k+1+i=k+(i+1) by omega];exact a) (by omega)
section
variable {P:Program}{X:Cx P}{N:Nat}{ops:Array Oper}{φ:Fr}{σ:List aj}{ι:Type}{x:Nat->D}{f:ι->Nat->D}{σ':ι->List aj}{idx:Nat->Option Nat}{m:Nat}{pre:Nat->Bool}
structure OQ {P:Program}(X:Cx P)(N:Nat)(ops:Array Oper)(φ:Fr)(σ:List aj){ι:Type}(x:Nat->D)(f:ι->Nat->D)(σ':ι->List aj)(idx:Nat->Option Nat)(m:Nat)(pre:Nat->Bool):Prop where
 back:∀ i o,ops[i]?=some o->∀ e∈o.after,bd e=true->e.on<i
 nd:∀ i o d,ops[i]?=some o->o.dst=some d->idx d=some i/\d<N
 jN:∀ d i,idx d=some i->∃ o,ops[i]?=some o/\o.dst=some d
 has:m<ops.size
 pm:pre m=false
 cl:∀ i o,ops[i]?=some o->pre i=false->i≠m->∃ e∈o.after,bd e=true/\pre e.on=false
 same:∀ j i,pre i=true->f j i=x i
 one:∀ i o,ops[i]?=some o->pre i=true->OA X N ops.toList o (iO ops.toList φ x i) σ (x i) σ
 two:∀ j i o,ops[i]?=some o->i≠m->OA X N ops.toList o (iO ops.toList φ (f j) i) (σ' j) (f j i) (σ' j)
 qw:∀ o,ops[m]?=some o->tI X N ops.toList o (iO ops.toList φ x m) σ (λj=>f j m) σ'
 zX:∀ (x:Nat->D) i o,ops[i]?=some o->∀ t σ s v,cd σ s v (match idx t with|some j=>(if ∃ e∈o.after,bd e=true/\e.on=j then x j else .any)|none=>look φ t)->cd σ s v (look (iO ops.toList φ x i) t)
 fin:∀ (x:Nat->D) t σ s v,cd σ s v (match idx t with|some j=>x j|none=>look φ t)->cd σ s v (look (po ops.toList φ x) t)
theorem mK{x:Nat->D}{s:St}{a:Act}{L:Array Bool}{i:Nat}{o:Oper}(h:∀ t σ s v,cd σ s v (match idx t with|some j=>(if ∃ e∈o.after,bd e=true/\e.on=j then x j else .any)|none=>look φ t)->cd σ s v (look (iO ops.toList φ x i) t))
  (k:vu N σ s (cX φ x idx L) a) (c:∀ e∈o.after,bd e=true->L.getD e.on false=true):bg N σ s (iO ops.toList φ x i) a:=k.yt λt σ s v d=>h t σ s v (by
 unfold cX at d;cases b:idx t with
 |none=>simpa[b] using d
 |some j =>
  simp only[b] at d ⊢;split
  ·rename_i g
   obtain⟨e,l,n,rfl⟩:=g;rw[an (c e l n)] at d;exact d
  ·trivial)
theorem fp{x y:Nat->D}{σ2:List aj}{s s':St}{a:Act}{v:Value}{L:Array Bool}{i:Nat}{o:Oper}(q:∀ d,o.dst=some d->idx d=some i/\d<N)(n:∀ d j,idx d=some j->∃ o,ops[j]?=some o/\o.dst=some d)
  (E:ops[i]?=some o) (F:i<L.size) (z:∀ j,L.getD j false=true->y j=x j) (r:s.β.length=σ.length) (st:bo σ s σ2 s') (c:vu N σ s (cX φ x idx L) a) (I:cd σ2 s' v (y i)):vu N σ2 s' (cX φ y idx (L.setIfInBounds i true)) (a.put o.dst v):=by
 have old:∀ t,idx t≠some i->cd σ2 s' (a.tmps.getD t undef) (cX φ y idx (L.setIfInBounds i true) t):=by
  intro t G;have b:=(c.slot t).mono st.ext r;unfold cX at b ⊢;cases p:idx t with
  |none=>simpa[p] using b
  |some j =>
   simp only[p] at b ⊢;have u:j≠i:=by rintro rfl;exact G p
   have e:((L.setIfInBounds i true).getD j false=true)↔L.getD j false=true:=by rw[bh F];simp[u]
   by_cases l:L.getD j false=true
   ·rw[an (e.2 l),z j l];rw[an l] at b;exact b
   ·rw[ak (λh=>l (e.1 h))];rw[ak l] at b;exact b
 cases l:o.dst with
 |none =>
  refine⟨c.size,c.defers.imp λ_ B=>B.mono st.ext,λt=>?_⟩
  refine old t λh=>?_
  obtain⟨H,k,g⟩:=n _ _ h;rw[E] at k;cases k;rw[l] at g;cases g
 |some d =>
  obtain⟨w,A⟩:=q d l;refine⟨by simp[Act.put,c.size],c.defers.imp λ_ B=>B.mono st.ext,λt=>?_⟩
  simp only[Act.put]
  by_cases e:d=t
  ·subst e;have C:d<a.tmps.size:=by rw[c.size];exact A
   simp only[bM,l6 C,cK];unfold cX;simp only[w];rw[an ((bh F).2 (.inl rfl))];exact I
  ·have:=old t (λh=>by
    obtain⟨H,k,g⟩:=n _ _ h;rw[E] at k;cases k;rw[l] at g;cases g;exact e rfl)
   simp only[bM] at this ⊢;rw[kr e];exact this
theorem kL{back:∀ i o,ops[i]?=some o->∀ e∈o.after,bd e=true->e.on<i}{L:Array Bool}(j:L.size=ops.size)(d:Region.ready .any ops L=[]):∀ i,i<ops.size->L.getD i false=true:=by
 intro i
 induction i using Nat.strongRecOn with
 |_ i a =>
  intro hi;cases h:L.getD i false with
  |true=>rfl
  |false =>
   have c:i∈Region.ready .any ops L:=mem_ready.2 ⟨ops[i],bw hi,by
    simpa[bM,bw (by omega:i<L.size)] using h,λe g b=>by
    have:=back i _ (bw hi) e g b;exact a _ this (by omega)⟩
   rw[d] at c;simp at c
theorem hX{L:Array Bool}{t:Nat}(a:(Region.ready .any ops L)[t % (Region.ready .any ops L).length]?=none):Region.ready .any ops L=[]:=by
 cases d:Region.ready .any ops L with
 |nil=>rfl
 |cons y c =>
  rw[d] at a;have b:t % (y::c).length<(y::c).length:=gU _ (by simp)
  simp at a;simp at b;omega
theorem fL{L:Array Bool}(d:L.size=ops.size)(e:(L.toList.filter (λb=>!b)).length<=0):∀ i,i<ops.size->L.getD i false=true:=by
 intro i hi;have c:L[i]'(by omega)∈L.toList:=by simp
 cases a:L[i]'(by omega) with
 |true=>simp[bM,bw (by omega:i<L.size),a]
 |false =>
  have:L[i]'(by omega)∈L.toList.filter (λb=>!b):=mm.2 ⟨c,by simp[a]⟩
  have:=sc this;omega
theorem OQ.FE(h:OQ X N ops φ σ x f σ' idx m pre){E:Goroutine->St->Prop}{b:Frame}{kk:List Item}{cs:List Frame}(J:b.kind≠.early)(j:ι){s0:St}
  (S:∀ s a,bg N (σ' j) s (po ops.toList φ (f j)) a->ag (σ' j) s->bo σ s0 (σ' j) s->dn X E (G (b.aT a kk) cs) s) :
  ∀ (fuel:Nat) (L:Array Bool),L.size=ops.size->(L.toList.filter (λb=>!b)).length<=fuel->L.getD m false=true ->
   (∀ i o,ops[i]?=some o->L.getD i false=true->∀ e∈o.after,bd e=true->L.getD e.on false=true) ->
   ∀ (s:St) (a:Act),vu N (σ' j) s (cX φ (f j) idx L) a->ag (σ' j) s->bo σ s0 (σ' j) s ->
   ∀ t,dn X E (G (b.aT a (.inRegion ops (Region.linearise.go .any ops fuel t L [])::kk)) cs) s:=by
 have fin:∀ (L:Array Bool) (s:St) (a:Act),(∀ i,i<ops.size->L.getD i false=true)->vu N (σ' j) s (cX φ (f j) idx L) a->ag (σ' j) s->bo σ s0 (σ' j) s->dn X E (G (b.aT a (.inRegion ops []::kk)) cs) s:=by
  intro L s a C c hh st;have H:bg N (σ' j) s (po ops.toList φ (f j)) a:=c.yt λt σ s v w=>h.fin (f j) t σ s v (by
   unfold cX at w;cases hi:idx t with
   |none=>simpa[hi] using w
   |some k =>
    simp only[hi] at w ⊢;obtain⟨o,l,_⟩:=h.jN _ _ hi;rw[an (C k (dE.1 l).1)] at w;exact w)
  exact .ctl hh rfl (λ_=>ei) λU u=>S U a (H.rely u hh) (hh.rely u) (st.trans u.stepW)
 intro fuel
 induction fuel with
 |zero =>
  intro L I H K y s a c hh st t;rw[nE];exact fin L s a (fL I H) c hh st
 |succ fuel ih =>
  intro L I H K y s a c hh st t;rw[fQ];cases n:(Region.ready .any ops L)[t % (Region.ready .any ops L).length]? with
  |none=>exact fin L s a (kL (back:=h.back) I (hX n)) c hh st
  |some i =>
   have hi:=aE n;obtain⟨o,l,A,p⟩:=mem_ready.1 hi;have V:i<ops.size:=(dE.1 l).1;have q:¬L.getD i false=true:=by
    simp only[bM,bw (by omega:i<L.size),cK] at A ⊢
    simp[A]
   have Q:i≠m:=by rintro rfl;exact q K
   have g:((L.setIfInBounds i true).toList.filter (λb=>!b)).length<=fuel:=by
    have h1:L.toList[i]?=some false:=by
     rw[kt,bw (by omega:i<L.size)]
     simpa[bM,bw (by omega:i<L.size)] using q
    have:=count_set h1;rw[ly];omega
   have B:∀ j F,ops[j]?=some F->(L.setIfInBounds i true).getD j false=true->∀ e∈F.after,bd e=true->(L.setIfInBounds i true).getD e.on false=true:=by
    intro j F r hj e R J;rw[bh (by omega)] at hj ⊢
    rcases hj with rfl|hj
    ·rw[l] at r;cases r;exact .inr (p e R J)
    ·exact .inr (y j F r hj e R J)
   have M:bg N (σ' j) s (iO ops.toList φ (f j) i) a:=mK (h.zX (f j) i o l) c p;have:=h.two j i o l Q s a M hh b kk cs E i (Region.linearise.go .any ops fuel (t / (Region.ready .any ops L).length) (L.setIfInBounds i true) []) J (by simpa using l)
   simp only[gi] at this;exact this λv s' w O z=>ih _ (by simp[I]) g ((bh (by omega)).2 (.inr K)) B s' _
    (fp (λd T=>h.nd i o d l T) h.jN l (by omega) (λ_ _=>rfl) hh.len z c w) O (st.trans z) _
theorem OQ.FF(h:OQ X N ops φ σ x f σ' idx m pre){J:Goroutine->St->Prop}{b:Frame}{kk:List Item}{cs:List Frame}(z:b.kind≠.early){s0:St}
  (T:∀ j s a,bg N (σ' j) s (po ops.toList φ (f j)) a->ag (σ' j) s->bo σ s0 (σ' j) s->dn X J (G (b.aT a kk) cs) s) :
  ∀ (fuel:Nat) (L:Array Bool),L.size=ops.size->(L.toList.filter (λb=>!b)).length<=fuel->¬L.getD m false=true->(∀ i,L.getD i false=true->pre i=true) ->
   (∀ i o,ops[i]?=some o->L.getD i false=true->∀ e∈o.after,bd e=true->L.getD e.on false=true) ->
   ∀ (s:St) (a:Act),vu N σ s (cX φ x idx L) a->ag σ s->bo σ s0 σ s ->
   ∀ t,dn X J (G (b.aT a (.inRegion ops (Region.linearise.go .any ops fuel t L [])::kk)) cs) s:=by
 intro fuel
 induction fuel with
 |zero =>
  intro L H S K O A s a p hh st t;exact absurd (fL H S m h.has) K
 |succ fuel ih =>
  intro L H S K O A s a p hh st t;rw[fQ];cases q:(Region.ready .any ops L)[t % (Region.ready .any ops L).length]? with
  |none=>exact absurd (kL (back:=h.back) H (hX q) m h.has) K
  |some i =>
   have hi:=aE q;obtain⟨o,g,E,l⟩:=mem_ready.1 hi;have U:i<ops.size:=(dE.1 g).1;have C:¬L.getD i false=true:=by
    simp only[bM,bw (by omega:i<L.size),cK] at E ⊢
    simp[E]
   have c:((L.setIfInBounds i true).toList.filter (λb=>!b)).length<=fuel:=by
    have h1:L.toList[i]?=some false:=by
     rw[kt,bw (by omega:i<L.size)]
     simpa[bM,bw (by omega:i<L.size)] using C
    have:=count_set h1;rw[ly];omega
   have r:∀ j M,ops[j]?=some M->(L.setIfInBounds i true).getD j false=true->∀ e∈M.after,bd e=true->(L.setIfInBounds i true).getD e.on false=true:=by
    intro j M u hj e I z;rw[bh (by omega)] at hj ⊢
    rcases hj with rfl|hj
    ·rw[g] at u;cases u;exact .inr (l e I z)
    ·exact .inr (A j M u hj e I z)
   have B:bg N σ s (iO ops.toList φ x i) a:=mK (h.zX x i o g) p l
   by_cases w:i=m
   ·subst w;have:=h.qw o g s a B hh b kk cs J i (Region.linearise.go .any ops fuel (t / (Region.ready .any ops L).length) (L.setIfInBounds i true) []) z (by simpa using g)
    simp only[gi] at this;exact this λj v s' hv ia jO=>h.FE z j (λs a=>T j s a) fuel _ (by simp[H]) c ((bh (by omega)).2 (.inl rfl)) r s' _
     (fp (λd R=>h.nd i o d g R) h.jN g (by omega) (λk y=>h.same j k (O k y)) hh.len jO p hv) ia (st.trans jO) _
   ·have n:pre i=true:=by
     cases n:pre i with
     |true=>rfl
     |false =>
      obtain⟨e,I,Q,F⟩:=h.cl i o g n w;rw[O e.on (l e I Q)] at F;cases F
    have:=h.one i o g n s a B hh b kk cs J i (Region.linearise.go .any ops fuel (t / (Region.ready .any ops L).length) (L.setIfInBounds i true) []) z (by simpa using g)
    simp only[gi] at this;refine this λv s' hv ia jO=>ih _ (by simp[H]) c ?_ ?_ r s' _
     (fp (λd R=>h.nd i o d g R) h.jN g (by omega) (λ_ _=>rfl) hh.len jO p hv) ia (st.trans jO) _
    ·rw[bh (by omega)]
     rintro(e|e)
     ·exact w e.symm
     ·exact K e
    ·intro k y;rw[bh (by omega)] at y
     rcases y with rfl|y
     ·exact n
     ·exact O k y
theorem AW.qw(hf:P.follows Departure.mixedOrders=true){all:List Oper}(m:Nat)(pre:Nat->Bool)(x:Nat->D)(f:ι->Nat->D)(σ':ι->List aj)
  (F:jT all=true) (K:nH all 0=true) (M:kM N all=true) (hm:Nat.blt m all.length=true) (T:pre m=false) (V:rX pre m all 0=true) (same:∀ j i,pre i=true->f j i=x i)
  (one:∀ i o,all[i]?=some o->pre i=true->OA X N all o (iO all φ x i) σ (x i) σ)
  (two:∀ j i o,all[i]?=some o->i≠m->OA X N all o (iO all φ (f j) i) (σ' j) (f j i) (σ' j))
  (qw:∀ o,all[m]?=some o->tI X N all o (iO all φ x m) σ (λj=>f j m) σ') {Q:Post} (hQ:∀ j,Q .normal (po all φ (f j)) (σ' j)) (id:Nat) :
  AW X N (.region id all.toArray true) Q φ σ:=by
 have k:∀ i:Nat,all.toArray[i]?=all[i]?:=λi=>by simp
 let idx:Nat->Option Nat:=λt=>(List.range all.length).find? (λi=>decide ((all.getD i dN).dst=some t))
 have n:∀ t j,idx t=some j->∃ o,all[j]?=some o/\o.dst=some t:=by
  intro t j hj;have h1:=pD hj;have h2:j<all.length:=by simpa using nZ hj
  refine⟨all[j],ai h2,?_⟩;simpa[ai h2] using h1
 have q:∀ i o d,all[i]?=some o->o.dst=some d->idx d=some i:=by
  intro i o d g L;have hi:i<all.length:=(aD.1 g).1;cases hx:idx d with
  |none =>
   have:=kW.1 hx i (by simpa using hi)
   simp[g,L] at this
  |some j =>
   obtain⟨p,Y,BK⟩:=n d j hx;rw[ko F Y g BK L]
 have u:∀ t,lQ t all=true↔∃ j,idx t=some j:=by
  intro t
  constructor
  ·intro h;obtain⟨i,o,h1,h2⟩:=je h;exact⟨i,q i o t h1 h2⟩
  ·rintro⟨j,hj⟩;obtain⟨o,h1,h2⟩:=n t j hj;exact lf h1 h2
 have O:∀ i o,all[i]?=some o->all.getD i dN=o:=λi o h=>by simp[List.getD_eq_getElem?_getD,h]
 have L:OQ X N all.toArray φ σ x f σ' idx m pre:=by
  refine⟨?_,?_,?_,?_,T,?_,same,?_,?_,?_,?_,?_⟩
  ·intro i o g e U W;rw[k] at g;have:=nI K i o g e.on (bG.2 ⟨e,by simpa using U,W,rfl⟩)
   omega
  ·intro i o d g L;rw[k] at g;exact⟨q i o d g L,et (lT M i o g) d L⟩
  ·intro d i h;obtain⟨o,h1,h2⟩:=n d i h;exact⟨o,by rw[k];exact h1,h2⟩
  ·have:m<all.length:=cA hm;simpa using this
  ·intro i o g Z J;rw[k] at g;obtain⟨e,U,h1⟩:=sT V i o g (by simpa using Z) (by simpa using J)
   obtain⟨e',q1,q2,q3⟩:=bG.1 U;exact⟨e',by simpa using q1,q2,by rw[q3];exact h1⟩
  ·intro i o g Z;rw[k] at g;exact one i o g Z
  ·intro j i o g J;rw[k] at g;exact two j i o g J
  ·intro o g;rw[k] at g;exact qw o g
  ·intro x i o g t σ s v E;rw[k] at g;show cd σ s v (look (iO all φ x i) t);unfold iO;rw[O i o g];rcases fj (m:=λj=>dZ j (aV o.after.toList)) (φ:=nh all φ) (t:=t) (l:=o5 all 0 x) (i:=0) with⟨j,y,h1,h2,I⟩|I
   ·rw[I];rw[iA] at h1;cases hj:all[j]? with
    |none=>simp[hj] at h1
    |some oj =>
     simp only[hj,gk,bO,hJ,aw] at h1;rw[q j oj t hj h1.1] at E;simp only at E;rw[an] at E
     ·rw[<-h1.2];exact E
     ·simp only[aw] at h2;obtain⟨e,a,b,c⟩:=bG.1 (tr h2);exact⟨e,by simpa using a,b,c⟩
   ·rw[I,eF];split
    ·trivial
    ·rename_i G
     cases z:idx t with
     |some j=>exact absurd ((u t).2 ⟨j,z⟩) G
     |none=>simpa[z] using E
  ·intro x t σ s v E;show cd σ s v (look (po all φ x) t);unfold po;rcases fj (m:=λ_=>true) (φ:=nh all φ) (t:=t) (l:=o5 all 0 x) (i:=0) with⟨j,y,h1,h2,I⟩|I
   ·rw[I];rw[iA] at h1;cases hj:all[j]? with
    |none=>simp[hj] at h1
    |some oj =>
     simp only[hj,gk,bO,hJ,aw] at h1;rw[q j oj t hj h1.1] at E;rw[<-h1.2];exact E
   ·rw[I,eF];split
    ·trivial
    ·rename_i G
     cases z:idx t with
     |some j=>exact absurd ((u t).2 ⟨j,z⟩) G
     |none=>simpa[z] using E
 intro s a zF hh b kk cs SS W Ix;refine .next rfl λC B=>?_
 have B:=X.fz B;have A:=hh.rely B;have R:=zF.rely B hh;have H:Step σ C σ { C with w:={ C.w with drawn:=C.w.drawn+1 } }:=Step.same rfl rfl rfl rfl;have S:ag σ { C with w:={ C.w with drawn:=C.w.drawn+1 } }:=A.same rfl;have Iy:=B.stepW.trans (H.lD A);refine⟨_,{ C with w:={ C.w with drawn:=C.w.drawn+1 } },#[],fi,⟨⟨σ,σ,A,S,H⟩,.nil⟩,?_⟩;simp only[Region.schedule,hf,n7,aX];refine L.FF W (s0:=s) (λj s2 a2 f2 h2 lB=>Ix .normal _ _ s2 a2 (hQ j) f2 h2 lB) all.toArray.size _ (by simp) (by simp) ?_ ?_ ?_ _ a ?_ S Iy _
 ·simp[bM,eP];split <;> simp
 ·intro i hi;simp[bM,eP] at hi;split at hi <;> simp at hi
 ·intro i o g hi;simp[bM,eP] at hi;split at hi <;> simp at hi
 ·have r:=R.mono (H.lD A) A.len;refine⟨r.size,r.defers,λt=>?_⟩
  unfold cX;cases z:idx t with
  |none=>exact r.slot t
  |some j =>
   simp only;rw[ak]
   ·exact r.slot t
   ·simp[bM,eP];split <;> simp
end
def oC(xs:List UInt8):List Value:=xs.map λx=>.int .u8 x.toNat
theorem oh{xs:List UInt8}:(oC xs).length=xs.length:=by simp[oC]
theorem Ic{xs b:List UInt8}:oC (xs++b)=oC xs++oC b:=by simp[oC]
def nz(bf:Option (Nat×Nat))(n:Nat):Value:=match bf with|none=>.slice none 0 0|some (g,cap)=>.slice (some ⟨g,0,none⟩) n cap
def BB(T E:TypeId)(a:Bool)(v1:Value)(bf:Option (Nat×Nat))(xs:List UInt8)(f:Nat):Value->(Nat->Option Obj)->Prop:=λv d =>
 ∃ b,v=.pointer (some ⟨b,0,none⟩)/\cg v1=true/\d b=some (.cells #[if a then v else .pointer none,v1] T (0,0)) /\
 match bf with
 |none=>xs=[]/\∀ c,(d c).isSome=true↔c=b
 |some (g,cap)=>g≠b/\xs.length<=cap/\0<cap/\cap<=9223372036854775807/\f<=xs.length/\(∃ e,(oC xs++e).length=cap/\d g=some (.cells (oC xs++e).toArray E (0,f)))/\∀ c,(d c).isSome=true↔c=b∨c=g
section
variable {P:Program}{X:Cx P}{N:Nat}{m:List (Nat×TI)}{o:Oper}{k:Operand->D}{σ:List aj}{l:Nat}{T E:TypeId}{a:Bool}{v1:Value}{bf:Option (Nat×Nat)}{xs:List UInt8}{f:Nat}{s:St}
structure tb (P:Program)(σ:List aj)(s:St)(l:Nat)(T E:TypeId)(a:Bool)(v1:Value)(bf:Option (Nat×Nat))(xs:List UInt8)(f:Nat)(L:Loc)(b:Nat)(ch:Nat->Option Obj):Prop where
 β:s.β[l]?=some L
 v:L.v=.pointer (some ⟨b,0,none⟩)
 bb:BB T E a v1 bf xs f L.v ch
 heap:∀ (b:Nat) (o:Obj),ch b=some o->s.w.heap[b]?=some o
 bs:∀ b,b∈L.bs↔(ch b).isSome=true
 M:∀ b∈L.bs,∀ o,s.M b o=none
 ch:ch b=some (.cells #[if a then L.v else .pointer none,v1] T (0,0))
 cell:cg v1=true
theorem BB.row(hh:ag σ s)(hl:σ[l]?=some (.cx (BB T E a v1 bf xs f))):∃ L b ch,tb P σ s l T E a v1 bf xs f L b ch:=by
 have c:l<s.β.length:=by rw[hh.len];exact(aD.1 hl).1
 have e:=ai c;generalize s.β[l]=L at e;obtain⟨ch,g,h1,h2,h⟩:=hh.box l _ L hl e;have d:=g;obtain⟨b,j,i,n,_⟩:=d;exact⟨L,b,ch,e,j,g,h1,h2,h,n,i⟩
theorem tb.mem{L:Loc}{b:Nat}{ch:Nat->Option Obj}(r:tb P σ s l T E a v1 bf xs f L b ch):b∈L.bs:=(r.bs b).2 (by rw[r.ch];rfl)
theorem tb.ptr{L:Loc}{b:Nat}{ch:Nat->Option Obj}(r:tb P σ s l T E a v1 bf xs f L b ch){v:Value}{off:Nat}(h:cd σ s v (.e (.one (.ptr l off)))):v=.pointer (some ⟨b,off,none⟩):=by
 obtain⟨_,d,c,h1,h2,rfl⟩:=(h:gd σ s v (.ptr l off));rw[r.β] at h1;cases h1;rw[r.v] at h2;cases h2;rfl
theorem Et(C:cz P m){t:TypeId}{x:Operand}{i:TI}(h:o.op=.load t x)(hi:aQ m t=some i)(B:i.agg=false)(K:σ[l]?=some (.cx (BB T E a v1 bf xs f))){off:Nat}{d:D}(H:k x=.e (.one (.ptr l off)))
  (M:∀ s L b ch,ag σ s->tb P σ s l T E a v1 bf xs f L b ch->∃ v,(#[if a then L.v else .pointer none,v1]:Array Value)[off]?=some v/\cd σ s v d):aM P o k σ d σ:=by
 refine .nA λs J A G=>?_
 obtain⟨L,b,ch,r⟩:=BB.row (P:=P) A K;have F:=r.ptr (by have:=G x;rwa [H] at this)
 obtain⟨v,y,u⟩:=M s L b ch A r;have c:s.w.cell? ⟨b,off,none⟩=some v:=by
  simp only[World.cell?,r.heap _ _ r.ch];simpa using y
 have g:(loadVar t ⟨b,off,none⟩).run P s.w=.ok v s.w:=by
  simp[loadVar,(C t i hi).ja,B,run_load,c]
 refine⟨v,by simp[execOp,h,F,Instr.loadAt,Instr.sureAddr,g],u,λz p=>?_⟩
 have q:z∈(loadVar t ⟨b,off,none⟩).events P s.w #[]:=by
  have e:execOp J o=(do pure (.value (<-loadVar t ⟨b,off,none⟩))):=by simp[execOp,h,F,Instr.loadAt,Instr.sureAddr]
  rw[e] at p;simpa[g] using p
 obtain⟨j,I,rfl⟩:=jb (C t i hi) (n:=1) (λj I=>by
  rw[show j=0 by omega];exact⟨v,c⟩) (by simp[B]) z q
 exact pO (aE r.β) r.mem
theorem aM.eg(c:cz P m){t:TypeId}{x:Operand}{i:TI}(h:o.op=.load t x)(hi:aQ m t=some i)(g:i.agg=false)(hl:σ[l]?=some (.cx (BB T E a v1 bf xs f)))(d:k x=.e (.one (.ptr l 1))):aM P o k σ (.e (.one (.v v1))) σ :=
 Et c h hi g hl d λs L b ch hh r=>⟨v1,by simp,Rd.val r.cell⟩
theorem Ie{H:Value->(Nat->Option Obj)->Prop}(b:σ[l]?=some (.cx H)):∀ B,σ[l]?=some B->B.gr=false:=by intro B h;rw[b] at h;cases h;rfl
theorem aM.Eu(c:cz P m){t:TypeId}{x:Operand}{i:TI}(h:o.op=.load t x)(hi:aQ m t=some i)(g:i.agg=false)(hl:σ[l]?=some (.cx (BB T E true v1 bf xs f)))(d:k x=.e (.one (.ptr l 0))):aM P o k σ (.e (.one (.ptr l 0))) σ :=
 Et c h hi g hl d λs L b ch hh r=>⟨L.v,by simp,Ie hl,L,b,r.β,r.v,r.v⟩
theorem aM.Lg(d:cz P m){t:TypeId}{x:Operand}{i:TI}(h:o.op=.load t x)(hi:aQ m t=some i)(j:i.agg=false)(hl:σ[l]?=some (.cx (BB T E false v1 bf xs f)))(g:k x=.e (.one (.ptr l 0))):aM P o k σ (.e (.one (.c .j4))) σ :=
 Et d h hi j hl g λs L b ch hh r=>⟨.pointer none,by simp,Rd.j4⟩
theorem setRow_size(w:World)(b:Nat)(row:Array Value):(w.setRow b row).heap.size=w.heap.size:=by simp[World.setRow]
theorem Ew(hT:cz P m){t:TypeId}{x y:Operand}{i:TI}(h:o.op=.store t x y)(hi:aQ m t=some i)(K:i.size=1)(hl:σ[l]?=some (.cx (BB T E a v1 bf xs f))){off:Nat}{c:Bool}{n:Value}(hx:k x=.e (.one (.ptr l off)))(ho:off<2)(hc:cg n=true)
  (hd:∀ s L b ch v,ag σ s->tb P σ s l T E a v1 bf xs f L b ch->cd σ s v (k y)->cg v=true/\(#[if a then L.v else .pointer none,v1]:Array Value).setIfInBounds off v=#[if c then L.v else .pointer none,n]):aM P o k σ .any (σ.set l (.cx (BB T E c n bf xs f))):=by
 intro s A Z hr;obtain⟨L,b,ch,r⟩:=BB.row (P:=P) Z hl;have R:=r.ptr (by have:=hr x;rwa [hx] at this)
 obtain⟨Q,O⟩:=hd s L b ch (A y) Z r (hr y);have z:(A y).cells=#[A y]:=by cases W:A y <;> simp[W,cg,Value.cells] at Q ⊢
 have F:∀ v∈[A y],v.oneCell'=true:=by
  intro v R;simp at R;subst R;cases W:A y <;> simp[W,cg,Value.oneCell'] at Q ⊢
 have u:=r.heap _ _ r.ch;have J:=run_storeCells_at P b off T [A y] 0 _ s.w u (by simp;omega) F
 have H:((#[if a then L.v else .pointer none,v1]:Array Value).toList.take (off+0)++[A y]++(#[if a then L.v else .pointer none,v1]:Array Value).toList.drop (off+0+[A y].length)).toArray=#[if c then L.v else .pointer none,n]:=by
  rw[<-O]
  match off,ho with
  |0,_=>apply gy;simp
  |1,_=>apply gy;simp
 rw[H] at J;have I:(s.w.setRow b #[if c then L.v else .pointer none,n]).heap[b]?=some (.cells #[if c then L.v else .pointer none,n] T (0,0)):=setRow_heap s.w b _ _ T _ u
 have G:∀ d,d≠b->(s.w.setRow b #[if c then L.v else .pointer none,n]).heap[d]?=s.w.heap[d]?:=λd q=>setRow_other s.w b d _ q
 obtain⟨t1,t2⟩:=Z.j5 (l:=l) (H':=BB T E c n bf xs f) (L':=L) (w':=s.w.setRow b #[if c then L.v else .pointer none,n]) hl r.β rfl (by rw[setRow_size];exact ar _)
  (λd q hn=>G d (by rintro rfl;exact hn r.mem)) (λd q=>.inl q)
  ⟨λd=>if d=b then some (.cells #[if c then L.v else .pointer none,n] T (0,0)) else ch d,by
   obtain⟨V,Y,q2,q3,q4⟩:=r.bb;have:V=b:=by rw[r.v] at Y;simpa using Y.symm
   subst this;have C:∀ d,(if d=V then some (Obj.cells #[if c then L.v else .pointer none,n] T (0,0)) else ch d).isSome=true↔(ch d).isSome=true:=by
    intro d
    by_cases e:d=V
    ·subst e;simp[r.ch]
    ·simp[e]
   refine⟨V,Y,hc,by simp,?_⟩
   cases bf with
   |none=>exact⟨q4.1,λd=>(C d).trans (q4.2 d)⟩
   |some p =>
    obtain⟨g,cap⟩:=p;obtain⟨a1,a2,a3,a4,a5,⟨zs,a6,a7⟩,a8⟩:=q4;exact⟨a1,a2,a3,a4,a5,⟨zs,a6,by simp[a1,a7]⟩,λd=>(C d).trans (a8 d)⟩,λd o' q=>by
   by_cases e:d=b
   ·subst e;simp only[aX] at q;cases q;exact I
   ·simp only[e,aW] at q;rw[G d e];exact r.heap _ _ q,λd=>by
   rw[r.bs d]
   by_cases e:d=b
   ·subst e;simp[r.ch]
   ·simp[e]⟩ rfl rfl rfl
 have U:s.β.set l L=s.β:=by
  apply jK
  intro j
  by_cases e:l=j
  ·subst e;rw[bk (aD.1 r.β).1,r.β]
  ·rw[b6 e]
 rw[U] at t1 t2;refine⟨.skip,{ s with w:=s.w.setRow b #[if c then L.v else .pointer none,n] },?_,rfl,t1,t2,?_⟩
 ·simp[execOp,h,R,Instr.storeAt,Instr.sureAddr,storeVar,(hT t i hi).run_sizeOf,K,z,J]
 ·intro ev B;have e:execOp A o=(do storeVar t ⟨b,off,none⟩ (A y);pure .skip):=by simp[execOp,h,R,Instr.storeAt,Instr.sureAddr]
  rw[e] at B;have S:ev∈(storeCells ⟨b,off,none⟩ [A y]).events P s.w #[]:=by
   simp only[storeVar,Sem.events_bind,(hT t i hi).run_sizeOf,z,K,Result.evThen_ok,events_sizeOf,bY,en,aW,bm,bP,Sem.events_pure,mh,md] at B;generalize (storeCells ⟨b,off,none⟩ [A y]).run P s.w=r at B;cases r with
   |ok v w'=>simpa using B
   |halt x w'=>simpa using B
  rcases eh [A y] 0 _ s.w #[] u (by simp;omega) F ev S with Ig|⟨j,_,_,rfl⟩
  ·simp at Ig
  ·exact mv (aE r.β) r.mem (r.M _ r.mem _)
theorem aM.wR(q:cz P m){t:TypeId}{x y:Operand}{i:TI}(h:o.op=.store t x y)(hi:aQ m t=some i)(d:i.size=1)(hl:σ[l]?=some (.cx (BB T E a v1 bf xs f))){c:Value}(n:k x=.e (.one (.ptr l 1)))(p:k y=.e (.one (.v c)))(g:cg c=true):aM P o k σ .any (σ.set l (.cx (BB T E a c bf xs f))) :=
 Ew q h hi d hl n (by omega) g λs L b ch v hh r j=>by
  rw[p] at j;have:=Rd.fD j;subst this;exact⟨g,rfl⟩
theorem aM.Ih(p:cz P m){t:TypeId}{x y:Operand}{i:TI}(h:o.op=.store t x y)(hi:aQ m t=some i)(c:i.size=1)(hl:σ[l]?=some (.cx (BB T E a v1 bf xs f)))(g:k x=.e (.one (.ptr l 0)))(j:k y=.e (.one (.ptr l 0)))(n:cg v1=true):aM P o k σ .any (σ.set l (.cx (BB T E true v1 bf xs f))) :=
 Ew p h hi c hl g (by omega) n λs L b ch v hh r d=>by
  rw[j] at d;have:=r.ptr d;subst this;refine⟨rfl,?_⟩;rw[<-r.v];rfl
theorem aM.Lh{T:TypeId}(h:o.op=.alloc T)(n:∀ w,(zeroValue T).run P w=.ok (.agg #[.pointer none,.slice none 0 0]) w)(i:∀ w es,(zeroValue T).events P w es=es):aM P o k σ (.e (.one (.ptr σ.length 0))) (σ++[.cx (BB T E false (.slice none 0 0) none [] 0)]):=by
 intro s y hh hr
 let w':=s.w.alloc (.cells #[.pointer none,.slice none 0 0] T)
 obtain⟨x,g2⟩:=hh.grow (M':=s.M) (w':=w') (by simp[w']) (λb q=>b7 s.w _ q) (λ_ _ _=>rfl) (λb q o v j=>by have:=hh.block j;omega) rfl rfl rfl
 have t:w'.heap.size=s.w.heap.size+1:=by simp[w']
 have g:w'.heap[s.w.heap.size]?=some (.cells #[.pointer none,.slice none 0 0] T (0,0)):=cU s.w _;obtain⟨r,u⟩:=x.hO g2 rfl hh (B:=.cx (BB T E false (.slice none 0 0) none [] 0)) (L:=⟨.pointer (some ⟨s.w.heap.size,0,none⟩),[s.w.heap.size]⟩)
  ⟨λd=>if d=s.w.heap.size then some (.cells #[.pointer none,.slice none 0 0] T (0,0)) else none,⟨s.w.heap.size,rfl,rfl,by simp,rfl,λd=>by by_cases e:d=s.w.heap.size <;> simp[e]⟩,λd p c=>by
   by_cases e:d=s.w.heap.size
   ·subst e;simp only[aX] at c;cases c;exact g
   ·simp[e] at c,λd=>by by_cases e:d=s.w.heap.size <;> simp[e],λd c p=>by
   simp at c;subst c;show s.M _ _=none;cases j:s.M s.w.heap.size p with
   |none=>rfl
   |some v=>have:=hh.block j;omega⟩ (λd c=>by simp at c;subst c;exact⟨ar _,by show _<w'.heap.size;omega⟩)
 refine⟨.value (.pointer (some ⟨s.w.heap.size,0,none⟩)),_,?_,⟨by simp,⟨.pointer (some ⟨s.w.heap.size,0,none⟩),[s.w.heap.size]⟩,s.w.heap.size,?_,rfl,rfl⟩,r,u,?_⟩
 ·simp[execOp,h,Instr.alloc,n,Go.newVar,newRow,Value.cells,w']
 ·simp[<-hh.len]
 ·simp[execOp,h,Instr.alloc,n,i,Go.newVar,newRow];exact .nil
end
section
variable {P:Program}{X:Cx P}{N:Nat}{z:List (Nat×TI)}{o:Oper}{q:Operand->D}{σ:List aj}{l:Nat}{T E:TypeId}{d:Bool}{v1:Value}{bf:Option (Nat×Nat)}{xs:List UInt8}{k:Nat}{s:St}
theorem nB{P:Program}{b o:Nat}{t:TypeId}{k:Nat×Nat}:∀ (vs:List Value)(i:Nat)(a:Array Value)(w:World)(es:Array Event),w.heap[b]?=some (.cells a t k)->k.2<=o+i->o+i+vs.length<=a.size->(∀ v∈vs,v.oneCell'=true) ->
  ∀ e∈(storeCells ⟨b,o,none⟩ vs i).events P w es,e∈es∨∃ j,i<=j/\j<i+vs.length/\e=CE b (o+j)
 |[],_,_,_,_,_,_,_,_=>λe h=>.inl (by simpa[storeCells] using h)
 |v::rest,i,a,w,es,g,x,y,n=>λe h=>by
  have hi:o+i<a.size:=by simp at y;omega
  have c:w.cell? ⟨b,o+i,none⟩=some a[o+i]:=by simp[World.cell?,g,hi]
  have f:w.frozen? ⟨b,o+i,none⟩=false:=by
   obtain⟨lo,A⟩:=k;simp only[World.frozen?,g,pt,aZ]
   right
   simp only at x;omega
  have r:(store (⟨b,o+i,none⟩:Addr) v).run P w=.ok () (w.setRow b (a.setIfInBounds (o+i) v)):=by
   rw[run_store P w _ v _ (n v (by simp)),c]
   simp[f,setCell_eq_setRow w b (o+i) a t k v g]
  have m:(store (⟨b,o+i,none⟩:Addr) v).events P w es=es.push (CE b (o+i)):=by
   rw[events_store P w es _ v _ (n v (by simp)),c]
   simp only[f,gI,aW];rfl
  simp only[storeCells,Sem.events_bind,cO,r,m,Result.evThen_ok] at h;rcases nB rest (i+1) (a.setIfInBounds (o+i) v) _ _ (setRow_heap _ _ _ _ _ _ g) (by omega) (by simp at y ⊢;omega) (λu B=>n u (by simp[B])) e h with p|⟨j,F,C,rfl⟩
  ·rcases pF.1 p with p|rfl
   ·exact .inl p
   ·exact .inr ⟨i,ar _,by simp,rfl⟩
  ·exact .inr ⟨j,by omega,by simp at C ⊢;omega,rfl⟩
theorem tb.at{L:Loc}{b g cap:Nat}{ch:Nat->Option Obj}(r:tb P σ s l T E d v1 (some (g,cap)) xs k L b ch) :
  g≠b/\xs.length<=cap/\0<cap/\cap<=9223372036854775807/\k<=xs.length/\(∃ a,(oC xs++a).length=cap/\ch g=some (.cells (oC xs++a).toArray E (0,k)))/\(∀ c,(ch c).isSome=true↔c=b∨c=g)/\g∈L.bs:=by
 obtain⟨t,h,_,_,u,p,i,n,j,e,m⟩:=r.bb;have:t=b:=by rw[r.v] at h;simpa using h.symm
 subst this;obtain⟨a,e,f⟩:=e;exact⟨u,p,i,n,j,⟨a,e,f⟩,m,(r.bs g).2 (by rw[f];rfl)⟩
theorem Ex{L:Loc}(h:s.β[l]?=some L):s.β.set l L=s.β:=by
 apply jK
 intro j
 by_cases e:l=j
 ·subst e;rw[bk (aD.1 h).1,h]
 ·rw[b6 e]
theorem tb.j5{L:Loc}{b g cap:Nat}{ch:Nat->Option Obj}(hh:ag σ s)(hl:σ[l]?=some (.cx (BB T E d v1 (some (g,cap)) xs k)))(r:tb P σ s l T E d v1 (some (g,cap)) xs k L b ch){xs':List UInt8}{fz':Nat}{zs':List Value}{w':World}
  (f:(oC xs'++zs').length=cap) (B:xs'.length<=cap) (A:fz'<=xs'.length) (x:w'.heap.size=s.w.heap.size) (n:∀ a,a≠g->w'.heap[a]?=s.w.heap[a]?) (u:w'.heap[g]?=some (.cells (oC xs'++zs').toArray E (0,fz'))) (F:w'.os=s.w.os) (p:w'.tape=s.w.tape) (C:w'.output=s.w.output) :
  ag (σ.set l (.cx (BB T E d v1 (some (g,cap)) xs' fz'))) { s with w:=w' }/\Step σ s (σ.set l (.cx (BB T E d v1 (some (g,cap)) xs' fz'))) { s with w:=w' }:=by
 obtain⟨j,Q,G,I,K,⟨J,O,y⟩,H,h⟩:=r.at;obtain⟨m,i⟩:=hh.j5 (l:=l) (H':=BB T E d v1 (some (g,cap)) xs' fz') (L':=L) (w':=w') hl r.β rfl (by omega)
  (λa c t=>n a (by rintro rfl;exact t h)) (λa c=>.inl c)
  ⟨λa=>if a=g then some (.cells (oC xs'++zs').toArray E (0,fz')) else ch a,⟨b,r.v,r.cell,(show (if b=g then _ else ch b)=_ from (ak λe=>j e.symm).trans r.ch),j,B,G,I,A,⟨zs',f,by simp⟩,λa=>by
   by_cases e:a=g
   ·subst e;simp
   ·simp only[e,aW];exact(H a).trans (by simp[e])⟩,λa M c=>by
   by_cases e:a=g
   ·subst e;simp only[aX] at c;cases c;exact u
   ·simp only[e,aW] at c;rw[n a e];exact r.heap _ _ c,λa=>by
   rw[r.bs a]
   by_cases e:a=g
   ·subst e;simp[y]
   ·simp[e]⟩ F p C
 rw[Ex r.β] at m i;exact⟨m,i⟩
theorem aM.Ii{t R:TypeId}{x y:Operand}(ho:o.op=.call { callee:=.builtin .append,args:=#[x,y],argTypes:=#[t,R] }){Z:TypeInfo}(ht:P.underlying t=some (.slice E))(I:P.underlying R=some .string)(J:P.info? E=some Z)(G:Z.size=1)
  {g cap n:Nat} (hl:σ[l]?=some (.cx (BB T E d v1 (some (g,cap)) xs k))) (hx:q x=.e (.one (.v (nz (some (g,cap)) n)))) (hn:xs.length=n) {str:List UInt8} (hy:q y=.e (.one (.c (.str str)))) (VD:n+str.length<=cap) :
  aM P o q σ (.e (.one (.v (nz (some (g,cap)) (n+str.length))))) (σ.set l (.cx (BB T E d v1 (some (g,cap)) (xs++str) k))):=by
 intro s ρ hh hr;subst hn;obtain⟨L,b,ch,r⟩:=BB.row (P:=P) hh hl;obtain⟨a1,a2,a3,a4,U,⟨a,a6,a7⟩,a8,u⟩:=r.at;have H:=hr x;rw[hx] at H;have H:=Rd.fD H;have O:=hr y;rw[hy] at O;have O:=eX O;generalize K:ρ y=vy at O;cases O with
 |@str sb _ hs VE =>
 have B:sb.size=str.length:=by rw[<-hs,fU];rfl
 have Q:=r.heap _ _ a7;have f:(oC xs++a).toArray.size=cap:=by simpa using a6
 have A:=Lib.run_append_room_stringF (P:=P) s.w t R o.type E Z ht I J G g xs.length cap _ _ Q U sb (by omega) (by rw[f];omega)
 have F:((oC xs++a).toArray.toList.take xs.length++Lib.strCells sb++(oC xs++a).toArray.toList.drop (xs.length+sb.size))=oC (xs++str)++a.drop str.length:=by
  have e1:(oC xs++a).take xs.length=oC xs:=by rw[<-oh (xs:=xs)];simp
  have e2:(oC xs++a).drop (xs.length+sb.size)=a.drop str.length:=by
   rw[sx,oh,wH (by rw[oh];omega),B]
   simp
  have e3:Lib.strCells sb=oC str:=by simp[Lib.strCells,oC,hs]
  rw[wN,e1,e2,e3,Ic]
 rw[F,B] at A;have YG:a.length=cap-xs.length:=by simp[oh] at a6;omega
 have m:(oC (xs++str)++a.drop str.length).length=cap:=by simp[oh];omega
 have p:(s.w.setRow g (oC (xs++str)++a.drop str.length).toArray).heap[g]?=some (.cells (oC (xs++str)++a.drop str.length).toArray E (0,k)):=setRow_heap s.w g _ _ E _ Q;obtain⟨t1,V⟩:=r.j5 (fz':=k) (w':=s.w.setRow g (oC (xs++str)++a.drop str.length).toArray) hh hl m (by simp;omega) (by simp;omega) (setRow_size _ _ _) (λb' W=>setRow_other s.w g b' _ W) p rfl rfl rfl
 refine⟨.value (.slice (some ⟨g,0,none⟩) (xs.length+str.length) cap),_,?_,Rd.val rfl,t1,V,?_⟩
 ·rw[cu ho,H,K];simp only[bm,cY];have C:(Builtin.append_ #[t,R] o.type #[nz (some (g,cap)) xs.length,.string sb]).run P s.w=_:=A;rw[C];rfl
 ·rw[cu ho,H,K];refine dW λe he=>?_
  have hf:=Lib.run_firstCells_string (P:=P) s.w 1 sb;have S:=run_storeCells_atF P g xs.length E (0,k) (Lib.strCells sb) 0 _ s.w Q (by simpa using U) (by rw[Lib.strCells_length,f];omega) (Lib.strCells_oneCell sb)
  have i:xs.length+sb.size<=cap:=by omega
  have Y:(Builtin.firstCells 1 sb.size (.string sb)).events P s.w #[]=#[]:=rfl;simp[nz,Builtin.append_,run_underlying ht,run_underlying I,sizeOf,typeInfo,J,G,Builtin.lenOf,i,hf,Y,cO,S] at he;rcases nB (Lib.strCells sb) 0 _ s.w _ Q (by simpa using U) (by rw[Lib.strCells_length,f];omega) (Lib.strCells_oneCell sb) e he with h|⟨j,h1,h2,rfl⟩
  ·simp at h
  ·exact mv (aE r.β) u (r.M _ u _)
theorem aM.Ey{t p:TypeId}{x y:Operand}(u:o.op=.call { callee:=.builtin .append,args:=#[x,y],argTypes:=#[t,p] }){n:TypeInfo}(r:P.underlying t=some (.slice E))(b:P.underlying p=some .string)(f:P.info? E=some n)
  (B:q x=.e (.one (.v (nz none 0)))) (C:q y=.e (.one (.c (.str [])))):aM P o q σ (.e (.one (.v (nz none 0)))) σ:=by
 refine .quiet λs G hh hr=>?_
 have g:=hr x;rw[B] at g;have g:=Rd.fD g;have i:=hr y;rw[C] at i;have i:=eX i;generalize h:G y=vy at i;cases i with
 |@str sb _ F A =>
 have a:sb.size=0:=by
  have:sb.data.toList.length=0:=by rw[F];rfl
  rw[fU] at this;exact this
 have j:=Lib.run_firstCells_string (P:=P) s.w n.size sb;rw[a] at j;have m:(Builtin.firstCells n.size 0 (.string sb)).events P s.w #[]=#[]:=rfl;refine⟨.slice none 0 0,?_,Rd.val rfl,?_⟩
 ·rw[cu u,g,h];simp[nz,Builtin.append_,run_underlying r,run_underlying b,sizeOf,typeInfo,f,Builtin.lenOf,a,j]
 ·rw[cu u,g,h];simp[nz,Builtin.append_,run_underlying r,run_underlying b,sizeOf,typeInfo,f,Builtin.lenOf,a,j,m]
theorem NR{f:FuncId}{fn:Func}{ps:Array TypeId}{t:TypeId}(ht:P.underlying t=some (.slice E))(hf:P.funcs[f]?=some fn)(A:(fn.name== "runtime.NumGoroutine")=false)
  (hb:fn.body.isNone=true) (V:Extern.findNext fn=none) (K:Extern.find fn=some (Extern.BytealgMakeNoZero.makeNoZero ps #[t])) {O x:Operand} {Qb:Array TypeId} (ho:o.op=.call { callee:=.value O,args:=#[x],argTypes:=Qb })
  (Qc:q O=.e (.one (.c (.fn (.func f) [] [])))) {n:Nat} (hx:q x=.e (.one (.c (.int .i64 n)))) (h0:0<n) (VF:n<=140737488355328) (hl:σ[l]?=some (.cx (BB T E d v1 none xs k))) :
  ∀ s F,ag σ s->(∀ y,cd σ s (F y) (q y))->∃ (j:{ p:Nat×Nat // n<=p.2 }) (s':St) (v:Value),(execOp F o).run P s.w=.ok (.value v) s'.w/\cd (σ.set l (.cx (BB T E d v1 (some j.1) [] 0))) s' v (.e (.one (.v (nz (some j.1) n)))) /\
   ag (σ.set l (.cx (BB T E d v1 (some j.1) [] 0))) s'/\Step σ s (σ.set l (.cx (BB T E d v1 (some j.1) [] 0))) s'/\eK s ((execOp F o).events P s.w #[]):=by
 intro s F Y hr;obtain⟨L,b,ch,r⟩:=BB.row (P:=P) Y hl;have G:F O=.func (.func f) #[] #[]:=by
  have i:=hr O;rw[Qc] at i;have i:=eX i;generalize F O=v at i;cases i with
  |fn fs cs a b f1 f2 c1 c2 d1 d2 =>
   have:fs=[]:=dq a;subst this;have:cs=[]:=dq b;subst this;rfl
 have H:F x=.int .i64 n:=by
  have i:=hr x;rw[hx] at i;have i:=eX i;generalize F x=v at i;cases i;rfl
 obtain⟨cs,i,h2,W⟩:=Lib.run_makeNoZero (P:=P) s.w ps t E ht n (by omega)
 have W:=W (by simp only[maxLen];omega)
 have I:(callFunc f #[.int .i64 n]).run P s.w=.ok (.value (.slice (some ⟨s.w.heap.size,0,none⟩) n cs.size)) (s.w.drew.drew.alloc (.cells cs E)):=by
  rw[run_callFunc_extern hf A hb V K,i];rfl
 let w':World:=s.w.drew.drew.alloc (.cells cs E)
 have Q:w'.heap[s.w.heap.size]?=some (.cells cs E (0,0)):=cU s.w.drew.drew _;have Eg:w'.heap.size=s.w.heap.size+1:=by show (s.w.drew.drew.heap.push _).size=_;simp
 obtain⟨B,q1,q2,q3,q4⟩:=r.bb;have U:B=b:=by rw[r.v] at q1;simpa using q1.symm
 subst U;have R:B<s.w.heap.size:=Y.lt L (aE r.β) B r.mem;have C:s.w.heap.size≠B:=by omega
 obtain⟨t1,t2⟩:=Y.j5 (l:=l) (H':=BB T E d v1 (some (s.w.heap.size,cs.size)) [] 0) (L':=⟨L.v,[B,s.w.heap.size]⟩) (w':=w') hl r.β rfl (by omega)
  (λu g V=>b7 s.w.drew.drew _ g) (λu g=>by
   simp at g;rcases g with rfl|rfl
   ·exact .inl r.mem
   ·exact .inr ⟨ar _,by omega⟩)
  ⟨λu=>if u=B then some (.cells #[if d then L.v else .pointer none,v1] T (0,0)) else if u=s.w.heap.size then some (.cells cs E (0,0)) else none,⟨B,r.v,r.cell,by simp,C,by simp,by omega,by simp only[maxLen] at W;omega,by simp,⟨cs.toList,by simp[oC],by simp[C,oC]⟩,λu=>by
   by_cases e:u=B
   ·simp[e]
   ·by_cases J:u=s.w.heap.size <;> simp[e,J,C]⟩,λu o' g=>by
   by_cases e:u=B
   ·subst e;simp only[aX] at g;have:w'.heap[u]?=s.w.heap[u]?:=b7 s.w.drew.drew _ R;rw[this,<-g];exact r.heap _ _ r.ch
   ·simp only[e,aW] at g
    by_cases J:u=s.w.heap.size
    ·subst J;simp only[aX] at g;cases g;exact Q
    ·simp[J] at g,λu=>by
   by_cases e:u=B
   ·simp[e]
   ·by_cases J:u=s.w.heap.size <;> simp[e,J,C]⟩ rfl rfl rfl
 refine⟨⟨(s.w.heap.size,cs.size),h2⟩,_,_,?_,Rd.val rfl,t1,t2,?_⟩
 ·simp[execOp,ho,resolve,Deferred.ofValue,invoke,G,H,I,w',nz]
 ·intro ev M;simp only[execOp,ho,resolve,Deferred.ofValue,invoke,G,H] at M;have S:ev∈(callFunc f #[.int .i64 n]).events P s.w #[]:=by
   simpa[G,H] using M
  have Nr:fn.name≠ "runtime.NumGoroutine":=by simpa using A
  have T8:fn.body=none:=by simpa using hb
  have key:∀ es:Array Event,∀ e∈(Extern.BytealgMakeNoZero.makeNoZero ps #[t] #[.int .i64 n]).events P s.w es,e∈es∨∃ m,e=⟨.mark m,false,true⟩/\Go.Conc.Neutral m:=by
   intro es e K
   change e∈Sem.events P (underlying _ >>= _) _ _ at K
   have i:¬(n:Int)<0:=by omega
   have h2:¬(281474976710656:Int)<(n:Int):=by omega
   have Z:e∈(askRoom (grownCap s.w n 0 E)).events P s.w.drew es:=by
    simpa[run_underlying ht,i,h2,Question.forced,newRow,grownCap] using K
   exact Go.Conc.events_askRoom _ _ _ e Z
  have:ev∈(Extern.BytealgMakeNoZero.makeNoZero ps #[t] #[.int .i64 n]).events P s.w ((#[]:Array Event).push ⟨.mark (.extern f),false,true⟩):=by
   have e:callFunc f #[.int .i64 n]=callFunc f #[.int .i64 n]:=rfl;simpa[callFunc,hf,Nr,T8,V,K,i] using S
  rcases key _ _ this with h|⟨m,rfl,hm⟩
  ·simp at h;subst h;exact .inr ⟨f,rfl⟩
  ·exact .inl hm
theorem NS{G M:TypeId}{x y:Operand}(ho:o.op=.call { callee:=.builtin .unsafeString,args:=#[x,y],argTypes:=#[G,M] })(hp:P.underlying G=some (.pointer E))(H:P.cellsOf E=1)
  {g cap:Nat} (Z:σ[l]?=some (.cx (BB T E d v1 (some (g,cap)) xs k))) (hx:q x=.e (.one (.v (.pointer (some ⟨g,0,none⟩))))) (hy:q y=.e (.one (.c (.int .i64 xs.length)))) :
  aM P o q σ (.e (.one (.c (.str xs)))) (σ.set l (.cx (BB T E d v1 (some (g,cap)) xs xs.length))):=by
 intro s R hh hr;obtain⟨L,b,ch,r⟩:=BB.row (P:=P) hh Z;obtain⟨a1,V,a3,a4,a5,⟨U,a6,a7⟩,a8,VG⟩:=r.at;have B:=hr x;rw[hx] at B;have B:=Rd.fD B;have t:R y=.int .i64 xs.length:=by
  have O:=hr y;rw[hy] at O;have O:=eX O;generalize R y=v at O;cases O;rfl
 have K:=r.heap _ _ a7;have p:execOp R o=(do pure (.value (<-Builtin.unsafeString_ #[G,M] o.type #[R x,R y]))):=by simp[execOp,ho,resolve,invoke,builtin]
 have S:(oC xs++U).toArray.size=cap:=by simpa using a6
 by_cases W:xs=[]
 ·subst W;have n:=Lib.run_unsafeString_none (P:=P) s.w G M o.type (some ⟨g,0,none⟩);obtain⟨t1,t2⟩:=r.j5 (xs':=[]) (fz':=0) (zs':=U) (w':=s.w) hh Z a6 V (by simp) rfl (λ_ _=>rfl) (by have e:k=0:=(by simpa using a5);rw[e] at K;exact K) rfl rfl rfl
  refine⟨.value (.string .empty),_,?_,Rd.str rfl (by simp),t1,t2,?_⟩
  ·rw[p,B,t];simp only[bm,cY];have:(Builtin.unsafeString_ #[G,M] o.type #[.pointer (some ⟨g,0,none⟩),.int .i64 ([]:List UInt8).length]).run P s.w=_:=n;rw[this];rfl
  ·rw[p,B,t];refine dW ?_
   change eK s (Sem.events P (asInt (.int .i64 0) >>= _) _ _)
   simp[asInt,asIntOf,IntKind.max];exact .nil
 ·have i:∀ j x,xs[j]?=some x->s.w.cell? ((⟨g,0,none⟩:Addr).add j)=some (.int .u8 x.toNat):=by
   intro j x F;rw[cO];simp only[World.cell?,K,aw];have oV:j<xs.length:=(aD.1 F).1;have:(oC xs)[j]?=some (.int .u8 x.toNat):=by simp[oC,F]
   simp[bc (by rw[oh];exact oV:j<(oC xs).length),this]
  have C:s.w.shape? g=some (E,cap):=by simp only[World.shape?,K];rw[S]
  have n:=Lib.run_unsafeString_row (P:=P) s.w G M o.type E hp H g cap C xs W V (by omega) i
  have f:xs.length≠0:=by simpa using W
  have VH:(s.w.freeze ⟨g,0,none⟩ xs.length).heap[g]?=some (.cells (oC xs++U).toArray E (0,xs.length)):=by
   simp only[World.freeze,f,aW,Array.getElem?_modify,aX,K,gk]
   by_cases VI:k=0
   ·subst VI;simp
   ·have e1:((0:Nat)==k)=false:=by
     simp only[cD,bY];omega
    simp only[e1,gI,aW,Nat.min_self,aw];rw[Nat.max_eq_right a5]
  obtain⟨t1,t2⟩:=r.j5 (xs':=xs) (fz':=xs.length) (zs':=U) (w':=s.w.freeze ⟨g,0,none⟩ xs.length) hh Z a6 V (ar _) (by simp[World.freeze,f]) (λb' Ez=>by
   simp only[World.freeze,f,aW,Array.getElem?_modify];rw[ak (λe=>Ez e.symm)]) VH (by simp[World.freeze,f]) (by simp[World.freeze,f]) (by simp[World.freeze,f])
  refine⟨.value (.string ⟨xs.toArray⟩),_,?_,Rd.str (by simp) (by omega),t1,t2,?_⟩
  ·rw[p,B,t];simp only[bm,cY,n];rfl
  ·rw[p,B,t];refine dW λe u=>?_
   have Q:¬(xs.length:Int)<0:=by omega
   have VJ:¬(9223372036854775807:Int)<(xs.length:Int):=by omega
   have m:=Lib.liesAt_bytes (P:=P) H (cap / P.cellsOf E) xs.length (by rw[H];simpa using V)
   have J:IntKind.i64.max=9223372036854775807:=rfl;have VK:=Lib.run_loadBytes (P:=P) s.w xs ⟨g,0,none⟩ .empty i;have Y:∀ (I:List UInt8) (a:Nat) (acc:ByteArray) (es:Array Event),(∀ j x,I[j]?=some x->s.w.cell? ⟨g,a+j,none⟩=some (.int .u8 x.toNat))->∀ e∈(loadBytes ⟨g,a,none⟩ acc I.length).events P s.w es,e∈es∨∃ j,e=wP g j:=by
    intro I
    induction I with
    |nil=>intro a acc es _ e u;exact .inl (by simpa[loadBytes] using u)
    |cons y I ih =>
     intro a acc es H e u;have A:=H 0 y rfl;simp only[gm] at A;have VL:(load ⟨g,a,none⟩).run P s.w=.ok (.int .u8 y.toNat) s.w:=by simp[run_load,A]
     simp only[cM,loadBytes,Sem.events_bind,VL,Result.evThen_ok,wS A,cO] at u;rcases ih (a+1) _ _ (λj x F=>by have:=H (j+1) x (by simpa using F);rwa [show a+1+j=a+(j+1) by omega]) e u with h|h
     ·rcases pF.1 h with h|rfl
      ·exact .inl h
      ·exact .inr ⟨a,rfl⟩
     ·exact .inr h
   have VM:(variablesAt ⟨g,0,none⟩ E xs.length).run P s.w=.ok true s.w:=by simp[variablesAt,C,m]
   have VN:∀ es,(variablesAt ⟨g,0,none⟩ E xs.length).events P s.w es=es:=λes=>by simp[variablesAt,C,m]
   have HV:e∈(loadBytes ⟨g,0,none⟩ .empty xs.length).events P s.w #[]:=by
    change e∈Sem.events P (asInt (.int .i64 (xs.length:Int)) >>= _) _ _ at u
    simpa[asInt,asIntOf,J,Q,VJ,f,elemOf,run_underlying hp,VM,VN,VK] using u
   rcases Y xs 0 .empty #[] (λj x F=>by have:=i j x F;rwa [cO] at this) e HV with h|⟨j,rfl⟩
   ·simp at h
   ·exact pO (aE r.β) VG
end
section
variable {P:Program}{X:Cx P}{N:Nat}{q:List (Nat×TI)}{o:Oper}{g:Operand->D}{σ:List aj}{l:Nat}{T E:TypeId}{i:Bool}{v1:Value}{bf:Option (Nat×Nat)}{xs:List UInt8}{p:Nat}{s:St}
theorem aM.exact{x:Operand}{v r:Value}{d:D}(f:g x=.e (.one (.v v)))(h:∀ (a:Operand->Value) w,a x=v->(execOp a o).run P w=.ok (.value r) w/\(execOp a o).events P w #[]=#[])(c:∀ σ s,cd σ s r d):aM P o g σ d σ:=by
 refine .quiet λs a hh hr=>?_
 have b:=hr x;rw[f] at b;have b:=Rd.fD b;obtain⟨h1,h2⟩:=h a s.w b;exact⟨r,h1,c _ _,h2⟩
theorem aM.rP{x:Operand}{b:Array TypeId}{t E:TypeId}(h:o.op=.call { callee:=.builtin .len,args:=#[x],argTypes:=b })(j:b[0]?=some t)(f:P.underlying t=some (.slice E)){a:Option Addr}{n c:Nat}(d:g x=.e (.one (.v (.slice a n c))))(m:n<=9223372036854775807):aM P o g σ (.e (.one (.c (.int .i64 n)))) σ :=
 .exact d (λr w k=>by constructor <;> simp[execOp,h,resolve,invoke,builtin,Builtin.len_,k,run_underlying f,goInt,j]) (λ_ _=>Rd.int (by simp only[aJ];omega))
theorem aM.Ij{x:Operand}{b:Array TypeId}{t E:TypeId}(h:o.op=.call { callee:=.builtin .cap,args:=#[x],argTypes:=b })(j:b[0]?=some t)(f:P.underlying t=some (.slice E)){a:Option Addr}{n c:Nat}(d:g x=.e (.one (.v (.slice a n c))))(m:c<=9223372036854775807):aM P o g σ (.e (.one (.c (.int .i64 c)))) σ :=
 .exact d (λr w k=>by constructor <;> simp[execOp,h,resolve,invoke,builtin,Builtin.cap_,k,run_underlying f,goInt,j]) (λ_ _=>Rd.int (by simp only[aJ];omega))
theorem aM.NT{x:Operand}{a:Array TypeId}(h:o.op=.call { callee:=.builtin .unsafeSliceData,args:=#[x],argTypes:=a }){n c:Nat}(b:g x=.e (.one (.v (.slice none n c)))):aM P o g σ (.e (.one (.v (.pointer none)))) σ :=
 .exact b (λf w d=>by
  have e:Builtin.unsafeSliceData_ a o.type #[.slice none n c]=pure (.pointer none):=rfl
  constructor <;> simp[execOp,h,resolve,invoke,builtin,d,e]) (λ_ _=>Rd.val rfl)
theorem aM.NU{x:Operand}{b:Array TypeId}(h:o.op=.call { callee:=.builtin .unsafeSliceData,args:=#[x],argTypes:=b }){a:Addr}{n c:Nat}(d:g x=.e (.one (.v (.slice (some a) n c))))(f:c≠0):aM P o g σ (.e (.one (.v (.pointer (some a))))) σ :=
 .exact d (λk w j=>by
  obtain⟨m,rfl⟩:=Nat.exists_eq_succ_of_ne_zero f;have e:Builtin.unsafeSliceData_ b o.type #[.slice (some a) n (m+1)]=pure (.pointer (some a)):=rfl
  constructor <;> simp[execOp,h,resolve,invoke,builtin,j,e]) (λ_ _=>Rd.val rfl)
theorem aM.NV{t E:TypeId}{x y:Operand}(h:o.op=.slice t x none (some y) none)(r:P.underlying t=some (.slice E)){H:TypeInfo}(hi:P.info? E=some H){a:Addr}{n c k:Nat}(C:g x=.e (.one (.v (.slice (some a) n c))))(F:g y=.e (.one (.c (.int .i64 k))))(G:k<=n)(z:n<=c)(B:c≠0)(I:a.add 0=a):aM P o g σ (.e (.one (.v (.slice (some a) k c)))) σ:=by
 refine .quiet λs A hh hr=>?_
 have d:=hr x;rw[C] at d;have d:=Rd.fD d;have b:A y=.int .i64 k:=by
  have h1:=hr y;rw[F] at h1;have h1:=eX h1;generalize A y=v at h1;cases h1;rfl
 have hl:((none:Option Value)=none/\(none:Option Int)=none)∨∃ k j,(none:Option Value)=some (.int k j)/\(none:Option Int)=some j:=.inl ⟨rfl,rfl⟩;have hh:(some (Value.int .i64 k)=none/\(some (k:Int))=none)∨∃ k' j,some (Value.int .i64 k)=some (.int k' j)/\(some (k:Int))=some j:=.inr ⟨_,_,rfl,rfl⟩;have u:aa (jc n none (some (k:Int))):=by simp[aa,jc,G]
 obtain⟨m,_,_⟩:=my (P:=P) (isS:=true) z hl hh u s.w;have f:=oi (P:=P) (isS:=true) z hl hh u s.w;simp only[bT,aF] at m;refine⟨.slice (some a) k c,?_,Rd.val rfl,?_⟩
 ·simp[execOp,h,d,b,Instr.sliceAt,run_underlying r,Instr.slice,m,sizeOf,typeInfo,hi,B,I]
 ·simp[execOp,h,d,b,Instr.sliceAt,run_underlying r,Instr.slice,m,f,sizeOf,typeInfo,hi,B]
theorem aM.copyV{t E k:TypeId}{x y:Operand}(h:o.op=.call { callee:=.builtin .copy,args:=#[x,y],argTypes:=#[t,k] })(m:P.underlying t=some (.slice E)){n:TypeInfo}(hi:P.info? E=some n){a:Addr}{c:Nat}(f:g x=.e (.one (.v (.slice (some a) 0 c))))(j:g y=.e (.one (.v (.slice none 0 0)))):aM P o g σ (.e (.one (.c (.int .i64 0)))) σ:=by
 refine .quiet λs r hh hr=>?_
 have b:=hr x;rw[f] at b;have b:=Rd.fD b;have d:=hr y;rw[j] at d;have d:=Rd.fD d;refine⟨.int .i64 0,?_,Rd.int (by simp[aJ]),?_⟩ <;>
 simp[execOp,h,resolve,invoke,builtin,Builtin.copy_,b,d,run_underlying m,sizeOf,typeInfo,hi,Builtin.lenOf,Builtin.firstCells,storeCells,goInt]
theorem aM.NW{k j:TypeId}{x y:Operand}(r:o.op=.call { callee:=.builtin .unsafeString,args:=#[x,y],argTypes:=#[k,j] })(n:g x=.e (.one (.v (.pointer none))))(m:g y=.e (.one (.c (.int .i64 ((0:Nat):Int))))):aM P o g σ (.e (.one (.c (.str [])))) σ:=by
 refine .nA λs d hh hr=>?_
 have f:=hr x;rw[n] at f;have f:=Rd.fD f;have b:d y=.int .i64 0:=by
  have h1:=hr y;rw[m] at h1;have h1:=eX h1;generalize d y=v at h1;cases h1;rfl
 have a:execOp d o=(do pure (.value (<-Builtin.unsafeString_ #[k,j] o.type #[d x,d y]))):=by simp[execOp,r,resolve,invoke,builtin]
 have h:=Lib.run_unsafeString_none (P:=P) s.w k j o.type none;refine⟨.string .empty,?_,Rd.str rfl (by simp),?_⟩
 ·rw[a,f,b];simp only[bm,cY,h];rfl
 ·rw[a,f,b];refine dW ?_
  change eK s (Sem.events P (asInt (.int .i64 0) >>= _) _ _)
  simp[asInt,asIntOf,IntKind.max];exact .nil
theorem aM.VO(m:σ[l]?=some (.cx (BB T E i v1 bf xs p))){d dst:TypeId}{x:Operand}(h:o.op=.convert d dst x)(n:P.underlying d=some (.pointer T))(t:P.underlying dst=some .unsafePointer){j:TypeInfo}(hj:P.info? T=some j)(k:j.size≠0)(v:g x=.e (.one (.ptr l 0))):aM P o g σ (.e (.one (.ptr l 0))) σ:=by
 refine .quiet λs y hh hr=>?_
 obtain⟨L,b,ch,r⟩:=BB.row (P:=P) hh m;have c:=hr x;rw[v] at c;have u:=r.ptr c;have f:s.w.shape? b=some (T,2):=by simp[World.shape?,r.heap _ _ r.ch]
 have a:=Lib.run_to_unsafe (P:=P) s.w ⟨b,0,none⟩ n t hj k f (by simp)
 refine⟨y x,by simp[execOp,h,u,a],c,?_⟩
 have:(convert d dst (.pointer (some ⟨b,0,none⟩))).events P s.w #[]=#[]:=by
  simp[convert,run_underlying n,run_underlying t,Conv.unsafePointer,Conv.seenAt,viewAt,cellsIn,f,sizeOf,typeInfo,hj,k]
 simp[execOp,h,u,a,this]
theorem aM.NX(m:σ[l]?=some (.cx (BB T E i v1 bf xs p))){d dst:TypeId}{x:Operand}(h:o.op=.convert d dst x)(t:P.underlying d=some .unsafePointer)(u:P.underlying dst=some (.pointer T)){j:TypeInfo}(hj:P.info? T=some j)(n:j.size≠0)(a:liesAt P P.depth T (2 / P.cellsOf T) 0 T 1=true)(y:g x=.e (.one (.ptr l 0))):aM P o g σ (.e (.one (.ptr l 0))) σ:=by
 refine .quiet λs z hh hr=>?_
 obtain⟨L,b,ch,r⟩:=BB.row (P:=P) hh m;have f:=hr x;rw[y] at f;have v:=r.ptr f;have k:s.w.shape? b=some (T,2):=by simp[World.shape?,r.heap _ _ r.ch]
 have c:=Lib.run_from_unsafe (P:=P) s.w ⟨b,0,none⟩ t u hj k a;refine⟨z x,by simp[execOp,h,v,c],f,?_⟩
 have:(convert d dst (.pointer (some ⟨b,0,none⟩))).events P s.w #[]=#[]:=by
  simp[convert,run_underlying t,run_underlying u,Conv.unsafePointer,Conv.seenAt,viewAt,variablesAt,k,sizeOf,typeInfo,hj,n,a]
 simp[execOp,h,v,c,this]
theorem aM.NY{f:FuncId}{fn:Func}(z:P.funcs[f]?=some fn)(j:(fn.name== "runtime.NumGoroutine")=false)(F:fn.body.isNone=true)(C:Extern.findNext fn=none)(A:Extern.find fn=some Extern.AbiNoEscape.same)
  {n x:Operand} {u:Array TypeId} (B:o.op=.call { callee:=.value n,args:=#[x],argTypes:=u }) (y:g n=.e (.one (.c (.fn (.func f) [] [])))) {d:D} (G:g x=d):aM P o g σ d σ:=by
 refine .nA λs m hh hr=>?_
 have r:m n=.func (.func f) #[] #[]:=by
  have h1:=hr n;rw[y] at h1;have h1:=eX h1;generalize m n=v at h1;cases h1 with
  |fn fs cs a b I J K c2 d1 d2 =>
   have:fs=[]:=dq a;subst this;have:cs=[]:=dq b;subst this;rfl
 have k:(callFunc f #[m x]).run P s.w=.ok (.value (m x)) s.w:=by
  rw[run_callFunc_extern z j F C A];rfl
 have t:=kD (P:=P) z j F C A #[m x] (λ_ _=>rfl) s.w #[]
 refine⟨m x,?_,by have:=hr x;rwa [G] at this,λH h=>?_⟩
 ·simp[execOp,B,resolve,Deferred.ofValue,invoke,r,k]
 ·simp[execOp,B,resolve,Deferred.ofValue,invoke,r,t] at h;subst h;exact .inr ⟨_,rfl⟩
end
end Go.AM
namespace Go.AM.R1
open Go.Proofs
variable {X:Cx Tryz.prog}
abbrev bB(a:Bool)(v1:Value)(bf:Option (Nat×Nat))(xs:Bs)(b:Nat):aj:=.cx (BB 181 5 a v1 bf xs b)
theorem yR(v1:Value)(c:cg v1=true)(bf:Option (Nat×Nat))(xs:Bs)(a:Nat):Ev X 158 [.e (.one (.ptr 0 0))] [bB false v1 bf xs a] (.dH []) [bB true v1 bf xs a]:=by
 refine Ev.body Tryz.func158 rfl rfl rfl λd=>?_
 refine aA rfl ab ?_;refine AK.law (aM.Lg tok rfl rfl rfl rfl rfl) rfl rfl ?_;refine AK.law (Mg rfl Tryz.underlying179 rfl rfl rfl) rfl rfl ?_;refine aA rfl ab ?_;refine AK.law (aM.VO rfl rfl Tryz.underlying179 Tryz.underlying164 (aG Tryz.type181) (by simp[Tryz.t181]) rfl) rfl rfl ?_
 refine AK.law (aM.NY Tryz.func171 (by kernel_rfl) (by kernel_rfl) (by kernel_rfl) (by kernel_rfl) rfl rfl rfl) rfl rfl ?_
 refine AK.law (aM.NX rfl rfl Tryz.underlying164 Tryz.underlying179 (aG Tryz.type181) (by simp[Tryz.t181]) (by kernel_rfl) rfl) rfl rfl ?_
 refine aA rfl ab ?_;refine AK.law (aM.Ih tok rfl rfl rfl rfl rfl rfl c) rfl rfl ?_;refine aA rfl ab ?_;exact cv.rY [0] rfl ab rfl rfl rfl (λj b=>by
  have:j=0:=by simpa using b
  subst this;rfl)
theorem yS(v1:Value)(bf:Option (Nat×Nat))(xs:Bs)(a:Nat):Ev X 158 [.e (.one (.ptr 0 0))] [bB true v1 bf xs a] (.dH []) [bB true v1 bf xs a]:=by
 refine Ev.body Tryz.func158 rfl rfl rfl λc=>?_
 refine aA rfl ab ?_;refine AK.law (aM.Eu tok rfl rfl rfl rfl rfl) rfl rfl ?_;refine AK.law (Mh rfl Tryz.underlying179 rfl rfl rfl) rfl rfl ?_;refine aA rfl ab ?_;refine AK.law (aM.Eu tok rfl rfl rfl rfl rfl) rfl rfl ?_;refine aA rfl ab ?_;refine AK.law (Jb rfl Tryz.underlying179 (n:=2) (by decide) (λw=>by simp[sizeOf,typeInfo,aG Tryz.type181,Tryz.t181]) (λw es=>by simp[sizeOf,typeInfo,aG Tryz.type181]) rfl rfl rfl) rfl rfl ?_
 refine aA rfl ab ?_;exact cv.rY [0] rfl ab rfl rfl rfl (λj b=>by
  have:j=0:=by simpa using b
  subst this;rfl)
end Go.AM.R1
namespace Go.AM
open Go.Conc (G)
section
variable {P:Program}{X:Cx P}{N:Nat}{all:List Oper}{φ:Fr}{σ:List aj}{o:Oper}
theorem tI.kJ{ι:Type}{x:ι->D}{σ':ι->List aj}(m:o.guard=none)(h:∀ s e,ag σ s->(∀ y,cd σ s (e y) (bn φ y))->∃ (j:ι)(s':St)(v:Value),(execOp e o).run P s.w=.ok (.value v) s'.w/\cd (σ' j) s' v (x j)/\ag (σ' j) s'/\Step σ s (σ' j) s'/\eK s ((execOp e o).events P s.w #[])):tI X N all o φ σ x σ':=by
 intro s a f hh b k cs S i rest hb hi hK;refine tJ hb hi (cw m) λn d=>?_
 have c:=hh.rely d;obtain⟨j,s',v,h1,h2,g,l,p⟩:=h n a.eval c (cV (f.rely d hh));exact⟨_,s',v,h1,.inl rfl,⟨⟨σ,σ' j,c,g,l⟩,p⟩,hK j v s' h2 g (d.stepW.trans (l.lD c))⟩
theorem tI.rW{x:D}{σ':List aj}(h:OA X N all o φ σ x σ'):tI X N all o φ σ (λ_:Unit=>x) (λ_=>σ') :=
 λs a f hh b k cs S i rest hb hi hK=>h s a f hh b k cs S i rest hb hi λv s'=>hK () v s'
theorem OA.law{x:D}{σ':List aj}(h:aM P o (bn φ) σ x σ')(a:o.guard=none):OA X N all o φ σ x σ':=.kJ (λ_ _ _ _=>cw a) h
theorem OA.eval{T:List (Nat×TI)}{CT:List (Nat×c7)}{ds:List (Nat×Bool)}{x:D}{obs:List Prop}(a:cz P T)(hC:aY X CT)(h:BF T CT ds all φ σ o=some (x,none,obs))(b:aa obs):OA X N all o φ σ x σ:=gp a hC h b
theorem OA.bS{T:List (Nat×TI)}{CT:List (Nat×c7)}{x:D}(a:cz P T)(hC:aY X CT)(h:BF T CT [] all φ σ o=some (x,none,[])):OA X N all o φ σ x σ:=gp a hC h ab
def pa(X:Cx P)(N:Nat)(all:List Oper)(φ:Fr)(σ:List aj)(x:Nat->D)(pre:Nat->Bool):List Oper->Nat->Prop
 |[],_=>True
 |o::r,i=>(match pre i with|true=>OA X N all o (iO all φ x i) σ (x i) σ|false=>True)/\pa X N all φ σ x pre r (i+1)
def pb(X:Cx P)(N:Nat)(all:List Oper)(φ:Fr)(σ:List aj)(x:Nat->D)(m:Nat):List Oper->Nat->Prop
 |[],_=>True
 |o::r,i=>(match Nat.beq i m with|true=>True|false=>OA X N all o (iO all φ x i) σ (x i) σ)/\pb X N all φ σ x m r (i+1)
theorem pa.get{x:Nat->D}{pre:Nat->Bool}:∀ {l:List Oper}{k:Nat},pa X N all φ σ x pre l k->∀ (i:Nat)(o:Oper),l[i]?=some o->pre (k+i)=true->OA X N all o (iO all φ x (k+i)) σ (x (k+i)) σ
 |[],_,_,i,o,h=>by simp at h
 |p::r,k,h,0,o,hi=>λa=>by
  simp at hi;subst hi;have h1:=h.1;simp only[gm] at a;rw[a] at h1;exact h1
 |p::r,k,h,i+1,o,hi=>λa=>by
  have:=pa.get h.2 i o (by simpa using hi) (by rw[show k+1+i=k+(i+1) by omega];exact a)
  rwa [show k+1+i=k+(i+1) by omega] at this
theorem pb.get{x:Nat->D}{m:Nat}:∀ {l:List Oper}{k:Nat},pb X N all φ σ x m l k->∀ (i:Nat)(o:Oper),l[i]?=some o->k+i≠m->OA X N all o (iO all φ x (k+i)) σ (x (k+i)) σ
 |[],_,_,i,o,h=>by simp at h
 |p::r,k,h,0,o,hi=>λb=>by
  simp at hi;subst hi;have h1:=h.1;simp only[gm] at b;have a:Nat.beq k m=false:=by
   cases a:Nat.beq k m with
   |true=>exact absurd (aO a) b
   |false=>rfl
  rw[a] at h1;exact h1
 |p::r,k,h,i+1,o,hi=>λb=>by
  have:=pb.get h.2 i o (by simpa using hi) (by omega)
  rwa [show k+1+i=k+(i+1) by omega] at this
def pd{ι:Type}(pre:Nat->Bool)(x:Nat->D)(y:ι->Nat->D)(j:ι)(i:Nat):D:=match pre i with|true=>x i|false=>y j i
theorem AK.qw{ι:Type}(g:P.follows Departure.mixedOrders=true)(m:Nat)(pre:Nat->Bool)(x:Nat->D)(y:ι->Nat->D)(σ':ι->List aj){ops:Array Oper}{id:Nat}{K:List It}{Qf:Post}
  (b:jT ops.toList=true) (a:nH ops.toList 0=true) (c:kM N ops.toList=true) (h:Nat.blt m ops.toList.length=true) (d:pre m=false) (e:rX pre m ops.toList 0=true)
  (one:pa X N ops.toList φ σ x pre ops.toList 0) (two:∀ j,pb X N ops.toList φ (σ' j) (pd pre x y j) m ops.toList 0)
  (qw:tI X N ops.toList (ops.toList.getD m dN) (iO ops.toList φ x m) σ (λj=>pd pre x y j m) σ') (k:∀ j,AK X N Qf K .normal (po ops.toList φ (pd pre x y j)) (σ' j)):AK X N Qf (.code (.region id ops true)::K) .normal φ σ:=by
 have:=AW.qw (X:=X) (N:=N) (φ:=φ) (σ:=σ) g (all:=ops.toList) m pre x (pd pre x y) σ' b a c h d e (λj i f=>by simp only[pd,f])
  (λi o hi f=>by have:=one.get i o hi (by rwa [aw]);rwa [aw] at this) (λj i o hi qA=>by have:=(two j).get i o hi (by rwa [aw]);rwa [aw] at this)
  (λo l=>by rw[show ops.toList.getD m dN=o by simp[List.getD_eq_getElem?_getD,l]] at qw;exact qw) (Q:=AK X N Qf K) k id
 rw[gi] at this;exact this
end
end Go.AM
namespace Go.AM.R1
open Go.Proofs
variable {X:Cx Tryz.prog}
abbrev bb(a:Bool)(bf:Option (Nat×Nat))(xs:Bs)(b:Nat):aj:=bB a (nz bf xs.length) bf xs b
theorem nQ:∀ j,j<1->([0]:List Nat)[j]?=some j:=λj a=>by
 have:j=0:=by omega
 subst this;rfl
theorem xx(a:Bool)(bf:Option (Nat×Nat))(xs:Bs)(b:Nat)(d:xs.length<=9223372036854775807)(c:bf=none->xs=[]):Ev X 179 [.e (.one (.ptr 0 0))] [bb a bf xs b] (dI xs.length) [bb a bf xs b]:=by
 refine Ev.body Tryz.func179 rfl rfl rfl λf=>?_
 refine aA rfl ab ?_;refine AK.law (aM.eg tok rfl rfl rfl rfl rfl) rfl rfl ?_;cases bf with
 |none =>
  have:=c rfl;subst this;refine AK.law (aM.rP rfl rfl Tryz.underlying22 rfl (by simp)) rfl rfl ?_
  refine aA rfl ab (AK.cZ [0] rfl ?_ rfl rfl rfl nQ);simp[aa]
 |some p =>
  refine AK.law (aM.rP rfl rfl Tryz.underlying22 rfl d) rfl rfl ?_;refine aA rfl ab (AK.cZ [0] rfl ?_ rfl rfl rfl nQ);simp[aa]
theorem As(g cap:Nat)(xs s:Bs)(a:Nat)(d:s.length<=9223372036854775807)(b:xs.length+s.length<=cap):Ev X 130 [.e (.one (.ptr 0 0)),dS s] [bb true (some (g,cap)) xs a] (.dH [.one (.c (.int .i64 s.length)),.one (.c .mz)]) [bb true (some (g,cap)) (xs++s) a]:=by
 refine Ev.body Tryz.func130 rfl rfl rfl λf=>?_
 refine aA rfl ab ?_;refine AK.aC (yS (nz (some (g,cap)) xs.length) (some (g,cap)) xs a) [0] rfl rfl rfl rfl rfl rfl rfl rfl rfl rfl rfl ?_;refine aA rfl ab ?_;refine AK.law (aM.eg tok rfl rfl rfl rfl rfl) rfl rfl ?_;refine aA rfl ab ?_;refine AK.law (aM.Ii (l:=0) (g:=g) (cap:=cap) (xs:=xs) rfl Tryz.underlying22 Tryz.underlying9 (aG Tryz.type5) (by simp[Tryz.t5]) rfl rfl rfl rfl b) rfl rfl ?_
 refine aA rfl ab ?_;refine AK.law (aM.wR tok rfl rfl rfl rfl rfl rfl rfl) rfl rfl ?_;have e:bb true (some (g,cap)) (xs++s) a=.cx (BB 181 5 true (nz (some (g,cap)) (xs.length+s.length)) (some (g,cap)) (xs++s) a):=by simp[bb,bB]
 rw[e];refine aA rfl ab (AK.cZ [0] rfl ?_ rfl rfl rfl nQ);simp[aa,aa.cat]
theorem Mi:Ev X 130 [.e (.one (.ptr 0 0)),dS []] [bb true none [] 0] (.dH [.one (.c (.int .i64 0)),.one (.c .mz)]) [bb true none [] 0]:=by
 refine Ev.body Tryz.func130 rfl rfl rfl λa=>?_
 refine aA rfl ab ?_;refine AK.aC (yS (nz none 0) none [] 0) [0] rfl rfl rfl rfl rfl rfl rfl rfl rfl rfl rfl ?_;refine aA rfl ab ?_;refine AK.law (aM.eg tok rfl rfl rfl rfl rfl) rfl rfl ?_;refine aA rfl ab ?_;refine AK.law (aM.Ey rfl Tryz.underlying22 Tryz.underlying9 (aG Tryz.type5) rfl rfl) rfl rfl ?_;refine aA rfl ab ?_;refine AK.law (aM.wR tok rfl rfl rfl rfl rfl rfl rfl) rfl rfl ?_;refine aA rfl ab (AK.cZ [0] rfl ?_ rfl rfl rfl nQ);simp[aa,aa.cat]
abbrev dp:D:=.e (.one (.ptr 0 0))
abbrev H4:D:=.e (.one (.ptr 0 1))
theorem Au(g cap:Nat)(xs:Bs)(c:Nat)(a:xs.length<=9223372036854775807)(b:cap≠0):Ev X 131 [.e (.one (.ptr 0 0))] [bb true (some (g,cap)) xs c] (dS xs) [bb true (some (g,cap)) xs xs.length]:=by
 refine Ev.body Tryz.func131 rfl rfl rfl λd=>?_
 refine aq [(1000001,true)] 100 rfl ab ?_;refine AK.qw nc 10 (λi=>Nat.ble i 9) (λi=>[dp,dp,H4,.e (.one (.v (.slice (some ⟨g,0,none⟩) xs.length cap))),.e (.one (.v (.pointer (some ⟨g,0,none⟩)))),dp,dp,H4,.e (.one (.v (.slice (some ⟨g,0,none⟩) xs.length cap))),dI xs.length].getD i .any) (λ(_:Unit) _=>dS xs)
  (λ_=>[bb true (some (g,cap)) xs xs.length]) rfl rfl rfl rfl rfl rfl ?_ ?_ ?_ ?_
 ·refine⟨.bS tok aY.nil rfl,.bS tok aY.nil rfl,.bS tok aY.nil rfl,?_,?_,.bS tok aY.nil rfl,.bS tok aY.nil rfl,.bS tok aY.nil rfl,?_,?_,ab,ab,ab⟩
  ·exact .law (aM.eg (l:=0) tok rfl rfl rfl rfl rfl) rfl
  ·exact .law (aM.NU rfl rfl b) rfl
  ·exact .law (aM.eg (l:=0) tok rfl rfl rfl rfl rfl) rfl
  ·exact .law (aM.rP rfl rfl Tryz.underlying22 rfl a) rfl
 ·intro _;refine⟨.bS tok aY.nil rfl,.bS tok aY.nil rfl,.bS tok aY.nil rfl,?_,?_,.bS tok aY.nil rfl,.bS tok aY.nil rfl,.bS tok aY.nil rfl,?_,?_,ab,.bS tok aY.nil rfl,ab⟩
  ·exact .law (aM.eg (l:=0) tok rfl rfl rfl rfl rfl) rfl
  ·exact .law (aM.NU rfl rfl b) rfl
  ·exact .law (aM.eg (l:=0) tok rfl rfl rfl rfl rfl) rfl
  ·exact .law (aM.rP rfl rfl Tryz.underlying22 rfl a) rfl
 ·exact .rW (.law (NS (l:=0) rfl Tryz.underlying212 (by kernel_rfl) rfl rfl rfl) rfl)
 ·intro _;refine aA rfl ab (AK.cZ [0] rfl ?_ rfl rfl rfl nQ);simp[aa]
theorem OZ{o:Oper}{a:Operand->D}{σ:List aj}{t ty:TypeId}{x y:Operand}(h:o.op=.binOp .add t x y ty){b:Int}(e:a x=dI 0)(f:a y=dI b)(d:aJ .i64 b):aM Tryz.prog o a σ (dI b) σ:=by
 have:=aM.binOp (P:=Tryz.prog) (σ:=σ) h e f (c:=.int .i64 (0+b)) (obs:=[aJ .i64 (0+b)]) rfl (by rw[Int.zero_add];exact d)
 rwa [Int.zero_add] at this
theorem cf.KI{ι:Type}{f:FuncId}{fn:Func}{c:Code}{args:List D}{σ:List aj}{σ':ι->List aj}{res:ι->D}(d:Tryz.prog.funcs[f]?=some fn)(b:(fn.name== "runtime.NumGoroutine")=false)(g:fn.body=some c)(a:Nat.ble args.length fn.ntmps=true)
  (h:AK X fn.ntmps (λe φ σ1=>∃ j,cv fn σ.length (res j) (σ' j) e φ σ1) [.code c] .normal (iy 0 args) σ):cf X f args σ res σ' :=
 cf.intro d b g (cA a) (AK.of_code h)
theorem Jc:Ev X 131 [.e (.one (.ptr 0 0))] [bb true none [] 0] (dS []) [bb true none [] 0]:=by
 refine Ev.body Tryz.func131 rfl rfl rfl λa=>?_
 refine aq [(1000001,true)] 100 rfl ab ?_;refine AK.qw nc 10 (λi=>Nat.ble i 9) (λi=>[dp,dp,H4,.e (.one (.v (.slice none 0 0))),.e (.one (.v (.pointer none))),dp,dp,H4,.e (.one (.v (.slice none 0 0))),dI (0:Nat)].getD i .any) (λ(_:Unit) _=>dS [])
  (λ_=>[bb true none [] 0]) rfl rfl rfl rfl rfl rfl ?_ ?_ ?_ ?_
 ·refine⟨.bS tok aY.nil rfl,.bS tok aY.nil rfl,.bS tok aY.nil rfl,?_,?_,.bS tok aY.nil rfl,.bS tok aY.nil rfl,.bS tok aY.nil rfl,?_,?_,ab,ab,ab⟩
  ·exact .law (aM.eg (l:=0) tok rfl rfl rfl rfl rfl) rfl
  ·exact .law (aM.NT rfl rfl) rfl
  ·exact .law (aM.eg (l:=0) tok rfl rfl rfl rfl rfl) rfl
  ·exact .law (aM.rP rfl rfl Tryz.underlying22 rfl (by decide)) rfl
 ·intro _;refine⟨.bS tok aY.nil rfl,.bS tok aY.nil rfl,.bS tok aY.nil rfl,?_,?_,.bS tok aY.nil rfl,.bS tok aY.nil rfl,.bS tok aY.nil rfl,?_,?_,ab,.bS tok aY.nil rfl,ab⟩
  ·exact .law (aM.eg (l:=0) tok rfl rfl rfl rfl rfl) rfl
  ·exact .law (aM.NT rfl rfl) rfl
  ·exact .law (aM.eg (l:=0) tok rfl rfl rfl rfl rfl) rfl
  ·exact .law (aM.rP rfl rfl Tryz.underlying22 rfl (by decide)) rfl
 ·exact .rW (.law (aM.NW rfl rfl rfl) rfl)
 ·intro _;refine aA rfl ab (AK.cZ [0] rfl ?_ rfl rfl rfl nQ);simp[aa]
theorem Jd(n:Nat)(b:0<n)(c:n<=140737488355328):cf (ι:={ p:Nat×Nat // n<=p.2 }) X 159 [.e (.one (.ptr 0 0)),dI n] [bb true none [] 0] (λ_=>.dH []) (λj=>[bb true (some j.1) [] 0]):=by
 refine cf.KI Tryz.func159 rfl rfl rfl ?_;refine aq [(1000000,true)] 100 rfl ab ?_;have a:aJ .i64 (n:Int):=by simp only[aJ];omega
 have v0:D:=.e (.one (.v (.slice none 0 0)));refine AK.qw (ι:={ p:Nat×Nat // n<=p.2 }) nc 8 (λi=>Nat.ble i 7||(Nat.ble 9 i&&Nat.ble i 13)) (λi=>[dp,dp,H4,.e (.one (.v (.slice none 0 0))),dI (0:Nat),dI 0,dI n,dI n,.any,dp,dp,H4,.e (.one (.v (.slice none 0 0))),dI (0:Nat)].getD i .any)
  (λj i=>[.e (.one (.v (nz (some j.1) n))),.any,.any,.any,.any,.any,.e (.one (.v (.slice (some ⟨j.1.1,0,none⟩) 0 j.1.2))),.e (.one (.v (.slice (some ⟨j.1.1,0,none⟩) 0 j.1.2)))].getD (i-8) .any)
  (λj=>[bB true (.slice none 0 0) (some j.1) [] 0]) rfl rfl rfl rfl rfl rfl ?_ ?_ ?_ ?_
 ·refine⟨.bS tok aY.nil rfl,.bS tok aY.nil rfl,.bS tok aY.nil rfl,?_,?_,?_,.bS tok aY.nil rfl,?_,ab,.bS tok aY.nil rfl,.bS tok aY.nil rfl,.bS tok aY.nil rfl,?_,?_,ab,ab,ab⟩
  ·exact .law (aM.eg (l:=0) tok rfl rfl rfl rfl rfl) rfl
  ·exact .law (aM.Ij rfl rfl Tryz.underlying22 rfl (by decide)) rfl
  ·exact .law (F4 0 rfl rfl rfl (by simp[aJ]) (λw=>rfl) (λw=>rfl)) rfl
  ·exact .law (OZ rfl rfl rfl a) rfl
  ·exact .law (aM.eg (l:=0) tok rfl rfl rfl rfl rfl) rfl
  ·exact .law (aM.rP rfl rfl Tryz.underlying22 rfl (by decide)) rfl
 ·intro j;have d:j.1.2≠0:=by have:=j.2;omega
  refine⟨.bS tok aY.nil rfl,.bS tok aY.nil rfl,.bS tok aY.nil rfl,?_,?_,?_,.bS tok aY.nil rfl,?_,ab,.bS tok aY.nil rfl,.bS tok aY.nil rfl,.bS tok aY.nil rfl,?_,?_,?_,.bS tok aY.nil rfl,ab⟩
  ·exact .law (aM.eg (l:=0) tok rfl rfl rfl rfl rfl) rfl
  ·exact .law (aM.Ij rfl rfl Tryz.underlying22 rfl (by decide)) rfl
  ·exact .law (F4 0 rfl rfl rfl (by simp[aJ]) (λw=>rfl) (λw=>rfl)) rfl
  ·exact .law (OZ rfl rfl rfl a) rfl
  ·exact .law (aM.eg (l:=0) tok rfl rfl rfl rfl rfl) rfl
  ·exact .law (aM.rP rfl rfl Tryz.underlying22 rfl (by decide)) rfl
  ·exact .law (aM.NV (k:=0) rfl Tryz.underlying22 (aG Tryz.type5) rfl rfl (fH _) j.2 d (cO _ _ _)) rfl
 ·exact .kJ rfl (NR (l:=0) (ps:=#[3]) Tryz.underlying22 Tryz.func172 (by kernel_rfl) (by kernel_rfl) (by kernel_rfl) (by kernel_rfl) rfl rfl rfl b c rfl)
 ·intro j;refine aA rfl ab ?_;refine AK.law (aM.eg (l:=0) tok rfl rfl rfl rfl rfl) rfl rfl ?_;refine AK.law (aM.copyV rfl Tryz.underlying22 (aG Tryz.type5) rfl rfl) rfl rfl ?_;refine aA rfl ab ?_;refine AK.law (aM.wR (l:=0) tok rfl rfl rfl rfl rfl rfl rfl) rfl rfl ?_;refine aA rfl ab ?_;exact⟨j,cv.rY [0] rfl ab rfl rfl rfl nQ⟩
theorem B8(n:Nat)(a:0<n)(b:n<=140737488355328):cf (ι:={ p:Nat×Nat // n<=p.2 }) X 129 [.e (.one (.ptr 0 0)),dI n] [bb false none [] 0] (λ_=>.dH []) (λj=>[bb true (some j.1) [] 0]):=by
 refine cf.KI Tryz.func129 rfl rfl rfl ?_;refine aA rfl ab ?_;refine AK.aC (yR (nz none 0) rfl none [] 0) [0] rfl rfl rfl rfl rfl rfl rfl rfl rfl rfl rfl ?_;refine aq [(7,false),(1000003,true)] 100 rfl ?_ ?_
 ·simp[aa]
 refine AK.qw nc 4 (λi=>Nat.ble i 3||(Nat.ble 5 i&&Nat.ble i 9)||Nat.beq i 11) (λi=>[dp,dp,H4,.e (.one (.v (.slice none 0 0))),.any,dp,dp,H4,.e (.one (.v (.slice none 0 0))),dI (0:Nat),.any,dI n].getD i .any)
  (λ(_:Unit) i=>[dI (0:Nat),.any,.any,.any,.any,.any,dI (0-0),.any,dB true].getD (i-4) .any)
  (λ_=>[bb true none [] 0]) rfl rfl rfl rfl rfl rfl ?_ ?_ ?_ ?_
 ·refine⟨.bS tok aY.nil rfl,.bS tok aY.nil rfl,.bS tok aY.nil rfl,?_,ab,.bS tok aY.nil rfl,.bS tok aY.nil rfl,.bS tok aY.nil rfl,?_,?_,ab,.bS tok aY.nil rfl,ab,ab⟩
  ·exact .law (aM.eg (l:=0) tok rfl rfl rfl rfl rfl) rfl
  ·exact .law (aM.eg (l:=0) tok rfl rfl rfl rfl rfl) rfl
  ·exact .law (aM.rP rfl rfl Tryz.underlying22 rfl (by decide)) rfl
 ·intro _;refine⟨.bS tok aY.nil rfl,.bS tok aY.nil rfl,.bS tok aY.nil rfl,?_,ab,.bS tok aY.nil rfl,.bS tok aY.nil rfl,.bS tok aY.nil rfl,?_,?_,?_,.bS tok aY.nil rfl,?_,ab⟩
  ·exact .law (aM.eg (l:=0) tok rfl rfl rfl rfl rfl) rfl
  ·exact .law (aM.eg (l:=0) tok rfl rfl rfl rfl rfl) rfl
  ·exact .law (aM.rP rfl rfl Tryz.underlying22 rfl (by decide)) rfl
  ·exact .eval (ds:=[]) tok aY.nil (obs:=[aJ .i64 (((0:Nat):Int)-((0:Nat):Int))]) rfl (by simp[aa,aJ])
  ·exact .eval (ds:=[(21,true)]) tok aY.nil (obs:=[decide ((0:Int)-0<(n:Int))=true]) rfl (by simp[aa];omega)
 ·exact .rW (.law (aM.Ij rfl rfl Tryz.underlying22 rfl (by decide)) rfl)
 ·intro _;refine aA rfl ab ?_;refine AK.bZ (Jd n a b) [0] rfl rfl rfl rfl rfl rfl rfl (λ_=>rfl) rfl (λ_=>rfl) rfl λj=>?_
  refine aA rfl ab ?_;exact⟨j,cv.rY [0] rfl ab rfl rfl rfl nQ⟩
theorem F5:Ev X 129 [.e (.one (.ptr 0 0)),dI (0:Nat)] [bb false none [] 0] (.dH []) [bb true none [] 0]:=by
 refine Ev.body Tryz.func129 rfl rfl rfl λa=>?_
 refine aA rfl ab ?_;refine AK.aC (yR (nz none 0) rfl none [] 0) [0] rfl rfl rfl rfl rfl rfl rfl rfl rfl rfl rfl ?_;refine aq [(7,false),(1000003,true)] 100 rfl ?_ ?_
 ·simp[aa]
 refine AK.qw nc 4 (λi=>Nat.ble i 3||(Nat.ble 5 i&&Nat.ble i 9)||Nat.beq i 11) (λi=>[dp,dp,H4,.e (.one (.v (.slice none 0 0))),.any,dp,dp,H4,.e (.one (.v (.slice none 0 0))),dI (0:Nat),.any,dI (0:Nat)].getD i .any)
  (λ(_:Unit) i=>[dI (0:Nat),.any,.any,.any,.any,.any,dI (0-0),.any,dB false].getD (i-4) .any)
  (λ_=>[bb true none [] 0]) rfl rfl rfl rfl rfl rfl ?_ ?_ ?_ ?_
 ·refine⟨.bS tok aY.nil rfl,.bS tok aY.nil rfl,.bS tok aY.nil rfl,?_,ab,.bS tok aY.nil rfl,.bS tok aY.nil rfl,.bS tok aY.nil rfl,?_,?_,ab,.bS tok aY.nil rfl,ab,ab⟩
  ·exact .law (aM.eg (l:=0) tok rfl rfl rfl rfl rfl) rfl
  ·exact .law (aM.eg (l:=0) tok rfl rfl rfl rfl rfl) rfl
  ·exact .law (aM.rP rfl rfl Tryz.underlying22 rfl (by decide)) rfl
 ·intro _;refine⟨.bS tok aY.nil rfl,.bS tok aY.nil rfl,.bS tok aY.nil rfl,?_,ab,.bS tok aY.nil rfl,.bS tok aY.nil rfl,.bS tok aY.nil rfl,?_,?_,?_,.bS tok aY.nil rfl,?_,ab⟩
  ·exact .law (aM.eg (l:=0) tok rfl rfl rfl rfl rfl) rfl
  ·exact .law (aM.eg (l:=0) tok rfl rfl rfl rfl rfl) rfl
  ·exact .law (aM.rP rfl rfl Tryz.underlying22 rfl (by decide)) rfl
  ·exact .eval (ds:=[]) tok aY.nil (obs:=[aJ .i64 (((0:Nat):Int)-((0:Nat):Int))]) rfl (by simp[aa,aJ])
  ·exact .eval (ds:=[(21,false)]) tok aY.nil (obs:=[decide ((0:Int)-0<((0:Nat):Int))=false]) rfl (by simp[aa])
 ·exact .rW (.law (aM.Ij rfl rfl Tryz.underlying22 rfl (by decide)) rfl)
 ·intro _;refine aA rfl ab ?_;exact cv.rY [0] rfl ab rfl rfl rfl nQ
theorem F6{o:Oper}{a:Operand->D}{σ:List aj}(h:o.op=.alloc 181):aM Tryz.prog o a σ (.e (.one (.ptr σ.length 0))) (σ++[bb false none [] 0]) :=
 aM.Lh h (λw=>by simp[zeroValue,typeInfo,aG Tryz.type181,Tryz.t181]) (λw es=>by simp)
theorem F7{o:Oper}{n:Operand->D}{σ:List aj}{x y z:Operand}{p:Array TypeId}{a b c:Int} (m:Int)(h:o.op=.call { callee:=.builtin .min,args:=#[x,y,z],argTypes:=p })(u:n x=dI a)(v:n y=dI b)(r:n z=dI c)(w:min (min a b) c=m)(t:aJ .i64 m):aM Tryz.prog o n σ (dI m) σ:=by
 refine .quiet λs q A d=>?_
 have g:=d x;have l:=d y;have k:=d z;rw[u] at g;rw[v] at l;rw[r] at k
 replace g:=eX g
 replace l:=eX l
 replace k:=eX k
 generalize f:q x=vx at g;generalize i:q y=vy at l;generalize j:q z=vz at k;cases g;cases l;cases k;have e:(if c<(if b<a then b else a) then c else if b<a then b else a)=m:=by
  rw[<-w];split <;> split <;> omega
 exact⟨.int .i64 m,by simp[execOp,h,resolve,invoke,builtin,f,i,j,Builtin.min_,Builtin.min2,e],.int t,by simp[execOp,h,resolve,invoke,builtin,f,i,j,Builtin.min_,Builtin.min2]⟩
theorem F8(n:Nat)(q:2<=n)(p:n<=3):Ev X 168 [dS [46],dI n] [] (dS (List.replicate n 46)) []:=by
 refine Ev.body Tryz.func168 rfl rfl rfl λl=>?_
 have a:aY X [(178,Mj)]:=.cons t178 .nil;refine ah a [(13,false),(15,false),(18,false),(30,false),(33,false),(40,false),(44,false),(45,false),(46,false),(47,false),(48,false),(96,false),(1000035,true)] 200 rfl ?_ ?_
 ·have h:(n:Int)=2∨(n:Int)=3:=by omega
  have e:(gJ [46] 0).toNat=46:=rfl;simp[aa,aJ,e,h];omega
 refine AK.region ?_;refine AK.law (F6 rfl) rfl rfl ?_;refine ah a [] 200 rfl ab ?_;refine AK.bZ (B8 n (by omega) (by omega)) [0] rfl rfl rfl rfl rfl rfl rfl (λ_=>rfl) rfl (λ_=>rfl) rfl λj=>?_
 obtain⟨⟨g,cap⟩,b⟩:=j;have b:n<=cap:=b;refine ah a [] 200 rfl ab ?_;refine AK.aC (As g cap [] [46] 0 (by simp) (by simp;omega)) [0] rfl rfl rfl rfl rfl rfl rfl rfl rfl rfl rfl ?_
 refine ah a [] 200 rfl ab ?_;refine AK.lV (λk=>1<=k/\k<=n) (λk:Nat=>[(0,dS [46]),(7,dI n),(8,dI n),(9,.e (.one (.ptr 0 0)))]) (λk=>[bb true (some (g,cap)) (List.replicate k 46) (k-1)]) (λk=>n-k) 1 rfl ?_ rfl ?_ ⟨by omega,by omega⟩ ?_
 ·simp[aa,aa.cat]
 ·exact aa.cat.2 ⟨rfl,ab⟩
 rintro k ⟨f,i⟩;refine ah a [] 200 rfl ab ?_;refine AK.aC (xx true (some (g,cap)) (List.replicate k 46) (k-1) (by simp;omega) (by simp)) [0] rfl rfl rfl rfl rfl rfl rfl rfl rfl rfl rfl ?_
 by_cases o:k<n
 ·refine ah a [(113,true)] 200 rfl ?_ ?_
  ·simp[aa];omega
  refine AK.aC (xx true (some (g,cap)) (List.replicate k 46) (k-1) (by simp;omega) (by simp)) [0] rfl rfl rfl rfl rfl rfl rfl rfl rfl rfl rfl ?_
  refine ah a [] 200 rfl ?_ ?_
  ·simp[aa,aJ];omega
  refine AK.aC (xx true (some (g,cap)) (List.replicate k 46) (k-1) (by simp;omega) (by simp)) [0] rfl rfl rfl rfl rfl rfl rfl rfl rfl rfl rfl ?_
  refine ah a [] 200 rfl ab ?_;refine AK.law (F7 1 rfl rfl rfl rfl (by simp;omega) (by simp[aJ])) rfl rfl ?_
  refine ah a [] 200 rfl ab ?_;refine AK.aC (Au g cap (List.replicate k 46) (k-1) (by simp;omega) (by omega)) [0] rfl rfl rfl rfl rfl rfl rfl rfl rfl rfl rfl ?_
  have c:qD (List.replicate k (46:UInt8)) none (some 1)=[46]:=by
   obtain⟨m,rfl⟩:∃ m,k=m+1:=⟨k-1,by omega⟩
   simp[qD,List.replicate_succ]
  refine ah a [] 200 rfl ?_ ?_
  ·simp[aa];omega
  rw[c];refine AK.aC (As g cap (List.replicate k 46) [46] (List.replicate k 46).length (by simp) (by simp;omega)) [0] rfl rfl rfl rfl rfl rfl rfl rfl rfl rfl rfl ?_
  have d:List.replicate k (46:UInt8)++[46]=List.replicate (k+1) 46:=by rw[List.replicate_succ']
  rw[d];refine ah a [] 200 rfl ab (AK.gK (k+1) rfl ?_ rfl ?_ ⟨by omega,by omega⟩ (by omega))
  ·simp[aa,aa.cat]
  ·refine aa.cat.2 ⟨?_,ab⟩;simp[aa]
 ·refine ah a [(113,false)] 200 rfl ?_ (AK.leave rfl rfl ?_)
  ·simp[aa];omega
  have e:k=n:=by omega
  subst e;refine ah a [] 200 rfl ab ?_;refine AK.aC (Au g cap (List.replicate k 46) (k-1) (by simp;omega) (by omega)) [0] rfl rfl rfl rfl rfl rfl rfl rfl rfl rfl rfl ?_
  refine ah a [] 200 rfl ab (AK.aK rfl ?_);simp[aa,aa.cat]
theorem Sr:dw X 168 C9:=Ss (F8 2 (by omega) (by omega)) (F8 3 (by omega) (by omega))
theorem O0:dw X 146 ub:=Su Sr
def Room(bf:Option (Nat×Nat))(n:Nat):Prop:=match bf with|none=>n=0|some (_,cap)=>n<=cap/\0<cap
theorem _root_.Go.AM.cf.re{P:Program}{ι b:Type}{X:Cx P}{f:FuncId}{args:List D}{σ:List aj}{res:ι->D}{σ':ι->List aj}{a:b->D}{σ2:b->List aj}(h:cf X f args σ res σ')(g:ι->b)(d:∀ i,a (g i)=res i)(c:∀ i,σ2 (g i)=σ' i):cf X f args σ a σ2 :=
 ⟨h.1,λs vs h1 h2 S cs hS=>h.2 s vs h1 h2 S cs λi fr v s' k1 k2 k3 k4=>hS (g i) fr v s' k1 (by rw[c,d];exact k2) (by rw[c];exact k3) (by rw[c];exact k4)⟩
theorem F9(n:Nat)(a:n<=140737488355328):cf (ι:={ bf:Option (Nat×Nat) // Room bf n }) X 129 [.e (.one (.ptr 0 0)),dI n] [bb false none [] 0] (λ_=>.dH []) (λj=>[bb true j.1 [] 0]):=by
 by_cases h:n=0
 ·subst h;exact F5.EM.re (λ_=>⟨none,rfl⟩) (λ_=>rfl) (λ_=>rfl)
 ·exact(B8 n (by omega) a).re (λp=>⟨some p.1,p.2,by have:n<=p.1.2:=p.2;show 0<p.1.2;omega⟩) (λ_=>rfl) (λ_=>rfl)
theorem Av(bf:Option (Nat×Nat))(xs s:Bs)(a:s.length<=9223372036854775807)(h:Room bf (xs.length+s.length)):Ev X 130 [.e (.one (.ptr 0 0)),dS s] [bb true bf xs 0] (.dH [.one (.c (.int .i64 s.length)),.one (.c .mz)]) [bb true bf (xs++s) 0]:=by
 cases bf with
 |none =>
  have h:xs.length+s.length=0:=h;have d:xs=[]:=dq (by omega)
  have b:s=[]:=dq (by omega)
  subst d;subst b;exact Mi
 |some p=>exact As p.1 p.2 xs s 0 a h.1
def shown(bf:Option (Nat×Nat))(xs:Bs):Nat:=match bf with|none=>0|some _=>xs.length
theorem Je(bf:Option (Nat×Nat))(xs:Bs)(a:xs.length<=9223372036854775807)(h:Room bf xs.length):Ev X 131 [.e (.one (.ptr 0 0))] [bb true bf xs 0] (dS xs) [bb true bf xs (shown bf xs)]:=by
 cases bf with
 |none =>
  have h:xs.length=0:=h;have b:xs=[]:=dq h;subst b;exact Jc
 |some p=>exact Au p.1 p.2 xs 0 a (by have:=h.2;omega)
def B9(l:List Bs)(i:Nat):Bs:=(l.take i).flatten
theorem Ga{l:List Bs}{i:Nat}(h:i<l.length):B9 l (i+1)=B9 l i++l.getD i []:=by
 unfold B9;rw[g7,ai h,List.flatten_append];simp[List.getD_eq_getElem?_getD,ai h]
theorem O1{l:List Bs}:B9 l l.length=l.flatten:=by simp[B9]
theorem Gb{l:List Bs}(i:Nat):(B9 l i).length<=l.flatten.length:=by
 have e:l.flatten=(l.take i).flatten++(l.drop i).flatten:=by rw[<-List.flatten_append,nu]
 rw[e,ba];simp only[B9];omega
theorem Jf(l:List Bs)(t:l.flatten.length<=140737488355328):Ev X 78 [cS.sl l,dS []] [] (dS l.flatten) []:=by
 refine Ev.body Tryz.func78 rfl rfl rfl λq=>?_
 have o:=q.sl 0 rfl
 by_cases f:l=[]
 ·subst f;refine aq [(14,true)] 100 rfl ?_ (AK.aK rfl ?_)
  ·simp[aa]
  ·simp[aa]
 by_cases r:l.length=1
 ·obtain⟨x,rfl⟩:=List.length_eq_one_iff.1 r;refine aq [(14,false),(16,true)] 100 rfl ?_ (AK.aK rfl ?_)
  ·simp[aa]
  ·simp[aa,aa.cat,cS,gN.fn]
 have v:2<=l.length:=by
  have:l.length≠0:=by simpa using f
  omega
 refine aq [(14,false),(16,false),(22,false)] 100 rfl ?_ ?_
 ·simp[aa,f];omega
 refine AK.lV (λi=>i<=l.length) (λi:Nat=>[(0,cS.sl l),(1,dS []),(5,dI (B9 l i).length),(39,cS.sl l),(40,dI l.length),(41,dI i)]) (λ_=>[]) (λi=>l.length-i) 0 rfl ?_ rfl ab (by omega) ?_
 ·simp[aa,aa.cat,au.same,B9]
 ·intro i hi;have u:=Gb (l:=l) i
  by_cases h:i<l.length
  ·have d:=Gb (l:=l) (i+1);rw[Ga h,ba] at d;refine aq [(42,true),(49,false)] 100 rfl ?_ (AK.gK (i+1) rfl ?_ rfl ab (by omega) (by omega))
   ·have e:(l.getD (i:Int).toNat cS.bl)=l.getD i []:=rfl;simp only[aa,aJ,e];refine⟨by omega,by omega,fh (by omega),by omega,by omega,by omega,bx (by omega)⟩
   ·have e:(l.getD (i:Int).toNat cS.bl)=l.getD i []:=rfl;rw[Ga h];rw[e];simp[aa,aa.cat,au.same]
  ·have e:i=l.length:=by omega
   subst e;refine aq [(42,false),(1000018,true)] 100 rfl ?_ (AK.leave rfl rfl ?_)
   ·simp[aa]
   refine aq [(1000018,true)] 100 rfl ab ?_;refine AK.region ?_;refine AK.law (F6 rfl) rfl rfl ?_;refine cE rfl ab ?_;rw[O1];refine AK.bZ (F9 l.flatten.length t) [0] rfl rfl rfl rfl rfl rfl rfl (λ_=>rfl) rfl (λ_=>rfl) rfl λj=>?_
   obtain⟨bf,g⟩:=j;refine cE rfl ?_ ?_
   ·exact⟨by omega,show (0:Int)<(l.length:Int) by omega⟩
   have room:∀ n,n<=l.flatten.length->Room bf n:=λn s=>by
    cases bf with
    |none =>
     have:l.flatten.length=0:=g;show n=0;omega
    |some p=>exact⟨er s g.1,g.2⟩
   have m:B9 l 1=l.getD 0 []:=by rw[Ga (by omega)];simp[B9]
   have b:=Gb (l:=l) 1;rw[m] at b;refine AK.aC (Av bf [] (l.getD 0 []) (by omega) (room _ (by simpa using b))) [0] rfl rfl rfl rfl rfl rfl rfl rfl rfl rfl rfl ?_
   refine cE rfl ?_ ?_
   ·exact⟨by omega,show (1:Int)<=(l.length:Int) by omega⟩
   refine AK.lV (λi=>i+1<=l.length) (λi:Nat=>[(1,dS []),(8,.e (.one (.ptr 0 0))),(63,.e (.one (.c (.sl false 1 (l.length-1) (j7 1 (cS.fn l)))))),(64,dI (l.length-1:Nat)),(65,dI i)]) (λi=>[bb true bf (B9 l (i+1)) 0]) (λi=>l.length-i) 0 rfl ?_ rfl ?_ (by omega) ?_
   ·simp[aa,aa.cat,bT,au.same]
   ·refine aa.cat.2 ⟨?_,ab⟩;rw[aw,m];exact rfl
   intro i hi;have k:=Gb (l:=l) (i+1)
   by_cases h:i+1<l.length
   ·have a:=Gb (l:=l) (i+2);rw[Ga h,ba] at a;refine aq [(66,true)] 100 rfl ?_ ?_
    ·exact⟨by omega,by omega,bx (by omega)⟩
    refine AK.aC (Av bf (B9 l (i+1)) [] (by simp) (room _ (by simpa using k))) [0] rfl rfl rfl rfl rfl rfl rfl rfl rfl rfl rfl ?_
    rw[iV];refine aA rfl ab ?_;refine AK.aC (Av bf (B9 l (i+1)) (l.getD (1+i) []) (by rw[j3 1 i];omega) (room _ (by rw[j3 1 i];exact a))) [0] rfl rfl rfl rfl rfl rfl rfl rfl rfl rfl rfl ?_
    refine aA rfl ?_ (AK.gK (i+1) rfl ?_ rfl ?_ (by omega) (by omega))
    ·simp only[aa,aJ];omega
    ·simp[aa,aa.cat,au.same]
    ·refine aa.cat.2 ⟨?_,ab⟩;rw[Ga h,j3 1 i];exact rfl
   ·have e:i+1=l.length:=by omega
    refine aq [(66,false)] 100 rfl ?_ (AK.leave rfl rfl ?_)
    ·exact fh (by omega)
    rw[e,O1];refine aA rfl ab ?_;refine AK.aC (Je bf l.flatten (by omega) (room _ (by omega))) [0] rfl rfl rfl rfl rfl rfl rfl rfl rfl rfl rfl ?_
    refine aA rfl ab (AK.aK rfl ?_);simp[aa,aa.cat]
theorem Dd{s:Bs}(h:bj s=true)(i:Nat)(hi:i<s.length):97<=bL s i/\bL s i<=122:=by
 have a:=eR.1 h (s.getD i 0) (by rw[List.getD_eq_getElem?_getD,ai hi];exact bJ hi)
 simp only[dz,bq,av] at a;unfold bL;omega
theorem yY(s:Bs)(i:Nat)(b:bj s=true)(k:3<=i)(hi:i<=s.length)(j:s.length<=1000000):Ev X 173 [dS s,dI i] [] (dB (j5 s i)) []:=by
 refine Ev.body Tryz.func173 rfl rfl rfl λf=>?_
 have g:=Dd b (i-1) (by omega)
 have l:=Dd b (i-2) (by omega)
 have h:=Dd b (i-3) (by omega)
 have c:((gJ s ((i:Int)-1)).toNat:Int)=bL s (i-1):=by rw[bX,show ((i:Int)-1).toNat=i-1 by omega]
 have d:((gJ s ((i:Int)-2)).toNat:Int)=bL s (i-2):=by rw[bX,show ((i:Int)-2).toNat=i-2 by omega]
 have e:((gJ s ((i:Int)-3)).toNat:Int)=bL s (i-3):=by rw[bX,show ((i:Int)-3).toNat=i-3 by omega]
 refine aA rfl ?_ (AK.aK rfl ?_)
 ·simp only[aa,aJ,c,d,e];omega
 ·simp only[aa,aa.cat,c,d,e,j5,dl,ae];rw[kY (a:=bL s (i-1)-97) (by omega) (by omega),kY (a:=bL s (i-2)-97) (by omega) (by omega),kY (a:=bL s (i-3)-97) (by omega) (by omega)]
theorem De:dw X 173 (qO aS aI (λs i=>dB (j5 s i.toNat)) λs i=>[bj s=true,3<=i,i<=s.length,s.length<=1000000]):=.xz λs i h=>by
 obtain⟨a,c,d,b⟩:=h;obtain⟨m,rfl⟩:∃ m:Nat,i=m:=⟨i.toNat,by omega⟩
 exact yY s m a (by omega) (by omega) b
theorem xB{o:Oper}{j:Operand->D}{σ:List aj}{x y:Operand}{k:Array TypeId}{a b:Int} (m:Int)(h:o.op=.call { callee:=.builtin .min,args:=#[x,y],argTypes:=k })(p:j x=dI a)(q:j y=dI b)(r:min a b=m)(n:aJ .i64 m):aM Tryz.prog o j σ (dI m) σ:=by
 refine .quiet λs l t d=>?_
 have f:=d x;have i:=d y;rw[p] at f;rw[q] at i
 replace f:=eX f
 replace i:=eX i
 generalize c:l x=vx at f;generalize g:l y=vy at i;cases f;cases i;have e:(if b<a then b else a)=m:=by
  rw[<-r];split <;> omega
 exact⟨.int .i64 m,by simp[execOp,h,resolve,invoke,builtin,c,g,Builtin.min_,Builtin.min2,e],.int n,by simp[execOp,h,resolve,invoke,builtin,c,g,Builtin.min_,Builtin.min2]⟩
theorem Gn{t:Bs}{f j:Nat}(h:t.length<=f+3+j)(c:j<=5):qP t f (5-j)=min (f+8) t.length:=by
 rcases bz j 5 with a|a
 ·obtain⟨k,b⟩:∃ k,5-j=k+1:=⟨4-j,by omega⟩
  rw[b];simp only[qP];rw[an (by omega)]
  omega
 ·rw[show 5-j=0 by omega];rfl
theorem Df(t:Bs)(f:Nat)(m:bj t=true)(o:f<=t.length)(r:t.length<=1000000):Ev X 161 [dS t,dI f] [] (dI (cutAt t f)) []:=by
 refine Ev.body Tryz.func161 rfl rfl rfl λp=>?_
 have a:aY X [(173,qO aS aI (λs i=>dB (j5 s i.toNat)) λs i=>[bj s=true,3<=i,i<=s.length,s.length<=1000000])]:=.cons De .nil
 refine ah a [] 100 rfl ?_ ?_
 ·simp[aa,aJ];omega
 refine AK.lV (λj=>j<=5/\qP t f (5-j)=cutAt t f) (λj:Nat=>[(0,dS t),(1,dI f),(5,dI (f+3+j))]) (λ_=>[]) (λj=>5-j) 0 rfl ?_ rfl ab ⟨by omega,rfl⟩ ?_
 ·simp[aa,aa.cat]
 rintro j ⟨q,b⟩
 by_cases h:j<5/\f+3+j<t.length
 ·obtain⟨k,n⟩:∃ k,5-j=k+1:=⟨4-j,by omega⟩
  have d:f+(7-k)=f+3+j:=by omega
  rw[n] at b;simp only[qP,d] at b;rw[ak (by omega)] at b
  have e:((f:Int)+3+j).toNat=f+3+j:=by omega
  cases c:j5 t (f+3+j) with
  |true =>
   rw[c,an rfl] at b;refine ah a [(11,true),(16,true),(22,true)] 100 rfl ?_ (AK.jC (cv.zero rfl ?_))
   ·simp only[aa,aJ,e,c,m,av,eq_self,af,ae];omega
   ·simp[aa,aa.cat,<-b]
  |false =>
   rw[c,ak (by simp)] at b
   refine ah a [(11,true),(16,true),(22,false)] 100 rfl ?_ (AK.gK (j+1) rfl ?_ rfl ab ⟨by omega,by rw[<-b];congr 1;omega⟩ (by omega))
   ·simp only[aa,aJ,e,c,m,av,eq_self,af,ae];omega
   ·simp[aa,aa.cat];omega
 ·have e:cutAt t f=min (f+8) t.length:=by
   rw[<-b];rcases bz j 5 with g|g
   ·exact Gn (by omega) (by omega)
   ·rw[show 5-j=0 by omega];rfl
  have l:aJ .i64 ((min (f+8) t.length:Nat):Int):=by simp only[aJ];omega
  rcases bz j 5 with g|g
  ·refine ah a [(11,true),(16,false)] 100 rfl ?_ (AK.leave rfl rfl ?_)
   ·simp only[aa,aJ,av,aZ];omega
   refine ah a [] 100 rfl ?_ ?_
   ·simp only[aa,aJ];omega
   refine AK.law (xB ((min (f+8) t.length:Nat):Int) rfl rfl rfl (by omega) l) rfl rfl ?_
   refine ah a [] 100 rfl ab (AK.aK rfl ?_);simp[aa,e]
  ·refine ah a [(11,false)] 100 rfl ?_ (AK.leave rfl rfl ?_)
   ·simp only[aa,aJ,av,aZ];omega
   refine ah a [] 100 rfl ?_ ?_
   ·simp only[aa,aJ];omega
   refine AK.law (xB ((min (f+8) t.length:Nat):Int) rfl rfl rfl (by omega) l) rfl rfl ?_
   refine ah a [] 100 rfl ab (AK.aK rfl ?_);simp[aa,e]
theorem Ms:dw X 161 (qO aS aI (λs i=>dI (cutAt s i.toNat)) λs i=>[bj s=true,0<=i,i<=s.length,s.length<=1000000]):=.xz λs i h=>by
 obtain⟨a,c,d,b⟩:=h;obtain⟨m,rfl⟩:∃ m:Nat,i=m:=⟨i.toNat,by omega⟩
 exact Df s m a (by omega) b
end Go.AM.R1
namespace Go.AM
theorem o8{B:aj}{r:List aj}(h:B≠.qv)(k:ld r=true):ld (B::r)=true:=by
 cases B <;> first|exact k|exact absurd rfl h
section
variable {P:Program}{X:Cx P}{N:Nat}{Qf:Post}{φ:Fr}{σ:List aj}
theorem AK.gE{Q a:Post}(h:∀ e φ σ,Q e φ σ->a e φ σ):∀ {K:List It}{e:Exit}{φ:Fr}{σ:List aj},AK X N Q K e φ σ->AK X N a K e φ σ
 |[],e,φ,σ,q=>h e φ σ q
 |.code c::K,.normal,φ,σ,q=>AW.mono q λ_ _ _ q=>AK.gE h q
 |.code c::K,.exit _,φ,σ,q=>AK.gE (K:=K) h q
 |.code c::K,.ret,φ,σ,q=>AK.gE (K:=K) h q
 |.code c::K,.panic _,φ,σ,q=>AK.gE (K:=K) h q
 |.code c::K,.goto _,φ,σ,q=>AK.gE (K:=K) h q
 |.code c::K,.outgrown,φ,σ,q=>AK.gE (K:=K) h q
 |.blk id::K,.exit Ek,φ,σ,q=>by
  simp only[AK] at q ⊢;split
  ·rename_i e;rw[an e] at q;exact AK.gE (K:=K) h q
  ·rename_i e;rw[ak e] at q;exact AK.gE (K:=K) h q
 |.blk id::K,.normal,φ,σ,q=>AK.gE (K:=K) h q
 |.blk id::K,.ret,φ,σ,q=>AK.gE (K:=K) h q
 |.blk id::K,.panic _,φ,σ,q=>AK.gE (K:=K) h q
 |.blk id::K,.goto _,φ,σ,q=>AK.gE (K:=K) h q
 |.blk id::K,.outgrown,φ,σ,q=>AK.gE (K:=K) h q
 |.ops all rest::K,.normal,φ,σ,q=>dM.mono q λ_ _ q=>AK.gE h q
 |.ops all rest::K,.exit _,φ,σ,q=>AK.gE (K:=K) h q
 |.ops all rest::K,.ret,φ,σ,q=>AK.gE (K:=K) h q
 |.ops all rest::K,.panic _,φ,σ,q=>AK.gE (K:=K) h q
 |.ops all rest::K,.goto _,φ,σ,q=>AK.gE (K:=K) h q
 |.ops all rest::K,.outgrown,φ,σ,q=>AK.gE (K:=K) h q
theorem AK.LX{id:Nat}{A:Fr->List aj->Prop}{a b K2:List It}(h1:iT id a=none)(h2:iT id b=some K2)(k:AK X N Qf K2 .normal φ σ) :
  AK X N (BU A (AK X N Qf b)) (.code (.exit id)::a) .normal φ σ :=
 AK.gE (λe c σ' q=>by cases e <;> exact q) (AK.leave (X:=X) (N:=N) (Qr:=Qf) (A:=A) (φ:=φ) (σ:=σ) h1 h2 k)
end
end Go.AM
namespace Go.AM.R1
open Go.Proofs
variable {X:Cx Tryz.prog}
abbrev KM(t:Bs):C:=.fn (.func 160) [] [.rp [.str t]]
theorem Jm(t:Bs):Ev X 133 [dS t] [] (.e (.one (.c (KM t)))) []:=by
 refine Ev.body Tryz.func133 rfl rfl rfl λa=>?_
 refine aq [] 5 rfl ab ?_;refine AK.freeze 1 0 rfl rfl rfl ?_;refine aA rfl ab (AK.aK rfl ?_);simp[aa]
theorem Dg{T:Type}(text:Bs)(u:bj text=true)(v:text.length<=1000000){l:Nat}{a:Fr}{k:Loop}(g B1 B2:T->aj)(R:Nat->T->Prop)(j:T)(r:R 0 j)(p:∀ t,g t≠.qv/\B1 t≠.qv/\B2 t≠.qv)
  (b:∀ f t,f<text.length->R f t->Yields (ι:={ d:T // R (cutAt text f) d }) X 3 [dI f,dI (cutAt text f)] [g t,B1 t,B2 t,.loop l a k] true (λd=>[g d.1,B1 d.1,B2 d.1,.loop l a k])) :
  cf (ι:={ t:T // R text.length t }) X 160 [.e (.one (.ref 3)),.e (.one (.c (.rp [.str text])))] [g j,B1 j,B2 j,.loop l a k] (λ_=>.dH []) (λi=>[g i.1,B1 i.1,B2 i.1,.loop l a k]):=by
 refine cf.mM Tryz.func160 rfl rfl rfl (AK.of_code ?_);have m:aY X [(161,qO aS aI (λs i=>dI (cutAt s i.toNat)) λs i=>[bj s=true,0<=i,i<=s.length,s.length<=1000000])]:=.cons Ms .nil
 refine ah m [] 100 rfl ab ?_;show AW X _ (.loop _) _ _ _;refine AW.loop (S:=T×Nat) (λx=>x.2<=text.length/\R x.2 x.1) (λx=>[(0,.e (.one (.ref 3))),(1,.e (.one (.c (.rp [.str text])))),(3,dI x.2)]) (λx=>[g x.1,B1 x.1,B2 x.1,.loop l a k]) (λx=>text.length-x.2) (j,0) ⟨fH _,r⟩ (cR rfl (by simp[aa,aa.cat])) rfl ?_
 rintro⟨t,f⟩ ⟨q,o⟩;simp only at q o;refine AK.of_code ?_
 by_cases h:f<text.length
 ·have n:=nS text f h;refine ah m [(8,true)] 100 rfl ?_ ?_
  ·simp only[aa,u,av,eq_self,af,ae];omega
  refine AK.yield (b f t h o) rfl rfl rfl rfl rfl rfl λd=>?_
  refine ah m [(16,false)] 100 rfl ?_ ?_
  ·simp[aa]
  refine⟨(d.1,cutAt text f),⟨n.2.1,d.2⟩,?_,cR rfl (by simp[aa,aa.cat]),rfl⟩
  simp only;omega
 ·have e:f=text.length:=by omega
  subst e;refine ah m [(8,false)] 100 rfl ?_ ?_
  ·simp[aa]
  refine AK.LX rfl rfl ?_;exact⟨⟨t,o⟩,.inr rfl,rfl,o8 (p t).1 (o8 (p t).2.1 (o8 (p t).2.2 rfl)),[],.dH [],[],rfl,rfl,rfl,ab⟩
theorem Ca{l:List Bs}{i:Nat}(h:i<l.length):l.getD i []=l[i]:=by simp[List.getD_eq_getElem?_getD,ai h]
theorem Ml(a b:List Bs):Ev X 80 [cS.sl a,cS.sl b] [] (dB (a==b)) []:=by
 refine Ev.body Tryz.func80 rfl rfl rfl λl=>?_
 have k:=l.sl 0 rfl
 by_cases f:a.length=b.length
 ·refine aq [(10,false)] 100 rfl (by simp[aa,f]) ?_
  refine AK.lV (λi=>i<=a.length/\∀ j,j<i->a.getD j []=b.getD j []) (λi:Nat=>[(0,cS.sl a),(1,cS.sl b),(12,dI a.length),(13,dI i)]) (λ_=>[]) (λi=>a.length-i) 0 rfl ?_ rfl ab ⟨by omega,by omega⟩ ?_
  ·simp[aa.cat,aa,au.same]
  rintro i ⟨hi,c⟩
  by_cases h:i<a.length
  ·by_cases d:a.getD i []=b.getD i []
   ·refine aq [(14,true),(24,false)] 100 rfl ?_ (AK.gK (i+1) rfl ?_ rfl ab ?_ ?_)
    ·simp only[aa,aF];have e:(a.getD i cS.bl==b.getD i cS.bl)=true:=eU.2 d;exact⟨by simp only[aJ];omega,by rw[e];rfl,by omega,by omega,by omega,by omega,bx (by omega)⟩
    ·simp[aa.cat,aa,au.same]
    ·refine⟨by omega,λj g=>?_⟩
     rcases fE.1 g with g|rfl
     ·exact c j g
     ·exact d
    ·omega
   ·refine aq [(14,true),(24,true)] 100 rfl ?_ (AK.jC (cv.zero rfl ?_))
    ·simp only[aa,aF];have e:(a.getD i cS.bl==b.getD i cS.bl)=false:=cD.2 d;exact⟨by rw[e];rfl,by omega,by omega,by omega,by omega,bx (by omega)⟩
    ·have:(a==b)=false:=cD.2 (by rintro rfl;exact d rfl)
     simp[aa,this]
  ·refine aq [(14,false)] 100 rfl (by simp[aa];omega) (AK.leave rfl rfl ?_)
   refine aA rfl ab (AK.aK rfl ?_);have:a=b:=sv f λj d m=>by rw[<-Ca d,<-Ca m];exact c j (by omega)
   simp[aa,this]
 ·refine aq [(10,true)] 100 rfl ?_ (AK.aK rfl ?_)
  ·simp[aa];omega
  ·have:(a==b)=false:=cD.2 (by rintro rfl;exact f rfl)
   simp[aa,this]
theorem ki:∀ (l:List UInt8)(c:UInt8),Lib.indexByte l c<l.length∨Lib.indexByte l c=-1
 |[],c=>.inr (by rw[Lib.indexByte.eq_def])
 |b::l,c=>by
  have d:=ki l c;rw[Lib.indexByte.eq_def];simp only[cM];split
  ·left;omega
  ·split
   ·right;rfl
   ·rename_i e a
    left
    simp at a;omega
set_option maxRecDepth 20000 in
theorem x3(s:Bs)(c:UInt8):Ev X 181 [dS s,dU c.toNat] [] (dI (Lib.indexByte s c)) []:=by
 refine Ev.body Tryz.func181 rfl rfl rfl λq=>?_
 have B:=q.str 0 rfl;refine aA rfl ab ?_;refine AK.one (x:=dI (Lib.indexByte s c)) (σ':=[]) ?_ rfl ?_
 ·refine OA.kJ (λ_ _ _ _=>cw (by rfl)) ?_
  refine aM.nA λst ρ y l=>?_
  have o:=eX (l (.tmp 5));have p:=eX (l (.tmp 6));generalize g:ρ (.tmp 5)=v1 at o;generalize h:ρ (.tmp 6)=v2 at p;cases o with
  |str e1 l1 =>
  cases p with
  |int l2 =>
  have i:ρ (.func 190)=.func (.func 190) #[] #[]:=by
   have:=eX (l (.func 190));generalize ρ (.func 190)=v at this;cases this with
   |fn fs cs a b A r C c2 d1 d2 =>
    have:fs=[]:=dq a;subst this;have:cs=[]:=dq b;subst this;rfl
  have f:(callFunc 190 #[.string ‹ByteArray›,.int .u8 c.toNat]).run Tryz.prog st.w=.ok (.value (.int .i64 (Lib.indexByte s c))) st.w:=by
   rw[run_callFunc_extern Tryz.func190 (by kernel_rfl) (by kernel_rfl) (by kernel_rfl) (e:=Extern.BytealgIndexByte.indexByte) (by kernel_rfl),Lib.run_indexByteString]
   subst e1;simp
  have k:bR Tryz.prog (Extern.BytealgIndexByte.indexByte #[.string ‹ByteArray›,.int .u8 c.toNat]):=by
   refine bR.bind (m:=Extern.Bytes.bytesOf (.string ‹ByteArray›)) (λ_ _=>rfl) λb=>bR.bind (m:=Extern.Bytes.asByte (.int .u8 c.toNat)) (λ_ _=>?_) λd=>?_
   ·simp[Extern.Bytes.asByte]
   ·skip
    split <;> exact .pure
  have j:=kD Tryz.func190 (by kernel_rfl) (by kernel_rfl) (by kernel_rfl) (e:=Extern.BytealgIndexByte.indexByte) (by kernel_rfl) _ k st.w #[]
  refine⟨.int .i64 (Lib.indexByte s c),?_,Rd.int ?_,?_⟩
  rotate_left 2
  ·intro u n;simp[execOp,resolve,Deferred.ofValue,invoke,g,h,i,j] at n;subst n;exact .inr ⟨_,rfl⟩
  ·simp[execOp,resolve,Deferred.ofValue,invoke,g,h,i,f]
  ·have t:=Lib.indexByte_ge s c;have z:=ki s c;simp only[aJ];omega
 ·refine aA rfl ab (AK.aK rfl ?_);simp[aa]
end Go.AM.R1
namespace Go.AM
abbrev J2(a b:Bs)(c:Bool):D:=.dH [.one (.c (.str a)),.one (.c (.str b)),.one (.c (.bool c))]
namespace R1
open Go.Proofs
variable {X:Cx Tryz.prog}
theorem vl(s:Bs) (c:Int)(h:0<=c/\c<=255):Ev X 181 [dS s,dU c] [] (dI (Lib.indexByte s (UInt8.ofNat (Int.toNat c)))) []:=by
 have e:c=((UInt8.ofNat c.toNat).toNat:Int):=by
  rw[UInt8.toNat_ofNat'];omega
 have:=x3 (X:=X) s (UInt8.ofNat c.toNat);rw[<-e] at this;exact this
def M9:c7:=λargs σ=>match args,σ with
 |[.e (.one (.c (.str a))),.e (.one (.c (.int .u8 b)))],[]=>some (dI (Lib.indexByte a (UInt8.ofNat (Int.toNat b))),[],[0<=b/\b<=255])
 |_,_=>none
theorem t181:dw X 181 M9:=by
 intro args σ res σ' obs h a;unfold M9 at h;split at h
 ·cases h;exact(vl _ _ (a)).args (λ_ _ r=>r)
 ·cases h
def PV:List (Nat×c7):=(181,M9)::Vo
theorem Hv:aY X PV:=aY.cons t181 (TU)
def Vp:Bs:=[47]
def gx(s:Bs):Int:=Lib.indexByte s 47
theorem Hw(s:Bs):Ev X 174 [dS s,dS [47]] [] (dI (gx s)) []:=by
 refine Ev.body Tryz.func174 rfl rfl rfl λa=>?_
 by_cases h:s=[47]
 ·subst h;refine ah Hv [(18,false),(22,true)] 100 rfl ?_ (AK.aK rfl ?_)
  ·simp[aa]
  ·simp[aa,gx,Lib.indexByte.eq_def]
 ·refine ah Hv [(18,false),(22,false),(26,true)] 100 rfl ?_ (AK.aK rfl ?_)
  ·simp[aa,bX,bL];exactλe=>h e.symm
  ·simp[aa,gx,gJ]
def Na:c7:=λargs σ=>match args,σ with
 |[.e (.one (.c (.str a))),.e (.one (.c (.str [47])))],[]=>some (dI (gx a),[],[])
 |_,_=>none
theorem t174:dw X 174 Na:=by
 intro args σ res σ' obs h a;unfold Na at h;split at h
 ·cases h;exact Hw _
 ·cases h
def PW:List (Nat×c7):=(174,Na)::PV
theorem Hx:aY X PW:=aY.cons t174 (Hv)
def gR(s:Bs):Bs:=if 0<=gx s then s.take (gx s).toNat else s
def lq(s:Bs):Bs:=if 0<=gx s then s.drop ((gx s).toNat+1) else []
def iN(s:Bs):Bool:=decide (0<=gx s)
theorem Hy(s:Bs):Ev X 162 [dS s,dS [47]] [] (J2 (gR s) (lq s) (iN s)) []:=by
 refine Ev.body Tryz.func162 rfl rfl rfl λb=>?_
 have d:=b.str 0 rfl;have a:=ki s 47
 change gx s<s.length∨gx s=-1 at a
 by_cases h:0<=gx s
 ·have c:(gx s+1).toNat=(gx s).toNat+1:=by omega
  refine ah Hx [(12,true)] 100 rfl ?_ (AK.aK rfl ?_)
  ·simp[aa,h,aJ];omega
  ·simp[aa,aa.cat,gR,lq,iN,h,qD,c]
 ·refine ah Hx [(12,false)] 100 rfl ?_ (AK.aK rfl ?_)
  ·simp[aa];omega
  ·simp[aa,aa.cat,gR,lq,iN,h]
def Nb:c7:=λargs σ=>match args,σ with
 |[.e (.one (.c (.str a))),.e (.one (.c (.str [47])))],[]=>some (J2 (gR a) (lq a) (iN a),[],[])
 |_,_=>none
theorem t162:dw X 162 Nb:=by
 intro args σ res σ' obs h a;unfold Nb at h;split at h
 ·cases h;exact Hy _
 ·cases h
def PX:List (Nat×c7):=(162,Nb)::PW
theorem K8:aY X PX:=aY.cons t162 (Hx)
theorem Nc(s:Bs):Ev X 134 [dS s,dS [47]] [] (J2 (gR s) (lq s) (iN s)) []:=by
 refine Ev.body Tryz.func134 rfl rfl rfl λa=>?_
 refine ah K8 [] 100 rfl ab (AK.aK rfl ?_);simp[aa,aa.cat]
def Nd:c7:=λargs σ=>match args,σ with
 |[.e (.one (.c (.str a))),.e (.one (.c (.str [47])))],[]=>some (J2 (gR a) (lq a) (iN a),[],[])
 |_,_=>none
theorem t134:dw X 134 Nd:=by
 intro args σ res σ' obs h a;unfold Nd at h;split at h
 ·cases h;exact Nc _
 ·cases h
def bE(s:Bs):Bool:=decide (s.length=1)&&decide (97<=bL s 0)&&decide (bL s 0<=101)
theorem r8(s:Bs):Ev X 135 [dS s] [] (dB (bE s)) []:=by
 refine Ev.body Tryz.func135 rfl rfl rfl λc=>?_
 by_cases a:s.length=1
 ·by_cases b:97<=bL s 0
  ·refine aq [(5,true),(9,true)] 100 rfl ?_ (AK.aK rfl ?_)
   ·simp only[aa,av];simp[a,bX,b]
   ·show decide (bL s 0<=101)=bE s;simp[bE,a,b]
  ·refine aq [(5,true),(9,false)] 100 rfl ?_ (AK.aK rfl ?_)
   ·simp only[aa,aZ];simp[a,bX];omega
   ·simp[aa,bE,b]
 ·refine aq [(5,false)] 100 rfl ?_ (AK.aK rfl ?_)
  ·simp[aa];omega
  ·simp[aa,bE,a]
def Nf:c7:=λargs σ=>match args,σ with
 |[.e (.one (.c (.str a)))],[]=>some (dB (bE a),[],[])
 |_,_=>none
theorem t135:dw X 135 Nf:=by
 intro args σ res σ' obs h a;unfold Nf at h;split at h
 ·cases h;have _:=a;exact(r8 _ ).args (λ_ _ r=>r)
 ·cases h
def PY:List (Nat×c7):=(134,Nd)::(135,Nf)::PX
theorem Cu:aY X PY:=aY.cons t134 (aY.cons t135 (K8))
def dA(s:Bs):Bool:=bE (gR s)&&(!iN s||bE (lq s))
theorem Bh(s:Bs):Ev X 82 [dS s] [] (dB (dA s)) []:=by
 refine Ev.body Tryz.func82 rfl rfl rfl λc=>?_
 cases a:bE (gR s) with
 |false =>
  refine ah Cu [(13,false)] 100 rfl ?_ (AK.aK rfl ?_)
  ·simp[aa,a]
  ·simp[aa,dA,a]
 |true =>
  cases b:iN s with
  |false =>
   refine ah Cu [(13,true),(15,false)] 100 rfl ?_ (AK.aK rfl ?_)
   ·simp[aa,a,b]
   ·simp[aa,dA,a,b]
  |true =>
   refine ah Cu [(13,true),(15,true)] 100 rfl ?_ (AK.aK rfl ?_)
   ·simp[aa,a,b]
   ·simp[aa,dA,a,b]
def TV:c7:=λargs σ=>match args,σ with
 |[.e (.one (.c (.str a)))],[]=>some (dB (dA a),[],[])
 |_,_=>none
theorem t82:dw X 82 TV:=by
 intro args σ res σ' obs h a;unfold TV at h;split at h
 ·cases h;have _:=a;exact(Bh _ ).args (λ_ _ r=>r)
 ·cases h
theorem zv(s:Bs):Ev X 132 [dS s] [] (dB (bj s)) []:=by
 refine Ev.body Tryz.func132 rfl rfl rfl λe=>?_
 have g:=e.str 0 rfl;refine aA rfl ab ?_;refine AK.lV (λi=>i<=s.length/\∀ j,j<i->dz (s.getD j 0)=true) (λi:Nat=>[(0,dS s),(5,dI s.length),(6,dI i)]) (λ_=>[]) (λi=>s.length-i) 0 rfl ?_ rfl ab ⟨by omega,by omega⟩ ?_
 ·simp[aa.cat,aa]
 rintro i ⟨hi,a⟩
 by_cases h:i<s.length
 ·generalize c:s.getD i 0=b
  by_cases f:b.toNat<97
  ·refine aq [(7,true),(12,true)] 100 rfl ?_ (AK.jC (cv.zero rfl ?_))
   ·simp only[aa,ji,av,c];omega
   ·rw[aa,jr h (by rw[c];simp only[dz,pt,aZ];omega)]
  ·by_cases k:b.toNat>122
   ·refine aq [(7,true),(12,false),(17,true)] 100 rfl ?_ (AK.jC (cv.zero rfl ?_))
    ·simp only[aa,ji,av,aZ,c];omega
    ·rw[aa,jr h (by rw[c];simp only[dz,pt,aZ];omega)]
   ·refine aq [(7,true),(12,false),(17,false)] 100 rfl ?_ (AK.gK (i+1) rfl ?_ rfl ab ?_ ?_)
    ·simp only[aa,ji,av,aZ,c,aJ];omega
    ·simp[aa.cat,aa]
    ·refine⟨by omega,λj d=>?_⟩
     rcases fE.1 d with d|rfl
     ·exact a j d
     ·rw[c];simp only[dz,bq,av];omega
    ·omega
 ·refine aq [(7,false)] 100 rfl (by simp[aa];omega) (AK.leave rfl rfl ?_)
  refine aA rfl ab (AK.aK rfl ?_);rw[aa,qq (λj d=>a j (by omega))]
def Ng:c7:=λargs σ=>match args,σ with
 |[.e (.one (.c (.str a)))],[]=>some (dB (bj a),[],[])
 |_,_=>none
theorem t132:dw X 132 Ng:=by
 intro args σ res σ' obs h a;unfold Ng at h;split at h
 ·cases h;have _:=a;exact(zv _ ).args (λ_ _ r=>r)
 ·cases h
def PZ:List (Nat×c7):=(82,TV)::(132,Ng)::PY
theorem Hz:aY X PZ:=aY.cons t82 (aY.cons t132 (Cu))
theorem uh(s:Bs):Ev X 79 [dS s] [] (dB (dG s)) []:=by
 refine Ev.body Tryz.func79 rfl rfl rfl λb=>?_
 by_cases a:s.length<=40
 ·refine ah Hz [(5,true)] 100 rfl ?_ (AK.aK rfl ?_)
  ·simp[aa];omega
  ·simp[aa,dG,a]
 ·refine ah Hz [(5,false)] 100 rfl ?_ (AK.aK rfl ?_)
  ·simp[aa];omega
  ·simp[aa,dG,a]
def TX:c7:=λargs σ=>match args,σ with
 |[.e (.one (.c (.str a)))],[]=>some (dB (dG a),[],[])
 |_,_=>none
theorem t79:dw X 79 TX:=by
 intro args σ res σ' obs h a;unfold TX at h;split at h
 ·cases h;have _:=a;exact(uh _ ).args (λ_ _ r=>r)
 ·cases h
def jQ(s p:Bs):Bool:=decide (p.length<=s.length)&&(s.take p.length==p)
theorem zw(s p:Bs):Ev X 137 [dS s,dS p] [] (dB (jQ s p)) []:=by
 refine Ev.body Tryz.func137 rfl rfl rfl λb=>?_
 by_cases a:p.length<=s.length
 ·refine aq [(9,true)] 100 rfl ?_ (AK.aK rfl ?_)
  ·simp[aa,a]
  ·simp[aa,jQ,a,qD]
 ·refine aq [(9,false)] 100 rfl ?_ (AK.aK rfl ?_)
  ·simp[aa];omega
  ·simp[aa,jQ,a]
def Nh:c7:=λargs σ=>match args,σ with
 |[.e (.one (.c (.str a))),.e (.one (.c (.str b)))],[]=>some (dB (jQ a b),[],[])
 |_,_=>none
theorem t137:dw X 137 Nh:=by
 intro args σ res σ' obs h a;unfold Nh at h;split at h
 ·cases h;have _:=a;exact(zw _ _ ).args (λ_ _ r=>r)
 ·cases h
def P0:List (Nat×c7):=(79,TX)::(137,Nh)::PZ
theorem K9:aY X P0:=aY.cons t79 (aY.cons t137 (Hz))
theorem Eb(s p:Bs):Ev X 85 [dS s,dS p] [] (dB (jQ s p)) []:=by
 refine Ev.body Tryz.func85 rfl rfl rfl λa=>?_
 refine ah K9 [] 100 rfl ab (AK.aK rfl ?_);simp[aa]
def TY:c7:=λargs σ=>match args,σ with
 |[.e (.one (.c (.str a))),.e (.one (.c (.str b)))],[]=>some (dB (jQ a b),[],[])
 |_,_=>none
theorem t85:dw X 85 TY:=by
 intro args σ res σ' obs h a;unfold TY at h;split at h
 ·cases h;have _:=a;exact(Eb _ _ ).args (λ_ _ r=>r)
 ·cases h
def P1(s:Bs):Bs:=if iN s=true then gR s else []
def P2:List (Nat×c7):=(85,TY)::P0
theorem La:aY X P2:=aY.cons t85 (K9)
end R1
theorem gN.HA{α:Type}(c:gN α)(l:List α)(k n:Nat)(h:k+n<=l.length):c.list n (j7 k (c.fn l))=(l.drop k).take n:=by
 apply sv
 ·simp[gN.list];omega
 ·intro i h1 h2;have hi:i<n:=by simpa[gN.list] using h1
  simp[gN.list,j7,gN.fn,qT,List.getD_eq_getElem?_getD,ai (by omega:k+i<l.length),c.inv]
theorem gN.HB{α:Type}(c:gN α)(l:List α){k n:Nat}:c.fits n (j7 k (c.fn l)):=λi _=>by simp[j7,gN.fn,qT,c.inv]
abbrev dR(p x:Bs):D:=.e (.one (.c (.rp [.str p,.str x])))
namespace R1
open Go.Proofs
variable {X:Cx Tryz.prog}
def under(p q:Bs):Bool:=jQ p (q++[47])
theorem HC(a:aH)(p x:Bs)(h:a.1.length<=1000000):Ev X 84 [dP a,dR p x] [] (dB (under p a.1)) []:=by
 refine Ev.body Tryz.func84 rfl rfl rfl λb=>?_
 refine ah La [] 100 rfl ?_ (AK.aK rfl ?_)
 ·simp[aa];omega
 ·simp[aa,under]
def TZ:c7:=λargs σ=>match args,σ with
 |[.e (.agg [.c (.str a0),.c (.str a1)]),.e (.one (.c (.rp [.str p,.str x])))],[]=>some (dB (under p a0),[],[a0.length<=1000000/\a1=a1/\x=x])
 |_,_=>none
theorem t84:dw X 84 TZ:=by
 intro args σ res σ' obs h c;unfold TZ at h;split at h
 ·rename_i b a p x
  cases h;exact HC (b,a) p x c.1
 ·cases h
def P3:List (Nat×c7):=(84,TZ)::P2
theorem wx:aY X P3:=aY.cons t84 (La)
abbrev HD(p x:Bs):D:=.e (.one (.c (.fn (.func 84) [] [.rp [.str p,.str x]])))
def qZ(t:List aH)(p:Bs):Int:=match t.findIdx? (λf=>under p f.1) with|some i=>i|none=>-1
theorem J3{t:List aH}{p:Bs}{i:Nat}(hi:i<t.length)(h:under p (dD t i)=true)(a:∀ j,j<i->under p (dD t j)=false):qZ t p=i:=by
 have:t.findIdx? (λf=>under p f.1)=some i:=by
  rw[oP];refine⟨hi,?_,λj b=>?_⟩
  ·rw[fileAt hi];exact h
  ·rw[fileAt (by omega:j<t.length)];simp[a j b]
 rw[qZ,this]
theorem wy{t:List aH}{p:Bs}(a:∀ j,j<t.length->under p (dD t j)=false):qZ t p=-1:=by
 have:t.findIdx? (λf=>under p f.1)=none:=by
  rw[nt];intro f c;obtain⟨j,b,rfl⟩:=cJ c;rw[fileAt b];exact a j b
 rw[qZ,this]
theorem J4(t:List aH)(p x:Bs)(g:∀ j,j<t.length->(dD t j).length<=1000000):Ev X 136 [cF.sl t,HD p x] [] (dI (qZ t p)) []:=by
 refine Ev.body Tryz.func136 rfl rfl rfl λe=>?_
 have d:=e.sl 0 rfl;refine ah wx [] 100 rfl ab ?_;refine AK.lV (λi=>i<=t.length/\∀ j,j<i->under p (dD t j)=false) (λi:Nat=>[(0,cF.sl t),(1,HD p x),(7,dI t.length),(8,dI i)]) (λ_=>[]) (λi=>t.length-i) 0 rfl ?_ rfl ab ⟨by omega,by omega⟩ ?_
 ·simp[aa.cat,aa,au.same]
 rintro i ⟨hi,a⟩
 by_cases h:i<t.length
 ·have f:=g i h;cases b:under p (dD t i) with
  |true =>
   refine ah wx [(9,true),(16,true)] 100 rfl ?_ (AK.jC (cv.zero rfl ?_))
   ·simp[-List.getD_eq_getElem?_getD,aa,h,fy,b];omega
   ·simp[aa,J3 h b a]
  |false =>
   refine ah wx [(9,true),(16,false)] 100 rfl ?_ (AK.gK (i+1) rfl ?_ rfl ab ?_ ?_)
   ·simp[-List.getD_eq_getElem?_getD,aa,h,fy,b,aJ];omega
   ·simp[aa.cat,aa,au.same]
   ·refine⟨by omega,λj c=>?_⟩
    rcases fE.1 c with c|rfl
    ·exact a j c
    ·exact b
   ·omega
 ·refine ah wx [(9,false)] 100 rfl (by simp[aa];omega) (AK.leave rfl rfl ?_)
  refine ah wx [] 100 rfl ab (AK.aK rfl ?_);simp[aa,wy (λj c=>a j (by omega))]
def x5(t:List aH):Prop:=∀ j,j<t.length->(dD t j).length<=1000000
def Ni:c7:=λargs σ=>match args,σ with
 |[d,.e (.one (.c (.fn (.func 84) [] [.rp [.str p,.str x]])))],[]=>match iU 2 d with
  |none=>none
  |some (n,es)=>some (dI (qZ (cF.list n es) p),[],[cF.fits n es,x5 (cF.list n es),x=x])
 |_,_=>none
theorem t136:dw X 136 Ni:=by
 intro args σ res σ' obs h a;unfold Ni at h;split at h
 ·rename_i d p x
  split at h
  ·cases h
  rename_i n es hd
  cases h;exact(J4 _ p x a.2.1).args (λ_ vs=>bC.imp (λ_=>cF.hY hd a.1) (bC.imp (λ_ r=>r) (λ_ r=>r)) vs)
 ·cases h
def P4:List (Nat×c7):=(136,Ni)::P3
theorem Lb:aY X P4:=aY.cons t136 (wx)
theorem J5(t:List aH)(p x:Bs)(a:x5 t):Ev X 83 [cF.sl t,HD p x] [] (dB (decide (0<=qZ t p))) []:=by
 refine Ev.body Tryz.func83 rfl rfl rfl λb=>?_
 refine ah Lb [] 100 rfl ?_ (AK.aK rfl ?_)
 ·simp[aa,cF.bu,cF.list_fn,a]
 ·simp[aa,cF.list_fn]
def T1:c7:=λargs σ=>match args,σ with
 |[d,.e (.one (.c (.fn (.func 84) [] [.rp [.str p,.str x]])))],[]=>match iU 2 d with
  |none=>none
  |some (n,es)=>some (dB (decide (0<=qZ (cF.list n es) p)),[],[cF.fits n es,x5 (cF.list n es),x=x])
 |_,_=>none
theorem t83:dw X 83 T1:=by
 intro args σ res σ' obs h a;unfold T1 at h;split at h
 ·rename_i d p x
  split at h
  ·cases h
  rename_i n es hd
  cases h;exact(J5 _ p x a.2.1).args (λ_ vs=>bC.imp (λ_=>cF.hY hd a.1) (bC.imp (λ_ r=>r) (λ_ r=>r)) vs)
 ·cases h
def P5:List (Nat×c7):=(83,T1)::P4
theorem oO:aY X P5:=aY.cons t83 (Lb)
def gZ(t:List aH)(i:Nat):Bool :=
 dA (dD t i)&&dG (r7 t i)&&(i==0||!(Op.bytesLess (dD t i) (dD t (i-1))||dD t i==dD t (i-1)))&&(List.range i).all λj=>!under (dD t i) (dD t j)
def lr(t:List aH):Bool:=(List.range t.length).all (gZ t)&&decide (t.length<=6)
theorem js{t:List aH}{i:Nat}(hi:i<t.length)(h:gZ t i=false):lr t=false:=by
 cases a:lr t with
 |false=>rfl
 |true =>
  simp only[lr,bq] at a;rw[c8.1 a.1 i hi] at h;cases h
theorem rG{s:Bs}(h:dA s=true):s.length<=3:=by
 simp only[dA,bE,bq,kv,av,jL] at h;obtain⟨⟨⟨d,_⟩,_⟩,a⟩:=h;have c:=ki s 47
 change gx s<s.length∨gx s=-1 at c
 by_cases b:0<=gx s
 ·simp only[gR,b,aX,List.length_take] at d;rcases a with a|a
  ·simp[iN,b] at a
  ·have:=a.1.1;simp only[lq,b,aX,gj] at this;omega
 ·simp only[gR,b,aW] at d;omega
theorem Bi{t:List aH}{p:Bs}{i:Nat}(hi:i<=t.length):decide (0<=qZ (t.take i) p)=!(List.range i).all λj=>!under p (dD t j):=by
 have e:∀ j,j<i->dD (t.take i) j=dD t j:=by
  intro j a;simp[dD,List.getD_eq_getElem?_getD,a]
 cases m:(List.range i).all λj=>!under p (dD t j) with
 |true =>
  have:=c8.1 m;rw[wy (λj a=>by
   have c:j<i:=by simp at a;omega
   rw[e j c];simpa using this j c)]
  simp
 |false =>
  have d:∃ j,j<i/\under p (dD t j)=true:=by
   cases Classical.em (∃ j,j<i/\under p (dD t j)=true) with
   |inl h=>exact h
   |inr h =>
    have:(List.range i).all (λj=>!under p (dD t j))=true:=c8.2 (λj a=>by
     cases g:under p (dD t j) with
     |false=>rfl
     |true=>exact absurd ⟨j,a,g⟩ h)
    rw[m] at this;cases this
  have:∃ k:Nat,qZ (t.take i) p=k:=by
   unfold qZ;cases l:(t.take i).findIdx? (λf=>under p f.1) with
   |some k=>exact⟨k,rfl⟩
   |none =>
    obtain⟨j,a,g⟩:=d;rw[nt] at l;have b:j<(t.take i).length:=by simp;omega
    have:=l _ (bJ b);rw[fileAt b] at this;simp only at this;rw[e j a,g] at this;cases this
  obtain⟨k,n⟩:=this;rw[n];simp
theorem ui(t:List aH):Ev X 54 [cF.sl t] [] (dB (lr t)) []:=by
 refine Ev.body Tryz.func54 rfl rfl rfl λz=>?_
 have y:=z.sl 0 rfl;refine ah oO [] 100 rfl ab ?_;refine AK.bA 0 (λi=>i<=t.length/\∀ j,j<i->gZ t j=true) (λi:Nat=>[(0,cF.sl t),(5,cF.sl t),(6,dI t.length),(7,dI i)]) (λ_=>[]) (λi=>t.length-i) 0 rfl ?_ rfl ab rfl ⟨by omega,by omega⟩ ?_
 ·simp[aa.cat,aa,au.same]
 rintro i ⟨hi,b⟩
 by_cases h:i<t.length
 ·cases n:dA (dD t i) with
  |false =>
   refine ah oO [(8,true),(14,false)] 200 rfl ?_ (AK.jP (cv.zero rfl ?_))
   ·simp[-List.getD_eq_getElem?_getD,aa,h,fy,n]
   ·simp[aa,js h (by simp[gZ,n])]
  |true =>
   cases o:dG (r7 t i) with
   |false =>
    refine ah oO [(8,true),(14,true),(19,false)] 200 rfl ?_ (AK.jP (cv.zero rfl ?_))
    ·simp[-List.getD_eq_getElem?_getD,aa,h,fy,nY,n,o]
    ·simp[aa,js h (by simp[gZ,o])]
   |true =>
    have q:x5 (t.take i):=by
     intro j l;simp only[List.length_take] at l;have e:dD (t.take i) j=dD t j:=by simp[dD,List.getD_eq_getElem?_getD,(by omega:j<i)]
     rw[e];have:=b j (by omega)
     simp only[gZ,bq] at this;have:=rG this.1.1.1;omega
    have d:cF.list ((i:Int).toNat-0) (j7 0 (cF.fn t))=t.take i:=by rw[cF.HA t 0 _ (by simp;omega)];simp
    cases k:(i==0||!(Op.bytesLess (dD t i) (dD t (i-1))||dD t i==dD t (i-1))) with
    |false =>
     have a:gZ t i=false:=by simp only[gZ,k];simp
     have r:i≠0:=by rintro rfl;simp at k
     have u:(Op.bytesLess (dD t i) (dD t (i-1))||dD t i==dD t (i-1))=true:=by
      simp only[Bool.or_eq_false_iff,n3] at k;exact k.2
     have m:aJ .i64 ((i:Int)-1):=by simp only[aJ];omega
     have v:((i:Int)-1).toNat=i-1:=by omega
     refine ah oO [(8,true),(14,true),(19,true),(24,true),(34,true)] 200 rfl ?_ (AK.jP (cv.zero rfl ?_))
     ·simp only[aa,fy,nY,aF,v,u,n,o,av,m];simp;omega
     ·simp[aa,js h a]
    |true =>
     have a:gZ t i=(List.range i).all λj=>!under (dD t i) (dD t j):=by simp only[gZ,k,n,o];simp
     apply AK.join [(0,cF.sl t),(3,dI i),(5,cF.sl t),(6,dI t.length),(7,dI i),(4,.e (.one (.ptr 0 0)))] [.cells 99 [.c (.str (dD t i)),.c (.str (r7 t i))]]
     ·intro x
      by_cases r:i=0
      ·refine ah oO [(8,true),(14,true),(19,true),(24,false),(1000006,true)] 200 rfl ?_ (x _ _ rfl ?_)
       ·simp only[aa,fy,nY,aF,n,o,av,aZ];simp;omega
       ·simp[aa.cat,aa,au.same]
      ·have u:(Op.bytesLess (dD t i) (dD t (i-1))||dD t i==dD t (i-1))=false:=by
        simp only[kv,jL,eU] at k;exact k.resolve_left r
       have m:aJ .i64 ((i:Int)-1):=by simp only[aJ];omega
       have v:((i:Int)-1).toNat=i-1:=by omega
       refine ah oO [(8,true),(14,true),(19,true),(24,true),(34,false),(1000006,true)] 200 rfl ?_ (x _ _ rfl ?_)
       ·simp only[aa,fy,nY,aF,v,u,n,o,av,m];simp;omega
       ·simp[aa.cat,aa,au.same]
     ·refine AK.freeze 4 0 rfl rfl rfl ?_;have s:=Bi (t:=t) (p:=dD t i) (i:=i) hi;have f:cF.fits ((i:Int).toNat-0) (j7 0 (cF.fn t)):=cF.HB t;cases w:(List.range i).all λj=>!under (dD t i) (dD t j) with
      |false =>
       rw[w] at s a;refine ah oO [(41,true)] 200 rfl ?_ (AK.jP (cv.zero rfl ?_))
       ·simp only[aa,bT];have g:decide (0<=qZ (cF.list ((i:Int).toNat-0) (j7 0 (cF.fn t))) (dD t i))=true:=by rw[d];exact s
        exact⟨f,by rw[d];exact q,ab,g,by omega,by omega⟩
       ·simp[aa,js h a]
      |true =>
       rw[w] at s a;refine ah oO [(41,false)] 200 rfl ?_ (AK.ay (i+1) rfl ?_ rfl rfl rfl ?_ rfl ?_ ?_)
       ·simp only[aa,bT];have g:decide (0<=qZ (cF.list ((i:Int).toNat-0) (j7 0 (cF.fn t))) (dD t i))=false:=by rw[d];exact s
        exact⟨by simp only[aJ];omega,f,by rw[d];exact q,ab,g,by omega,by omega⟩
       ·simp[aa.cat,aa,au.same]
       ·trivial
       ·refine⟨by omega,λj l=>?_⟩
        rcases fE.1 l with l|rfl
        ·exact b j l
        ·exact a
       ·omega
 ·have:i=t.length:=by omega
  subst this;refine ah oO [(8,false)] 100 rfl (by simp[aa]) (AK.leaveD rfl rfl ?_)
  refine ah oO [] 100 rfl ab (AK.aK rfl ?_);simp only[aa,lr];rw[c8.2 (λj l=>b j l)]
  simp;omega
def T2:c7:=λargs σ=>match args,σ with
 |[c],[]=>match iU 2 c with
  |none=>none
  |some (a,b)=>some (dB (lr (cF.list a b)),[],[cF.fits a b])
 |_,_=>none
theorem t54:dw X 54 T2:=by
 intro args σ res σ' obs h b;unfold T2 at h;split at h
 ·split at h
  ·cases h
  rename_i c d a
  cases h;exact(ui _ ).args (λ_ vs=>bC.imp (λ_=>cF.hY a b) (λ_ r=>r) vs)
 ·cases h
def Yl:List (Nat×c7):=(54,T2)::P5
end R1
end Go.AM
namespace Go.AM.R1
open Go.Proofs
variable {X:Cx Tryz.prog}
def j8(t:Bs):List Bs:=if dG t then pieces t else []
def KN(t:Bs)(f:Nat)(acc:List Bs):Prop:=∃ k,fg t t.length 0=acc++fg t k f/\t.length<=f+k/\acc.length<=f
theorem Cc:dw X 79 (nn aS (λs=>dB (dG s)) λ_=>[]):=.vP λs _=>uh s
def Gp:c7:=λargs σ=>match args,σ with
 |[.e (.one (.c (.str t)))],[]=>some (.e (.one (.c (KM t))),[],[])
 |_,_=>none
theorem Mt:dw X 133 Gp:=by
 intro args σ res σ' obs h a;unfold Gp at h;split at h
 ·cases h;exact Jm _
 ·cases h
theorem Dh(t:Bs):Ev X 81 [dS t] [] (cS.sl (j8 t)) []:=by
 refine(cf.Ai (ι:=Unit) (σ':=λ_=>[]) (res:=λ_=>cS.sl (j8 t)) Tryz.func81 rfl rfl rfl λu=>?_).tm
 have l:aY X [(79,nn aS (λs=>dB (dG s)) λ_=>[])]:=.cons Cc .nil
 refine nm.seq (AW.top (AK.of_code ?_));refine ah l [] 100 rfl ab ?_;refine nm.seq (AW.top (AK.of_code ?_));cases h:dG t with
 |false =>
  refine ah l [(8,true)] 100 rfl ?_ (AK.ret ⟨(),cv.zero rfl ?_⟩)
  ·simp[aa,h]
  ·simp[aa,aa.cat,j8,h]
 |true =>
  have b:=h;simp only[dG,bq,av] at b;refine ah l [(8,false)] 100 rfl ?_ ?_
  ·simp[aa,h]
  refine nm.seq (AW.top (AK.of_code ?_));refine ah l [] 100 rfl ab ?_;refine nm.seq (nm.seq (AW.top (AK.of_code (AK.hZ 1 0 9 1 (cS.fn []) rfl rfl ?_))));refine ah (.cons Mt .nil) [] 100 rfl ab ?_;refine nm.block ?_;refine nm.rangeFunc (capD:=fO [.rp [.str t]]) (bg.callee rfl) (Dg (T:=List Bs) t b.2 (by omega) (λ_=>.cells 9 [.c (.str t)]) (λacc=>.cells 83 [.vec 2 1 acc.length (cS.fn acc)]) (λacc=>.vec 9 1 acc.length (cS.fn acc)) (KN t) [] ?_ (λt=>⟨by simp,by simp,by simp⟩) ?_) (λi=>⟨rfl,by simp⟩) λi=>⟨.normal,rfl,?_⟩
  ·exact⟨t.length,by simp,by omega,by simp⟩
  ·rintro f acc hf hR;have g:=nS t f hf;refine Yields.intro (j:=none) rfl rfl rfl rfl (AK.of_code ?_);refine aA rfl ab ?_;refine⟨rfl,rfl,AK.of_code ?_⟩;refine aA rfl ?_ ?_
   ·obtain⟨k,_,_,p⟩:=hR;have r:=g.1;have q:=g.2.1;refine⟨rfl,rfl,?_,Int.natCast_nonneg _,Int.ofNat_le.2 (Nat.le_of_lt r),Int.ofNat_le.2 q⟩;show (acc.length+1)*16<=_;omega
   have n:KN t (cutAt t f) (acc++[(t.drop f).take (cutAt t f-f)]):=by
    obtain⟨k,m,v,p⟩:=hR;obtain⟨k',rfl⟩:∃ k',k=k'+1:=⟨k-1,by omega⟩
    refine⟨k',?_,by omega,by simp only[ba,md];omega⟩
    rw[m];simp only[fg];rw[an hf];simp
   refine⟨rfl,rfl,⟨_,n⟩,lj rfl ?_⟩;have e:qD t (some (f:Int)) (some (cutAt t f:Int))=(t.drop f).take (cutAt t f-f):=by simp[qD,List.drop_take]
   have o:au (acc.length+1) (cj acc.length (cS.fn acc) λi=>[[C.str (qD t (some (f:Int)) (some (cutAt t f:Int)))]].getD i []) (cS.fn (acc++[(t.drop f).take (cutAt t f-f)])):=by
    rw[e];exact gN.b9 cS acc _
   have a:acc.length+1=(acc++[(t.drop f).take (cutAt t f-f)]).length:=by simp
   refine aa.cat.2 ⟨by simp[aa,aa.cat],aa.cat.2 ⟨aa.cat.2 ⟨⟨a,o⟩,ab⟩,aa.cat.2 ⟨⟨a,o⟩,aa.cat.2 ⟨rfl,ab⟩⟩⟩⟩
  ·obtain⟨acc,k,m,v,p⟩:=i;have d:fg t k t.length=[]:=by cases k <;> simp[fg]
   rw[d,iV] at m;have e:j8 t=acc:=by simp only[j8,h,aX,pieces,m]
   rw[e];show nm X _ _ _ _ _;refine AW.top (AK.of_code ?_);refine aA rfl ab ?_;refine AK.ret ⟨(),cv.zero rfl ?_⟩;exact⟨rfl,au.same⟩
theorem Jn:dw X 81 (nn aS (λs=>cS.sl (j8 s)) λ_=>[]):=.vP λs _=>Dh s
theorem O6:dw X 78 (qO (aL cS) aS (λl _=>dS l.flatten) λl s=>[s=[],l.flatten.length<=140737488355328]):=.xz λl s h=>by
 obtain⟨rfl,h⟩:=h;exact Jf l h
def O7:c7:=qO (aL cS) (aL cS) (λa b=>dB (a==b)) λ_ _=>[]
theorem SC:dw X 80 O7:=.xz λa b _=>Ml a b
theorem AJ(l:List Bs)(h:l.flatten.length<=140737488355328):Ev X 53 [cS.sl l] [] (Gg (ll l)) []:=by
 refine Ev.body Tryz.func53 rfl rfl rfl λd=>?_
 have c:aY X [(78,qO (aL cS) aS (λl _=>dS l.flatten) λl s=>[s=[],l.flatten.length<=140737488355328]),(79,nn aS (λs=>dB (dG s)) λ_=>[]),(80,O7),(81,nn aS (λs=>cS.sl (j8 s)) λ_=>[])]:=.cons O6 (.cons Cc (.cons SC (.cons Jn .nil)))
 have el:cS.list l.length (cS.fn l)=l:=cS.list_fn l;cases a:dG l.flatten with
 |false =>
  refine ah c [(8,false),(9,true),(16,true)] 100 rfl ?_ (AK.aK rfl ?_)
  ·simp only[aa,el,a,cS.bu,eq_self,af,ae];simp[h,-List.length_flatten]
  ·simp[aa,aa.cat,ll,a]
 |true =>
  cases b:(pieces l.flatten==l) with
  |false =>
   refine ah c [(8,true),(9,false),(14,false),(16,true)] 100 rfl ?_ (AK.aK rfl ?_)
   ·simp only[aa,el,cS.list_fn,a,cS.bu];simp[h,j8,a,b,-List.length_flatten]
   ·simp[aa,aa.cat,ll,b]
  |true =>
   refine ah c [(8,true),(9,false),(14,true),(16,false)] 100 rfl ?_ (AK.aK rfl ?_)
   ·simp only[aa,el,cS.list_fn,a,cS.bu];simp[h,j8,a,b,-List.length_flatten]
   ·simp[aa,aa.cat,ll,a,b,el]
end Go.AM.R1
namespace Go.AM.R1
open Go.Proofs Go.Conc Go.Conc.Lib Go.ConcR.Gen
open Go.ConcN (WgLive PayAt Has RW AtR0)
open Go.ConcN.Gen
open Go.ConcR (KK WgAt stA smA rd wr mk Payload DC0)
theorem Gt:Gq=#[{ dst:=none,op:=.defer { callee:=.value (.func 75),args:=#[.tmp 0],argTypes:=#[128] },type:=0,pos:= "l12_snap.go:81",after:=#[],guard:=none }]:=by kernel_rfl
def bW(a:Value):Frame:={ baseD 74 with defers:=[dcall 75 #[a]] }
abbrev tW(v0 v1 v2 v3 v4 v5:Value):Array Value:=#[v0,v1,v2,v3,v4,v5,undef,undef,undef,undef,undef,undef,undef]
theorem Mx(v0 v1 v2 v3 v4 v5:Value)(w:World):Goes Tryz.prog false (λ_ _=>True) DC0 (λg _=>g=G ((bW v0).aT ⟨tW v0 v1 v2 v3 v4 v5,[]⟩ [.code (.region 1 Gr true)]) [r5]) 8 (born Tryz.prog (uk #[v0,v1,v2,v3,v4,v5])) w:=by
 have b:True:=ab;have a:True->True->True:=λ_ _=>trivial
 refine Goes.step rfl (λw1 h1=>?_)
 rw[Dm];simp only[goes_go];refine⟨⟨rfl,rfl⟩,?_⟩;clear h1;rw[Gt]
 u_c stepG_seq a b
 u_reg a b
 u_defer a b
 u_c stepG_region_end a b
 exact Goes.stop λ_ _=>rfl
theorem SD(T:Array Value):QuitsD Tryz.prog 2 0 (G { (baseD 74).at ⟨T,[]⟩ [] with mode:=.returning } [r5]):=by
 have a:Tryz.f74.results=#[]:=by kernel_rfl
 refine QuitsD.ctl (g':=G r5 []) rfl (λw=>?_) ?_
 ·simp[G,stepG,unwind,doReturn,results,Frame.at,baseD,r5,Tryz.func74,a,seen,GStep.after,goexitEntry]
 refine QuitsD.ctl (g':={ G r5 [] with status:=.finished }) rfl (λw=>?_) ⟨rfl,rfl⟩
 simp[G,stepG,unwind,r5,goexitEntry,Frame.catches];rfl
section
variable {Y:Lay}{n:Nat}{val:Nat->Nat->Value}
theorem tailW(x:Nat)(d:Y.kc=2)(T:Array Value)(w:World)(a:WgLive 128 Y.Wg w/\Has Y.C (Y.kc*x+1-1) (val x 0) w) :
  ∃ m,Goes Tryz.prog false (RW 128 Y.Wg Y.C (2*n) 0 (Y.kc*x+1-1)) DC0 (AtR0 Tryz.prog 128 Y.Wg Y.C (2*n) 0 (Y.kc*x+1) (val x 0)) m (G ((bW (.pointer (some ⟨Y.Wg,0,none⟩))).aT ⟨T,[]⟩ [.inRegion rZ.toArray []]) [r5]) w:=by
 refine⟨26,?_⟩;have e:(bW (.pointer (some ⟨Y.Wg,0,none⟩))).aT ⟨T,[]⟩ [.inRegion rZ.toArray []]=(baseD 74).at ⟨T,[dcall 75 #[.pointer (some ⟨Y.Wg,0,none⟩)]]⟩ [.inRegion rZ.toArray []]:=rfl;rw[e]
 u_c stepG_region_end kn_rely a
 u_c stepG_end kn_rely a
 u_in kn_rely a
 rw[stepG_unwind_enter (c:=body_done KP) rfl y4.f_done (by kernel_rfl) (by kernel_rfl)]
 simp only[goes_go];refine⟨by u_nil,?_⟩
 have b:=Pa (P:=Tryz.prog) (L:=KP) (Wg:=Y.Wg) (C:=Y.C) (n:=2*n) (Low:=0) (x:=Y.kc*x+1) (val:=val x 0) (c:={ (baseD 74).at ⟨T,[]⟩ [] with mode:=.returning }) (cs:=[r5]) y4 rfl (SD T) _ a;exact b
theorem rd_str{M:Mem}{v:Value}{l:Bs}(h:Rd M v (.str l)):v=.string ⟨l.toArray⟩:=by
 cases h with
 |str h1 h2=>rw[<-h1]
theorem rd_bool{M:Mem}{v:Value}{b:Bool}(h:Rd M v (.bool b)):v=.bool b:=by cases h;rfl
def NJ:Oper:=oW none (.store 131 (.tmp 12) (.tmp 11)) 0 #[⟨6,.data⟩,⟨5,.data⟩,⟨5,.chain⟩,⟨0,.phase⟩,⟨1,.phase⟩,⟨2,.phase⟩,⟨3,.phase⟩,⟨4,.phase⟩,⟨5,.phase⟩]
set_option maxHeartbeats 1000000 in
theorem Pb{x:Nat}(hx:x<n)(p:Y.kc=2){k:Int}{ps:List a9}{N:Int}(H:val x 0=.string ⟨((dx k ps N).getD []).toArray⟩)(E:val x 1=.bool (dx k ps N).isSome){s:St}{T:Array Value}
  (t:cd [] s (T.getD 12 undef) (xW k ps N n x Y.C 6)) (r:cd [] s (T.getD 11 undef) (Qy (dx k ps N))) :
  Fe Tryz.prog 128 Y (2*n) val x (G ((bW (.pointer (some ⟨Y.Wg,0,none⟩))).aT ⟨T,[]⟩ [.inRegion rZ.toArray [7]]) [r5]) s:=by
 have t:T.getD 12 undef=.pointer (some ⟨Y.C,x*2,none⟩):=Rd.fD t;have r:T.getD 11 undef=.agg #[val x 0,val x 1]:=by
  obtain⟨vs,Z,g⟩:=r
  match vs,g with
  |[],g=>exact g.elim
  |[_],g=>exact g.2.elim
  |_::_::_::_,g=>exact g.2.2.elim
  |[u0,u1],g =>
   rw[Z,rd_str g.1,rd_bool g.2.1,H,E]
 refine⟨rfl,λw1 hr Fo Gu=>?_⟩
 obtain⟨cs,c,Q⟩:=Fo;have B:Y.kc*x=x*2:=by rw[p];omega
 have L:∀ v∈[val x 0,val x 1],v.oneCell'=true:=by
  intro v W;simp only[dr,pz,or_false] at W;rcases W with rfl|rfl
  ·rw[H];rfl
  ·rw[E];rfl
 have d:x*2+0+[val x 0,val x 1].length<=cs.size:=by simp;omega
 have q:=run_storeCells_at Tryz.prog Y.C (x*2) 131 [val x 0,val x 1] 0 cs w1 c d L;simp only[gm,cM,ef,aw] at q;generalize m:(cs.toList.take (x*2)++[val x 0,val x 1]++cs.toList.drop (x*2+2)).toArray=new at q;have P:new.size=cs.size:=by
  rw[<-m];simp;simp at d;omega
 have z:=setRow_heap w1 Y.C cs new 131 (0,0) c;have f:∀ o,(w1.setRow Y.C new).cell? ⟨Y.C,o,none⟩=new[o]?:=λo=>cell_setRow_same w1 Y.C o cs new 131 (0,0) c
 have u:∀ o,w1.cell? ⟨Y.C,o,none⟩=cs[o]?:=λo=>by simp[World.cell?,c]
 have J:∀ i,i<2->new[x*2+i]?=some (val x i):=by
  intro i hi;rw[<-m];have O:(cs.toList.take (x*2)).length=x*2:=by simp;simp at d;omega
  rw[di];simp only[il];rw[ck (by omega),O]
  match i,hi with
  |0,_=>simp
  |1,_=>simp
 have I:∀ o,(o<x*2∨x*2+2<=o)->new[o]?=cs[o]?:=by
  intro o A;rw[<-m];have O:(cs.toList.take (x*2)).length=x*2:=by simp;simp at d;omega
  rw[di];simp only[il];rcases A with A|A
  ·rw[bc (by omega),de]
   simp[A]
  ·rw[ck (by omega),O,ck (by simp;omega)]
   simp only[cM,ef,l9];rw[show x*2+2+(o-x*2-(0+1+1))=o by omega]
   simp
 have F:(Value.agg #[val x 0,val x 1]).cells=#[val x 0,val x 1]:=rfl;have K:(execOp (⟨T,[]⟩:Act).eval NJ).run Tryz.prog w1=.ok .skip (w1.setRow Y.C new):=by
  have y:(⟨T,[]⟩:Act).eval (.tmp 12)=.pointer (some ⟨Y.C,x*2,none⟩):=t;have D:(⟨T,[]⟩:Act).eval (.tmp 11)=.agg #[val x 0,val x 1]:=r;simp[execOp,NJ,oW,y,D,Instr.storeAt,Instr.sureAddr,storeVar,(tok 131 i131 rfl).run_sizeOf,i131,F,q]
 have l:∀ e∈(execOp (⟨T,[]⟩:Act).eval NJ).events Tryz.prog w1 #[],∃ j,j<2/\e=CE Y.C (x*2+j):=by
  intro U l;have y:(⟨T,[]⟩:Act).eval (.tmp 12)=.pointer (some ⟨Y.C,x*2,none⟩):=t;have D:(⟨T,[]⟩:Act).eval (.tmp 11)=.agg #[val x 0,val x 1]:=r;have e:execOp (⟨T,[]⟩:Act).eval NJ=(do storeVar 131 ⟨Y.C,x*2,none⟩ (.agg #[val x 0,val x 1]);pure .skip):=by simp[execOp,NJ,oW,y,D,Instr.storeAt,Instr.sureAddr]
  rw[e] at l;have M:U∈(storeCells ⟨Y.C,x*2,none⟩ [val x 0,val x 1]).events Tryz.prog w1 #[]:=by
   simp only[storeVar,Sem.events_bind,(tok 131 i131 rfl).run_sizeOf,i131,F,Result.evThen_ok,events_sizeOf,bY,aW,bm,bP,Sem.events_pure] at l;simpa[q] using l
  rcases eh [val x 0,val x 1] 0 cs w1 #[] c d L U M with R|⟨j,_,S,rfl⟩
  ·simp at R
  ·exact⟨j,by simpa using S,rfl⟩
 have w:WgLive 128 Y.Wg (w1.setRow Y.C new):=by
  obtain⟨st,V,h⟩:=Gu;refine⟨st,V,?_⟩;show (w1.setRow Y.C new).heap[Y.Wg]?=_;rw[setRow_other w1 Y.C Y.Wg new ?_]
  ·exact h
  ·intro e;have g:w1.heap[Y.Wg]?=some (Go.ConcR.wgBlock 128 st V):=h;rw[e,c] at g;simp[Go.ConcR.wgBlock] at g;exact absurd g.2 (by decide)
 refine⟨_,w1.setRow Y.C new,_,Bp (b:=bW (.pointer (some ⟨Y.Wg,0,none⟩))) (a:=⟨T,[]⟩) (k:=[]) (ops:=rZ.toArray) (i:=7) (rest:=[]) (o:=NJ) rfl rfl (by simp[bW,baseD]) K,?_,?_,?_⟩
 ·refine⟨rfl,rfl,rfl,by simp,λb hb=>setRow_other w1 Y.C b new hb,⟨new,z,by rw[P,Q]⟩,λo A=>?_,λi hi=>?_⟩
  ·rw[f,u];rw[B,p] at A;exact I o A
  ·rw[p] at hi;rw[f,B];exact J i hi
 ·intro e X;obtain⟨j,S,rfl⟩:=l e (Go.Conc.mem_seen X);exact⟨x*2+j,rfl,by omega,by omega⟩
 ·exact tailW x p T _ ⟨w,by show (w1.setRow Y.C new).cell? _=_;rw[f,kV,B];exact J 0 (by omega)⟩
theorem worker{k:Int}(j:dw (Cx.work Tryz.prog) 76 (uf k)){x:Nat}(q:x<n)(f:Y.kc=2){ps:List a9}{d:Int}(i:val x 0=.string ⟨((dx k ps d).getD []).toArray⟩)(e:val x 1=.bool (dx k ps d).isSome)
  {s:St} (y:ag [] s) (F:s.β=[]) {v1 v2 v3 v4 v5:Value} (r:Rd s.M v1 (.rp [.int .i64 k])) (v:Rd s.M v2 (.rp [.sl false 2 ps.length (cP.fn ps)])) (m:Rd s.M v3 (.rp [.int .i64 d]))
  (o:Rd s.M v4 (.rp [.val (.slice (some ⟨Y.C,0,none⟩) n n)])) (u:Rd s.M v5 (.rp [.int .i64 x])) :
  dh (Cx.work Tryz.prog) E0 (Fe Tryz.prog 128 Y (2*n) val x) (born Tryz.prog (uk #[.pointer (some ⟨Y.Wg,0,none⟩),v1,v2,v3,v4,v5])) s:=by
 refine dh.goes (X:=Cx.work Tryz.prog) (R:=λ_ _=>True) (D:=DC0) (Stop:=λg _=>g=G ((bW (.pointer (some ⟨Y.Wg,0,none⟩))).aT ⟨tW (.pointer (some ⟨Y.Wg,0,none⟩)) v1 v2 v3 v4 v5,[]⟩ [.code (.region 1 Gr true)]) [r5])
  (λb=>ag [] b/\b.M=s.M) (λb s2 h p=>⟨h.1.rely p,p.M.trans h.2⟩) (λ_ _ _ _=>trivial) ?_ (λb h=>br.tD h.1.mem) ?_ 8 _ s ⟨y,rfl⟩ (Mx _ _ _ _ _ _ _)
 ·rintro b es h w' ⟨rfl,rfl⟩;exact⟨rfl,.inl (.quiet h.1)⟩
 ·rintro g b ⟨l,w⟩ rfl;rw[Jp];refine dn.Wo (λ_ _ _ h=>h) ?_
  refine(O9 j ps d n x Y.C q (.pointer (some ⟨Y.Wg,0,none⟩))).region (by kernel_rfl) (by simp[bW,baseD]) ⟨by simp[tW],⟨[],ab⟩,λt=>?_⟩ rfl l λs2 a z c A B st=>.stop ?_
  ·rw[<-w] at r v m o u
   match t with
   |0=>exact Rd.val rfl
   |1=>exact r
   |2=>exact v
   |3=>exact m
   |4=>exact o
   |5=>exact u
   |t+6=>trivial
  ·obtain⟨T,E⟩:=a;obtain rfl:E=[]:=A;exact Pb q f i e (c 12) (c 11)
end
end Go.AM.R1
namespace Go.AM.R1
open Go.Proofs Go.Conc Go.Conc.Lib
open Go.ConcN (WgLive PayAt Has RW AtR0)
open Go.ConcR (KK WgAt stA smA rd wr mk Payload DC0)
def um:Code->Code|.seq a _=>a|c=>c
def jE:Code->Code|.seq _ a=>a|c=>c
def Pc:Code->Code|.block _ a=>a|c=>c
def SE:Code->Code|.loop a=>a|c=>c
def My:Code->Array Oper|.region _ o _=>o|_=>#[]
noncomputable def AN:Code:=(Tryz.f52.body).getD .skip
noncomputable def gv:Code:=SE (Pc (jE (um (jE (jE (jE AN))))))
noncomputable def U2:Code:=um gv
noncomputable def Mz:Code:=Pc (um (jE (jE gv)))
noncomputable def U3:Code:=um Mz
noncomputable def xE:Array Oper:=My (um (jE Mz))
noncomputable def vf:Array Oper:=My (jE (jE Mz))
noncomputable def H6:Code:=jE (jE (jE gv))
noncomputable def lZ:Code:=jE (jE (jE (jE AN)))
noncomputable def vg:Array Oper:=My (um lZ)
noncomputable def oL:Code:=jE lZ
theorem y5:gv=.seq U2 (.seq (.cond (.tmp 21) .skip (.exit 0)) (.seq (.block 1 (.seq U3 (.seq (.region 6 xE false) (.region 7 vf false)))) H6)):=by kernel_rfl
theorem Gv:lZ=.seq (.region 9 vg false) oL:=by kernel_rfl
def NQ(j:Fr)(σ1:List aj):Post:=λe φ σ=>e=.normal/\oE φ j/\σ=σ1
structure At (σ0:List aj)(s0:St)(φ:Fr)(σ:List aj)(a:Act)(s:St):Prop where
 fr:bg 45 σ s φ a
 hh:ag σ s
 st:bo σ0 s0 σ s
section
variable {σ0:List aj}{s0:St}{φ j:Fr}{σ σ1:List aj}{a:Act}{s:St}
theorem At.rely(h:At σ0 s0 φ σ a s){d:St}(c:br s d):At σ0 s0 φ σ a d:=⟨h.fr.rely c h.hh,h.hh.rely c,h.st.trans c.stepW⟩
structure H7 (b:Nat)(s:St):Prop where
 own:¬s.own b
 β:∀ L∈s.β,b∉L.bs
 M:∀ o,s.M b o=none
 lt:b<s.w.heap.size
theorem H7.step{b:Nat}(h:H7 b s0)(st:bo σ0 s0 σ s):H7 b s :=
 ⟨by rw[st.own];exact h.own,λL e d=>by
  rcases st.rM L e b d with h1|⟨f,c,h1⟩
  ·have:=h.lt;omega
  ·exact h.β f c h1,λo=>by rw[st.ij b h.lt h.β];exact h.M o,bF h.lt st.size⟩
theorem At.apart{Wg:Nat}(d:H7 Wg s0):Apart Wg (At σ0 s0 φ σ a) :=
 ⟨λ_ _ h e=>h.rely e,λ_ h=>⟨σ,h.hh⟩,λ_ h=>let c:=d.step h.st;⟨c.own,c.β,c.M⟩⟩
variable {X:Cx Tryz.prog}{S:Goroutine->St->Prop}{b:Frame}{k:List Item}{cs:List Frame}
theorem At.ctl(h:At σ0 s0 φ σ a s){g g':Goroutine}(d:g.status=.running)(e:∀ w,stepG Tryz.prog X.main g w=.go g' w #[])(kk:∀ c,At σ0 s0 φ σ a c->dn X S g' c):dn X S g s :=
 .ctl h.hh d e λc h1=>kk c (h.rely h1)
theorem At.code(h:At σ0 s0 φ σ a s)(l:b.kind≠.early){c:Code}(m:AW X 45 c (NQ j σ1) φ σ)(kk:∀ g f,At σ0 s0 j σ1 g f->dn X S (G (b.aT g k) cs) f):dn X S (G (b.aT a (.code c::k)) cs) s:=by
 refine m s a h.fr h.hh b k cs S l ?_;rintro e i σ' s' a' ⟨rfl,hl,rfl⟩ o n d;exact kk a' s' ⟨o.le hl,n,h.st.trans d⟩
end
theorem dn.live{Wg:Nat}{E:St->St->Array Event->Prop}{S:Goroutine->St->Prop}{g:Goroutine}{s:St}(h:dn (Cx.lead Tryz.prog 128 Wg) S g s)(f:Clear (λb=>b=Wg) s)(hl:WgLive 128 Wg s.w) :
  dh (Cx.lead Tryz.prog 128 Wg) E (λg s=>S g s/\WgLive 128 Wg s.w) g s:=by
 induction h with
 |stop h=>exact⟨.leaf,h,hl⟩
 |@step g s r ns ne hr h1 h2 _ l =>
  refine .step hr λi c=>?_
  have p:=c.2 hl;have d:Clear (λb=>b=Wg) i:=⟨λb e=>by rw[c.1.own];exact f.own b e,λb e=>by rw[c.1.β];exact f.β b e,λb e o=>by rw[c.1.M];exact f.M b e o,λb e=>bF (f.lt b e) c.1.size⟩
  obtain⟨⟨σ,σ',hh,m,st⟩,n⟩:=h2 i c;refine⟨_,_,_,h1 i c,.inl ⟨⟨σ,σ',hh,m,st⟩,n⟩,l i c (d.step st) ?_⟩;obtain⟨x,y,q⟩:=p;exact⟨x,y,by show (ns i).w.heap[Wg]?=_;rw[st.eC Wg (d.lt Wg rfl) (d.β Wg rfl)];exact q⟩
 |ghost hg _ l=>exact .ghost hg (l (f.ghost hg) (by rw[hg.w];exact hl))
 |forget hx _ _ _=>exact hx.elim
 |rN hj _ _=>exact hj.elim
theorem H7.clear{Wg:Nat}{s:St}(h:H7 Wg s):Clear (λb=>b=Wg) s:=⟨λb e=>e▸h.own,λb e=>e▸h.β,λb e=>e▸h.M,λb e=>e▸h.lt⟩
section
variable (k:Int)(ps:List a9)(ns:List Int)(C Wg:Nat)
def lI(i:Nat):Fr:=[(3,.e (.one (.c (.rp [.int .i64 k])))),(4,.e (.one (.c (.rp [.sl false 2 ps.length (cP.fn ps)])))),(8,.e (.one (.c (.rp [.val (.slice (some ⟨C,0,none⟩) ns.length ns.length)])))),(9,.e (.one (.v (.pointer (some ⟨Wg,0,none⟩))))),
 (18,cI.sl ns),(19,dI ns.length),(20,dI i)]
variable {k ps ns C Wg}{X:Cx Tryz.prog}{σ:List aj}
theorem U4{i:Nat}(hi:i<=ns.length):AW X 45 U2 (NQ ((21,dB (decide (i<ns.length)))::lI k ps ns C Wg i) σ) (lI k ps ns C Wg i) σ:=by
 refine AK.of_code ?_
 by_cases h:i<ns.length
 ·refine aq [(21,true)] 100 rfl ?_ ⟨rfl,cR rfl ?_,rfl⟩
  ·simp[aa];omega
  ·simp[aa.cat,aa,h,au.same]
 ·refine aq [(21,false)] 100 rfl ?_ ⟨rfl,cR rfl ?_,rfl⟩
  ·simp[aa];omega
  ·simp[aa.cat,aa,h,au.same]
abbrev d5:List aj:=[.dead,.dead,.dead,.dead,.dead]
theorem Xo{i:Nat}(hi:i<ns.length):AW X 45 U3 (NQ ((10,.e (.one (.ptr 5 0)))::(11,.e (.one (.ptr 6 0)))::lI k ps ns C Wg i) [.dead,.dead,.dead,.dead,.dead,.cells 3 [.c (.int .i64 i)],.cells 3 [.c (.int .i64 (ns.getD i 0))]]) (lI k ps ns C Wg i) d5:=by
 refine AK.of_code ?_;refine aA rfl ?_ ⟨rfl,cR rfl ?_,?_⟩
 ·simp[aa];omega
 ·simp[aa.cat,aa,au.same]
 ·simp[cI]
theorem Xp{i:Nat}(hi:i<ns.length)(c:ns.length<=1000000):AW X 45 H6 (NQ (lI k ps ns C Wg (i+1)) d5) (lI k ps ns C Wg i) d5:=by
 refine AK.of_code ?_;refine aA rfl ?_ ⟨rfl,cR rfl ?_,rfl⟩
 ·simp[aa,aJ];omega
 ·simp[aa.cat,aa,au.same]
variable {σ0:List aj}{s0:St}{S:Goroutine->St->Prop}{b:Frame}{kk:List Item}{cs:List Frame}
abbrev d7:List aj:=[.dead,.dead,.dead,.dead,.dead,.dead,.dead]
variable (k ps ns C Wg) in
abbrev pf(i:Nat):Fr:=(11,.e (.one (.c (.rp [.int .i64 (ns.getD i 0)]))))::(10,.e (.one (.c (.rp [.int .i64 i]))))::lI k ps ns C Wg i
noncomputable abbrev qQ(kk:List Item):List Item:=.code (.region 7 vf false)::.inBlock 1::.code H6::.inLoop gv::.inBlock 0::kk
theorem sY{P:Program}{main:Bool}{b:Frame}{a:Act}{k:List Item}{cs:List Frame}{w:World}{c x y:Code}(h:c=.seq x y):stepG P main (G (b.aT a (.code c::k)) cs) w=.go (G (b.aT a (.code x::.code y::k)) cs) w:=by
 subst h;exact mx
theorem toAdd{i:Nat}(hi:i<ns.length)(m:b.kind≠.early){a:Act}{s:St}(h:At σ0 s0 (lI k ps ns C Wg i) d5 a s)
  (K:∀ n l,At σ0 s0 (pf k ps ns C Wg i) d7 n l->dn X S (G (b.aT n (.inRegion xE [0]::qQ kk)) cs) l) :
  dn X S (G (b.aT a (.code gv::.inLoop gv::.inBlock 0::kk)) cs) s:=by
 refine h.ctl rfl (λw=>sY y5) λs h=>?_
 refine h.code m (U4 (Nat.le_of_lt hi)) λa s h=>?_
 refine h.ctl rfl (λw=>mx) λs h=>?_
 have q:a.eval (.tmp 21)=.bool true:=by
  have:=h.fr.slot 21;simp only[hi,mn] at this;exact rd_bool (eX this)
 refine h.ctl rfl (λw=>sK q) λs h=>?_
 refine h.ctl rfl (λw=>Bm) λs h=>?_
 refine h.ctl rfl (λw=>mx) λs h=>?_
 refine h.ctl rfl (λw=>pL) λs h=>?_
 refine h.ctl rfl (λw=>mx) λs h=>?_
 have h:At σ0 s0 (lI k ps ns C Wg i) d5 a s:=⟨h.fr.le (cR rfl (by simp[aa.cat,aa,au.same])),h.hh,h.st⟩
 refine h.code m (Xo hi) λa s h=>?_
 obtain⟨l,w1,o,d,f⟩:=bg.freeze 10 5 (E:=3) (cs:=[.c (.int .i64 i)]) (cc:=[.int .i64 i]) rfl rfl rfl h.fr h.hh;refine .ghost (.of h.hh d w1 (f.lD h.hh)) ?_;obtain⟨s2,w2,p,g,e⟩:=bg.freeze 11 6 (E:=3) (cs:=[.c (.int .i64 (ns.getD i 0))]) (cc:=[.int .i64 (ns.getD i 0)]) rfl rfl rfl o d;refine .ghost (.of d g w2 (e.lD d)) ?_;have h:At σ0 s0 (pf k ps ns C Wg i) d7 a s2:=⟨p.le (cR rfl (by simp[aa.cat,aa,au.same])),g,h.st.trans ((f.lD h.hh).trans (e.lD d))⟩
 refine h.ctl rfl (λw=>mx) λs h=>?_
 refine h.ctl rfl (λw=>og) λs h=>?_
 exact K a s h
def o6:Oper:={ dst:=some 25,op:=.call { callee:=.value (.func 73),args:=#[.tmp 9,.const (.int .i64 1)],argTypes:=#[128,3] },type:=0,pos:= "l12_snap.go:79",after:=#[],guard:=none }
theorem Cf:xE=#[o6]:=by kernel_rfl
theorem Gw{i:Nat}(m:b.kind≠.early){a:Act}{s:St}(h:At σ0 s0 (pf k ps ns C Wg i) d7 a s)
  (K:∀ c,At σ0 s0 (pf k ps ns C Wg i) d7 a c->dn X S (G (Frame.enter Tryz.prog 73 #[.pointer (some ⟨Wg,0,none⟩),.int .i64 1] .normal) (b.aT a (.inRegion xE [0]::qQ kk)::cs)) c) :
  dn X S (G (b.aT a (.inRegion xE [0]::qQ kk)) cs) s:=by
 refine .next rfl λc e=>?_
 have d:=h.rely (X.fz e);have p:a.eval (.tmp 9)=.pointer (some ⟨Wg,0,none⟩):=Rd.fD (d.fr.slot 9);have g:(execOp a.eval o6).run Tryz.prog c.w=.ok (.enter 73 #[.pointer (some ⟨Wg,0,none⟩),.int .i64 1]) c.w:=by
  have:=run_call_body (P:=Tryz.prog) (a:=a) (w:=c.w) (o:=o6) (f:=73) (fn:=Tryz.f73) rfl Tryz.func73 (by kernel_rfl) (by kernel_rfl)
  rw[this,<-p];simp only[List.map_toArray,j0,List.map_nil];rfl
 have l:(execOp a.eval o6).events Tryz.prog c.w #[]=#[]:=events_call_body (P:=Tryz.prog) (a:=a) (w:=c.w) (o:=o6) (f:=73) (fn:=Tryz.f73) rfl Tryz.func73 (by kernel_rfl) (by kernel_rfl) #[]
 have n:listed Tryz.prog b.fn a o6 c.w=#[]:=by unfold listed;rw[l];exact seen_none _ _
 refine⟨_,c,#[],?_,.quiet d.hh,K c d⟩;have:=nv (P:=Tryz.prog) (main:=X.main) (b:=b) (a:=a) (k:=qQ kk) (cs:=cs) (w:=c.w) (ops:=xE) (i:=0) (rest:=[]) (o:=o6) (by rw[Cf];rfl) rfl m g
 rw[n] at this;exact this
def Pd:Oper:={ dst:=some 26,op:=.makeFunc (.func 74) #[] #[.tmp 9,.tmp 3,.tmp 4,.tmp 11,.tmp 8,.tmp 10],type:=1,pos:= "l12_snap.go:80",after:=#[],guard:=none }
def Jr:Oper:={ dst:=none,op:=.go { callee:=.value (.tmp 26),args:=#[],argTypes:=#[] },type:=0,pos:= "l12_snap.go:80",after:=#[⟨0,.data⟩],guard:=none }
theorem Cg:vf=[Pd,Jr].toArray:=by kernel_rfl
variable (k ps ns C Wg) in
abbrev AO(i:Nat):AM.C:=.fn (.func 74) [] [.val (.pointer (some ⟨Wg,0,none⟩)),.rp [.int .i64 k],.rp [.sl false 2 ps.length (cP.fn ps)],.rp [.int .i64 (ns.getD i 0)],.rp [.val (.slice (some ⟨C,0,none⟩) ns.length ns.length)],.rp [.int .i64 i]]
theorem Pe{i:Nat}:OA X 45 [Pd,Jr] Pd ((25,.any)::pf k ps ns C Wg i) d7 (.e (.one (.c (AO k ps ns C Wg i)))) d7:=by
 have h:BF tt [] [] [Pd,Jr] ((25,.any)::pf k ps ns C Wg i) d7 Pd=some (.e (.one (.c (AO k ps ns C Wg i))),none,[]):=rfl;exact gp tok aY.nil h ab
theorem SF{i:Nat}(p:b.kind≠.early){a:Act}{s:St}(h:At σ0 s0 (pf k ps ns C Wg i) d7 a s)
  (K:∀ v m c,At σ0 s0 (pf k ps ns C Wg i) d7 m c->Rd c.M v (AO k ps ns C Wg i)->m.tmps.getD 26 undef=v->dn X S (G (b.aT m (.inRegion vf [1]::.inBlock 1::.code H6::.inLoop gv::.inBlock 0::kk)) cs) c) :
  dn X S (G (b.aT (a.put (some 25) (.tuple #[])) (.inRegion xE []::qQ kk)) cs) s:=by
 have o:At σ0 s0 ((25,.any)::pf k ps ns C Wg i) d7 (a.put (some 25) (.tuple #[])) s:=⟨h.fr.put (by decide) ab,h.hh,h.st⟩
 refine o.ctl rfl (λw=>ei) λs h=>?_
 refine h.ctl rfl (λw=>og) λs h=>?_
 rw[Cg];refine Pe s _ h.fr h.hh b _ cs S 0 [1] p rfl λv c l g e=>?_
 have l:Rd c.M v (AO k ps ns C Wg i):=eX l;have n:=((h.fr.mono e h.hh.len).put (d:=26) (v:=v) (x:=.any) (by decide) ab)
 have f:26<(a.put (some 25) (.tuple #[])).tmps.size:=by rw[h.fr.size];decide
 refine K v _ c ⟨n.le (cR rfl ?_),g,h.st.trans e⟩ l (Ft f);simp[aa.cat,aa,au.same]
theorem MA{i:Nat}(hi:i<ns.length)(o:ns.length<=1000000)(c:b.kind≠.early)(e:σ0.length<=5){a:Act}{s:St}(h:At σ0 s0 (pf k ps ns C Wg i) d7 a s)
  (K:∀ m l,At σ0 s0 (lI k ps ns C Wg (i+1)) d5 m l->dn X S (G (b.aT m (.code gv::.inLoop gv::.inBlock 0::kk)) cs) l) :
  dn X S (G (b.aT a (.inRegion vf []::.inBlock 1::.code H6::.inLoop gv::.inBlock 0::kk)) cs) s:=by
 have f:bg 45 (d5++[.dead,.dead]) s (lI k ps ns C Wg i) a:=h.fr.le (cR rfl (by simp[aa.cat,aa,au.same]))
 have d:ag (d5++[.dead,.dead]) s:=h.hh;have g:bo σ0 s0 (d5++[.dead,.dead]) s:=h.st;have q:dX s (s.cut d5.length):=⟨rfl,λ_ _ _ h=>h,λ_ _ _=>rfl,d.mem,λb c=>c.imp id λ⟨L,p,c⟩=>⟨L,gH p,c⟩⟩
 refine .ghost q ?_;have h:At σ0 s0 (lI k ps ns C Wg i) d5 a (s.cut d5.length):=⟨⟨f.size,f.defers.imp λ_ n=>n.drop rfl,λt=>(f.slot t).drop (ou rfl)⟩,d.drop rfl,g.drop e⟩
 refine h.ctl rfl (λw=>ei) λs h=>?_
 refine h.ctl rfl (λw=>oX) λs h=>?_
 refine h.code c (Xp hi o) λa s h=>?_
 exact h.ctl rfl (λw=>vq) λs h=>K a s h
end
theorem uo{b:Frame}(c:b.roundOf=none)(a:Act)(t:List Item):b.aT a t=b.at ⟨a.tmps,a.defers++b.defers⟩ t:=by
 cases b;simp only at c;subst c;rfl
section
variable {k:Int}{ps:List a9}{ns:List Int}{Y:Lay}{val:Nat->Nat->Value}{σ0:List aj}{s0:St}{b:Frame}{kk:List Item}{cs:List Frame}
theorem KR{a:Act}{w:World}{c d c2 c3 c4 c5:Value}(f:a.tmps.getD 26 undef=.func (.func 74) #[] #[c,d,c2,c3,c4,c5]):(execOp a.eval Jr).run Tryz.prog w=.ok (.spawn (uk #[c,d,c2,c3,c4,c5])) w/\(execOp a.eval Jr).events Tryz.prog w #[]=#[]:=by
 have e:a.eval (.tmp 26)=.func (.func 74) #[] #[c,d,c2,c3,c4,c5]:=f
 constructor
 ·simp[execOp,Jr,resolve,Deferred.ofValue,e,uk]
 ·simp[execOp,Jr,resolve,Deferred.ofValue,e]
theorem Pf(t:dw (Cx.work Tryz.prog) 76 (uf k))(l:Y.kc=2)(e:b.roundOf=none)(B:b.kind≠.early){i:Nat}(hi:i<ns.length)
  (r:val i 0=.string ⟨((dx k ps (ns.getD i 0)).getD []).toArray⟩) (g:val i 1=.bool (dx k ps (ns.getD i 0)).isSome) {v:Value} {a:Act} {s:St} (h:At σ0 s0 (pf k ps ns Y.C Y.Wg i) d7 a s) (z:WgLive 128 Y.Wg s.w)
  (A:Rd s.M v (AO k ps ns Y.C Y.Wg i)) (x:a.tmps.getD 26 undef=v) {Next:Goroutine->St->Prop}
  (K:∀ d,At σ0 s0 (pf k ps ns Y.C Y.Wg i) d7 a d->WgLive 128 Y.Wg d.w->Next (G (b.aT a (.inRegion vf []::.inBlock 1::.code H6::.inLoop gv::.inBlock 0::kk)) cs) d) :
  AtGo Tryz.prog 128 Y (2*ns.length) val i Next (G (b.aT a (.inRegion vf [1]::.inBlock 1::.code H6::.inLoop gv::.inBlock 0::kk)) cs) s:=by
 refine⟨rfl,λd c=>?_⟩
 have u:=h.rely c.1;have m:Rd d.M v (AO k ps ns Y.C Y.Wg i):=by rw[c.1.M];exact A
 cases m with
 |fn fs cc OJ OL f1 f2 g1 g2 r1 r2 =>
 have q:fs=[]:=dq OJ;subst q;have p:cc=[f2 0,f2 1,f2 2,f2 3,f2 4,f2 5]:=by
  apply jK
  intro j;have OL:cc.length=6:=OL
  match j with
  |0=>exact g2 0 (by omega)
  |1=>exact g2 1 (by omega)
  |2=>exact g2 2 (by omega)
  |3=>exact g2 3 (by omega)
  |4=>exact g2 4 (by omega)
  |5=>exact g2 5 (by omega)
  |j+6=>rw[eQ (by omega),eQ (by simp)]
 subst p;have D:f2 0=.pointer (some ⟨Y.Wg,0,none⟩):=Rd.fD (r2 0 _ rfl);obtain⟨y,E⟩:=KR (a:=a) (w:=d.w) x;have f:Go.Conc.listed Tryz.prog b.fn ⟨a.tmps,a.defers++b.defers⟩ Jr d.w=#[]:=by
  unfold Go.Conc.listed;have:=(KR (a:=⟨a.tmps,a.defers++b.defers⟩) (w:=d.w) x).2;rw[this];exact seen_none _ _
 have n:=stepG_spawn (P:=Tryz.prog) (main:=true) (b:=b) (a:=⟨a.tmps,a.defers++b.defers⟩) (k:=.inBlock 1::.code H6::.inLoop gv::.inBlock 0::kk) (cs:=cs) (w:=d.w) (ops:=vf) (i:=1) (rest:=[]) (o:=Jr) (by rw[Cg];rfl) rfl B y rfl
 refine⟨G (b.aT a (.inRegion vf []::.inBlock 1::.code H6::.inLoop gv::.inBlock 0::kk)) cs,born Tryz.prog (uk #[f2 0,f2 1,f2 2,f2 3,f2 4,f2 5]),?_,rfl,?_,K d u (c.2 z)⟩
 ·rw[uo e,uo e,n,f];rfl
 ·rw[D];exact worker t hi l r g (s:=d.child) ⟨u.hh.mem,rfl,by simp,by simp[St.child],by simp[St.child],by simp[St.child]⟩ rfl (r2 1 _ rfl) (r2 2 _ rfl) (r2 3 _ rfl) (r2 4 _ rfl) (r2 5 _ rfl)
def o9:Oper:={ dst:=some 28,op:=.call { callee:=.value (.func 77),args:=#[.tmp 9],argTypes:=#[128] },type:=0,pos:= "l12_snap.go:85",after:=#[],guard:=none }
theorem Ch:vg=#[o9]:=by kernel_rfl
variable {X:Cx Tryz.prog}{S:Goroutine->St->Prop}
theorem MB(g:b.kind≠.early){C Wg:Nat}{a:Act}{s:St}(h:At σ0 s0 (lI k ps ns C Wg ns.length) d5 a s)
  (K:∀ j c,At σ0 s0 (lI k ps ns C Wg ns.length) d5 j c->dn X S (G (Frame.enter Tryz.prog 77 #[.pointer (some ⟨Wg,0,none⟩)] .normal) (b.aT j (.inRegion vg [0]::.code oL::kk)::cs)) c) :
  dn X S (G (b.aT a (.code gv::.inLoop gv::.inBlock 0::.code lZ::kk)) cs) s:=by
 refine h.ctl rfl (λw=>sY y5) λs h=>?_
 refine h.code g (U4 (ar _)) λa s h=>?_
 refine h.ctl rfl (λw=>mx) λs h=>?_
 have q:a.eval (.tmp 21)=.bool false:=by
  have:=h.fr.slot 21;simp only[Nat.lt_irrefl,k5] at this;exact rd_bool (eX this)
 refine h.ctl rfl (λw=>sK q) λs h=>?_
 refine h.ctl rfl (λw=>wQ (k':=.code lZ::kk) rfl) λs h=>?_
 refine h.ctl rfl (λw=>sY Gv) λs h=>?_
 refine h.ctl rfl (λw=>og) λs h=>?_
 have h:At σ0 s0 (lI k ps ns C Wg ns.length) d5 a s:=⟨h.fr.le (cR rfl (by simp[aa.cat,aa,au.same])),h.hh,h.st⟩
 refine .next rfl λc e=>?_
 have d:=h.rely (X.fz e);have n:a.eval (.tmp 9)=.pointer (some ⟨Wg,0,none⟩):=Rd.fD (d.fr.slot 9);have l:(execOp a.eval o9).run Tryz.prog c.w=.ok (.enter 77 #[.pointer (some ⟨Wg,0,none⟩)]) c.w:=by
  have:=run_call_body (P:=Tryz.prog) (a:=a) (w:=c.w) (o:=o9) (f:=77) (fn:=Tryz.f77) rfl Tryz.func77 (by kernel_rfl) (by kernel_rfl)
  rw[this,<-n];simp only[List.map_toArray,j0,List.map_nil]
 have m:(execOp a.eval o9).events Tryz.prog c.w #[]=#[]:=events_call_body (P:=Tryz.prog) (a:=a) (w:=c.w) (o:=o9) (f:=77) (fn:=Tryz.f77) rfl Tryz.func77 (by kernel_rfl) (by kernel_rfl) #[]
 have p:Go.Conc.listed Tryz.prog b.fn a o9 c.w=#[]:=by unfold Go.Conc.listed;rw[m];exact seen_none _ _
 refine⟨_,c,#[],?_,.quiet d.hh,K a c d⟩;have:=nv (P:=Tryz.prog) (main:=X.main) (b:=b) (a:=a) (k:=.code oL::kk) (cs:=cs) (w:=c.w) (ops:=vg) (i:=0) (rest:=[]) (o:=o9) (by rw[Ch];rfl) rfl g l
 rw[p] at this;exact this
section
variable (k ps ns Y σ0 s0 b kk cs)
def Qz(g:Goroutine)(s:St):Prop:=∃ a,B6 Tryz.prog KP Y (At σ0 s0 (lI k ps ns Y.C Y.Wg ns.length) d5 a) (b.aT a (.inRegion vg [0]::.code oL::kk)) cs g s
def TF(g:Goroutine)(s:St):Prop:=∃ a,TW Tryz.prog KP Y (At σ0 s0 (lI k ps ns Y.C Y.Wg ns.length) d5 a) (G (b.aT (a.put (some 28) (.tuple #[])) (.inRegion vg []::.code oL::kk)) cs) g s
end
theorem Xq(f:H7 Y.Wg s0)(c:b.roundOf=none){g:Goroutine}{s:St}(h:Qz k ps ns Y σ0 s0 b kk cs g s) :
  dh (Cx.lead Tryz.prog 128 Y.Wg) (Es Y.Wg) (AtW1 Tryz.prog 128 Y (TF k ps ns Y σ0 s0 b kk cs) (Qz k ps ns Y σ0 s0 b kk cs)) g s:=by
 obtain⟨a,h⟩:=h;have e:(vg[0]?).bind (·.dst)=some 28:=by rw[Ch];rfl
 rw[uo c] at h;refine OV (P:=Tryz.prog) (L:=KP) (b₀:=b) (a₀:=⟨a.tmps,a.defers++b.defers⟩) (ops₀:=vg) (i₀:=0) (rest₀:=[]) (k₀:=.code oL::kk) (cs:=cs) y4 (At.apart f) (λg s d=>⟨a,?_⟩) (λg s i=>⟨a,?_⟩) h
 ·rw[uo c];rw[e] at d;exact d
 ·rw[uo c];exact i
theorem Dn{P:Program}{ty:TypeId}{N n:Nat}{a:Goroutine->St->Prop}:∀ (r:Nat){g:Goroutine}{s:St},dh (Cx.lead P ty Y.Wg) (Es Y.Wg) (λg s=>Spawns P ty Y N val n a r g s) g s->Spawns P ty Y N val n a r g s
 |0,_,_,h=>dh.bind h λ_ _ x=>x
 |_+1,_,_,h=>dh.bind h λ_ _ x=>x
theorem Js(x:dw (Cx.work Tryz.prog) 76 (uf k))(q:Y.kc=2)(l:H7 Y.Wg s0)(e:b.roundOf=none)(m:b.kind≠.early)(n:σ0.length<=5)(B:ns.length<=1000000)
  (u:∀ i,i<ns.length->val i 0=.string ⟨((dx k ps (ns.getD i 0)).getD []).toArray⟩) (p:∀ i,i<ns.length->val i 1=.bool (dx k ps (ns.getD i 0)).isSome) :
  ∀ (r:Nat),r<=ns.length->∀ (a:Act) (s:St),At σ0 s0 (lI k ps ns Y.C Y.Wg (ns.length-r)) d5 a s->WgLive 128 Y.Wg s.w ->
   Spawns Tryz.prog 128 Y (2*ns.length) val ns.length (Qz k ps ns Y σ0 s0 b kk cs) r (G (b.aT a (.code gv::.inLoop gv::.inBlock 0::.code lZ::kk)) cs) s:=by
 intro r
 induction r with
 |zero =>
  intro _ a s h c;rw[k6] at h;have:=dn.live (E:=Es Y.Wg) (MB (X:=Cx.lead Tryz.prog 128 Y.Wg) (kk:=kk) (cs:=cs) (S:=λg s=>∃ a,g=G (Frame.enter Tryz.prog 77 #[.pointer (some ⟨Y.Wg,0,none⟩)] .normal) (b.aT a (.inRegion vg [0]::.code oL::kk)::cs)/\At σ0 s0 (lI k ps ns Y.C Y.Wg ns.length) d5 a s) m h λj o d=>.stop ⟨j,rfl,d⟩) (l.step h.st).clear c
  refine dh.bind this ?_;rintro g s ⟨⟨a,rfl,h⟩,c⟩;exact OX (P:=Tryz.prog) (L:=KP) (Y:=Y) y4 (At.apart l) (λg s D=>⟨a,D⟩) ⟨h,c⟩
 |succ r H =>
  intro J a s h c;have hi:ns.length-(r+1)<ns.length:=by omega
  generalize z:ns.length-(r+1)=i at h hi;have:=dn.live (E:=Es Y.Wg) (toAdd (X:=Cx.lead Tryz.prog 128 Y.Wg) (kk:=.code lZ::kk) (cs:=cs) (S:=λg s=>∃ a,g=G (Frame.enter Tryz.prog 73 #[.pointer (some ⟨Y.Wg,0,none⟩),.int .i64 1] .normal) (b.aT a (.inRegion xE [0]::qQ (.code lZ::kk))::cs)/\At σ0 s0 (pf k ps ns Y.C Y.Wg i) d7 a s) hi m h λj o d=>Gw m d λs2 h2=>.stop ⟨j,rfl,h2⟩) (l.step h.st).clear c
  refine dh.bind this ?_;rintro g s ⟨⟨a,rfl,h⟩,c⟩;have I:(xE[0]?).bind (·.dst)=some 25:=by rw[Cf];rfl
  rw[uo e];refine Sn (P:=Tryz.prog) (L:=KP) (Y:=Y) (F:=At σ0 s0 (pf k ps ns Y.C Y.Wg i) d7 a) y4 (At.apart l) (λs A=>?_) ⟨h,c⟩
  rw[I];have:=dn.live (E:=Es Y.Wg) (SF (X:=Cx.lead Tryz.prog 128 Y.Wg) (kk:=.code lZ::kk) (cs:=cs) (S:=λg s=>∃ v a,g=G (b.aT a (.inRegion vf [1]::.inBlock 1::.code H6::.inLoop gv::.inBlock 0::.code lZ::kk)) cs/\At σ0 s0 (pf k ps ns Y.C Y.Wg i) d7 a s/\Rd s.M v (AO k ps ns Y.C Y.Wg i)/\a.tmps.getD 26 undef=v) m A.1 λv j o d y f=>.stop ⟨v,j,rfl,d,y,f⟩) (l.step A.1.st).clear A.2
  rw[uo e] at this;refine dh.bind this ?_;rintro g s ⟨⟨v,a,rfl,h,y,f⟩,c⟩;rw[z];refine⟨.leaf,Pf x q e m hi (u i hi) (p i hi) h c y f λo d t=>?_⟩
  refine Dn r ?_;have:=dn.live (E:=Es Y.Wg) (MA (X:=Cx.lead Tryz.prog 128 Y.Wg) (kk:=.code lZ::kk) (cs:=cs) (S:=λg s=>∃ a,g=G (b.aT a (.code gv::.inLoop gv::.inBlock 0::.code lZ::kk)) cs/\At σ0 s0 (lI k ps ns Y.C Y.Wg (i+1)) d5 a s) hi B m n d λj o d=>.stop ⟨j,rfl,d⟩) (l.step d.st).clear t
  refine dh.bind this ?_;rintro g s ⟨⟨a,rfl,h⟩,c⟩;refine⟨.leaf,H (by omega) a s ?_ c⟩
  rw[show ns.length-r=i+1 by omega]
  exact h
end
end Go.AM.R1
