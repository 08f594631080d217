/-
  Part 5 of a machine of values without memory, proved sound over the model, and of contracts of the functions that the laws reach. Nothing is taken for granted: no condition.
-/
import Derived.Test.YtplldmnmndnomaaGreatDoorA4
import Derived.Conc.WgGenN2
import Derived.Conc.WgGenN3
import Derived.Lib.FrozenHead
import Derived.Lib.UnsafeStr
import Derived.Lib.MakeNoZero
import Derived.Laws.Externs
import Derived.Lib.Builder
import Derived.Maps.RangeRun
import Derived.Lib.Bytealg
set_option linter.unusedVariables false
set_option linter.unusedSimpArgs false
set_option linter.defProp false
set_option linter.deprecated false
namespace Go.AM
open Go.Conc
open Go.ConcN (WD CTag Vc Ssum pend phi cnt WgLive PayAt Has RW DWs WSit RelBy sumTo upd upd_same upd_ne AtR0 isW3 isOpen OpenSt deafBehind_idle bk_cell okW_none Vc_upd Vc_le le_sumTo others_uncounted sumTo_upd_out bk_dis bk_en bk_rd bk_rw bk_sem allQuit_of exists_counted)
open Go.ConcR (KK WgAt stA smA rd wr mk Payload g_of_ofEvents Bk bk_of_mute ofEvent_loc_mark ofEvent_cell ofEvent_mk)
variable [Payload]
section
variable {P:Program}{ty:TypeId}{Y:Lay}{N:Nat}{val:Nat->Nat->Value}{n:Nat}{T k:Goroutine->St->Prop}{p hm':Nat->Nat}{u f:Nat->Mem}{j:Nat}{tag:CTag}{rk:Rk}{d:Nat}{a:Goroutine}{s:St}{w w':World}
 {E:Mu} {B:Array Goroutine} {sl:Option (Nat×Nat)} {t:Trace} {D:Nat->WD} {A:Nat->Nat} {K:Nat->Rk} {st F:Int}
theorem CS.bound(h:CS P ty Y N val n T k tag j rk d a s):j+pend tag<=n:=by
 cases h <;> simp only[pend] <;> (try simp) <;> omega
omit [Payload] in
theorem ff{S:Goroutine->St->Prop}(h:gM (Cx.lead P ty Y.Wg) (Es Y.Wg) S rk a s)(l:aX s { s with w:=w })(H:gi Y p u j s)(live:WgLive ty Y.Wg w) :
  (∃ s',aX s' { s' with w:=w }/\gi Y p u j s'/\S a s')∨∃ s',aX s' { s' with w:=w }/\gi Y p u j s'/\∃ g' s2 es r',stepG P true a w=.go g' s2.w es/\(mV { s' with w:=w } s2 es∨Es Y.Wg { s' with w:=w } s2 es)/\gM (Cx.lead P ty Y.Wg) (Es Y.Wg) S r' g' s2/\Rk.lt r' rk:=by
 rcases h.norm (λs0=>aX s0 { s0 with w:=w }/\gi Y p u j s0) (λs0 s' C hi=>⟨hi.1.ghost C,hi.2.ghost C⟩) (λG=>False.elim G) ⟨l,H⟩ with⟨s',⟨k1,c⟩,z⟩|⟨_,s',⟨k1,c⟩,z⟩
 ·exact .inl ⟨s',k1,c,z⟩
 ·exact .inr ⟨s',k1,c,z _ ⟨k1,λ_=>live⟩⟩
theorem WS.quits{x a st d:Nat}{r:Rk}{g:Goroutine}(h:WS P ty Y N val p u x a st r d g w)(b:st=1):∃ m,QuitsD P m d g:=by
 cases h with
 |am _ _ _=>cases b
 |rel _=>cases b
 |tail _ h=>exact⟨_,h.quits b⟩
theorem WS.small{x a st d:Nat}{r:Rk}{g:Goroutine}(h:WS P ty Y N val p u x a st r d g w)(b:st=1):a=0:=by
 cases h with
 |am _ _ _=>cases b
 |rel _=>rfl
 |tail _ h=>rfl
set_option maxHeartbeats 1600000 in
theorem DN(I:ox P ty Y N val n T k E B w t p u j D A K d tag rk a s st F)(hn:n<2147483648)(OC:∀ g s,k g s->cB (Cx.lead P ty Y.Wg) (Es Y.Wg) (AtW1 P ty Y T k) g s)(pw:a.status=.running) :
  ∃ W ops,runT P (crowd B w sl) 0=(.next W,ops)/\((∃ hm' f,Fin P Y N val n T hm' f W (t++ops))∨∃ μ',Ag (Y.base+n) μ' E/\Inv P ty Y N val n T k μ' W (t++ops)):=by
 have Tx:=Vc_le j D;have DJ:=I.dV.tl.base;have live:=I.dV.live;have fin:∀ {X:Prop},(∃ W ops μ',runT P (crowd B w sl) 0=(.next W,ops)/\Ag (Y.base+n) μ' E/\Inv P ty Y N val n T k μ' W (t++ops)) ->
   ∃ W ops,runT P (crowd B w sl) 0=(.next W,ops)/\((∃ hm' f,Fin P Y N val n T hm' f W (t++ops))∨∃ μ',Ag (Y.base+n) μ' E/\Inv P ty Y N val n T k μ' W (t++ops)) :=
  λ{_} ⟨W,ops,μ',l,h2,h3⟩=>⟨W,ops,l,.inr ⟨μ',h2,h3⟩⟩
 have hbound:=I.cs.bound;have cs:=I.cs;have Q:=I.wg;have O:=I.mode;cases cs with
 |@skd r rk g s hr h =>
  rcases ff h I.rely I.lead live with⟨s',k1,c,_,g',J,R⟩|⟨s',k1,c,g',s2,es,r',J,V,R,U⟩
  ·obtain⟨r2,R⟩:=R { s' with w:=w } (dA k1 live);exact fin (X:=True) (ef I k1 c (J w) (.refl Y.Wg w) Q bk_dis (.sa1 hr R) (O.reopen ab ab rfl (by simp)) (.inl (by simp only[phi];omega)))
  ·exact fin (X:=True) (fe I k1 c J V (.skd hr R) U)
 |@sa1 r rk g s hr h =>
  rcases ff h I.rely I.lead live with⟨s',k1,c,_,Z⟩|⟨s',k1,c,g',s2,es,r',J,V,R,U⟩
  ·obtain⟨ho,e1,e2,_⟩:=O.open_inv ab;rw[e1,e2] at Q;obtain⟨a',J,r2,R⟩:=Z { s' with w:=w } (dA k1 live) (Vc (n-(r+1)) D) (by omega) (by simpa[pend] using Q)
   refine fin (X:=True) (ef I k1 c J (aside_setCell w (stA Y.Wg) _) (Q.setSt _) bk_rw (.ske hr R) ?_ (.inl (by simp only[phi];omega)))
   have e:(((Vc (n-(r+1)) D:Nat):Int)+1)*KK=((Vc (n-(r+1)) D+pend (.sp r 3):Nat):Int)*KK:=by simp[pend]
   rw[e];exact .opn ab ho (by simp)
  ·exact fin (X:=True) (fe I k1 c J V (.sa1 hr R) U)
 |@ske r rk g s hr h =>
  rcases ff h I.rely I.lead live with⟨s',k1,c,_,g',J,R⟩|⟨s',k1,c,g',s2,es,r',J,V,R,U⟩
  ·obtain⟨r2,R⟩:=R { s' with w:=w } (dA k1 live);exact fin (X:=True) (ef I k1 c (J w) (.refl Y.Wg w) Q bk_en (.sgo hr R) (O.reopen ab ab rfl (by simp)) (.inl (by simp only[phi];omega)))
  ·exact fin (X:=True) (fe I k1 c J V (.ske hr R) U)
 |@sgo r rk g s hr h =>
  rcases ff h I.rely I.lead live with⟨s',k1,c,_,Z⟩|⟨s',k1,c,g',s2,es,r',J,V,R,U⟩
  ·obtain⟨a',child,TJ,_,⟨rc,TK⟩,zY⟩:=Z { s' with w:=w } (dA k1 live);obtain⟨ho,e1,e2,_⟩:=O.open_inv ab;rw[e1,e2] at Q;have qM:=runT_crowd_spawn (P:=P) (sl:=sl) (i:=0) I.a0 (by simpa using TJ)
   rw[I.dV.size] at qM;have z:gi Y p u (n-(r+1)) { s' with w:=w }:=c.rely k1.size
   let f:=upd u (n-(r+1)) s'.M
   have RS:∀ y,y<n-(r+1)->f y=u y:=λy hy=>upd_ne u _ (by omega)
   have PQ:f (n-(r+1))=s'.M:=upd_same u _ _;have J4:aX (St.child { s' with w:=w }) { St.child { s' with w:=w } with w:=w }:=aX.qJ k1.mem;have MV:jc p (f (n-(r+1))) (Y.base+(n-(r+1))) (St.child { s' with w:=w }):=by
    refine⟨λb hb=>?_,λb o v hv=>⟨.inr (by rw[PQ];exact hv),(z.M b o v hv).2.2.2.2⟩⟩
    rcases hb with hb|⟨L,hL,_⟩
    ·exact hb.elim
    ·simp[St.child] at hL
   have Ai:=(I.dV.congr RS).spawn (a':=a') (x:={ g:=0,fn:=a.frame.fn,pos:=a.frame.place,act:=.go (Y.base+(n-(r+1))) }) (y:={ g:=Y.base+(n-(r+1)),fn:=child.frame.fn,pos:=a.frame.place,act:=.start }) ⟨rfl,rfl⟩ ⟨rfl,rfl⟩
    (λb o v hv=>by rw[PQ] at hv;exact z.M b o v hv) TK J4 MV
   have eV:Vc (n-(r+1)+1) (upd D (n-(r+1)) ⟨7,0,0⟩)=Vc (n-(r+1)) D+1:=by
    simp only[Vc,sumTo,upd_same];rw[sumTo_upd_out D _ cnt (ar _)];rfl
   have eS:Ssum (n-(r+1)+1) (upd D (n-(r+1)) ⟨7,0,0⟩)=Ssum (n-(r+1)) D+7:=by
    simp only[Ssum,sumTo,upd_same];rw[sumTo_upd_out D _ WD.stage (ar _)]
   have eA:sumTo (n-(r+1)+1) (upd A (n-(r+1)) 1)=sumTo (n-(r+1)) A+1:=by
    have:sumTo (n-(r+1)) (upd A (n-(r+1)) 1)=sumTo (n-(r+1)) A:=sumTo_upd_out A 1 id (i:=n-(r+1)) (j:=n-(r+1)) (ar _);show sumTo (n-(r+1)) (upd A (n-(r+1)) 1)+upd A (n-(r+1)) 1 (n-(r+1))=_;rw[upd_same];exact b8 (·+1) this
   have OD:OpenSt (n-(r+1)+1) (upd D (n-(r+1)) ⟨7,0,0⟩):=λi hi=>by
    by_cases e:i=n-(r+1)
    ·subst e;rw[upd_same];simp
    ·rw[upd_ne D _ e];exact ho i (by omega)
   have OE:((B.setIfInBounds 0 a').push child)[0]?=some a':=by
    have h0:0<B.size:=by rw[I.dV.size];omega
    rw[nb (by simpa using h0),<-bJ,jR h0]
   have uM:gi Y p f (n-(r+1)+1) { s' with w:=w }:=⟨z.blk,z.M,λy hy b o v hv=>by
    rcases bC y (n-(r+1)) with l|l
    ·rw[RS y l] at hv;exact z.ms y l b o v hv
    ·obtain rfl:y=n-(r+1):=by omega
     rw[PQ] at hv;exact hv⟩
   have ej:n-(r+1)+1=n-r:=by omega
   rw[ej] at Ai eV eS eA OD uM;have PR:∀ tag',pend tag'=0->((Vc (n-(r+1)) D+pend (.sp r 2):Nat):Int)*KK=((Vc (n-r) (upd D (n-(r+1)) ⟨7,0,0⟩)+pend tag':Nat):Int)*KK:=λtag' hp=>by rw[eV,hp];simp[pend]
   cases r with
   |zero =>
    obtain⟨r3,R⟩:=zY;simp only[jy] at Ai eV eS eA OD PR uM;refine⟨_,_,qM,.inr ⟨(phi n (Vc n (upd D (n-(0+1)) ⟨7,0,0⟩)) .kd+Ssum n (upd D (n-(0+1)) ⟨7,0,0⟩)+sumTo n (upd A (n-(0+1)) 1),(upd K (Y.base+(n-(0+1))) rc,r3)),by rw[I.mu];exact Prod.Lex.left _ _ (by simp only[phi];omega),
     _,w,sl,p,f,n,_,_,_,0,.kd,r3,a',{ s' with w:=w },_,_,rfl,⟨OE,.kd R,k1.trans',uM,Ai,Q,?_,rfl⟩⟩⟩
    rw[PR .kd rfl];exact .opn ab OD (by simp)
   |succ r' =>
    obtain⟨r3,R⟩:=zY;refine⟨_,_,qM,.inr ⟨(phi n (Vc (n-(r'+1)) (upd D (n-(r'+1+1)) ⟨7,0,0⟩)) (.sp r' 5)+Ssum (n-(r'+1)) (upd D (n-(r'+1+1)) ⟨7,0,0⟩)+sumTo (n-(r'+1)) (upd A (n-(r'+1+1)) 1),(upd K (Y.base+(n-(r'+1+1))) rc,r3)),by rw[I.mu];exact Prod.Lex.left _ _ (by simp only[phi];omega),
     _,w,sl,p,f,n-(r'+1),_,_,_,0,.sp r' 5,r3,a',{ s' with w:=w },_,_,rfl,⟨OE,.skd (by omega) R,k1.trans',uM,Ai,Q,?_,rfl⟩⟩⟩
    rw[PR (.sp r' 5) rfl];exact .opn ab OD (by simp)
  ·exact fin (X:=True) (fe I k1 c J V (.sgo hr R) U)
 |kd h =>
  rcases ff h I.rely I.lead live with⟨s',k1,c,_,g',J,R⟩|⟨s',k1,c,g',s2,es,r',J,V,R,U⟩
  ·obtain⟨r2,R⟩:=OC _ _ (R { s' with w:=w } (dA k1 live));exact fin (X:=True) (ef I k1 c (J w) (.refl Y.Wg w) Q bk_dis (.w1 R) (O.reopen ab ab rfl (by simp)) (.inl (by simp only[phi];omega)))
  ·exact fin (X:=True) (fe I k1 c J V (.kd R) U)
 |w1 h =>
  rcases ff h I.rely I.lead live with⟨s',k1,c,_,Z⟩|⟨s',k1,c,g',s2,es,r',J,V,R,U⟩
  ·obtain⟨ho,e1,e2,_⟩:=O.open_inv ab;rw[e1,e2] at Q;have hV:=Vc_le n D;obtain⟨a',J,h0,sK⟩:=Z { s' with w:=w } (dA k1 live) (Vc n D) (by omega) (by simpa[pend] using Q)
   by_cases hv:Vc n D=0
   ·obtain⟨r2,R⟩:=h0 hv;refine fin (X:=True) (ef I k1 c J (.refl Y.Wg w) Q bk_rd (.ke R) ?_ (.inl (by simp only[phi];omega)))
    have e:((Vc n D+pend .w1:Nat):Int)*KK=0:=by rw[hv];simp[pend]
    rw[e];exact .fin ab (allQuit_of ho hv)
   ·obtain⟨r2,R⟩:=sK hv;refine fin (X:=True) (ef I k1 c J (.refl Y.Wg w) Q bk_rd (.w2 R) ?_ (.inl (by simp only[phi];omega)))
    have:=O.reopen (tag':=.w2 (Vc n D)) ab ab rfl (λvs e=>by cases e;omega)
    rwa [e1,e2] at this
  ·exact fin (X:=True) (fe I k1 c J V (.w1 R) U)
 |@w2 vs rk g s h =>
  rcases ff h I.rely I.lead live with⟨s',k1,c,_,Z⟩|⟨s',k1,c,g',s2,es,r',J,V,R,U⟩
  ·obtain⟨ho,e1,e2,J5⟩:=O.open_inv ab;rw[e1,e2] at Q;obtain⟨hle,l⟩:=J5 vs rfl;obtain⟨PS,MW⟩:=Z { s' with w:=w } (dA k1 live) (Vc n D) (by omega) (by simpa[pend] using Q)
   by_cases e:Vc n D=vs
   ·obtain⟨a',J,r2,R⟩:=PS e;exact fin (X:=True) (ef I k1 c J (aside_setCell w (stA Y.Wg) _) (Q.setSt _) bk_rw (.w3 R) (.reg ab ho (by omega)) (.inl (by simp only[phi];omega)))
   ·obtain⟨a',J,R⟩:=MW e;obtain⟨r2,R⟩:=OC _ _ R;refine fin (X:=True) (ef I k1 c J (.refl Y.Wg w) Q bk_rd (.w1 R) ?_ (.inl (by simp only[phi];omega)))
    have:=O.reopen (tag':=.w1) ab ab rfl (by simp)
    rwa [e1,e2] at this
  ·exact fin (X:=True) (fe I k1 c J V (.w2 R) U)
 |@w3 rk g s h =>
  rcases ff h I.rely I.lead live with⟨s',k1,c,jd⟩|⟨s',k1,c,g',s2,es,r',J,V,R,U⟩
  ·obtain⟨_,PT,Z⟩:=jd;obtain⟨Hi,MX⟩:=Z { s' with w:=w } (dA k1 live);obtain⟨x,hx⟩:=Rk.DH s rk;have MY:AtW3 P ty Y T a { s' with w:=w }:=AtW3.rely ⟨pw,PT,Z⟩ (dA k1 live);generalize st=PM at O Q;generalize F=TD at O Q;cases O with
   |opn l _ _=>exact l.elim
   |reg l h2 h3=>exact fin (X:=True) (ef I k1 c (Hi ⟨_,Q⟩) (.refl Y.Wg w) Q (by simp) (.blk (rk:=x) MY) (.reg ab h2 h3) (.inr ⟨rfl,hx⟩))
   |last L l h2 h3 h4=>exact fin (X:=True) (ef I k1 c (Hi ⟨_,Q⟩) (.refl Y.Wg w) Q (by simp) (.blk (rk:=x) MY) (.last L ab h2 h3 h4) (.inr ⟨rfl,hx⟩))
   |sema h2 =>
    obtain⟨a',J,r2,R⟩:=MX Q;exact fin (X:=True) (ef I k1 c J (aside_setCell w (smA Y.Wg) _) (Q.setSm 0) bk_sem (.w4 R) (.fin ab h2) (.inl (by simp only[phi];omega)))
   |fin l _=>exact l.elim
  ·exact fin (X:=True) (fe I k1 c J V (.w3 R) (Rk.Af U))
 |blk h=>simp at pw
 |w4 h =>
  rcases ff h I.rely I.lead live with⟨s',k1,c,_,Z⟩|⟨s',k1,c,g',s2,es,r',J,V,R,U⟩
  ·obtain⟨hq,e1,e2⟩:=O.fin_inv ab;rw[e1,e2] at Q;obtain⟨a',J,r2,R⟩:=Z { s' with w:=w } (dA k1 live) Q;exact fin (X:=True) (ef I k1 c J (.refl Y.Wg w) Q bk_rd (.ke R) (.fin ab hq) (.inl (by simp only[phi];omega)))
  ·exact fin (X:=True) (fe I k1 c J V (.w4 R) U)
 |ke h =>
  rcases ff h I.rely I.lead live with⟨s',k1,c,_,g',J,R⟩|⟨s',k1,c,g',s2,es,r',J,V,R,U⟩
  ·obtain⟨r2,R⟩:=R { s' with w:=w } (dA k1 live);obtain⟨hq,e1,e2⟩:=O.fin_inv ab;rw[e1,e2] at Q;exact fin (X:=True) (ef I k1 c (J w) (.refl Y.Wg w) Q bk_en (.acq R) (.fin ab hq) (.inl (by simp only[phi];omega)))
  ·exact fin (X:=True) (fe I k1 c J V (.ke R) U)
 |acq h =>
  rcases ff h I.rely I.lead live with⟨s',k1,c,_,a',J,R⟩|⟨s',k1,c,g',s2,es,r',J,V,R,U⟩
  ·obtain⟨hq,e1,e2⟩:=O.fin_inv ab;have qM:=runT_crowd_go (P:=P) (sl:=sl) (i:=0) I.a0 (by simpa using J w)
   have ev:MemOp.ofEvents 0 a.frame.fn a.frame.place #[mk (.acquire (stA Y.Wg))]=#[{ g:=0,fn:=a.frame.fn,pos:=a.frame.place,act:=.mark (.acquire (stA Y.Wg)) }]:=by rw[ofEvents_eq];simp[ofEvent_mk]
   have qN:=I.dV.step0 (g:=a) (g':=a') (fn:=a.frame.fn) (pos:=a.frame.place) (es:=#[mk (.acquire (stA Y.Wg))]) (hm':=p) (w':=w) (λ_ _=>rfl) (ar _) (λy _=>.refl ..) (by simp;exact I.dV.uL) (by intro e he b hb;simp at he;subst he;simp[mk,MemAct.ofEvent,MemAct.touch?] at hb) (by intro e he b hb;simp at he;subst he;simp[mk,MemAct.ofEvent,MemAct.touch?] at hb) (by intro e he;simp at he;subst he;simp[mk]) I.dV.pay live
   have VS:deafBehind 0 #[mk (.acquire (stA Y.Wg))]=0:=rfl;have hy:(t++#[({ g:=0,fn:=a.frame.fn,pos:=a.frame.place,act:=.mark (.acquire (stA Y.Wg)) }:MemOp)])[t.size]?=some { g:=0,fn:=a.frame.fn,pos:=a.frame.place,act:=.mark (.acquire (stA Y.Wg)) }:=by simp
   have MZ:=qN.tl.PC (by rw[qN.deaf0];rfl) (qN.norel _) (q:=t.size) (by rw[ev,act?_of hy]) (by rw[ev];simp[Trace.g?]) (by rw[ev];exact⟨0,by simp[Trace.g?],by rw[deaf_old (ar _)];exact I.dV.deaf0⟩) (λx hx=>by
    obtain⟨r,hr⟩:=I.dV.rel x hx (by rw[hq x hx];omega)
    exact⟨r,hr.appOther g_of_ofEvents (by omega),lt_of_act? hr.act⟩)
   have Gz:∃ q,Leavers P (t++MemOp.ofEvents 0 a.frame.fn a.frame.place #[mk (.acquire (stA Y.Wg))]) ((B.map (woken P a a' w)).setIfInBounds 0 a') q:=by
    have each:∀ i,∃ m,∀ g,0<i->((B.map (woken P a a' w)).setIfInBounds 0 a')[i]?=some g->QuitsD P m (Deaf (t++MemOp.ofEvents 0 a.frame.fn a.frame.place #[mk (.acquire (stA Y.Wg))]) i) g:=by
     intro i;cases IS:((B.map (woken P a a' w)).setIfInBounds 0 a')[i]? with
     |none=>exact⟨0,λg _ C=>by cases C⟩
     |some g =>
      rcases ig i with e|DO
      ·exact⟨0,λg' h=>by omega⟩
      ·rcases bC i Y.base with U|LI
       ·obtain⟨m,_,J2⟩:=qN.lv i g DO U IS;exact⟨m,λg' _ yo=>by cases yo;exact J2⟩
       ·obtain⟨x,rfl⟩:∃ x,i=Y.base+x:=⟨i-Y.base,by omega⟩
        have hx:x<n:=by
         have:=(dF.1 IS).1;rw[qN.size] at this;omega
        obtain⟨g0,Ae,PU⟩:=qN.wk x hx;rw[IS] at Ae;cases Ae;obtain⟨m,J2⟩:=PU.quits (hq x hx);refine⟨m,λg' _ yo=>?_⟩
        cases yo;rw[qN.deafW x hx];exact J2
    exact⟨λi=>Classical.choose (each i),λi g hi C=>oe (each i) g hi C,λi hi=>qN.above i (by rw[qN.size] at hi;exact hi)⟩
   obtain⟨q,Gz⟩:=Gz;refine⟨_,_,qM,.inl ⟨p,u,⟨_,w,sl,a',s',q,rfl,Go.ConcN.get_map_set_same _ _ _ (by rw[I.dV.size];omega),qN.size,R { s' with w:=w } (dA k1 live),k1,c,Gz,MZ,qN.norel,I.dV.pay,λx hx i hi=>?_,I.dV.we,I.dV.uL,I.dV.Gy⟩⟩⟩
   obtain⟨g0,_,PU⟩:=I.dV.wk x hx;rcases ig i with e|DO
   ·subst e;exact I.dV.wc x hx (by rw[hq x hx];omega)
   ·exact I.dV.sh x hx (PU.small (hq x hx)) i DO hi
  ·exact fin (X:=True) (fe I k1 c J V (.acq R) U)
end
end Go.AM
namespace Go.AM
open Go.Conc
open Go.ConcN (WD CTag Vc Ssum pend phi cnt WgLive PayAt Has WSit RelBy sumTo upd upd_same upd_ne exists_counted)
open Go.ConcR (KK WgAt stA smA Payload)
variable [Payload]
section
variable {P:Program}{ty:TypeId}{Y:Lay}{N:Nat}{val:Nat->Nat->Value}{n:Nat}{T c:Goroutine->St->Prop}{p:Nat->Nat}{y:Nat->Mem}{j:Nat}{tag:CTag}{rk:Rk}{d:Nat}{a:Goroutine}{s:St}{w:World}
 {f:Mu} {l:Array Goroutine} {sl:Option (Nat×Nat)} {t:Trace} {D:Nat->WD} {A:Nat->Nat} {K:Nat->Rk} {st u:Int}
theorem WS.running_of{x a st d:Nat}{r:Rk}{g:Goroutine}(h:WS P ty Y N val p y x a st r d g w)(b:st≠1):g.status=.running:=by
 cases h with
 |am h1 _ _=>exact h1.run λ_ _ x=>x.1
 |rel h1=>exact Goes.running (λ_ _ x=>x.1) w (Go.ConcN.RW.refl w) h1
 |tail _ h1=>exact h1.running_of b
theorem someone_runs(I:ox P ty Y N val n T c f l w t p y j D A K d tag rk a s st u):∃ (i:Nat)(g:Goroutine),l[i]?=some g/\g.status=.running:=by
 rcases I.cs.status with⟨e,_⟩|⟨_,rfl⟩
 ·exact⟨0,a,I.a0,e⟩
 ·have b:=I.mode;cases b with
  |opn h1 _ _=>exact h1.elim
  |reg _ _ k =>
   obtain⟨i,hi,o⟩:=exists_counted k;obtain⟨g,h,e⟩:=I.dV.wk i hi;exact⟨_,g,h,e.running_of (by omega)⟩
  |last L _ m k _ =>
   obtain⟨g,h,e⟩:=I.dV.wk L m;exact⟨_,g,h,e.running_of (by omega)⟩
  |fin h1 _=>exact h1.elim
theorem all_awake(I:ox P ty Y N val n T c f l w t p y j D A K d tag rk a s st u):∀ g∈l,awake g:=by
 intro g q B;obtain⟨i,hi⟩:=Array.mem_iff_getElem?.1 q;rcases ig i with rfl|b
 ·rw[I.a0] at hi;cases hi;rcases I.cs.status with⟨k,_⟩|⟨k,_⟩ <;> rw[k] <;> simp
 ·rcases bC i Y.base with o|z
  ·obtain⟨m,_,v⟩:=I.dV.lv i g b o hi;rcases v.status with h|h <;> rw[h] <;> simp
  ·obtain⟨x,rfl⟩:∃ x,i=Y.base+x:=⟨i-Y.base,by omega⟩
   have r:x<j:=by
    have:=(dF.1 hi).1;rw[I.dV.size] at this;omega
   obtain⟨g',e,k⟩:=I.dV.wk x r;rw[hi] at e;cases e;rcases k.status with h|h <;> rw[h] <;> simp
theorem ox.at(I:ox P ty Y N val n T c f l w t p y j D A K d tag rk a s st u)(b:Nat):ox P ty Y N val n T c f l (w.at b) t p y j D A K d tag rk a s st u :=
 ⟨I.a0,I.cs,I.rely.more (ar _) (λ_ _=>rfl) (λ_ _ _ _ h=>h) rfl rfl rfl,I.lead,I.dV.at b,I.wg,I.mode,I.mu⟩
theorem yq(I:ox P ty Y N val n T c f l w t p y j D A K d tag rk a s st u){i:Nat}(hi:0<i)(v:i<Y.base){g:Goroutine}(E:l[i]?=some g)(b:g.status=.running) :
  ∃ h ops μ',runT P (crowd l w sl) i=(.next h,ops)/\Ag (Y.base+n) μ' f/\Inv P ty Y N val n T c μ' h (t++ops):=by
 obtain⟨m,G,F⟩:=I.dV.lv i g hi v E;cases m with
 |zero=>rw[F.1] at b;cases b
 |succ m =>
  rcases F with⟨H,_⟩|⟨_,g',es,B,r,C⟩
  ·rw[H] at b;cases b
  ·have z:(i==0)=false:=by simp;omega
   have q:=runT_crowd_go (P:=P) (sl:=sl) (i:=i) E (by rw[z];exact r w)
   obtain⟨tag',rk',x,o,J⟩:=I.cs.wokenBy g g' w;have e:Go.ConcN.Mode j D tag' st u:=I.mode.retag o;refine⟨_,_,(phi n (Vc j D) tag'+Ssum j D+sumTo j A,(upd K i (Rk.nat m),rk')),q,?_,_,w,sl,p,y,j,D,A,_,d,tag',rk',woken P g g' w a,s,st,u,rfl,
    ⟨by rw[Go.ConcN.get_map_set _ _ _ _ (by omega),I.a0];rfl,x,I.rely,I.lead,I.dV.leave hi v B C,I.wg,e,rfl⟩⟩
   rw[I.mu,Go.ConcN.phi_retag n _ o];exact Prod.Lex.right _ (Prod.Lex.left _ _ ⟨i,by omega,by rw[upd_same,G];exact Rk.ym _ s,λk L=>upd_ne K _ L⟩)
theorem DQ(H:n<2147483648)(E:∀ g s,c g s->cB (Cx.lead P ty Y.Wg) (Es Y.Wg) (AtW1 P ty Y T c) g s){m:Machine}(h:Inv P ty Y N val n T c f m t) :
  ∃ b ops,stepT P m=(.next b,ops)/\((∃ hm' Hj,Fin P Y N val n T hm' Hj b (t++ops))∨∃ e,Ag (Y.base+n) e f/\Inv P ty Y N val n T c e b (t++ops)):=by
 obtain⟨l,w,sl,p,y,j,D,A,K,Q,tag,rk,a,s,st,u,rfl,I⟩:=h;obtain⟨i,g,O,o,r,k,q⟩:=crowd_pick (P:=P) (w:=w) (sl:=sl) (all_awake I) (someone_runs I);rw[q];have B:=I.at O;have J:j<=n:=by have:=I.cs.bound;omega
 rcases ig i with rfl|v
 ·rw[I.a0] at r;cases r;exact DN (sl:=o) B H E k
 ·rcases bC i Y.base with F|L
  ·obtain⟨b,ops,e,G,C,z⟩:=yq (sl:=o) B v F r k;exact⟨b,ops,G,.inr ⟨e,C,z⟩⟩
  ·obtain⟨x,rfl⟩:∃ x,i=Y.base+x:=⟨i-Y.base,by omega⟩
   have M:x<j:=by
    have:=(dF.1 r).1;rw[I.dV.size] at this;omega
   obtain⟨b,ops,e,G,C,z⟩:=stepWorker (sl:=o) B H J I.cs.bound M r k;exact⟨b,ops,G,.inr ⟨e,C,z⟩⟩
theorem Bq(B:n<2147483648)(q:∀ g s,c g s->cB (Cx.lead P ty Y.Wg) (Es Y.Wg) (AtW1 P ty Y T c) g s):∀ (f:Mu)(m:Machine)(t:Trace),Inv P ty Y N val n T c f m t ->
  ∃ M i k hm' Hj,runNT P M m t=(.next i,k)/\Fin P Y N val n T hm' Hj i k:=by
 intro f
 induction (J3 (Y.base+n)).apply f with
 |intro f _ v =>
  intro m t h;obtain⟨b,ops,r,e⟩:=DQ B q h;rcases e with⟨hm',Hj,e⟩|⟨o,e,x⟩
  ·exact⟨1,b,t++ops,hm',Hj,by simp[runNT,r],e⟩
  ·obtain⟨M,i,k,hm',Hj,k1,z⟩:=v o e b (t++ops) x;exact⟨M+1,i,k,hm',Hj,by simp only[runNT,r];exact k1,z⟩
theorem Mb.fork{g:Goroutine}{s s0:St}{T':Goroutine->St->Prop}(kc:Nat)(RM:0<kc)(Wg C:Nat)(hn:n<2147483648)(sK:C≠Wg)(hg:er s s0)(pw:g.status=.running)
  (hC:∃ L∈s.β,C∈L.bs) (hW:∃ L∈s.β,Wg∈L.bs) (I:∀ b,(s.own b∨∃ L∈s.β,b∈L.bs)->b<s.w.heap.size)
  (h0:∀ b,(b=C∨b=Wg)->¬s0.own b/\(∀ L∈s0.β,b∉L.bs)/\∀ o,s0.M b o=none) (X:WgAt ty Wg s.w 0 0) (DM:PayAt C N s.w)
  (h:∀ Y:Lay,Y.Wg=Wg->Y.C=C->Y.kc=kc->∃ T c,(∀ g s,c g s->cB (Cx.lead P ty Y.Wg) (Es Y.Wg) (AtW1 P ty Y T c) g s)/\Spawns P ty Y N val n c n g s0 /\
   ∀ g' s',T g' s'->et s'->PayAt C N s'.w->(∀ x,x<n->∀ i,i<kc->s'.w.cell? ⟨C,kc*x+i,none⟩=some (val x i))->C<s'.w.heap.size->(∀ b,(b=C∨b=Wg)->¬s'.own b/\(∀ L∈s'.β,b∉L.bs)/\∀ o,s'.M b o=none) ->
    ∃ s2,T' g' s2/\s2.w=s'.w/\et s2/\∀ Sh:Nat->Prop,Clear Sh s'->¬Sh C->Clear Sh s2):Mb P g s T':=by
 intro Sh l sl t q p ha z hP hc J1;have U:¬Sh C:=λhs=>let ⟨L,z,m⟩:=hC;hc.β C hs L z m
 have PV:¬Sh Wg:=λhs=>let ⟨L,z,m⟩:=hW;hc.β Wg hs L z m
 have J6:=I C (.inr hC);have PW:=I Wg (.inr hW);have DO:1<=l.size:=(dF.1 ha).1
 let Y:Lay:={ Sh:=Sh,T0:=t.size,Wg:=Wg,C:=C,base:=l.size,kc:=kc }
 obtain⟨T,c,OC,B,PX⟩:=h Y rfl rfl rfl;have V:=hc.ghost hg;have I5:et s0:=.ghost hg;have G:gi Y (λ_=>0) (λ_ _ _=>none) 0 s0:=by
  refine⟨λb m=>⟨rfl,λe=>?_,λe=>?_,λe=>?_,by rw[hg.w];exact I b (hg.blk b m)⟩,λb o v O=>⟨rfl,λe=>?_,λe=>?_,λe=>?_,et.lt I5 O⟩,λx E=>absurd E (fQ x)⟩
  ·obtain⟨q1,q2,_⟩:=h0 b (.inl e);rcases m with m|⟨L,z,m⟩
   ·exact q1 m
   ·exact q2 L z m
  ·obtain⟨q1,q2,_⟩:=h0 b (.inr e);rcases m with m|⟨L,z,m⟩
   ·exact q1 m
   ·exact q2 L z m
  ·rcases m with m|⟨L,z,m⟩
   ·exact V.own b e m
   ·exact V.β b e L z m
  ·rw[(h0 b (.inl e)).2.2 o] at O;cases O
  ·rw[(h0 b (.inr e)).2.2 o] at O;cases O
  ·rw[V.M b e o] at O;cases O
 have R:Com P ty Y N val (λ_=>0) (λ_ _ _=>none) 0 l s.w t (λ_=>⟨0,0,0⟩) (λ_=>0) (λi=>Rk.nat (q i)) 0 :=
  ⟨rfl,λi g hi _ IS=>⟨q i,rfl,z.old i g hi IS⟩,z.above,λx E=>absurd E (fQ x),TL.start hP rfl DO sK PV U,J1,hP.hears,λx E=>absurd E (fQ x),λx E=>absurd E (fQ x),λx E=>absurd E (fQ x),λx E=>absurd E (fQ x),
   DM,⟨_,_,X⟩,PW,J6,hc.lt,RM,λx E=>absurd E (fQ x)⟩
 have S:aX s0 { s0 with w:=s.w }:=by
  have:=aX.qJ I5;rw[<-hg.w];exact this
 have F:∃ f,Inv P ty Y N val n T c f (crowd l s.w sl) t:=by
  cases n with
  |zero =>
   obtain⟨r,B⟩:=B;exact⟨_,l,s.w,sl,_,_,0,_,_,_,0,.kd,r,g,s0,_,_,rfl,⟨ha,.kd B,S,G,R,X,by have:=Go.ConcN.Mode.opn (j:=0) (D:=λ_=>(⟨0,0,0⟩:WD)) (tag:=.kd) ab (λi hi=>absurd hi (fQ i)) (by simp);simpa[Vc,sumTo,pend] using this,rfl⟩⟩
  |succ n =>
   obtain⟨r,B⟩:=B;have OF:CS P ty Y N val (n+1) T c (.sp n 5) (n+1-(n+1)) r 0 g s0:=.skd (Nat.lt_succ_self n) B;rw[Nat.sub_self] at OF;exact⟨_,l,s.w,sl,_,_,0,_,_,_,0,.sp n 5,r,g,s0,_,_,rfl,⟨ha,OF,S,G,R,X,by have:=Go.ConcN.Mode.opn (j:=0) (D:=λ_=>(⟨0,0,0⟩:WD)) (tag:=.sp n 5) ab (λi hi=>absurd hi (fQ i)) (by simp);simpa[Vc,sumTo,pend] using this,rfl⟩⟩
 obtain⟨f,F⟩:=F;obtain⟨M,m',t',hm',Hj,W,⟨TM,w',TN,a',J,q',rfl,OE,_,hT,zX,IN,eY,TO,PY,TP,Q,TQ,TR,TS⟩⟩:=Bq hn OC f _ _ F;have Z:gi Y hm' Hj n { J with w:=w' }:=IN.rely zX.size;have H:∀ b,(b=C∨b=Wg∨Sh b)->¬J.own b/\(∀ L∈J.β,b∉L.bs)/\∀ o,J.M b o=none:=by
  intro b m;have key:∀ x,(hm' x=0/\x≠Y.C/\x≠Y.Wg/\¬Y.Sh x/\x<w'.heap.size)->x≠b:=by
   rintro x ⟨_,h1,h2,h3,_⟩ rfl;rcases m with e|e|e
   ·exact h1 e
   ·exact h2 e
   ·exact h3 e
  refine⟨λho=>key b (Z.blk b (.inl ho)) rfl,λL z IF=>key b (Z.blk b (.inr ⟨L,z,IF⟩)) rfl,λo=>?_⟩
  cases hM:J.M b o with
  |none=>rfl
  |some v=>exact absurd rfl (key b (Z.M b o v hM))
 obtain⟨s2,TT,J5,J2,IG⟩:=PX a' { J with w:=w' } hT (λb o v O=>zX.mem b o v O) TP Q TQ (λb m=>H b (m.elim .inl λe=>.inr (.inl e)))
 have xZ:Clear (λb=>Sh b∨b=Wg) { J with w:=w' }:=by
  have k:∀ b,(Sh b∨b=Wg)->¬J.own b/\(∀ L∈J.β,b∉L.bs)/\∀ o,J.M b o=none:=λb m=>H b (m.elim (λe=>.inr (.inr e)) λe=>.inr (.inl e))
  exact⟨λb m=>(k b m).1,λb m=>(k b m).2.1,λb m=>(k b m).2.2,λb m=>m.elim (TS b) λe=>by rw[e];exact TR⟩
 refine⟨M,_,TM,a',s2,TN,t',q',by rw[J5];exact W,J2,OE,eY,by rw[J5];exact TO,IG _ xZ (λe=>e.elim U λe=>sK e),PY,TT⟩
end
end Go.AM
namespace Go.AM
open Go.Conc Go.RowKit Go.Conc.Lib Go.ConcR.Gen
open Go.ConcN (WgLive)
open Go.ConcR (KK WgAt stA smA rd wr mk DC0)
variable {L:WgLink}
section
variable (P:Program)(R:World->World->Prop)(L:WgLink)(Wg:Nat)(a:Goroutine)
def Qh(g:Goroutine)(_:World):Prop:=g.status=.running/\∃ g',(∀ w,stepG P true g w=.go g' w #[mk .enable])/\∀ w1,WgLive L.tWg Wg w1->∃ m,Goes P true R DC0 (λg _=>g=a) m g' w1
def Vz(g:Goroutine)(_:World):Prop:=g.status=.running/\∃ g' ad,ad.block=Wg/\(∀ w,stepG P true g w=.go g' w #[mk (.read ad)])/\∀ w1,WgLive L.tWg Wg w1->∃ m,Goes P true R DC0 (Qh P R L Wg a) m g' w1
def Sc(g:Goroutine)(w:World):Prop:=g.status=.running/\∀ v:Nat,v<2147483647->WgAt L.tWg Wg w (v*KK) 0 ->
 ∃ g',stepG P true g w=.go g' (w.setCell (stA Wg) (.int .u64 ((v+1)*KK))) #[rd (stA Wg),wr (stA Wg)]/\∃ m,Goes P true R DC0 (λg w=>Vz P R L Wg a g w∨Qh P R L Wg a g w) m g' (w.setCell (stA Wg) (.int .u64 ((v+1)*KK)))
def VA(g:Goroutine)(_:World):Prop:=g.status=.running/\∃ g',(∀ w,stepG P true g w=.go g' w #[mk .disable])/\∀ w1,WgLive L.tWg Wg w1->∃ m,Goes P true R DC0 (Sc P R L Wg a) m g' w1
end
set_option maxRecDepth 100000 in
set_option maxHeartbeats 2000000 in
theorem Ht{P:Program}(H:WgLib P L){R:World->World->Prop}{Wg:Nat}(c:∀ {w w1},WgLive L.tWg Wg w->R w w1->WgLive L.tWg Wg w1){b₀:Frame}{a₀:Act}{ops₀:Array Oper}{i₀:Nat}{rest₀:List Nat}{k₀:List Item}{cs:List Frame}
  (w:World) (b:WgLive L.tWg Wg w) :
  Goes P true R DC0 (VA P R L Wg (G (b₀.at (a₀.put ((ops₀[i₀]?).bind (·.dst)) (.tuple #[])) (.inRegion ops₀ rest₀::k₀)) cs)) 12
   (G ((base L.add).at ⟨#[.pointer (some ⟨Wg,0,none⟩),.int .i64 1,undef,undef,undef,undef,undef,undef,undef,undef,undef,undef,undef,undef,undef,undef,undef,undef,undef,undef,undef,undef,undef,undef,undef,undef,undef,undef,undef,undef,undef,undef,undef,undef,undef,undef,undef,undef,undef,undef,undef,undef,undef,undef,undef,undef,undef,undef,undef,undef,undef,undef,undef,undef,undef,undef,undef,undef,undef,undef,undef,undef,undef,undef,undef,undef,undef,undef,undef,undef,undef,undef,undef,undef,undef,undef,undef,undef,undef,undef,undef,undef,undef,undef,undef,undef,undef,undef,undef,undef,undef,undef,undef,undef,undef,undef,undef,undef,undef,undef,undef,undef,undef,undef,undef,undef,undef,undef,undef,undef,undef,undef,undef,undef,undef,undef,undef],[]⟩ [.code (body_add L)]) (b₀.at a₀ (.inRegion ops₀ (i₀::rest₀)::k₀)::cs)) w:=by
 lib_facts
 simp only[body_add,addFn,cp]
 repeat (u_c stepG_seq c b)
 u_cond true c b
 repeat (u_c stepG_seq c b)
 u_reg c b
 u_op c b
 u_op c b
 u_c stepG_region_end c b
 repeat (u_c stepG_seq c b)
 u_cond false c b
 u_c stepG_skip c b
 repeat (u_c stepG_seq c b)
 u_reg c b
 refine Goes.stop (λm g=>?_)
 refine⟨rfl,_,λw=>stepG_mark0 .disable (by simp) rfl rfl (by k_ne) rfl H.f_disable (x_disable_n L) (x_disable_b L) (x_disable_x L) (x_disable_f L),λw b=>?_⟩
 clear g;refine⟨40,?_⟩
 walk_nrm
 u_c stepG_region_end c b
 repeat (u_c stepG_seq c b)
 u_reg c b
 u_defer c b
 u_c stepG_region_end c b
 repeat (u_c stepG_seq c b)
 u_reg c b
 u_op c b
 u_c stepG_region_end c b
 repeat (u_c stepG_seq c b)
 u_reg c b
 u_bub c b
 u_c stepG_region_end c b
 repeat (u_c stepG_seq c b)
 u_cond false c b
 u_c stepG_skip c b
 repeat (u_c stepG_seq c b)
 u_reg c b
 u_op c b
 u_op c b
 u_op c b
 u_op c b
 u_op c b
 u_op c b
 u_call H.f_uAdd (nm_uAdd L) uAddFn c b
 repeat (u_c stepG_seq c b)
 u_reg c b
 u_op c b
 u_c stepG_region_end c b
 repeat (u_c stepG_seq c b)
 u_reg c b
 u_op c b
 u_op c b
 u_op c b
 u_op c b
 refine Goes.stop (λi e=>?_)
 replace b:=c b e
 clear e;refine⟨rfl,λv q j=>?_⟩
 have l:KK=4294967296:=rfl;have o:IntKind.u64.wrap ((v:Int)*KK+4294967296)=((v:Int)+1)*KK:=by rw[IntKind.wrap_u64];simp only[l];omega
 refine⟨_,(stepG_add_atomic rfl rfl (by k_ne) rfl H.f_addU64 (x_addU64_n L) (x_addU64_b L) (x_addU64_x L) .u64 (x_addU64_f L) rfl rfl j.cellSt (j.thaw 0)).trans (by rw[o];rfl),110,?_⟩
 replace b:WgLive L.tWg Wg (i.setCell (stA Wg) (.int .u64 (((v:Int)+1)*KK))):=⟨_,_,j.setSt _⟩
 clear j
 walk_nrm
 u_op c b
 u_c stepG_region_end c b
 u_c stepG_ret' c b
 u_leave1 H.f_uAdd c b
 u_op c b
 u_c stepG_region_end c b
 have u:bits .and .u64 (((v:Int)+1)*4294967296) 2147483648=0:=by
  have:=Go.ConcN.st_flag (v+1) 0 (by omega) (by omega)
  simpa using this
 have t:bits .and .u64 (((v:Int)+1)*4294967296) 2147483647=0:=by
  have:=Go.ConcN.st_waiters (v+1) 0 (by omega) (by omega)
  simpa using this
 have s:((v:Int)+1+2147483648) % 4294967296-2147483648=(v:Int)+1:=by omega
 have x:¬((v:Int)+1<0):=by omega
 have r:(0:Int)<(v:Int)+1:=by omega
 repeat (u_c stepG_seq c b)
 u_reg c b
 u_op c b
 u_op c b
 u_op c b
 u_op c b
 u_skip c b
 u_skip c b
 u_op c b
 u_c stepG_region_end c b
 repeat (u_c stepG_seq c b)
 u_cond false c b
 u_c stepG_skip c b
 repeat (u_c stepG_seq c b)
 u_reg c b
 u_op c b
 u_op c b
 u_op c b
 u_op c b
 u_c stepG_region_end c b
 repeat (u_c stepG_seq c b)
 u_reg c b
 u_op c b
 u_op c b
 u_op c b
 u_op c b
 u_c stepG_region_end c b
 by_cases k:(v:Int)+1=1
 ·repeat (u_c stepG_seq c b)
  u_reg c b
  u_op c b
  u_op c b
  u_op c b
  u_op c b
  u_op c b
  u_op c b
  u_op c b
  u_op c b
  u_op c b
  u_op c b
  u_c stepG_region_end c b
  repeat (u_c stepG_seq c b)
  u_cond true c b
  repeat (u_c stepG_seq c b)
  u_reg c b
  u_op c b
  u_op c b
  u_op c b
  u_conv H.underlying_tPU32 H.room_tU32 (Go.ConcN.Gen.WgLive.cell1 b).choose_spec c b
  refine Goes.stop (λn h=>.inl ?_)
  clear h;refine⟨rfl,_,⟨Wg,1,none⟩,rfl,λw=>stepG_markAt .read (by simp) rfl rfl (by k_ne) rfl H.f_raceRead (x_raceRead_n L) (x_raceRead_b L) (x_raceRead_x L) (x_raceRead_f L) (ad:=⟨Wg,1,none⟩) (by simp[Act.eval]),λw b=>⟨50,?_⟩⟩
  walk_nrm
  u_c stepG_region_end c b
  repeat (u_c stepG_seq c b)
  u_reg c b
  u_op c b
  u_op c b
  u_c stepG_region_end c b
  repeat (u_c stepG_seq c b)
  u_cond false c b
  u_c stepG_skip c b
  repeat (u_c stepG_seq c b)
  u_reg c b
  u_op c b
  u_op c b
  u_op c b
  u_skip c b
  u_skip c b
  u_op c b
  u_op c b
  u_skip c b
  u_skip c b
  u_skip c b
  u_skip c b
  u_op c b
  u_c stepG_region_end c b
  repeat (u_c stepG_seq c b)
  u_cond false c b
  u_c stepG_skip c b
  repeat (u_c stepG_seq c b)
  u_reg c b
  u_op c b
  u_op c b
  u_op c b
  u_skip c b
  u_skip c b
  u_op c b
  u_c stepG_region_end c b
  repeat (u_c stepG_seq c b)
  u_cond true c b
  u_c stepG_ret' c b
  refine Goes.stop (λf d=>?_)
  clear d;refine⟨rfl,_,λw=>stepG_unwind_entry (v:=.tuple #[]) (evs:=#[mk .enable]) rfl H.f_enable (x_enable_n L) (x_enable_b L) (x_enable_x L) (x_enable_f L) (by simp[Extern.Race.none_]) (by simp[mk]) (by simp[mk]),λw b=>⟨1,?_⟩⟩
  u_leave0 H.f_add c b
  exact Goes.stop λ_ _=>rfl
 ·have p:((v:Int)+1==1)=false:=by simpa using k
  repeat (u_c stepG_seq c b)
  u_reg c b
  u_op c b
  u_op c b
  u_op c b
  u_op c b
  u_op c b
  u_op c b
  u_op c b
  u_op c b
  u_op c b
  u_op c b
  u_c stepG_region_end c b
  repeat (u_c stepG_seq c b)
  u_cond false c b
  u_c stepG_skip c b
  repeat (u_c stepG_seq c b)
  u_reg c b
  u_op c b
  u_op c b
  u_c stepG_region_end c b
  repeat (u_c stepG_seq c b)
  u_cond false c b
  u_c stepG_skip c b
  repeat (u_c stepG_seq c b)
  u_reg c b
  u_op c b
  u_op c b
  u_op c b
  u_skip c b
  u_skip c b
  u_op c b
  u_op c b
  u_skip c b
  u_skip c b
  u_skip c b
  u_skip c b
  u_op c b
  u_c stepG_region_end c b
  repeat (u_c stepG_seq c b)
  u_cond false c b
  u_c stepG_skip c b
  repeat (u_c stepG_seq c b)
  u_reg c b
  u_op c b
  u_op c b
  u_op c b
  u_skip c b
  u_skip c b
  u_op c b
  u_c stepG_region_end c b
  repeat (u_c stepG_seq c b)
  u_cond true c b
  u_c stepG_ret' c b
  refine Goes.stop (λf d=>.inr ?_)
  clear d;refine⟨rfl,_,λw=>stepG_unwind_entry (v:=.tuple #[]) (evs:=#[mk .enable]) rfl H.f_enable (x_enable_n L) (x_enable_b L) (x_enable_x L) (x_enable_f L) (by simp[Extern.Race.none_]) (by simp[mk]) (by simp[mk]),λw b=>⟨1,?_⟩⟩
  u_leave0 H.f_add c b
  exact Goes.stop λ_ _=>rfl
end Go.AM
namespace Go.AM
open Go.Conc Go.RowKit Go.Conc.Lib Go.ConcR.Gen
open Go.ConcN (WgLive)
open Go.ConcR (KK WgAt stA smA rd wr mk DC0)
section
variable (P:Program)(R:World->World->Prop)(L:WgLink)(Wg:Nat)(a:Goroutine)(b:Goroutine->Prop)
def Ng(g:Goroutine)(_:World):Prop:=g.status=.running/\∃ g',(∀ w,stepG P true g w=.go g' w #[mk (.acquire (stA Wg))])/\∀ w1,WgLive L.tWg Wg w1->∃ m,Goes P true R DC0 (λg _=>g=a) m g' w1
def Qi(g:Goroutine)(_:World):Prop:=g.status=.running/\∃ g',(∀ w,stepG P true g w=.go g' w #[mk .enable])/\∀ w1,WgLive L.tWg Wg w1->∃ m,Goes P true R DC0 (Ng P R L Wg a) m g' w1
def Sd(g:Goroutine)(w:World):Prop:=g.status=.running/\(WgAt L.tWg Wg w 0 0->∃ g',stepG P true g w=.go g' w #[rd (stA Wg)]/\∃ m,Goes P true R DC0 (Qi P R L Wg a) m g' w)
def Se(g:Goroutine)(w:World):Prop:=g.status=.running/\g.offers=none/\((∃ st,WgAt L.tWg Wg w st 0)->stepG P true g w=.go { g with status:=.blocked } w #[]) /\
 (WgAt L.tWg Wg w 0 1->∃ g',stepG P true g w=.go g' (w.setCell (smA Wg) (.int .u32 0)) (semEvents (smA Wg))/\∃ m,Goes P true R DC0 (Sd P R L Wg a) m g' (w.setCell (smA Wg) (.int .u32 0)))
def Sf(g:Goroutine)(_:World):Prop:=g.status=.running/\∃ g' ad,ad.block=Wg/\(∀ w,stepG P true g w=.go g' w #[mk (.write ad)])/\∀ w1,WgLive L.tWg Wg w1->∃ m,Goes P true R DC0 (Se P R L Wg a) m g' w1
def Sg(vs:Nat)(g:Goroutine)(w:World):Prop:=g.status=.running/\∀ v:Nat,v<2147483648->WgAt L.tWg Wg w (v*KK) 0 ->
 (v=vs->∃ g',stepG P true g w=.go g' (w.setCell (stA Wg) (.int .u64 (v*KK+1))) #[rd (stA Wg),wr (stA Wg)]/\∃ m,Goes P true R DC0 (Sf P R L Wg a) m g' (w.setCell (stA Wg) (.int .u64 (v*KK+1)))) /\
 (v≠vs->∃ g',stepG P true g w=.go g' w #[rd (stA Wg)]/\∃ m,Goes P true R DC0 (λg _=>b g) m g' w)
def VB(g:Goroutine)(w:World):Prop:=g.status=.running/\∀ v:Nat,v<2147483648->WgAt L.tWg Wg w (v*KK) 0 ->
 ∃ g',stepG P true g w=.go g' w #[rd (stA Wg)]/\(v=0->∃ m,Goes P true R DC0 (Qi P R L Wg a) m g' w)/\(v≠0->∃ m,Goes P true R DC0 (Sg P R L Wg a b v) m g' w)
def VC(g:Goroutine)(_:World):Prop:=g.status=.running/\∃ g',(∀ w,stepG P true g w=.go g' w #[mk .disable])/\∀ w1,WgLive L.tWg Wg w1->∃ m,Goes P true R DC0 (λg _=>b g) m g' w1
end
def Kp(L:WgLink)(Wg:Nat)(c:Frame)(cs:List Frame)(g:Goroutine):Prop :=
 ∃ T:Array Value,g=G ((base L.wait).at ⟨T,[]⟩ [.code (L7 L),.inLoop (L7 L),.inBlock 0]) (c::cs)/\T.size=84/\T[0]?=some (.pointer (some ⟨Wg,0,none⟩))
set_option maxRecDepth 100000 in
set_option maxHeartbeats 2000000 in
theorem yD{L:WgLink}{P:Program}(H:WgLib P L){R:World->World->Prop}{Wg:Nat}(b:∀ {w w1},WgLive L.tWg Wg w->R w w1->WgLive L.tWg Wg w1){c:Frame}{cs:List Frame}(w:World)(a:WgLive L.tWg Wg w) :
  Goes P true R DC0 (VC P R L Wg (Kp L Wg c cs)) 6 (G ((base L.wait).at ⟨#[.pointer (some ⟨Wg,0,none⟩),undef,undef,undef,undef,undef,undef,undef,undef,undef,undef,undef,undef,undef,undef,undef,undef,undef,undef,undef,undef,undef,undef,undef,undef,undef,undef,undef,undef,undef,undef,undef,undef,undef,undef,undef,undef,undef,undef,undef,undef,undef,undef,undef,undef,undef,undef,undef,undef,undef,undef,undef,undef,undef,undef,undef,undef,undef,undef,undef,undef,undef,undef,undef,undef,undef,undef,undef,undef,undef,undef,undef,undef,undef,undef,undef,undef,undef,undef,undef,undef,undef,undef,undef],[]⟩ [.code (body_wait L)]) (c::cs)) w:=by
 lib_facts
 unfold Kp;simp only[L7,body_wait,waitFn,cp]
 repeat (u_c stepG_seq b a)
 u_cond true b a
 repeat (u_c stepG_seq b a)
 u_reg b a
 refine Goes.stop (λe d=>?_)
 clear d;refine⟨rfl,_,λw=>stepG_mark0 .disable (by simp) rfl rfl (by k_ne) rfl H.f_disable (x_disable_n L) (x_disable_b L) (x_disable_x L) (x_disable_f L),λw a=>⟨6,?_⟩⟩
 walk_nrm
 u_c stepG_region_end b a
 repeat (u_c stepG_seq b a)
 u_c stepG_block b a
 u_c stepG_loop b a
 exact Goes.stop λ_ _=>⟨_,rfl,rfl,rfl⟩
end Go.AM
namespace Go.AM
open Go.Conc Go.RowKit Go.Conc.Lib Go.ConcR.Gen
open Go.ConcN (WgLive)
open Go.ConcN.Gen
open Go.ConcR (KK WgAt stA smA rd wr mk DC0)
set_option maxRecDepth 100000 in
set_option maxHeartbeats 4000000 in
theorem yC{L:WgLink}{P:Program}(H:WgLib P L){R:World->World->Prop}{Wg:Nat}(b:∀ {w w1},WgLive L.tWg Wg w->R w w1->WgLive L.tWg Wg w1){b₀:Frame}{a₀:Act}{ops₀:Array Oper}{i₀:Nat}{rest₀:List Nat}{k₀:List Item}{cs:List Frame}
  (g:Goroutine) (z:Kp L Wg (b₀.at a₀ (.inRegion ops₀ (i₀::rest₀)::k₀)) cs g) (w:World) (a:WgLive L.tWg Wg w) :
  ∃ m,Goes P true R DC0 (VB P R L Wg (G (b₀.at (a₀.put ((ops₀[i₀]?).bind (·.dst)) (.tuple #[])) (.inRegion ops₀ rest₀::k₀)) cs) (Kp L Wg (b₀.at a₀ (.inRegion ops₀ (i₀::rest₀)::k₀)) cs)) m g w:=by
 lib_facts
 obtain⟨T,rfl,o,t⟩:=z;obtain⟨v0,v1,v2,v3,v4,v5,v6,v7,v8,v9,v10,v11,V4,V5,C,U,x,y,Q,V6,v20,V7,N,V8,V,V9,Wa,Wb,I,Wc,v30,Wd,We,Wf,Wh,Wi,Wj,Wk,M,D,Wl,Wm,Wn,Wo,Wp,Wq,B,Wr,Ws,Wt,A,Wu,Y,Wv,Ww,Wx,X,Z,Wy,Wz,WA,WB,WC,O,WE,u,E,WG,WH,W,WI,J,WJ,F,WK,WL,WM,WN,WO,K,WQ,WR,WT,WU,rfl⟩:=array84 T o;simp only[gb,mR,bL] at t;subst t;refine⟨30,?_⟩;unfold Kp;simp only[L7,body_wait,waitFn,cp]
 u_c stepG_block b a
 repeat (u_c stepG_seq b a)
 u_reg b a
 u_op b a
 u_op b a
 u_op b a
 u_call H.f_uLoad (nm_uLoad L) uLoadFn b a
 repeat (u_c stepG_seq b a)
 u_reg b a
 u_op b a
 u_c stepG_region_end b a
 repeat (u_c stepG_seq b a)
 u_reg b a
 u_op b a
 u_op b a
 u_op b a
 refine Goes.stop (λp j=>?_)
 replace a:=b a j
 clear j;refine⟨rfl,λv hv d=>?_⟩
 rcases ig v with rfl|WV
 ·replace d:WgAt L.tWg Wg p 0 0:=by simpa using d
  refine⟨_,stepG_load_atomic (v:=0) rfl rfl (by k_ne) rfl H.f_loadU64 (x_loadU64_n L) (x_loadU64_b L) (x_loadU64_x L) .u64 (x_loadU64_f L) rfl d.cellSt,λ_=>⟨80,?_⟩,λh=>absurd rfl h⟩
  clear d
  walk_nrm
  u_op b a
  u_c stepG_region_end b a
  u_c stepG_ret' b a
  u_leave1 H.f_uLoad b a
  u_op b a
  u_c stepG_region_end b a
  repeat (u_c stepG_seq b a)
  u_reg b a
  u_op b a
  u_op b a
  u_op b a
  u_op b a
  u_c stepG_region_end b a
  repeat (u_c stepG_seq b a)
  u_reg b a
  u_op b a
  u_op b a
  u_op b a
  u_op b a
  u_c stepG_region_end b a
  repeat (u_c stepG_seq b a)
  u_reg b a
  u_op b a
  u_op b a
  u_c stepG_region_end b a
  repeat (u_c stepG_seq b a)
  u_cond true b a
  repeat (u_c stepG_seq b a)
  u_cond true b a
  repeat (u_c stepG_seq b a)
  u_reg b a
  refine Goes.stop (λf c=>?_)
  clear c;refine⟨rfl,_,λw=>stepG_mark0 .enable (by simp) rfl rfl (by k_ne) rfl H.f_enable (x_enable_n L) (x_enable_b L) (x_enable_x L) (x_enable_f L),λw a=>⟨20,?_⟩⟩
  walk_nrm
  u_c stepG_region_end b a
  repeat (u_c stepG_seq b a)
  u_reg b a
  u_op b a
  u_conv H.underlying_tWgP H.room_tWg (Go.ConcN.Gen.WgLive.cell0 a).choose_spec b a
  refine Goes.stop (λf c=>?_)
  clear c;refine⟨rfl,_,λw=>stepG_markAt .acquire (by simp) rfl rfl (by k_ne) rfl H.f_acquire (x_acquire_n L) (x_acquire_b L) (x_acquire_x L) (x_acquire_f L) (by simp[Act.eval,stA]),λw a=>⟨40,?_⟩⟩
  walk_nrm
  u_c stepG_region_end b a
  repeat (u_c stepG_seq b a)
  u_reg b a
  u_op b a
  u_op b a
  u_op b a
  u_op b a
  u_op b a
  u_op b a
  u_op b a
  u_op b a
  u_skip b a
  u_skip b a
  u_op b a
  u_c stepG_region_end b a
  repeat (u_c stepG_seq b a)
  u_cond false b a
  u_c stepG_skip b a
  u_c stepG_ret' b a
  u_leave0 H.f_wait b a
  exact Goes.stop λ_ _=>rfl
 ·obtain⟨S,l⟩:∃ S:Int,(v:Int)*KK=S:=⟨_,rfl⟩;have a1:S / 4294967296=(v:Int):=by rw[<-l];simp only[KK];omega
  have b1:bits .and .u64 S 2147483648=0:=by rw[<-l];have:=Go.ConcN.st_flag v 0 (by omega) (by omega);simpa[KK] using this
  have b2:bits .and .u64 S 2147483647=0:=by rw[<-l];have:=Go.ConcN.st_waiters v 0 (by omega) (by omega);simpa[KK] using this
  have c1:IntKind.i32.wrap (v:Int)=(v:Int):=by rw[IntKind.wrap_i32];omega
  have w1:IntKind.u64.wrap (S+1)=S+1:=by rw[IntKind.wrap_u64,<-l];simp only[KK];omega
  have q3:decide ((v:Int)<0)=false:=bV (by omega)
  have q4:decide (0<(v:Int))=true:=aQ (by omega)
  have q5:((v:Int)==0)=false:=by simp;omega
  have q6:decide ((v:Int)=0)=false:=bV (by omega)
  rw[l] at d;refine⟨_,stepG_load_atomic (v:=S) rfl rfl (by k_ne) rfl H.f_loadU64 (x_loadU64_n L) (x_loadU64_b L) (x_loadU64_x L) .u64 (x_loadU64_f L) rfl d.cellSt,λh0=>absurd h0 (by omega),λ_=>⟨80,?_⟩⟩
  clear d
  walk_nrm
  u_op b a
  u_c stepG_region_end b a
  u_c stepG_ret' b a
  u_leave1 H.f_uLoad b a
  u_op b a
  u_c stepG_region_end b a
  repeat (u_c stepG_seq b a)
  u_reg b a
  u_op b a
  u_op b a
  u_op b a
  u_op b a
  u_c stepG_region_end b a
  repeat (u_c stepG_seq b a)
  u_reg b a
  u_op b a
  u_op b a
  u_op b a
  u_op b a
  u_c stepG_region_end b a
  repeat (u_c stepG_seq b a)
  u_reg b a
  u_op b a
  u_op b a
  u_c stepG_region_end b a
  repeat (u_c stepG_seq b a)
  u_cnd false b a
  u_c stepG_skip b a
  repeat (u_c stepG_seq b a)
  u_reg b a
  u_op b a
  u_op b a
  u_op b a
  u_op b a
  u_op b a
  u_op b a
  u_call H.f_uCas (nm_uCas L) uCasFn b a
  repeat (u_c stepG_seq b a)
  u_reg b a
  u_op b a
  u_c stepG_region_end b a
  repeat (u_c stepG_seq b a)
  u_reg b a
  u_op b a
  u_op b a
  u_op b a
  u_op b a
  u_op b a
  refine Goes.stop (λf c=>?_)
  replace a:=b a c
  clear c;refine⟨rfl,λv' OB d=>⟨λe=>?_,λe=>?_⟩⟩
  ·subst e;rw[l] at d ⊢;refine⟨_,(stepG_cas_hit (v:=S) (n:=S+1) rfl rfl (by k_ne) rfl H.f_casU64 (x_casU64_n L) (x_casU64_b L) (x_casU64_x L) .u64 (x_casU64_f L) rfl rfl rfl d.cellSt (d.thaw 0)).trans (by rfl),90,?_⟩
   replace a:WgLive L.tWg Wg (f.setCell (stA Wg) (.int .u64 (S+1))):=⟨_,_,d.setSt _⟩
   clear d
   walk_nrm
   u_op b a
   u_c stepG_region_end b a
   u_c stepG_ret' b a
   u_leave1 H.f_uCas b a
   u_c stepG_region_end b a
   repeat (u_c stepG_seq b a)
   u_cond true b a
   repeat (u_c stepG_seq b a)
   u_reg b a
   u_op b a
   u_op b a
   u_op b a
   u_op b a
   u_c stepG_region_end b a
   repeat (u_c stepG_seq b a)
   u_cond true b a
   repeat (u_c stepG_seq b a)
   u_reg b a
   u_op b a
   u_op b a
   u_op b a
   u_conv H.underlying_tPU32 H.room_tU32 (Go.ConcN.Gen.WgLive.cell1 a).choose_spec b a
   refine Goes.stop (λf c=>?_)
   clear c;refine⟨rfl,_,⟨Wg,1,none⟩,rfl,λw=>stepG_markAt .write (by simp) rfl rfl (by k_ne) rfl H.f_raceWrite (x_raceWrite_n L) (x_raceWrite_b L) (x_raceWrite_x L) (x_raceWrite_f L) (ad:=⟨Wg,1,none⟩) (by simp[Act.eval]),λw a=>⟨60,?_⟩⟩
   walk_nrm
   u_c stepG_region_end b a
   repeat (u_c stepG_seq b a)
   u_reg b a
   u_op b a
   u_c stepG_region_end b a
   repeat (u_c stepG_seq b a)
   u_reg b a
   u_op b a
   u_op b a
   u_op b a
   u_op b a
   u_skip b a
   u_op b a
   u_c stepG_region_end b a
   repeat (u_c stepG_seq b a)
   u_cond false b a
   u_c stepG_skip b a
   repeat (u_c stepG_seq b a)
   u_reg b a
   u_op b a
   u_op b a
   u_op b a
   u_op b a
   refine Goes.stop (λq k=>?_)
   replace a:=b a k
   clear k;refine⟨rfl,rfl,λ⟨st,d⟩=>stepG_semacquire_wait rfl rfl rfl H.f_semacquire (x_semacquire_n L) (x_semacquire_b L) (x_semacquire_x L) (x_semacquire_f L) (by simp[Act.eval,smA]) d.cellSm,λr=>?_⟩
   refine⟨_,(stepG_semacquire (n:=1) rfl rfl (by k_ne) rfl H.f_semacquire (x_semacquire_n L) (x_semacquire_b L) (x_semacquire_x L) (x_semacquire_f L) (by simp[Act.eval,smA]) r.cellSm (by k_ne) (r.thaw 1)).trans (by rfl),40,?_⟩
   replace a:WgLive L.tWg Wg (q.setCell (smA Wg) (.int .u32 0)):=⟨_,_,r.setSm 0⟩
   clear r
   walk_nrm
   u_c stepG_region_end b a
   repeat (u_c stepG_seq b a)
   u_reg b a
   u_op b a
   u_op b a
   u_op b a
   u_call H.f_uLoad (nm_uLoad L) uLoadFn b a
   repeat (u_c stepG_seq b a)
   u_reg b a
   u_op b a
   u_c stepG_region_end b a
   repeat (u_c stepG_seq b a)
   u_reg b a
   u_op b a
   u_op b a
   u_op b a
   refine Goes.stop (λs i=>?_)
   replace a:=b a i
   clear i;refine⟨rfl,λd=>⟨_,stepG_load_atomic (v:=0) rfl rfl (by k_ne) rfl H.f_loadU64 (x_loadU64_n L) (x_loadU64_b L) (x_loadU64_x L) .u64 (x_loadU64_f L) rfl d.cellSt,40,?_⟩⟩
   clear d
   walk_nrm
   u_op b a
   u_c stepG_region_end b a
   u_c stepG_ret' b a
   u_leave1 H.f_uLoad b a
   u_op b a
   u_op b a
   u_c stepG_region_end b a
   repeat (u_c stepG_seq b a)
   u_cond true b a
   repeat (u_c stepG_seq b a)
   u_reg b a
   refine Goes.stop (λf c=>?_)
   clear c;refine⟨rfl,_,λw=>stepG_mark0 .enable (by simp) rfl rfl (by k_ne) rfl H.f_enable (x_enable_n L) (x_enable_b L) (x_enable_x L) (x_enable_f L),λw a=>⟨20,?_⟩⟩
   walk_nrm
   u_c stepG_region_end b a
   repeat (u_c stepG_seq b a)
   u_reg b a
   u_op b a
   u_conv H.underlying_tWgP H.room_tWg (Go.ConcN.Gen.WgLive.cell0 a).choose_spec b a
   refine Goes.stop (λf c=>?_)
   clear c;refine⟨rfl,_,λw=>stepG_markAt .acquire (by simp) rfl rfl (by k_ne) rfl H.f_acquire (x_acquire_n L) (x_acquire_b L) (x_acquire_x L) (x_acquire_f L) (by simp[Act.eval,stA]),λw a=>⟨40,?_⟩⟩
   walk_nrm
   u_c stepG_region_end b a
   repeat (u_c stepG_seq b a)
   u_reg b a
   u_op b a
   u_c stepG_region_end b a
   repeat (u_c stepG_seq b a)
   u_cond false b a
   u_c stepG_skip b a
   u_c stepG_ret' b a
   u_leave0 H.f_wait b a
   exact Goes.stop λ_ _=>rfl
  ·refine⟨_,stepG_cas_miss (v:=(v':Int)*KK) (old:=S) (n:=S+1) rfl rfl (by k_ne) rfl H.f_casU64 (x_casU64_n L) (x_casU64_b L) (x_casU64_x L) .u64 (x_casU64_f L) rfl rfl rfl d.cellSt (d.thaw 0) (by rw[<-l];simp only[KK];omega),30,?_⟩
   clear d
   walk_nrm
   u_op b a
   u_c stepG_region_end b a
   u_c stepG_ret' b a
   u_leave1 H.f_uCas b a
   u_c stepG_region_end b a
   repeat (u_c stepG_seq b a)
   u_cond false b a
   u_c stepG_skip b a
   u_c stepG_inBlock b a
   u_c stepG_inLoop b a
   exact Goes.stop λ_ _=>⟨_,rfl,by simp,by simp⟩
end Go.AM
namespace Go.AM
open Go.Conc Go.Conc.Lib
open Go.ConcN (WgLive)
open Go.ConcR (KK WgAt stA smA rd wr mk DC0 Payload)
def c7(ty:TypeId)(Wg:Nat)(w w1:World):Prop:=WgLive ty Wg w->WgLive ty Wg w1
theorem c7.kn{ty:TypeId}{Wg:Nat}{w w1:World}(h:WgLive ty Wg w)(r:c7 ty Wg w w1):WgLive ty Wg w1:=r h
theorem c7.refl{ty:TypeId}{Wg:Nat}(w:World):c7 ty Wg w w:=id
theorem c7.trans{ty:TypeId}{Wg:Nat}{a b c:World}(h:c7 ty Wg a b)(k:c7 ty Wg b c):c7 ty Wg a c:=λx=>k (h x)
def sj(R:World->World->Prop)(Stop:Goroutine->World->Prop)(g:Goroutine)(w:World):Prop:=∀ w1,R w w1->Stop g w1
theorem Goes.all{P:Program}{main:Bool}{R:World->World->Prop}{D:World->World->Array Event->Prop}{Stop:Goroutine->World->Prop}(k:∀ a b c,R a b->R b c->R a c) :
  ∀ {n:Nat} {g:Goroutine} {w:World},Goes P main R D Stop n g w->Goes P main R D (sj R Stop) n g w
 |0,g,w,h=>λw1 l w2 p=>h w2 (k _ _ _ l p)
 |n+1,g,w,h=>by
  rcases h with h|⟨d,h⟩
  ·exact .inl λw1 l w2 p=>h w2 (k _ _ _ l p)
  ·refine .inr ⟨d,λw1 l=>?_⟩
   have p:=h w1 l;cases j:stepG P main g w1 with
   |go g' w' es =>
    rw[j,goes_go] at p;rw[goes_go];exact⟨p.1,Goes.all k p.2⟩
   |_=>rw[j] at p;exact p.elim
structure Apart (Wg:Nat)(F:St->Prop):Prop where
 rely:∀ s s',F s->aX s s'->F s'
 heap:∀ s,F s->∃ σ,ag σ s
 free:∀ s,F s->¬s.own Wg/\(∀ L∈s.β,Wg∉L.bs)/\∀ o,s.M Wg o=none
section
variable {P:Program}{L:WgLink}{Wg:Nat}{F:St->Prop}
def tb(ty:TypeId)(Wg:Nat)(F:St->Prop)(s:St):Prop:=F s/\WgLive ty Wg s.w
theorem Apart.Jb(A:Apart Wg F){s:St}(h:F s):et s:=(A.heap s h).choose_spec.mem
theorem Apart.set(A:Apart Wg F){s:St}(h:F s)(a:Addr)(M:a.block=Wg)(v:Value):aX s { s with w:=s.w.setCell a v }:=by
 obtain⟨l,p,y⟩:=A.free s h;have x:∀ b,b≠Wg->(s.w.setCell a v).heap[b]?=s.w.heap[b]?:=λb j=>by
  have:=(aside_setCell s.w a v).block b (by rw[M];exact j)
  exact this
 refine⟨rfl,rfl,rfl,Nat.le_of_eq (aside_setCell s.w a v).size.symm,λb j=>x b ?_,λb o u k=>?_,(aside_setCell s.w a v).os,(aside_setCell s.w a v).tape,(aside_setCell s.w a v).output⟩
 ·rintro rfl;rcases j with j|⟨L,D,j⟩
  ·exact l j
  ·exact p L D j
 ·have C:b≠Wg:=by rintro rfl;rw[y] at k;cases k
  show (s.w.setCell a v).cell? _=_;rw[gj (x b C) o];exact A.Jb h b o u k
theorem Apart.next(A:Apart Wg F){ty:TypeId}{s i:St}(h:tb ty Wg F s)(r:(Cx.lead P ty Wg).rely s i):tb ty Wg F i:=⟨A.rely s i h.1 r.1,r.2 h.2⟩
theorem Apart.here(A:Apart Wg F){ty:TypeId}{s:St}(h:tb ty Wg F s):(Cx.lead P ty Wg).rely s s:=⟨aX.qJ (A.Jb h.1),id⟩
theorem Apart.goes(A:Apart Wg F){ty:TypeId}{S:Goroutine->St->Prop}{Stop:Goroutine->World->Prop}(k:∀ g s,tb ty Wg F s->sj (c7 ty Wg) Stop g s.w->cB (Cx.lead P ty Wg) (Es Wg) S g s){n:Nat}{g:Goroutine}{s:St}
  (d:tb ty Wg F s) (h:Goes P true (c7 ty Wg) DC0 Stop n g s.w):cB (Cx.lead P ty Wg) (Es Wg) S g s:=by
 refine cB.goes (X:=Cx.lead P ty Wg) (R:=c7 ty Wg) (D:=DC0) (Stop:=sj (c7 ty Wg) Stop) (tb ty Wg F) (λs i hi f=>A.next hi f) (λs i _ f=>f.2) ?_ (λs hi=>A.here hi) k n g s d (Goes.all (λ_ _ _ l p=>l.trans p) h)
 rintro s es hi w' ⟨rfl,rfl⟩;exact⟨rfl,.inl (.quiet (A.heap s hi.1).choose_spec)⟩
end
set_option maxRecDepth 100000 in
theorem yB{P:Program}{L:WgLink}(H:WgLib P L){Wg:Nat}:Frame.enter P L.add #[.pointer (some ⟨Wg,0,none⟩),.int .i64 1] .normal=(base L.add).at ⟨#[.pointer (some ⟨Wg,0,none⟩),.int .i64 1,undef,undef,undef,undef,undef,undef,undef,undef,undef,undef,undef,undef,undef,undef,undef,undef,undef,undef,undef,undef,undef,undef,undef,undef,undef,undef,undef,undef,undef,undef,undef,undef,undef,undef,undef,undef,undef,undef,undef,undef,undef,undef,undef,undef,undef,undef,undef,undef,undef,undef,undef,undef,undef,undef,undef,undef,undef,undef,undef,undef,undef,undef,undef,undef,undef,undef,undef,undef,undef,undef,undef,undef,undef,undef,undef,undef,undef,undef,undef,undef,undef,undef,undef,undef,undef,undef,undef,undef,undef,undef,undef,undef,undef,undef,undef,undef,undef,undef,undef,undef,undef,undef,undef,undef,undef,undef,undef,undef,undef,undef,undef,undef,undef,undef,undef],[]⟩ [.code (Go.ConcR.Gen.body_add L)] :=
 (enter_at (c:=Go.ConcR.Gen.body_add L) _ H.f_add (by kernel_rfl)).trans (by kernel_rfl)
set_option maxRecDepth 100000 in
theorem wC{P:Program}{L:WgLink}(H:WgLib P L){Wg:Nat}:Frame.enter P L.wait #[.pointer (some ⟨Wg,0,none⟩)] .normal=(base L.wait).at ⟨#[.pointer (some ⟨Wg,0,none⟩),undef,undef,undef,undef,undef,undef,undef,undef,undef,undef,undef,undef,undef,undef,undef,undef,undef,undef,undef,undef,undef,undef,undef,undef,undef,undef,undef,undef,undef,undef,undef,undef,undef,undef,undef,undef,undef,undef,undef,undef,undef,undef,undef,undef,undef,undef,undef,undef,undef,undef,undef,undef,undef,undef,undef,undef,undef,undef,undef,undef,undef,undef,undef,undef,undef,undef,undef,undef,undef,undef,undef,undef,undef,undef,undef,undef,undef,undef,undef,undef,undef,undef,undef],[]⟩ [.code (Go.ConcR.Gen.body_wait L)] :=
 (enter_at (c:=Go.ConcR.Gen.body_wait L) _ H.f_wait (by kernel_rfl)).trans (by kernel_rfl)
section
variable [Payload] {P:Program}{L:WgLink}{Y:Lay}{F:St->Prop}{N n:Nat}{val:Nat->Nat->Value}
theorem Qg(H:WgLib P L)(A:Apart Y.Wg F){j:Nat}{Next:Goroutine->St->Prop}{b₀:Frame}{a₀:Act}{ops₀:Array Oper}{i₀:Nat}{rest₀:List Nat}{k₀:List Item}{cs:List Frame}
  (k:∀ s,tb L.tWg Y.Wg F s->cB (Cx.lead P L.tWg Y.Wg) (Es Y.Wg) (AtGo P L.tWg Y N val j Next) (G (b₀.at (a₀.put ((ops₀[i₀]?).bind (·.dst)) (.tuple #[])) (.inRegion ops₀ rest₀::k₀)) cs) s)
  {s:St} (d:tb L.tWg Y.Wg F s) :
  cB (Cx.lead P L.tWg Y.Wg) (Es Y.Wg) (AtKdS P L.tWg Y N val j Next) (G (Frame.enter P L.add #[.pointer (some ⟨Y.Wg,0,none⟩),.int .i64 1] .normal) (b₀.at a₀ (.inRegion ops₀ (i₀::rest₀)::k₀)::cs)) s:=by
 have z:∀ g s,tb L.tWg Y.Wg F s->Qh P (c7 L.tWg Y.Wg) L Y.Wg (G (b₀.at (a₀.put ((ops₀[i₀]?).bind (·.dst)) (.tuple #[])) (.inRegion ops₀ rest₀::k₀)) cs) g s.w->cB (Cx.lead P L.tWg Y.Wg) (Es Y.Wg) (AtKeS P L.tWg Y N val j Next) g s:=by
  rintro g s d ⟨l,g',p,y⟩;refine⟨.leaf,l,g',p,λi f=>?_⟩
  have a:=A.next d f;obtain⟨m,q⟩:=y i.w a.2;exact A.goes (λg s d h=>by obtain rfl:=h s.w (.refl _);exact k s d) a q
 have o:∀ g s,tb L.tWg Y.Wg F s->sj (c7 L.tWg Y.Wg) (Sc P (c7 L.tWg Y.Wg) L Y.Wg (G (b₀.at (a₀.put ((ops₀[i₀]?).bind (·.dst)) (.tuple #[])) (.inRegion ops₀ rest₀::k₀)) cs)) g s.w->cB (Cx.lead P L.tWg Y.Wg) (Es Y.Wg) (AtA1 P L.tWg Y N val j Next) g s:=by
  rintro g s d h;refine⟨.leaf,(h s.w (.refl _)).1,λi f v J t=>?_⟩
  have a:=A.next d f;obtain⟨g',l,m,q⟩:=(h i.w f.2).2 v J t;have b:tb L.tWg Y.Wg F { i with w:=i.w.setCell (stA Y.Wg) (.int .u64 ((v+1)*KK)) }:=⟨A.rely _ _ a.1 (A.set a.1 _ rfl _),⟨_,_,t.setSt _⟩⟩;refine⟨g',l,A.goes (λg s d h=>?_) b q⟩
  rcases h s.w (.refl _) with h|h
  ·obtain⟨l,g',ad,p,y,V⟩:=h;refine .step l λi f=>⟨g',i,_,y i.w,.inr ⟨rfl,ad,p,.inl rfl⟩,?_⟩
   have a:=A.next d f;obtain⟨m,q⟩:=V i.w a.2;exact A.goes (λg s d h=>z g s d (h s.w (.refl _))) a q
  ·exact z g s d h
 have t:=Ht (P:=P) (L:=L) H (R:=c7 L.tWg Y.Wg) (Wg:=Y.Wg) (λh r=>r h) (b₀:=b₀) (a₀:=a₀) (ops₀:=ops₀) (i₀:=i₀) (rest₀:=rest₀) (k₀:=k₀) (cs:=cs) s.w d.2
 rw[yB H];refine A.goes (λg s d h=>?_) d t
 obtain⟨l,g',p,y⟩:=h s.w (.refl _);refine⟨.leaf,l,g',p,λi f=>?_⟩
 have a:=A.next d f;obtain⟨m,q⟩:=y i.w a.2;exact A.goes o a q
section
variable (P L Y F)
def TW(B g:Goroutine)(s:St):Prop:=tb L.tWg Y.Wg F s/\∃ m,Goes P true (c7 L.tWg Y.Wg) DC0 (λg _=>g=B) m g s.w
def As(c:Frame)(cs:List Frame)(g:Goroutine)(s:St):Prop:=tb L.tWg Y.Wg F s/\∃ m,Goes P true (c7 L.tWg Y.Wg) DC0 (λg _=>Kp L Y.Wg c cs g) m g s.w
end
variable {b₀:Frame}{a₀:Act}{ops₀:Array Oper}{i₀:Nat}{rest₀:List Nat}{k₀:List Item}{cs:List Frame}
omit [Payload] in
theorem Nf(H:WgLib P L)(A:Apart Y.Wg F){T I:Goroutine->St->Prop}(O:∀ g s,TW P L Y F (G (b₀.at (a₀.put ((ops₀[i₀]?).bind (·.dst)) (.tuple #[])) (.inRegion ops₀ rest₀::k₀)) cs) g s->T g s)
  (E:∀ g s,As P L Y F (b₀.at a₀ (.inRegion ops₀ (i₀::rest₀)::k₀)) cs g s->I g s) {g:Goroutine} {s:St} (h:As P L Y F (b₀.at a₀ (.inRegion ops₀ (i₀::rest₀)::k₀)) cs g s) :
  cB (Cx.lead P L.tWg Y.Wg) (Es Y.Wg) (AtW1 P L.tWg Y T I) g s:=by
 generalize hc:b₀.at a₀ (.inRegion ops₀ (i₀::rest₀)::k₀)=c at *;generalize Z:G (b₀.at (a₀.put ((ops₀[i₀]?).bind (·.dst)) (.tuple #[])) (.inRegion ops₀ rest₀::k₀)) cs=B at O;have K:∀ g s,tb L.tWg Y.Wg F s->sj (c7 L.tWg Y.Wg) (Ng P (c7 L.tWg Y.Wg) L Y.Wg B) g s.w->cB (Cx.lead P L.tWg Y.Wg) (Es Y.Wg) (AtAcq P L.tWg Y T) g s:=by
  intro g s d h;obtain⟨l,g',p,y⟩:=h s.w (.refl _);exact⟨.leaf,l,g',p,λi f=>O _ _ ⟨A.next d f,y i.w (A.next d f).2⟩⟩
 have z:∀ g s,tb L.tWg Y.Wg F s->sj (c7 L.tWg Y.Wg) (Qi P (c7 L.tWg Y.Wg) L Y.Wg B) g s.w->cB (Cx.lead P L.tWg Y.Wg) (Es Y.Wg) (AtKe P L.tWg Y T) g s:=by
  intro g s d h;obtain⟨l,g',p,y⟩:=h s.w (.refl _);refine⟨.leaf,l,g',p,λi f=>?_⟩
  obtain⟨m,q⟩:=y i.w (A.next d f).2;exact A.goes K (A.next d f) q
 have W:∀ g s,tb L.tWg Y.Wg F s->sj (c7 L.tWg Y.Wg) (Sd P (c7 L.tWg Y.Wg) L Y.Wg B) g s.w->cB (Cx.lead P L.tWg Y.Wg) (Es Y.Wg) (AtW4 P L.tWg Y T) g s:=by
  intro g s d h;refine⟨.leaf,(h s.w (.refl _)).1,λi f t=>?_⟩
  obtain⟨g',l,m,q⟩:=(h i.w f.2).2 t;exact⟨g',l,A.goes z (A.next d f) q⟩
 have U:∀ g s,tb L.tWg Y.Wg F s->sj (c7 L.tWg Y.Wg) (Se P (c7 L.tWg Y.Wg) L Y.Wg B) g s.w->cB (Cx.lead P L.tWg Y.Wg) (Es Y.Wg) (AtW3 P L.tWg Y T) g s:=by
  intro g s d h;refine⟨.leaf,(h s.w (.refl _)).1,(h s.w (.refl _)).2.1,λi f=>⟨(h i.w f.2).2.2.1,λt=>?_⟩⟩
  obtain⟨g',l,m,q⟩:=(h i.w f.2).2.2.2 t;exact⟨g',l,A.goes W (s:={ i with w:=i.w.setCell (smA Y.Wg) (.int .u32 0) }) ⟨A.rely _ _ (A.next d f).1 (A.set (A.next d f).1 _ rfl _),⟨_,_,t.setSm 0⟩⟩ q⟩
 have Q:∀ g s,tb L.tWg Y.Wg F s->sj (c7 L.tWg Y.Wg) (Sf P (c7 L.tWg Y.Wg) L Y.Wg B) g s.w->cB (Cx.lead P L.tWg Y.Wg) (Es Y.Wg) (AtW3 P L.tWg Y T) g s:=by
  intro g s d h;obtain⟨l,g',ad,p,y,V⟩:=h s.w (.refl _);refine .step l λi f=>⟨g',i,_,y i.w,.inr ⟨rfl,ad,p,.inr rfl⟩,?_⟩
  obtain⟨m,q⟩:=V i.w (A.next d f).2;exact A.goes U (A.next d f) q
 have Ug:∀ (v:Nat) g s,tb L.tWg Y.Wg F s->sj (c7 L.tWg Y.Wg) (Sg P (c7 L.tWg Y.Wg) L Y.Wg B (Kp L Y.Wg c cs) v) g s.w->cB (Cx.lead P L.tWg Y.Wg) (Es Y.Wg) (AtW2 P L.tWg Y T I v) g s:=by
  intro vs g s d h;refine⟨.leaf,(h s.w (.refl _)).1,λi f v J t=>⟨λe=>?_,λe=>?_⟩⟩
  ·obtain⟨g',l,m,q⟩:=((h i.w f.2).2 v J t).1 e;exact⟨g',l,A.goes Q (s:={ i with w:=i.w.setCell (stA Y.Wg) (.int .u64 (v*KK+1)) }) ⟨A.rely _ _ (A.next d f).1 (A.set (A.next d f).1 _ rfl _),⟨_,_,t.setSt _⟩⟩ q⟩
  ·obtain⟨g',l,m,q⟩:=((h i.w f.2).2 v J t).2 e;exact⟨g',l,E _ _ ⟨A.next d f,m,q⟩⟩
 obtain⟨d,m,q⟩:=h;refine A.goes (λg s d h=>?_) d q
 obtain⟨m,t⟩:=yC (P:=P) (L:=L) H (R:=c7 L.tWg Y.Wg) (Wg:=Y.Wg) (λh r=>r h) (b₀:=b₀) (a₀:=a₀) (ops₀:=ops₀) (i₀:=i₀) (rest₀:=rest₀) (k₀:=k₀) (cs:=cs) g (by rw[hc];exact h s.w (.refl _)) s.w d.2
 rw[hc,Z] at t;refine A.goes (λg s d h=>?_) d t
 refine⟨.leaf,(h s.w (.refl _)).1,λi f v J t=>?_⟩
 obtain⟨g',l,p,y⟩:=(h i.w f.2).2 v J t;refine⟨g',l,λh0=>?_,λC=>?_⟩
 ·obtain⟨m,q⟩:=p h0;exact A.goes z (A.next d f) q
 ·obtain⟨m,q⟩:=y C;exact A.goes (Ug v) (A.next d f) q
omit [Payload] in
theorem Nh(H:WgLib P L)(A:Apart Y.Wg F){c:Frame}{I:Goroutine->St->Prop}(E:∀ g s,As P L Y F c cs g s->I g s){s:St}(d:tb L.tWg Y.Wg F s) :
  cB (Cx.lead P L.tWg Y.Wg) (Es Y.Wg) (AtKd P L.tWg Y I) (G (Frame.enter P L.wait #[.pointer (some ⟨Y.Wg,0,none⟩)] .normal) (c::cs)) s:=by
 have t:=yD (P:=P) (L:=L) H (R:=c7 L.tWg Y.Wg) (Wg:=Y.Wg) (λh r=>r h) (c:=c) (cs:=cs) s.w d.2
 rw[wC H];refine A.goes (λg s d h=>?_) d t
 obtain⟨l,g',p,y⟩:=h s.w (.refl _);exact⟨.leaf,l,g',p,λi f=>E _ _ ⟨A.next d f,y i.w (A.next d f).2⟩⟩
end
end Go.AM
namespace Go.AM.R1
open Go.Proofs Go.Conc.Lib
def Ji:WgLink:={ add:=126,done:=128,wait:=130,relMerge:=156,disable:=157,enable:=158,inBubble:=159,associate:=160,fatal:=161,uOr:=162,uAdd:=163,raceRead:=164,uLoad:=165,uStore:=166,disassociate:=167,semrelease:=168,acquire:=170,isAssociated:=171,uCas:=172,raceWrite:=173,semacquire:=174,orU64:=193,addU64:=194,loadU64:=195,storeU64:=196,casU64:=199,tWgP:=221,tUP:=223,tAssoc:=225,tWg:=197,tAU:=195,tU64:=188,tUint:=156,tU32:=186,tPU32:=229,tPAU:=262,tPU64:=264,tNoCopy:=191,tANoCopy:=192,tAlign64:=193 }
theorem wN:WgLib Tryz.prog Ji where
 f_add:=Tryz.func126.trans (b8 some (by kernel_rfl))
 f_done:=Tryz.func128.trans (b8 some (by kernel_rfl))
 f_wait:=Tryz.func130.trans (b8 some (by kernel_rfl))
 f_relMerge:=Tryz.func156.trans (b8 some (by kernel_rfl))
 f_disable:=Tryz.func157.trans (b8 some (by kernel_rfl))
 f_enable:=Tryz.func158.trans (b8 some (by kernel_rfl))
 f_inBubble:=Tryz.func159.trans (b8 some (by kernel_rfl))
 f_associate:=Tryz.func160.trans (b8 some (by kernel_rfl))
 f_fatal:=Tryz.func161.trans (b8 some (by kernel_rfl))
 f_uOr:=Tryz.func162.trans (b8 some (by kernel_rfl))
 f_uAdd:=Tryz.func163.trans (b8 some (by kernel_rfl))
 f_raceRead:=Tryz.func164.trans (b8 some (by kernel_rfl))
 f_uLoad:=Tryz.func165.trans (b8 some (by kernel_rfl))
 f_uStore:=Tryz.func166.trans (b8 some (by kernel_rfl))
 f_disassociate:=Tryz.func167.trans (b8 some (by kernel_rfl))
 f_semrelease:=Tryz.func168.trans (b8 some (by kernel_rfl))
 f_acquire:=Tryz.func170.trans (b8 some (by kernel_rfl))
 f_isAssociated:=Tryz.func171.trans (b8 some (by kernel_rfl))
 f_uCas:=Tryz.func172.trans (b8 some (by kernel_rfl))
 f_raceWrite:=Tryz.func173.trans (b8 some (by kernel_rfl))
 f_semacquire:=Tryz.func174.trans (b8 some (by kernel_rfl))
 f_orU64:=Tryz.func193.trans (b8 some (by kernel_rfl))
 f_addU64:=Tryz.func194.trans (b8 some (by kernel_rfl))
 f_loadU64:=Tryz.func195.trans (b8 some (by kernel_rfl))
 f_storeU64:=Tryz.func196.trans (b8 some (by kernel_rfl))
 f_casU64:=Tryz.func199.trans (b8 some (by kernel_rfl))
 underlying_tWgP:=Tryz.underlying221
 runUnderlying_tWgP:=Tryz.runUnderlying221
 sizeOf_tWgP:=Tryz.sizeOf221
 isAgg_tWgP:=Tryz.isAgg221
 zeroValue_tWgP:=Tryz.zeroValue221
 underlying_tUP:=Tryz.underlying223
 runUnderlying_tUP:=Tryz.runUnderlying223
 sizeOf_tUP:=Tryz.sizeOf223
 isAgg_tUP:=Tryz.isAgg223
 zeroValue_tUP:=Tryz.zeroValue223
 underlying_tI32:=Tryz.underlying225
 runUnderlying_tI32:=Tryz.runUnderlying225
 sizeOf_tI32:=Tryz.sizeOf225
 isAgg_tI32:=Tryz.isAgg225
 zeroValue_tI32:=Tryz.zeroValue225
 underlying_tWg:=Tryz.underlying197
 runUnderlying_tWg:=Tryz.runUnderlying197
 sizeOf_tWg:=Tryz.sizeOf197
 isAgg_tWg:=Tryz.isAgg197
 zeroValue_tWg:=Tryz.zeroValue197
 underlying_tAU:=Tryz.underlying195
 runUnderlying_tAU:=Tryz.runUnderlying195
 sizeOf_tAU:=Tryz.sizeOf195
 isAgg_tAU:=Tryz.isAgg195
 zeroValue_tAU:=Tryz.zeroValue195
 underlying_tU64:=Tryz.underlying188
 runUnderlying_tU64:=Tryz.runUnderlying188
 sizeOf_tU64:=Tryz.sizeOf188
 isAgg_tU64:=Tryz.isAgg188
 zeroValue_tU64:=Tryz.zeroValue188
 underlying_tSh:=Tryz.underlying156
 runUnderlying_tSh:=Tryz.runUnderlying156
 sizeOf_tSh:=Tryz.sizeOf156
 isAgg_tSh:=Tryz.isAgg156
 zeroValue_tSh:=Tryz.zeroValue156
 underlying_tU32:=Tryz.underlying186
 runUnderlying_tU32:=Tryz.runUnderlying186
 sizeOf_tU32:=Tryz.sizeOf186
 isAgg_tU32:=Tryz.isAgg186
 zeroValue_tU32:=Tryz.zeroValue186
 underlying_tPU32:=Tryz.underlying229
 runUnderlying_tPU32:=Tryz.runUnderlying229
 sizeOf_tPU32:=Tryz.sizeOf229
 isAgg_tPU32:=Tryz.isAgg229
 zeroValue_tPU32:=Tryz.zeroValue229
 underlying_tPAU:=Tryz.underlying262
 runUnderlying_tPAU:=Tryz.runUnderlying262
 sizeOf_tPAU:=Tryz.sizeOf262
 isAgg_tPAU:=Tryz.isAgg262
 zeroValue_tPAU:=Tryz.zeroValue262
 underlying_tPU64:=Tryz.underlying264
 runUnderlying_tPU64:=Tryz.runUnderlying264
 sizeOf_tPU64:=Tryz.sizeOf264
 isAgg_tPU64:=Tryz.isAgg264
 zeroValue_tPU64:=Tryz.zeroValue264
 underlying_t0:=Tryz.underlying0
 runUnderlying_t0:=Tryz.runUnderlying0
 sizeOf_t0:=Tryz.sizeOf0
 isAgg_t0:=Tryz.isAgg0
 zeroValue_t0:=Tryz.zeroValue0
 underlying_t3:=Tryz.underlying3
 runUnderlying_t3:=Tryz.runUnderlying3
 sizeOf_t3:=Tryz.sizeOf3
 isAgg_t3:=Tryz.isAgg3
 zeroValue_t3:=Tryz.zeroValue3
 underlying_t4:=Tryz.underlying4
 runUnderlying_t4:=Tryz.runUnderlying4
 sizeOf_t4:=Tryz.sizeOf4
 isAgg_t4:=Tryz.isAgg4
 zeroValue_t4:=Tryz.zeroValue4
 underlying_t9:=Tryz.underlying9
 runUnderlying_t9:=Tryz.runUnderlying9
 sizeOf_t9:=Tryz.sizeOf9
 isAgg_t9:=Tryz.isAgg9
 zeroValue_t9:=Tryz.zeroValue9
 underlying_t20:=Tryz.underlying20
 runUnderlying_t20:=Tryz.runUnderlying20
 sizeOf_t20:=Tryz.sizeOf20
 isAgg_t20:=Tryz.isAgg20
 zeroValue_t20:=Tryz.zeroValue20
 underlying_t21:=Tryz.underlying21
 runUnderlying_t21:=Tryz.runUnderlying21
 sizeOf_t21:=Tryz.sizeOf21
 isAgg_t21:=Tryz.isAgg21
 zeroValue_t21:=Tryz.zeroValue21
 room_tWg:=by kernel_rfl
 room_tU32:=by kernel_rfl
end Go.AM.R1
namespace Go.AM
open Go.Conc (G)
structure Eg {P:Program}(X:Cx P)(N:Nat)(ops:Array Oper)(φ:Fr)(σ:List ak)(x:Nat->D)(c:Nat->Fr)(idx:Nat->Option Nat)(last:Nat):Prop where
 back:∀ i o,ops[i]?=some o->∀ e∈o.after,bt e=true->e.on<i
 pr:∀ i o d,ops[i]?=some o->o.dst=some d->idx d=some i/\d<N
 lq:∀ d i,idx d=some i->∃ o,ops[i]?=some o/\o.dst=some d
 one:∀ i o,ops[i]?=some o->i≠last->OA X N ops.toList o (c i) σ (x i) σ
 Gv:∀ i o,ops[i]?=some o->i≠last->∀ t σ s v,b5 σ s v (match idx t with|some j=>(if ∃ e∈o.after,bt e=true/\e.on=j then x j else .any)|none=>look φ t)->b5 σ s v (look (c i) t)
 OK:∀ o,ops[last]?=some o->∀ j,j<ops.size->j≠last->∃ e∈o.after,bt e=true/\e.on=j
 has:last<ops.size
section
variable {P:Program}{X:Cx P}{N:Nat}{ops:Array Oper}{φ:Fr}{σ:List ak}{x:Nat->D}{c:Nat->Fr}{idx:Nat->Option Nat}{last:Nat}
theorem wA{fuel t:Nat}{L:Array Bool}(h:∀ i,i<ops.size->L.getD i true=true):Region.linearise.go .any ops fuel t L []=[]:=by
 cases fuel with
 |zero=>exact qB t L
 |succ n =>
  have a:Region.ready .any ops L=[]:=by
   cases a:Region.ready .any ops L with
   |nil=>rfl
   |cons y f =>
    have e:y∈Region.ready .any ops L:=by rw[a];simp
    obtain⟨o,d,b,_⟩:=mem_ready.1 e;rw[h y (dF.1 d).1] at b;cases b
  rw[iY,a];rfl
theorem Eg.arr(h:Eg X N ops φ σ x c idx last){SS:Goroutine->St->Prop}{b:Frame}{kk:List Item}{cs:List Frame}(q:b.kind≠.early){s0:St}
  (hQ:∀ s a,a.tmps.size=N->(∀ t,b5 σ s (a.tmps.getD t undef) (match idx t with|some j=>if j=last then .any else x j|none=>look φ t))->a.defers=[]->ag σ s->bq σ s0 σ s->db X SS (G (b.aT a (.inRegion ops [last]::kk)) cs) s) :
  ∀ (fuel:Nat) (L:Array Bool),L.size=ops.size->(L.toList.filter (λb=>!b)).length<=fuel->¬L.getD last false=true ->
   (∀ i o,ops[i]?=some o->L.getD i false=true->∀ e∈o.after,bt e=true->L.getD e.on false=true) ->
   ∀ (s:St) (a:Act),x0 N σ s (dh φ x idx L) a->a.defers=[]->ag σ s->bq σ s0 σ s ->
   ∀ t,db X SS (G (b.aT a (.inRegion ops (Region.linearise.go .any ops fuel t L [])::kk)) cs) s:=by
 intro fuel
 induction fuel with
 |zero =>
  intro L hs hf l W s a g K hh st t;exfalso;have Y:L[last]'(by have:=h.has;omega)∈L.toList:=by simp
  have J:=h.has;cases q:L[last]'(by omega) with
  |true=>exact l (by simp[bA,bJ (by omega:last<L.size),q])
  |false =>
   have:L[last]'(by omega)∈L.toList.filter (λb=>!b):=pP.2 ⟨Y,by simp[q]⟩
   have:=tV this;omega
 |succ fuel ih =>
  intro L hs hf l W s a g K hh st t;rw[iY];cases r:(Region.ready .any ops L)[t % (Region.ready .any ops L).length]? with
  |none =>
   exfalso;have hr:Region.ready .any ops L=[]:=by
    cases hr:Region.ready .any ops L with
    |nil=>rfl
    |cons y ys =>
     rw[hr] at r;have J:t % (y::ys).length<(y::ys).length:=jA _ (by simp)
     simp at r;simp at J;omega
   have R:∀ i,i<ops.size->L.getD i false=true:=by
    intro i
    induction i using Nat.strongRecOn with
    |_ i O5 =>
     intro hi;cases q:L.getD i false with
     |true=>rfl
     |false =>
      have Y:i∈Region.ready .any ops L:=mem_ready.2 ⟨ops[i],bJ hi,by
       simpa[bA,bJ (by omega:i<L.size)] using q,λe z u=>by
       have:=h.back i _ (bJ hi) e z u;exact O5 _ this (by omega)⟩
      rw[hr] at Y;simp at Y
   exact l (R last h.has)
  |some i =>
   have hi:=aG r;obtain⟨o,A,S,p⟩:=mem_ready.1 hi;have J:i<ops.size:=(dF.1 A).1;have T:¬L.getD i false=true:=by
    simp only[bA,bJ (by omega:i<L.size),cp] at S ⊢
    simp[S]
   by_cases H:i=last
   ·subst H;have O:Region.linearise.go .any ops fuel (t / (Region.ready .any ops L).length) (L.setIfInBounds i true) []=[]:=by
     refine wA λj hj=>?_
     have V:(L.setIfInBounds i true).getD j false=true:=by
      rw[bG (by omega)]
      by_cases e:j=i
      ·exact .inl e
      ·obtain⟨ed,z,u,rfl⟩:=h.OK o A j hj e;exact .inr (p ed z u)
     simp only[bA,bJ (by simp;omega:j<(L.setIfInBounds i true).size),cp] at V ⊢
     exact V
    simp only[O];refine hQ s a g.size (λt=>?_) K hh st
    have:=g.slot t;unfold dh at this;cases f:idx t with
    |none=>simpa[f] using this
    |some j =>
     simp only[f] at this ⊢;obtain⟨oj,m,_⟩:=h.lq _ _ f
     by_cases e:j=i
     ·rw[aq e];trivial
     ·rw[an e];obtain⟨ed,z,u,rfl⟩:=h.OK o A j (dF.1 m).1 e;rw[aq (p ed z u)] at this;exact this
   have C:(L.setIfInBounds i true).size=ops.size:=by simp[hs]
   have B:((L.setIfInBounds i true).toList.filter (λb=>!b)).length<=fuel:=by
    have h1:L.toList[i]?=some false:=by
     rw[ly,bJ (by omega:i<L.size)]
     simpa[bA,bJ (by omega:i<L.size)] using T
    have:=count_set h1;rw[mP];omega
   have U:∀ j Z,ops[j]?=some Z->(L.setIfInBounds i true).getD j false=true->∀ e∈Z.after,bt e=true->(L.setIfInBounds i true).getD e.on false=true:=by
    intro j Z Q hj e z q;rw[bG (by omega)] at hj ⊢
    rcases hj with rfl|hj
    ·rw[A] at Q;cases Q;exact .inr (p e z q)
    ·exact .inr (W j Z Q hj e z q)
   have F:¬(L.setIfInBounds i true).getD last false=true:=by
    rw[bG (by omega)]
    rintro(e|e)
    ·exact H e.symm
    ·exact l e
   have O7:bg N σ s (c i) a:=g.Bd λt σ s v E=>h.Gv i o A H t σ s v (by
    unfold dh at E;cases f:idx t with
    |none=>simpa[f] using E
    |some j =>
     simp only[f] at E ⊢;split
     ·rename_i hex
      obtain⟨e,z,q,rfl⟩:=hex;rw[aq (p e z q)] at E;exact E
     ·trivial)
   have M:∀ (s':St) (v:Value),bq σ s σ s'->b5 σ s' v (x i)->x0 N σ s' (dh φ x idx (L.setIfInBounds i true)) (a.put o.dst v):=by
    intro s' v n E;cases K:o.dst with
    |none =>
     refine⟨g.size,g.defers.imp λ_ h1=>h1.mono n.ext,λt=>?_⟩
     have k:=(g.slot t).mono n.ext hh.len;simp only[Act.put];unfold dh at k ⊢;cases f:idx t with
     |none=>simpa[f] using k
     |some j =>
      simp only[f] at k ⊢;obtain⟨oj,m,w⟩:=h.lq _ _ f;have I:j≠i:=by rintro rfl;rw[A] at m;cases m;rw[K] at w;cases w
      have:((L.setIfInBounds i true).getD j false=true)↔L.getD j false=true:=by rw[bG (by omega)];simp[I]
      simp only[this];exact k
    |some d =>
     obtain⟨O8,O9⟩:=h.pr i o d A K;refine⟨by simp[Act.put,g.size],g.defers.imp λ_ h1=>h1.mono n.ext,λt=>?_⟩
     simp only[Act.put]
     by_cases e:d=t
     ·subst e;have Pa:d<a.tmps.size:=by rw[g.size];exact O9
      simp only[bA,jR Pa,cp];unfold dh;simp only[O8];rw[aq ((bG (by omega)).2 (.inl rfl))]
      exact E
     ·have k:=(g.slot t).mono n.ext hh.len;simp only[bA] at k ⊢;rw[ic e];unfold dh at k ⊢;cases f:idx t with
      |none=>simpa[f] using k
      |some j =>
       simp only[f] at k ⊢;obtain⟨oj,m,w⟩:=h.lq _ _ f;have I:j≠i:=by rintro rfl;rw[A] at m;cases m;rw[K] at w;cases w;exact e rfl
       have:((L.setIfInBounds i true).getD j false=true)↔L.getD j false=true:=by rw[bG (by omega)];simp[I]
       simp only[this];exact k
   have:=h.one i o A H s a O7 hh b kk cs SS i (Region.linearise.go .any ops fuel (t / (Region.ready .any ops L).length) (L.setIfInBounds i true) []) q (by simpa using A)
   simp only[jW] at this;exact this λv s' E j9 n=>ih _ C B F U s' _ (M _ _ n E) (by cases o.dst <;> exact K) j9 (st.trans n) _
theorem Eg.region(h:Eg X N ops φ σ x c idx last)(z:P.follows Departure.mixedOrders=true){r:Goroutine->St->Prop}{b:Frame}{kk:List Item}{cs:List Frame}(v:b.kind≠.early){s0:St}{a0:Act}{id:Nat}
  (u:bg N σ s0 φ a0) (p:a0.defers=[]) (m:ag σ s0)
  (A:∀ s a,a.tmps.size=N->(∀ t,b5 σ s (a.tmps.getD t undef) (match idx t with|some j=>if j=last then .any else x j|none=>look φ t))->a.defers=[]->ag σ s->bq σ s0 σ s->db X r (G (b.aT a (.inRegion ops [last]::kk)) cs) s) :
  db X r (G (b.aT a0 (.code (.region id ops true)::kk)) cs) s0:=by
 refine .next rfl λg f=>?_
 have f:=X.fG f;have e:=m.rely f;have n:=u.rely f m;have k:Step σ g σ { g with w:={ g.w with drawn:=g.w.drawn+1 } }:=Step.same rfl rfl rfl rfl;have l:ag σ { g with w:={ g.w with drawn:=g.w.drawn+1 } }:=e.same rfl;have q:=f.stepW.trans (k.mG e);refine⟨_,{ g with w:={ g.w with drawn:=g.w.drawn+1 } },#[],iT,⟨⟨σ,σ,e,l,k⟩,.nil⟩,?_⟩;simp only[Region.schedule,z,Bool.true_or,aV];refine h.arr v (s0:=s0) A ops.size _ (by simp) (by simp) ?_ ?_ _ a0 ?_ p l q _
 ·simp[bA,jS];split <;> simp
 ·intro i o B hi;simp[bA,jS] at hi;split at hi <;> simp at hi
 ·have d:=n.mono (k.mG e) e.len;refine⟨d.size,d.defers,λt=>?_⟩
  unfold dh;cases y:idx t with
  |none=>exact d.slot t
  |some j =>
   simp only;rw[an]
   ·exact d.slot t
   ·simp[bA,jS];split <;> simp
end
end Go.AM
namespace Go.AM
open Go.Conc Go.RowKit Go.Conc.Lib Go.ConcR.Gen
open Go.ConcN (WgLive Has RW DWs AtR0 EvW)
open Go.ConcN.Gen
open Go.ConcR (KK WgAt stA smA rd wr mk DC0 Payload)
section
variable {P:Program}{R:World->World->Prop}{D:World->World->Array Event->Prop}{Stop A:Goroutine->World->Prop}
theorem Goes.never(b:∀ w,R w w)(f:∀ g w,Stop g w->∃ g' e,stepG P false g w=.go g' w #[e])(d:∀ n g w,A g w->¬Goes P false R D Stop n g w) :
  ∀ (m n:Nat) (g:Goroutine) (w:World),Goes P false R DC0 A m g w->¬Goes P false R D Stop n g w
 |0,n,g,w,h,k=>d n g w (h w (b w)) k
 |m+1,n,g,w,h,k=>by
  rcases h with h|⟨_,h⟩
  ·exact d n g w (h w (b w)) k
  ·have h1:=h w (b w);cases a:stepG P false g w with
   |go g' w' es =>
    rw[a,goes_go] at h1;obtain⟨⟨rfl,rfl⟩,h2⟩:=h1;have no:¬Stop g w':=λi=>by
     obtain⟨g2,e,j⟩:=f g w' i;rw[j] at a;simp at a
    cases n with
    |zero=>exact no (k w' (b w'))
    |succ n =>
     rcases k with k|⟨_,k⟩
     ·exact no (k w' (b w'))
     ·have k1:=k w' (b w');rw[a,goes_go] at k1;exact Goes.never b f d m n g' w' h2 k1.2
   |_=>rw[a] at h1;exact h1.elim
theorem Goes.meet(f:∀ w,R w w)(i:∀ g w,Stop g w->∃ g' e,stepG P false g w=.go g' w #[e])(b:∀ n g w,A g w->Goes P false R D Stop n g w->∀ w1,R w w1->Stop g w1) :
  ∀ (m n:Nat) (g:Goroutine) (w:World),Goes P false R DC0 A m g w->Goes P false R D Stop n g w->Goes P false R DC0 Stop m g w
 |0,n,g,w,h,k=>b n g w (h w (f w)) k
 |m+1,n,g,w,h,k=>by
  rcases h with h|⟨d,h⟩
  ·exact .inl (b n g w (h w (f w)) k)
  ·refine .inr ⟨d,λw1 hr=>?_⟩
   have h1:=h w1 hr;cases a:stepG P false g w1 with
   |go g' w' es =>
    rw[a,goes_go] at h1;rw[goes_go];obtain⟨⟨rfl,rfl⟩,h2⟩:=h1;have no:¬Stop g w':=λd=>by
     obtain⟨g2,e,j⟩:=i g w' d;rw[j] at a;simp at a
    refine⟨⟨rfl,rfl⟩,?_⟩;cases n with
    |zero=>exact absurd (k w' hr) no
    |succ n =>
     rcases k with k|⟨_,k⟩
     ·exact absurd (k w' hr) no
     ·have k1:=k w' hr;rw[a,goes_go] at k1;exact Goes.meet f i b m n g' w' h2 k1.2
   |_=>rw[a] at h1;exact h1.elim
end
variable [Payload] {L:WgLink}{P:Program}{Wg C n Low x:Nat}{val:Value}{c:Frame}{cs:List Frame}
def VD(P:Program)(g:Goroutine)(_:World):Prop:=∃ g3,∀ w,stepG P false g w=.go g3 w #[mk .disable]
def VE(P:Program)(L:WgLink)(Wg C n Low x:Nat)(val:Value)(g:Goroutine)(w:World):Prop :=
 (WgLive L.tWg Wg w/\Has C (x-1) val w)/\∃ a,(∀ w,stepG P false g w=.go a w #[mk (.releaseMerge (stA Wg))])/\∀ w,WgLive L.tWg Wg w/\Has C (x-1) val w->∃ m,Goes P false (RW L.tWg Wg C n Low (x-1)) DC0 (VD P) m a w
set_option maxRecDepth 100000 in
set_option maxHeartbeats 2000000 in
theorem F0(H:WgLib P L)(w:World)(a:WgLive L.tWg Wg w/\Has C (x-1) val w) :
  Goes P false (RW L.tWg Wg C n Low (x-1)) DC0 (VE P L Wg C n Low x val) 23 (G ((baseD L.done).at ⟨#[.pointer (some ⟨Wg,0,none⟩),undef,undef,undef],[]⟩ [.code (body_done L)]) (c::cs)) w:=by
 lib_facts
 simp only[body_done,body_add,doneFn,addFn,cp]
 u_reg kn_rely a
 u_op kn_rely a
 u_in kn_rely a
 refine goes_call rfl rfl (by k_ne) rfl H.f_add (nm_add L) rfl ⟨by u_nil,?_⟩
 walk_nrmf addFn
 repeat (u_c stepG_seq kn_rely a)
 u_cond true kn_rely a
 repeat (u_c stepG_seq kn_rely a)
 u_reg kn_rely a
 u_op kn_rely a
 u_op kn_rely a
 u_c stepG_region_end kn_rely a
 repeat (u_c stepG_seq kn_rely a)
 u_cond true kn_rely a
 u_reg kn_rely a
 u_op kn_rely a
 u_conv H.underlying_tWgP H.room_tWg (Go.ConcN.Gen.WgLive.cell0 a.1).choose_spec kn_rely a
 refine Goes.stop (λd b=>?_)
 replace a:=kn_rely a b
 clear b;refine⟨a,_,λw=>stepG_markAt .releaseMerge (by simp) rfl rfl (by k_ne) rfl H.f_relMerge (x_relMerge_n L) (x_relMerge_b L) (x_relMerge_x L) (x_relMerge_f L) (by simp[Act.eval,stA]),λw a=>⟨10,?_⟩⟩
 walk_nrm
 u_c stepG_region_end kn_rely a
 repeat (u_c stepG_seq kn_rely a)
 u_reg kn_rely a
 exact Goes.stop λd b=>⟨_,λw=>stepG_mark0 .disable (by simp) rfl rfl (by k_ne) rfl H.f_disable (x_disable_n L) (x_disable_b L) (x_disable_x L) (x_disable_f L)⟩
theorem Ny(H:WgLib P L){y:Nat}(j:c.mode=.returning)(v:QuitsD P y 0 (G c cs))(w:World)(d:WgLive L.tWg Wg w/\Has C (x-1) val w) :
  Goes P false (RW L.tWg Wg C n Low (x-1)) DC0 (AtR0 P L.tWg Wg C n Low x val) 23 (G ((baseD L.done).at ⟨#[.pointer (some ⟨Wg,0,none⟩),undef,undef,undef],[]⟩ [.code (body_done L)]) (c::cs)) w:=by
 have E:=doneN (Own:=λ_ _=>False) (Rd:=λ_ _=>False) (Low:=Low) (n:=n) H j v w d
 have p:∀ g w,AtR0 P L.tWg Wg C n Low x val g w->∃ g' e,stepG P false g w=.go g' w #[e]:=λg w h=>by
  obtain⟨_,_,g',i,_⟩:=h;exact⟨g',_,i⟩
 have t:(mk (.releaseMerge (stA Wg)):Event)≠mk .disable:=by simp[mk]
 refine Goes.meet (λw=>.refl w) p ?_ _ _ _ _ (F0 H w d) E
 intro f g w h k w1 hr;obtain⟨d,u,i,z⟩:=h;have a:AtR0 P L.tWg Wg C n Low x val g w1∨∃ o,Goes P false (RW L.tWg Wg C n Low (x-1)) (DWs Wg (λ_ _=>False) (λ_ _=>False) C n x) (AtR0 P L.tWg Wg C n Low x val) o u w1:=by
  cases f with
  |zero=>exact .inl (k w1 hr)
  |succ f =>
   rcases k with k|⟨_,k⟩
   ·exact .inl (k w1 hr)
   ·have k1:=k w1 hr;rw[i w1,goes_go] at k1;exact .inr ⟨f,k1.2⟩
 rcases a with h|⟨o,h⟩
 ·exact h
 ·exfalso;obtain⟨m,B⟩:=z w1 (kn_rely d hr);refine Goes.never (λw=>.refl w) p ?_ _ _ _ _ B h
  rintro r g4 w4 ⟨g5,l⟩ k;have b:∀ w,¬AtR0 P L.tWg Wg C n Low x val g4 w:=λw s=>by
   obtain⟨_,_,F,q,_⟩:=s;rw[l w] at q;simp[mk] at q
  cases r with
  |zero=>exact b w4 (k w4 (.refl w4))
  |succ r =>
   rcases k with k|⟨_,k⟩
   ·exact b w4 (k w4 (.refl w4))
   ·have k1:=k w4 (.refl w4);rw[l w4,goes_go] at k1;have:=(k1.1.2 _ (Array.mem_singleton.2 rfl)).2.1;exact this rfl
end Go.AM
namespace Go.AM.R1
open Go.Proofs Go.Conc Go.Conc.Lib
open Go.ConcN (WgLive PayAt Has RW AtR0)
open Go.ConcR (KK WgAt stA smA rd wr mk Payload DC0)
instance pay:Payload:=⟨200⟩
def jg(f:Int):bH:=λargs σ=>match args,σ with
 |[.e (.one (.c (.int .i64 k))),g,.e (.one (.c (.int .i64 n)))],[]=>match jL 2 g with
  |none=>none
  |some (d,b)=>some (OM (b9 k (cP.list d b) n),[],[cP.fits d b,k=f])
 |_,_=>none
noncomputable def Jj:Code:=(Tryz.f127.body).getD .skip
noncomputable def EH:Array Oper:=match Jj with|.seq (.region _ o _) _=>o|_=>#[]
noncomputable def EI:Array Oper:=match Jj with|.seq _ (.region _ o _)=>o|_=>#[]
theorem EJ:Tryz.f127.body=some (.seq (.region 0 EH false) (.region 1 EI true)):=by kernel_rfl
def oW(d:Option Nat)(op:Op)(ty:TypeId)(b:Array Edge):Oper:={ dst:=d,op:=op,type:=ty,pos:= "l12_snap.go:82",after:=b,guard:=none }
def pz:List Oper:=[oW (some 6) (.load 189 (.tmp 4)) 189 #[],oW (some 7) (.load 3 (.tmp 5)) 3 #[],oW (some 8) (.load 3 (.tmp 1)) 3 #[],oW (some 9) (.load 37 (.tmp 2)) 37 #[],oW (some 10) (.load 3 (.tmp 3)) 3 #[],
 oW (some 11) (.call { callee:=.value (.func 129),args:=#[.tmp 8,.tmp 9,.tmp 10],argTypes:=#[3,37,3] }) 200 #[⟨2,.data⟩,⟨3,.data⟩,⟨4,.data⟩],
 oW (some 12) (.indexAddr 189 (.tmp 6) (.tmp 7)) 0 #[⟨0,.data⟩,⟨1,.data⟩,⟨0,.phase⟩,⟨1,.phase⟩,⟨2,.phase⟩,⟨3,.phase⟩,⟨4,.phase⟩,⟨5,.phase⟩],
 oW none (.store 200 (.tmp 12) (.tmp 11)) 0 #[⟨6,.data⟩,⟨5,.data⟩,⟨5,.chain⟩,⟨0,.phase⟩,⟨1,.phase⟩,⟨2,.phase⟩,⟨3,.phase⟩,⟨4,.phase⟩,⟨5,.phase⟩]]
theorem HJ:EI=pz.toArray:=by kernel_rfl
theorem lf{i:Nat}{o:Oper}(h:pz[i]?=some o):i<8:=(aE.1 h).1
section
variable (k:Int)(ps:List aR) (a:Int)(n x C:Nat)
def Nw(b:Value):Fr:=[(0,.e (.one (.v b))),(1,.e (.one (.c (.rp [.int .i64 k])))),(2,.e (.one (.c (.rp [.sl false 2 ps.length (cP.fn ps)])))),(3,.e (.one (.c (.rp [.int .i64 a])))),(4,.e (.one (.c (.rp [.val (.slice (some ⟨C,0,none⟩) n n)])))),(5,.e (.one (.c (.rp [.int .i64 x]))))]
def xW:Nat->D
 |0=>.e (.one (.v (.slice (some ⟨C,0,none⟩) n n)))
 |1=>dI x
 |2=>dI k
 |3=>cP.sl ps
 |4=>dI a
 |5=>OM (b9 k ps a)
 |6=>.e (.one (.v (.pointer (some ⟨C,x*2,none⟩))))
 |_=>.any
def yT:Nat->Option Nat
 |6=>some 0|7=>some 1|8=>some 2|9=>some 3|10=>some 4|11=>some 5|12=>some 6|_=>none
def Sl(b:Value):Nat->Fr
 |5=>[(8,dI k),(9,cP.sl ps),(10,dI a)]
 |6=>[(6,.e (.one (.v (.slice (some ⟨C,0,none⟩) n n)))),(7,dI x)]
 |_=>Nw k ps a n x C b
end
theorem HK{X:Cx Tryz.prog}{n x C:Nat}(f:x<n):OA X 13 pz (oW (some 12) (.indexAddr 189 (.tmp 6) (.tmp 7)) 0 #[⟨0,.data⟩,⟨1,.data⟩,⟨0,.phase⟩,⟨1,.phase⟩,⟨2,.phase⟩,⟨3,.phase⟩,⟨4,.phase⟩,⟨5,.phase⟩]) [(6,.e (.one (.v (.slice (some ⟨C,0,none⟩) n n)))),(7,dI x)] [] (.e (.one (.v (.pointer (some ⟨C,x*2,none⟩))))) []:=by
 refine .ju (λ_ _ _ _=>dr rfl) (aH.quiet λs i m h=>?_)
 have b:=h (.tmp 6);have d:=h (.tmp 7);have l:bz [(6,D.e (.one (.v (.slice (some ⟨C,0,none⟩) n n)))),(7,dI x)] (.tmp 6)=.e (.one (.v (.slice (some ⟨C,0,none⟩) n n))):=rfl;have j:bz [(6,D.e (.one (.v (.slice (some ⟨C,0,none⟩) n n)))),(7,dI x)] (.tmp 7)=dI x:=rfl;rw[l] at b;rw[j] at d;have b:=Rd.ft b;have d:=eB d;generalize c:i (.tmp 7)=vy at d;cases d;have g:=(tok 189 i189 rfl).run_underlying (w:=s.w);refine⟨.pointer (some ⟨C,x*2,none⟩),?_,Rd.val rfl,?_⟩
 ·simp[execOp,oW,b,c,Instr.indexAt,asIntOf,g,i189,(tok 200 i200 rfl).run_sizeOf,i200,cg,f]
 ·simp[execOp,oW,b,c,Instr.indexAt,asIntOf,g,i189,cg,f]
theorem Nx{X:Cx Tryz.prog}{k:Int}(p:bU X 129 (jg k))(ps:List aR) (a:Int)(n x C:Nat)(q:x<n)(m:Value) :
  Eg X 13 pz.toArray (Nw k ps a n x C m) [] (xW k ps a n x C) (Sl k ps a n x C m) yT 7:=by
 have w:aO X [(129,jg k)]:=aO.cons p aO.nil;have g:∀ (i:Nat) (o:Oper) (φ:Fr) (d:D) (obs:List Prop),pz[i]?=some o->zZ tt [(129,jg k)] [] pz φ [] o=some (d,none,obs)->aa obs->OA X 13 pz o φ [] d [] :=
  λi o φ d obs _ h b=>k5 tok w h b
 refine⟨?_,?_,?_,?_,?_,?_,by decide⟩
 ·intro i o b e l _;simp only[gb] at b;have hi:=lf b
  match i,hi with
  |0,_|1,_|2,_|3,_|4,_|5,_|6,_|7,_ =>
   cases b;simp[oW] at l
   try (rcases l with rfl|rfl|rfl|rfl|rfl|rfl|rfl|rfl|rfl <;> decide)
   try (rcases l with rfl|rfl|rfl <;> decide)
 ·intro i o d b r;simp only[gb] at b;have hi:=lf b
  match i,hi with
  |0,_|1,_|2,_|3,_|4,_|5,_|6,_|7,_ =>
   cases b;cases r
   try exact⟨rfl,by decide⟩
 ·intro d i h;unfold yT at h;split at h <;> cases h <;> exact⟨_,rfl,rfl⟩
 ·intro i o b c;simp only[gb] at b;have hi:=lf b
  match i,hi with
  |0,_=>cases b;exact g 0 _ _ _ _ rfl rfl ab
  |1,_=>cases b;exact g 1 _ _ _ _ rfl rfl ab
  |2,_=>cases b;exact g 2 _ _ _ _ rfl rfl ab
  |3,_=>cases b;exact g 3 _ _ _ _ rfl rfl ab
  |4,_=>cases b;exact g 4 _ _ _ _ rfl rfl ab
  |5,_ =>
   cases b;have:=g 5 _ (Sl k ps a n x C m 5) _ _ rfl rfl (by simp[aa,cP.ae])
   rw[cP.list_fn] at this;exact this
  |6,_=>cases b;exact HK q
  |7,_=>exact absurd rfl c
 ·intro i o b c t σ s v f;simp only[gb] at b;have hi:=lf b
  match i,hi with
  |0,_|1,_|2,_|3,_|4,_ =>
   match t with
   |0|1|2|3|4|5=>exact f
   |t+6=>trivial
  |5,_ =>
   cases b
   match t with
   |8=>exact(show b5 σ s v (xW k ps a n x C 2) from by simpa[yT,oW,bt,Region.binds] using f)
   |9=>exact(show b5 σ s v (xW k ps a n x C 3) from by simpa[yT,oW,bt,Region.binds] using f)
   |10=>exact(show b5 σ s v (xW k ps a n x C 4) from by simpa[yT,oW,bt,Region.binds] using f)
   |0|1|2|3|4|5|6|7=>trivial
   |t+11=>trivial
  |6,_ =>
   cases b
   match t with
   |6=>exact(show b5 σ s v (xW k ps a n x C 0) from by simpa[yT,oW,bt,Region.binds] using f)
   |7=>exact(show b5 σ s v (xW k ps a n x C 1) from by simpa[yT,oW,bt,Region.binds] using f)
   |0|1|2|3|4|5=>trivial
   |t+8=>trivial
  |7,_=>exact absurd rfl c
 ·intro o b j u c;simp only[gb] at b;cases b
  match j,u with
  |0,_=>exact⟨⟨0,.phase⟩,by simp[oW],rfl,rfl⟩
  |1,_=>exact⟨⟨1,.phase⟩,by simp[oW],rfl,rfl⟩
  |2,_=>exact⟨⟨2,.phase⟩,by simp[oW],rfl,rfl⟩
  |3,_=>exact⟨⟨3,.phase⟩,by simp[oW],rfl,rfl⟩
  |4,_=>exact⟨⟨4,.phase⟩,by simp[oW],rfl,rfl⟩
  |5,_=>exact⟨⟨5,.phase⟩,by simp[oW],rfl,rfl⟩
  |6,_=>exact⟨⟨6,.data⟩,by simp[oW],rfl,rfl⟩
  |7,_=>exact absurd rfl c
noncomputable def pA:Frame:={ (default:Frame) with fn:=Tryz.prog.funcs.size,defers:=[],mode:=.panicking [goexitEntry] }
def rq(vs:Array Value):Deferred:={ target:=.fn (.func 127) vs,args:=#[] }
theorem BR(v0 v1 v2 v3 v4 v5:Value)(w:World):stepG Tryz.prog false (born Tryz.prog (rq #[v0,v1,v2,v3,v4,v5])) w =
  .go (G ((baseD 127).at ⟨#[v0,v1,v2,v3,v4,v5,undef,undef,undef,undef,undef,undef,undef],[]⟩ [.code (.seq (.region 0 EH false) (.region 1 EI true))]) [pA]) w #[]:=by
 have d:=EJ;have c:Tryz.f127.ntmps=13:=by kernel_rfl
 have b:¬Tryz.f127.name= "runtime.NumGoroutine":=by
  have:(Tryz.f127.name== "runtime.NumGoroutine")=false:=by kernel_rfl
  simpa using this
 simp[born,rq,stepG,unwind,callDeferred,invoke,callFunc,Tryz.func127,d,c,b,seen,GStep.after,G,Frame.enter,Frame.at,baseD,pA]
end Go.AM.R1
namespace Go.AM.R1
open Go.Proofs
variable {X:Cx Tryz.prog}
abbrev pk(ps:List aR)(i:Nat):aR:=ps.getD i (0,[])
theorem EB{k n:Int}{ps:List aR}{i:Nat}{r:Bs}(hi:i<ps.length)(h:cn k (pk ps i) n=some r)(a:∀ j,j<i->cn k (pk ps j) n=none):b9 k ps n=some r:=by
 unfold b9
 induction ps generalizing i with
 |nil=>simp at hi
 |cons p ps ih =>
  cases i with
  |zero=>simp only[pk,List.getD_cons_zero] at h;simp[uf,h]
  |succ i =>
   have b:=a 0 (by omega)
   simp only[pk,List.getD_cons_zero] at b;simp only[uf,b];exact ih (i:=i) (by simpa using hi) (by simpa[pk] using h) λj c=>by have:=a (j+1) (by omega);simpa[pk] using this
theorem yM{k n:Int}{ps:List aR}(a:∀ j,j<ps.length->cn k (pk ps j) n=none):b9 k ps n=none:=by
 unfold b9;rw[List.findSome?_eq_none_iff];intro p c;obtain⟨j,b,rfl⟩:=dH c;have:=a j b;simpa[pk,List.getD_eq_getElem?_getD,aj b] using this
theorem vT.On{P:Program}{φ:Fr}{σ:List ak}{T:List (Nat×TI)}(i:bX P T){fn:Func}{c:Nat}{res:D}{σ':List ak}(ks:List Nat){ps:List Prop}(h:GW T fn.results.toList ks φ res=some ps)(e:aa ps)(f:iW ks σ=some σ')(b:jZ σ'=true)(l:dk ks=true)(k:∀ j,j<c->ks[j]?=some j) :
  vT P fn c res σ' .ret φ σ:=by
 refine⟨.inl rfl,ks,?_⟩;unfold GW at h;split at h
 ·rename_i ds Di
  split at h
  ·rename_i d g
   split at h
   ·rename_i a
    exact⟨d,ps,vS.On i Di g,h,e,a,f,b,l,k⟩
   ·cases h
  ·cases h
 ·cases h
theorem Nr{a:List Nat}:∀ j,j<0->a[j]?=some j:=λ_ h=>absurd h (fQ _)
theorem EC(b:bU X 148 lX) (k:Int)(ps:List aR) (n:Int)(m:bO k=true):Ev X 129 [dI k,cP.sl ps,dI n] [] (OM (b9 k ps n)) []:=by
 refine Ev.ko Tryz.func129 rfl rfl rfl λo=>?_
 have l:=o.sl 1 rfl;have d:aO X [(169,CY aI (na cK) aI (λk p n=>u6 (cn k p n)) λk _ _=>[bO k=true])]:=.cons (KA b) .nil
 refine af d [] 100 rfl ab ?_;refine AK.bY 1 (λi=>i<=ps.length/\∀ j,j<i->cn k (pk ps j) n=none) (λi:Nat=>[(0,dI k),(2,dI n),(6,.e (.one (.ptr 0 0))),(11,cP.sl ps),(12,dI ps.length),(13,dI i)]) (λ_=>[.cells 200 [.c (.str []),.c (.bool false)]]) (λi=>ps.length-i) 0 rfl ?_ rfl ?_ rfl ⟨by omega,by omega⟩ ?_
 ·simp[aa.cat,aa,ay.same]
 ·simp[aa.cat,aa]
 rintro i ⟨hi,a⟩
 by_cases h:i<ps.length
 ·cases f:cn k (pk ps i) n with
  |some r =>
   refine af d [(14,true),(24,true)] 100 rfl ?_ (AK.freeze 6 0 rfl rfl rfl (AK.cV ?_))
   ·simp only[aa,az,cK.list_fn];refine⟨?_,cK.ae _,m,by omega,by omega,aQ (by omega)⟩
    show (cn k (pk ps i) n).isSome=true;rw[f];rfl
   ·refine vT.On tok [] rfl ?_ rfl rfl rfl Nr;rw[EB h f a];simp only[az,cK.list_fn];have e:cn k ((ps.getD i cP.bD).1,(ps.getD i cP.bD).2) n=some r:=f;rw[e];simp[aa.cat,aa]
  |none =>
   refine af d [(14,true),(24,false)] 100 rfl ?_ (AK.aA (i+1) rfl ?_ rfl rfl rfl ?_ rfl ?_ ?_)
   ·simp only[aa,az,cK.list_fn];refine⟨by simp only[aB];omega,?_,cK.ae _,m,by omega,by omega,aQ (by omega)⟩
    show (cn k (pk ps i) n).isSome=false;rw[f];rfl
   ·simp[aa.cat,aa,ay.same]
   ·simp[aa.cat,aa]
   ·refine⟨by omega,λj g=>?_⟩
    rcases dG.1 g with g|rfl
    ·exact a j g
    ·exact f
   ·show ps.length-(i+1)<ps.length-i;omega
 ·refine af d [(14,false)] 100 rfl (by simp[aa];omega) (AK.leaveD rfl rfl ?_)
  refine af d [] 100 rfl ab ?_;refine AK.freeze 6 0 rfl rfl rfl ?_;refine AK.pq tok [] rfl ?_ rfl rfl rfl Nr;rw[yM λj g=>a j (by omega)]
  simp[aa.cat,aa]
theorem KB(a:bU X 148 lX){k:Int}(e:bO k=true):bU X 129 (jg k):=by
 intro args σ res σ' obs h b;unfold jg at h;split at h
 ·rename_i k1 da n
  split at h
  ·cases h
  ·rename_i g f d
   cases h;obtain⟨c,rfl⟩:=b;exact(EC a _ _ n e).args λs vs=>bZ.imp (λ_ r=>r) (bZ.imp (λ_ r=>cP.jf d c r) (bZ.imp (λ_ r=>r) (λ_ r=>r))) vs
 ·cases h
def BD:bH:=λargs σ=>match args,σ with
 |[.e (.one (.c (.str [46]))),.e (.one (.c (.int .i64 c)))],[]=>some (dS (List.replicate c.toNat 46),[],[0<=c/\c<=3])
 |_,_=>none
theorem t191:bU X 191 (fY aI (λn=>dI (bo n.toNat)) λn=>[0<=n/\n<=4000000]):=.jo λn h=>by
 have a:0<=n/\n<=4000000:=h;obtain⟨m,rfl⟩:∃ m:Nat,n=m:=⟨n.toNat,by omega⟩
 exact wH (X:=X) m (by omega)
theorem ED{n:Nat}(b:1<=n)(a:n<=8):n<=bo n/\bo n<=n+3:=by
 unfold bo;split
 ·omega
 ·split
  ·omega
  ·split <;> omega
theorem EE(a:bU X 190 BD)(p:Bs):Ev X 148 [dS p] [] (dS (gn p)) []:=by
 refine Ev.body Tryz.func148 rfl rfl rfl λf=>?_
 have d:aO X [(147,fY aS (λs=>dB (aY s)) λ_=>[]),(191,fY aI (λn=>dI (bo n.toNat)) λn=>[0<=n/\n<=4000000]),(190,BD)]:=.cons t147 (.cons t191 (.cons a .nil))
 by_cases b:aY p=true
 ·have c:=b;simp only[aY,bF,aD] at c;have e:=ED c.1.1 c.1.2;refine af d [(5,false)] 100 rfl ?_ (AK.au rfl ?_)
  ·simp[aa,b,aB];omega
  ·simp[aa,aa.cat,gn,b]
 ·refine af d [(5,true)] 100 rfl ?_ (AK.au rfl ?_)
  ·simp[aa,b]
  ·simp[aa,aa.cat,gn,b]
theorem Nm(a:bU X 190 BD):bU X 148 lX:=.jo λp _=>EE a p
theorem HD:Ev X 190 [dS [46],dI 0] [] (dS []) []:=by
 refine Ev.body Tryz.func190 rfl rfl rfl λa=>?_
 refine aF [(12,true)] 100 rfl ?_ (AK.au rfl ?_)
 ·simp[aa]
 ·simp[aa,aa.cat]
theorem HE:Ev X 190 [dS [46],dI 1] [] (dS [46]) []:=by
 refine Ev.body Tryz.func190 rfl rfl rfl λa=>?_
 refine aF [(12,false),(14,true)] 100 rfl ?_ (AK.au rfl ?_)
 ·simp[aa]
 ·simp[aa,aa.cat]
theorem Nk(b:Ev X 190 [dS [46],dI 2] [] (dS [46,46]) [])(d:Ev X 190 [dS [46],dI 3] [] (dS [46,46,46]) []):bU X 190 BD:=by
 intro args σ res σ' obs h a;unfold BD at h;split at h
 ·rename_i c
  cases h;have:c=0∨c=1∨c=2∨c=3:=by have:0<=c/\c<=3:=a;omega
  rcases this with rfl|rfl|rfl|rfl
  ·exact HD
  ·exact HE
  ·exact b
  ·exact d
 ·cases h
end Go.AM.R1
namespace Go.AM.R1
open Go.Proofs
theorem yP{P:Program}{o:Oper}{n:Operand->D}{σ:List ak}{op:BinOp}{t ty:TypeId}{x y:Operand}(h:o.op=.binOp op t x y ty){e:TypeId}(E:P.underlying t=some (.pointer e)){b c:Bool}
  (z:∀ s u v,ag σ s->b5 σ s u (n x)->b5 σ s v (n y)->∃ p q,u=.pointer p/\v=.pointer q/\(p==q)=b/\(eqGuard op t x y u v).run P s.w=.ok () s.w/\(∀ es,(eqGuard op t x y u v).events P s.w es=es) /\
   (Op.equal t u v).run P s.w=.ok b s.w/\∀ es,(Op.equal t u v).events P s.w es=es)
  (k:ja op b=some c):aH P o n σ (.e (.one (.c (.bool c)))) σ:=by
 refine .quiet λs C A r=>?_
 obtain⟨p,q,g,f,B,i,m,j,l⟩:=z s _ _ A (r x) (r y);rw[g,f] at i j;have a:=m #[];have d:=l #[];rw[g,f] at a d;cases op <;> simp only[ja,reduceCtorEq,bL] at k
 ·subst k;exact⟨.bool b,by simp[execOp,h,g,f,i,binOp,j],Rd.bool,by simp[execOp,h,g,f,i,a,binOp,j,d]⟩
 ·subst k;exact⟨.bool (!b),by simp[execOp,h,g,f,i,binOp,j],Rd.bool,by simp[execOp,h,g,f,i,a,binOp,j,d]⟩
theorem Kq{P:Program}{o:Oper}{i:Operand->D}{σ:List ak}{op:BinOp}{t ty:TypeId}{x:Operand}(h:o.op=.binOp op t x (.const (.pointer none)) ty){e:TypeId}(g:P.underlying t=some (.pointer e)){c:Bool}
  (j:i x=.e (.one (.c .kg))) (l:i (.const (.pointer none))=.e (.one (.c .kg))) (k:ja op true=some c):aH P o i σ (.e (.one (.c (.bool c)))) σ:=by
 refine yP h g (b:=true) ?_ k;intro s u v _ a d;rw[j] at a;rw[l] at d
 replace a:=eB a
 replace d:=eB d
 cases a;cases d;have m:(Op.equal t (.pointer none) (.pointer none)).run P s.w=.ok true s.w:=by
  show (Op.equalIn (9999+1) t _ _).run P s.w=_;unfold Op.equalIn;simp[underlying,g]
 have f:∀ es,(Op.equal t (.pointer none) (.pointer none)).events P s.w es=es:=λes=>by
  show (Op.equalIn (9999+1) t _ _).events P s.w es=es;unfold Op.equalIn;simp[underlying,g]
 exact⟨none,none,rfl,rfl,rfl,by cases op <;> simp[eqGuard],λes=>by cases op <;> simp[eqGuard],m,f⟩
theorem Kr{P:Program}{o:Oper}{g:Operand->D}{σ:List ak}{op:BinOp}{t ty:TypeId}{x:Operand}(h:o.op=.binOp op t x (.const (.pointer none)) ty){e:TypeId}(f:P.underlying t=some (.pointer e)){c:Bool}{l off:Nat}
  (j:g x=.e (.one (.ptr l off))) (m:g (.const (.pointer none))=.e (.one (.c .kg))) (k:ja op false=some c):aH P o g σ (.e (.one (.c (.bool c)))) σ:=by
 refine yP h f (b:=false) ?_ k;intro s u v _ i a;rw[j] at i;rw[m] at a
 replace a:=eB a
 cases a;obtain⟨_,L,b,_,_,rfl⟩:=(i:eQ σ s u (.ptr l off));have n:(Op.equal t (.pointer (some ⟨b,off,none⟩)) (.pointer none)).run P s.w=.ok false s.w:=by
  show (Op.equalIn (9999+1) t _ _).run P s.w=_;unfold Op.equalIn;simp[underlying,f]
 have d:∀ es,(Op.equal t (.pointer (some ⟨b,off,none⟩)) (.pointer none)).events P s.w es=es:=λes=>by
  show (Op.equalIn (9999+1) t _ _).events P s.w es=es;unfold Op.equalIn;simp[underlying,f]
 exact⟨_,none,rfl,rfl,rfl,by cases op <;> simp[eqGuard],λes=>by cases op <;> simp[eqGuard],n,d⟩
theorem Hv{P:Program}{o:Oper}{k:Operand->D}{σ:List ak}{op:BinOp}{t ty:TypeId}{x y:Operand}(h:o.op=.binOp op t x y ty){e:TypeId}(g:P.underlying t=some (.pointer e)){n:Nat}(r:n≠0)
  (p:∀ w,(sizeOf e).run P w=.ok n w) (i:∀ w es,(sizeOf e).events P w es=es) {c:Bool} {l off:Nat}
  (A:k x=.e (.one (.ptr l off))) (C:k y=.e (.one (.ptr l off))) (B:ja op true=some c):aH P o k σ (.e (.one (.c (.bool c)))) σ:=by
 refine yP h g (b:=true) ?_ B;intro s u v _ m q;rw[A] at m;rw[C] at q;obtain⟨_,L,b,z,j,rfl⟩:=(m:eQ σ s u (.ptr l off));obtain⟨_,F,G,d,a,rfl⟩:=(q:eQ σ s v (.ptr l off));rw[z] at d;cases d;rw[j] at a;cases a;have E:(Op.equal t (.pointer (some ⟨b,off,none⟩)) (.pointer (some ⟨b,off,none⟩))).run P s.w=.ok true s.w:=by
  show (Op.equalIn (9999+1) t _ _).run P s.w=_;unfold Op.equalIn;simp[underlying,g,p,r,sameAddr]
 have f:∀ es,(Op.equal t (.pointer (some ⟨b,off,none⟩)) (.pointer (some ⟨b,off,none⟩))).events P s.w es=es:=λes=>by
  show (Op.equalIn (9999+1) t _ _).events P s.w es=es;unfold Op.equalIn;simp[underlying,g,p,i,r,sameAddr]
 exact⟨_,_,rfl,rfl,by simp,by cases op <;> simp[eqGuard],λes=>by cases op <;> simp[eqGuard],E,f⟩
end Go.AM.R1
namespace Go.AM
open Go.Conc (G)
def Ja{P:Program}(X:Cx P)(N:Nat)(all:List Oper)(o:Oper)(φ:Fr)(σ:List ak){ι:Type}(x:ι->D)(σ':ι->List ak):Prop :=
 ∀ s a,bg N σ s φ a->ag σ s->∀ (b:Frame) (k:List Item) (cs:List Frame) (S:Goroutine->St->Prop) (i:Nat) (rest:List Nat),b.kind≠.early->all.toArray[i]?=some o ->
  (∀ j v s',b5 (σ' j) s' v (x j)->ag (σ' j) s'->bq σ s (σ' j) s'->db X S (G (b.aT (a.put o.dst v) (.inRegion all.toArray rest::k)) cs) s')->db X S (G (b.aT a (.inRegion all.toArray (i::rest)::k)) cs) s
def uV:List Oper->Nat->(Nat->D)->List (Option Nat×D)
 |[],_,_=>[]
 |o::r,i,x=>(o.dst,x i)::uV r (i+1) x
theorem qT{x:Nat->D}:∀ {l:List Oper}{k j:Nat},(uV l k x)[j]?=(l[j]?).map λo=>(o.dst,x (k+j))
 |[],k,j=>by simp[uV]
 |o::r,k,0=>by simp[uV]
 |o::r,k,j+1=>by
  simp only[uV,od];rw[qT,show k+1+j=k+(j+1) by omega]
def mE(all:List Oper)(φ:Fr)(x:Nat->D)(i:Nat):Fr:=fR (λj=>fH j (bu (all.getD i j1).after.toList)) 0 (uV all 0 x) (pt all φ)
def CX(all:List Oper)(φ:Fr)(x:Nat->D):Fr:=fR (λ_=>true) 0 (uV all 0 x) (pt all φ)
def qU(N:Nat):List Oper->Bool
 |[]=>true
 |o::r=>match iu N o.dst with|true=>qU N r|false=>false
theorem sX{N:Nat}:∀ {l:List Oper},qU N l=true->∀ (i:Nat)(o:Oper),l[i]?=some o->iu N o.dst=true
 |[],_,i,o,h=>by simp at h
 |p::r,h,i,o,hi=>by
  simp only[qU] at h;split at h
  ·rename_i a
   cases i with
   |zero=>simp at hi;subst hi;exact a
   |succ i=>exact sX h i o (by simpa using hi)
  ·cases h
def wv:List Oper->Nat->Bool
 |[],_=>true
 |o::r,i=>match LP i (bu o.after.toList) with|true=>wv r (i+1)|false=>false
theorem wx:∀ {l:List Oper}{k:Nat},wv l k=true->∀ (i:Nat)(o:Oper),l[i]?=some o->∀ e∈bu o.after.toList,e<k+i
 |[],_,_,i,o,h=>by simp at h
 |p::r,k,h,i,o,hi=>by
  simp only[wv] at h;split at h
  ·rename_i b
   cases i with
   |zero=>simp at hi;subst hi;exact ye b
   |succ i=>intro e a;have:=wx h i o (by simpa using hi) e a;omega
  ·cases h
def uW(pre:Nat->Bool):List Nat->Bool
 |[]=>false
 |e::r=>match pre e with|true=>uW pre r|false=>true
theorem sY{pre:Nat->Bool}:∀ {l:List Nat},uW pre l=true->∃ e∈l,pre e=false
 |[],h=>by cases h
 |e::r,h=>by
  simp only[uW] at h;split at h
  ·obtain⟨d,c,b⟩:=sY h;exact⟨d,mT _ c,b⟩
  ·rename_i a;exact⟨e,by simp,a⟩
def wy(pre:Nat->Bool)(m:Nat):List Oper->Nat->Bool
 |[],_=>true
 |o::r,i=>match pre i with
  |true=>wy pre m r (i+1)
  |false=>match Nat.beq i m with
   |true=>wy pre m r (i+1)
   |false=>match uW pre (bu o.after.toList) with|true=>wy pre m r (i+1)|false=>false
theorem Ao{pre:Nat->Bool}{m:Nat}:∀ {l:List Oper}{k:Nat},wy pre m l k=true->∀ (i:Nat)(o:Oper),l[i]?=some o->pre (k+i)=false->k+i≠m->∃ e∈bu o.after.toList,pre e=false
 |[],_,_,i,o,h=>by simp at h
 |p::r,k,h,i,o,hi=>by
  intro b c;simp only[wy] at h;cases i with
  |zero =>
   simp at hi;subst hi;simp only[ey] at b c;have a:Nat.beq k m=false:=by
    cases a:Nat.beq k m with
    |true=>exact absurd (bk a) c
    |false=>rfl
   simp only[b,a] at h;split at h
   ·rename_i g;exact sY g
   ·cases h
  |succ i =>
   have d:wy pre m r (k+1)=true:=by
    split at h
    ·exact h
    ·split at h
     ·exact h
     ·split at h
      ·exact h
      ·cases h
   exact Ao d i o (by simpa using hi) (by rw[show k+1+i=k+(i+1) by omega];exact b) (by omega)
section
variable {P:Program}{X:Cx P}{N:Nat}{ops:Array Oper}{φ:Fr}{σ:List ak}{ι:Type}{x:Nat->D}{f:ι->Nat->D}{σ':ι->List ak}{idx:Nat->Option Nat}{m:Nat}{pre:Nat->Bool}
structure M7 {P:Program}(X:Cx P)(N:Nat)(ops:Array Oper)(φ:Fr)(σ:List ak){ι:Type}(x:Nat->D)(f:ι->Nat->D)(σ':ι->List ak)(idx:Nat->Option Nat)(m:Nat)(pre:Nat->Bool):Prop where
 back:∀ i o,ops[i]?=some o->∀ e∈o.after,bt e=true->e.on<i
 pr:∀ i o d,ops[i]?=some o->o.dst=some d->idx d=some i/\d<N
 lq:∀ d i,idx d=some i->∃ o,ops[i]?=some o/\o.dst=some d
 has:m<ops.size
 pm:pre m=false
 cl:∀ i o,ops[i]?=some o->pre i=false->i≠m->∃ e∈o.after,bt e=true/\pre e.on=false
 same:∀ j i,pre i=true->f j i=x i
 one:∀ i o,ops[i]?=some o->pre i=true->OA X N ops.toList o (mE ops.toList φ x i) σ (x i) σ
 two:∀ j i o,ops[i]?=some o->i≠m->OA X N ops.toList o (mE ops.toList φ (f j) i) (σ' j) (f j i) (σ' j)
 wz:∀ o,ops[m]?=some o->Ja X N ops.toList o (mE ops.toList φ x m) σ (λj=>f j m) σ'
 Gv:∀ (x:Nat->D) i o,ops[i]?=some o->∀ t σ s v,b5 σ s v (match idx t with|some j=>(if ∃ e∈o.after,bt e=true/\e.on=j then x j else .any)|none=>look φ t)->b5 σ s v (look (mE ops.toList φ x i) t)
 fin:∀ (x:Nat->D) t σ s v,b5 σ s v (match idx t with|some j=>x j|none=>look φ t)->b5 σ s v (look (CX ops.toList φ x) t)
theorem qb{x:Nat->D}{s:St}{a:Act}{L:Array Bool}{i:Nat}{o:Oper}(h:∀ t σ s v,b5 σ s v (match idx t with|some j=>(if ∃ e∈o.after,bt e=true/\e.on=j then x j else .any)|none=>look φ t)->b5 σ s v (look (mE ops.toList φ x i) t))
  (k:x0 N σ s (dh φ x idx L) a) (c:∀ e∈o.after,bt e=true->L.getD e.on false=true):bg N σ s (mE ops.toList φ x i) a:=k.Bd λt σ s v b=>h t σ s v (by
 unfold dh at b;cases d:idx t with
 |none=>simpa[d] using b
 |some j =>
  simp only[d] at b ⊢;split
  ·rename_i g
   obtain⟨e,n,l,rfl⟩:=g;rw[aq (c e n l)] at b;exact b
  ·trivial)
theorem gN{x y:Nat->D}{σ2:List ak}{s s':St}{a:Act}{v:Value}{L:Array Bool}{i:Nat}{o:Oper}(q:∀ d,o.dst=some d->idx d=some i/\d<N)(n:∀ d j,idx d=some j->∃ o,ops[j]?=some o/\o.dst=some d)
  (F:ops[i]?=some o) (E:i<L.size) (B:∀ j,L.getD j false=true->y j=x j) (r:s.β.length=σ.length) (st:bq σ s σ2 s') (c:x0 N σ s (dh φ x idx L) a) (H:b5 σ2 s' v (y i)):x0 N σ2 s' (dh φ y idx (L.setIfInBounds i true)) (a.put o.dst v):=by
 have old:∀ t,idx t≠some i->b5 σ2 s' (a.tmps.getD t undef) (dh φ y idx (L.setIfInBounds i true) t):=by
  intro t G;have b:=(c.slot t).mono st.ext r;unfold dh at b ⊢;cases p:idx t with
  |none=>simpa[p] using b
  |some j =>
   simp only[p] at b ⊢;have u:j≠i:=by rintro rfl;exact G p
   have e:((L.setIfInBounds i true).getD j false=true)↔L.getD j false=true:=by rw[bG E];simp[u]
   by_cases l:L.getD j false=true
   ·rw[aq (e.2 l),B j l];rw[aq l] at b;exact b
   ·rw[an (λh=>l (e.1 h))];rw[an l] at b;exact b
 cases l:o.dst with
 |none =>
  refine⟨c.size,c.defers.imp λ_ A=>A.mono st.ext,λt=>?_⟩
  refine old t λh=>?_
  obtain⟨I,g,k⟩:=n _ _ h;rw[F] at g;cases g;rw[l] at k;cases k
 |some d =>
  obtain⟨w,z⟩:=q d l;refine⟨by simp[Act.put,c.size],c.defers.imp λ_ A=>A.mono st.ext,λt=>?_⟩
  simp only[Act.put]
  by_cases e:d=t
  ·subst e;have C:d<a.tmps.size:=by rw[c.size];exact z
   simp only[bA,jR C,cp];unfold dh;simp only[w];rw[aq ((bG E).2 (.inl rfl))];exact H
  ·have:=old t (λh=>by
    obtain⟨I,g,k⟩:=n _ _ h;rw[F] at g;cases g;rw[l] at k;cases k;exact e rfl)
   simp only[bA] at this ⊢;rw[ic e];exact this
theorem nV{back:∀ i o,ops[i]?=some o->∀ e∈o.after,bt e=true->e.on<i}{L:Array Bool}(j:L.size=ops.size)(g:Region.ready .any ops L=[]):∀ i,i<ops.size->L.getD i false=true:=by
 intro i
 induction i using Nat.strongRecOn with
 |_ i b =>
  intro hi;cases d:L.getD i false with
  |true=>rfl
  |false =>
   have c:i∈Region.ready .any ops L:=mem_ready.2 ⟨ops[i],bJ hi,by
    simpa[bA,bJ (by omega:i<L.size)] using d,λe h a=>by
    have:=back i _ (bJ hi) e h a;exact b _ this (by omega)⟩
   rw[g] at c;simp at c
theorem k9{L:Array Bool}{t:Nat}(a:(Region.ready .any ops L)[t % (Region.ready .any ops L).length]?=none):Region.ready .any ops L=[]:=by
 cases d:Region.ready .any ops L with
 |nil=>rfl
 |cons y c =>
  rw[d] at a;have b:t % (y::c).length<(y::c).length:=jA _ (by simp)
  simp at a;simp at b;omega
theorem iD{L:Array Bool}(d:L.size=ops.size)(e:(L.toList.filter (λb=>!b)).length<=0):∀ i,i<ops.size->L.getD i false=true:=by
 intro i hi;have c:L[i]'(by omega)∈L.toList:=by simp
 cases a:L[i]'(by omega) with
 |true=>simp[bA,bJ (by omega:i<L.size),a]
 |false =>
  have:L[i]'(by omega)∈L.toList.filter (λb=>!b):=pP.2 ⟨c,by simp[a]⟩
  have:=tV this;omega
theorem M7.Kh(h:M7 X N ops φ σ x f σ' idx m pre){F:Goroutine->St->Prop}{b:Frame}{kk:List Item}{cs:List Frame}(H:b.kind≠.early)(j:ι){s0:St}
  (U:∀ s a,bg N (σ' j) s (CX ops.toList φ (f j)) a->ag (σ' j) s->bq σ s0 (σ' j) s->db X F (G (b.aT a kk) cs) s) :
  ∀ (fuel:Nat) (L:Array Bool),L.size=ops.size->(L.toList.filter (λb=>!b)).length<=fuel->L.getD m false=true ->
   (∀ i o,ops[i]?=some o->L.getD i false=true->∀ e∈o.after,bt e=true->L.getD e.on false=true) ->
   ∀ (s:St) (a:Act),x0 N (σ' j) s (dh φ (f j) idx L) a->ag (σ' j) s->bq σ s0 (σ' j) s ->
   ∀ t,db X F (G (b.aT a (.inRegion ops (Region.linearise.go .any ops fuel t L [])::kk)) cs) s:=by
 have fin:∀ (L:Array Bool) (s:St) (a:Act),(∀ i,i<ops.size->L.getD i false=true)->x0 N (σ' j) s (dh φ (f j) idx L) a->ag (σ' j) s->bq σ s0 (σ' j) s->db X F (G (b.aT a (.inRegion ops []::kk)) cs) s:=by
  intro L s a y c hh st;have J:bg N (σ' j) s (CX ops.toList φ (f j)) a:=c.Bd λt σ s v r=>h.fin (f j) t σ s v (by
   unfold dh at r;cases hi:idx t with
   |none=>simpa[hi] using r
   |some k =>
    simp only[hi] at r ⊢;obtain⟨o,l,_⟩:=h.lq _ _ hi;rw[aq (y k (dF.1 l).1)] at r;exact r)
  exact .ctl hh rfl (λ_=>dN) λV w=>U V a (J.rely w hh) (hh.rely w) (st.trans w.stepW)
 intro fuel
 induction fuel with
 |zero =>
  intro L E J K C s a c hh st t;rw[qB];exact fin L s a (iD E J) c hh st
 |succ fuel ih =>
  intro L E J K C s a c hh st t;rw[iY];cases p:(Region.ready .any ops L)[t % (Region.ready .any ops L).length]? with
  |none=>exact fin L s a (nV (back:=h.back) E (k9 p)) c hh st
  |some i =>
   have hi:=aG p;obtain⟨o,l,z,n⟩:=mem_ready.1 hi;have S:i<ops.size:=(dF.1 l).1;have q:¬L.getD i false=true:=by
    simp only[bA,bJ (by omega:i<L.size),cp] at z ⊢
    simp[z]
   have M:i≠m:=by rintro rfl;exact q K
   have g:((L.setIfInBounds i true).toList.filter (λb=>!b)).length<=fuel:=by
    have h1:L.toList[i]?=some false:=by
     rw[ly,bJ (by omega:i<L.size)]
     simpa[bA,bJ (by omega:i<L.size)] using q
    have:=count_set h1;rw[mP];omega
   have B:∀ j I,ops[j]?=some I->(L.setIfInBounds i true).getD j false=true->∀ e∈I.after,bt e=true->(L.setIfInBounds i true).getD e.on false=true:=by
    intro j I u hj e R H;rw[bG (by omega)] at hj ⊢
    rcases hj with rfl|hj
    ·rw[l] at u;cases u;exact .inr (n e R H)
    ·exact .inr (C j I u hj e R H)
   have Q:bg N (σ' j) s (mE ops.toList φ (f j) i) a:=qb (h.Gv (f j) i o l) c n;have:=h.two j i o l M s a Q hh b kk cs F i (Region.linearise.go .any ops fuel (t / (Region.ready .any ops L).length) (L.setIfInBounds i true) []) H (by simpa using l)
   simp only[jW] at this;exact this λv s' r O A=>ih _ (by simp[E]) g ((bG (by omega)).2 (.inr K)) B s' _
    (gN (λd T=>h.pr i o d l T) h.lq l (by omega) (λ_ _=>rfl) hh.len A c r) O (st.trans A) _
theorem M7.M8(h:M7 X N ops φ σ x f σ' idx m pre){I:Goroutine->St->Prop}{b:Frame}{kk:List Item}{cs:List Frame}(y:b.kind≠.early){s0:St}
  (U:∀ j s a,bg N (σ' j) s (CX ops.toList φ (f j)) a->ag (σ' j) s->bq σ s0 (σ' j) s->db X I (G (b.aT a kk) cs) s) :
  ∀ (fuel:Nat) (L:Array Bool),L.size=ops.size->(L.toList.filter (λb=>!b)).length<=fuel->¬L.getD m false=true->(∀ i,L.getD i false=true->pre i=true) ->
   (∀ i o,ops[i]?=some o->L.getD i false=true->∀ e∈o.after,bt e=true->L.getD e.on false=true) ->
   ∀ (s:St) (a:Act),x0 N σ s (dh φ x idx L) a->ag σ s->bq σ s0 σ s ->
   ∀ t,db X I (G (b.aT a (.inRegion ops (Region.linearise.go .any ops fuel t L [])::kk)) cs) s:=by
 intro fuel
 induction fuel with
 |zero =>
  intro L A S K M F s a p hh st t;exact absurd (iD A S m h.has) K
 |succ fuel ih =>
  intro L A S K M F s a p hh st t;rw[iY];cases q:(Region.ready .any ops L)[t % (Region.ready .any ops L).length]? with
  |none=>exact absurd (nV (back:=h.back) A (k9 q) m h.has) K
  |some i =>
   have hi:=aG q;obtain⟨o,g,B,l⟩:=mem_ready.1 hi;have T:i<ops.size:=(dF.1 g).1;have C:¬L.getD i false=true:=by
    simp only[bA,bJ (by omega:i<L.size),cp] at B ⊢
    simp[B]
   have c:((L.setIfInBounds i true).toList.filter (λb=>!b)).length<=fuel:=by
    have h1:L.toList[i]?=some false:=by
     rw[ly,bJ (by omega:i<L.size)]
     simpa[bA,bJ (by omega:i<L.size)] using C
    have:=count_set h1;rw[mP];omega
   have r:∀ j O,ops[j]?=some O->(L.setIfInBounds i true).getD j false=true->∀ e∈O.after,bt e=true->(L.setIfInBounds i true).getD e.on false=true:=by
    intro j O w hj e J y;rw[bG (by omega)] at hj ⊢
    rcases hj with rfl|hj
    ·rw[g] at w;cases w;exact .inr (l e J y)
    ·exact .inr (F j O w hj e J y)
   have H:bg N σ s (mE ops.toList φ x i) a:=qb (h.Gv x i o g) p l
   by_cases u:i=m
   ·subst u;have:=h.wz o g s a H hh b kk cs I i (Region.linearise.go .any ops fuel (t / (Region.ready .any ops L).length) (L.setIfInBounds i true) []) y (by simpa using g)
    simp only[jW] at this;exact this λj v s' hv j9 js=>h.Kh y j (λs a=>U j s a) fuel _ (by simp[A]) c ((bG (by omega)).2 (.inl rfl)) r s' _
     (gN (λd Q=>h.pr i o d g Q) h.lq g (by omega) (λk z=>h.same j k (M k z)) hh.len js p hv) j9 (st.trans js) _
   ·have n:pre i=true:=by
     cases n:pre i with
     |true=>rfl
     |false =>
      obtain⟨e,J,R,E⟩:=h.cl i o g n u;rw[M e.on (l e J R)] at E;cases E
    have:=h.one i o g n s a H hh b kk cs I i (Region.linearise.go .any ops fuel (t / (Region.ready .any ops L).length) (L.setIfInBounds i true) []) y (by simpa using g)
    simp only[jW] at this;refine this λv s' hv j9 js=>ih _ (by simp[A]) c ?_ ?_ r s' _
     (gN (λd Q=>h.pr i o d g Q) h.lq g (by omega) (λ_ _=>rfl) hh.len js p hv) j9 (st.trans js) _
    ·rw[bG (by omega)]
     rintro(e|e)
     ·exact u e.symm
     ·exact K e
    ·intro k z;rw[bG (by omega)] at z
     rcases z with rfl|z
     ·exact n
     ·exact M k z
theorem AW.wz(hf:P.follows Departure.mixedOrders=true){all:List Oper}(m:Nat)(pre:Nat->Bool)(x:Nat->D)(f:ι->Nat->D)(σ':ι->List ak)
  (L:mH all=true) (K:wv all 0=true) (O:qU N all=true) (hm:Nat.blt m all.length=true) (Z:pre m=false) (xZ:wy pre m all 0=true) (same:∀ j i,pre i=true->f j i=x i)
  (one:∀ i o,all[i]?=some o->pre i=true->OA X N all o (mE all φ x i) σ (x i) σ)
  (two:∀ j i o,all[i]?=some o->i≠m->OA X N all o (mE all φ (f j) i) (σ' j) (f j i) (σ' j))
  (wz:∀ o,all[m]?=some o->Ja X N all o (mE all φ x m) σ (λj=>f j m) σ') {Q:Post} (hQ:∀ j,Q .normal (CX all φ (f j)) (σ' j)) (id:Nat) :
  AW X N (.region id all.toArray true) Q φ σ:=by
 have g:∀ i:Nat,all.toArray[i]?=all[i]?:=λi=>by simp
 let idx:Nat->Option Nat:=λt=>(List.range all.length).find? (λi=>decide ((all.getD i j1).dst=some t))
 have n:∀ t j,idx t=some j->∃ o,all[j]?=some o/\o.dst=some t:=by
  intro t j hj;have h1:=List.find?_some hj;have h2:j<all.length:=by simpa using List.mem_of_find?_eq_some hj
  refine⟨all[j],aj h2,?_⟩;simpa[aj h2] using h1
 have q:∀ i o d,all[i]?=some o->o.dst=some d->idx d=some i:=by
  intro i o d k J;have hi:i<all.length:=(aE.1 k).1;cases hx:idx d with
  |none =>
   have:=List.find?_eq_none.1 hx i (by simpa using hi)
   simp[k,J] at this
  |some j =>
   obtain⟨p,Y,V⟩:=n d j hx;rw[oo L Y k V J]
 have u:∀ t,lO t all=true↔∃ j,idx t=some j:=by
  intro t
  constructor
  ·intro h;obtain⟨i,o,h1,h2⟩:=mi h;exact⟨i,q i o t h1 h2⟩
  ·rintro⟨j,hj⟩;obtain⟨o,h1,h2⟩:=n t j hj;exact nD h1 h2
 have M:∀ i o,all[i]?=some o->all.getD i j1=o:=λi o h=>by simp[List.getD_eq_getElem?_getD,h]
 have J:M7 X N all.toArray φ σ x f σ' idx m pre:=by
  refine⟨?_,?_,?_,?_,Z,?_,same,?_,?_,?_,?_,?_⟩
  ·intro i o k e T W;rw[g] at k;have:=wx K i o k e.on (dO.2 ⟨e,by simpa using T,W,rfl⟩)
   omega
  ·intro i o d k J;rw[g] at k;exact⟨q i o d k J,hO (sX O i o k) d J⟩
  ·intro d i h;obtain⟨o,h1,h2⟩:=n d i h;exact⟨o,by rw[g];exact h1,h2⟩
  ·have:m<all.length:=cY hm;simpa using this
  ·intro i o k hp F;rw[g] at k;obtain⟨e,T,h1⟩:=Ao xZ i o k (by simpa using hp) (by simpa using F)
   obtain⟨e',q1,q2,q3⟩:=dO.1 T;exact⟨e',by simpa using q1,q2,by rw[q3];exact h1⟩
  ·intro i o k hp;rw[g] at k;exact one i o k hp
  ·intro j i o k F;rw[g] at k;exact two j i o k F
  ·intro o k;rw[g] at k;exact wz o k
  ·intro x i o k t σ s v E;rw[g] at k;show b5 σ s v (look (mE all φ x i) t);unfold mE;rw[M i o k];rcases kt (m:=λj=>fH j (bu o.after.toList)) (φ:=pt all φ) (t:=t) (l:=uV all 0 x) (i:=0) with⟨j,y,h1,h2,G⟩|G
   ·rw[G];rw[qT] at h1;cases hj:all[j]? with
    |none=>simp[hj] at h1
    |some oj =>
     simp only[hj,gG,bL,iy,aw] at h1;rw[q j oj t hj h1.1] at E;simp only at E;rw[aq] at E
     ·rw[<-h1.2];exact E
     ·simp only[aw] at h2;obtain⟨e,a,b,c⟩:=dO.1 (JK h2);exact⟨e,by simpa using a,b,c⟩
   ·rw[G,iJ];split
    ·trivial
    ·rename_i H
     cases z:idx t with
     |some j=>exact absurd ((u t).2 ⟨j,z⟩) H
     |none=>simpa[z] using E
  ·intro x t σ s v E;show b5 σ s v (look (CX all φ x) t);unfold CX;rcases kt (m:=λ_=>true) (φ:=pt all φ) (t:=t) (l:=uV all 0 x) (i:=0) with⟨j,y,h1,h2,G⟩|G
   ·rw[G];rw[qT] at h1;cases hj:all[j]? with
    |none=>simp[hj] at h1
    |some oj =>
     simp only[hj,gG,bL,iy,aw] at h1;rw[q j oj t hj h1.1] at E;rw[<-h1.2];exact E
   ·rw[G,iJ];split
    ·trivial
    ·rename_i H
     cases z:idx t with
     |some j=>exact absurd ((u t).2 ⟨j,z⟩) H
     |none=>simpa[z] using E
 intro s a LQ hh b kk cs SS W U;refine .next rfl λC B=>?_
 have B:=X.fG B;have A:=hh.rely B;have R:=LQ.rely B hh;have I:Step σ C σ { C with w:={ C.w with drawn:=C.w.drawn+1 } }:=Step.same rfl rfl rfl rfl;have S:ag σ { C with w:={ C.w with drawn:=C.w.drawn+1 } }:=A.same rfl;have Pt:=B.stepW.trans (I.mG A);refine⟨_,{ C with w:={ C.w with drawn:=C.w.drawn+1 } },#[],iT,⟨⟨σ,σ,A,S,I⟩,.nil⟩,?_⟩;simp only[Region.schedule,hf,Bool.true_or,aV];refine J.M8 W (s0:=s) (λj s2 a2 f2 h2 nA=>U .normal _ _ s2 a2 (hQ j) f2 h2 nA) all.toArray.size _ (by simp) (by simp) ?_ ?_ ?_ _ a ?_ S Pt _
 ·simp[bA,jS];split <;> simp
 ·intro i hi;simp[bA,jS] at hi;split at hi <;> simp at hi
 ·intro i o k hi;simp[bA,jS] at hi;split at hi <;> simp at hi
 ·have r:=R.mono (I.mG A) A.len;refine⟨r.size,r.defers,λt=>?_⟩
  unfold dh;cases z:idx t with
  |none=>exact r.slot t
  |some j =>
   simp only;rw[an]
   ·exact r.slot t
   ·simp[bA,jS];split <;> simp
end
def mD(xs:List UInt8):List Value:=xs.map λx=>.int .u8 x.toNat
theorem me{xs:List UInt8}:(mD xs).length=xs.length:=by simp[mD]
theorem GL{xs b:List UInt8}:mD (xs++b)=mD xs++mD b:=by simp[mD]
def lJ(bf:Option (Nat×Nat))(n:Nat):Value:=match bf with|none=>.slice none 0 0|some (g,cap)=>.slice (some ⟨g,0,none⟩) n cap
def BB(T E:TypeId)(a:Bool)(v1:Value)(bf:Option (Nat×Nat))(xs:List UInt8)(f:Nat):Value->(Nat->Option Obj)->Prop:=λv d =>
 ∃ b,v=.pointer (some ⟨b,0,none⟩)/\cE v1=true/\d b=some (.cells #[if a then v else .pointer none,v1] T (0,0)) /\
 match bf with
 |none=>xs=[]/\∀ c,(d c).isSome=true↔c=b
 |some (g,cap)=>g≠b/\xs.length<=cap/\0<cap/\cap<=9223372036854775807/\f<=xs.length/\(∃ e,(mD xs++e).length=cap/\d g=some (.cells (mD xs++e).toArray E (0,f)))/\∀ c,(d c).isSome=true↔c=b∨c=g
section
variable {P:Program}{X:Cx P}{N:Nat}{m:List (Nat×TI)}{o:Oper}{k:Operand->D}{σ:List ak}{l:Nat}{T E:TypeId}{a:Bool}{v1:Value}{bf:Option (Nat×Nat)}{xs:List UInt8}{f:Nat}{s:St}
structure qu (P:Program)(σ:List ak)(s:St)(l:Nat)(T E:TypeId)(a:Bool)(v1:Value)(bf:Option (Nat×Nat))(xs:List UInt8)(f:Nat)(L:Loc)(b:Nat)(ch:Nat->Option Obj):Prop where
 β:s.β[l]?=some L
 v:L.v=.pointer (some ⟨b,0,none⟩)
 bb:BB T E a v1 bf xs f L.v ch
 heap:∀ (b:Nat) (o:Obj),ch b=some o->s.w.heap[b]?=some o
 bs:∀ b,b∈L.bs↔(ch b).isSome=true
 M:∀ b∈L.bs,∀ o,s.M b o=none
 ch:ch b=some (.cells #[if a then L.v else .pointer none,v1] T (0,0))
 cell:cE v1=true
theorem BB.row(hh:ag σ s)(hl:σ[l]?=some (.cQ (BB T E a v1 bf xs f))):∃ L b ch,qu P σ s l T E a v1 bf xs f L b ch:=by
 have c:l<s.β.length:=by rw[hh.len];exact(aE.1 hl).1
 have d:=aj c;generalize s.β[l]=L at d;obtain⟨ch,g,h1,h2,n⟩:=hh.box l _ L hl d;have e:=g;obtain⟨b,h,i,j,_⟩:=e;exact⟨L,b,ch,d,h,g,h1,h2,n,j,i⟩
theorem qu.mem{L:Loc}{b:Nat}{ch:Nat->Option Obj}(r:qu P σ s l T E a v1 bf xs f L b ch):b∈L.bs:=(r.bs b).2 (by rw[r.ch];rfl)
theorem qu.ptr{L:Loc}{b:Nat}{ch:Nat->Option Obj}(r:qu P σ s l T E a v1 bf xs f L b ch){v:Value}{off:Nat}(h:b5 σ s v (.e (.one (.ptr l off)))):v=.pointer (some ⟨b,off,none⟩):=by
 obtain⟨_,d,c,h1,h2,rfl⟩:=(h:eQ σ s v (.ptr l off));rw[r.β] at h1;cases h1;rw[r.v] at h2;cases h2;rfl
theorem C3(B:bX P m){t:TypeId}{x:Operand}{i:TI}(h:o.op=.load t x)(hi:aJ m t=some i)(F:i.agg=false)(H:σ[l]?=some (.cQ (BB T E a v1 bf xs f))){off:Nat}{d:D}(G:k x=.e (.one (.ptr l off)))
  (K:∀ s L b ch,ag σ s->qu P σ s l T E a v1 bf xs f L b ch->∃ v,(#[if a then L.v else .pointer none,v1]:Array Value)[off]?=some v/\b5 σ s v d):aH P o k σ d σ:=by
 refine .kU λs J A M=>?_
 obtain⟨L,b,ch,r⟩:=BB.row (P:=P) A H;have z:=r.ptr (by have:=M x;rwa [G] at this)
 obtain⟨v,y,u⟩:=K s L b ch A r;have c:s.w.cell? ⟨b,off,none⟩=some v:=by
  simp only[World.cell?,r.heap _ _ r.ch];simpa using y
 have g:(loadVar t ⟨b,off,none⟩).run P s.w=.ok v s.w:=by
  simp[loadVar,(B t i hi).gK,F,run_load,c]
 refine⟨v,by simp[execOp,h,z,Instr.loadAt,Instr.sureAddr,g],u,λC q=>?_⟩
 have p:C∈(loadVar t ⟨b,off,none⟩).events P s.w #[]:=by
  have e:execOp J o=(do pure (.value (<-loadVar t ⟨b,off,none⟩))):=by simp[execOp,h,z,Instr.loadAt,Instr.sureAddr]
  rw[e] at q;simpa[g] using q
 obtain⟨j,I,rfl⟩:=gL (B t i hi) (n:=1) (λj I=>by
  rw[show j=0 by omega];exact⟨v,c⟩) (by simp[F]) C p
 exact nw (aG r.β) r.mem
theorem aH.dj(g:bX P m){t:TypeId}{x:Operand}{i:TI}(h:o.op=.load t x)(hi:aJ m t=some i)(c:i.agg=false)(hl:σ[l]?=some (.cQ (BB T E a v1 bf xs f)))(d:k x=.e (.one (.ptr l 1))):aH P o k σ (.e (.one (.v v1))) σ :=
 C3 g h hi c hl d λs L b ch hh r=>⟨v1,by simp,Rd.val r.cell⟩
theorem GM{H:Value->(Nat->Option Obj)->Prop}(b:σ[l]?=some (.cQ H)):∀ B,σ[l]?=some B->B.gr=false:=by intro B h;rw[b] at h;cases h;rfl
theorem aH.C4(g:bX P m){t:TypeId}{x:Operand}{i:TI}(h:o.op=.load t x)(hi:aJ m t=some i)(c:i.agg=false)(hl:σ[l]?=some (.cQ (BB T E true v1 bf xs f)))(d:k x=.e (.one (.ptr l 0))):aH P o k σ (.e (.one (.ptr l 0))) σ :=
 C3 g h hi c hl d λs L b ch hh r=>⟨L.v,by simp,GM hl,L,b,r.β,r.v,r.v⟩
theorem aH.JC(j:bX P m){t:TypeId}{x:Operand}{i:TI}(h:o.op=.load t x)(hi:aJ m t=some i)(d:i.agg=false)(hl:σ[l]?=some (.cQ (BB T E false v1 bf xs f)))(g:k x=.e (.one (.ptr l 0))):aH P o k σ (.e (.one (.c .kg))) σ :=
 C3 j h hi d hl g λs L b ch hh r=>⟨.pointer none,by simp,Rd.kg⟩
theorem setRow_size(w:World)(b:Nat)(row:Array Value):(w.setRow b row).heap.size=w.heap.size:=by simp[World.setRow]
theorem C5(hT:bX P m){t:TypeId}{x y:Operand}{i:TI}(h:o.op=.store t x y)(hi:aJ m t=some i)(O:i.size=1)(hl:σ[l]?=some (.cQ (BB T E a v1 bf xs f))){off:Nat}{c:Bool}{n:Value}(hx:k x=.e (.one (.ptr l off)))(ho:off<2)(hc:cE n=true)
  (hd:∀ s L b ch v,ag σ s->qu P σ s l T E a v1 bf xs f L b ch->b5 σ s v (k y)->cE v=true/\(#[if a then L.v else .pointer none,v1]:Array Value).setIfInBounds off v=#[if c then L.v else .pointer none,n]):aH P o k σ .any (σ.set l (.cQ (BB T E c n bf xs f))):=by
 intro s z Z hr;obtain⟨L,b,ch,r⟩:=BB.row (P:=P) Z hl;have K:=r.ptr (by have:=hr x;rwa [hx] at this)
 obtain⟨J,U⟩:=hd s L b ch (z y) Z r (hr y);have A:(z y).cells=#[z y]:=by cases hy:z y <;> simp[hy,cE,Value.cells] at J ⊢
 have F:∀ v∈[z y],v.oneCell'=true:=by
  intro v K;simp at K;subst K;cases hy:z y <;> simp[hy,cE,Value.oneCell'] at J ⊢
 have u:=r.heap _ _ r.ch;have I:=run_storeCells_at P b off T [z y] 0 _ s.w u (by simp;omega) F
 have H:((#[if a then L.v else .pointer none,v1]:Array Value).toList.take (off+0)++[z y]++(#[if a then L.v else .pointer none,v1]:Array Value).toList.drop (off+0+[z y].length)).toArray=#[if c then L.v else .pointer none,n]:=by
  rw[<-U]
  match off,ho with
  |0,_=>apply gI;simp
  |1,_=>apply gI;simp
 rw[H] at I;have S:(s.w.setRow b #[if c then L.v else .pointer none,n]).heap[b]?=some (.cells #[if c then L.v else .pointer none,n] T (0,0)):=setRow_heap s.w b _ _ T _ u
 have G:∀ d,d≠b->(s.w.setRow b #[if c then L.v else .pointer none,n]).heap[d]?=s.w.heap[d]?:=λd q=>setRow_other s.w b d _ q
 obtain⟨t1,t2⟩:=Z.jq (l:=l) (H':=BB T E c n bf xs f) (L':=L) (w':=s.w.setRow b #[if c then L.v else .pointer none,n]) hl r.β rfl (by rw[setRow_size];exact ar _)
  (λd q hn=>G d (by rintro rfl;exact hn r.mem)) (λd q=>.inl q)
  ⟨λd=>if d=b then some (.cells #[if c then L.v else .pointer none,n] T (0,0)) else ch d,by
   obtain⟨V,q1,q2,q3,Y⟩:=r.bb;have:V=b:=by rw[r.v] at q1;simpa using q1.symm
   subst this;have B:∀ d,(if d=V then some (Obj.cells #[if c then L.v else .pointer none,n] T (0,0)) else ch d).isSome=true↔(ch d).isSome=true:=by
    intro d
    by_cases e:d=V
    ·subst e;simp[r.ch]
    ·simp[e]
   refine⟨V,q1,hc,by simp,?_⟩
   cases bf with
   |none=>exact⟨Y.1,λd=>(B d).trans (Y.2 d)⟩
   |some p =>
    obtain⟨g,cap⟩:=p;obtain⟨a1,a2,a3,a4,a5,⟨zs,a6,a7⟩,a8⟩:=Y;exact⟨a1,a2,a3,a4,a5,⟨zs,a6,by simp[a1,a7]⟩,λd=>(B d).trans (a8 d)⟩,λd o' q=>by
   by_cases e:d=b
   ·subst e;simp only[aV] at q;cases q;exact S
   ·simp only[e,aM] at q;rw[G d e];exact r.heap _ _ q,λd=>by
   rw[r.bs d]
   by_cases e:d=b
   ·subst e;simp[r.ch]
   ·simp[e]⟩ rfl rfl rfl
 have Q:s.β.set l L=s.β:=by
  apply lB
  intro j
  by_cases e:l=j
  ·subst e;rw[br (aE.1 r.β).1,r.β]
  ·rw[b7 e]
 rw[Q] at t1 t2;refine⟨.skip,{ s with w:=s.w.setRow b #[if c then L.v else .pointer none,n] },?_,rfl,t1,t2,?_⟩
 ·simp[execOp,h,K,Instr.storeAt,Instr.sureAddr,storeVar,(hT t i hi).run_sizeOf,O,A,I]
 ·intro ev C;have e:execOp z o=(do storeVar t ⟨b,off,none⟩ (z y);pure .skip):=by simp[execOp,h,K,Instr.storeAt,Instr.sureAddr]
  rw[e] at C;have R:ev∈(storeCells ⟨b,off,none⟩ [z y]).events P s.w #[]:=by
   simp only[storeVar,Sem.events_bind,(hT t i hi).run_sizeOf,A,O,Result.evThen_ok,events_sizeOf,cf,e9,aM,aU,bj,Sem.events_pure,mU,fw] at C;generalize (storeCells ⟨b,off,none⟩ [z y]).run P s.w=r at C;cases r with
   |ok v w'=>simpa using C
   |halt x w'=>simpa using C
  rcases dL [z y] 0 _ s.w #[] u (by simp;omega) F ev R with W|⟨j,_,_,rfl⟩
  ·simp at W
  ·exact mb (aG r.β) r.mem (r.M _ r.mem _)
theorem aH.um(p:bX P m){t:TypeId}{x y:Operand}{i:TI}(h:o.op=.store t x y)(hi:aJ m t=some i)(d:i.size=1)(hl:σ[l]?=some (.cQ (BB T E a v1 bf xs f))){c:Value}(n:k x=.e (.one (.ptr l 1)))(q:k y=.e (.one (.v c)))(j:cE c=true):aH P o k σ .any (σ.set l (.cQ (BB T E a c bf xs f))) :=
 C5 p h hi d hl n (by omega) j λs L b ch v hh r g=>by
  rw[q] at g;have:=Rd.ft g;subst this;exact⟨j,rfl⟩
theorem aH.GN(n:bX P m){t:TypeId}{x y:Operand}{i:TI}(h:o.op=.store t x y)(hi:aJ m t=some i)(c:i.size=1)(hl:σ[l]?=some (.cQ (BB T E a v1 bf xs f)))(g:k x=.e (.one (.ptr l 0)))(p:k y=.e (.one (.ptr l 0)))(j:cE v1=true):aH P o k σ .any (σ.set l (.cQ (BB T E true v1 bf xs f))) :=
 C5 n h hi c hl g (by omega) j λs L b ch v hh r d=>by
  rw[p] at d;have:=r.ptr d;subst this;refine⟨rfl,?_⟩;rw[<-r.v];rfl
theorem aH.JD{T:TypeId}(h:o.op=.alloc T)(q:∀ w,(zeroValue T).run P w=.ok (.agg #[.pointer none,.slice none 0 0]) w)(i:∀ w es,(zeroValue T).events P w es=es):aH P o k σ (.e (.one (.ptr σ.length 0))) (σ++[.cQ (BB T E false (.slice none 0 0) none [] 0)]):=by
 intro s x hh hr
 let w':=s.w.alloc (.cells #[.pointer none,.slice none 0 0] T)
 obtain⟨g1,g2⟩:=hh.grow (M':=s.M) (w':=w') (by simp[w']) (λb n=>bP s.w _ n) (λ_ _ _=>rfl) (λb n o v j=>by have:=hh.block j;omega) rfl rfl rfl
 have t:w'.heap.size=s.w.heap.size+1:=by simp[w']
 have g:w'.heap[s.w.heap.size]?=some (.cells #[.pointer none,.slice none 0 0] T (0,0)):=cC s.w _;obtain⟨u,r⟩:=g1.ij g2 rfl hh (B:=.cQ (BB T E false (.slice none 0 0) none [] 0)) (L:=⟨.pointer (some ⟨s.w.heap.size,0,none⟩),[s.w.heap.size]⟩)
  ⟨λd=>if d=s.w.heap.size then some (.cells #[.pointer none,.slice none 0 0] T (0,0)) else none,⟨s.w.heap.size,rfl,rfl,by simp,rfl,λd=>by by_cases e:d=s.w.heap.size <;> simp[e]⟩,λd p c=>by
   by_cases e:d=s.w.heap.size
   ·subst e;simp only[aV] at c;cases c;exact g
   ·simp[e] at c,λd=>by by_cases e:d=s.w.heap.size <;> simp[e],λd c p=>by
   simp at c;subst c;show s.M _ _=none;cases j:s.M s.w.heap.size p with
   |none=>rfl
   |some v=>have:=hh.block j;omega⟩ (λd c=>by simp at c;subst c;exact⟨ar _,by show _<w'.heap.size;omega⟩)
 refine⟨.value (.pointer (some ⟨s.w.heap.size,0,none⟩)),_,?_,⟨by simp,⟨.pointer (some ⟨s.w.heap.size,0,none⟩),[s.w.heap.size]⟩,s.w.heap.size,?_,rfl,rfl⟩,u,r,?_⟩
 ·simp[execOp,h,Instr.alloc,q,Go.newVar,newRow,Value.cells,w']
 ·simp[<-hh.len]
 ·simp[execOp,h,Instr.alloc,q,i,Go.newVar,newRow];exact .nil
end
section
variable {P:Program}{X:Cx P}{N:Nat}{z:List (Nat×TI)}{o:Oper}{q:Operand->D}{σ:List ak}{l:Nat}{T E:TypeId}{d:Bool}{v1:Value}{bf:Option (Nat×Nat)}{xs:List UInt8}{k:Nat}{s:St}
theorem lK{P:Program}{b o:Nat}{t:TypeId}{k:Nat×Nat}:∀ (vs:List Value)(i:Nat)(a:Array Value)(w:World)(es:Array Event),w.heap[b]?=some (.cells a t k)->k.2<=o+i->o+i+vs.length<=a.size->(∀ v∈vs,v.oneCell'=true) ->
  ∀ e∈(storeCells ⟨b,o,none⟩ vs i).events P w es,e∈es∨∃ j,i<=j/\j<i+vs.length/\e=A9 b (o+j)
 |[],_,_,_,_,_,_,_,_=>λe h=>.inl (by simpa[storeCells] using h)
 |v::rest,i,a,w,es,g,p,y,x=>λe h=>by
  have hi:o+i<a.size:=by simp at y;omega
  have c:w.cell? ⟨b,o+i,none⟩=some a[o+i]:=by simp[World.cell?,g,hi]
  have f:w.frozen? ⟨b,o+i,none⟩=false:=by
   obtain⟨lo,A⟩:=k;simp only[World.frozen?,g,nc,a9]
   right
   simp only at p;omega
  have m:(store (⟨b,o+i,none⟩:Addr) v).run P w=.ok () (w.setRow b (a.setIfInBounds (o+i) v)):=by
   rw[run_store P w _ v _ (x v (by simp)),c]
   simp[f,setCell_eq_setRow w b (o+i) a t k v g]
  have r:(store (⟨b,o+i,none⟩:Addr) v).events P w es=es.push (A9 b (o+i)):=by
   rw[events_store P w es _ v _ (x v (by simp)),c]
   simp only[f,fO,aM];rfl
  simp only[storeCells,Sem.events_bind,cg,m,r,Result.evThen_ok] at h;rcases lK rest (i+1) (a.setIfInBounds (o+i) v) _ _ (setRow_heap _ _ _ _ _ _ g) (by omega) (by simp at y ⊢;omega) (λu C=>x u (by simp[C])) e h with n|⟨j,F,B,rfl⟩
  ·rcases nj.1 n with n|rfl
   ·exact .inl n
   ·exact .inr ⟨i,ar _,by simp,rfl⟩
  ·exact .inr ⟨j,by omega,by simp at B ⊢;omega,rfl⟩
theorem qu.at{L:Loc}{b g cap:Nat}{ch:Nat->Option Obj}(r:qu P σ s l T E d v1 (some (g,cap)) xs k L b ch) :
  g≠b/\xs.length<=cap/\0<cap/\cap<=9223372036854775807/\k<=xs.length/\(∃ a,(mD xs++a).length=cap/\ch g=some (.cells (mD xs++a).toArray E (0,k)))/\(∀ e,(ch e).isSome=true↔e=b∨e=g)/\g∈L.bs:=by
 obtain⟨n,h,_,_,j,i,u,p,m,c,t⟩:=r.bb;have:n=b:=by rw[r.v] at h;simpa using h.symm
 subst this;obtain⟨a,c,f⟩:=c;exact⟨j,i,u,p,m,⟨a,c,f⟩,t,(r.bs g).2 (by rw[f];rfl)⟩
theorem C6{L:Loc}(h:s.β[l]?=some L):s.β.set l L=s.β:=by
 apply lB
 intro j
 by_cases e:l=j
 ·subst e;rw[br (aE.1 h).1,h]
 ·rw[b7 e]
theorem qu.jq{L:Loc}{b g cap:Nat}{ch:Nat->Option Obj}(hh:ag σ s)(hl:σ[l]?=some (.cQ (BB T E d v1 (some (g,cap)) xs k)))(r:qu P σ s l T E d v1 (some (g,cap)) xs k L b ch){xs':List UInt8}{fz':Nat}{zs':List Value}{w':World}
  (f:(mD xs'++zs').length=cap) (A:xs'.length<=cap) (H:fz'<=xs'.length) (x:w'.heap.size=s.w.heap.size) (n:∀ a,a≠g->w'.heap[a]?=s.w.heap[a]?) (t:w'.heap[g]?=some (.cells (mD xs'++zs').toArray E (0,fz'))) (G:w'.os=s.w.os) (p:w'.tape=s.w.tape) (C:w'.output=s.w.output) :
  ag (σ.set l (.cQ (BB T E d v1 (some (g,cap)) xs' fz'))) { s with w:=w' }/\Step σ s (σ.set l (.cQ (BB T E d v1 (some (g,cap)) xs' fz'))) { s with w:=w' }:=by
 obtain⟨i,J,I,u,K,⟨M,Q,B⟩,y,h⟩:=r.at;obtain⟨j,m⟩:=hh.jq (l:=l) (H':=BB T E d v1 (some (g,cap)) xs' fz') (L':=L) (w':=w') hl r.β rfl (by omega)
  (λa c F=>n a (by rintro rfl;exact F h)) (λa c=>.inl c)
  ⟨λa=>if a=g then some (.cells (mD xs'++zs').toArray E (0,fz')) else ch a,⟨b,r.v,r.cell,(show (if b=g then _ else ch b)=_ from (an λe=>i e.symm).trans r.ch),i,A,I,u,H,⟨zs',f,by simp⟩,λa=>by
   by_cases e:a=g
   ·subst e;simp
   ·simp only[e,aM];exact(y a).trans (by simp[e])⟩,λa O c=>by
   by_cases e:a=g
   ·subst e;simp only[aV] at c;cases c;exact t
   ·simp only[e,aM] at c;rw[n a e];exact r.heap _ _ c,λa=>by
   rw[r.bs a]
   by_cases e:a=g
   ·subst e;simp[B]
   ·simp[e]⟩ G p C
 rw[C6 r.β] at j m;exact⟨j,m⟩
theorem aH.GO{t R:TypeId}{x y:Operand}(ho:o.op=.call { callee:=.builtin .append,args:=#[x,y],argTypes:=#[t,R] }){W:TypeInfo}(ht:P.underlying t=some (.slice E))(G:P.underlying R=some .string)(H:P.info? E=some W)(C:W.size=1)
  {g cap n:Nat} (hl:σ[l]?=some (.cQ (BB T E d v1 (some (g,cap)) xs k))) (hx:q x=.e (.one (.v (lJ (some (g,cap)) n)))) (hn:xs.length=n) {str:List UInt8} (hy:q y=.e (.one (.c (.str str)))) (SZ:n+str.length<=cap) :
  aH P o q σ (.e (.one (.v (lJ (some (g,cap)) (n+str.length))))) (σ.set l (.cQ (BB T E d v1 (some (g,cap)) (xs++str) k))):=by
 intro s ρ hh hr;subst hn;obtain⟨L,b,ch,r⟩:=BB.row (P:=P) hh hl;obtain⟨a1,a2,a3,a4,V,⟨a,a6,a7⟩,a8,K⟩:=r.at;have A:=hr x;rw[hx] at A;have A:=Rd.ft A;have O:=hr y;rw[hy] at O;have O:=eB O;generalize u:ρ y=vy at O;cases O with
 |@str sb _ hs S0 =>
 have B:sb.size=str.length:=by rw[<-hs,fx];rfl
 have Q:=r.heap _ _ a7;have f:(mD xs++a).toArray.size=cap:=by simpa using a6
 have J:=Lib.run_append_room_stringF (P:=P) s.w t R o.type E W ht G H C g xs.length cap _ _ Q V sb (by omega) (by rw[f];omega)
 have I:((mD xs++a).toArray.toList.take xs.length++Lib.strCells sb++(mD xs++a).toArray.toList.drop (xs.length+sb.size))=mD (xs++str)++a.drop str.length:=by
  have e1:(mD xs++a).take xs.length=mD xs:=by rw[<-me (xs:=xs)];simp
  have e2:(mD xs++a).drop (xs.length+sb.size)=a.drop str.length:=by
   rw[List.drop_append,me,tX (by rw[me];omega),B]
   simp
  have e3:Lib.strCells sb=mD str:=by simp[Lib.strCells,mD,hs]
  rw[ud,e1,e2,e3,GL]
 rw[I,B] at J;have VJ:a.length=cap-xs.length:=by simp[me] at a6;omega
 have i:(mD (xs++str)++a.drop str.length).length=cap:=by simp[me];omega
 have F:(s.w.setRow g (mD (xs++str)++a.drop str.length).toArray).heap[g]?=some (.cells (mD (xs++str)++a.drop str.length).toArray E (0,k)):=setRow_heap s.w g _ _ E _ Q;obtain⟨t1,Y⟩:=r.jq (fz':=k) (w':=s.w.setRow g (mD (xs++str)++a.drop str.length).toArray) hh hl i (by simp;omega) (by simp;omega) (setRow_size _ _ _) (λb' Z=>setRow_other s.w g b' _ Z) F rfl rfl rfl
 refine⟨.value (.slice (some ⟨g,0,none⟩) (xs.length+str.length) cap),_,?_,Rd.val rfl,t1,Y,?_⟩
 ·rw[dM ho,A,u];simp only[aU,cd];have p:(Builtin.append_ #[t,R] o.type #[lJ (some (g,cap)) xs.length,.string sb]).run P s.w=_:=J;rw[p];rfl
 ·rw[dM ho,A,u];refine dC λe he=>?_
  have hf:=Lib.run_firstCells_string (P:=P) s.w 1 sb;have S:=run_storeCells_atF P g xs.length E (0,k) (Lib.strCells sb) 0 _ s.w Q (by simpa using V) (by rw[Lib.strCells_length,f];omega) (Lib.strCells_oneCell sb)
  have m:xs.length+sb.size<=cap:=by omega
  have U:(Builtin.firstCells 1 sb.size (.string sb)).events P s.w #[]=#[]:=rfl;simp[lJ,Builtin.append_,run_underlying ht,run_underlying G,sizeOf,typeInfo,H,C,Builtin.lenOf,m,hf,U,cg,S] at he;rcases lK (Lib.strCells sb) 0 _ s.w _ Q (by simpa using V) (by rw[Lib.strCells_length,f];omega) (Lib.strCells_oneCell sb) e he with h|⟨j,h1,h2,rfl⟩
  ·simp at h
  ·exact mb (aG r.β) K (r.M _ K _)
theorem aH.C7{t r:TypeId}{x y:Operand}(p:o.op=.call { callee:=.builtin .append,args:=#[x,y],argTypes:=#[t,r] }){n:TypeInfo}(u:P.underlying t=some (.slice E))(g:P.underlying r=some .string)(i:P.info? E=some n)
  (B:q x=.e (.one (.v (lJ none 0)))) (G:q y=.e (.one (.c (.str [])))):aH P o q σ (.e (.one (.v (lJ none 0)))) σ:=by
 refine .quiet λs F hh hr=>?_
 have b:=hr x;rw[B] at b;have b:=Rd.ft b;have h:=hr y;rw[G] at h;have h:=eB h;generalize f:F y=vy at h;cases h with
 |@str sb _ C A =>
 have a:sb.size=0:=by
  have:sb.data.toList.length=0:=by rw[C];rfl
  rw[fx] at this;exact this
 have m:=Lib.run_firstCells_string (P:=P) s.w n.size sb;rw[a] at m;have j:(Builtin.firstCells n.size 0 (.string sb)).events P s.w #[]=#[]:=rfl;refine⟨.slice none 0 0,?_,Rd.val rfl,?_⟩
 ·rw[dM p,b,f];simp[lJ,Builtin.append_,run_underlying u,run_underlying g,sizeOf,typeInfo,i,Builtin.lenOf,a,m]
 ·rw[dM p,b,f];simp[lJ,Builtin.append_,run_underlying u,run_underlying g,sizeOf,typeInfo,i,Builtin.lenOf,a,m,j]
theorem Mc{f:FuncId}{fn:Func}{ps:Array TypeId}{t:TypeId}(ht:P.underlying t=some (.slice E))(hf:P.funcs[f]?=some fn)(A:(fn.name== "runtime.NumGoroutine")=false)
  (hb:fn.body.isNone=true) (hn:Extern.findNext fn=none) (K:Extern.find fn=some (Extern.BytealgMakeNoZero.makeNoZero ps #[t])) {R x:Operand} {Z:Array TypeId} (ho:o.op=.call { callee:=.value R,args:=#[x],argTypes:=Z })
  (S1:q R=.e (.one (.c (.fn (.func f) [] [])))) {n:Nat} (hx:q x=.e (.one (.c (.int .i64 n)))) (h0:0<n) (S3:n<=140737488355328) (hl:σ[l]?=some (.cQ (BB T E d v1 none xs k))) :
  ∀ s F,ag σ s->(∀ y,b5 σ s (F y) (q y))->∃ (j:{ p:Nat×Nat // n<=p.2 }) (s':St) (v:Value),(execOp F o).run P s.w=.ok (.value v) s'.w/\b5 (σ.set l (.cQ (BB T E d v1 (some j.1) [] 0))) s' v (.e (.one (.v (lJ (some j.1) n)))) /\
   ag (σ.set l (.cQ (BB T E d v1 (some j.1) [] 0))) s'/\Step σ s (σ.set l (.cQ (BB T E d v1 (some j.1) [] 0))) s'/\eW s ((execOp F o).events P s.w #[]):=by
 intro s F Y hr;obtain⟨L,b,ch,r⟩:=BB.row (P:=P) Y hl;have I:F R=.func (.func f) #[] #[]:=by
  have i:=hr R;rw[S1] at i;have i:=eB i;generalize F R=v at i;cases i with
  |fn fs cs a b f1 f2 c1 c2 d1 d2 =>
   have:fs=[]:=fu a;subst this;have:cs=[]:=fu b;subst this;rfl
 have G:F x=.int .i64 n:=by
  have i:=hr x;rw[hx] at i;have i:=eB i;generalize F x=v at i;cases i;rfl
 obtain⟨cs,i,V,U⟩:=Lib.run_makeNoZero (P:=P) s.w ps t E ht n (by omega)
 have U:=U (by simp only[maxLen];omega)
 have H:(callFunc f #[.int .i64 n]).run P s.w=.ok (.value (.slice (some ⟨s.w.heap.size,0,none⟩) n cs.size)) (s.w.drew.drew.alloc (.cells cs E)):=by
  rw[run_callFunc_extern hf A hb hn K,i];rfl
 let w':World:=s.w.drew.drew.alloc (.cells cs E)
 have O:w'.heap[s.w.heap.size]?=some (.cells cs E (0,0)):=cC s.w.drew.drew _;have IH:w'.heap.size=s.w.heap.size+1:=by show (s.w.drew.drew.heap.push _).size=_;simp
 obtain⟨B,q1,q2,q3,q4⟩:=r.bb;have S4:B=b:=by rw[r.v] at q1;simpa using q1.symm
 subst S4;have Q:B<s.w.heap.size:=Y.lt L (aG r.β) B r.mem;have C:s.w.heap.size≠B:=by omega
 obtain⟨t1,t2⟩:=Y.jq (l:=l) (H':=BB T E d v1 (some (s.w.heap.size,cs.size)) [] 0) (L':=⟨L.v,[B,s.w.heap.size]⟩) (w':=w') hl r.β rfl (by omega)
  (λu g hn=>bP s.w.drew.drew _ g) (λu g=>by
   simp at g;rcases g with rfl|rfl
   ·exact .inl r.mem
   ·exact .inr ⟨ar _,by omega⟩)
  ⟨λu=>if u=B then some (.cells #[if d then L.v else .pointer none,v1] T (0,0)) else if u=s.w.heap.size then some (.cells cs E (0,0)) else none,⟨B,r.v,r.cell,by simp,C,by simp,by omega,by simp only[maxLen] at U;omega,by simp,⟨cs.toList,by simp[mD],by simp[C,mD]⟩,λu=>by
   by_cases e:u=B
   ·simp[e]
   ·by_cases J:u=s.w.heap.size <;> simp[e,J,C]⟩,λu o' g=>by
   by_cases e:u=B
   ·subst e;simp only[aV] at g;have:w'.heap[u]?=s.w.heap[u]?:=bP s.w.drew.drew _ Q;rw[this,<-g];exact r.heap _ _ r.ch
   ·simp only[e,aM] at g
    by_cases J:u=s.w.heap.size
    ·subst J;simp only[aV] at g;cases g;exact O
    ·simp[J] at g,λu=>by
   by_cases e:u=B
   ·simp[e]
   ·by_cases J:u=s.w.heap.size <;> simp[e,J,C]⟩ rfl rfl rfl
 refine⟨⟨(s.w.heap.size,cs.size),V⟩,_,_,?_,Rd.val rfl,t1,t2,?_⟩
 ·simp[execOp,ho,resolve,Deferred.ofValue,invoke,I,G,H,w',lJ]
 ·intro ev S;simp only[execOp,ho,resolve,Deferred.ofValue,invoke,I,G] at S;have M:ev∈(callFunc f #[.int .i64 n]).events P s.w #[]:=by
   simpa[I,G] using S
  have LK:fn.name≠ "runtime.NumGoroutine":=by simpa using A
  have W:fn.body=none:=by simpa using hb
  have key:∀ es:Array Event,∀ e∈(Extern.BytealgMakeNoZero.makeNoZero ps #[t] #[.int .i64 n]).events P s.w es,e∈es∨∃ m,e=⟨.mark m,false,true⟩/\Go.Conc.Neutral m:=by
   intro es e K
   change e∈Sem.events P (underlying _ >>= _) _ _ at K
   have i:¬(n:Int)<0:=by omega
   have V:¬(281474976710656:Int)<(n:Int):=by omega
   have O1:e∈(askRoom (grownCap s.w n 0 E)).events P s.w.drew es:=by
    simpa[run_underlying ht,i,V,Question.forced,newRow,grownCap] using K
   exact Go.Conc.events_askRoom _ _ _ e O1
  have:ev∈(Extern.BytealgMakeNoZero.makeNoZero ps #[t] #[.int .i64 n]).events P s.w ((#[]:Array Event).push ⟨.mark (.extern f),false,true⟩):=by
   have e:callFunc f #[.int .i64 n]=callFunc f #[.int .i64 n]:=rfl;simpa[callFunc,hf,LK,W,hn,K,i] using M
  rcases key _ _ this with h|⟨m,rfl,hm⟩
  ·simp at h;subst h;exact .inr ⟨f,rfl⟩
  ·exact .inl hm
theorem Md{H J:TypeId}{x y:Operand}(ho:o.op=.call { callee:=.builtin .unsafeString,args:=#[x,y],argTypes:=#[H,J] })(hp:P.underlying H=some (.pointer E))(G:P.cellsOf E=1)
  {g cap:Nat} (hl:σ[l]?=some (.cQ (BB T E d v1 (some (g,cap)) xs k))) (hx:q x=.e (.one (.v (.pointer (some ⟨g,0,none⟩))))) (hy:q y=.e (.one (.c (.int .i64 xs.length)))) :
  aH P o q σ (.e (.one (.c (.str xs)))) (σ.set l (.cQ (BB T E d v1 (some (g,cap)) xs xs.length))):=by
 intro s K hh hr;obtain⟨L,b,ch,r⟩:=BB.row (P:=P) hh hl;obtain⟨a1,U,a3,a4,a5,⟨V,a6,a7⟩,a8,S5⟩:=r.at;have B:=hr x;rw[hx] at B;have B:=Rd.ft B;have p:K y=.int .i64 xs.length:=by
  have R:=hr y;rw[hy] at R;have R:=eB R;generalize K y=v at R;cases R;rfl
 have I:=r.heap _ _ a7;have t:execOp K o=(do pure (.value (<-Builtin.unsafeString_ #[H,J] o.type #[K x,K y]))):=by simp[execOp,ho,resolve,invoke,builtin]
 have Q:(mD xs++V).toArray.size=cap:=by simpa using a6
 by_cases h0:xs=[]
 ·subst h0;have m:=Lib.run_unsafeString_none (P:=P) s.w H J o.type (some ⟨g,0,none⟩);obtain⟨Y,t2⟩:=r.jq (xs':=[]) (fz':=0) (zs':=V) (w':=s.w) hh hl a6 U (by simp) rfl (λ_ _=>rfl) (by have e:k=0:=(by simpa using a5);rw[e] at I;exact I) rfl rfl rfl
  refine⟨.value (.string .empty),_,?_,Rd.str rfl (by simp),Y,t2,?_⟩
  ·rw[t,B,p];simp only[aU,cd];have:(Builtin.unsafeString_ #[H,J] o.type #[.pointer (some ⟨g,0,none⟩),.int .i64 ([]:List UInt8).length]).run P s.w=_:=m;rw[this];rfl
  ·rw[t,B,p];refine dC ?_
   change eW s (Sem.events P (asInt (.int .i64 0) >>= _) _ _)
   simp[asInt,asIntOf,IntKind.max];exact .nil
 ·have i:∀ j x,xs[j]?=some x->s.w.cell? ((⟨g,0,none⟩:Addr).add j)=some (.int .u8 x.toNat):=by
   intro j x F;rw[cg];simp only[World.cell?,I,aw];have oR:j<xs.length:=(aE.1 F).1;have:(mD xs)[j]?=some (.int .u8 x.toNat):=by simp[mD,F]
   simp[bS (by rw[me];exact oR:j<(mD xs).length),this]
  have C:s.w.shape? g=some (E,cap):=by simp only[World.shape?,I];rw[Q]
  have m:=Lib.run_unsafeString_row (P:=P) s.w H J o.type E hp G g cap C xs h0 U (by omega) i
  have f:xs.length≠0:=by simpa using h0
  have Z:(s.w.freeze ⟨g,0,none⟩ xs.length).heap[g]?=some (.cells (mD xs++V).toArray E (0,xs.length)):=by
   simp only[World.freeze,f,aM,ua,aV,I,gG]
   by_cases W:k=0
   ·subst W;simp
   ·have e1:((0:Nat)==k)=false:=by
     simp only[eZ,cf];omega
    simp only[e1,fO,aM,Nat.min_self,aw];rw[Nat.max_eq_right a5]
  obtain⟨Y,t2⟩:=r.jq (xs':=xs) (fz':=xs.length) (zs':=V) (w':=s.w.freeze ⟨g,0,none⟩ xs.length) hh hl a6 U (ar _) (by simp[World.freeze,f]) (λb' Ba=>by
   simp only[World.freeze,f,aM,ua];rw[an (λe=>Ba e.symm)]) Z (by simp[World.freeze,f]) (by simp[World.freeze,f]) (by simp[World.freeze,f])
  refine⟨.value (.string ⟨xs.toArray⟩),_,?_,Rd.str (by simp) (by omega),Y,t2,?_⟩
  ·rw[t,B,p];simp only[aU,cd,m];rfl
  ·rw[t,B,p];refine dC λe A=>?_
   have S:¬(xs.length:Int)<0:=by omega
   have S6:¬(9223372036854775807:Int)<(xs.length:Int):=by omega
   have n:=Lib.liesAt_bytes (P:=P) G (cap / P.cellsOf E) xs.length (by rw[G];simpa using U)
   have M:IntKind.i64.max=9223372036854775807:=rfl;have S7:=Lib.run_loadBytes (P:=P) s.w xs ⟨g,0,none⟩ .empty i;have Me:∀ (O:List UInt8) (a:Nat) (acc:ByteArray) (es:Array Event),(∀ j x,O[j]?=some x->s.w.cell? ⟨g,a+j,none⟩=some (.int .u8 x.toNat))->∀ e∈(loadBytes ⟨g,a,none⟩ acc O.length).events P s.w es,e∈es∨∃ j,e=ui g j:=by
    intro O
    induction O with
    |nil=>intro a acc es _ e A;exact .inl (by simpa[loadBytes] using A)
    |cons y O ih =>
     intro a acc es G e A;have u:=G 0 y rfl;simp only[ey] at u;have S8:(load ⟨g,a,none⟩).run P s.w=.ok (.int .u8 y.toNat) s.w:=by simp[run_load,u]
     simp only[fa,loadBytes,Sem.events_bind,S8,Result.evThen_ok,uo u,cg] at A;rcases ih (a+1) _ _ (λj x F=>by have:=G (j+1) x (by simpa using F);rwa [show a+1+j=a+(j+1) by omega]) e A with h|h
     ·rcases nj.1 h with h|rfl
      ·exact .inl h
      ·exact .inr ⟨a,rfl⟩
     ·exact .inr h
   have S9:(variablesAt ⟨g,0,none⟩ E xs.length).run P s.w=.ok true s.w:=by simp[variablesAt,C,n]
   have Ta:∀ es,(variablesAt ⟨g,0,none⟩ E xs.length).events P s.w es=es:=λes=>by simp[variablesAt,C,n]
   have Gu:e∈(loadBytes ⟨g,0,none⟩ .empty xs.length).events P s.w #[]:=by
    change e∈Sem.events P (asInt (.int .i64 (xs.length:Int)) >>= _) _ _ at A
    simpa[asInt,asIntOf,M,S,S6,f,elemOf,run_underlying hp,S9,Ta,S7] using A
   rcases Me xs 0 .empty #[] (λj x F=>by have:=i j x F;rwa [cg] at this) e Gu with h|⟨j,rfl⟩
   ·simp at h
   ·exact nw (aG r.β) S5
end
section
variable {P:Program}{X:Cx P}{N:Nat}{q:List (Nat×TI)}{o:Oper}{g:Operand->D}{σ:List ak}{l:Nat}{T E:TypeId}{i:Bool}{v1:Value}{bf:Option (Nat×Nat)}{xs:List UInt8}{p:Nat}{s:St}
theorem aH.exact{x:Operand}{v r:Value}{d:D}(c:g x=.e (.one (.v v)))(h:∀ (a:Operand->Value) w,a x=v->(execOp a o).run P w=.ok (.value r) w/\(execOp a o).events P w #[]=#[])(f:∀ σ s,b5 σ s r d):aH P o g σ d σ:=by
 refine .quiet λs a hh hr=>?_
 have b:=hr x;rw[c] at b;have b:=Rd.ft b;obtain⟨h1,h2⟩:=h a s.w b;exact⟨r,h1,f _ _,h2⟩
theorem aH.pg{x:Operand}{b:Array TypeId}{t E:TypeId}(h:o.op=.call { callee:=.builtin .len,args:=#[x],argTypes:=b })(j:b[0]?=some t)(k:P.underlying t=some (.slice E)){a:Option Addr}{n c:Nat}(f:g x=.e (.one (.v (.slice a n c))))(r:n<=9223372036854775807):aH P o g σ (.e (.one (.c (.int .i64 n)))) σ :=
 .exact f (λm w d=>by constructor <;> simp[execOp,h,resolve,invoke,builtin,Builtin.len_,d,run_underlying k,goInt,j]) (λ_ _=>Rd.int (by simp only[aB];omega))
theorem aH.GP{x:Operand}{b:Array TypeId}{t E:TypeId}(h:o.op=.call { callee:=.builtin .cap,args:=#[x],argTypes:=b })(j:b[0]?=some t)(k:P.underlying t=some (.slice E)){a:Option Addr}{n c:Nat}(f:g x=.e (.one (.v (.slice a n c))))(r:c<=9223372036854775807):aH P o g σ (.e (.one (.c (.int .i64 c)))) σ :=
 .exact f (λm w d=>by constructor <;> simp[execOp,h,resolve,invoke,builtin,Builtin.cap_,d,run_underlying k,goInt,j]) (λ_ _=>Rd.int (by simp only[aB];omega))
theorem aH.Mf{x:Operand}{a:Array TypeId}(h:o.op=.call { callee:=.builtin .unsafeSliceData,args:=#[x],argTypes:=a }){n c:Nat}(d:g x=.e (.one (.v (.slice none n c)))):aH P o g σ (.e (.one (.v (.pointer none)))) σ :=
 .exact d (λf w b=>by
  have e:Builtin.unsafeSliceData_ a o.type #[.slice none n c]=pure (.pointer none):=rfl
  constructor <;> simp[execOp,h,resolve,invoke,builtin,b,e]) (λ_ _=>Rd.val rfl)
theorem aH.Mg{x:Operand}{b:Array TypeId}(h:o.op=.call { callee:=.builtin .unsafeSliceData,args:=#[x],argTypes:=b }){a:Addr}{n c:Nat}(f:g x=.e (.one (.v (.slice (some a) n c))))(j:c≠0):aH P o g σ (.e (.one (.v (.pointer (some a))))) σ :=
 .exact f (λk w d=>by
  obtain⟨m,rfl⟩:=Nat.exists_eq_succ_of_ne_zero j;have e:Builtin.unsafeSliceData_ b o.type #[.slice (some a) n (m+1)]=pure (.pointer (some a)):=rfl
  constructor <;> simp[execOp,h,resolve,invoke,builtin,d,e]) (λ_ _=>Rd.val rfl)
theorem aH.Mh{t E:TypeId}{x y:Operand}(h:o.op=.slice t x none (some y) none)(A:P.underlying t=some (.slice E)){H:TypeInfo}(hi:P.info? E=some H){a:Addr}{n c k:Nat}(C:g x=.e (.one (.v (.slice (some a) n c))))(F:g y=.e (.one (.c (.int .i64 k))))(I:k<=n)(B:n<=c)(u:c≠0)(G:a.add 0=a):aH P o g σ (.e (.one (.v (.slice (some a) k c)))) σ:=by
 refine .quiet λs z hh hr=>?_
 have b:=hr x;rw[C] at b;have b:=Rd.ft b;have d:z y=.int .i64 k:=by
  have h1:=hr y;rw[F] at h1;have h1:=eB h1;generalize z y=v at h1;cases h1;rfl
 have hl:((none:Option Value)=none/\(none:Option Int)=none)∨∃ k j,(none:Option Value)=some (.int k j)/\(none:Option Int)=some j:=.inl ⟨rfl,rfl⟩;have hh:(some (Value.int .i64 k)=none/\(some (k:Int))=none)∨∃ k' j,some (Value.int .i64 k)=some (.int k' j)/\(some (k:Int))=some j:=.inr ⟨_,_,rfl,rfl⟩;have r:aa (il n none (some (k:Int))):=by simp[aa,il,I]
 obtain⟨m,_,_⟩:=kV (P:=P) (isS:=true) B hl hh r s.w;have f:=mf (P:=P) (isS:=true) B hl hh r s.w;simp only[cA,az] at m;refine⟨.slice (some a) k c,?_,Rd.val rfl,?_⟩
 ·simp[execOp,h,b,d,Instr.sliceAt,run_underlying A,Instr.slice,m,sizeOf,typeInfo,hi,u,G]
 ·simp[execOp,h,b,d,Instr.sliceAt,run_underlying A,Instr.slice,m,f,sizeOf,typeInfo,hi,u]
theorem aH.copyV{t E j:TypeId}{x y:Operand}(h:o.op=.call { callee:=.builtin .copy,args:=#[x,y],argTypes:=#[t,j] })(k:P.underlying t=some (.slice E)){n:TypeInfo}(hi:P.info? E=some n){a:Addr}{c:Nat}(f:g x=.e (.one (.v (.slice (some a) 0 c))))(m:g y=.e (.one (.v (.slice none 0 0)))):aH P o g σ (.e (.one (.c (.int .i64 0)))) σ:=by
 refine .quiet λs r hh hr=>?_
 have b:=hr x;rw[f] at b;have b:=Rd.ft b;have d:=hr y;rw[m] at d;have d:=Rd.ft d;refine⟨.int .i64 0,?_,Rd.int (by simp[aB]),?_⟩ <;>
 simp[execOp,h,resolve,invoke,builtin,Builtin.copy_,b,d,run_underlying k,sizeOf,typeInfo,hi,Builtin.lenOf,Builtin.firstCells,storeCells,goInt]
theorem aH.Mi{k j:TypeId}{x y:Operand}(m:o.op=.call { callee:=.builtin .unsafeString,args:=#[x,y],argTypes:=#[k,j] })(n:g x=.e (.one (.v (.pointer none))))(r:g y=.e (.one (.c (.int .i64 ((0:Nat):Int))))):aH P o g σ (.e (.one (.c (.str [])))) σ:=by
 refine .kU λs d hh hr=>?_
 have a:=hr x;rw[n] at a;have a:=Rd.ft a;have b:d y=.int .i64 0:=by
  have h1:=hr y;rw[r] at h1;have h1:=eB h1;generalize d y=v at h1;cases h1;rfl
 have f:execOp d o=(do pure (.value (<-Builtin.unsafeString_ #[k,j] o.type #[d x,d y]))):=by simp[execOp,m,resolve,invoke,builtin]
 have h:=Lib.run_unsafeString_none (P:=P) s.w k j o.type none;refine⟨.string .empty,?_,Rd.str rfl (by simp),?_⟩
 ·rw[f,a,b];simp only[aU,cd,h];rfl
 ·rw[f,a,b];refine dC ?_
  change eW s (Sem.events P (asInt (.int .i64 0) >>= _) _ _)
  simp[asInt,asIntOf,IntKind.max];exact .nil
theorem aH.Tb(m:σ[l]?=some (.cQ (BB T E i v1 bf xs p))){c dst:TypeId}{x:Operand}(h:o.op=.convert c dst x)(t:P.underlying c=some (.pointer T))(u:P.underlying dst=some .unsafePointer){j:TypeInfo}(hj:P.info? T=some j)(f:j.size≠0)(v:g x=.e (.one (.ptr l 0))):aH P o g σ (.e (.one (.ptr l 0))) σ:=by
 refine .quiet λs y hh hr=>?_
 obtain⟨L,b,ch,r⟩:=BB.row (P:=P) hh m;have d:=hr x;rw[v] at d;have n:=r.ptr d;have k:s.w.shape? b=some (T,2):=by simp[World.shape?,r.heap _ _ r.ch]
 have a:=Lib.run_to_unsafe (P:=P) s.w ⟨b,0,none⟩ t u hj f k (by simp)
 refine⟨y x,by simp[execOp,h,n,a],d,?_⟩
 have:(convert c dst (.pointer (some ⟨b,0,none⟩))).events P s.w #[]=#[]:=by
  simp[convert,run_underlying t,run_underlying u,Conv.unsafePointer,Conv.seenAt,viewAt,cellsIn,k,sizeOf,typeInfo,hj,f]
 simp[execOp,h,n,a,this]
theorem aH.Mj(m:σ[l]?=some (.cQ (BB T E i v1 bf xs p))){d dst:TypeId}{x:Operand}(h:o.op=.convert d dst x)(u:P.underlying d=some .unsafePointer)(v:P.underlying dst=some (.pointer T)){j:TypeInfo}(hj:P.info? T=some j)(n:j.size≠0)(a:liesAt P P.depth T (2 / P.cellsOf T) 0 T 1=true)(y:g x=.e (.one (.ptr l 0))):aH P o g σ (.e (.one (.ptr l 0))) σ:=by
 refine .quiet λs z hh hr=>?_
 obtain⟨L,b,ch,r⟩:=BB.row (P:=P) hh m;have f:=hr x;rw[y] at f;have t:=r.ptr f;have k:s.w.shape? b=some (T,2):=by simp[World.shape?,r.heap _ _ r.ch]
 have c:=Lib.run_from_unsafe (P:=P) s.w ⟨b,0,none⟩ u v hj k a;refine⟨z x,by simp[execOp,h,t,c],f,?_⟩
 have:(convert d dst (.pointer (some ⟨b,0,none⟩))).events P s.w #[]=#[]:=by
  simp[convert,run_underlying u,run_underlying v,Conv.unsafePointer,Conv.seenAt,viewAt,variablesAt,k,sizeOf,typeInfo,hj,n,a]
 simp[execOp,h,t,c,this]
theorem aH.Mk{f:FuncId}{fn:Func}(B:P.funcs[f]?=some fn)(j:(fn.name== "runtime.NumGoroutine")=false)(A:fn.body.isNone=true)(F:Extern.findNext fn=none)(C:Extern.find fn=some Extern.AbiNoEscape.same)
  {r x:Operand} {t:Array TypeId} (z:o.op=.call { callee:=.value r,args:=#[x],argTypes:=t }) (y:g r=.e (.one (.c (.fn (.func f) [] [])))) {d:D} (G:g x=d):aH P o g σ d σ:=by
 refine .kU λs m hh hr=>?_
 have n:m r=.func (.func f) #[] #[]:=by
  have h1:=hr r;rw[y] at h1;have h1:=eB h1;generalize m r=v at h1;cases h1 with
  |fn fs cs a b J H c1 c2 d1 d2 =>
   have:fs=[]:=fu a;subst this;have:cs=[]:=fu b;subst this;rfl
 have k:(callFunc f #[m x]).run P s.w=.ok (.value (m x)) s.w:=by
  rw[run_callFunc_extern B j A F C];rfl
 have u:=iV (P:=P) B j A F C #[m x] (λ_ _=>rfl) s.w #[]
 refine⟨m x,?_,by have:=hr x;rwa [G] at this,λI h=>?_⟩
 ·simp[execOp,z,resolve,Deferred.ofValue,invoke,n,k]
 ·simp[execOp,z,resolve,Deferred.ofValue,invoke,n,u] at h;subst h;exact .inr ⟨_,rfl⟩
end
end Go.AM
namespace Go.AM.R1
open Go.Proofs
variable {X:Cx Tryz.prog}
abbrev bB(a:Bool)(v1:Value)(bf:Option (Nat×Nat))(xs:Bs)(b:Nat):ak:=.cQ (BB 239 5 a v1 bf xs b)
theorem wD(v1:Value)(c:cE v1=true)(bf:Option (Nat×Nat))(xs:Bs)(a:Nat):Ev X 200 [.e (.one (.ptr 0 0))] [bB false v1 bf xs a] (.eD []) [bB true v1 bf xs a]:=by
 refine Ev.body Tryz.func200 rfl rfl rfl λd=>?_
 refine bw rfl ab ?_;refine AK.law (aH.JC tok rfl rfl rfl rfl rfl) rfl rfl ?_;refine AK.law (Kq rfl Tryz.underlying236 rfl rfl rfl) rfl rfl ?_;refine bw rfl ab ?_;refine AK.law (aH.Tb rfl rfl Tryz.underlying236 Tryz.underlying223 (av Tryz.type239) (by simp[Tryz.t239]) rfl) rfl rfl ?_
 refine AK.law (aH.Mk Tryz.func211 (by kernel_rfl) (by kernel_rfl) (by kernel_rfl) (by kernel_rfl) rfl rfl rfl) rfl rfl ?_
 refine AK.law (aH.Mj rfl rfl Tryz.underlying223 Tryz.underlying236 (av Tryz.type239) (by simp[Tryz.t239]) (by kernel_rfl) rfl) rfl rfl ?_
 refine bw rfl ab ?_;refine AK.law (aH.GN tok rfl rfl rfl rfl rfl rfl c) rfl rfl ?_;refine bw rfl ab ?_;exact aW.oz [0] rfl ab rfl rfl rfl (λj b=>by
  have:j=0:=by simpa using b
  subst this;rfl)
theorem wE(v1:Value)(bf:Option (Nat×Nat))(xs:Bs)(a:Nat):Ev X 200 [.e (.one (.ptr 0 0))] [bB true v1 bf xs a] (.eD []) [bB true v1 bf xs a]:=by
 refine Ev.body Tryz.func200 rfl rfl rfl λc=>?_
 refine bw rfl ab ?_;refine AK.law (aH.C4 tok rfl rfl rfl rfl rfl) rfl rfl ?_;refine AK.law (Kr rfl Tryz.underlying236 rfl rfl rfl) rfl rfl ?_;refine bw rfl ab ?_;refine AK.law (aH.C4 tok rfl rfl rfl rfl rfl) rfl rfl ?_;refine bw rfl ab ?_;refine AK.law (Hv rfl Tryz.underlying236 (n:=2) (by decide) (λw=>by simp[sizeOf,typeInfo,av Tryz.type239,Tryz.t239]) (λw es=>by simp[sizeOf,typeInfo,av Tryz.type239]) rfl rfl rfl) rfl rfl ?_
 refine bw rfl ab ?_;exact aW.oz [0] rfl ab rfl rfl rfl (λj b=>by
  have:j=0:=by simpa using b
  subst this;rfl)
end Go.AM.R1
namespace Go.AM
open Go.Conc (G)
section
variable {P:Program}{X:Cx P}{N:Nat}{all:List Oper}{φ:Fr}{σ:List ak}{o:Oper}
theorem Ja.ju{ι:Type}{x:ι->D}{σ':ι->List ak}(m:o.guard=none)(h:∀ s e,ag σ s->(∀ y,b5 σ s (e y) (bz φ y))->∃ (j:ι)(s':St)(v:Value),(execOp e o).run P s.w=.ok (.value v) s'.w/\b5 (σ' j) s' v (x j)/\ag (σ' j) s'/\Step σ s (σ' j) s'/\eW s ((execOp e o).events P s.w #[])):Ja X N all o φ σ x σ':=by
 intro s a f hh b k cs S i rest hb hi hK;refine yr hb hi (dr m) λp d=>?_
 have c:=hh.rely d;obtain⟨j,s',v,h1,h2,l,g,n⟩:=h p a.eval c (fK (f.rely d hh));exact⟨_,s',v,h1,.inl rfl,⟨⟨σ,σ' j,c,l,g⟩,n⟩,hK j v s' h2 l (d.stepW.trans (g.mG c))⟩
theorem Ja.uT{x:D}{σ':List ak}(h:OA X N all o φ σ x σ'):Ja X N all o φ σ (λ_:Unit=>x) (λ_=>σ') :=
 λs a f hh b k cs S i rest hb hi hK=>h s a f hh b k cs S i rest hb hi λv s'=>hK () v s'
theorem OA.law{x:D}{σ':List ak}(h:aH P o (bz φ) σ x σ')(a:o.guard=none):OA X N all o φ σ x σ':=.ju (λ_ _ _ _=>dr a) h
theorem OA.eval{T:List (Nat×TI)}{CT:List (Nat×bH)}{ds:List (Nat×Bool)}{x:D}{obs:List Prop}(b:bX P T)(hC:aO X CT)(h:zZ T CT ds all φ σ o=some (x,none,obs))(a:aa obs):OA X N all o φ σ x σ:=k5 b hC h a
theorem OA.dE{T:List (Nat×TI)}{CT:List (Nat×bH)}{x:D}(a:bX P T)(hC:aO X CT)(h:zZ T CT [] all φ σ o=some (x,none,[])):OA X N all o φ σ x σ:=k5 a hC h ab
def qV(X:Cx P)(N:Nat)(all:List Oper)(φ:Fr)(σ:List ak)(x:Nat->D)(pre:Nat->Bool):List Oper->Nat->Prop
 |[],_=>True
 |o::r,i=>(match pre i with|true=>OA X N all o (mE all φ x i) σ (x i) σ|false=>True)/\qV X N all φ σ x pre r (i+1)
def qW(X:Cx P)(N:Nat)(all:List Oper)(φ:Fr)(σ:List ak)(x:Nat->D)(m:Nat):List Oper->Nat->Prop
 |[],_=>True
 |o::r,i=>(match Nat.beq i m with|true=>True|false=>OA X N all o (mE all φ x i) σ (x i) σ)/\qW X N all φ σ x m r (i+1)
theorem qV.get{x:Nat->D}{pre:Nat->Bool}:∀ {l:List Oper}{k:Nat},qV X N all φ σ x pre l k->∀ (i:Nat)(o:Oper),l[i]?=some o->pre (k+i)=true->OA X N all o (mE all φ x (k+i)) σ (x (k+i)) σ
 |[],_,_,i,o,h=>by simp at h
 |p::r,k,h,0,o,hi=>λa=>by
  simp at hi;subst hi;have h1:=h.1;simp only[ey] at a;rw[a] at h1;exact h1
 |p::r,k,h,i+1,o,hi=>λa=>by
  have:=qV.get h.2 i o (by simpa using hi) (by rw[show k+1+i=k+(i+1) by omega];exact a)
  rwa [show k+1+i=k+(i+1) by omega] at this
theorem qW.get{x:Nat->D}{m:Nat}:∀ {l:List Oper}{k:Nat},qW X N all φ σ x m l k->∀ (i:Nat)(o:Oper),l[i]?=some o->k+i≠m->OA X N all o (mE all φ x (k+i)) σ (x (k+i)) σ
 |[],_,_,i,o,h=>by simp at h
 |p::r,k,h,0,o,hi=>λb=>by
  simp at hi;subst hi;have h1:=h.1;simp only[ey] at b;have a:Nat.beq k m=false:=by
   cases a:Nat.beq k m with
   |true=>exact absurd (bk a) b
   |false=>rfl
  rw[a] at h1;exact h1
 |p::r,k,h,i+1,o,hi=>λb=>by
  have:=qW.get h.2 i o (by simpa using hi) (by omega)
  rwa [show k+1+i=k+(i+1) by omega] at this
def D4{ι:Type}(pre:Nat->Bool)(x:Nat->D)(y:ι->Nat->D)(j:ι)(i:Nat):D:=match pre i with|true=>x i|false=>y j i
theorem AK.wz{ι:Type}(h:P.follows Departure.mixedOrders=true)(m:Nat)(pre:Nat->Bool)(x:Nat->D)(y:ι->Nat->D)(σ':ι->List ak){ops:Array Oper}{id:Nat}{K:List It}{Qf:Post}
  (a:mH ops.toList=true) (b:wv ops.toList 0=true) (c:qU N ops.toList=true) (l:Nat.blt m ops.toList.length=true) (e:pre m=false) (d:wy pre m ops.toList 0=true)
  (one:qV X N ops.toList φ σ x pre ops.toList 0) (two:∀ j,qW X N ops.toList φ (σ' j) (D4 pre x y j) m ops.toList 0)
  (wz:Ja X N ops.toList (ops.toList.getD m j1) (mE ops.toList φ x m) σ (λj=>D4 pre x y j m) σ') (k:∀ j,AK X N Qf K .normal (CX ops.toList φ (D4 pre x y j)) (σ' j)):AK X N Qf (.code (.region id ops true)::K) .normal φ σ:=by
 have:=AW.wz (X:=X) (N:=N) (φ:=φ) (σ:=σ) h (all:=ops.toList) m pre x (D4 pre x y) σ' a b c l e d (λj i f=>by simp only[D4,f])
  (λi o hi f=>by have:=one.get i o hi (by rwa [aw]);rwa [aw] at this) (λj i o hi sK=>by have:=(two j).get i o hi (by rwa [aw]);rwa [aw] at this)
  (λo g=>by rw[show ops.toList.getD m j1=o by simp[List.getD_eq_getElem?_getD,g]] at wz;exact wz) (Q:=AK X N Qf K) k id
 rw[jW] at this;exact this
end
end Go.AM
namespace Go.AM.R1
open Go.Proofs
variable {X:Cx Tryz.prog}
abbrev bb(a:Bool)(bf:Option (Nat×Nat))(xs:Bs)(b:Nat):ak:=bB a (lJ bf xs.length) bf xs b
theorem m3:∀ j,j<1->([0]:List Nat)[j]?=some j:=λj a=>by
 have:j=0:=by omega
 subst this;rfl
theorem u4(a:Bool)(bf:Option (Nat×Nat))(xs:Bs)(b:Nat)(d:xs.length<=9223372036854775807)(c:bf=none->xs=[]):Ev X 210 [.e (.one (.ptr 0 0))] [bb a bf xs b] (dI xs.length) [bb a bf xs b]:=by
 refine Ev.body Tryz.func210 rfl rfl rfl λf=>?_
 refine bw rfl ab ?_;refine AK.law (aH.dj tok rfl rfl rfl rfl rfl) rfl rfl ?_;cases bf with
 |none =>
  have:=c rfl;subst this;refine AK.law (aH.pg rfl rfl Tryz.underlying237 rfl (by simp)) rfl rfl ?_
  refine bw rfl ab (AK.eK [0] rfl ?_ rfl rfl rfl m3);simp[aa]
 |some p =>
  refine AK.law (aH.pg rfl rfl Tryz.underlying237 rfl d) rfl rfl ?_;refine bw rfl ab (AK.eK [0] rfl ?_ rfl rfl rfl m3);simp[aa]
theorem yE(g cap:Nat)(xs s:Bs)(b:Nat)(d:s.length<=9223372036854775807)(a:xs.length+s.length<=cap):Ev X 176 [.e (.one (.ptr 0 0)),dS s] [bb true (some (g,cap)) xs b] (.eD [.one (.c (.int .i64 s.length)),.one (.c .kW)]) [bb true (some (g,cap)) (xs++s) b]:=by
 refine Ev.body Tryz.func176 rfl rfl rfl λf=>?_
 refine bw rfl ab ?_;refine AK.aP (wE (lJ (some (g,cap)) xs.length) (some (g,cap)) xs b) [0] rfl rfl rfl rfl rfl rfl rfl rfl rfl rfl rfl ?_;refine bw rfl ab ?_;refine AK.law (aH.dj tok rfl rfl rfl rfl rfl) rfl rfl ?_;refine bw rfl ab ?_;refine AK.law (aH.GO (l:=0) (g:=g) (cap:=cap) (xs:=xs) rfl Tryz.underlying237 Tryz.underlying9 (av Tryz.type5) (by simp[Tryz.t5]) rfl rfl rfl rfl a) rfl rfl ?_
 refine bw rfl ab ?_;refine AK.law (aH.um tok rfl rfl rfl rfl rfl rfl rfl) rfl rfl ?_;have e:bb true (some (g,cap)) (xs++s) b=.cQ (BB 239 5 true (lJ (some (g,cap)) (xs.length+s.length)) (some (g,cap)) (xs++s) b):=by simp[bb,bB]
 rw[e];refine bw rfl ab (AK.eK [0] rfl ?_ rfl rfl rfl m3);simp[aa,aa.cat]
theorem Ks:Ev X 176 [.e (.one (.ptr 0 0)),dS []] [bb true none [] 0] (.eD [.one (.c (.int .i64 0)),.one (.c .kW)]) [bb true none [] 0]:=by
 refine Ev.body Tryz.func176 rfl rfl rfl λa=>?_
 refine bw rfl ab ?_;refine AK.aP (wE (lJ none 0) none [] 0) [0] rfl rfl rfl rfl rfl rfl rfl rfl rfl rfl rfl ?_;refine bw rfl ab ?_;refine AK.law (aH.dj tok rfl rfl rfl rfl rfl) rfl rfl ?_;refine bw rfl ab ?_;refine AK.law (aH.C7 rfl Tryz.underlying237 Tryz.underlying9 (av Tryz.type5) rfl rfl) rfl rfl ?_;refine bw rfl ab ?_;refine AK.law (aH.um tok rfl rfl rfl rfl rfl rfl rfl) rfl rfl ?_;refine bw rfl ab (AK.eK [0] rfl ?_ rfl rfl rfl m3);simp[aa,aa.cat]
abbrev dp:D:=.e (.one (.ptr 0 0))
abbrev GC:D:=.e (.one (.ptr 0 1))
theorem yF(g cap:Nat)(xs:Bs)(c:Nat)(a:xs.length<=9223372036854775807)(b:cap≠0):Ev X 177 [.e (.one (.ptr 0 0))] [bb true (some (g,cap)) xs c] (dS xs) [bb true (some (g,cap)) xs xs.length]:=by
 refine Ev.body Tryz.func177 rfl rfl rfl λd=>?_
 refine aF [(1000001,true)] 100 rfl ab ?_;refine AK.wz du 10 (λi=>Nat.ble i 9) (λi=>[dp,dp,GC,.e (.one (.v (.slice (some ⟨g,0,none⟩) xs.length cap))),.e (.one (.v (.pointer (some ⟨g,0,none⟩)))),dp,dp,GC,.e (.one (.v (.slice (some ⟨g,0,none⟩) xs.length cap))),dI xs.length].getD i .any) (λ(_:Unit) _=>dS xs)
  (λ_=>[bb true (some (g,cap)) xs xs.length]) rfl rfl rfl rfl rfl rfl ?_ ?_ ?_ ?_
 ·refine⟨.dE tok aO.nil rfl,.dE tok aO.nil rfl,.dE tok aO.nil rfl,?_,?_,.dE tok aO.nil rfl,.dE tok aO.nil rfl,.dE tok aO.nil rfl,?_,?_,ab,ab,ab⟩
  ·exact .law (aH.dj (l:=0) tok rfl rfl rfl rfl rfl) rfl
  ·exact .law (aH.Mg rfl rfl b) rfl
  ·exact .law (aH.dj (l:=0) tok rfl rfl rfl rfl rfl) rfl
  ·exact .law (aH.pg rfl rfl Tryz.underlying237 rfl a) rfl
 ·intro _;refine⟨.dE tok aO.nil rfl,.dE tok aO.nil rfl,.dE tok aO.nil rfl,?_,?_,.dE tok aO.nil rfl,.dE tok aO.nil rfl,.dE tok aO.nil rfl,?_,?_,ab,.dE tok aO.nil rfl,ab⟩
  ·exact .law (aH.dj (l:=0) tok rfl rfl rfl rfl rfl) rfl
  ·exact .law (aH.Mg rfl rfl b) rfl
  ·exact .law (aH.dj (l:=0) tok rfl rfl rfl rfl rfl) rfl
  ·exact .law (aH.pg rfl rfl Tryz.underlying237 rfl a) rfl
 ·exact .uT (.law (Md (l:=0) rfl Tryz.underlying270 (by kernel_rfl) rfl rfl rfl) rfl)
 ·intro _;refine bw rfl ab (AK.eK [0] rfl ?_ rfl rfl rfl m3);simp[aa]
theorem Nj{o:Oper}{d:Operand->D}{σ:List ak}{t ty:TypeId}{x y:Operand}(h:o.op=.binOp .add t x y ty){b:Int}(e:d x=dI 0)(f:d y=dI b)(a:aB .i64 b):aH Tryz.prog o d σ (dI b) σ:=by
 have:=aH.binOp (P:=Tryz.prog) (σ:=σ) h e f (c:=.int .i64 (0+b)) (obs:=[aB .i64 (0+b)]) rfl (by rw[Int.zero_add];exact a)
 rwa [Int.zero_add] at this
theorem fb.Jc{ι:Type}{f:FuncId}{fn:Func}{c:Code}{args:List D}{σ:List ak}{σ':ι->List ak}{res:ι->D}(d:Tryz.prog.funcs[f]?=some fn)(a:(fn.name== "runtime.NumGoroutine")=false)(g:fn.body=some c)(b:Nat.ble args.length fn.ntmps=true)
  (h:AK X fn.ntmps (λe φ σ1=>∃ j,aW fn σ.length (res j) (σ' j) e φ σ1) [.code c] .normal (gC 0 args) σ):fb X f args σ res σ' :=
 fb.intro d a g (cY b) (AK.of_code h)
theorem Hw:Ev X 177 [.e (.one (.ptr 0 0))] [bb true none [] 0] (dS []) [bb true none [] 0]:=by
 refine Ev.body Tryz.func177 rfl rfl rfl λa=>?_
 refine aF [(1000001,true)] 100 rfl ab ?_;refine AK.wz du 10 (λi=>Nat.ble i 9) (λi=>[dp,dp,GC,.e (.one (.v (.slice none 0 0))),.e (.one (.v (.pointer none))),dp,dp,GC,.e (.one (.v (.slice none 0 0))),dI (0:Nat)].getD i .any) (λ(_:Unit) _=>dS [])
  (λ_=>[bb true none [] 0]) rfl rfl rfl rfl rfl rfl ?_ ?_ ?_ ?_
 ·refine⟨.dE tok aO.nil rfl,.dE tok aO.nil rfl,.dE tok aO.nil rfl,?_,?_,.dE tok aO.nil rfl,.dE tok aO.nil rfl,.dE tok aO.nil rfl,?_,?_,ab,ab,ab⟩
  ·exact .law (aH.dj (l:=0) tok rfl rfl rfl rfl rfl) rfl
  ·exact .law (aH.Mf rfl rfl) rfl
  ·exact .law (aH.dj (l:=0) tok rfl rfl rfl rfl rfl) rfl
  ·exact .law (aH.pg rfl rfl Tryz.underlying237 rfl (by decide)) rfl
 ·intro _;refine⟨.dE tok aO.nil rfl,.dE tok aO.nil rfl,.dE tok aO.nil rfl,?_,?_,.dE tok aO.nil rfl,.dE tok aO.nil rfl,.dE tok aO.nil rfl,?_,?_,ab,.dE tok aO.nil rfl,ab⟩
  ·exact .law (aH.dj (l:=0) tok rfl rfl rfl rfl rfl) rfl
  ·exact .law (aH.Mf rfl rfl) rfl
  ·exact .law (aH.dj (l:=0) tok rfl rfl rfl rfl rfl) rfl
  ·exact .law (aH.pg rfl rfl Tryz.underlying237 rfl (by decide)) rfl
 ·exact .uT (.law (aH.Mi rfl rfl rfl) rfl)
 ·intro _;refine bw rfl ab (AK.eK [0] rfl ?_ rfl rfl rfl m3);simp[aa]
theorem Hx(n:Nat)(c:0<n)(d:n<=140737488355328):fb (ι:={ p:Nat×Nat // n<=p.2 }) X 201 [.e (.one (.ptr 0 0)),dI n] [bb true none [] 0] (λ_=>.eD []) (λj=>[bb true (some j.1) [] 0]):=by
 refine fb.Jc Tryz.func201 rfl rfl rfl ?_;refine aF [(1000000,true)] 100 rfl ab ?_;have a:aB .i64 (n:Int):=by simp only[aB];omega
 have v0:D:=.e (.one (.v (.slice none 0 0)));refine AK.wz (ι:={ p:Nat×Nat // n<=p.2 }) du 8 (λi=>Nat.ble i 7||(Nat.ble 9 i&&Nat.ble i 13)) (λi=>[dp,dp,GC,.e (.one (.v (.slice none 0 0))),dI (0:Nat),dI 0,dI n,dI n,.any,dp,dp,GC,.e (.one (.v (.slice none 0 0))),dI (0:Nat)].getD i .any)
  (λj i=>[.e (.one (.v (lJ (some j.1) n))),.any,.any,.any,.any,.any,.e (.one (.v (.slice (some ⟨j.1.1,0,none⟩) 0 j.1.2))),.e (.one (.v (.slice (some ⟨j.1.1,0,none⟩) 0 j.1.2)))].getD (i-8) .any)
  (λj=>[bB true (.slice none 0 0) (some j.1) [] 0]) rfl rfl rfl rfl rfl rfl ?_ ?_ ?_ ?_
 ·refine⟨.dE tok aO.nil rfl,.dE tok aO.nil rfl,.dE tok aO.nil rfl,?_,?_,?_,.dE tok aO.nil rfl,?_,ab,.dE tok aO.nil rfl,.dE tok aO.nil rfl,.dE tok aO.nil rfl,?_,?_,ab,ab,ab⟩
  ·exact .law (aH.dj (l:=0) tok rfl rfl rfl rfl rfl) rfl
  ·exact .law (aH.GP rfl rfl Tryz.underlying237 rfl (by decide)) rfl
  ·exact .law (El 0 rfl rfl rfl (by simp[aB]) (λw=>rfl) (λw=>rfl)) rfl
  ·exact .law (Nj rfl rfl rfl a) rfl
  ·exact .law (aH.dj (l:=0) tok rfl rfl rfl rfl rfl) rfl
  ·exact .law (aH.pg rfl rfl Tryz.underlying237 rfl (by decide)) rfl
 ·intro j;have b:j.1.2≠0:=by have:=j.2;omega
  refine⟨.dE tok aO.nil rfl,.dE tok aO.nil rfl,.dE tok aO.nil rfl,?_,?_,?_,.dE tok aO.nil rfl,?_,ab,.dE tok aO.nil rfl,.dE tok aO.nil rfl,.dE tok aO.nil rfl,?_,?_,?_,.dE tok aO.nil rfl,ab⟩
  ·exact .law (aH.dj (l:=0) tok rfl rfl rfl rfl rfl) rfl
  ·exact .law (aH.GP rfl rfl Tryz.underlying237 rfl (by decide)) rfl
  ·exact .law (El 0 rfl rfl rfl (by simp[aB]) (λw=>rfl) (λw=>rfl)) rfl
  ·exact .law (Nj rfl rfl rfl a) rfl
  ·exact .law (aH.dj (l:=0) tok rfl rfl rfl rfl rfl) rfl
  ·exact .law (aH.pg rfl rfl Tryz.underlying237 rfl (by decide)) rfl
  ·exact .law (aH.Mh (k:=0) rfl Tryz.underlying237 (av Tryz.type5) rfl rfl (kS _) j.2 b (cg _ _ _)) rfl
 ·exact .ju rfl (Mc (l:=0) (ps:=#[3]) Tryz.underlying237 Tryz.func212 (by kernel_rfl) (by kernel_rfl) (by kernel_rfl) (by kernel_rfl) rfl rfl rfl c d rfl)
 ·intro j;refine bw rfl ab ?_;refine AK.law (aH.dj (l:=0) tok rfl rfl rfl rfl rfl) rfl rfl ?_;refine AK.law (aH.copyV rfl Tryz.underlying237 (av Tryz.type5) rfl rfl) rfl rfl ?_;refine bw rfl ab ?_;refine AK.law (aH.um (l:=0) tok rfl rfl rfl rfl rfl rfl rfl) rfl rfl ?_;refine bw rfl ab ?_;exact⟨j,aW.oz [0] rfl ab rfl rfl rfl m3⟩
theorem Av(n:Nat)(a:0<n)(b:n<=140737488355328):fb (ι:={ p:Nat×Nat // n<=p.2 }) X 175 [.e (.one (.ptr 0 0)),dI n] [bb false none [] 0] (λ_=>.eD []) (λj=>[bb true (some j.1) [] 0]):=by
 refine fb.Jc Tryz.func175 rfl rfl rfl ?_;refine bw rfl ab ?_;refine AK.aP (wD (lJ none 0) rfl none [] 0) [0] rfl rfl rfl rfl rfl rfl rfl rfl rfl rfl rfl ?_;refine aF [(7,false),(1000003,true)] 100 rfl ?_ ?_
 ·simp[aa]
 refine AK.wz du 4 (λi=>Nat.ble i 3||(Nat.ble 5 i&&Nat.ble i 9)||Nat.beq i 11) (λi=>[dp,dp,GC,.e (.one (.v (.slice none 0 0))),.any,dp,dp,GC,.e (.one (.v (.slice none 0 0))),dI (0:Nat),.any,dI n].getD i .any)
  (λ(_:Unit) i=>[dI (0:Nat),.any,.any,.any,.any,.any,dI (0-0),.any,dB true].getD (i-4) .any)
  (λ_=>[bb true none [] 0]) rfl rfl rfl rfl rfl rfl ?_ ?_ ?_ ?_
 ·refine⟨.dE tok aO.nil rfl,.dE tok aO.nil rfl,.dE tok aO.nil rfl,?_,ab,.dE tok aO.nil rfl,.dE tok aO.nil rfl,.dE tok aO.nil rfl,?_,?_,ab,.dE tok aO.nil rfl,ab,ab⟩
  ·exact .law (aH.dj (l:=0) tok rfl rfl rfl rfl rfl) rfl
  ·exact .law (aH.dj (l:=0) tok rfl rfl rfl rfl rfl) rfl
  ·exact .law (aH.pg rfl rfl Tryz.underlying237 rfl (by decide)) rfl
 ·intro _;refine⟨.dE tok aO.nil rfl,.dE tok aO.nil rfl,.dE tok aO.nil rfl,?_,ab,.dE tok aO.nil rfl,.dE tok aO.nil rfl,.dE tok aO.nil rfl,?_,?_,?_,.dE tok aO.nil rfl,?_,ab⟩
  ·exact .law (aH.dj (l:=0) tok rfl rfl rfl rfl rfl) rfl
  ·exact .law (aH.dj (l:=0) tok rfl rfl rfl rfl rfl) rfl
  ·exact .law (aH.pg rfl rfl Tryz.underlying237 rfl (by decide)) rfl
  ·exact .eval (ds:=[]) tok aO.nil (obs:=[aB .i64 (((0:Nat):Int)-((0:Nat):Int))]) rfl (by simp[aa,aB])
  ·exact .eval (ds:=[(21,true)]) tok aO.nil (obs:=[decide ((0:Int)-0<(n:Int))=true]) rfl (by simp[aa];omega)
 ·exact .uT (.law (aH.GP rfl rfl Tryz.underlying237 rfl (by decide)) rfl)
 ·intro _;refine bw rfl ab ?_;refine AK.pY (Hx n a b) [0] rfl rfl rfl rfl rfl rfl rfl (λ_=>rfl) rfl (λ_=>rfl) rfl λj=>?_
  refine bw rfl ab ?_;exact⟨j,aW.oz [0] rfl ab rfl rfl rfl m3⟩
theorem Em:Ev X 175 [.e (.one (.ptr 0 0)),dI (0:Nat)] [bb false none [] 0] (.eD []) [bb true none [] 0]:=by
 refine Ev.body Tryz.func175 rfl rfl rfl λa=>?_
 refine bw rfl ab ?_;refine AK.aP (wD (lJ none 0) rfl none [] 0) [0] rfl rfl rfl rfl rfl rfl rfl rfl rfl rfl rfl ?_;refine aF [(7,false),(1000003,true)] 100 rfl ?_ ?_
 ·simp[aa]
 refine AK.wz du 4 (λi=>Nat.ble i 3||(Nat.ble 5 i&&Nat.ble i 9)||Nat.beq i 11) (λi=>[dp,dp,GC,.e (.one (.v (.slice none 0 0))),.any,dp,dp,GC,.e (.one (.v (.slice none 0 0))),dI (0:Nat),.any,dI (0:Nat)].getD i .any)
  (λ(_:Unit) i=>[dI (0:Nat),.any,.any,.any,.any,.any,dI (0-0),.any,dB false].getD (i-4) .any)
  (λ_=>[bb true none [] 0]) rfl rfl rfl rfl rfl rfl ?_ ?_ ?_ ?_
 ·refine⟨.dE tok aO.nil rfl,.dE tok aO.nil rfl,.dE tok aO.nil rfl,?_,ab,.dE tok aO.nil rfl,.dE tok aO.nil rfl,.dE tok aO.nil rfl,?_,?_,ab,.dE tok aO.nil rfl,ab,ab⟩
  ·exact .law (aH.dj (l:=0) tok rfl rfl rfl rfl rfl) rfl
  ·exact .law (aH.dj (l:=0) tok rfl rfl rfl rfl rfl) rfl
  ·exact .law (aH.pg rfl rfl Tryz.underlying237 rfl (by decide)) rfl
 ·intro _;refine⟨.dE tok aO.nil rfl,.dE tok aO.nil rfl,.dE tok aO.nil rfl,?_,ab,.dE tok aO.nil rfl,.dE tok aO.nil rfl,.dE tok aO.nil rfl,?_,?_,?_,.dE tok aO.nil rfl,?_,ab⟩
  ·exact .law (aH.dj (l:=0) tok rfl rfl rfl rfl rfl) rfl
  ·exact .law (aH.dj (l:=0) tok rfl rfl rfl rfl rfl) rfl
  ·exact .law (aH.pg rfl rfl Tryz.underlying237 rfl (by decide)) rfl
  ·exact .eval (ds:=[]) tok aO.nil (obs:=[aB .i64 (((0:Nat):Int)-((0:Nat):Int))]) rfl (by simp[aa,aB])
  ·exact .eval (ds:=[(21,false)]) tok aO.nil (obs:=[decide ((0:Int)-0<((0:Nat):Int))=false]) rfl (by simp[aa])
 ·exact .uT (.law (aH.GP rfl rfl Tryz.underlying237 rfl (by decide)) rfl)
 ·intro _;refine bw rfl ab ?_;exact aW.oz [0] rfl ab rfl rfl rfl m3
theorem En{o:Oper}{a:Operand->D}{σ:List ak}(h:o.op=.alloc 239):aH Tryz.prog o a σ (.e (.one (.ptr σ.length 0))) (σ++[bb false none [] 0]) :=
 aH.JD h (λw=>by simp[zeroValue,typeInfo,av Tryz.type239,Tryz.t239]) (λw es=>by simp)
theorem Eo{o:Oper}{n:Operand->D}{σ:List ak}{x y z:Operand}{q:Array TypeId}{a b c:Int} (m:Int)(h:o.op=.call { callee:=.builtin .min,args:=#[x,y,z],argTypes:=q })(r:n x=dI a)(v:n y=dI b)(u:n z=dI c)(w:min (min a b) c=m)(t:aB .i64 m):aH Tryz.prog o n σ (dI m) σ:=by
 refine .quiet λs p A d=>?_
 have l:=d x;have k:=d y;have g:=d z;rw[r] at l;rw[v] at k;rw[u] at g
 replace l:=eB l
 replace k:=eB k
 replace g:=eB g
 generalize i:p x=vx at l;generalize f:p y=vy at k;generalize j:p z=vz at g;cases l;cases k;cases g;have e:(if c<(if b<a then b else a) then c else if b<a then b else a)=m:=by
  rw[<-w];split <;> split <;> omega
 exact⟨.int .i64 m,by simp[execOp,h,resolve,invoke,builtin,i,f,j,Builtin.min_,Builtin.min2,e],.int t,by simp[execOp,h,resolve,invoke,builtin,i,f,j,Builtin.min_,Builtin.min2]⟩
theorem Ep(n:Nat)(p:2<=n)(l:n<=3):Ev X 190 [dS [46],dI n] [] (dS (List.replicate n 46)) []:=by
 refine Ev.body Tryz.func190 rfl rfl rfl λo=>?_
 have a:aO X [(209,Kt)]:=.cons t209 .nil;refine af a [(13,false),(15,false),(18,false),(30,false),(33,false),(40,false),(44,false),(45,false),(46,false),(47,false),(48,false),(96,false),(1000035,true)] 200 rfl ?_ ?_
 ·have h:(n:Int)=2∨(n:Int)=3:=by omega
  have e:(fA [46] 0).toNat=46:=rfl;simp[aa,aB,e,h];omega
 refine AK.region ?_;refine AK.law (En rfl) rfl rfl ?_;refine af a [] 200 rfl ab ?_;refine AK.pY (Av n (by omega) (by omega)) [0] rfl rfl rfl rfl rfl rfl rfl (λ_=>rfl) rfl (λ_=>rfl) rfl λj=>?_
 obtain⟨⟨g,cap⟩,b⟩:=j;have b:n<=cap:=b;refine af a [] 200 rfl ab ?_;refine AK.aP (yE g cap [] [46] 0 (by simp) (by simp;omega)) [0] rfl rfl rfl rfl rfl rfl rfl rfl rfl rfl rfl ?_
 refine af a [] 200 rfl ab ?_;refine AK.eg (λk=>1<=k/\k<=n) (λk:Nat=>[(0,dS [46]),(7,dI n),(8,dI n),(9,.e (.one (.ptr 0 0)))]) (λk=>[bb true (some (g,cap)) (List.replicate k 46) (k-1)]) (λk=>n-k) 1 rfl ?_ rfl ?_ ⟨by omega,by omega⟩ ?_
 ·simp[aa,aa.cat]
 ·exact aa.cat.2 ⟨rfl,ab⟩
 rintro k ⟨c,i⟩;refine af a [] 200 rfl ab ?_;refine AK.aP (u4 true (some (g,cap)) (List.replicate k 46) (k-1) (by simp;omega) (by simp)) [0] rfl rfl rfl rfl rfl rfl rfl rfl rfl rfl rfl ?_
 by_cases q:k<n
 ·refine af a [(113,true)] 200 rfl ?_ ?_
  ·simp[aa];omega
  refine AK.aP (u4 true (some (g,cap)) (List.replicate k 46) (k-1) (by simp;omega) (by simp)) [0] rfl rfl rfl rfl rfl rfl rfl rfl rfl rfl rfl ?_
  refine af a [] 200 rfl ?_ ?_
  ·simp[aa,aB];omega
  refine AK.aP (u4 true (some (g,cap)) (List.replicate k 46) (k-1) (by simp;omega) (by simp)) [0] rfl rfl rfl rfl rfl rfl rfl rfl rfl rfl rfl ?_
  refine af a [] 200 rfl ab ?_;refine AK.law (Eo 1 rfl rfl rfl rfl (by simp;omega) (by simp[aB])) rfl rfl ?_
  refine af a [] 200 rfl ab ?_;refine AK.aP (yF g cap (List.replicate k 46) (k-1) (by simp;omega) (by omega)) [0] rfl rfl rfl rfl rfl rfl rfl rfl rfl rfl rfl ?_
  have d:nH (List.replicate k (46:UInt8)) none (some 1)=[46]:=by
   obtain⟨m,rfl⟩:∃ m,k=m+1:=⟨k-1,by omega⟩
   simp[nH,List.replicate_succ]
  refine af a [] 200 rfl ?_ ?_
  ·simp[aa];omega
  rw[d];refine AK.aP (yE g cap (List.replicate k 46) [46] (List.replicate k 46).length (by simp) (by simp;omega)) [0] rfl rfl rfl rfl rfl rfl rfl rfl rfl rfl rfl ?_
  have f:List.replicate k (46:UInt8)++[46]=List.replicate (k+1) 46:=by rw[List.replicate_succ']
  rw[f];refine af a [] 200 rfl ab (AK.cR (k+1) rfl ?_ rfl ?_ ⟨by omega,by omega⟩ (by omega))
  ·simp[aa,aa.cat]
  ·refine aa.cat.2 ⟨?_,ab⟩;simp[aa]
 ·refine af a [(113,false)] 200 rfl ?_ (AK.leave rfl rfl ?_)
  ·simp[aa];omega
  have e:k=n:=by omega
  subst e;refine af a [] 200 rfl ab ?_;refine AK.aP (yF g cap (List.replicate k 46) (k-1) (by simp;omega) (by omega)) [0] rfl rfl rfl rfl rfl rfl rfl rfl rfl rfl rfl ?_
  refine af a [] 200 rfl ab (AK.au rfl ?_);simp[aa,aa.cat]
theorem Ql:bU X 190 BD:=Nk (Ep 2 (by omega) (by omega)) (Ep 3 (by omega) (by omega))
theorem Nl:bU X 148 lX:=Nm Ql
def Room(bf:Option (Nat×Nat))(n:Nat):Prop:=match bf with|none=>n=0|some (_,cap)=>n<=cap/\0<cap
theorem _root_.Go.AM.fb.re{P:Program}{ι c:Type}{X:Cx P}{f:FuncId}{args:List D}{σ:List ak}{res:ι->D}{σ':ι->List ak}{a:c->D}{σ2:c->List ak}(h:fb X f args σ res σ')(g:ι->c)(d:∀ i,a (g i)=res i)(b:∀ i,σ2 (g i)=σ' i):fb X f args σ a σ2 :=
 ⟨h.1,λs vs h1 h2 S cs hS=>h.2 s vs h1 h2 S cs λi fr v s' k1 k2 k3 k4=>hS (g i) fr v s' k1 (by rw[b,d];exact k2) (by rw[b];exact k3) (by rw[b];exact k4)⟩
theorem Er(n:Nat)(a:n<=140737488355328):fb (ι:={ bf:Option (Nat×Nat) // Room bf n }) X 175 [.e (.one (.ptr 0 0)),dI n] [bb false none [] 0] (λ_=>.eD []) (λj=>[bb true j.1 [] 0]):=by
 by_cases h:n=0
 ·subst h;exact Em.Mo.re (λ_=>⟨none,rfl⟩) (λ_=>rfl) (λ_=>rfl)
 ·exact(Av n (by omega) a).re (λp=>⟨some p.1,p.2,by have:n<=p.1.2:=p.2;show 0<p.1.2;omega⟩) (λ_=>rfl) (λ_=>rfl)
theorem yG(bf:Option (Nat×Nat))(xs s:Bs)(a:s.length<=9223372036854775807)(h:Room bf (xs.length+s.length)):Ev X 176 [.e (.one (.ptr 0 0)),dS s] [bb true bf xs 0] (.eD [.one (.c (.int .i64 s.length)),.one (.c .kW)]) [bb true bf (xs++s) 0]:=by
 cases bf with
 |none =>
  have h:xs.length+s.length=0:=h;have d:xs=[]:=fu (by omega)
  have b:s=[]:=fu (by omega)
  subst d;subst b;exact Ks
 |some p=>exact yE p.1 p.2 xs s 0 a h.1
def shown(bf:Option (Nat×Nat))(xs:Bs):Nat:=match bf with|none=>0|some _=>xs.length
theorem Hy(bf:Option (Nat×Nat))(xs:Bs)(a:xs.length<=9223372036854775807)(h:Room bf xs.length):Ev X 177 [.e (.one (.ptr 0 0))] [bb true bf xs 0] (dS xs) [bb true bf xs (shown bf xs)]:=by
 cases bf with
 |none =>
  have h:xs.length=0:=h;have b:xs=[]:=fu h;subst b;exact Hw
 |some p=>exact yF p.1 p.2 xs 0 a (by have:=h.2;omega)
def tot(l:List Bs)(i:Nat):Bs:=(l.take i).flatten
theorem Et{l:List Bs}{i:Nat}(h:i<l.length):tot l (i+1)=tot l i++l.getD i []:=by
 unfold tot;rw[lA,aj h,ue];simp[List.getD_eq_getElem?_getD,aj h]
theorem Nn{l:List Bs}:tot l l.length=l.flatten:=by simp[tot]
theorem Eu{l:List Bs}(i:Nat):(tot l i).length<=l.flatten.length:=by
 have e:l.flatten=(l.take i).flatten++(l.drop i).flatten:=by rw[<-ue,jT]
 rw[e,bc];simp only[tot];omega
theorem Hz(l:List Bs)(q:l.flatten.length<=140737488355328):Ev X 131 [cS.sl l,dS []] [] (dS l.flatten) []:=by
 refine Ev.body Tryz.func131 rfl rfl rfl λr=>?_
 have o:=r.sl 0 rfl
 by_cases f:l=[]
 ·subst f;refine aF [(14,true)] 100 rfl ?_ (AK.au rfl ?_)
  ·simp[aa]
  ·simp[aa]
 by_cases s:l.length=1
 ·obtain⟨x,rfl⟩:=List.length_eq_one_iff.1 s;refine aF [(14,false),(16,true)] 100 rfl ?_ (AK.au rfl ?_)
  ·simp[aa]
  ·simp[aa,aa.cat,cS,jm.fn]
 have v:2<=l.length:=by
  have:l.length≠0:=by simpa using f
  omega
 refine aF [(14,false),(16,false),(22,false)] 100 rfl ?_ ?_
 ·simp[aa,f];omega
 refine AK.eg (λi=>i<=l.length) (λi:Nat=>[(0,cS.sl l),(1,dS []),(5,dI (tot l i).length),(39,cS.sl l),(40,dI l.length),(41,dI i)]) (λ_=>[]) (λi=>l.length-i) 0 rfl ?_ rfl ab (by omega) ?_
 ·simp[aa,aa.cat,ay.same,tot]
 ·intro i hi;have u:=Eu (l:=l) i
  by_cases h:i<l.length
  ·have g:=Eu (l:=l) (i+1);rw[Et h,bc] at g;refine aF [(42,true),(49,false)] 100 rfl ?_ (AK.cR (i+1) rfl ?_ rfl ab (by omega) (by omega))
   ·have e:(l.getD (i:Int).toNat cS.bD)=l.getD i []:=rfl;simp only[aa,aB,e];refine⟨by omega,by omega,bV (by omega),by omega,by omega,by omega,aQ (by omega)⟩
   ·have e:(l.getD (i:Int).toNat cS.bD)=l.getD i []:=rfl;rw[Et h];rw[e];simp[aa,aa.cat,ay.same]
  ·have e:i=l.length:=by omega
   subst e;refine aF [(42,false),(1000018,true)] 100 rfl ?_ (AK.leave rfl rfl ?_)
   ·simp[aa]
   refine aF [(1000018,true)] 100 rfl ab ?_;refine AK.region ?_;refine AK.law (En rfl) rfl rfl ?_;refine eX rfl ab ?_;rw[Nn];refine AK.pY (Er l.flatten.length q) [0] rfl rfl rfl rfl rfl rfl rfl (λ_=>rfl) rfl (λ_=>rfl) rfl λj=>?_
   obtain⟨bf,d⟩:=j;refine eX rfl ?_ ?_
   ·exact⟨by omega,show (0:Int)<(l.length:Int) by omega⟩
   have room:∀ n,n<=l.flatten.length->Room bf n:=λn t=>by
    cases bf with
    |none =>
     have:l.flatten.length=0:=d;show n=0;omega
    |some p=>exact⟨gd t d.1,d.2⟩
   have m:tot l 1=l.getD 0 []:=by rw[Et (by omega)];simp[tot]
   have b:=Eu (l:=l) 1;rw[m] at b;refine AK.aP (yG bf [] (l.getD 0 []) (by omega) (room _ (by simpa using b))) [0] rfl rfl rfl rfl rfl rfl rfl rfl rfl rfl rfl ?_
   refine eX rfl ?_ ?_
   ·exact⟨by omega,show (1:Int)<=(l.length:Int) by omega⟩
   refine AK.eg (λi=>i+1<=l.length) (λi:Nat=>[(1,dS []),(8,.e (.one (.ptr 0 0))),(63,.e (.one (.c (.sl false 1 (l.length-1) (ou 1 (cS.fn l)))))),(64,dI (l.length-1:Nat)),(65,dI i)]) (λi=>[bb true bf (tot l (i+1)) 0]) (λi=>l.length-i) 0 rfl ?_ rfl ?_ (by omega) ?_
   ·simp[aa,aa.cat,cA,ay.same]
   ·refine aa.cat.2 ⟨?_,ab⟩;rw[aw,m];exact rfl
   intro i hi;have k:=Eu (l:=l) (i+1)
   by_cases h:i+1<l.length
   ·have a:=Eu (l:=l) (i+2);rw[Et h,bc] at a;refine aF [(66,true)] 100 rfl ?_ ?_
    ·exact⟨by omega,by omega,aQ (by omega)⟩
    refine AK.aP (yG bf (tot l (i+1)) [] (by simp) (room _ (by simpa using k))) [0] rfl rfl rfl rfl rfl rfl rfl rfl rfl rfl rfl ?_
    rw[gH];refine bw rfl ab ?_;refine AK.aP (yG bf (tot l (i+1)) (l.getD (1+i) []) (by rw[iB 1 i];omega) (room _ (by rw[iB 1 i];exact a))) [0] rfl rfl rfl rfl rfl rfl rfl rfl rfl rfl rfl ?_
    refine bw rfl ?_ (AK.cR (i+1) rfl ?_ rfl ?_ (by omega) (by omega))
    ·simp only[aa,aB];omega
    ·simp[aa,aa.cat,ay.same]
    ·refine aa.cat.2 ⟨?_,ab⟩;rw[Et h,iB 1 i];exact rfl
   ·have e:i+1=l.length:=by omega
    refine aF [(66,false)] 100 rfl ?_ (AK.leave rfl rfl ?_)
    ·exact bV (by omega)
    rw[e,Nn];refine bw rfl ab ?_;refine AK.aP (Hy bf l.flatten (by omega) (room _ (by omega))) [0] rfl rfl rfl rfl rfl rfl rfl rfl rfl rfl rfl ?_
    refine bw rfl ab (AK.au rfl ?_);simp[aa,aa.cat]
theorem BH{s:Bs}(h:bn s=true)(i:Nat)(hi:i<s.length):97<=bd s i/\bd s i<=122:=by
 have a:=List.all_eq_true.1 h (s.getD i 0) (by rw[List.getD_eq_getElem?_getD,aj hi];exact gF hi)
 simp only[cW,bF,aD] at a;unfold bd;omega
theorem wK(s:Bs)(i:Nat)(b:bn s=true)(g:3<=i)(hi:i<=s.length)(f:s.length<=4000000):Ev X 213 [dS s,dI i] [] (dB (jq s i)) []:=by
 refine Ev.body Tryz.func213 rfl rfl rfl λh=>?_
 have k:=BH b (i-1) (by omega)
 have l:=BH b (i-2) (by omega)
 have j:=BH b (i-3) (by omega)
 have e:((fA s ((i:Int)-1)).toNat:Int)=bd s (i-1):=by rw[bl,show ((i:Int)-1).toNat=i-1 by omega]
 have c:((fA s ((i:Int)-2)).toNat:Int)=bd s (i-2):=by rw[bl,show ((i:Int)-2).toNat=i-2 by omega]
 have d:((fA s ((i:Int)-3)).toNat:Int)=bd s (i-3):=by rw[bl,show ((i:Int)-3).toNat=i-3 by omega]
 refine bw rfl ?_ (AK.au rfl ?_)
 ·simp only[aa,aB,e,c,d];omega
 ·simp only[aa,aa.cat,e,c,d,jq,dl,ah];rw[lC (a:=bd s (i-1)-97) (by omega) (by omega),lC (a:=bd s (i-2)-97) (by omega) (by omega),lC (a:=bd s (i-3)-97) (by omega) (by omega)]
theorem BI:bU X 213 (ga aS aI (λs i=>dB (jq s i.toNat)) λs i=>[bn s=true,3<=i,i<=s.length,s.length<=4000000]):=.gX λs i h=>by
 obtain⟨b,c,d,a⟩:=h;obtain⟨m,rfl⟩:∃ m:Nat,i=m:=⟨i.toNat,by omega⟩
 exact wK s m b (by omega) (by omega) a
theorem yQ{o:Oper}{k:Operand->D}{σ:List ak}{x y:Operand}{j:Array TypeId}{a b:Int} (m:Int)(h:o.op=.call { callee:=.builtin .min,args:=#[x,y],argTypes:=j })(n:k x=dI a)(q:k y=dI b)(r:min a b=m)(p:aB .i64 m):aH Tryz.prog o k σ (dI m) σ:=by
 refine .quiet λs l t d=>?_
 have i:=d x;have g:=d y;rw[n] at i;rw[q] at g
 replace i:=eB i
 replace g:=eB g
 generalize f:l x=vx at i;generalize c:l y=vy at g;cases i;cases g;have e:(if b<a then b else a)=m:=by
  rw[<-r];split <;> omega
 exact⟨.int .i64 m,by simp[execOp,h,resolve,invoke,builtin,f,c,Builtin.min_,Builtin.min2,e],.int p,by simp[execOp,h,resolve,invoke,builtin,f,c,Builtin.min_,Builtin.min2]⟩
theorem EF{t:Bs}{f j:Nat}(h:t.length<=f+3+j)(c:j<=5):oD t f (5-j)=min (f+8) t.length:=by
 rcases bC j 5 with a|a
 ·obtain⟨k,b⟩:∃ k,5-j=k+1:=⟨4-j,by omega⟩
  rw[b];simp only[oD];rw[aq (by omega)]
  omega
 ·rw[show 5-j=0 by omega];rfl
theorem BJ(t:Bs)(f:Nat)(l:bn t=true)(n:f<=t.length)(p:t.length<=4000000):Ev X 203 [dS t,dI f] [] (dI (cutAt t f)) []:=by
 refine Ev.body Tryz.func203 rfl rfl rfl λr=>?_
 have a:aO X [(213,ga aS aI (λs i=>dB (jq s i.toNat)) λs i=>[bn s=true,3<=i,i<=s.length,s.length<=4000000])]:=.cons BI .nil
 refine af a [] 100 rfl ?_ ?_
 ·simp[aa,aB];omega
 refine AK.eg (λj=>j<=5/\oD t f (5-j)=cutAt t f) (λj:Nat=>[(0,dS t),(1,dI f),(5,dI (f+3+j))]) (λ_=>[]) (λj=>5-j) 0 rfl ?_ rfl ab ⟨by omega,rfl⟩ ?_
 ·simp[aa,aa.cat]
 rintro j ⟨q,b⟩
 by_cases h:j<5/\f+3+j<t.length
 ·obtain⟨k,o⟩:∃ k,5-j=k+1:=⟨4-j,by omega⟩
  have g:f+(7-k)=f+3+j:=by omega
  rw[o] at b;simp only[oD,g] at b;rw[an (by omega)] at b
  have e:((f:Int)+3+j).toNat=f+3+j:=by omega
  cases c:jq t (f+3+j) with
  |true =>
   rw[c,aq rfl] at b;refine af a [(11,true),(16,true),(22,true)] 100 rfl ?_ (AK.dW (aW.zero rfl ?_))
   ·simp only[aa,aB,e,c,l,aD,eq_self,ai,ah];omega
   ·simp[aa,aa.cat,<-b]
  |false =>
   rw[c,an (by simp)] at b
   refine af a [(11,true),(16,true),(22,false)] 100 rfl ?_ (AK.cR (j+1) rfl ?_ rfl ab ⟨by omega,by rw[<-b];congr 1;omega⟩ (by omega))
   ·simp only[aa,aB,e,c,l,aD,eq_self,ai,ah];omega
   ·simp[aa,aa.cat];omega
 ·have e:cutAt t f=min (f+8) t.length:=by
   rw[<-b];rcases bC j 5 with d|d
   ·exact EF (by omega) (by omega)
   ·rw[show 5-j=0 by omega];rfl
  have m:aB .i64 ((min (f+8) t.length:Nat):Int):=by simp only[aB];omega
  rcases bC j 5 with d|d
  ·refine af a [(11,true),(16,false)] 100 rfl ?_ (AK.leave rfl rfl ?_)
   ·simp only[aa,aB,aD,a9];omega
   refine af a [] 100 rfl ?_ ?_
   ·simp only[aa,aB];omega
   refine AK.law (yQ ((min (f+8) t.length:Nat):Int) rfl rfl rfl (by omega) m) rfl rfl ?_
   refine af a [] 100 rfl ab (AK.au rfl ?_);simp[aa,e]
  ·refine af a [(11,false)] 100 rfl ?_ (AK.leave rfl rfl ?_)
   ·simp only[aa,aB,aD,a9];omega
   refine af a [] 100 rfl ?_ ?_
   ·simp only[aa,aB];omega
   refine AK.law (yQ ((min (f+8) t.length:Nat):Int) rfl rfl rfl (by omega) m) rfl rfl ?_
   refine af a [] 100 rfl ab (AK.au rfl ?_);simp[aa,e]
theorem KD:bU X 203 (ga aS aI (λs i=>dI (cutAt s i.toNat)) λs i=>[bn s=true,0<=i,i<=s.length,s.length<=4000000]):=.gX λs i h=>by
 obtain⟨b,c,d,a⟩:=h;obtain⟨m,rfl⟩:∃ m:Nat,i=m:=⟨i.toNat,by omega⟩
 exact BJ s m b (by omega) a
end Go.AM.R1
namespace Go.AM
theorem m0{B:ak}{r:List ak}(h:B≠.oc)(k:kp r=true):kp (B::r)=true:=by
 cases B <;> first|exact k|exact absurd rfl h
section
variable {P:Program}{X:Cx P}{N:Nat}{Qf:Post}{φ:Fr}{σ:List ak}
theorem AK.fJ{Q a:Post}(h:∀ e φ σ,Q e φ σ->a e φ σ):∀ {K:List It}{e:Exit}{φ:Fr}{σ:List ak},AK X N Q K e φ σ->AK X N a K e φ σ
 |[],e,φ,σ,q=>h e φ σ q
 |.code c::K,.normal,φ,σ,q=>AW.mono q λ_ _ _ q=>AK.fJ h q
 |.code c::K,.exit _,φ,σ,q=>AK.fJ (K:=K) h q
 |.code c::K,.ret,φ,σ,q=>AK.fJ (K:=K) h q
 |.code c::K,.panic _,φ,σ,q=>AK.fJ (K:=K) h q
 |.code c::K,.goto _,φ,σ,q=>AK.fJ (K:=K) h q
 |.code c::K,.outgrown,φ,σ,q=>AK.fJ (K:=K) h q
 |.blk id::K,.exit CW,φ,σ,q=>by
  simp only[AK] at q ⊢;split
  ·rename_i e;rw[aq e] at q;exact AK.fJ (K:=K) h q
  ·rename_i e;rw[an e] at q;exact AK.fJ (K:=K) h q
 |.blk id::K,.normal,φ,σ,q=>AK.fJ (K:=K) h q
 |.blk id::K,.ret,φ,σ,q=>AK.fJ (K:=K) h q
 |.blk id::K,.panic _,φ,σ,q=>AK.fJ (K:=K) h q
 |.blk id::K,.goto _,φ,σ,q=>AK.fJ (K:=K) h q
 |.blk id::K,.outgrown,φ,σ,q=>AK.fJ (K:=K) h q
 |.ops all rest::K,.normal,φ,σ,q=>gA.mono q λ_ _ q=>AK.fJ h q
 |.ops all rest::K,.exit _,φ,σ,q=>AK.fJ (K:=K) h q
 |.ops all rest::K,.ret,φ,σ,q=>AK.fJ (K:=K) h q
 |.ops all rest::K,.panic _,φ,σ,q=>AK.fJ (K:=K) h q
 |.ops all rest::K,.goto _,φ,σ,q=>AK.fJ (K:=K) h q
 |.ops all rest::K,.outgrown,φ,σ,q=>AK.fJ (K:=K) h q
theorem AK.Ke{id:Nat}{A:Fr->List ak->Prop}{a b c:List It}(h1:hY id a=none)(h2:hY id b=some c)(k:AK X N Qf c .normal φ σ) :
  AK X N (Ak A (AK X N Qf b)) (.code (.exit id)::a) .normal φ σ :=
 AK.fJ (λe φ' σ' q=>by cases e <;> exact q) (AK.leave (X:=X) (N:=N) (Qr:=Qf) (A:=A) (φ:=φ) (σ:=σ) h1 h2 k)
end
end Go.AM
namespace Go.AM.R1
open Go.Proofs
variable {X:Cx Tryz.prog}
abbrev Jg(t:Bs):C:=.fn (.func 202) [] [.rp [.str t]]
theorem HF(t:Bs):Ev X 179 [dS t] [] (.e (.one (.c (Jg t)))) []:=by
 refine Ev.body Tryz.func179 rfl rfl rfl λa=>?_
 refine aF [] 5 rfl ab ?_;refine AK.freeze 1 0 rfl rfl rfl ?_;refine bw rfl ab (AK.au rfl ?_);simp[aa]
theorem BK{T:Type}(text:Bs)(q:bn text=true)(v:text.length<=4000000){k:Nat}{a:Fr}{l:Loop}(g B1 B2:T->ak)(R:Nat->T->Prop)(j:T)(u:R 0 j)(n:∀ t,g t≠.oc/\B1 t≠.oc/\B2 t≠.oc)
  (b:∀ f t,f<text.length->R f t->Yields (ι:={ d:T // R (cutAt text f) d }) X 3 [dI f,dI (cutAt text f)] [g t,B1 t,B2 t,.loop k a l] true (λd=>[g d.1,B1 d.1,B2 d.1,.loop k a l])) :
  fb (ι:={ t:T // R text.length t }) X 202 [.e (.one (.ref 3)),.e (.one (.c (.rp [.str text])))] [g j,B1 j,B2 j,.loop k a l] (λ_=>.eD []) (λi=>[g i.1,B1 i.1,B2 i.1,.loop k a l]):=by
 refine fb.Kb Tryz.func202 rfl rfl rfl (AK.of_code ?_);have m:aO X [(203,ga aS aI (λs i=>dI (cutAt s i.toNat)) λs i=>[bn s=true,0<=i,i<=s.length,s.length<=4000000])]:=.cons KD .nil
 refine af m [] 100 rfl ab ?_;show AW X _ (.loop _) _ _ _;refine AW.loop (S:=T×Nat) (λx=>x.2<=text.length/\R x.2 x.1) (λx=>[(0,.e (.one (.ref 3))),(1,.e (.one (.c (.rp [.str text])))),(3,dI x.2)]) (λx=>[g x.1,B1 x.1,B2 x.1,.loop k a l]) (λx=>text.length-x.2) (j,0) ⟨kS _,u⟩ (cm rfl (by simp[aa,aa.cat])) rfl ?_
 rintro⟨t,f⟩ ⟨r,o⟩;simp only at r o;refine AK.of_code ?_
 by_cases h:f<text.length
 ·have p:=lZ text f h;refine af m [(8,true)] 100 rfl ?_ ?_
  ·simp only[aa,q,aD,eq_self,ai,ah];omega
  refine AK.yield (b f t h o) rfl rfl rfl rfl rfl rfl λd=>?_
  refine af m [(16,false)] 100 rfl ?_ ?_
  ·simp[aa]
  refine⟨(d.1,cutAt text f),⟨p.2.1,d.2⟩,?_,cm rfl (by simp[aa,aa.cat]),rfl⟩
  simp only;omega
 ·have e:f=text.length:=by omega
  subst e;refine af m [(8,false)] 100 rfl ?_ ?_
  ·simp[aa]
  refine AK.Ke rfl rfl ?_;exact⟨⟨t,o⟩,.inr rfl,rfl,m0 (n t).1 (m0 (n t).2.1 (m0 (n t).2.2 rfl)),[],.eD [],[],rfl,rfl,rfl,ab⟩
theorem qe{l:List Bs}{i:Nat}(h:i<l.length):l.getD i []=l[i]:=by simp[List.getD_eq_getElem?_getD,aj h]
theorem Kv(a b:List Bs):Ev X 133 [cS.sl a,cS.sl b] [] (dB (a==b)) []:=by
 refine Ev.body Tryz.func133 rfl rfl rfl λl=>?_
 have k:=l.sl 0 rfl
 by_cases g:a.length=b.length
 ·refine aF [(10,false)] 100 rfl (by simp[aa,g]) ?_
  refine AK.eg (λi=>i<=a.length/\∀ j,j<i->a.getD j []=b.getD j []) (λi:Nat=>[(0,cS.sl a),(1,cS.sl b),(12,dI a.length),(13,dI i)]) (λ_=>[]) (λi=>a.length-i) 0 rfl ?_ rfl ab ⟨by omega,by omega⟩ ?_
  ·simp[aa.cat,aa,ay.same]
  rintro i ⟨hi,c⟩
  by_cases h:i<a.length
  ·by_cases d:a.getD i []=b.getD i []
   ·refine aF [(14,true),(24,false)] 100 rfl ?_ (AK.cR (i+1) rfl ?_ rfl ab ?_ ?_)
    ·simp only[aa,az];have e:(a.getD i cS.bD==b.getD i cS.bD)=true:=gf.2 d;exact⟨by simp only[aB];omega,by rw[e];rfl,by omega,by omega,by omega,by omega,aQ (by omega)⟩
    ·simp[aa.cat,aa,ay.same]
    ·refine⟨by omega,λj f=>?_⟩
     rcases dG.1 f with f|rfl
     ·exact c j f
     ·exact d
    ·omega
   ·refine aF [(14,true),(24,true)] 100 rfl ?_ (AK.dW (aW.zero rfl ?_))
    ·simp only[aa,az];have e:(a.getD i cS.bD==b.getD i cS.bD)=false:=eZ.2 d;exact⟨by rw[e];rfl,by omega,by omega,by omega,by omega,aQ (by omega)⟩
    ·have:(a==b)=false:=eZ.2 (by rintro rfl;exact d rfl)
     simp[aa,this]
  ·refine aF [(14,false)] 100 rfl (by simp[aa];omega) (AK.leave rfl rfl ?_)
   refine bw rfl ab (AK.au rfl ?_);have:a=b:=pO g λj d m=>by rw[<-qe d,<-qe m];exact c j (by omega)
   simp[aa,this]
 ·refine aF [(10,true)] 100 rfl ?_ (AK.au rfl ?_)
  ·simp[aa];omega
  ·have:(a==b)=false:=eZ.2 (by rintro rfl;exact g rfl)
   simp[aa,this]
theorem iH:∀ (l:List UInt8)(c:UInt8),Lib.indexByte l c<l.length∨Lib.indexByte l c=-1
 |[],c=>.inr (by rw[Lib.indexByte.eq_def])
 |b::l,c=>by
  have d:=iH l c;rw[Lib.indexByte.eq_def];simp only[fa];split
  ·left;omega
  ·split
   ·right;rfl
   ·rename_i e a
    left
    simp at a;omega
set_option maxRecDepth 20000 in
theorem vp(s:Bs)(c:UInt8):Ev X 220 [dS s,dU c.toNat] [] (dI (Lib.indexByte s c)) []:=by
 refine Ev.body Tryz.func220 rfl rfl rfl λq=>?_
 have r:=q.str 0 rfl;refine bw rfl ab ?_;refine AK.one (x:=dI (Lib.indexByte s c)) (σ':=[]) ?_ rfl ?_
 ·refine OA.ju (λ_ _ _ _=>dr (by rfl)) ?_
  refine aH.kU λst ρ u l=>?_
  have p:=eB (l (.tmp 5));have n:=eB (l (.tmp 6));generalize g:ρ (.tmp 5)=v1 at p;generalize h:ρ (.tmp 6)=v2 at n;cases p with
  |str e1 l1 =>
  cases n with
  |int l2 =>
  have i:ρ (.func 227)=.func (.func 227) #[] #[]:=by
   have:=eB (l (.func 227));generalize ρ (.func 227)=v at this;cases this with
   |fn fs cs a b A z B c2 d1 d2 =>
    have:fs=[]:=fu a;subst this;have:cs=[]:=fu b;subst this;rfl
  have f:(callFunc 227 #[.string ‹ByteArray›,.int .u8 c.toNat]).run Tryz.prog st.w=.ok (.value (.int .i64 (Lib.indexByte s c))) st.w:=by
   rw[run_callFunc_extern Tryz.func227 (by kernel_rfl) (by kernel_rfl) (by kernel_rfl) (e:=Extern.BytealgIndexByte.indexByte) (by kernel_rfl),Lib.run_indexByteString]
   subst e1;simp
  have k:bM Tryz.prog (Extern.BytealgIndexByte.indexByte #[.string ‹ByteArray›,.int .u8 c.toNat]):=by
   refine bM.bind (m:=Extern.Bytes.bytesOf (.string ‹ByteArray›)) (λ_ _=>rfl) λb=>bM.bind (m:=Extern.Bytes.asByte (.int .u8 c.toNat)) (λ_ _=>?_) λd=>?_
   ·simp[Extern.Bytes.asByte]
   ·skip
    split <;> exact .pure
  have j:=iV Tryz.func227 (by kernel_rfl) (by kernel_rfl) (by kernel_rfl) (e:=Extern.BytealgIndexByte.indexByte) (by kernel_rfl) _ k st.w #[]
  refine⟨.int .i64 (Lib.indexByte s c),?_,Rd.int ?_,?_⟩
  rotate_left 2
  ·intro y o;simp[execOp,resolve,Deferred.ofValue,invoke,g,h,i,j] at o;subst o;exact .inr ⟨_,rfl⟩
  ·simp[execOp,resolve,Deferred.ofValue,invoke,g,h,i,f]
  ·have t:=Lib.indexByte_ge s c;have C:=iH s c;simp only[aB];omega
 ·refine bw rfl ab (AK.au rfl ?_);simp[aa]
end Go.AM.R1
namespace Go.AM
abbrev Ib(a b:Bs)(c:Bool):D:=.eD [.one (.c (.str a)),.one (.c (.str b)),.one (.c (.bool c))]
namespace R1
open Go.Proofs
variable {X:Cx Tryz.prog}
theorem sz(s:Bs) (c:Int)(h:0<=c/\c<=255):Ev X 220 [dS s,dU c] [] (dI (Lib.indexByte s (UInt8.ofNat (Int.toNat c)))) []:=by
 have e:c=((UInt8.ofNat c.toNat).toNat:Int):=by
  rw[UInt8.toNat_ofNat'];omega
 have:=vp (X:=X) s (UInt8.ofNat c.toNat);rw[<-e] at this;exact this
def Lk:bH:=λargs σ=>match args,σ with
 |[.e (.one (.c (.str a))),.e (.one (.c (.int .u8 b)))],[]=>some (dI (Lib.indexByte a (UInt8.ofNat (Int.toNat b))),[],[0<=b/\b<=255])
 |_,_=>none
theorem t220:bU X 220 Lk:=by
 intro args σ res σ' obs h a;unfold Lk at h;split at h
 ·cases h;exact(sz _ _ (a)).args (λ_ _ r=>r)
 ·cases h
def N3:List (Nat×bH):=(220,Lk)::SF
theorem Fz:aO X N3:=aO.cons t220 (Rp)
def fh(s:Bs):Int:=Lib.indexByte s 47
theorem FB(s:Bs):Ev X 214 [dS s,dS [47]] [] (dI (fh s)) []:=by
 refine Ev.body Tryz.func214 rfl rfl rfl λa=>?_
 by_cases h:s=[47]
 ·subst h;refine af Fz [(18,false),(22,true)] 100 rfl ?_ (AK.au rfl ?_)
  ·simp[aa]
  ·simp[aa,fh,Lib.indexByte.eq_def]
 ·refine af Fz [(18,false),(22,false),(26,true)] 100 rfl ?_ (AK.au rfl ?_)
  ·simp[aa,bl,bd];exactλe=>h e.symm
  ·simp[aa,fh,fA]
def Ll:bH:=λargs σ=>match args,σ with
 |[.e (.one (.c (.str a))),.e (.one (.c (.str [47])))],[]=>some (dI (fh a),[],[])
 |_,_=>none
theorem t214:bU X 214 Ll:=by
 intro args σ res σ' obs h a;unfold Ll at h;split at h
 ·cases h;exact FB _
 ·cases h
def N4:List (Nat×bH):=(214,Ll)::N3
theorem FC:aO X N4:=aO.cons t214 (Fz)
def fZ(s:Bs):Bs:=if 0<=fh s then s.take (fh s).toNat else s
def jN(s:Bs):Bs:=if 0<=fh s then s.drop ((fh s).toNat+1) else []
def gE(s:Bs):Bool:=decide (0<=fh s)
theorem FD(s:Bs):Ev X 204 [dS s,dS [47]] [] (Ib (fZ s) (jN s) (gE s)) []:=by
 refine Ev.body Tryz.func204 rfl rfl rfl λc=>?_
 have d:=c.str 0 rfl;have a:=iH s 47
 change fh s<s.length∨fh s=-1 at a
 by_cases h:0<=fh s
 ·have b:(fh s+1).toNat=(fh s).toNat+1:=by omega
  refine af FC [(12,true)] 100 rfl ?_ (AK.au rfl ?_)
  ·simp[aa,h,aB];omega
  ·simp[aa,aa.cat,fZ,jN,gE,h,nH,b]
 ·refine af FC [(12,false)] 100 rfl ?_ (AK.au rfl ?_)
  ·simp[aa];omega
  ·simp[aa,aa.cat,fZ,jN,gE,h]
def Lm:bH:=λargs σ=>match args,σ with
 |[.e (.one (.c (.str a))),.e (.one (.c (.str [47])))],[]=>some (Ib (fZ a) (jN a) (gE a),[],[])
 |_,_=>none
theorem t204:bU X 204 Lm:=by
 intro args σ res σ' obs h a;unfold Lm at h;split at h
 ·cases h;exact FD _
 ·cases h
def N5:List (Nat×bH):=(204,Lm)::N4
theorem Ju:aO X N5:=aO.cons t204 (FC)
theorem Ln(s:Bs):Ev X 180 [dS s,dS [47]] [] (Ib (fZ s) (jN s) (gE s)) []:=by
 refine Ev.body Tryz.func180 rfl rfl rfl λa=>?_
 refine af Ju [] 100 rfl ab (AK.au rfl ?_);simp[aa,aa.cat]
def Lo:bH:=λargs σ=>match args,σ with
 |[.e (.one (.c (.str a))),.e (.one (.c (.str [47])))],[]=>some (Ib (fZ a) (jN a) (gE a),[],[])
 |_,_=>none
theorem t180:bU X 180 Lo:=by
 intro args σ res σ' obs h a;unfold Lo at h;split at h
 ·cases h;exact Ln _
 ·cases h
def bh(s:Bs):Bool:=decide (s.length=1)&&decide (97<=bd s 0)&&decide (bd s 0<=101)
theorem pG(s:Bs):Ev X 181 [dS s] [] (dB (bh s)) []:=by
 refine Ev.body Tryz.func181 rfl rfl rfl λc=>?_
 by_cases a:s.length=1
 ·by_cases b:97<=bd s 0
  ·refine aF [(5,true),(9,true)] 100 rfl ?_ (AK.au rfl ?_)
   ·simp only[aa,aD];simp[a,bl,b]
   ·show decide (bd s 0<=101)=bh s;simp[bh,a,b]
  ·refine aF [(5,true),(9,false)] 100 rfl ?_ (AK.au rfl ?_)
   ·simp only[aa,a9];simp[a,bl];omega
   ·simp[aa,bh,b]
 ·refine aF [(5,false)] 100 rfl ?_ (AK.au rfl ?_)
  ·simp[aa];omega
  ·simp[aa,bh,a]
def Lp:bH:=λargs σ=>match args,σ with
 |[.e (.one (.c (.str a)))],[]=>some (dB (bh a),[],[])
 |_,_=>none
theorem t181:bU X 181 Lp:=by
 intro args σ res σ' obs h a;unfold Lp at h;split at h
 ·cases h;have _:=a;exact(pG _ ).args (λ_ _ r=>r)
 ·cases h
def N6:List (Nat×bH):=(180,Lo)::(181,Lp)::N5
theorem AP:aO X N6:=aO.cons t180 (aO.cons t181 (Ju))
def cX(s:Bs):Bool:=bh (fZ s)&&(!gE s||bh (jN s))
theorem zh(s:Bs):Ev X 135 [dS s] [] (dB (cX s)) []:=by
 refine Ev.body Tryz.func135 rfl rfl rfl λc=>?_
 cases a:bh (fZ s) with
 |false =>
  refine af AP [(13,false)] 100 rfl ?_ (AK.au rfl ?_)
  ·simp[aa,a]
  ·simp[aa,cX,a]
 |true =>
  cases b:gE s with
  |false =>
   refine af AP [(13,true),(15,false)] 100 rfl ?_ (AK.au rfl ?_)
   ·simp[aa,a,b]
   ·simp[aa,cX,a,b]
  |true =>
   refine af AP [(13,true),(15,true)] 100 rfl ?_ (AK.au rfl ?_)
   ·simp[aa,a,b]
   ·simp[aa,cX,a,b]
def Lq:bH:=λargs σ=>match args,σ with
 |[.e (.one (.c (.str a)))],[]=>some (dB (cX a),[],[])
 |_,_=>none
theorem t135:bU X 135 Lq:=by
 intro args σ res σ' obs h a;unfold Lq at h;split at h
 ·cases h;have _:=a;exact(zh _ ).args (λ_ _ r=>r)
 ·cases h
theorem xm(s:Bs):Ev X 178 [dS s] [] (dB (bn s)) []:=by
 refine Ev.body Tryz.func178 rfl rfl rfl λe=>?_
 have f:=e.str 0 rfl;refine bw rfl ab ?_;refine AK.eg (λi=>i<=s.length/\∀ j,j<i->cW (s.getD j 0)=true) (λi:Nat=>[(0,dS s),(5,dI s.length),(6,dI i)]) (λ_=>[]) (λi=>s.length-i) 0 rfl ?_ rfl ab ⟨by omega,by omega⟩ ?_
 ·simp[aa.cat,aa]
 rintro i ⟨hi,a⟩
 by_cases h:i<s.length
 ·generalize c:s.getD i 0=b
  by_cases k:b.toNat<97
  ·refine aF [(7,true),(12,true)] 100 rfl ?_ (AK.dW (aW.zero rfl ?_))
   ·simp only[aa,gQ,aD,c];omega
   ·rw[aa,gZ h (by rw[c];simp only[cW,nc,a9];omega)]
  ·by_cases g:b.toNat>122
   ·refine aF [(7,true),(12,false),(17,true)] 100 rfl ?_ (AK.dW (aW.zero rfl ?_))
    ·simp only[aa,gQ,aD,a9,c];omega
    ·rw[aa,gZ h (by rw[c];simp only[cW,nc,a9];omega)]
   ·refine aF [(7,true),(12,false),(17,false)] 100 rfl ?_ (AK.cR (i+1) rfl ?_ rfl ab ?_ ?_)
    ·simp only[aa,gQ,aD,a9,c,aB];omega
    ·simp[aa.cat,aa]
    ·refine⟨by omega,λj d=>?_⟩
     rcases dG.1 d with d|rfl
     ·exact a j d
     ·rw[c];simp only[cW,bF,aD];omega
    ·omega
 ·refine aF [(7,false)] 100 rfl (by simp[aa];omega) (AK.leave rfl rfl ?_)
  refine bw rfl ab (AK.au rfl ?_);rw[aa,n6 (λj d=>a j (by omega))]
def Lr:bH:=λargs σ=>match args,σ with
 |[.e (.one (.c (.str a)))],[]=>some (dB (bn a),[],[])
 |_,_=>none
theorem t178:bU X 178 Lr:=by
 intro args σ res σ' obs h a;unfold Lr at h;split at h
 ·cases h;have _:=a;exact(xm _ ).args (λ_ _ r=>r)
 ·cases h
def N7:List (Nat×bH):=(135,Lq)::(178,Lr)::N6
theorem FE:aO X N7:=aO.cons t135 (aO.cons t178 (AP))
theorem rm(s:Bs):Ev X 132 [dS s] [] (dB (dm s)) []:=by
 refine Ev.body Tryz.func132 rfl rfl rfl λb=>?_
 by_cases a:s.length<=40
 ·refine af FE [(5,true)] 100 rfl ?_ (AK.au rfl ?_)
  ·simp[aa];omega
  ·simp[aa,dm,a]
 ·refine af FE [(5,false)] 100 rfl ?_ (AK.au rfl ?_)
  ·simp[aa];omega
  ·simp[aa,dm,a]
def Ls:bH:=λargs σ=>match args,σ with
 |[.e (.one (.c (.str a)))],[]=>some (dB (dm a),[],[])
 |_,_=>none
theorem t132:bU X 132 Ls:=by
 intro args σ res σ' obs h a;unfold Ls at h;split at h
 ·cases h;have _:=a;exact(rm _ ).args (λ_ _ r=>r)
 ·cases h
def iq(s p:Bs):Bool:=decide (p.length<=s.length)&&(s.take p.length==p)
theorem xn(s p:Bs):Ev X 183 [dS s,dS p] [] (dB (iq s p)) []:=by
 refine Ev.body Tryz.func183 rfl rfl rfl λb=>?_
 by_cases a:p.length<=s.length
 ·refine aF [(9,true)] 100 rfl ?_ (AK.au rfl ?_)
  ·simp[aa,a]
  ·simp[aa,iq,a,nH]
 ·refine aF [(9,false)] 100 rfl ?_ (AK.au rfl ?_)
  ·simp[aa];omega
  ·simp[aa,iq,a]
def Lt:bH:=λargs σ=>match args,σ with
 |[.e (.one (.c (.str a))),.e (.one (.c (.str b)))],[]=>some (dB (iq a b),[],[])
 |_,_=>none
theorem t183:bU X 183 Lt:=by
 intro args σ res σ' obs h a;unfold Lt at h;split at h
 ·cases h;have _:=a;exact(xn _ _ ).args (λ_ _ r=>r)
 ·cases h
def N8:List (Nat×bH):=(132,Ls)::(183,Lt)::N7
theorem Jv:aO X N8:=aO.cons t132 (aO.cons t183 (FE))
theorem Cq(s p:Bs):Ev X 138 [dS s,dS p] [] (dB (iq s p)) []:=by
 refine Ev.body Tryz.func138 rfl rfl rfl λa=>?_
 refine af Jv [] 100 rfl ab (AK.au rfl ?_);simp[aa]
def Lu:bH:=λargs σ=>match args,σ with
 |[.e (.one (.c (.str a))),.e (.one (.c (.str b)))],[]=>some (dB (iq a b),[],[])
 |_,_=>none
theorem t138:bU X 138 Lu:=by
 intro args σ res σ' obs h a;unfold Lu at h;split at h
 ·cases h;have _:=a;exact(Cq _ _ ).args (λ_ _ r=>r)
 ·cases h
def N9:List (Nat×bH):=(138,Lu)::N8
theorem Jw:aO X N9:=aO.cons t138 (Jv)
end R1
end Go.AM
