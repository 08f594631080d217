/- Part 3. No condition. -/
import Derived.Test.YthilmklinlalbaaGreatDoorA2
import Derived.Conc.Beside
import Derived.Conc.CrowdRun
import Derived.Conc.WgGenN2
import Derived.Conc.WgGenN3
import Derived.Lib.FrozenHead
import Derived.Lib.UnsafeStr
import Derived.Lib.MakeNoZero
import Derived.Laws.Externs
import Derived.Lib.Builder
import Derived.Maps.RangeRun
import Derived.Lib.Bytealg
set_option linter.all false
set_option maxHeartbeats 8000000
open Go renaming Value → ah
open Option renaming some → aa
open Go renaming Program → aq
open Go renaming TypeId → aj
open Bool renaming true → ab
open Option renaming none → af
open Go renaming Oper → ar
open Go renaming Operand → ak
open Bool renaming false → ae
open Go renaming undef → ai
open Go.World renaming cell? → aU
open Go.Sem renaming events_bind → aK
open Go.Result renaming evThen_ok → aO
open Go renaming execOp → av
open Go renaming World → az
open Go renaming Goroutine → au
open Go renaming stepG → aG
open Go renaming Frame → aR
open List renaming range → bd
open Go renaming FuncId → aH
open Go.MemAct renaming ofEvent → aJ
open Go.Instr renaming sureAddr → bn
open Nat renaming beq → aA
open Nat renaming ble → bw
open Go.Region renaming ready → a9
open Go.Op renaming equalIn → aX
open Go.Proofs.Tryz renaming prog → ag
open Go.Conc renaming stepG_seq → aC
open Go.Conc renaming stepG_region_end → aB
namespace Go.AM.R1
section
open Go.Proofs
variable {X:Cx ag}
def Sa(x:bm)(n:Int):Ev X 212 [YM x,.e (.one (.c (.rp [.int .i64 n])))] [] (dB (x.1==n)) []:=by refine Ev.bQ Tryz.func212 rfl λa=>?_;exact bu rfl aw (AK.bx rfl)
def Sb:dv:=λargs σ=>match args,σ with
 |[.e (.agg [.c (.int .i64 a0),.c (.str a1)]),.e (.one (.c (.rp [.int .i64 n])))],[]=>aa (dB (a0==n),[],[a1=a1])
 |_,_=>af
def t212:eb X 212 Sb:=by
 intro args σ res σ' obs h c;unfold Sb at h;split at h
 .rename_i b a n;cases h;exact Sa (b,a) n
 grind
abbrev KD(n:Int):D:=.e (.one (.c (.fn (.func 212) [] [.rp [.int .i64 n]])))
def An(l:List bm)(n:Int):Int:=match l.findIdx? (λx=>x.1==n)with|some i=>i|none=>-1
def On{t:List bm}{n:Int}{i:Nat}(hi:i<t.length)(h:(t.getD i (0,[])).1=n)(a:∀j,j<i->(t.getD j (0,[])).1≠n):An t n=i:=by
 have:t.findIdx? (λf=>f.1==n)=aa i:=by
  rw[vE];refine⟨hi,?_,λj b=>?_⟩
  .grind
  grind
 rw[An,this]
def HF{t:List bm}{n:Int}(a:∀j,j<t.length->(t.getD j (0,[])).1≠n):An t n=-1:=by
 have:t.findIdx? (λf=>f.1==n)=af:=by grind[List.getElem_of_mem]
 rw[An,this]
def Oo(t:List bm)(n:Int):Ev X 211 [dM.sl t,KD n] [] (dI (An t n)) []:=by
 refine Ev.bQ Tryz.func211 rfl λe=>?_;have c:=e.sl 0 rfl;have b:bF X [(212,Sb)]:=.cons t212 .nil;refine cg b rfl aw ?_;refine AK.j0 (λi=>i<=t.length/\∀j,j<i->(t.getD j (0,[])).1≠n) (λi:Nat=>[(0,dM.sl t),(1,KD n),(7,dI t.length),(8,dI i)]) (λ_=>[]) (λi=>t.length-i) 0 rfl ?_ rfl aw ⟨by omega,by omega⟩ ?_
 .simp
 rintro i ⟨hi,a⟩;by_cases h:i<t.length
 .by_cases d:(t.getD i (0,[])).1=n
  .refine aV b [(9,ab),(16,ab)] rfl ?_ (AK.iC (cw.zero rfl ?_))
   .simp only[ay,cd];grind
   .simp[On h d a]
  .refine aV b [(9,ab),(16,ae)] rfl ?_ (AK.gj (i+1) rfl ?_ rfl aw ?_ ?_)
   .simp only[ay,cd];exact⟨by simp only[bA];omega,aw,eD.2 d,by omega,by omega,dc (by omega)⟩
   .simp
   .grind
   .omega
 .refine aV b [(9,ae)] rfl (by simp;omega) (AK.leave rfl rfl ?_);refine cg b rfl aw (AK.bx rfl ?_);simp[HF (λj f=>a j (by omega))]
def Sc:dv:=λargs σ=>match args,σ with
 |[d,.e (.one (.c (.fn (.func 212) [] [.rp [.int .i64 n]])))],[]=>match kY 2 d with
  |none=>af
  |some (m,es)=>aa (dI (An (dM.list m es) n),[],[dM.fits m es])
 |_,_=>af
def t211:eb X 211 Sc:=by
 intro args σ res σ' obs h a;unfold Sc at h;split at h
 .rename_i d n;split at h
  .cases h
  rename_i m es hd;cases h;exact(Oo _ n).args (λ_ vs=>ck.imp (λ_=>dM.jR hd a) (ck.imp (λ_ r=>r) (λ_ r=>r)) vs)
 grind
def Ew(t:List bm)(n:Int):(An t n=-1/\t.find? (λx=>x.1==n)=af)∨∃i:Nat,i<t.length/\An t n=i/\t.find? (λx=>x.1==n)=aa (t.getD i (0,[])):=by unfold An;grind[List.findIdx?_eq_some_iff_getElem,List.find?_eq_some_iff_getElem]
def Ex(a:eb X 126 nC)(k:Int)(p:bH)(n:Int)(hk:b6 k=ab):Ev X 179 [dI k,HG p,dI n] [] (Am (eh k p n)) []:=by
 refine Ev.bQ Tryz.func179 rfl λg=>?_;have f:bF X [(211,Sc),(150,oX TU aI (λx k=>Am (chunk k x)) λ_ k=>[b6 k=ab])]:=.cons t211 (.cons (KC a) .nil);have d:dM.list p.2.length (dM.fn p.2)=p.2:=dM.list_fn _;refine qG [] 7 rfl aw ?_;refine AK.freeze 5 1 rfl rfl rfl ?_;rcases Ew p.2 n with⟨b,c⟩|⟨i,hi,b,c⟩
 .refine aV f [(14,ab)] rfl ?_ (AK.bx rfl ?_)
  .simp only[ay,d,b];exact⟨rfl,dM.aM _⟩
  .simp[eh,c]
 .refine aV f [(14,ae)] rfl ?_ (AK.bx rfl ?_)
  .simp only[ay,d,b];exact⟨hk,by omega,by omega,iP (by omega),dM.aM _⟩
  .have e:eh k p n=chunk k (p.2.getD i (0,[])):=by simp only[eh,c]
   rw[e,d,b];simp only[cd];exact ay.cat.2 ⟨rfl,ay.cat.2 ⟨rfl,aw⟩⟩
def Sd(a:eb X 126 nC):eb X 179 (Et aI (Ey dM) aI (λk p n=>Am (eh k p n)) λk _ _=>[b6 k=ab]):=.KA λk p n h=>Ex a k p n h
end
end Go.AM.R1
namespace Go.AM
section
open Go.Conc
def gM(s:St):Prop:=∀b o v,s.M b o=aa v->s.w.cell? ⟨b,o,af⟩=aa v
def lV(c:Nat->Prop):Go.Loc->Prop
  | .cell a=>c a.block
  | .obj r=>c r
  | _=>False
structure Clear(c:Nat->Prop)(s:St):Prop where
  own:∀b,c b->¬s.own b
  β:∀b,c b->∀L∈s.β,b∉L.bs
  M:∀b,c b->∀o,s.M b o=af
  lt:∀b,c b->b<s.w.heap.size
section
variable {c:Nat->Prop}{s s':St}
def Clear.step{σ σ':List aP}(h:Clear c s)(st:Step σ s σ' s'):Clear c s':=by
  refine⟨λb a=>by rw[st.own];exact h.own b a,λb a L e d=>?_,λb a o=>by rw[st.iU b (h.lt b a) (h.β b a)];exact h.M b a o,λb a=>cW (h.lt b a) st.size⟩;rcases st.vb L e b d with h1|⟨f,g,h1⟩
  · exact absurd (h.lt b a) (mm.2 h1)
  · exact h.β b a f g h1
theorem Clear.ghost(h:Clear c s)(k:eu s s'):Clear c s':=by
  have f:∀b,c b->¬(s'.own b∨∃L∈s'.β,b∈L.bs):=λb a e=>by
    rcases k.blk b e with e|⟨L,d,e⟩
    · exact h.own b a e
    · exact h.β b a L d e
  exact⟨λb a e=>f b a (.inl e),λb a L d e=>f b a (.inr ⟨L,d,e⟩),λb a o=>by rw[k.iU b (h.β b a)];exact h.M b a o,λb a=>by rw[k.w];exact h.lt b a⟩
def Clear.forget(h:Clear c s)(k:mW s s'):Clear c s':=by
  refine⟨λb a=>by rw[k.own];exact h.own b a,λb a=>by rw[k.β];exact h.β b a,λb a o=>?_,λb a=>by rw[k.w];exact h.lt b a⟩;cases e:s'.M b o with
  | none=>rfl
  | some v=>rw[<-k.less b o v e,h.M b a o]
def Clear.at(h:Clear c s)(d:Nat):Clear c {s with w:=s.w.at d}:=⟨h.own,h.β,h.M,h.lt⟩
def gM.at(h:gM s)(d:Nat):gM {s with w:=s.w.at d}:=h
theorem gM.ghost(k:eu s s'):gM s':=λb o v a=>by rw[k.w];exact k.cell b o v a
def gM.forget(h:gM s)(k:mW s s'):gM s':=λb o v a=>by rw[k.w];exact h b o v (k.less b o v a)
def gM.lt(h:gM s){b o:Nat}{v:ah}(a:s.M b o=aa v):b<s.w.heap.size:=by
  have:=h b o v a;rcases cG b s.w.heap.size with h1|h1
  · exact h1
  · simp[aU,zl h1]at this
def cp.at(h:gM s)(d:Nat):cp s {s with w:=s.w.at d}:=⟨rfl,rfl,rfl,bg _,λ_ _=>rfl,h,rfl,rfl,rfl⟩
def Q1{σ:List aP}{e:Event}(k:aE σ s)(l:Clear c s)(g:oh s e){B:Nat}(hB:s.w.heap.size<=B):EvL (lV c) B e:=by
  obtain⟨n,wr,p⟩:=e;cases n with
  | cell a =>
    obtain⟨i,j,b⟩:=g;simp only at i j b;subst i;have key:¬c a.block/\a.block<s.w.heap.size:=by
      rcases b with b|⟨⟨L,h,b⟩,_⟩|⟨_,v,b⟩
      · exact b.elim
      · exact⟨λx=>l.β _ x L h b,k.lt L h _ b⟩
      · refine⟨λx=>?_,gM.lt k.mem b⟩
        rw[l.M _ x]at b;cases b
    exact evL_cell a wr key.1 (cW key.2 hB)
  | obj r =>
    obtain⟨i,j⟩:=g;simp only at i j;subst i;obtain⟨L,h,b⟩:=j.resolve_left id;refine⟨λx d o=>?_,by simp,by simp,?_⟩
    · simp[aJ,MemAct.touch?]at d
      subst d;exact absurd b (l.β _ o L h)
    · simp[aJ,MemAct.low,Loc.low]
      exact cW (k.lt L h _ b) hB
  | mark m =>
    simp only[oh]at g;rcases g with rfl|⟨f,rfl⟩
    · exact⟨λx d=>by simp[aJ,MemAct.touch?]at d,by simp,by simp,by simp[aJ,MemAct.low]⟩
    · exact⟨λx d=>by simp[aJ,MemAct.touch?]at d,by simp,by simp,by simp[aJ,MemAct.low]⟩
  | _=>exact g.elim
end
def rV(t:Trace):Prop:=∀a,NoRelease a t
def rV.app{t:Trace}(h:rV t){g:Nat}{fn:aH}{pos:String}{es:Array Event}(b:∀e∈es,∀a,e.loc≠.mark (.release a)):rV (t++MemOp.ofEvents g fn pos es) :=
  λa=>(h a).app λop mo hx=>by grind[Go.Conc.mem_ofEvents,Go.ConcR.loc_of_ofEvent]
def DF{s:St}{e:Event}(d:oh s e)(a:Addr):e.loc≠.mark (.release a):=by intro b;obtain⟨loc,wr,g⟩:=e;simp only at b;subst b;rcases d with h|⟨f,h⟩<;>cases h
def vH{e:Event}(d:e.mute=ab)(a:Addr):e.loc≠.mark (.release a):=by intro b;obtain⟨loc,wr,f⟩:=e;simp only at b;subst b;simp[Event.mute]at d
def Uf(P:aq)(g:au)(s:St)(T:au->St->Prop):Prop :=
  ∀(c:Nat->Prop) (gs:Array au) (sl:Option (Nat×Nat)) (t:Trace) (q:Nat->Nat),gM s->gs[0]?=aa g->Leavers P t gs q->Past (lV c) s.w.heap.size t->Clear c s->rV t ->
    ∃(N:Nat) (b:Nat->Prop) (a:Array au) (g':au) (s':St) (e:Option (Nat×Nat)) (d:Trace) (f:Nat->Nat),
      runNT P N (crowd gs s.w sl) t=(.next (crowd a s'.w e),d)/\gM s'/\a[0]?=aa g'/\Leavers P d a f/\Past (lV b) s'.w.heap.size d/\Clear b s'/\rV d/\T g' s'
def Cx.beside(P:aq):Cx P:={main:=ab,rely:=λs s'=>cp s s'/\∃d,s'={s with w:=s.w.at d},xS:=Uf P,iv:=λh=>h.1,Bh:=True}
instance (P:aq):(Cx.beside P).gZ:=⟨aw⟩
theorem runNT_add{P:aq}:∀(N M:Nat) {m b:Machine} {t a:Trace},runNT P N m t=(.next b,a)->runNT P (N+M) m t=runNT P M b a
  | 0,M,m,b,t,a,h=>by simp[runNT]at h;grind
  | N+1,M,m,b,t,a,h=>by
    rw[show N+1+M=(N+M)+1 by omega];simp only[runNT]at h⊢;cases d:stepT P m with
    | mk r ops =>
      rw[d]at h;cases r with
      | next m1=>exact runNT_add N M h
      | ended o w=>grind
def fE.beside{P:aq}{S:au->St->Prop}{g:au}{s:St}(h:fE (Cx.beside P) S g s):Uf P g s S:=by
  induction h with
  | stop h=>intro c gs sl t q C r m u p F;exact⟨0,c,gs,_,_,sl,t,q,rfl,C,r,m,u,p,F,h⟩
  | ghost hg _ I =>
    intro c gs sl t q C r m u p F;have:=I c gs sl t q (.ghost hg) r m (by rw[hg.w];exact u) (p.ghost hg) F
    rwa [hg.w]at this
  | forget _ hg _ I =>
    intro c gs sl t q C r m u p F;have:=I c gs sl t q (C.forget hg) r m (by rw[hg.w];exact u) (p.forget hg) F
    rwa [hg.w]at this
  | xS hj _ I =>
    intro c gs sl t q C r m u p F;obtain⟨N,l,b,g',s',f,D,L,h1,h2,h3,h4,h5,h6,h6n,h7⟩:=hj c gs sl t q C r m u p F;obtain⟨M,Sh2,gs2,g2,s2,sl2,t2,q2,k1,R⟩:=I g' s' h7 l b f D L h2 h3 h4 h5 h6 h6n;exact⟨N+M,Sh2,gs2,g2,s2,sl2,t2,q2,by grind[runNT_add],R⟩
  | @step g s Y ns ne hr h1 h2 _ I =>
    intro c gs sl t q;have key:∀(n:Nat) (gs:Array au) (d:Nat) (sl:Option (Nat×Nat)) (t:Trace) (q:Nat->Nat),Go.ConcN.sumTo gs.size q<=n->gM s->gs[0]?=aa g->Leavers P t gs q->Past (lV c) s.w.heap.size t->Clear c s->rV t ->
        ∃(N:Nat) (l:Nat->Prop) (b:Array au) (g':au) (s':St) (f:Option (Nat×Nat)) (D:Trace) (L:Nat->Nat),
          runNT P N (crowd gs (s.w.at d) sl) t=(.next (crowd b s'.w f),D)/\gM s'/\b[0]?=aa g'/\Leavers P D b L/\Past (lV l) s'.w.heap.size D/\Clear l s'/\rV D/\S g' s':=by
      intro n;induction n with
      | zero=>?_
      | succ n Z=>?_
      all_goals
        intro gs d sl t q F C r m u p E;have haw:∀g∈gs,awake g:=by
          intro x hx;obtain⟨i,hi,rfl⟩:=Array.mem_iff_getElem.1 hx;rcases mT i with rfl|B
          · grind[awake_of]
          · exact awake_of ((m.old i _ B (fY hi)).status.elim .inl λx=>.inr (.inr x))
        obtain⟨i,x,d2,f,hi,hg,K⟩:=crowd_pick (P:=P) (w:=s.w.at d) (sl:=sl) haw ⟨0,g,r,hr⟩;rw[show(s.w.at d).at d2=s.w.at d2 from rfl]at K;rcases mT i with rfl|B
        · obtain rfl:x=g:=by grind
          have A:(Cx.beside P).rely s {s with w:=s.w.at d2}:=⟨cp.at C d2,d2,rfl⟩;have hgo:=h1 _ A;obtain⟨⟨σ,σ',hh,iX,st⟩,W⟩:=h2 _ A;have o:=runT_crowd_go (P:=P) (sl:=f) (i:=0) hi (show aG P (0==0) x (s.w.at d2)=_ from hgo)
          have DG:((gs.map (woken P x (Y {s with w:=s.w.at d2}) (ns {s with w:=s.w.at d2}).w)).setIfInBounds 0 (Y {s with w:=s.w.at d2})).size=gs.size:=by simp
          have Q:0<gs.size:=(ig.1 r).1;have O:Clear c {s with w:=s.w.at d2}:=p.at d2;obtain⟨N,l,b,g',s',v,D,L,k1,R⟩:=I _ A c ((gs.map (woken P x (Y {s with w:=s.w.at d2}) (ns {s with w:=s.w.at d2}).w)).setIfInBounds 0 (Y {s with w:=s.w.at d2})) f
            (t++MemOp.ofEvents 0 x.frame.fn x.frame.place (ne {s with w:=s.w.at d2})) q iX.mem (by grind)
            ⟨λj y hj hy=>by
              have Bi:0≠j:=by omega
              rw[vF Bi,Array.getElem?_map]at hy;obtain⟨z,hz,rfl⟩:=qT.1 hy;have J:=m.old j z hj hz;rw[woken_quitsD J,Deaf_other t (by omega) _ (λop mo=>by grind[Go.Conc.mem_ofEvents])];exact J,λj hj=>by
              rw[Deaf_other t (g':=0) (by grind) _ (λop mo=>by grind[Go.Conc.mem_ofEvents])]
              exact m.above j (by grind)⟩
            ((u.mono st.size).own λe U=>Q1 hh O (W e U) st.size) (O.step st) (E.app λe U a=>DF (W e U) a)
          exact⟨N+1,l,b,g',s',v,D,L,by simp only[runNT,K,o];exact k1,R⟩
        · have J:=m.old i x B hi
          have Xz:(i==0)=ae:=by grind
          have Q:i<gs.size:=(ig.1 hi).1;cases G:q i with
          | zero=>rw[G]at J;rw[J.1]at hg;cases hg
          | succ k =>
            rw[G]at J;rcases J with⟨hf,_⟩|⟨_,g',es,T,V,hq'⟩
            · grind
            have abw:Go.ConcN.sumTo gs.size (Go.ConcN.upd q i k)+(k+1)=Go.ConcN.sumTo gs.size q+k:=by have:=Go.ConcN.sumTo_upd q k id Q;simpa[G]using this
            first
            | (exfalso;omega)
            | (have o:=runT_crowd_go (P:=P) (sl:=f) (i:=i) hi (by rw[Xz];exact V (s.w.at d2))
               have DG:((gs.map (woken P x g' (s.w.at d2))).setIfInBounds i g').size=gs.size:=by simp
               obtain⟨N,l,b,g2,s',v,D,L,k1,R⟩:=Z ((gs.map (woken P x g' (s.w.at d2))).setIfInBounds i g') d2 f (t++MemOp.ofEvents i x.frame.fn x.frame.place es) (Go.ConcN.upd q i k) (by grind) C
                (by grind[woken_run])
                ⟨λj y hj hy=>by
                  by_cases H:i=j
                  · grind[Go.ConcN.upd_same,Deaf_own]
                  · rw[vF H,Array.getElem?_map]at hy
                    obtain⟨z,hz,rfl⟩:=qT.1 hy;have X:=m.old j z hj hz;rw[woken_quitsD X,Go.ConcN.upd_ne q k (Ne.symm H),Deaf_other t H _ (λop mo=>by grind[Go.Conc.mem_ofEvents])];exact X,λj hj=>by
                  rw[Deaf_other t (g':=i) (by grind) _ (λop mo=>by grind[Go.Conc.mem_ofEvents])]
                  exact m.above j (by grind)⟩
                (u.mute (by omega) T) p (E.app λe U a=>vH (T e U) a)
               exact⟨N+1,l,b,g2,s',v,D,L,by simp only[runNT,K,o];exact k1,R⟩)
    intro C r m u p E;have:=key _ gs s.w.drawn sl t q (bg _) C r m u p E
    rwa [show s.w.at s.w.drawn=s.w from rfl]at this
inductive Rk where
 |leaf
 |node (f:St->Rk)
def Rk.lt:Rk->Rk->Prop
 |_,.leaf=>False
 |x,.node f=>∃s,x=f s∨Rk.lt x (f s)
def Rk.acc:∀r:Rk,Acc Rk.lt r
 |.leaf=>⟨_,λ_ h=>h.elim⟩
 |.node f=>⟨_,λ_ ⟨s,e⟩=>e.elim (λe=>e▸Rk.acc (f s)) λh=>(Rk.acc (f s)).inv h⟩
def Rk.nat:Nat->Rk
 |0=>.leaf
 |n+1=>.node λ_=>Rk.nat n
def Rk.DX(n:Nat)(s:St):Rk.lt (Rk.nat n) (Rk.nat (n+1)):=⟨s,.inl rfl⟩
def Vec(j:Nat)(a D:Nat->Rk):Prop:=∃i,i<j/\Rk.lt (a i) (D i)/\∀k,k≠i->a k=D k
def JG:∀j,WellFounded (Vec j)
 |0=>⟨λ_=>⟨_,λ_ ⟨i,h,_⟩=>absurd h (fQ i)⟩⟩
 |j+1=>by
  have g:=JG j;have key:∀a:Rk,∀D:Nat->Rk,D j=a->Acc (Vec (j+1)) D:=by
   intro a;induction Rk.acc a with
   |intro a _ k =>
    intro D;induction g.apply D with
    |intro D _ b =>
     intro l;refine⟨_,λf h=>?_⟩;obtain⟨i,hi,d,hk⟩:=h;rcases cG i j with e|e
     .exact b f ⟨i,e,d,hk⟩ (by grind)
     grind
  exact⟨λD=>key _ D rfl⟩
section
variable {P:aq}
def ko(X:Cx P)(E:St->St->Array Event->Prop)(S:au->St->Prop):Rk->au->St->Prop
 |.leaf,g,s=>S g s
 |.node f,g,s=>S g s∨(∃s',(eu s s'∨(X.Bh/\mW s s'))/\ko X E S (f s) g s') ∨
   (g.status=.running/\∀a,X.rely s a->∃g' s' es,aG P X.main g a.w=.go g' s'.w es/\(qW a s' es∨E a s' es)/\ko X E S (f a) g' s')
variable {X:Cx P}{E:St->St->Array Event->Prop}{S c:au->St->Prop}
def en(X:Cx P)(E:St->St->Array Event->Prop)(S:au->St->Prop)(g:au)(s:St):Prop:=∃r,ko X E S r g s
theorem en.ghost{g:au}{s s':St}(h:eu s s')(k:en X E S g s'):en X E S g s:=by obtain⟨r,k⟩:=k;exact⟨.node λ_=>r,.inr (.inl ⟨s',.inl h,k⟩)⟩
def en.forget{g:au}{s s':St}(hl:X.Bh)(h:mW s s')(k:en X E S g s'):en X E S g s:=by obtain⟨r,k⟩:=k;exact⟨.node λ_=>r,.inr (.inl ⟨s',.inr ⟨hl,h⟩,k⟩)⟩
def en.step{g:au}{s:St}(e:g.status=.running)(h:∀a,X.rely s a->∃g' s' es,aG P X.main g a.w=.go g' s'.w es/\(qW a s' es∨E a s' es)/\en X E S g' s'):en X E S g s:=by
 classical
 have hh:∀a,∃r:Rk,X.rely s a->∃g' s' es,aG P X.main g a.w=.go g' s'.w es/\(qW a s' es∨E a s' es)/\ko X E S r g' s':=by
  intro a;by_cases b:X.rely s a
  .obtain⟨g',s',es,h1,h2,r,d⟩:=h a b;exact⟨r,λ_=>⟨g',s',es,h1,h2,d⟩⟩
  .exact⟨.leaf,λh=>absurd h b⟩
 exact⟨.node λa=>Classical.choose (hh a),.inr (.inr ⟨e,λa b=>Classical.choose_spec (hh a) b⟩)⟩
def en.bind{g:au}{s:St}(h:en X E S g s)(k:∀g s,S g s->en X E c g s):en X E c g s:=by
 obtain⟨r,h⟩:=h;induction r generalizing g s with
 |leaf=>exact k g s h
 |node f a =>
  rcases h with h|⟨s',h1,h2⟩|⟨b,h⟩
  .grind
  .rcases h1 with h1|⟨hl,h1⟩
   .exact .ghost h1 (a _ h2)
   .exact .forget hl h1 (a _ h2)
  .exact .step b λe d=>by grind
def fE.toE{g:au}{s:St}(hj:∀g s T,¬X.xS g s T)(h:fE X S g s):en X E S g s:=by
 induction h with
 |stop h=>exact⟨.leaf,h⟩
 |step ng ns ne hr h1 h2 _ a=>exact .step hr λd b=>⟨_,_,_,h1 d b,.inl (h2 d b),a d b⟩
 |ghost hg _ a=>exact .ghost hg a
 |forget hl hg _ a=>exact .forget hl hg a
 |xS hjj _ _=>grind
def ko.norm(I:St->Prop)(l:∀s s',eu s s'->I s->I s')(m:X.Bh->∀s s',mW s s'->I s->I s'):∀{r:Rk}{g:au}{s:St},ko X E S r g s->I s ->
  (∃s',I s'/\S g s')∨(g.status=.running/\∃s',I s'/\∀a,X.rely s' a->∃g' s2 es r',aG P X.main g a.w=.go g' s2.w es/\(qW a s2 es∨E a s2 es)/\ko X E S r' g' s2/\Rk.lt r' r)
 |.leaf,_,s,h,hi=>.inl ⟨s,hi,h⟩
 |.node f,g,s,h,hi=>by
  rcases h with h|⟨s',h1,h2⟩|⟨n,h⟩
  .grind
  .have d:I s':=h1.elim (λx=>l s s' x hi) λx=>m x.1 s s' x.2 hi;rcases ko.norm I l m h2 d with k|⟨k,s2,p,q⟩
   .grind
   .refine .inr ⟨k,s2,p,λa e=>?_⟩;obtain⟨g',j,es,r',k1,i,b,o⟩:=q a e;exact⟨g',j,es,r',k1,i,b,s,.inr o⟩
  .refine .inr ⟨n,s,hi,λa e=>?_⟩;obtain⟨g',j,es,k1,i,b⟩:=h a e;exact⟨g',j,es,f a,k1,i,b,a,.inl rfl⟩
def en.goes{R:az->az->Prop}{D:az->az->Array Event->Prop}{Stop:au->az->Prop}(I:St->Prop)(m:∀s a,I s->X.rely s a->I a)(f:∀s a,I s->X.rely s a->R s.w a.w)(i:∀s es,I s->∀w',D s.w w' es->w'=s.w/\(qW s s es∨E s s es))(j:∀s,I s->X.rely s s)(k:∀g s,I s->Stop g s.w->en X E S g s):
  ∀(n:Nat) (g:au) (s:St),I s->Goes P X.main R D Stop n g s.w->en X E S g s
 |0,g,s,hi,h=>k g s hi (h s.w (f s s hi (j s hi)))
 |n+1,g,s,hi,h=>by
  rcases h with h|⟨o,h⟩
  .grind
  .refine .step o λa l=>?_;have h1:=h a.w (f s a hi l);have b:=m s a hi l;cases d:aG P X.main g a.w with
   |go g' w' es =>
    rw[d,goes_go]at h1;obtain⟨q,p⟩:=h1;obtain⟨rfl,e⟩:=i a es b w' q;exact⟨g',a,es,rfl,e,en.goes I m f i j k n g' a b p⟩
   |_=>rw[d]at h1;exact h1.elim
end
theorem cp.ghost{s s':St}{w:az}(h:cp s {s with w:=w})(k:eu s s'):cp s' {s' with w:=w}:=by
 refine⟨rfl,rfl,rfl,by rw[k.w];exact h.size,λb a=>by rw[k.w];exact h.fi b (k.blk b a),λb o v e=>?_,by rw[k.w];exact h.os,by rw[k.w];exact h.tape,by rw[k.w];exact h.output⟩;have f:=k.cell b o v e;by_cases a:∃L∈s.β,b∈L.bs
 .have:=h.fi b (.inr a);simp only[aU]at f⊢;grind
 .have:s.M b o=aa v:=by rw[<-k.iU b (λL g d=>a ⟨L,g,d⟩)];exact e
  exact h.mem b o v this
def cp.forget{s s':St}{w:az}(h:cp s {s with w:=w})(k:mW s s'):cp s' {s' with w:=w} :=
 ⟨rfl,rfl,rfl,by rw[k.w];exact h.size,λb d=>by rw[k.w];exact h.fi b (by rw[<-k.own,<-k.β];exact d),λb o v a=>h.mem b o v (k.less b o v a),by rw[k.w];exact h.os,by rw[k.w];exact h.tape,by rw[k.w];exact h.output⟩
def cp.wB{s:St}(h:gM s):cp s s:=⟨rfl,rfl,rfl,bg _,λ_ _=>rfl,h,rfl,rfl,rfl⟩
def cp.trans'{s:St}{w:az}(h:cp s {s with w:=w}):cp {s with w:=w} {s with w:=w}:=cp.wB h.mem
def cp.trans{s a s2:St}(h:cp s a)(k:cp a s2):cp s s2 :=
 ⟨k.β.trans h.β,k.M.trans h.M,k.own.trans h.own,im h.size k.size,λb d=>by rw[k.fi b (by rw[h.own,h.β];exact d),h.fi b d],λb o v e=>k.mem b o v (by rw[h.M];exact e),k.os.trans h.os,k.tape.trans h.tape,k.output.trans h.output⟩
end
section
open Go.Conc
open Go.ConcN (fork_knows RelBy)
open Go.ConcR (stA smA)
def lY:Go.Loc->Option Nat
 |.cell a=>aa a.block
 |.obj r=>aa r
 |_=>af
def BG{l:Go.Loc}(h:l.isMemory=ab):∃b,lY l=aa b:=by cases l<;>simp[Go.Loc.isMemory]at h<;>exact⟨_,rfl⟩
def Hm{x:MemAct}{a:Touch}{B b:Nat}(h:x.touch?=aa a)(g:x.low B)(c:lY a.loc=aa b):b<B:=by
 cases x with
 |access e =>
  simp[MemAct.touch?]at h;subst h;simp only at c;obtain⟨loc,wr,i⟩:=e;cases loc<;>simp[lY]at c<;>subst c<;>exact g
 |mark m =>
  cases m<;>simp[MemAct.touch?]at h<;>subst h<;>simp[lY]at c<;>subst c<;>exact g
 |_=>simp[MemAct.touch?]at h
structure Lay where
 Sh:Nat->Prop
 T0:Nat
 Wg:Nat
 C:Nat
 base:Nat
 kc:Nat
def si(Y:Lay)(d:Nat->Nat)(a:Touch):Prop :=
 (∃ad,a.loc=.cell ad/\ad.block=Y.Wg/\a.kind≠.plain)∨(∃b,lY a.loc=aa b/\d b=0/\b≠Y.Wg/\b≠Y.C/\¬Y.Sh b/\a.kind=.plain)
def qL(Y:Lay)(d:Nat->Nat)(f:Mem)(x:Nat)(a:Touch):Prop :=
 (∃ad,a.loc=.cell ad/\ad.block=Y.Wg/\a.kind=.atomic) ∨
 (a.kind=.plain/\((∃b,lY a.loc=aa b/\d b=Y.base+x)∨(∃o,a.loc=.cell ⟨Y.C,o,af⟩/\Y.kc*x<=o/\o<Y.kc*x+Y.kc)∨(a.write=ae/\∃b o v,a.loc=.cell ⟨b,o,af⟩/\f b o=aa v)))
structure TL(Y:Lay)(d:Nat->Nat)(f:Nat->Mem)(t:Trace)(j B:Nat):Prop where
 base:1<=Y.base
 IS:d Y.Wg=0
 hC:d Y.C=0
 ne:Y.C≠Y.Wg
 P0:¬Y.Sh Y.Wg
 RB:¬Y.Sh Y.C
 IT:∀b,Y.Sh b->d b=0
 ms:∀x,x<j->∀b o v,f x b o=aa v->d b=0/\b≠Y.C/\b≠Y.Wg/\¬Y.Sh b
 T0:Y.T0<=t.size
 nr:∀said,¬Race said t
 seen:∀op∈t,op.act.low B
 old:∀i a,i<Y.T0->touchAt t i=aa a->a.loc.isMemory=ab->Knows t 0 i∨(lV Y.Sh a.loc/\a.kind=.atomic)
 RD:∀x,x<j->∀i a,i<Y.T0->touchAt t i=aa a->a.loc.isMemory=ab->Knows t (Y.base+x) i∨(lV Y.Sh a.loc/\a.kind=.atomic)
 Hn:∀i a b,i<Y.T0->touchAt t i=aa a->lY a.loc=aa b->d b=0
 new:∀i a,Y.T0<=i->touchAt t i=aa a->a.loc.isMemory=ab->(t.g? i=aa 0/\si Y d a)∨(∃x,x<j/\t.g? i=aa (Y.base+x)/\qL Y d (f x) x a)
 mw:∀x,x<j->∀i a,Y.T0<=i->touchAt t i=aa a->t.g? i=aa 0->a.write=ab->∀b o v,a.loc=.cell ⟨b,o,af⟩->f x b o=aa v->Knows t (Y.base+x) i
 over:∀i g,i<Y.T0->t.g? i=aa g->g≠0->t.counts i->∃k,t.g? k=aa 0/\HappensBefore t i k
section
variable {Y:Lay}{d hm':Nat->Nat}{f:Nat->Mem}{t u:Trace}{j B B':Nat}
theorem vm{i:Nat}{a:Touch}{g:Nat}(h:touchAt t i=aa a)(b:t.g? i=aa g):Knows t g i:=by
 obtain⟨x,c,_⟩:=touch_of h;have:x.g=g:=by simpa[Trace.g?,c]using b
 grind[knows_own]
def TL.low(h:TL Y d f t j B){i:Nat}{a:Touch}{b:Nat}(k:touchAt t i=aa a)(e:lY a.loc=aa b):b<B:=by obtain⟨x,g,c⟩:=touch_of k;exact Hm c (h.seen x (uZ g)) e
def TL.tn(h:TL Y d f t j B)(hh:∀b,b<B->hm' b=d b)(hB:B<=B')(r:Y.Wg<B)(hC:Y.C<B)(s:∀b,Y.Sh b->b<B)(q:∀x,x<j->∀b o v,f x b o=aa v->b<B):TL Y hm' f t j B':=by
 have g:∀i a,touchAt t i=aa a->si Y d a->si Y hm' a:=λi a c h1=>by
  rcases h1 with h1|⟨b,h1,h2,l⟩
  .exact .inl h1
  .exact .inr ⟨b,h1,by rw[hh b (h.low c h1)];exact h2,l⟩
 have k:∀x i a,touchAt t i=aa a->qL Y d (f x) x a->qL Y hm' (f x) x a:=λx i a c h1=>by
  rcases h1 with h1|⟨n,⟨b,h1,h2⟩|h1⟩
  .exact .inl h1
  .exact .inr ⟨n,.inl ⟨b,h1,by rw[hh b (h.low c h1)];exact h2⟩⟩
  .exact .inr ⟨n,.inr h1⟩
 refine⟨h.base,by rw[hh _ r];exact h.IS,by rw[hh _ hC];exact h.hC,h.ne,h.P0,h.RB,λb e=>by rw[hh b (s b e)];exact h.IT b e,λx p b o v m=>by rw[hh b (q x p b o v m)];exact h.ms x p b o v m,
  h.T0,h.nr,λop mo=>MemAct.low_mono hB (h.seen op mo),h.old,h.RD,λi a b hi c e=>by rw[hh b (h.low c e)];exact h.Hn i a b hi c e,λi a hi c d=>?_,h.mw,h.over⟩
 rcases h.new i a hi c d with⟨h1,h2⟩|⟨x,h1,h2,l⟩
 .grind
 grind
def TL.NN(h:TL Y d f t j B):Y.T0<=(t++u).size:=im h.T0 (by simp)
theorem kD{i:Nat}(h:i<t.size):(t++u).g? i=t.g? i:=by simp[Trace.g?,getElem?_append_old h]
def TL.sj(h:TL Y d f t j B)(u:Trace):∀i g,i<Y.T0->(t++u).g? i=aa g->g≠0->(t++u).counts i->∃k,(t++u).g? k=aa 0/\HappensBefore (t++u) i k:=by
 intro i g hi hg Bi hc;have a:=cW hi h.T0;rw[kD a]at hg;obtain⟨k,hk,c⟩:=h.over i g hi hg Bi ((counts_old a).1 hc);have b:k<t.size:=by unfold Trace.g? at hk;grind
 exact⟨k,by grind[kD],hb_app u c⟩
def BH{a:Nat->Prop}{l:Go.Loc}{b:Nat}(h:lV a l)(c:lY l=aa b):a b:=by cases l<;>simp[lY]at c<;>subst c<;>exact h
def TL.apart(h:TL Y d f t j B){x:Nat}(r:x<j){a b:Touch}{said:Bool}(hT:si Y d b)(m:qL Y d (f x) x a)(hl:a.loc=b.loc)(hk:a.kind=.plain∨b.kind=.plain∨(said=ab/\a.kind=.said/\b.kind=.said))(E:b.kind=.plain->b.write=ab->∀l o v,b.loc=.cell ⟨l,o,af⟩->f x l o≠aa v)(p:a.write=ab∨b.write=ab):False:=by
 have s:=h.base;rcases m with⟨ad,e1,e2,e3⟩|⟨A,⟨c,e1,e2⟩|⟨o,e1,_⟩|⟨e1,l,o,v,e2,e3⟩⟩
 .rcases hT with⟨i,e,g,k⟩|⟨c,e,g,k,_⟩
  .grind
  .rw[<-hl,e1]at e;simp only[lY,dr]at e;grind
 .rcases hT with⟨i,e,g,k⟩|⟨n,e,g,k,_⟩
  .rw[hl,e]at e1;simp only[lY,dr]at e1;rw[<-e1,g,h.IS]at e2;omega
  grind
 .rcases hT with⟨i,e,g,k⟩|⟨n,e,g,k,q,_⟩
  .rw[<-hl,e1]at e;cases e;exact h.ne g
  .rw[<-hl,e1]at e;simp only[lY,dr]at e;grind
 .obtain⟨C,z,w,y⟩:=h.ms x r l o v e3;rcases hT with⟨i,e,g,k⟩|⟨n,e,g,k,q,_,D⟩
  .grind
  grind
def TL.app0(h:TL Y d f t j B)(F:∀op∈u,op.g=0)(hl:∀op∈u,op.act.low B)(G:∀op∈u,∀a,op.act.touch?=aa a->a.loc.isMemory=ab->si Y d a)(K:∀op∈u,∀a,op.act.touch?=aa a->a.kind=.plain->a.write=ab->∀x,x<j->∀b o v,a.loc=.cell ⟨b,o,af⟩->f x b o≠aa v):TL Y d f (t++u) j B:=by
 have k:∀{i:Nat} {a:Touch},touchAt (t++u) i=aa a->(i<t.size/\touchAt t i=aa a)∨(t.size<=i/\(t++u).g? i=aa 0/\∃op∈u,op.act.touch?=aa a):=by
  intro i a e;obtain⟨x,q,C⟩:=touch_of e;rcases getElem?_append_cases q with⟨hi,J⟩|⟨hi,s⟩
  .grind [touchAt_of]
  .exact .inr ⟨hi,by simp[Trace.g?,q,F x s],x,s,C⟩
 refine⟨h.base,h.IS,h.hC,h.ne,h.P0,h.RB,h.IT,h.ms,h.NN,λsaid=>?_,seen_app h.seen hl,λi a hi e d=>?_,λx q i a hi e d=>?_,λi a b hi e z=>?_,λi a hi e d=>?_,λx q i a hi e y D b o v l H=>?_,h.sj u⟩
 .refine noRace_append (h.nr said) F λi a e op mo b z p=>?_;have A:b.loc.isMemory=ab:=by rw[<-p.1];exact p.2.1
  have hT:=G op mo b z A;rcases cG i Y.T0 with hi|hi
  .rcases h.old i a hi e p.2.1 with hk|⟨I,L⟩
   .exact hk
   .exfalso;obtain⟨c,m⟩:=BG p.2.1;have w:=BH I m;rcases hT with⟨ad,e1,e2,e3⟩|⟨N,e1,e2,e3,O,P,M⟩
    .rw[p.1,e1]at m;simp only[lY,dr]at m;rw[<-m,e2]at w;exact h.P0 w
    .rw[p.1,e1]at m;grind
  .rcases h.new i a hi e p.2.1 with⟨y,_⟩|⟨x,q,y,E⟩
   .grind [vm]
   .exact(h.apart q hT E p.1 p.2.2.2 (λh1 h2=>K op mo b z h1 h2 x q) p.2.2.1).elim
 .have n:touchAt t i=aa a:=by rw[<-touchAt_old (u:=u) (cW hi h.T0)];exact e
  exact(h.old i a hi n d).imp (·.app u) id
 .have n:touchAt t i=aa a:=by rw[<-touchAt_old (u:=u) (cW hi h.T0)];exact e
  exact(h.RD x q i a hi n d).imp (·.app u) id
 .have n:touchAt t i=aa a:=by rw[<-touchAt_old (u:=u) (cW hi h.T0)];exact e
  exact h.Hn i a b hi n z
 .rcases k e with⟨h1,h2⟩|⟨_,h2,op,mo,r⟩
  .rw[kD h1];exact h.new i a hi h2 d
  grind
 .rcases k e with⟨h1,h2⟩|⟨_,h2,op,mo,r⟩
  .rw[kD h1]at y;exact(h.mw x q i a hi h2 y D b o v l H).app u
  .exfalso;rcases G op mo a r (by rw[l];rfl)with⟨ad,e1,e2,e3⟩|⟨N,_,_,_,_,_,M⟩
   .rw[l]at e1;cases e1;exact(h.ms x q b o v H).2.2.1 e2
   grind
def TL.appW(h:TL Y d f t j B){x:Nat}(D:x<j)(X:∀op∈u,op.g=Y.base+x)(hl:∀op∈u,op.act.low B)(ht:∀op∈u,∀a,op.act.touch?=aa a->a.loc.isMemory=ab->qL Y d (f x) x a):TL Y d f (t++u) j B:=by
 have Z3:=h.base;have r:∀{i:Nat} {a:Touch},touchAt (t++u) i=aa a->(i<t.size/\touchAt t i=aa a)∨(t.size<=i/\(t++u).g? i=aa (Y.base+x)/\∃op∈u,op.act.touch?=aa a):=by
  intro i a q;obtain⟨y,A,M⟩:=touch_of q;rcases getElem?_append_cases A with⟨hi,hy'⟩|⟨hi,I⟩
  .grind [touchAt_of]
  .exact .inr ⟨hi,by simp[Trace.g?,A,X y I],y,I,M⟩
 refine⟨h.base,h.IS,h.hC,h.ne,h.P0,h.RB,h.IT,h.ms,h.NN,λsaid=>?_,seen_app h.seen hl,λi a hi q d=>?_,λy A i a hi q d=>?_,λi a b hi q V=>?_,λi a hi q d=>?_,λy A i a hi q F H b o v E R=>?_,h.sj u⟩
 .refine noRace_append (h.nr said) X λi a q op mo b V w=>?_;have K:b.loc.isMemory=ab:=by rw[<-w.1];exact w.2.1
  have hT:=ht op mo b V K;obtain⟨c,l⟩:=BG w.2.1;rcases cG i Y.T0 with hi|hi
  .rcases h.RD x D i a hi q w.2.1 with hk|⟨hs,hka⟩
   .exact hk
   .exfalso;have n:=BH hs l;rw[w.1]at l;rcases hT with⟨ad,e1,e2,e3⟩|⟨e0,⟨c',e1,e2⟩|⟨o,e1,_⟩|⟨e1,p,o,v,e2,e3⟩⟩
    .rw[e1]at l;simp only[lY,dr]at l;rw[<-l,e2]at n;exact h.P0 n
    .rw[e1]at l;simp only[dr]at l;rw[<-l]at n;rw[h.IT _ n]at e2;omega
    .rw[e1]at l;simp only[lY,dr]at l;rw[<-l]at n;exact h.RB n
    .rw[e2]at l;simp only[lY,dr]at l;rw[<-l]at n;exact(h.ms x D p o v e3).2.2.2 n
  .rcases h.new i a hi q w.2.1 with⟨F,U⟩|⟨y,A,F,T⟩
   ·
    by_cases G:a.write=ab/\∃p o v,a.loc=.cell ⟨p,o,af⟩/\f x p o=aa v
    .obtain⟨h1,p,o,v,h2,W⟩:=G;exact h.mw x D i a hi q F h1 p o v h2 W
    .exfalso;refine h.apart (said:=said) D U hT w.1.symm ?_ (λ_ N p o v k R=>G ⟨N,p,o,v,k,R⟩) w.2.2.1.symm;rcases w.2.2.2 with hk|hk|⟨h1,h2,W⟩
     .grind
     .grind
     grind
   .by_cases O:y=x
    .grind [vm]
    .exfalso;obtain⟨k,_,H,J⟩:=w;rcases T with⟨ad,e1,e2,e3⟩|⟨e0,⟨c1,e1,e2⟩|⟨o,e1,e1l,e1u⟩|⟨e1,p,o,v,e2,e3⟩⟩
     .rcases hT with⟨C,e,m,z⟩|⟨Q,⟨c2,e,m⟩|⟨o,e,_⟩|⟨e,p,o,v,m,z⟩⟩
      .grind
      .rw[<-k,e1]at e;simp only[lY,dr]at e;rw[<-e,e2,h.IS]at m;omega
      .rw[<-k,e1]at e;cases e;exact h.ne e2
      .rw[<-k,e1]at m;cases m;exact(h.ms x D p o v z).2.2.1 e2
     .rcases hT with⟨C,e,m,z⟩|⟨Q,⟨c2,e,m⟩|⟨o,e,_⟩|⟨e,p,o,v,m,z⟩⟩
      .rw[k,e]at e1;simp only[lY,dr]at e1;rw[<-e1,m,h.IS]at e2;omega
      .grind
      .rw[k,e]at e1;simp only[lY,dr]at e1;rw[<-e1,h.hC]at e2;omega
      .rw[k,m]at e1;simp only[lY,dr]at e1;rw[<-e1,(h.ms x D p o v z).1]at e2;omega
     .rcases hT with⟨C,e,m,z⟩|⟨Q,⟨c2,e,m⟩|⟨S,e,L,P⟩|⟨e,p,S,v,m,z⟩⟩
      .rw[<-k,e1]at e;cases e;exact h.ne m
      .rw[<-k,e1]at e;simp only[lY,dr]at e;rw[<-e,h.hC]at m;omega
      .rw[<-k,e1]at e;cases e;rcases Nat.lt_or_gt_of_ne O with h1|h1
       .have:=u5 Y.kc (show y+1<=x from h1);grind
       .have:=u5 Y.kc (show x+1<=y from h1);grind
      .rw[<-k,e1]at m;cases m;exact(h.ms x D _ _ v z).2.1 rfl
     .rcases hT with⟨C,e,m,z⟩|⟨Q,⟨c2,e,m⟩|⟨S,e,L,P⟩|⟨e,b2,S,v',m,z⟩⟩
      .rw[<-k,e2]at e;cases e;exact(h.ms y A p o v e3).2.2.1 m
      .rw[<-k,e2]at e;simp only[lY,dr]at e;rw[<-e,(h.ms y A p o v e3).1]at m;omega
      .rw[<-k,e2]at e;cases e;exact(h.ms y A _ _ v e3).2.1 rfl
      grind
 .have s:touchAt t i=aa a:=by rw[<-touchAt_old (u:=u) (cW hi h.T0)];exact q
  exact(h.old i a hi s d).imp (·.app u) id
 .have s:touchAt t i=aa a:=by rw[<-touchAt_old (u:=u) (cW hi h.T0)];exact q
  exact(h.RD y A i a hi s d).imp (·.app u) id
 .have s:touchAt t i=aa a:=by rw[<-touchAt_old (u:=u) (cW hi h.T0)];exact q
  exact h.Hn i a b hi s V
 .rcases r q with⟨h1,h2⟩|⟨_,h2,op,mo,Z⟩
  .rw[kD h1];exact h.new i a hi h2 d
  grind
 .rcases r q with⟨h1,h2⟩|⟨_,h2,_⟩
  .rw[kD h1]at F;exact(h.mw y A i a hi h2 F H b o v E R).app u
  grind
def TL.mute(h:TL Y d f t j B){g:Nat}(r:∀op∈u,op.g=g)(hl:∀op∈u,op.act.low B)(s:∀op∈u,op.act.touch?=af):TL Y d f (t++u) j B:=by
 have old:∀{i:Nat} {a:Touch},touchAt (t++u) i=aa a->i<t.size/\touchAt t i=aa a:=by intro i a c;obtain⟨y,w,q⟩:=touch_of c;grind[touchAt_of]
 refine⟨h.base,h.IS,h.hC,h.ne,h.P0,h.RB,h.IT,h.ms,h.NN,λsaid=>noRace_append (h.nr said) r λi a _ op mo b m _=>(by grind),seen_app h.seen hl,λi a hi c d=>(h.old i a hi (old c).2 d).imp (·.app u) id,
  λx l i a hi c d=>(h.RD x l i a hi (old c).2 d).imp (·.app u) id,λi a b hi c m=>h.Hn i a b hi (old c).2 m,λi a hi c d=>?_,λx l i a hi c n k b o v e p=>?_,h.sj u⟩
 .rw[kD (old c).1];exact h.new i a hi (old c).2 d
 .rw[kD (old c).1]at n;exact(h.mw x l i a hi (old c).2 n k b o v e p).app u
def TL.fork(h:TL Y d f t j B){x y:MemOp}(n:x.g=0/\x.act=.go (Y.base+j))(m:y.g=Y.base+j/\y.act=.start)(D:Deaf t 0=0)(hk:Deaf t (Y.base+j)=0)(G:∀b o v,f j b o=aa v->d b=0/\b≠Y.C/\b≠Y.Wg/\¬Y.Sh b):TL Y d f (t++#[x,y]) (j+1) B:=by
 have F:∀op∈#[x,y],op.act.touch?=af:=by
  intro op mo;simp only[List.mem_toArray,eE,oa,mn]at mo;rcases mo with rfl|rfl
  .rw[n.2];rfl
  .rw[m.2];rfl
 have l:∀op∈#[x,y],op.act.low B:=by
  intro op mo;simp only[List.mem_toArray,eE,oa,mn]at mo;rcases mo with rfl|rfl
  .rw[n.2];trivial
  .rw[m.2];trivial
 have old:∀{i:Nat} {a:Touch},touchAt (t++#[x,y]) i=aa a->i<t.size/\touchAt t i=aa a:=by intro i a c;obtain⟨z,q,E⟩:=touch_of c;grind[touchAt_of]
 have A:∀z,z<j+1->∀b o v,f z b o=aa v->d b=0/\b≠Y.C/\b≠Y.Wg/\¬Y.Sh b:=λz q b o v p=>by
  rcases cG z j with h1|h1
  .exact h.ms z h1 b o v p
  grind
 refine⟨h.base,h.IS,h.hC,h.ne,h.P0,h.RB,h.IT,A,h.NN,λsaid=>?_,seen_app h.seen l,λi a hi c d=>(h.old i a hi (old c).2 d).imp (·.app _) id,
  λz q i a hi c d=>?_,λi a b hi c r=>h.Hn i a b hi (old c).2 r,λi a hi c d=>?_,λz q i a hi c w s b o v k p=>?_,h.sj _⟩
 .have e:t++#[x,y]=(t++#[x])++#[y]:=by grind
  rw[e];refine noRace_append (g:=Y.base+j) (noRace_append (g:=0) (h.nr said) (λop mo=>by grind) (λi a _ op mo b r _=>?_)) (λop mo=>by grind) (λi a _ op mo b r _=>?_)
  .grind
  grind
 .rcases cG z j with h1|h1
  .exact(h.RD z h1 i a hi (old c).2 d).imp (·.app _) id
  .obtain rfl:z=j:=by omega
   exact(h.old i a hi (old c).2 d).imp (fork_knows n m D hk) id
 .rw[kD (old c).1];rcases h.new i a hi (old c).2 d with h1|⟨z,h1,h2⟩
  .grind
  grind
 .rw[kD (old c).1]at w;rcases cG z j with h1|h1
  .exact(h.mw z h1 i a hi (old c).2 w s b o v k p).app _
  .obtain rfl:z=j:=by omega
   exact fork_knows n m D hk (vm (old c).2 w)
def TL.X3(h:TL Y d f t j B)(H:Deaf t 0=0)(G:NoRelease (stA Y.Wg) t){q:Nat}(K:t.act? q=aa (.mark (.acquire (stA Y.Wg))))(w:t.g? q=aa 0)(E:t.heard q)(I:∀x,x<j->∃r,RelBy (stA Y.Wg) t (Y.base+x) r/\r<q):Past (lV λb=>Y.Sh b∨b=Y.Wg) B t:=by
 have m:∀x,x<j->∀i,t.g? i=aa (Y.base+x)->t.counts i->HappensBefore t i q:=by
  intro x y i s p;obtain⟨r,c,F⟩:=I x y;have e:HappensBefore t r q:=.single (.inr ⟨.marked F (.inr c.act) K (λk _ _=>G k),c.heard,E⟩);have J:i<=r:=Nat.le_of_not_lt λn=>c.after i n s p;rcases cG i r with n|L
  .exact .trans (.single (.inl ⟨n,_,s,c.g⟩)) e
  grind
 have o:∀{l:Go.Loc},lV Y.Sh l->lV (λb=>Y.Sh b∨b=Y.Wg) l:=λ{l} hl=>by cases l<;>first|exact .inl hl|exact hl
 refine⟨h.nr,λi a v d=>?_,λi g s A p=>?_,H,h.seen⟩
 .rcases cG i Y.T0 with hi|hi
  .exact(h.old i a hi v d).imp id λ⟨h1,h2⟩=>⟨o h1,h2⟩
  .rcases h.new i a hi v d with⟨h1,_⟩|⟨x,y,s,hT⟩
   .grind [vm]
   .rcases hT with⟨ad,e1,e2,e3⟩|⟨N,_⟩
    .exact .inr ⟨by rw[e1];exact .inr e2,e3⟩
    .left;have p:t.counts i:=⟨a,v,d,.inl (by grind)⟩
     obtain⟨z,M,C⟩:=qT.1 w;exact⟨q,z,M,C,.inr (m x y i s p)⟩
 .rcases cG i Y.T0 with hi|hi
  .exact h.over i g hi s A p
  .obtain⟨a,v,d,hk⟩:=p;rcases h.new i a hi v d with⟨h1,_⟩|⟨x,y,D,hT⟩
   .grind
   .exact⟨q,w,m x y i D ⟨a,v,d,hk⟩⟩
def TL.start{Y:Lay}{t:Trace}{B:Nat}{f:Nat->Mem}(e:Past (lV Y.Sh) B t)(hT:Y.T0=t.size)(m:1<=Y.base)(b:Y.C≠Y.Wg)(h:¬Y.Sh Y.Wg)(l:¬Y.Sh Y.C):TL Y (λ_=>0) f t 0 B :=
 ⟨m,rfl,rfl,b,h,l,λ_ _=>rfl,λx c=>absurd c (fQ x),by omega,e.clean,e.seen,λi a _ k d=>e.known i a k d,λx c=>absurd c (fQ x),λ_ _ _ _ _ _=>rfl,
  λi a hi k _=>by
   obtain⟨x,c,_⟩:=touch_of k
   grind,λx c=>absurd c (fQ x),λi g _ o b n=>e.over i g o b n⟩
end
end
section
open Go.Conc
open Go.ConcN (WD CTag Mode Vc Ssum pend phi cnt WgLive PayAt Has RW DWs WSit RelBy sumTo upd upd_same upd_ne AtR0 get_map_set get_map_set_same norel_of Deaf_still)
open Go.ConcR (KK WgAt stA smA rd wr mk Payload g_of_ofEvents)
def Cx.work(P:aq):Cx P:={main:=ae,rely:=cp,xS:=λ_ _ _=>False,iv:=id,Bh:=True}
def Cx.lead(P:aq)(ty:aj)(Wg:Nat):Cx P:={main:=ab,rely:=λs s'=>cp s s'/\(WgLive ty Wg s.w->WgLive ty Wg s'.w),xS:=λ_ _ _=>False,iv:=λh=>h.1,Bh:=False}
instance (P:aq):(Cx.work P).gZ:=⟨aw⟩
def E0:St->St->Array Event->Prop:=λ_ _ _=>False
def Es(Wg:Nat):St->St->Array Event->Prop:=λs s' es=>s'=s/\∃a:Addr,a.block=Wg/\(es=#[mk (.read a)]∨es=#[mk (.write a)])
def P1:Nat->Go.Loc->Prop:=λ_ _=>False
variable [Payload]
structure UF(C N lo k:Nat)(vs:Nat->ah)(w w':az):Prop where
 tape:w'.tape=w.tape
 os:w'.os=w.os
 output:w'.output=w.output
 size:w'.heap.size=w.heap.size
 block:∀b,b≠C->w'.heap[b]?=w.heap[b]?
 pay:PayAt C N w'
 out:∀o,(o<lo∨lo+k<=o)->w'.cell? ⟨C,o,af⟩=w.cell? ⟨C,o,af⟩
 new:∀i,i<k->w'.cell? ⟨C,lo+i,af⟩=aa (vs i)
section
variable (P:aq)(ty:aj)(Y:Lay)(N:Nat)(val:Nat->Nat->ah)
def JH(x:Nat)(g:au)(s:St):Prop :=
 g.status=.running/\∀w1,cp s {s with w:=w1}->PayAt Y.C N w1->WgLive ty Y.Wg w1 ->
  ∃g' w2 es,aG P ae g w1=.go g' w2 es/\UF Y.C N (Y.kc*x) Y.kc (val x) w1 w2/\(∀e∈es,∃o,e=⟨.cell ⟨Y.C,o,af⟩,ab,ae⟩/\Y.kc*x<=o/\o<Y.kc*x+Y.kc) /\
   ∃m,Goes P ae (RW ty Y.Wg Y.C N 0 (Y.kc*x)) Go.ConcR.DC0 (AtR0 P ty Y.Wg Y.C N 0 (Y.kc*x+1) (val x 0)) m g' w2
end
structure lZ(f:Nat->Nat)(r:Mem)(g:Nat)(s:St):Prop where
 blk:∀b,(s.own b∨∃L∈s.β,b∈L.bs)->f b=g/\b<s.w.heap.size
 M:∀b o v,s.M b o=aa v->(f b=g∨r b o=aa v)/\b<s.w.heap.size
structure jL(Y:Lay)(f:Nat->Nat)(D:Nat->Mem)(j:Nat)(s:St):Prop where
 blk:∀b,(s.own b∨∃L∈s.β,b∈L.bs)->f b=0/\b≠Y.C/\b≠Y.Wg/\¬Y.Sh b/\b<s.w.heap.size
 M:∀b o v,s.M b o=aa v->f b=0/\b≠Y.C/\b≠Y.Wg/\¬Y.Sh b/\b<s.w.heap.size
 ms:∀x,x<j->∀b o v,D x b o=aa v->s.M b o=aa v
structure Ho(Y:Lay)(f:Nat->Nat)(r:Mem)(y:Nat)(w w':az):Prop where
 size:w.heap.size<=w'.heap.size
 blk:∀b,b<w.heap.size->f b=Y.base+y->w'.heap[b]?=w.heap[b]?
 cell:∀b o v,r b o=aa v->w.cell? ⟨b,o,af⟩=aa v->w'.cell? ⟨b,o,af⟩=aa v
 pay:∀o,Y.kc*y<=o->o<Y.kc*y+Y.kc->w'.cell? ⟨Y.C,o,af⟩=w.cell? ⟨Y.C,o,af⟩
 os:w'.os=w.os
 tape:w'.tape=w.tape
 output:w'.output=w.output
omit [Payload]in
def Ho.refl(Y:Lay)(f:Nat->Nat)(r:Mem)(y:Nat)(w:az):Ho Y f r y w w:=⟨bg _,λ_ _ _=>rfl,λ_ _ _ _ h=>h,λ_ _ _=>rfl,rfl,rfl,rfl⟩
omit [Payload]in
def Ho.at(Y:Lay)(f:Nat->Nat)(r:Mem)(y:Nat)(w:az)(d:Nat):Ho Y f r y w (w.at d):=⟨bg _,λ_ _ _=>rfl,λ_ _ _ _ h=>h,λ_ _ _=>rfl,rfl,rfl,rfl⟩
structure DY(Y:Lay)(f:Nat->Nat)(w w':az):Prop where
 size:w.heap.size<=w'.heap.size
 blk:∀b,b<w.heap.size->f b=0->b≠Y.C->b≠Y.Wg->w'.heap[b]?=w.heap[b]?
 os:w'.os=w.os
 tape:w'.tape=w.tape
 output:w'.output=w.output
omit [Payload]in
def jM{w w':az}{b:Nat}(h:w'.heap[b]?=w.heap[b]?)(o:Nat):w'.cell? ⟨b,o,af⟩=w.cell? ⟨b,o,af⟩:=by simp[aU,h]
omit [Payload]in
def cp.more{s:St}{w w':az}(h:cp s {s with w:=w})(z:w.heap.size<=w'.heap.size)(c:∀b,(s.own b∨∃L∈s.β,b∈L.bs)->w'.heap[b]?=w.heap[b]?)(X:∀b o v,s.M b o=aa v->w.cell? ⟨b,o,af⟩=aa v->w'.cell? ⟨b,o,af⟩=aa v)(l:w'.os=w.os)(p:w'.tape=w.tape)(t:w'.output=w.output):cp s {s with w:=w'} :=
 ⟨rfl,rfl,rfl,im h.size z,λb J=>by show w'.heap[b]?=_;rw[c b J];exact h.fi b J,λb o v q=>X b o v q (h.mem b o v q),l.trans h.os,p.trans h.tape,t.trans h.output⟩
section
variable {Y:Lay}{f hm':Nat->Nat}{D:Nat->Mem}{j y:Nat}{s:St}{w w':az}
omit [Payload]in
def lZ.JI(n:lZ f (D y) (Y.base+y) s)(h:cp s {s with w:=w})(k:Ho Y f (D y) y w w'):cp s {s with w:=w'}:=by
 have z:=h.size;refine h.more k.size (λb c=>?_) (λb o v q K=>?_) k.os k.tape k.output
 .obtain⟨l,p⟩:=n.blk b c;exact k.blk b (cW p z) l
 .obtain⟨l,p⟩:=n.M b o v q;rcases l with l|l
  .rw[jM (k.blk b (cW p z) l) o];exact K
  .exact k.cell b o v l K
omit [Payload]in
def lZ.tn{r:Mem}{g:Nat}(n:lZ f r g s)(h:s.w.heap.size<=w.heap.size)(W:∀b,b<w.heap.size->hm' b=f b):lZ hm' r g s :=
 ⟨λb c=>let ⟨l,p⟩:=n.blk b c;⟨by grind,p⟩,λb o v q=>let ⟨l,p⟩:=n.M b o v q;⟨by grind,p⟩⟩
omit [Payload]in
def jL.JI(n:jL Y f D j s)(h:cp s {s with w:=w})(k:DY Y f w w'):cp s {s with w:=w'}:=by
 have z:=h.size;refine h.more k.size (λb c=>?_) (λb o v q K=>?_) k.os k.tape k.output
 .obtain⟨l,p,t,G,A⟩:=n.blk b c;exact k.blk b (cW A z) l p t
 .obtain⟨l,p,t,G,A⟩:=n.M b o v q;rw[jM (k.blk b (cW A z) l p t) o];exact K
omit [Payload]in
def jL.tn(n:jL Y f D j s)(h:s.w.heap.size<=w.heap.size)(W:∀b,b<w.heap.size->hm' b=f b):jL Y hm' D j s :=
 ⟨λb c=>let ⟨l,p,t,G,A⟩:=n.blk b c;⟨by grind,p,t,G,A⟩,
  λb o v q=>let ⟨l,p,t,G,A⟩:=n.M b o v q;⟨by grind,p,t,G,A⟩,n.ms⟩
omit [Payload]in
def lZ.rely{r:Mem}{g:Nat}(n:lZ f r g s)(h:s.w.heap.size<=w.heap.size):lZ f r g {s with w:=w} :=
 ⟨λb c=>let ⟨l,p⟩:=n.blk b c;⟨l,cW p h⟩,λb o v q=>let ⟨l,p⟩:=n.M b o v q;⟨l,cW p h⟩⟩
omit [Payload]in
def jL.rely(n:jL Y f D j s)(h:s.w.heap.size<=w.heap.size):jL Y f D j {s with w:=w} :=
 ⟨λb c=>let ⟨l,p,t,G,A⟩:=n.blk b c;⟨l,p,t,G,cW A h⟩,λb o v q=>let ⟨l,p,t,G,A⟩:=n.M b o v q;⟨l,p,t,G,cW A h⟩,n.ms⟩
omit [Payload]in
theorem lZ.ghost{r:Mem}{g:Nat}{s':St}(n:lZ f r g s)(k:eu s s'):lZ f r g s':=by
 refine⟨λb c=>by rw[k.w];exact n.blk b (k.blk b c),λb o v q=>?_⟩;rw[k.w];by_cases c:∃L∈s.β,b∈L.bs
 .obtain⟨l,p⟩:=n.blk b (.inr c);grind
 .exact n.M b o v (by rw[<-k.iU b (λL E u=>c ⟨L,E,u⟩)];exact q)
omit [Payload]in
def lZ.forget{r:Mem}{g:Nat}{s':St}(n:lZ f r g s)(k:mW s s'):lZ f r g s' :=
 ⟨λb c=>by rw[k.w];exact n.blk b (by rw[<-k.own,<-k.β];exact c),λb o v q=>by rw[k.w];exact n.M b o v (k.less b o v q)⟩
omit [Payload]in
theorem jL.ghost{s':St}(n:jL Y f D j s)(k:eu s s'):jL Y f D j s':=by
 refine⟨λb c=>by rw[k.w];exact n.blk b (k.blk b c),λb o v q=>?_,λx Q b o v q=>k.mem _ _ _ (n.ms x Q b o v q)⟩;rw[k.w];by_cases c:∃L∈s.β,b∈L.bs
 .exact n.blk b (.inr c)
 .exact n.M b o v (by rw[<-k.iU b (λL E u=>c ⟨L,E,u⟩)];exact q)
def ny(f:Nat->Nat)(B g:Nat):Nat->Nat:=λb=>if b<B then f b else g
omit [Payload]in
theorem fe{f:Nat->Nat}{B g b:Nat}(h:b<B):ny f B g b=f b:=by simp[ny,h]
omit [Payload]in
theorem tp{f:Nat->Nat}{B g b:Nat}(h:B<=b):ny f B g b=g:=by simp[ny,mm.2 h]
omit [Payload]in
def lZ.step{r:Mem}{g:Nat}{s':St}{σ σ':List aP}(n:lZ f r g s)(H:aE σ' s')(st:Step σ s σ' s'):lZ (ny f s.w.heap.size g) r g s':=by
 refine⟨λb c=>?_,λb o v q=>?_⟩
 .rcases c with c|⟨L,E,c⟩
  .rw[st.own]at c;obtain⟨l,p⟩:=n.blk b (.inl c);exact⟨by grind[fe],cW p st.size⟩
  .have F:=H.lt L E b c;rcases st.vb L E b c with l|⟨O,I,l⟩
   .grind [tp]
   .obtain⟨k1,R⟩:=n.blk b (.inr ⟨O,I,l⟩);grind[fe]
 .have F:=gM.lt H.mem q;rcases cG b s.w.heap.size with l|l
  .rw[fe l];by_cases c:∃L∈s.β,b∈L.bs
   .exact⟨.inl (n.blk b (.inr c)).1,F⟩
   .rw[st.iU b l (λL E u=>c ⟨L,E,u⟩)]at q;exact⟨(n.M b o v q).1,F⟩
  grind[tp]
omit [Payload]in
def jL.step{s':St}{σ σ':List aP}(n:jL Y f D j s)(H:aE σ' s')(st:Step σ s σ' s')(hW:Y.Wg<s.w.heap.size)(Z:Y.C<s.w.heap.size)(hS:∀b,Y.Sh b->b<s.w.heap.size):jL Y (ny f s.w.heap.size 0) D j s':=by
 have U:∀b,s.w.heap.size<=b->b<s'.w.heap.size->ny f s.w.heap.size 0 b=0/\b≠Y.C/\b≠Y.Wg/\¬Y.Sh b/\b<s'.w.heap.size:=λb l p =>
  ⟨tp l,by omega,by omega,λh=>by grind,p⟩
 refine⟨λb c=>?_,λb o v q=>?_,λx Q b o v q=>st.mem _ _ _ (n.ms x Q b o v q)⟩
 .rcases c with c|⟨L,E,c⟩
  .rw[st.own]at c;obtain⟨l,p,t,G,A⟩:=n.blk b (.inl c);exact⟨by grind[fe],p,t,G,cW A st.size⟩
  .have F:=H.lt L E b c;rcases st.vb L E b c with l|⟨O,I,l⟩
   .grind
   .obtain⟨k1,R,V,T,S⟩:=n.blk b (.inr ⟨O,I,l⟩);grind[fe]
 .have F:=gM.lt H.mem q;rcases cG b s.w.heap.size with l|l
  .by_cases c:∃L∈s.β,b∈L.bs
   .obtain⟨k1,R,V,T,S⟩:=n.blk b (.inr c);grind[fe]
   .rw[st.iU b l (λL E u=>c ⟨L,E,u⟩)]at q;obtain⟨k1,R,V,T,S⟩:=n.M b o v q;grind[fe]
  grind
end
end
section
open Go.Conc
open Go.ConcN (WD CTag Mode Vc Ssum pend phi cnt WgLive PayAt Has RW DWs WSit RelBy sumTo upd upd_same upd_ne AtR0 get_map_set get_map_set_same norel_of Deaf_still)
open Go.ConcR (KK WgAt stA smA rd wr mk Payload g_of_ofEvents)
variable [Payload]
section
variable (P:aq)(ty:aj)(Y:Lay)(N:Nat)(val:Nat->Nat->ah)(l:Nat->Nat)(c:Nat->Mem)
inductive WS (x:Nat):Nat->Nat->Rk->Nat->au->az->Prop
 |am {r:Rk} {g:au} {s:St} {w:az}:ko (Cx.work P) E0 (JH P ty Y N val x) r g s->cp s {s with w:=w}->lZ l (c x) (Y.base+x) s->WS x 1 7 r 0 g w
 |rel {m:Nat} {g:au} {w:az}:Goes P ae (RW ty Y.Wg Y.C N 0 (Y.kc*x)) Go.ConcR.DC0 (AtR0 P ty Y.Wg Y.C N 0 (Y.kc*x+1) (val x 0)) m g w->WS x 0 7 (Rk.nat m) 0 g w
 |tail {st m d:Nat} {g:au} {w:az}:st<=6->WSit P ty Y.Wg Y.C N P1 P1 0 (Y.kc*x+1) (val x 0) st m d g w->WS x 0 st (Rk.nat m) d g w
structure Com(j:Nat)(gs:Array au)(w:az)(t:Trace)(D:Nat->WD)(A:Nat->Nat)(K:Nat->Rk)(n:Nat):Prop where
 size:gs.size=Y.base+j
 lv:∀i g,0<i->i<Y.base->gs[i]?=aa g->∃m,K i=Rk.nat m/\QuitsD P m (Deaf t i) g
 above:∀i,Y.base+j<=i->Deaf t i=0
 wk:∀x,x<j->∃g,gs[Y.base+x]?=aa g/\WS P ty Y N val l c x (A x) (D x).stage (K (Y.base+x)) (D x).deaf g w
 tl:TL Y l c t j w.heap.size
 norel:rV t
 deaf0:Deaf t 0=n
 deafW:∀x,x<j->Deaf t (Y.base+x)=(D x).deaf
 rel:∀x,x<j->(D x).stage<=6->∃r,RelBy (stA Y.Wg) t (Y.base+x) r
 x3:∀x,x<j->A x=0->∀i,1<=i->i<Y.kc->w.cell? ⟨Y.C,Y.kc*x+i,af⟩=aa (val x i)
 BI:∀x,x<j->(D x).stage<=6->Has Y.C (Y.kc*x) (val x 0) w
 pay:PayAt Y.C N w
 live:WgLive ty Y.Wg w
 Ba:Y.Wg<w.heap.size
 Du:Y.C<w.heap.size
 M4:∀b,Y.Sh b->b<w.heap.size
 kc:0<Y.kc
 NO:∀y,y<j->∀b o v,c y b o=aa v->b<w.heap.size
end
section
variable {P:aq}{ty:aj}{Y:Lay}{N:Nat}{val:Nat->Nat->ah}{l hm':Nat->Nat}{c:Nat->Mem}{j x:Nat}{gs:Array au}{w w':az}{t:Trace}{D:Nat->WD}{A:Nat->Nat}{K:Nat->Rk}{n:Nat}
def RW.JI(k:Ho Y l (c x) x w w')(hl:WgLive ty Y.Wg w')(a:PayAt Y.C N w')(hk:0<Y.kc):RW ty Y.Wg Y.C N 0 (Y.kc*x+1-1) w w' :=
 ⟨λb d=>absurd d (fQ b),λ_=>hl,λ_=>a,k.pay _ (bg _) (by grind)⟩
def WS.JI{a st d:Nat}{r:Rk}{g:au}(h:WS P ty Y N val l c x a st r d g w)(k:Ho Y l (c x) x w w')(hl:WgLive ty Y.Wg w')(e:PayAt Y.C N w')(hk:0<Y.kc)(hh:∀b,b<w.heap.size->hm' b=l b):
  WS P ty Y N val hm' c x a st r d g w':=by
 cases h with
 |am h1 h2 h3=>exact .am h1 (h3.JI h2 k) (h3.tn h2.size hh)
 |rel h1=>exact .rel (Goes.rely (λ_ _ _ h1 h2=>h1.trans h2) h1 (RW.JI k hl e hk))
 |tail h0 h1=>exact .tail h0 (h1.rely (RW.JI k hl e hk))
omit [Payload]in
def ko.run{X:Cx P}{E:St->St->Array Event->Prop}{S:au->St->Prop}(p:∀g s,S g s->g.status=.running):∀{r:Rk}{g:au}{s:St},ko X E S r g s->g.status=.running
 |.leaf,_,_,h=>p _ _ h
 |.node f,g,s,h=>by
  rcases h with h|⟨s',_,h⟩|⟨h,_⟩
  .grind
  .exact ko.run p (r:=f s) h
  grind
def WS.status{a st d:Nat}{r:Rk}{g:au}(h:WS P ty Y N val l c x a st r d g w):g.status=.running∨g.status=.finished:=by
 cases h with
 |am h1 _ _=>exact .inl (h1.run λg s h=>h.1)
 |rel h1=>exact .inl (Goes.running (λ_ _ x=>x.1) w (Go.ConcN.RW.refl w) h1)
 |tail _ h1=>exact h1.status
def WS.woken{a st d:Nat}{r:Rk}{g:au}(h:WS P ty Y N val l c x a st r d g w)(b e:au)(w':az):woken P b e w' g=g:=by
 unfold Go.Conc.woken;split
 .exact again_running _ h.status
 .rfl
def Com.at(h:Com P ty Y N val l c j gs w t D A K n)(d:Nat):Com P ty Y N val l c j gs (w.at d) t D A K n :=
 ⟨h.size,h.lv,h.above,λx a=>let ⟨g,h1,h2⟩:=h.wk x a;⟨g,h1,h2.JI (.at ..) h.live h.pay h.kc λ_ _=>rfl⟩,h.tl,h.norel,h.deaf0,h.deafW,h.rel,h.x3,h.BI,h.pay,h.live,h.Ba,h.Du,h.M4,h.kc,h.NO⟩
def Com.stepW(h:Com P ty Y N val l c j gs w t D A K n)(hx:x<j){g g':au}{fn:aH}{pos:String}{es:Array Event}{a' qE d':Nat}{r':Rk}(hh:∀b,b<w.heap.size->hm' b=l b)(B:w.heap.size<=w'.heap.size)(q:∀y,y<j->y≠x->Ho Y l (c y) y w w')(V:WS P ty Y N val hm' c x a' qE r' d' g' w')(UG:∀e∈es,(aJ e).low w'.heap.size)(Xa:∀e∈es,∀a,(aJ e).touch?=aa a->a.loc.isMemory=ab->qL Y hm' (c x) x a)(M:∀e∈es,∀a,e.loc≠.mark (.release a))(I:deafBehind (D x).deaf es=d')(Z:qE<=6->∃r,RelBy (stA Y.Wg) (t++MemOp.ofEvents (Y.base+x) fn pos es) (Y.base+x) r)(h1:a'=0->∀i,1<=i->i<Y.kc->w'.cell? ⟨Y.C,Y.kc*x+i,af⟩=aa (val x i))(h0:qE<=6->Has Y.C (Y.kc*x) (val x 0) w')(H:PayAt Y.C N w')(u:WgLive ty Y.Wg w'):
  Com P ty Y N val hm' c j ((gs.map (woken P g g' w')).setIfInBounds (Y.base+x) g') w' (t++MemOp.ofEvents (Y.base+x) fn pos es) (upd D x ⟨qE,0,d'⟩) (upd A x a') (upd K (Y.base+x) r') n:=by
 have hb:=h.tl.base;have F:∀y,y≠x->Y.base+x≠Y.base+y:=λy d e=>d (by omega);have W:∀i G,0<i->i<Y.base->((gs.map (Go.Conc.woken P g g' w')).setIfInBounds (Y.base+x) g')[i]?=aa G->gs[i]?=aa G:=by intro i G hi P2 x4;rw[get_map_set _ _ _ _ (by omega)]at x4;obtain⟨z,hz,rfl⟩:=qT.1 x4;obtain⟨m,_,hq⟩:=h.lv i z hi P2 hz;grind[woken_quitsD]
 refine⟨by simp[h.size],λi G hi P2 x4=>?_,λi hi=>?_,λy d=>?_,?_,h.norel.app M,by rw[Deaf_other t (by omega) _ g_of_ofEvents,h.deaf0],λy d=>?_,λy d k=>?_,λy d L i O U=>?_,λy d k=>?_,H,u,cW h.Ba B,cW h.Du B,λb hb=>cW (h.M4 b hb) B,h.kc,λy d b o v R=>cW (h.NO y d b o v R) B⟩
 .obtain⟨m,Q,T⟩:=h.lv i G hi P2 (W i G hi P2 x4);refine⟨m,by rw[upd_ne K _ (by omega)];exact Q,?_⟩;rw[Deaf_other t (by omega) _ g_of_ofEvents];exact T
 .rw[Deaf_other t (by omega) _ g_of_ofEvents];exact h.above i hi
 .by_cases e:y=x
  .subst e;exact⟨g',get_map_set_same _ _ _ (by rw[h.size];omega),by rw[upd_same,upd_same,upd_same];exact V⟩
  .obtain⟨G,x4,J⟩:=h.wk y d;refine⟨G,by rw[get_map_set _ _ _ _ (F y e),x4,n8,J.woken],?_⟩;rw[upd_ne A _ e,upd_ne D _ e,upd_ne K _ (F y e).symm];exact J.JI (q y d e) u H h.kc hh
 .refine(h.tl.tn hh B h.Ba h.Du h.M4 λy d b o v R=>?_).appW hx (λop mo=>by grind[Go.Conc.mem_ofEvents]) (λop mo=>?_) (λop mo a L hma=>?_)
  .exact h.NO y d b o v R
  .grind [Go.Conc.mem_ofEvents]
  grind[Go.Conc.mem_ofEvents]
 .by_cases e:y=x
  .subst e;rw[Deaf_own,h.deafW y d,upd_same];exact I
  .rw[Deaf_other t (F y e) _ g_of_ofEvents,h.deafW y d,upd_ne D _ e]
 .by_cases e:y=x
  .subst e;rw[upd_same]at k;grind
  .rw[upd_ne D _ e]at k;obtain⟨r,hr⟩:=h.rel y d k;exact⟨r,hr.appOther g_of_ofEvents (F y e)⟩
 .by_cases e:y=x
  .subst e;rw[upd_same]at L;grind
  .rw[upd_ne A _ e]at L;rw[(q y d e).pay _ (by omega) (by omega)];exact h.x3 y d L i O U
 .by_cases e:y=x
  .subst e;rw[upd_same]at k;grind
  .rw[upd_ne D _ e]at k;have:=h.BI y d k;have hk:=h.kc;simp only[Has]at this⊢;rw[(q y d e).pay _ (by omega) (by omega)];exact this
def Com.step0(h:Com P ty Y N val l c j gs w t D A K n){g g':au}{fn:aH}{pos:String}{es:Array Event}(hh:∀b,b<w.heap.size->hm' b=l b)(u:w.heap.size<=w'.heap.size)(k:∀y,y<j->Ho Y l (c y) y w w')(R:∀e∈es,(aJ e).low w'.heap.size)(W:∀e∈es,∀a,(aJ e).touch?=aa a->a.loc.isMemory=ab->si Y hm' a)(U:∀e∈es,∀a,(aJ e).touch?=aa a->a.kind=.plain->a.write=ab->∀x,x<j->∀b o v,a.loc=.cell ⟨b,o,af⟩->c x b o≠aa v)(I:∀e∈es,∀a,e.loc≠.mark (.release a))(B:PayAt Y.C N w')(q:WgLive ty Y.Wg w'):
  Com P ty Y N val hm' c j ((gs.map (woken P g g' w')).setIfInBounds 0 g') w' (t++MemOp.ofEvents 0 fn pos es) D A K (deafBehind n es):=by
 have T:=h.tl.base;have hk:=h.kc;refine⟨by simp[h.size],λi Q hi P2 x4=>?_,λi hi=>?_,λy d=>?_,?_,h.norel.app I,by rw[Deaf_own,h.deaf0],λy d=>by rw[Deaf_other t (by omega) _ g_of_ofEvents,h.deafW y d],λy d F=>?_,λy d L i J O=>?_,λy d F=>?_,B,q,cW h.Ba u,cW h.Du u,λb T=>cW (h.M4 b T) u,h.kc,λy d b o v Z=>cW (h.NO y d b o v Z) u⟩
 .rw[get_map_set _ _ _ _ (by omega)]at x4;obtain⟨z,hz,rfl⟩:=qT.1 x4;obtain⟨m,M,H⟩:=h.lv i z hi P2 hz;exact⟨m,M,by rw[woken_quitsD H,Deaf_other t (by omega) _ g_of_ofEvents];exact H⟩
 .rw[Deaf_other t (by omega) _ g_of_ofEvents];exact h.above i hi
 .obtain⟨Q,x4,G⟩:=h.wk y d;exact⟨Q,by rw[get_map_set _ _ _ _ (by omega),x4,n8,G.woken],G.JI (k y d) q B h.kc hh⟩
 .refine(h.tl.tn hh u h.Ba h.Du h.M4 h.NO).app0 (λop mo=>by grind[Go.Conc.mem_ofEvents]) (λop mo=>?_) (λop mo a L hma=>?_) (λop mo a L=>?_)
  .grind [Go.Conc.mem_ofEvents]
  .grind [Go.Conc.mem_ofEvents]
  grind[Go.Conc.mem_ofEvents]
 .obtain⟨r,V⟩:=h.rel y d F;exact⟨r,V.appOther g_of_ofEvents (by omega)⟩
 .rw[(k y d).pay _ (by omega) (by omega)];exact h.x3 y d L i J O
 .have:=h.BI y d F;simp only[Has]at this⊢;rw[(k y d).pay _ (by omega) (by omega)];exact this
def Com.leave(h:Com P ty Y N val l c j gs w t D A K n){i m:Nat}(hi:0<i)(F:i<Y.base){g g':au}{fn:aH}{pos:String}{es:Array Event}(B:∀e∈es,e.mute=ab)(M:QuitsD P m (deafBehind (Deaf t i) es) g'):
  Com P ty Y N val l c j ((gs.map (woken P g g' w)).setIfInBounds i g') w (t++MemOp.ofEvents i fn pos es) D A (upd K i (Rk.nat m)) n:=by
 have L:=h.tl.base;have v:∀e∈es,∀a,e.loc≠.mark (.release a):=λe G a=>vH (B e G) a;refine⟨by simp[h.size],λk C hk hkb x4=>?_,λk hk=>?_,λy d=>?_,?_,h.norel.app v,by rw[Deaf_other t (by omega) _ g_of_ofEvents,h.deaf0],λy d=>by rw[Deaf_other t (by omega) _ g_of_ofEvents,h.deafW y d],λy d u=>?_,h.x3,h.BI,h.pay,h.live,h.Ba,h.Du,h.M4,h.kc,h.NO⟩
 .by_cases e:k=i
  .subst e;rw[get_map_set_same _ _ _ (by grind)]at x4;cases x4;exact⟨m,by rw[upd_same],by grind[Deaf_own]⟩
  .rw[get_map_set _ _ _ _ (Ne.symm e)]at x4;obtain⟨z,J,rfl⟩:=qT.1 x4;obtain⟨H,q,o⟩:=h.lv k z hk hkb J;exact⟨H,by rw[upd_ne K _ e];exact q,by rw[woken_quitsD o,Deaf_other t (Ne.symm e) _ g_of_ofEvents];exact o⟩
 .rw[Deaf_other t (by omega) _ g_of_ofEvents];exact h.above k hk
 .obtain⟨C,x4,b⟩:=h.wk y d;exact⟨C,by rw[get_map_set _ _ _ _ (by omega),x4,n8,b.woken],by rw[upd_ne K _ (by omega)];exact b⟩
 .exact h.tl.mute (g:=i) (λop mo=>by grind[Go.Conc.mem_ofEvents]) (λop mo=>by grind[Go.Conc.mem_ofEvents,low_mute]) (λop mo=>by grind[Go.Conc.mem_ofEvents,touch_mute])
 .obtain⟨r,I⟩:=h.rel y d u;exact⟨r,I.appOther g_of_ofEvents (by omega)⟩
def Com.spawn(h:Com P ty Y N val l c j gs w t D A K 0){a' child:au}{x y:MemOp}{r:Rk}{s:St}(R:x.g=0/\x.act=.go (Y.base+j))(J:y.g=Y.base+j/\y.act=.start)(I:∀b o v,c j b o=aa v->l b=0/\b≠Y.C/\b≠Y.Wg/\¬Y.Sh b/\b<w.heap.size)(L:ko (Cx.work P) E0 (JH P ty Y N val j) r child s)(B:cp s {s with w:=w})(Q:lZ l (c j) (Y.base+j) s):
  Com P ty Y N val l c (j+1) ((gs.setIfInBounds 0 a').push child) w (t++#[x,y]) (upd D j ⟨7,0,0⟩) (upd A j 1) (upd K (Y.base+j) r) 0:=by
 have T:=h.tl.base;have M:∀op∈#[x,y],op=x∨op=y:=by grind
 have d:∀op∈#[x,y],op.act≠.mark .disable/\op.act≠.mark .enable:=by grind
 have q:∀i,0<i->i<Y.base+j->((gs.setIfInBounds 0 a').push child)[i]?=gs[i]?:=λi hi vJ=>by rw[Array.getElem?_push_lt (by simp[h.size];omega),<-fY,vF (by omega)]
 refine⟨by simp[h.size];omega,λi g hi P2 hg=>?_,λi hi=>?_,λz k=>?_,h.tl.fork R J h.deaf0 (h.above _ (bg _)) λb o v F=>let ⟨h1,h2,H,O,_⟩:=I b o v F;⟨h1,h2,H,O⟩,λad=>(h.norel ad).app λop mo=>?_,by rw[Deaf_still t 0 _ d,h.deaf0],λz k=>?_,λz k e=>?_,λz k u=>?_,λz k e=>?_,h.pay,h.live,h.Ba,h.Du,h.M4,h.kc,λz k b o v F=>?_⟩
 .rw[q i hi (by omega)]at hg;obtain⟨m,h1,h2⟩:=h.lv i g hi P2 hg;exact⟨m,by rw[upd_ne K _ (by omega)];exact h1,by rw[Deaf_still t _ _ d];exact h2⟩
 .rw[Deaf_still t _ _ d];exact h.above i (by omega)
 .rcases cG z j with vJ|a
  .obtain⟨g,hg,G⟩:=h.wk z vJ;exact⟨g,by grind,by rw[upd_ne D _ (by omega),upd_ne A _ (by omega),upd_ne K _ (by omega)];exact G⟩
  .obtain rfl:z=j:=by omega
   refine⟨child,?_,by rw[upd_same,upd_same,upd_same];exact .am L B Q⟩;rw[show Y.base+z=(gs.setIfInBounds 0 a').size by simp[h.size],Array.getElem?_push_size]
 .grind
 .rw[Deaf_still t _ _ d];rcases cG z j with vJ|a
  .rw[h.deafW z vJ,upd_ne D _ (by omega)]
  .obtain rfl:z=j:=by omega
   rw[upd_same];exact h.above _ (bg _)
 .rcases cG z j with vJ|a
  .rw[upd_ne D _ (by omega)]at e;obtain⟨r,B⟩:=h.rel z vJ e;refine⟨r,B.appNot λop mo=>?_⟩;grind
  .obtain rfl:z=j:=by omega
   rw[upd_same]at e;grind
 .rcases cG z j with vJ|a
  .rw[upd_ne A _ (by omega)]at u;exact h.x3 z vJ u
  .obtain rfl:z=j:=by omega
   rw[upd_same]at u;grind
 .rcases cG z j with vJ|a
  .rw[upd_ne D _ (by omega)]at e;exact h.BI z vJ e
  .obtain rfl:z=j:=by omega
   rw[upd_same]at e;grind
 .rcases cG z j with vJ|a
  .exact h.NO z vJ b o v F
  grind
end
end
section
open Go.Conc
open Go.ConcN (WD CTag Mode Vc Ssum pend phi cnt WgLive PayAt Has RW DWs WSit RelBy sumTo upd upd_same upd_ne AtR0)
open Go.ConcR (KK WgAt stA smA rd wr mk Payload g_of_ofEvents again_blocked)
variable [Payload]
section
variable (P:aq)(ty:aj)(Y:Lay)(N:Nat)(val:Nat->Nat->ah)(n:Nat)(T l:au->St->Prop)
def AtAcq(g:au)(s:St):Prop:=g.status=.running/\∃g',(∀w,aG P ab g w=.go g' w #[mk (.acquire (stA Y.Wg))])/\∀c,(Cx.lead P ty Y.Wg).rely s c->T g' c
def AtKe(g:au)(s:St):Prop:=g.status=.running/\∃g',(∀w,aG P ab g w=.go g' w #[mk .enable])/\∀c,(Cx.lead P ty Y.Wg).rely s c->(en (Cx.lead P ty Y.Wg) (Es Y.Wg)) (AtAcq P ty Y T) g' c
def AtW4(g:au)(s:St):Prop:=g.status=.running/\∀c,(Cx.lead P ty Y.Wg).rely s c->WgAt ty Y.Wg c.w 0 0->∃g',aG P ab g c.w=.go g' c.w #[rd (stA Y.Wg)]/\(en (Cx.lead P ty Y.Wg) (Es Y.Wg)) (AtKe P ty Y T) g' c
def AtW3(g:au)(s:St):Prop:=g.status=.running/\g.offers=af/\∀c,(Cx.lead P ty Y.Wg).rely s c ->
 ((∃st,WgAt ty Y.Wg c.w st 0)->aG P ab g c.w=.go {g with status:=.blocked} c.w #[]) /\
 (WgAt ty Y.Wg c.w 0 1->∃g',aG P ab g c.w=.go g' (c.w.setCell (smA Y.Wg) (.int .u32 0)) (semEvents (smA Y.Wg))/\(en (Cx.lead P ty Y.Wg) (Es Y.Wg)) (AtW4 P ty Y T) g' {c with w:=c.w.setCell (smA Y.Wg) (.int .u32 0)})
def AtW2(vs:Nat)(g:au)(s:St):Prop:=g.status=.running/\∀c,(Cx.lead P ty Y.Wg).rely s c->∀v:Nat,v<2147483648->WgAt ty Y.Wg c.w (v*KK) 0 ->
 (v=vs->∃g',aG P ab g c.w=.go g' (c.w.setCell (stA Y.Wg) (.int .u64 (v*KK+1))) #[rd (stA Y.Wg),wr (stA Y.Wg)]/\(en (Cx.lead P ty Y.Wg) (Es Y.Wg)) (AtW3 P ty Y T) g' {c with w:=c.w.setCell (stA Y.Wg) (.int .u64 (v*KK+1))}) /\
 (v≠vs->∃g',aG P ab g c.w=.go g' c.w #[rd (stA Y.Wg)]/\l g' c)
def AtW1(g:au)(s:St):Prop:=g.status=.running/\∀c,(Cx.lead P ty Y.Wg).rely s c->∀v:Nat,v<2147483648->WgAt ty Y.Wg c.w (v*KK) 0 ->
 ∃g',aG P ab g c.w=.go g' c.w #[rd (stA Y.Wg)]/\(v=0->(en (Cx.lead P ty Y.Wg) (Es Y.Wg)) (AtKe P ty Y T) g' c)/\(v≠0->(en (Cx.lead P ty Y.Wg) (Es Y.Wg)) (AtW2 P ty Y T l v) g' c)
def AtKd(g:au)(s:St):Prop:=g.status=.running/\∃g',(∀w,aG P ab g w=.go g' w #[mk .disable])/\∀c,(Cx.lead P ty Y.Wg).rely s c->l g' c
def St.child(s:St):St:={β:=[],M:=s.M,w:=s.w,own:=λ_=>False}
def AtGo(j:Nat)(Next:au->St->Prop)(g:au)(s:St):Prop:=g.status=.running/\∀c,(Cx.lead P ty Y.Wg).rely s c ->
 ∃g' child,aG P ab g c.w=.spawn g' child c.w #[]/\child.status=.running/\en (Cx.work P) E0 (JH P ty Y N val j) child c.child/\Next g' c
def AtKeS(j:Nat)(Next:au->St->Prop)(g:au)(s:St):Prop:=g.status=.running/\∃g',(∀w,aG P ab g w=.go g' w #[mk .enable])/\∀c,(Cx.lead P ty Y.Wg).rely s c->(en (Cx.lead P ty Y.Wg) (Es Y.Wg)) (AtGo P ty Y N val j Next) g' c
def AtA1(j:Nat)(Next:au->St->Prop)(g:au)(s:St):Prop:=g.status=.running/\∀c,(Cx.lead P ty Y.Wg).rely s c->∀v:Nat,v<2147483647->WgAt ty Y.Wg c.w (v*KK) 0 ->
 ∃g',aG P ab g c.w=.go g' (c.w.setCell (stA Y.Wg) (.int .u64 ((v+1)*KK))) #[rd (stA Y.Wg),wr (stA Y.Wg)]/\(en (Cx.lead P ty Y.Wg) (Es Y.Wg)) (AtKeS P ty Y N val j Next) g' {c with w:=c.w.setCell (stA Y.Wg) (.int .u64 ((v+1)*KK))}
def AtKdS(j:Nat)(Next:au->St->Prop)(g:au)(s:St):Prop:=g.status=.running/\∃g',(∀w,aG P ab g w=.go g' w #[mk .disable])/\∀c,(Cx.lead P ty Y.Wg).rely s c->(en (Cx.lead P ty Y.Wg) (Es Y.Wg)) (AtA1 P ty Y N val j Next) g' c
def Spawns:Nat->au->St->Prop
 |0,g,s=>(en (Cx.lead P ty Y.Wg) (Es Y.Wg)) (AtKd P ty Y l) g s
 |r+1,g,s=>(en (Cx.lead P ty Y.Wg) (Es Y.Wg)) (AtKdS P ty Y N val (n-(r+1)) (Spawns r)) g s
def Rk.lift:Rk->Rk
 |.leaf=>.node λ_=>.leaf
 |.node f=>.node λs=>Rk.lift (f s)
omit [Payload]in
def Rk.FX:∀{x r:Rk},Rk.lt x r->Rk.lt x.lift r.lift
 |_,.leaf,h=>h.elim
 |_,.node _,⟨s,h⟩=>⟨s,h.elim (λe=>.inl (by rw[e])) λh=>.inr (Rk.FX h)⟩
omit [Payload]in
def Rk.JJ(s:St):∀r:Rk,∃x,Rk.lt x r.lift
 |.leaf=>⟨.leaf,s,.inl rfl⟩
 |.node f=>⟨(f s).lift,s,.inl rfl⟩
inductive CS:CTag->Nat->Rk->Nat->au->St->Prop
 |skd {r:Nat} {rk:Rk} {g:au} {s:St}:r<n->(ko (Cx.lead P ty Y.Wg) (Es Y.Wg)) (AtKdS P ty Y N val (n-(r+1)) (Spawns P ty Y N val n l r)) rk g s->CS (.sp r 5) (n-(r+1)) rk 0 g s
 |sa1 {r:Nat} {rk:Rk} {g:au} {s:St}:r<n->(ko (Cx.lead P ty Y.Wg) (Es Y.Wg)) (AtA1 P ty Y N val (n-(r+1)) (Spawns P ty Y N val n l r)) rk g s->CS (.sp r 4) (n-(r+1)) rk 1 g s
 |ske {r:Nat} {rk:Rk} {g:au} {s:St}:r<n->(ko (Cx.lead P ty Y.Wg) (Es Y.Wg)) (AtKeS P ty Y N val (n-(r+1)) (Spawns P ty Y N val n l r)) rk g s->CS (.sp r 3) (n-(r+1)) rk 1 g s
 |sgo {r:Nat} {rk:Rk} {g:au} {s:St}:r<n->(ko (Cx.lead P ty Y.Wg) (Es Y.Wg)) (AtGo P ty Y N val (n-(r+1)) (Spawns P ty Y N val n l r)) rk g s->CS (.sp r 2) (n-(r+1)) rk 0 g s
 |kd {rk:Rk} {g:au} {s:St}:(ko (Cx.lead P ty Y.Wg) (Es Y.Wg)) (AtKd P ty Y l) rk g s->CS .kd n rk 0 g s
 |w1 {rk:Rk} {g:au} {s:St}:(ko (Cx.lead P ty Y.Wg) (Es Y.Wg)) (AtW1 P ty Y T l) rk g s->CS .w1 n rk 1 g s
 |w2 {vs:Nat} {rk:Rk} {g:au} {s:St}:(ko (Cx.lead P ty Y.Wg) (Es Y.Wg)) (AtW2 P ty Y T l vs) rk g s->CS (.w2 vs) n rk 1 g s
 |w3 {rk:Rk} {g:au} {s:St}:(ko (Cx.lead P ty Y.Wg) (Es Y.Wg)) (AtW3 P ty Y T) rk g s->CS .w3 n rk.lift 1 g s
 |blk {rk:Rk} {g:au} {s:St}:AtW3 P ty Y T g s->CS .blk n rk 1 {g with status:=.blocked} s
 |w4 {rk:Rk} {g:au} {s:St}:(ko (Cx.lead P ty Y.Wg) (Es Y.Wg)) (AtW4 P ty Y T) rk g s->CS .w4 n rk 1 g s
 |ke {rk:Rk} {g:au} {s:St}:(ko (Cx.lead P ty Y.Wg) (Es Y.Wg)) (AtKe P ty Y T) rk g s->CS .ke n rk 1 g s
 |acq {rk:Rk} {g:au} {s:St}:(ko (Cx.lead P ty Y.Wg) (Es Y.Wg)) (AtAcq P ty Y T) rk g s->CS .acq n rk 0 g s
structure Fin(p:Nat->Nat)(o:Nat->Mem)(m:Machine)(t:Trace):Prop where
 out:∃(gs:Array au) (w:az) (sl:Option (Nat×Nat)) (a:au) (s:St) (q:Nat->Nat),m=crowd gs w sl/\gs[0]?=aa a/\gs.size=Y.base+n/\T a {s with w:=w}/\cp s {s with w:=w}/\jL Y p o n s /\
  Leavers P t gs q/\Past (lV λb=>Y.Sh b∨b=Y.Wg) w.heap.size t/\rV t/\PayAt Y.C N w/\(∀x,x<n->∀i,i<Y.kc->w.cell? ⟨Y.C,Y.kc*x+i,af⟩=aa (val x i))/\Y.C<w.heap.size/\Y.Wg<w.heap.size/\∀b,Y.Sh b->b<w.heap.size
abbrev Mu:=Nat×((Nat->Rk)×Rk)
def FY(M:Nat):Mu->Mu->Prop:=Prod.Lex (· < ·) (Prod.Lex (Vec M) Rk.lt)
omit [Payload]in
def RE(M:Nat):WellFounded (FY M):=(Prod.lex Nat.lt_wfRel ⟨_,(Prod.lex ⟨Vec M,JG M⟩ ⟨Rk.lt,⟨Rk.acc⟩⟩).wf⟩).wf
structure tq(μ:Mu)(gs:Array au)(w:az)(t:Trace)(p:Nat->Nat)(o:Nat->Mem)(j:Nat)(D:Nat->WD)(A:Nat->Nat)(K:Nat->Rk)(d0:Nat)(tag:CTag)(rk:Rk)(a:au)(s:St)(st sm:Int):Prop where
 a0:gs[0]?=aa a
 cs:CS P ty Y N val n T l tag j rk d0 a s
 rely:cp s {s with w:=w}
 lead:jL Y p o j s
 gq:Com P ty Y N val p o j gs w t D A K d0
 wg:WgAt ty Y.Wg w st sm
 mode:Go.ConcN.Mode j D tag st sm
 mu:μ=(phi n (Vc j D) tag+Ssum j D+sumTo j A,(K,rk))
def Inv(b:Mu)(m:Machine)(t:Trace):Prop :=
 ∃(gs:Array au) (w:az) (sl:Option (Nat×Nat)) (p:Nat->Nat) (o:Nat->Mem) (j:Nat) (D:Nat->WD) (A:Nat->Nat) (K:Nat->Rk) (i:Nat) (tag:CTag) (rk:Rk) (a:au) (s:St) (st sm:Int),
  m=crowd gs w sl/\tq P ty Y N val n T l b gs w t p o j D A K i tag rk a s st sm
end
section
variable {P:aq}{ty:aj}{Y:Lay}{N:Nat}{val:Nat->Nat->ah}{n:Nat}{T l:au->St->Prop}{p hm':Nat->Nat}{o:Nat->Mem}{j:Nat}{tag:CTag}{rk:Rk}{d:Nat}{a:au}{s:St}{w w':az}
omit [Payload]in
def fU{s:St}(h:cp s {s with w:=w})(B:WgLive ty Y.Wg w):(Cx.lead P ty Y.Wg).rely s {s with w:=w}:=⟨h,λ_=>B⟩
omit [Payload]in
def AtW3.rely{g:au}{c:St}(h:AtW3 P ty Y T g s)(u:(Cx.lead P ty Y.Wg).rely s c):AtW3 P ty Y T g c :=
 ⟨h.1,h.2.1,λs2 z=>h.2.2 s2 ⟨u.1.trans z.1,λx=>z.2 (u.2 x)⟩⟩
def CS.status(h:CS P ty Y N val n T l tag j rk d a s):(a.status=.running/\tag≠.blk)∨(a.status=.blocked/\tag=.blk):=by
 cases h with
 |skd _ h=>exact .inl ⟨h.run λ_ _ x=>x.1,by simp⟩
 |sa1 _ h=>exact .inl ⟨h.run λ_ _ x=>x.1,by simp⟩
 |ske _ h=>exact .inl ⟨h.run λ_ _ x=>x.1,by simp⟩
 |sgo _ h=>exact .inl ⟨h.run λ_ _ x=>x.1,by simp⟩
 |kd h=>exact .inl ⟨h.run λ_ _ x=>x.1,by simp⟩
 |w1 h=>exact .inl ⟨h.run λ_ _ x=>x.1,by simp⟩
 |w2 h=>exact .inl ⟨h.run λ_ _ x=>x.1,by simp⟩
 |w3 h=>exact .inl ⟨h.run λ_ _ x=>x.1,by simp⟩
 |blk h=>grind
 |w4 h=>exact .inl ⟨h.run λ_ _ x=>x.1,by simp⟩
 |ke h=>exact .inl ⟨h.run λ_ _ x=>x.1,by simp⟩
 |acq h=>exact .inl ⟨h.run λ_ _ x=>x.1,by simp⟩
def CS.wokenBy(h:CS P ty Y N val n T l tag j rk d a s)(g g':au)(w':az):
  ∃tag' rk',CS P ty Y N val n T l tag' j rk' d (woken P g g' w' a) s/\(tag'=tag∨(tag=.blk/\tag'=.w3))/\(mayWake P g=ab->g'.status=.running->tag'≠.blk):=by
 unfold Go.Conc.woken;split
 .rcases h.status with⟨i,b⟩|⟨_,rfl⟩
  .grind [again_running]
  .cases h with
   |blk hb=>exact⟨.w3,Rk.lift .leaf,by rw[again_blocked hb.1 hb.2.1];exact .w3 (show ko _ _ _ .leaf _ _ from hb),.inr ⟨rfl,rfl⟩,λ_ _=>by simp⟩
 grind
def kU{μ:Mu}{gs:Array au}{sl:Option (Nat×Nat)}{t:Trace}{D:Nat->WD}{A:Nat->Nat}{K:Nat->Rk}{st sm:Int}(I:tq P ty Y N val n T l μ gs w t p o j D A K d tag rk a s st sm){x:Nat}(W:x<j){g g':au}{es:Array Event}{a' s' d':Nat}{r':Rk}{F H:Int}(hg:gs[Y.base+x]?=aa g)(hgo:aG P ae g w=.go g' w' es)(hh:∀b,b<w.heap.size->hm' b=p b)(DG:w.heap.size<=w'.heap.size)(O:∀y,y<j->y≠x->Ho Y p (o y) y w w')(G:DY Y p w w')(hws:WS P ty Y N val hm' o x a' s' r' d' g' w')(S:∀e∈es,(aJ e).low w'.heap.size)(Xa:∀e∈es,∀a,(aJ e).touch?=aa a->a.loc.isMemory=ab->qL Y hm' (o x) x a)(X:∀e∈es,∀a,e.loc≠.mark (.release a))(J:deafBehind (D x).deaf es=d')(Q:s'<=6->∃r,RelBy (stA Y.Wg) (t++MemOp.ofEvents (Y.base+x) g.frame.fn g.frame.place es) (Y.base+x) r)(h1:a'=0->∀i,1<=i->i<Y.kc->w'.cell? ⟨Y.C,Y.kc*x+i,af⟩=aa (val x i))(h0:s'<=6->Has Y.C (Y.kc*x) (val x 0) w')(R:PayAt Y.C N w')(L:WgAt ty Y.Wg w' F H)(E:∀tag',(tag'=tag∨(tag=.blk/\tag'=.w3))->(mayWake P g=ab->g'.status=.running->tag'≠.blk)->Go.ConcN.Mode j (upd D x ⟨s',0,d'⟩) tag' F H)(Z:(s'+a'<(D x).stage+A x/\cnt ⟨s',0,d'⟩<=cnt (D x))∨(s'=(D x).stage/\a'=A x/\Rk.lt r' (K (Y.base+x))))(hjn:Y.base+j<=Y.base+n):
  ∃m ops μ',runT P (crowd gs w sl) (Y.base+x)=(.next m,ops)/\FY (Y.base+n) μ' μ/\Inv P ty Y N val n T l μ' m (t++ops):=by
 have hb:=I.gq.tl.base;obtain⟨tag',rk',U,q,X4⟩:=I.cs.wokenBy g g' w';have Xz:(Y.base+x==0)=ae:=by grind
 have V:=runT_crowd_go (P:=P) (sl:=sl) (i:=Y.base+x) hg (by rw[Xz];exact hgo)
 have e1:=Go.ConcN.sumTo_upd D (⟨s',0,d'⟩:WD) cnt W;have e2:=Go.ConcN.sumTo_upd D (⟨s',0,d'⟩:WD) WD.stage W;have e3:sumTo j (upd A x a')+A x=sumTo j A+a':=Go.ConcN.sumTo_upd A a' id W;refine⟨_,_,(phi n (Vc j (upd D x ⟨s',0,d'⟩)) tag'+Ssum j (upd D x ⟨s',0,d'⟩)+sumTo j (upd A x a'),(upd K (Y.base+x) r',rk')),V,?_,
  _,w',sl,hm',o,j,_,_,_,d,tag',rk',woken P g g' w' a,s,F,H,rfl,⟨by rw[Go.ConcN.get_map_set _ _ _ _ (by omega),I.a0];rfl,U,I.lead.JI I.rely G,I.lead.tn I.rely.size hh,
   I.gq.stepW W hh DG O hws S Xa X J Q h1 h0 R ⟨_,_,L⟩,L,E tag' q X4,rfl⟩⟩
 rw[I.mu,Go.ConcN.phi_retag n _ q];simp only[Vc,Ssum]at *;rcases Z with⟨q1,q2⟩|⟨q1,q2,q3⟩
 .refine Prod.Lex.left _ _ ?_;have:=Go.ConcN.phi_mono n (v':=sumTo j λa=>cnt (upd D x ⟨s',0,d'⟩ a)) (v:=sumTo j λa=>cnt (D a)) (by omega) tag;omega
 .have ec:cnt (⟨s',0,d'⟩:WD)=cnt (D x):=by simp only[cnt,q1]
  have ev:(sumTo j λa=>cnt (upd D x ⟨s',0,d'⟩ a))=sumTo j λa=>cnt (D a):=by omega
  have es':(sumTo j λa=>(upd D x ⟨s',0,d'⟩ a).stage)=sumTo j λa=>(D a).stage:=by omega
  have ea:sumTo j (upd A x a')=sumTo j A:=by omega
  rw[ev,es',ea];exact Prod.Lex.right _ (Prod.Lex.left _ _ ⟨Y.base+x,by omega,by rw[upd_same];exact q3,λk hk=>upd_ne K _ hk⟩)
end
end
section
open Go.Conc
open Go.ConcN (WD CTag Vc Ssum pend phi cnt WgLive PayAt Has RW DWs WSit RelBy sumTo upd upd_same upd_ne AtR0 isW3 isOpen OpenSt deafBehind_idle bk_cell okW_none Vc_upd Vc_le le_sumTo others_uncounted)
open Go.ConcR (KK WgAt stA smA rd wr mk Payload g_of_ofEvents Bk bk_of_mute ofEvent_loc_mark ofEvent_cell)
variable [Payload]
section
variable {P:aq}{ty:aj}{Y:Lay}{N:Nat}{val:Nat->Nat->ah}{n:Nat}{T G:au->St->Prop}{E hm':Nat->Nat}{O:Nat->Mem}{j:Nat}{tag:CTag}{rk:Rk}{d:Nat}{a:au}{s:St}{w w':az}
omit [Payload]in
def Ho.wg(h:Aside Y.Wg w w')(F:E Y.Wg=0)(k:1<=Y.base)(hM:∀b o v,O j b o=aa v->b≠Y.Wg)(hC:Y.C≠Y.Wg):Ho Y E (O j) j w w' :=
 ⟨by rw[h.size];grind,λb _ Dq=>h.block b (λe=>by grind),λb o v H V=>by rw[jM (h.block b (hM b o v H))];exact V,λo _ _=>jM (h.block _ hC) o,h.os,h.tape,h.output⟩
omit [Payload]in
def DY.wg(h:Aside Y.Wg w w'):DY Y E w w':=⟨by rw[h.size];grind,λb _ _ _ z=>h.block b z,h.os,h.tape,h.output⟩
omit [Payload]in
def DY.refl(w:az):DY Y E w w:=⟨bg _,λ_ _ _ _ _=>rfl,rfl,rfl,rfl⟩
omit [Payload]in
def JK{B:Nat}{es:Array Event}(h:∀e∈es,Bk Y.Wg e)(F:Y.Wg<B):∀e∈es,(aJ e).low B:=by
 intro e c;rcases h e c with p|p|⟨ad,wr,rfl,J⟩
 .rw[ofEvent_loc_mark p];trivial
 .rw[ofEvent_loc_mark p];trivial
 .rw[ofEvent_cell];show ad.block<B;grind
omit [Payload]in
def NP{x:Nat}{es:Array Event}(h:∀e∈es,Bk Y.Wg e):∀e∈es,∀a,(aJ e).touch?=aa a->a.loc.isMemory=ab->qL Y E (O x) x a:=by
 intro e c b k _;rcases h e c with p|p|⟨ad,wr,rfl,J⟩
 .rw[ofEvent_loc_mark p]at k;cases k
 .rw[ofEvent_loc_mark p]at k;cases k
 .rw[ofEvent_cell]at k;simp only[MemAct.touch?,dr]at k;subst k;exact .inl ⟨ad,rfl,J,rfl⟩
omit [Payload]in
def BJ{es:Array Event}(h:∀e∈es,Bk Y.Wg e):∀e∈es,∀a,e.loc≠.mark (.release a):=by
 intro e c a X;rcases h e c with p|p|⟨ad,wr,rfl,_⟩
 .grind
 .grind
 grind
omit [Payload]in
def NR{x:Nat}{σ σ':List aP}{s2:St}{es:Array Event}(U:lZ E (O x) (Y.base+x) s)(S:aE σ s)(R:fb s es)(st:Step σ s σ' s2):
  (∀e∈es,(aJ e).low s2.w.heap.size)/\(∀e∈es,∀a,(aJ e).touch?=aa a->a.loc.isMemory=ab->qL Y (ny E s.w.heap.size (Y.base+x)) (O x) x a) /\
  (∀e∈es,e.loc≠.mark .disable/\e.loc≠.mark .enable)/\∀e∈es,∀a,e.loc≠.mark (.release a):=by
 have key:∀e∈es,(aJ e).low s2.w.heap.size/\(∀a,(aJ e).touch?=aa a->a.loc.isMemory=ab->qL Y (ny E s.w.heap.size (Y.base+x)) (O x) x a)/\(e.loc≠.mark .disable/\e.loc≠.mark .enable)/\∀a,e.loc≠.mark (.release a):=by
  intro e c;have h:=R e c;obtain⟨loc,wr,sy⟩:=e;cases loc with
  |cell ad =>
   obtain⟨p,z,l⟩:=h;simp only at p z l;subst p;have u:ad.block<s.w.heap.size:=by
    rcases l with l|⟨⟨L,Q,l⟩,_⟩|⟨_,v,l⟩
    .exact l.elim
    .exact S.lt L Q _ l
    .exact gM.lt S.mem l
   refine⟨by rw[ofEvent_cell];exact cW u st.size,λb k _=>?_,⟨by simp,by simp⟩,by simp⟩;rw[ofEvent_cell]at k;simp only[MemAct.touch?,dr]at k;subst k;refine .inr ⟨rfl,?_⟩;rcases l with l|⟨⟨L,Q,l⟩,_⟩|⟨Z,v,l⟩
   .exact l.elim
   .exact .inl ⟨ad.block,rfl,by rw[fe u];exact(U.blk _ (.inr ⟨L,Q,l⟩)).1⟩
   .rcases(U.M _ _ _ l).1 with W|W
    .exact .inl ⟨ad.block,rfl,by grind[fe]⟩
    .refine .inr (.inr ⟨Z,ad.block,ad.off,v,?_,W⟩);obtain⟨b,o,sp⟩:=ad;grind
  |obj r =>
   obtain⟨p,z⟩:=h;simp only at p z;subst p;obtain⟨L,Q,l⟩:=z.resolve_left id;have u:=S.lt L Q _ l;refine⟨?_,λb k _=>?_,⟨by simp,by simp⟩,by simp⟩
   .simp[aJ,MemAct.low,Loc.low];exact cW u st.size
   .simp[aJ,MemAct.touch?]at k;subst k;exact .inr ⟨rfl,.inl ⟨r,rfl,by rw[fe u];exact(U.blk _ (.inr ⟨L,Q,l⟩)).1⟩⟩
  |mark m =>
   simp only[oh]at h;rcases h with rfl|⟨f,rfl⟩
   .exact⟨by simp[aJ,MemAct.low],λb k=>by simp[aJ,MemAct.touch?]at k,⟨by simp,by simp⟩,by simp⟩
   .exact⟨by simp[aJ,MemAct.low],λb k=>by simp[aJ,MemAct.touch?]at k,⟨by simp,by simp⟩,by simp⟩
  |_=>exact h.elim
 grind
def stepWorker{μ:Mu}{gs:Array au}{sl:Option (Nat×Nat)}{t:Trace}{D:Nat->WD}{A:Nat->Nat}{K:Nat->Rk}{st sm:Int}(I:tq P ty Y N val n T G μ gs w t E O j D A K d tag rk a s st sm)(hn:n<2147483648)(hj:j<=n)(hpd:j+pend tag<=n){x:Nat}(hx:x<j){g:au}(hg:gs[Y.base+x]?=aa g)(wj:g.status=.running):
  ∃m₁ ops μ',runT P (crowd gs w sl) (Y.base+x)=(.next m₁,ops)/\FY (Y.base+n) μ' μ/\Inv P ty Y N val n T G μ' m₁ (t++ops):=by
 have JL:=I.gq.tl.base;obtain⟨g₁,Z4,hs⟩:=I.gq.wk x hx;obtain rfl:g=g₁:=by grind
 generalize FZ:(D x).stage=sg at hs;generalize Z5:K (Y.base+x)=r at hs;generalize UH:(D x).deaf=dd at hs;generalize hA:A x=ax at hs;have Z6:Deaf t (Y.base+x)=dd:=by rw[I.gq.deafW x hx,UH]
 have hVj:=Vc_le j D;have same:∀m' F0,Go.ConcN.Mode j (upd D x ⟨sg,m',F0⟩) tag st sm:=λm' F0=>by have:=I.mode.same (i:=x) m' F0;grind
 cases hs with
 |@am r g s0 w p z l =>
  rcases p.norm (λs0=>cp s0 {s0 with w:=w}/\lZ E (O x) (Y.base+x) s0) (λs0 s' UI hi=>⟨hi.1.ghost UI,hi.2.ghost UI⟩) (λ_ s0 s' UI hi=>⟨hi.1.forget UI,hi.2.forget UI⟩) ⟨z,l⟩with⟨s',⟨k1,k2⟩,jN⟩|⟨_,s',⟨k1,k2⟩,l0⟩
  ·
   obtain⟨g',w2,es,hgo,F,X6,m,hk⟩:=jN.2 w k1 I.gq.pay I.gq.live;have Z7:=I.gq.kc;refine kU I hx hg hgo (hm':=E) (λ_ _=>rfl) (by rw[F.size];grind) (λy hy Z8=>⟨by rw[F.size];grind,λb _ k=>F.block b (λe=>by rw[e,I.gq.tl.hC]at k;omega),λb o v H V=>?_,λo Z9 ho2=>F.out o ?_,F.os,F.tape,F.output⟩)
    ⟨by rw[F.size];grind,λb _ _ z _=>F.block b z,F.os,F.tape,F.output⟩ (.rel hk) (λe c=>?_) (λe c b k _=>?_) (λe c=>?_) ?_ (λh=>absurd h (by decide)) (λ_ i _ hi=>F.new i hi) (λh=>absurd h (by decide)) F.pay
    (I.wg.of_block (F.block _ (Ne.symm I.gq.tl.ne))) (λ_ ht _=>(same _ _).retag ht) (.inl ⟨by omega,by simp[cnt,FZ]⟩) (by omega)
   .rw[jM (F.block b (I.gq.tl.ms y hy b o v H).2.1)];exact V
   .rcases Nat.lt_or_gt_of_ne Z8 with h|h
    .have:=u5 Y.kc (show y+1<=x from h);grind
    .have:=u5 Y.kc (show x+1<=y from h);grind
   .obtain⟨o,rfl,_⟩:=X6 e c;rw[ofEvent_cell];show Y.C<_;rw[F.size];exact I.gq.Du
   .obtain⟨o,rfl,Z9,ho2⟩:=X6 e c;rw[ofEvent_cell]at k;simp only[MemAct.touch?,dr]at k;subst k;exact .inr ⟨rfl,.inr (.inl ⟨o,rfl,Z9,ho2⟩)⟩
   .grind
   .rw[UH];exact deafBehind_idle (λe c=>by grind) 0
  ·
   obtain⟨g',s2,es,r',hgo,X7,MY,u⟩:=l0 _ k1;obtain⟨⟨σ,σ',S,iX,IU⟩,R⟩:=X7.resolve_right id;have k3:lZ E (O x) (Y.base+x) {s' with w:=w}:=k2.rely k1.size;obtain⟨e1,e2,e3,e4⟩:=NR k3 S R IU;have wC:∀b,b<w.heap.size->E b≠Y.base+x->s2.w.heap[b]?=w.heap[b]?:=λb k Bi=>IU.fi b k λL Q Nc=>Bi (k3.blk b (.inr ⟨L,Q,Nc⟩)).1;refine kU I hx hg hgo (hm':=ny E w.heap.size (Y.base+x)) (λb k=>fe k) IU.size (λy hy Z8=>⟨IU.size,λb k hby=>wC b k (by omega),λb o v H V=>?_,λo _ _=>jM (wC _ I.gq.Du (by rw[I.gq.tl.hC];omega)) o,IU.os,IU.tape,IU.output⟩)
    ⟨IU.size,λb k h0 _ _=>wC b k (by omega),IU.os,IU.tape,IU.output⟩ (.am MY (cp.wB iX.mem) (k3.step iX IU)) e1 e2 e4 (by rw[UH];exact deafBehind_idle e3 0) (λh=>absurd h (by decide)) (λh=>absurd h (by decide)) (λh=>absurd h (by decide)) ?_
    (I.wg.of_block (wC _ I.gq.Ba (by rw[I.gq.tl.IS];omega))) (λ_ ht _=>(same _ _).retag ht) (.inr ⟨FZ.symm,hA.symm,by grind⟩) (by omega)
   .rw[jM (wC b (I.gq.NO y hy b o v H) (by rw[(I.gq.tl.ms y hy b o v H).1];omega))];exact V
   .obtain⟨cs,c1,c2⟩:=I.gq.pay;exact⟨cs,(wC _ I.gq.Du (by rw[I.gq.tl.hC];omega)).trans c1,c2⟩
 |@rel m g w h =>
  rcases Goes.cases h with jN|⟨m',rfl,l0⟩
  ·
   obtain⟨_,acm,g',hgo,m₂,hk⟩:=jN w (Go.ConcN.RW.refl w);refine kU I hx hg hgo (hm':=E) (λ_ _=>rfl) (bg _) (λy _ _=>.refl ..) (.refl w) (.tail (by decide) (.k1 hk)) (λe c=>?_) (λe c b k _=>?_) (λe c=>?_) (by rw[UH];rfl) (λ_=>⟨t.size,RelBy.new Z6 _ _⟩) (λ_=>I.gq.x3 x hx hA) (λ_=>by grind) I.gq.pay I.wg
    (λ_ ht _=>(I.mode.counted hx (by omega) (.inl rfl) _ _).retag ht) (.inl ⟨by omega,by simp[cnt,FZ]⟩) (by omega)
   .simp at c;subst c;exact I.gq.Ba
   .simp at c;subst c;simp[mk,aJ,MemAct.touch?]at k
   .simp at c;subst c;simp[mk]
  .obtain⟨g',w',es,hgo,⟨rfl,rfl⟩,F1⟩:=l0 w (Go.ConcN.RW.refl w);exact kU I hx hg hgo (hm':=E) (λ_ _=>rfl) (bg _) (λy _ _=>.refl ..) (.refl w') (.rel F1) (by simp) (by simp) (by simp) (by rw[UH];rfl) (λh=>absurd h (by decide)) (λ_=>I.gq.x3 x hx hA) (λh=>absurd h (by decide)) I.gq.pay I.wg (λ_ ht _=>(same _ _).retag ht)
    (.inr ⟨FZ.symm,hA.symm,by rw[Z5];exact Rk.DX _ s⟩) (by omega)
 |@tail sg m dd g w h6 h =>
  have P3:∀{g':au} {w':az} {es:Array Event} {s' m' F0:Nat} {qE Hp:Int},aG P ae g w=.go g' w' es->Aside Y.Wg w w'->WgAt ty Y.Wg w' qE Hp->(∀e∈es,Bk Y.Wg e) ->
    (∀jx e,es[jx]?=aa e->(aJ e).touch?=af∨0<deafBehind dd (es.extract 0 jx))->s'<=6->WSit P ty Y.Wg Y.C N P1 P1 0 (Y.kc*x+1) (val x 0) s' m' F0 g' w'->deafBehind dd es=F0 ->
    (∀tag',(tag'=tag∨(tag=.blk/\tag'=.w3))->(mayWake P g=ab->g'.status=.running->tag'≠.blk)->Go.ConcN.Mode j (upd D x ⟨s',0,F0⟩) tag' qE Hp)->((s'<sg/\cnt ⟨s',0,F0⟩<=cnt (D x))∨(s'=sg/\m'+1=m)) ->
    ∃m₁ ops μ',runT P (crowd gs w sl) (Y.base+x)=(.next m₁,ops)/\FY (Y.base+n) μ' μ/\Inv P ty Y N val n T G μ' m₁ (t++ops):=by
   intro g' w' es s' m' F0 qE Hp hgo NS JM Hq hd X8 UJ hdd wD u;obtain⟨cs,X9,Ya⟩:=I.gq.pay;refine kU I hx hg hgo (hm':=E) (λ_ _=>rfl) (by rw[NS.size];grind) (λy hy _=>.wg NS I.gq.tl.IS JL (λb o v H=>(I.gq.tl.ms y hy b o v H).2.2.1) I.gq.tl.ne) (.wg NS) (.tail X8 UJ) (JK Hq (by rw[NS.size];exact I.gq.Ba)) (NP Hq) (BJ Hq) (by grind)
    (λ_=>let ⟨r,hr⟩:=I.gq.rel x hx (by omega);⟨r,hr.book Z6 _ _ Hq hd⟩) (λ_ i hi1 M3=>(jM (NS.block _ I.gq.tl.ne) _).trans (I.gq.x3 x hx hA i hi1 M3)) (λ_=>(jM (NS.block _ I.gq.tl.ne) _).trans (I.gq.BI x hx (by omega))) ⟨cs,(NS.block _ I.gq.tl.ne).trans X9,Ya⟩ JM wD
    (u.imp (λh=>⟨by omega,h.2⟩) λh=>⟨by omega,hA.symm,by rw[Z5,<-h.2];exact Rk.DX _ s⟩) (by omega)
  have book:∀{g':au} {w':az} {es:Array Event} {s' m' F0:Nat} {qE Hp:Int},aG P ae g w=.go g' w' es->Aside Y.Wg w w'->WgAt ty Y.Wg w' qE Hp->(∀e∈es,Bk Y.Wg e) ->
    (∀jx e,es[jx]?=aa e->(aJ e).touch?=af∨0<deafBehind dd (es.extract 0 jx))->s'<=6->WSit P ty Y.Wg Y.C N P1 P1 0 (Y.kc*x+1) (val x 0) s' m' F0 g' w'->deafBehind dd es=F0 ->
    Go.ConcN.Mode j (upd D x ⟨s',0,F0⟩) tag qE Hp->((s'<sg/\cnt ⟨s',0,F0⟩<=cnt (D x))∨(s'=sg/\m'+1=m)) ->
    ∃m₁ ops μ',runT P (crowd gs w sl) (Y.base+x)=(.next m₁,ops)/\FY (Y.base+n) μ' μ/\Inv P ty Y N val n T G μ' m₁ (t++ops) :=
   λhgo NS JM Hq hd X8 UJ hdd wD u=>P3 hgo NS JM Hq hd X8 UJ hdd (λ_ ht _=>wD.retag ht) u
  have idle:∀{g':au} {m':Nat},aG P ae g w=.go g' w #[]->WSit P ty Y.Wg Y.C N P1 P1 0 (Y.kc*x+1) (val x 0) sg m' dd g' w->m'+1=m ->
    ∃m₁ ops μ',runT P (crowd gs w sl) (Y.base+x)=(.next m₁,ops)/\FY (Y.base+n) μ' μ/\Inv P ty Y N val n T G μ' m₁ (t++ops):=by intro g' m' hgo UJ E;exact book hgo (.refl Y.Wg w) I.wg (by simp) (by simp) h6 UJ rfl (same _ _) (.inr ⟨rfl,E⟩)
  cases h with
  |r0 h=>omega
  |k1 h =>
   rcases Goes.cases h with jN|⟨m',rfl,l0⟩
   .obtain⟨_,g',hgo,m₂,hk⟩:=jN w (Go.ConcN.RW.refl w);exact book hgo (.refl Y.Wg w) I.wg (by intro e c;simp at c;subst c;exact .inl rfl) (by intro jx e c;exact .inl (by have:=uZ c;simp at this;subst this;rfl)) (by decide) (.d1 hk) rfl (I.mode.counted hx (by omega) (.inr rfl) _ _) (.inl ⟨by omega,by simp[cnt,FZ]⟩)
   .obtain⟨g',w',es,hgo,⟨rfl,rfl⟩,F1⟩:=l0 w (Go.ConcN.RW.refl w);exact idle hgo (.k1 F1) rfl
  |d1 h =>
   rcases Goes.cases h with jN|⟨m',rfl,l0⟩
   .obtain⟨_,Rg⟩:=jN w (Go.ConcN.RW.refl w);have zU:=I.wg;have JN:=I.mode;have WZ:cnt (D x)=1:=by simp[cnt,FZ]
    have hV1:1<=Vc j D:=by have:=le_sumTo (f:=λx=>cnt (D x)) hx;simp only[Vc];omega
    have bk2:∀e∈#[rd (stA Y.Wg),wr (stA Y.Wg)],Bk Y.Wg e:=by intro e c;simp at c;rcases c with rfl|rfl<;>exact bk_cell _ _ rfl
    have Xb:∀jx e,(#[rd (stA Y.Wg),wr (stA Y.Wg)]:Array Event)[jx]?=aa e->(aJ e).touch?=af∨0<deafBehind 1 ((#[rd (stA Y.Wg),wr (stA Y.Wg)]:Array Event).extract 0 jx):=by
     intro jx e c
     match jx,c with
     |0,_=>exact .inr (by simp[deafBehind])
     |1,_=>exact .inr (by simp[deafBehind,rd])
     |jx+2,c=>simp at c
    have hq0:∀q,cnt (⟨1,q,1⟩:WD)=0:=λ_=>rfl;have cf:∀q,OpenSt j D->OpenSt j (upd D x ⟨1,q,1⟩):=λq h a J=>by
     by_cases e:a=x
     .subst e;rw[upd_same];simp
     .rw[upd_ne D _ e];exact h a J
    generalize aco:st=Yb at JN zU;generalize acp:sm=sm0 at JN zU;cases JN with
    |opn p z l =>
     obtain⟨v,H⟩:∃v,Vc j D+pend tag=v+1:=⟨Vc j D+pend tag-1,by omega⟩
     rw[H]at zU;have Q5:WgAt ty Y.Wg w (((v:Nat)+1)*KK+((0:Nat):Int)) 0:=by grind
     obtain⟨g',hgo,_,hq⟩:=Rg v 0 (by omega) (by omega) Q5;obtain⟨q,hq⟩:=hq (by omega);have WO:Vc j (upd D x ⟨1,0,1⟩)+pend tag=v:=by have:=Vc_upd D (⟨1,0,1⟩:WD) hx;grind
     refine book hgo (aside_setCell w (stA Y.Wg) _) (zU.setSt _) bk2 Xb (by decide) (.quit hq) rfl ?_ (.inl ⟨by omega,by grind⟩);have e:((v:Nat):Int)*KK+((0:Nat):Int)=((Vc j (upd D x ⟨1,0,1⟩)+pend tag:Nat):Int)*KK:=by grind
     rw[e];exact .opn p (cf 0 z) (λvs ev=>by grind)
    |reg p z l =>
     obtain⟨v,H⟩:∃v,Vc j D=v+1:=⟨Vc j D-1,by omega⟩
     rw[H]at zU;have hp:pend tag=0:=by cases tag<;>first|rfl|exact p.elim
     have Q5:WgAt ty Y.Wg w (((v:Nat)+1)*KK+((1:Nat):Int)) 0:=by grind
     obtain⟨g',hgo,X,hq⟩:=Rg v 1 (by omega) (by omega) Q5;by_cases Nf:v=0
     .subst Nf;obtain⟨m₂,hk⟩:=X ⟨rfl,rfl⟩;refine book hgo (aside_setCell w (stA Y.Wg) _) (zU.setSt _) bk2 Xb (by decide) (.d2 hk) rfl ?_ (.inl ⟨by omega,by simp[cnt]⟩);have DI:∀a,a<j->a≠x->(D a).stage=1:=λa J e=>by have c0:=others_uncounted hx H WZ a J e;have:=z a J;simp only[cnt]at c0;split at c0<;>omega
      have:=Go.ConcN.Mode.last (j:=j) (D:=upd D x ⟨4,0,1⟩) (tag:=tag) x p hx (by rw[upd_same];simp) (λa J e=>by rw[upd_ne D _ e];grind);rw[upd_same]at this;grind
     .obtain⟨q,hq⟩:=hq (by omega);have WO:Vc j (upd D x ⟨1,0,1⟩)=v:=by have:=Vc_upd D (⟨1,0,1⟩:WD) hx;grind
      refine book hgo (aside_setCell w (stA Y.Wg) _) (zU.setSt _) bk2 Xb (by decide) (.quit hq) rfl ?_ (.inl ⟨by omega,by grind⟩);have e:((v:Nat):Int)*KK+((1:Nat):Int)=((Vc j (upd D x ⟨1,0,1⟩):Nat):Int)*KK+1:=by grind
      rw[e];exact .reg p (cf 0 z) (by omega)
    |last L _ z l Z =>
     grind
    |sema z=>have:=z x hx;omega
    |fin _ z=>have:=z x hx;omega
   .obtain⟨g',w',es,hgo,⟨rfl,rfl⟩,F1⟩:=l0 w (Go.ConcN.RW.refl w);exact idle hgo (.d1 F1) rfl
  |d2 h =>
   rcases Goes.cases h with jN|⟨m',rfl,l0⟩
   .obtain⟨_,P4⟩:=jN w (Go.ConcN.RW.refl w);obtain⟨UK,DI,e1,e2⟩:=I.mode.isLast hx (by omega);have zU:=I.wg;rw[e1,e2,FZ]at zU;obtain⟨g',hgo,m₂,hk⟩:=P4 (by grind);refine book hgo (.refl Y.Wg w) zU (by intro e c;simp at c;subst c;exact bk_cell _ _ rfl) (by intro jx e c;match jx,c with|0,_=>exact .inr (by simp[deafBehind])|jx+1,c=>grind) (by decide) (.d3 hk) rfl ?_ (.inl ⟨by omega,by simp[cnt]⟩);have:=Go.ConcN.Mode.last (j:=j) (D:=upd D x ⟨3,0,1⟩) (tag:=tag) x UK hx (by rw[upd_same];simp) (λa J e=>by rw[upd_ne D _ e];grind);rw[upd_same]at this;grind
   .obtain⟨g',w',es,hgo,⟨rfl,rfl⟩,F1⟩:=l0 w (Go.ConcN.RW.refl w);exact idle hgo (.d2 F1) rfl
  |d3 h =>
   rcases Goes.cases h with jN|⟨m',rfl,l0⟩
   .obtain⟨_,P4⟩:=jN w (Go.ConcN.RW.refl w);obtain⟨UK,DI,e1,e2⟩:=I.mode.isLast hx (by omega);have zU:=I.wg;rw[e1,e2,FZ]at zU;obtain⟨g',hgo,m₂,hk⟩:=P4 (by grind);refine book hgo (aside_setCell w (stA Y.Wg) _) (zU.setSt 0) (by intro e c;simp at c;subst c;exact bk_cell _ _ rfl) (by intro jx e c;match jx,c with|0,_=>exact .inr (by simp[deafBehind])|jx+1,c=>grind) (by decide) (.d4 hk) rfl ?_ (.inl ⟨by omega,by simp[cnt]⟩);have:=Go.ConcN.Mode.last (j:=j) (D:=upd D x ⟨2,0,1⟩) (tag:=tag) x UK hx (by rw[upd_same];simp) (λa J e=>by rw[upd_ne D _ e];grind);rw[upd_same]at this;grind
   .obtain⟨g',w',es,hgo,⟨rfl,rfl⟩,F1⟩:=l0 w (Go.ConcN.RW.refl w);exact idle hgo (.d3 F1) rfl
  |d4 h =>
   rcases Goes.cases h with jN|⟨m',rfl,l0⟩
   .obtain⟨_,hmw,P4⟩:=jN w (Go.ConcN.RW.refl w);obtain⟨UK,DI,e1,e2⟩:=I.mode.isLast hx (by omega);have zU:=I.wg;rw[e1,e2,FZ]at zU;obtain⟨g',hgo,q,hq⟩:=P4 (by grind);have wE:g'.status=.running:=by
     cases q with
     |zero=>exact absurd hq.2 (by decide)
     |succ q=>exact hq.elim (λx=>absurd x.2 (by decide)) (λx=>x.1)
    refine P3 hgo (aside_setCell w (smA Y.Wg) _) (zU.setSm 1) (es:=semEvents (smA Y.Wg)) ?_ ?_ (by decide) (.quit hq) (by simp[deafBehind,semEvents]) ?_ (.inl ⟨by omega,by simp[cnt]⟩)
    .intro e c;simp[semEvents]at c;rcases c with rfl|rfl|rfl|rfl
     .exact .inl rfl
     .exact bk_cell _ _ rfl
     .exact bk_cell _ _ rfl
     .exact .inr (.inl rfl)
    .intro jx e c
     match jx,c with
     |0,c=>simp[semEvents]at c;subst c;exact .inl rfl
     |1,_=>exact .inr (by simp[deafBehind,semEvents])
     |2,_=>exact .inr (by simp[deafBehind,semEvents])
     |3,c=>simp[semEvents]at c;subst c;exact .inl rfl
     |jx+4,c=>simp[semEvents]at c
    .intro tag' ht U;have hnb:=U hmw wE;have e3:tag'=.w3:=by
      rcases ht with rfl|⟨_,rfl⟩
      .cases tag'<;>first|rfl|exact UK.elim|grind
      .rfl
     subst e3;simp only[cn];exact .sema λa J=>by
      by_cases e:a=x
      .subst e;rw[upd_same]
      .rw[upd_ne D _ e];grind
   .obtain⟨g',w',es,hgo,⟨rfl,rfl⟩,F1⟩:=l0 w (Go.ConcN.RW.refl w);exact idle hgo (.d4 F1) rfl
  |quit h =>
   cases m with
   |zero=>rw[h.1]at wj;cases wj
   |succ q =>
    rcases h with⟨hf,_⟩|⟨_,g',es,P5,l0,hq⟩
    .grind
    .have Hq:∀e∈es,Bk Y.Wg e:=λe c=>bk_of_mute (P5 e c);have ZZ:∀jx e,es[jx]?=aa e->(aJ e).touch?=af∨0<deafBehind dd (es.extract 0 jx):=λjx e c=>.inl (touch_mute (P5 e (uZ c)));exact book (l0 w) (.refl Y.Wg w) I.wg Hq ZZ (by decide) (.quit hq) rfl (same _ _) (.inr ⟨rfl,rfl⟩)
end
end
section
open Go.Conc
open Go.ConcN (WD CTag Vc Ssum pend phi cnt WgLive PayAt Has RW DWs WSit RelBy sumTo upd upd_same upd_ne AtR0 isW3 isOpen OpenSt deafBehind_idle bk_cell okW_none Vc_upd Vc_le le_sumTo others_uncounted sumTo_upd_out bk_dis bk_en bk_rd bk_rw bk_sem allQuit_of exists_counted)
open Go.ConcR (KK WgAt stA smA rd wr mk Payload g_of_ofEvents Bk bk_of_mute ofEvent_loc_mark ofEvent_cell ofEvent_mk)
variable [Payload]
section
variable {P:aq}{ty:aj}{Y:Lay}{N:Nat}{val:Nat->Nat->ah}{n:Nat}{T k:au->St->Prop}{l hm':Nat->Nat}{z G:Nat->Mem}{j:Nat}{tag:CTag}{rk:Rk}{d:Nat}{a:au}{s:St}{w w':az}{R:Mu}{gs:Array au}{sl:Option (Nat×Nat)}{t:Trace}{D:Nat->WD}{A:Nat->Nat}{K:Nat->Rk}{st sm:Int}
omit [Payload]in
def TL.congr{B:Nat}(h:TL Y l z t j B)(e:∀y,y<j->G y=z y):TL Y l G t j B :=
 ⟨h.base,h.IS,h.hC,h.ne,h.P0,h.RB,h.IT,λx H=>by rw[e x H];exact h.ms x H,h.T0,h.nr,h.seen,h.old,h.RD,h.Hn,λi a hi W l=>(h.new i a hi W l).imp id λ⟨x,H,u,F⟩=>⟨x,H,u,by grind⟩,
  λx H=>by rw[e x H];exact h.mw x H,h.over⟩
def WS.congr{x a st d:Nat}{r:Rk}{g:au}(h:WS P ty Y N val l z x a st r d g w)(e:G x=z x):WS P ty Y N val l G x a st r d g w:=by
 cases h with
 |am u F J=>exact .am u F (by grind)
 |rel u=>exact .rel u
 |tail h0 u=>exact .tail h0 u
def Com.congr{I:Nat}(h:Com P ty Y N val l z j gs w t D A K I)(e:∀y,y<j->G y=z y):Com P ty Y N val l G j gs w t D A K I :=
 ⟨h.size,h.lv,h.above,λx H=>let ⟨g,u,F⟩:=h.wk x H;⟨g,u,F.congr (e x H)⟩,h.tl.congr e,h.norel,h.deaf0,h.deafW,h.rel,h.x3,h.BI,h.pay,h.live,h.Ba,h.Du,h.M4,h.kc,λy q=>by rw[e y q];exact h.NO y q⟩
omit [Payload]in
def NT{σ σ':List aP}{s2:St}{es:Array Event}(X:jL Y l z j s)(V:aE σ s)(O:fb s es)(st:Step σ s σ' s2):
  (∀e∈es,(aJ e).low s2.w.heap.size)/\(∀e∈es,∀a,(aJ e).touch?=aa a->a.loc.isMemory=ab->si Y (ny l s.w.heap.size 0) a) /\
  (∀e∈es,∀a,(aJ e).touch?=aa a->a.kind=.plain->a.write=ab->∀x,x<j->∀b o v,a.loc=.cell ⟨b,o,af⟩->z x b o≠aa v) /\
  (∀e∈es,e.loc≠.mark .disable/\e.loc≠.mark .enable)/\∀e∈es,∀a,e.loc≠.mark (.release a):=by
 have key:∀e∈es,(aJ e).low s2.w.heap.size/\(∀a,(aJ e).touch?=aa a->a.loc.isMemory=ab->si Y (ny l s.w.heap.size 0) a) /\
   (∀a,(aJ e).touch?=aa a->a.kind=.plain->a.write=ab->∀x,x<j->∀b o v,a.loc=.cell ⟨b,o,af⟩->z x b o≠aa v)/\(e.loc≠.mark .disable/\e.loc≠.mark .enable)/\∀a,e.loc≠.mark (.release a):=by
  intro e E;have h:=O e E;obtain⟨loc,wr,sy⟩:=e;cases loc with
  |cell ad =>
   obtain⟨u,F,J⟩:=h;simp only at u F J;subst u;have p:ad.block<s.w.heap.size/\l ad.block=0/\ad.block≠Y.C/\ad.block≠Y.Wg/\¬Y.Sh ad.block:=by
    rcases J with J|⟨⟨L,U,J⟩,_⟩|⟨_,v,J⟩
    .exact J.elim
    .obtain⟨k1,k2,Q,k4,k5⟩:=X.blk _ (.inr ⟨L,U,J⟩);grind
    .obtain⟨k1,k2,Q,k4,k5⟩:=X.M _ _ _ J;grind
   refine⟨by rw[ofEvent_cell];exact cW p.1 st.size,λb c _=>?_,λb c _ Z x H b' o v hl S=>?_,⟨by simp,by simp⟩,by simp⟩
   .rw[ofEvent_cell]at c;simp only[MemAct.touch?,dr]at c;subst c;exact .inr ⟨ad.block,rfl,by grind[fe],p.2.2.2.1,p.2.2.1,p.2.2.2.2,rfl⟩
   .rw[ofEvent_cell]at c;simp only[MemAct.touch?,dr]at c;subst c;simp only at Z hl;have hM:=X.ms x H b' o v S;grind
  |obj r =>
   obtain⟨u,F⟩:=h;simp only at u F;subst u;obtain⟨L,U,J⟩:=F.resolve_left id;obtain⟨k1,k2,Q,k4,k5⟩:=X.blk _ (.inr ⟨L,U,J⟩);refine⟨?_,λb c _=>?_,λb c _ _ x _ b' o v hl=>?_,⟨by simp,by simp⟩,by simp⟩
   .simp[aJ,MemAct.low,Loc.low];exact cW k5 st.size
   .simp[aJ,MemAct.touch?]at c;subst c;exact .inr ⟨r,rfl,by grind[fe],Q,k2,k4,rfl⟩
   .simp[aJ,MemAct.touch?]at c;grind
  |mark m =>
   simp only[oh]at h;rcases h with rfl|⟨f,rfl⟩
   .exact⟨by simp[aJ,MemAct.low],λb c=>by simp[aJ,MemAct.touch?]at c,λb c=>by simp[aJ,MemAct.touch?]at c,⟨by simp,by simp⟩,by simp⟩
   .exact⟨by simp[aJ,MemAct.low],λb c=>by simp[aJ,MemAct.touch?]at c,λb c=>by simp[aJ,MemAct.touch?]at c,⟨by simp,by simp⟩,by simp⟩
  |_=>exact h.elim
 grind
def tr(I:tq P ty Y N val n T k R gs w t l z j D A K d tag rk a s st sm){a':au}{es:Array Event}{tag':CTag}{rk':Rk}{qE Hp:Int}{s':St}(hgo:aG P ab a w=.go a' w' es)(V:∀b,b<w.heap.size->hm' b=l b)(DG:w.heap.size<=w'.heap.size)(Yc:∀y,y<j->Ho Y l (z y) y w w')(UG:∀e∈es,(aJ e).low w'.heap.size)(htm:∀e∈es,∀a,(aJ e).touch?=aa a->a.loc.isMemory=ab->si Y hm' a)(Xa:∀e∈es,∀a,(aJ e).touch?=aa a->a.kind=.plain->a.write=ab->∀x,x<j->∀b o v,a.loc=.cell ⟨b,o,af⟩->z x b o≠aa v)(Yd:∀e∈es,∀a,e.loc≠.mark (.release a))(JO:PayAt Y.C N w')(zU:WgAt ty Y.Wg w' qE Hp)(Hr:CS P ty Y N val n T k tag' j rk' (deafBehind d es) a' s')(UL:cp s' {s' with w:=w'})(q:jL Y hm' z j s')(g:Go.ConcN.Mode j D tag' qE Hp)(p:phi n (Vc j D) tag'<phi n (Vc j D) tag∨(phi n (Vc j D) tag'=phi n (Vc j D) tag/\Rk.lt rk' rk)):
  ∃m₁ ops μ',runT P (crowd gs w sl) 0=(.next m₁,ops)/\FY (Y.base+n) μ' R/\Inv P ty Y N val n T k μ' m₁ (t++ops):=by
 have c:=I.gq.tl.base;have wj:=runT_crowd_go (P:=P) (sl:=sl) (i:=0) I.a0 (by simpa using hgo)
 refine⟨_,_,(phi n (Vc j D) tag'+Ssum j D+sumTo j A,(K,rk')),wj,?_,_,w',sl,hm',z,j,D,A,K,deafBehind d es,tag',rk',a',s',qE,Hp,rfl,
  ⟨Go.ConcN.get_map_set_same _ _ _ (by rw[I.gq.size];omega),Hr,UL,q,I.gq.step0 V DG Yc UG htm Xa Yd JO ⟨_,_,zU⟩,zU,g,rfl⟩⟩
 rw[I.mu];rcases p with h|⟨u,F⟩
 .exact Prod.Lex.left _ _ (by omega)
 .rw[u];exact Prod.Lex.right _ (Prod.Lex.right _ F)
def iy(I:tq P ty Y N val n T k R gs w t l z j D A K d tag rk a s st sm){a':au}{es:Array Event}{rk':Rk}{s1 s':St}(u:cp s1 {s1 with w:=w})(q:jL Y l z j s1)(hgo:aG P ab a w=.go a' s'.w es)(X7:qW {s1 with w:=w} s' es∨Es Y.Wg {s1 with w:=w} s' es)(Hr:CS P ty Y N val n T k tag j rk' d a' s')(p:Rk.lt rk' rk):
  ∃m₁ ops μ',runT P (crowd gs w sl) 0=(.next m₁,ops)/\FY (Y.base+n) μ' R/\Inv P ty Y N val n T k μ' m₁ (t++ops):=by
 rcases X7 with⟨⟨σ,σ',V,iX,g⟩,O⟩|⟨rfl,ad,had,X6⟩
 .have Q:jL Y l z j {s1 with w:=w}:=q.rely u.size;obtain⟨e1,e2,e3,e4,e5⟩:=NT Q V O g;have wC:∀b,b<w.heap.size->(l b≠0∨b=Y.C∨b=Y.Wg)->s'.w.heap[b]?=w.heap[b]?:=λb c Bi=>g.fi b c λL U Nc=>by obtain⟨q1,q2,q3,_⟩:=Q.blk b (.inr ⟨L,U,Nc⟩);grind
  have JL:=I.gq.tl.base;refine tr I hgo (hm':=ny l w.heap.size 0) (λb c=>fe c) g.size (λy hy=>⟨g.size,λb c hby=>wC b c (.inl (by omega)),λb o v S _=>iX.mem b o v (g.mem _ _ _ (q.ms y hy b o v S)),λo _ _=>jM (wC _ I.gq.Du (.inr (.inl rfl))) o,g.os,g.tape,g.output⟩) e1 e2 e3 e5 ?_
   (I.wg.of_block (wC _ I.gq.Ba (.inr (.inr rfl)))) (s':=s') (tag':=tag) (rk':=rk') (by rw[deafBehind_idle e4];exact Hr) (cp.wB iX.mem) (Q.step iX g I.gq.Ba I.gq.Du I.gq.M4) I.mode (.inr ⟨rfl,p⟩)
  obtain⟨cs,c1,c2⟩:=I.gq.pay;exact⟨cs,(wC _ I.gq.Du (.inr (.inl rfl))).trans c1,c2⟩
 .have NU:∀e∈es,e=mk (.read ad)∨e=mk (.write ad):=by grind
  refine tr I hgo (hm':=l) (λb c=>rfl) (bg _) (λy hy=>.refl ..) (λe E=>?_) (λe E b c _=>?_) (λe E b c hk=>?_) (λe E=>?_) I.gq.pay I.wg (s':={s1 with w:=w}) (tag':=tag) (rk':=rk') ?_ (u.trans' ) (q.rely u.size) I.mode (.inr ⟨rfl,p⟩)
  .have hW:=I.gq.Ba;rcases NU e E with rfl|rfl<;>(rw[ofEvent_mk];show ad.block<_;grind)
  .rcases NU e E with rfl|rfl<;>(rw[ofEvent_mk]at c;simp[MemAct.touch?]at c;subst c;exact .inl ⟨ad,rfl,had,by simp⟩)
  .rcases NU e E with rfl|rfl<;>(rw[ofEvent_mk]at c;simp[MemAct.touch?]at c;grind)
  .rcases NU e E with rfl|rfl<;>simp[mk]
  .rw[deafBehind_idle (λe E=>by rcases NU e E with rfl|rfl<;>simp[mk])];exact Hr
def gF(I:tq P ty Y N val n T k R gs w t l z j D A K d tag rk a s st sm){a':au}{es:Array Event}{tag':CTag}{rk':Rk}{qE Hp:Int}{s1:St}(u:cp s1 {s1 with w:=w})(P6:jL Y l z j s1)(hgo:aG P ab a w=.go a' w' es)(g:Aside Y.Wg w w')(JM:WgAt ty Y.Wg w' qE Hp)(Hq:∀e∈es,Bk Y.Wg e)(Hr:CS P ty Y N val n T k tag' j rk' (deafBehind d es) a' {s1 with w:=w'})(wD:Go.ConcN.Mode j D tag' qE Hp)(p:phi n (Vc j D) tag'<phi n (Vc j D) tag∨(phi n (Vc j D) tag'=phi n (Vc j D) tag/\Rk.lt rk' rk)):
  ∃m₁ ops μ',runT P (crowd gs w sl) 0=(.next m₁,ops)/\FY (Y.base+n) μ' R/\Inv P ty Y N val n T k μ' m₁ (t++ops):=by
 obtain⟨cs,WZ,TE⟩:=I.gq.pay;have F:cp s1 {s1 with w:=w'}:=P6.JI u (DY.wg g);refine tr I hgo (hm':=l) (λb c=>rfl) (by rw[g.size];grind) (λy hy=>.wg g I.gq.tl.IS I.gq.tl.base (λb o v S=>(I.gq.tl.ms y hy b o v S).2.2.1) I.gq.tl.ne) (JK Hq (by rw[g.size];exact I.gq.Ba)) (λe E b c l=>?_) (λe E b c hk=>?_) (BJ Hq)
  ⟨cs,(g.block _ I.gq.tl.ne).trans WZ,TE⟩ JM Hr F.trans' (P6.rely F.size) wD p
 .rcases Hq e E with q|q|⟨ad,wr,rfl,W⟩
  .rw[ofEvent_loc_mark q]at c;cases c
  .rw[ofEvent_loc_mark q]at c;cases c
  .rw[ofEvent_cell]at c;simp only[MemAct.touch?,dr]at c;subst c;exact .inl ⟨ad,rfl,W,by simp⟩
 .rcases Hq e E with q|q|⟨ad,wr,rfl,W⟩
  .rw[ofEvent_loc_mark q]at c;cases c
  .rw[ofEvent_loc_mark q]at c;cases c
  .rw[ofEvent_cell]at c;simp only[MemAct.touch?,dr]at c;grind
end
section
variable {P:aq}{ty:aj}{Y:Lay}{N:Nat}{val:Nat->Nat->ah}{n:Nat}{T k:au->St->Prop}{l hm':Nat->Nat}{u f:Nat->Mem}{j:Nat}{tag:CTag}{rk:Rk}{d:Nat}{a:au}{s:St}{w w':az}{C:Mu}{gs:Array au}{sl:Option (Nat×Nat)}{t:Trace}{D:Nat->WD}{A:Nat->Nat}{K:Nat->Rk}{st E:Int}
def CS.bound(h:CS P ty Y N val n T k tag j rk d a s):j+pend tag<=n:=by cases h<;>simp only[pend]<;>(try simp)<;>omega
omit [Payload]in
def iz{S:au->St->Prop}(h:ko (Cx.lead P ty Y.Wg) (Es Y.Wg) S rk a s)(p:cp s {s with w:=w})(G:jL Y l u j s)(live:WgLive ty Y.Wg w):
  (∃s',cp s' {s' with w:=w}/\jL Y l u j s'/\S a s')∨∃s',cp s' {s' with w:=w}/\jL Y l u j s'/\∃g' s2 es r',aG P ab a w=.go g' s2.w es/\(qW {s' with w:=w} s2 es∨Es Y.Wg {s' with w:=w} s2 es)/\ko (Cx.lead P ty Y.Wg) (Es Y.Wg) S r' g' s2/\Rk.lt r' rk:=by
 rcases h.norm (λs0=>cp s0 {s0 with w:=w}/\jL Y l u j s0) (λs0 s' B hi=>⟨hi.1.ghost B,hi.2.ghost B⟩) (λF=>False.elim F) ⟨p,G⟩with⟨s',⟨k1,c⟩,z⟩|⟨_,s',⟨k1,c⟩,z⟩
 .grind
 .exact .inr ⟨s',k1,c,z _ ⟨k1,λ_=>live⟩⟩
def WS.quits{x a st d:Nat}{r:Rk}{g:au}(h:WS P ty Y N val l u x a st r d g w)(b:st=1):∃m,QuitsD P m d g:=by
 cases h with
 |am _ _ _=>cases b
 |rel _=>cases b
 |tail _ h=>exact⟨_,h.quits b⟩
def WS.small{x a st d:Nat}{r:Rk}{g:au}(h:WS P ty Y N val l u x a st r d g w)(b:st=1):a=0:=by
 cases h with
 |am _ _ _=>cases b
 |rel _=>rfl
 |tail _ h=>rfl
def JP(I:tq P ty Y N val n T k C gs w t l u j D A K d tag rk a s st E)(hn:n<2147483648)(Xc:∀g s,k g s->en (Cx.lead P ty Y.Wg) (Es Y.Wg) (AtW1 P ty Y T k) g s)(wj:a.status=.running):
  ∃V ops,runT P (crowd gs w sl) 0=(.next V,ops)/\((∃hm' f,Fin P Y N val n T hm' f V (t++ops))∨∃μ',FY (Y.base+n) μ' C/\Inv P ty Y N val n T k μ' V (t++ops)):=by
 have hVj:=Vc_le j D;have JL:=I.gq.tl.base;have live:=I.gq.live;have fin:∀{X:Prop},(∃V ops μ',runT P (crowd gs w sl) 0=(.next V,ops)/\FY (Y.base+n) μ' C/\Inv P ty Y N val n T k μ' V (t++ops)) ->
   ∃V ops,runT P (crowd gs w sl) 0=(.next V,ops)/\((∃hm' f,Fin P Y N val n T hm' f V (t++ops))∨∃μ',FY (Y.base+n) μ' C/\Inv P ty Y N val n T k μ' V (t++ops)) :=
  λ{_} ⟨V,ops,μ',p,h2,h3⟩=>⟨V,ops,p,.inr ⟨μ',h2,h3⟩⟩
 have hbound:=I.cs.bound;have cs:=I.cs;have O:=I.wg;have J:=I.mode;cases cs with
 |@skd r rk g s hr h =>
  rcases iz h I.rely I.lead live with⟨s',k1,c,_,g',H,hk⟩|⟨s',k1,c,g',s2,es,r',H,R,hk,Q⟩
  .obtain⟨r2,hk⟩:=hk {s' with w:=w} (fU k1 live);exact fin (X:=True) (gF I k1 c (H w) (.refl Y.Wg w) O bk_dis (.sa1 hr hk) (J.reopen aw aw rfl (by simp)) (.inl (by simp only[phi];omega)))
  .exact fin (X:=True) (iy I k1 c H R (.skd hr hk) Q)
 |@sa1 r rk g s hr h =>
  rcases iz h I.rely I.lead live with⟨s',k1,c,_,U⟩|⟨s',k1,c,g',s2,es,r',H,R,hk,Q⟩
  .obtain⟨ho,e1,e2,_⟩:=J.open_inv aw;rw[e1,e2]at O;obtain⟨a',H,r2,hk⟩:=U {s' with w:=w} (fU k1 live) (Vc (n-(r+1)) D) (by omega) (by simpa[pend]using O);refine fin (X:=True) (gF I k1 c H (aside_setCell w (stA Y.Wg) _) (O.setSt _) bk_rw (.ske hr hk) ?_ (.inl (by simp only[phi];omega)));have e:(((Vc (n-(r+1)) D:Nat):Int)+1)*KK=((Vc (n-(r+1)) D+pend (.sp r 3):Nat):Int)*KK:=by simp[pend]
   rw[e];exact .opn aw ho (by simp)
  .exact fin (X:=True) (iy I k1 c H R (.sa1 hr hk) Q)
 |@ske r rk g s hr h =>
  rcases iz h I.rely I.lead live with⟨s',k1,c,_,g',H,hk⟩|⟨s',k1,c,g',s2,es,r',H,R,hk,Q⟩
  .obtain⟨r2,hk⟩:=hk {s' with w:=w} (fU k1 live);exact fin (X:=True) (gF I k1 c (H w) (.refl Y.Wg w) O bk_en (.sgo hr hk) (J.reopen aw aw rfl (by simp)) (.inl (by simp only[phi];omega)))
  .exact fin (X:=True) (iy I k1 c H R (.ske hr hk) Q)
 |@sgo r rk g s hr h =>
  rcases iz h I.rely I.lead live with⟨s',k1,c,_,U⟩|⟨s',k1,c,g',s2,es,r',H,R,hk,Q⟩
  .obtain⟨a',child,hsp,_,⟨rc,X4⟩,P7⟩:=U {s' with w:=w} (fU k1 live);obtain⟨ho,e1,e2,_⟩:=J.open_inv aw;rw[e1,e2]at O;have wE:=runT_crowd_spawn (P:=P) (sl:=sl) (i:=0) I.a0 (by simpa using hsp);rw[I.gq.size]at wE;have z:jL Y l u (n-(r+1)) {s' with w:=w}:=c.rely k1.size;let f:=upd u (n-(r+1)) s'.M;have hMe:∀y,y<n-(r+1)->f y=u y:=λy hy=>upd_ne u _ (by omega);have Ye:f (n-(r+1))=s'.M:=upd_same u _ _;have RF:cp (St.child {s' with w:=w}) {St.child {s' with w:=w}with w:=w}:=cp.wB k1.mem;have UM:lZ l (f (n-(r+1))) (Y.base+(n-(r+1))) (St.child {s' with w:=w}):=by
    refine⟨λb hb=>?_,λb o v hv=>⟨.inr (by rw[Ye];exact hv),(z.M b o v hv).2.2.2.2⟩⟩;rcases hb with hb|⟨L,hL,_⟩
    .exact hb.elim
    .simp[St.child]at hL
   have F2:=(I.gq.congr hMe).spawn (a':=a') (x:={g:=0,fn:=a.frame.fn,pos:=a.frame.place,act:=.go (Y.base+(n-(r+1)))}) (y:={g:=Y.base+(n-(r+1)),fn:=child.frame.fn,pos:=a.frame.place,act:=.start}) ⟨rfl,rfl⟩ ⟨rfl,rfl⟩
    (λb o v hv=>by rw[Ye]at hv;exact z.M b o v hv) X4 RF UM
   have eV:Vc (n-(r+1)+1) (upd D (n-(r+1)) ⟨7,0,0⟩)=Vc (n-(r+1)) D+1:=by simp only[Vc,sumTo,upd_same];rw[sumTo_upd_out D _ cnt (bg _)];rfl
   have eS:Ssum (n-(r+1)+1) (upd D (n-(r+1)) ⟨7,0,0⟩)=Ssum (n-(r+1)) D+7:=by simp only[Ssum,sumTo,upd_same];rw[sumTo_upd_out D _ WD.stage (bg _)]
   have eA:sumTo (n-(r+1)+1) (upd A (n-(r+1)) 1)=sumTo (n-(r+1)) A+1:=by have:sumTo (n-(r+1)) (upd A (n-(r+1)) 1)=sumTo (n-(r+1)) A:=sumTo_upd_out A 1 id (i:=n-(r+1)) (j:=n-(r+1)) (bg _);show sumTo (n-(r+1)) (upd A (n-(r+1)) 1)+upd A (n-(r+1)) 1 (n-(r+1))=_;rw[upd_same];grind
   have Xd:OpenSt (n-(r+1)+1) (upd D (n-(r+1)) ⟨7,0,0⟩):=λi hi=>by
    by_cases e:i=n-(r+1)
    .subst e;rw[upd_same];simp
    .rw[upd_ne D _ e];exact ho i (by omega)
   have Yf:((gs.setIfInBounds 0 a').push child)[0]?=aa a':=by
    have h0:0<gs.size:=by rw[I.gq.size];omega
    grind
   have Z:jL Y l f (n-(r+1)+1) {s' with w:=w}:=⟨z.blk,z.M,λy hy b o v hv=>by
    rcases cG y (n-(r+1))with p|p
    .rw[hMe y p]at hv;exact z.ms y p b o v hv
    .obtain rfl:y=n-(r+1):=by omega
     rw[Ye]at hv;exact hv⟩
   have ej:n-(r+1)+1=n-r:=by omega
   rw[ej]at F2 eV eS eA Xd Z;have Yg:∀tag',pend tag'=0->((Vc (n-(r+1)) D+pend (.sp r 2):Nat):Int)*KK=((Vc (n-r) (upd D (n-(r+1)) ⟨7,0,0⟩)+pend tag':Nat):Int)*KK:=λtag' hp=>by rw[eV,hp];simp[pend]
   cases r with
   |zero =>
    obtain⟨r3,hk⟩:=P7;simp only[lF]at F2 eV eS eA Xd Yg Z;refine⟨_,_,wE,.inr ⟨(phi n (Vc n (upd D (n-(0+1)) ⟨7,0,0⟩)) .kd+Ssum n (upd D (n-(0+1)) ⟨7,0,0⟩)+sumTo n (upd A (n-(0+1)) 1),(upd K (Y.base+(n-(0+1))) rc,r3)),by rw[I.mu];exact Prod.Lex.left _ _ (by simp only[phi];omega),
     _,w,sl,l,f,n,_,_,_,0,.kd,r3,a',{s' with w:=w},_,_,rfl,⟨Yf,.kd hk,k1.trans',Z,F2,O,?_,rfl⟩⟩⟩
    rw[Yg .kd rfl];exact .opn aw Xd (by simp)
   |succ r' =>
    obtain⟨r3,hk⟩:=P7;refine⟨_,_,wE,.inr ⟨(phi n (Vc (n-(r'+1)) (upd D (n-(r'+1+1)) ⟨7,0,0⟩)) (.sp r' 5)+Ssum (n-(r'+1)) (upd D (n-(r'+1+1)) ⟨7,0,0⟩)+sumTo (n-(r'+1)) (upd A (n-(r'+1+1)) 1),(upd K (Y.base+(n-(r'+1+1))) rc,r3)),by rw[I.mu];exact Prod.Lex.left _ _ (by simp only[phi];omega),
     _,w,sl,l,f,n-(r'+1),_,_,_,0,.sp r' 5,r3,a',{s' with w:=w},_,_,rfl,⟨Yf,.skd (by omega) hk,k1.trans',Z,F2,O,?_,rfl⟩⟩⟩
    rw[Yg (.sp r' 5) rfl];exact .opn aw Xd (by simp)
  .exact fin (X:=True) (iy I k1 c H R (.sgo hr hk) Q)
 |kd h =>
  rcases iz h I.rely I.lead live with⟨s',k1,c,_,g',H,hk⟩|⟨s',k1,c,g',s2,es,r',H,R,hk,Q⟩
  .obtain⟨r2,hk⟩:=Xc _ _ (hk {s' with w:=w} (fU k1 live));exact fin (X:=True) (gF I k1 c (H w) (.refl Y.Wg w) O bk_dis (.w1 hk) (J.reopen aw aw rfl (by simp)) (.inl (by simp only[phi];omega)))
  .exact fin (X:=True) (iy I k1 c H R (.kd hk) Q)
 |w1 h =>
  rcases iz h I.rely I.lead live with⟨s',k1,c,_,U⟩|⟨s',k1,c,g',s2,es,r',H,R,hk,Q⟩
  .obtain⟨ho,e1,e2,_⟩:=J.open_inv aw;rw[e1,e2]at O;have hV:=Vc_le n D;obtain⟨a',H,h0,Bi⟩:=U {s' with w:=w} (fU k1 live) (Vc n D) (by omega) (by grind);by_cases hv:Vc n D=0
   .obtain⟨r2,hk⟩:=h0 hv;refine fin (X:=True) (gF I k1 c H (.refl Y.Wg w) O bk_rd (.ke hk) ?_ (.inl (by simp only[phi];omega)));have e:((Vc n D+pend .w1:Nat):Int)*KK=0:=by grind
    rw[e];exact .fin aw (allQuit_of ho hv)
   .obtain⟨r2,hk⟩:=Bi hv;refine fin (X:=True) (gF I k1 c H (.refl Y.Wg w) O bk_rd (.w2 hk) ?_ (.inl (by simp only[phi];omega)));have:=J.reopen (tag':=.w2 (Vc n D)) aw aw rfl (λvs e=>by grind);grind
  .exact fin (X:=True) (iy I k1 c H R (.w1 hk) Q)
 |@w2 vs rk g s h =>
  rcases iz h I.rely I.lead live with⟨s',k1,c,_,U⟩|⟨s',k1,c,g',s2,es,r',H,R,hk,Q⟩
  .obtain⟨ho,e1,e2,Yh⟩:=J.open_inv aw;rw[e1,e2]at O;obtain⟨hle,p⟩:=Yh vs rfl;obtain⟨Yi,UN⟩:=U {s' with w:=w} (fU k1 live) (Vc n D) (by omega) (by grind);by_cases e:Vc n D=vs
   .obtain⟨a',H,r2,hk⟩:=Yi e;exact fin (X:=True) (gF I k1 c H (aside_setCell w (stA Y.Wg) _) (O.setSt _) bk_rw (.w3 hk) (.reg aw ho (by omega)) (.inl (by simp only[phi];omega)))
   .obtain⟨a',H,hk⟩:=UN e;obtain⟨r2,hk⟩:=Xc _ _ hk;refine fin (X:=True) (gF I k1 c H (.refl Y.Wg w) O bk_rd (.w1 hk) ?_ (.inl (by simp only[phi];omega)));have:=J.reopen (tag':=.w1) aw aw rfl (by simp);grind
  .exact fin (X:=True) (iy I k1 c H R (.w2 hk) Q)
 |@w3 rk g s h =>
  rcases iz h I.rely I.lead live with⟨s',k1,c,jN⟩|⟨s',k1,c,g',s2,es,r',H,R,hk,Q⟩
  .obtain⟨_,Q8,U⟩:=jN;obtain⟨NV,P8⟩:=U {s' with w:=w} (fU k1 live);obtain⟨x,hx⟩:=Rk.JJ s rk;have UO:AtW3 P ty Y T a {s' with w:=w}:=AtW3.rely ⟨wj,Q8,U⟩ (fU k1 live);generalize st=Yb at J O;generalize E=sm0 at J O;cases J with
   |opn p _ _=>exact p.elim
   |reg p h2 h3=>exact fin (X:=True) (gF I k1 c (NV ⟨_,O⟩) (.refl Y.Wg w) O (by simp) (.blk (rk:=x) UO) (.reg aw h2 h3) (.inr ⟨rfl,hx⟩))
   |last L p h2 h3 h4=>exact fin (X:=True) (gF I k1 c (NV ⟨_,O⟩) (.refl Y.Wg w) O (by simp) (.blk (rk:=x) UO) (.last L aw h2 h3 h4) (.inr ⟨rfl,hx⟩))
   |sema h2 =>
    obtain⟨a',H,r2,hk⟩:=P8 O;exact fin (X:=True) (gF I k1 c H (aside_setCell w (smA Y.Wg) _) (O.setSm 0) bk_sem (.w4 hk) (.fin aw h2) (.inl (by simp only[phi];omega)))
   |fin p _=>exact p.elim
  .exact fin (X:=True) (iy I k1 c H R (.w3 hk) (Rk.FX Q))
 |blk h=>grind
 |w4 h =>
  rcases iz h I.rely I.lead live with⟨s',k1,c,_,U⟩|⟨s',k1,c,g',s2,es,r',H,R,hk,Q⟩
  .obtain⟨hq,e1,e2⟩:=J.fin_inv aw;rw[e1,e2]at O;obtain⟨a',H,r2,hk⟩:=U {s' with w:=w} (fU k1 live) O;exact fin (X:=True) (gF I k1 c H (.refl Y.Wg w) O bk_rd (.ke hk) (.fin aw hq) (.inl (by simp only[phi];omega)))
  .exact fin (X:=True) (iy I k1 c H R (.w4 hk) Q)
 |ke h =>
  rcases iz h I.rely I.lead live with⟨s',k1,c,_,g',H,hk⟩|⟨s',k1,c,g',s2,es,r',H,R,hk,Q⟩
  .obtain⟨r2,hk⟩:=hk {s' with w:=w} (fU k1 live);obtain⟨hq,e1,e2⟩:=J.fin_inv aw;rw[e1,e2]at O;exact fin (X:=True) (gF I k1 c (H w) (.refl Y.Wg w) O bk_en (.acq hk) (.fin aw hq) (.inl (by simp only[phi];omega)))
  .exact fin (X:=True) (iy I k1 c H R (.ke hk) Q)
 |acq h =>
  rcases iz h I.rely I.lead live with⟨s',k1,c,_,a',H,hk⟩|⟨s',k1,c,g',s2,es,r',H,R,hk,Q⟩
  .obtain⟨hq,e1,e2⟩:=J.fin_inv aw;have wE:=runT_crowd_go (P:=P) (sl:=sl) (i:=0) I.a0 (by simpa using H w);have ev:MemOp.ofEvents 0 a.frame.fn a.frame.place #[mk (.acquire (stA Y.Wg))]=#[{g:=0,fn:=a.frame.fn,pos:=a.frame.place,act:=.mark (.acquire (stA Y.Wg))}]:=by rw[ofEvents_eq];simp[ofEvent_mk]
   have W:=I.gq.step0 (g:=a) (g':=a') (fn:=a.frame.fn) (pos:=a.frame.place) (es:=#[mk (.acquire (stA Y.Wg))]) (hm':=l) (w':=w) (λ_ _=>rfl) (bg _) (λy _=>.refl ..) (by simp;exact I.gq.Ba) (by intro e he b hb;simp at he;subst he;simp[mk,aJ,MemAct.touch?]at hb) (by intro e he b hb;simp at he;subst he;simp[mk,aJ,MemAct.touch?]at hb) (by intro e he;simp at he;subst he;simp[mk]) I.gq.pay live;have hd0:deafBehind 0 #[mk (.acquire (stA Y.Wg))]=0:=rfl;have hy:(t++#[({g:=0,fn:=a.frame.fn,pos:=a.frame.place,act:=.mark (.acquire (stA Y.Wg))}:MemOp)])[t.size]?=aa {g:=0,fn:=a.frame.fn,pos:=a.frame.place,act:=.mark (.acquire (stA Y.Wg))}:=by simp
   have UP:=W.tl.X3 (by rw[W.deaf0];rfl) (W.norel _) (q:=t.size) (by rw[ev,act?_of hy]) (by rw[ev];simp[Trace.g?]) (by rw[ev];exact⟨0,by simp[Trace.g?],by rw[deaf_old (bg _)];exact I.gq.deaf0⟩) (λx hx=>by
    obtain⟨r,hr⟩:=I.gq.rel x hx (by rw[hq x hx];omega)
    exact⟨r,hr.appOther g_of_ofEvents (by omega),lt_of_act? hr.act⟩)
   have G9:∃q,Leavers P (t++MemOp.ofEvents 0 a.frame.fn a.frame.place #[mk (.acquire (stA Y.Wg))]) ((gs.map (woken P a a' w)).setIfInBounds 0 a') q:=by
    have each:∀i,∃m,∀g,0<i->((gs.map (woken P a a' w)).setIfInBounds 0 a')[i]?=aa g->QuitsD P m (Deaf (t++MemOp.ofEvents 0 a.frame.fn a.frame.place #[mk (.acquire (stA Y.Wg))]) i) g:=by
     intro i;cases Rf:((gs.map (woken P a a' w)).setIfInBounds 0 a')[i]? with
     |none=>exact⟨0,λg _ B=>by cases B⟩
     |some g =>
      rcases mT i with e|JQ
      .exact⟨0,λg' h=>by omega⟩
      .rcases cG i Y.base with Q|QY
       .obtain⟨m,_,Yj⟩:=W.lv i g JQ Q Rf;exact⟨m,λg' _ F1=>by grind⟩
       .obtain⟨x,rfl⟩:∃x,i=Y.base+x:=⟨i-Y.base,by omega⟩
        have hx:x<n:=by have:=(ig.1 Rf).1;rw[W.size]at this;omega
        obtain⟨g0,x4,Yk⟩:=W.wk x hx;rw[Rf]at x4;cases x4;obtain⟨m,Yj⟩:=Yk.quits (hq x hx);refine⟨m,λg' _ F1=>?_⟩;cases F1;rw[W.deafW x hx];exact Yj
    exact⟨λi=>Classical.choose (each i),λi g hi B=>Classical.choose_spec (each i) g hi B,λi hi=>W.above i (by rw[W.size]at hi;exact hi)⟩
   obtain⟨q,G9⟩:=G9;refine⟨_,_,wE,.inl ⟨l,u,⟨_,w,sl,a',s',q,rfl,Go.ConcN.get_map_set_same _ _ _ (by rw[I.gq.size];omega),W.size,hk {s' with w:=w} (fU k1 live),k1,c,G9,UP,W.norel,I.gq.pay,λx hx i hi=>?_,I.gq.Du,I.gq.Ba,I.gq.M4⟩⟩⟩;obtain⟨g0,_,Yk⟩:=I.gq.wk x hx;rcases mT i with e|JQ
   .subst e;exact I.gq.BI x hx (by rw[hq x hx];omega)
   .exact I.gq.x3 x hx (Yk.small (hq x hx)) i JQ hi
  .exact fin (X:=True) (iy I k1 c H R (.acq hk) Q)
end
end
section
open Go.Conc
open Go.ConcN (WD CTag Vc Ssum pend phi cnt WgLive PayAt Has WSit RelBy sumTo upd upd_same upd_ne exists_counted)
open Go.ConcR (KK WgAt stA smA Payload)
variable [Payload]
section
variable {P:aq}{ty:aj}{Y:Lay}{N:Nat}{val:Nat->Nat->ah}{n:Nat}{T c:au->St->Prop}{l:Nat->Nat}{p:Nat->Mem}{j:Nat}{tag:CTag}{rk:Rk}{d:Nat}{a:au}{s:St}{w:az}{f:Mu}{gs:Array au}{sl:Option (Nat×Nat)}{t:Trace}{D:Nat->WD}{A:Nat->Nat}{K:Nat->Rk}{st u:Int}
def WS.running_of{x a st d:Nat}{r:Rk}{g:au}(h:WS P ty Y N val l p x a st r d g w)(b:st≠1):g.status=.running:=by
 cases h with
 |am h1 _ _=>exact h1.run λ_ _ x=>x.1
 |rel h1=>exact Goes.running (λ_ _ x=>x.1) w (Go.ConcN.RW.refl w) h1
 |tail _ h1=>exact h1.running_of b
def someone_runs(I:tq P ty Y N val n T c f gs w t l p j D A K d tag rk a s st u):∃(i:Nat)(g:au),gs[i]?=aa g/\g.status=.running:=by
 rcases I.cs.status with⟨e,_⟩|⟨_,rfl⟩
 .exact⟨0,a,I.a0,e⟩
 .have b:=I.mode;cases b with
  |opn h1 _ _=>exact h1.elim
  |reg _ _ k =>
   obtain⟨i,hi,o⟩:=exists_counted k;obtain⟨g,h,e⟩:=I.gq.wk i hi;exact⟨_,g,h,e.running_of (by omega)⟩
  |last L _ m k _ =>
   obtain⟨g,h,e⟩:=I.gq.wk L m;exact⟨_,g,h,e.running_of (by omega)⟩
  |fin h1 _=>exact h1.elim
def all_awake(I:tq P ty Y N val n T c f gs w t l p j D A K d tag rk a s st u):∀g∈gs,awake g:=by
 intro g v z;obtain⟨i,hi⟩:=Array.mem_iff_getElem?.1 v;rcases mT i with rfl|e
 .rw[I.a0]at hi;cases hi;rcases I.cs.status with⟨k,_⟩|⟨k,_⟩<;>rw[k]<;>simp
 .rcases cG i Y.base with o|q
  .obtain⟨m,_,r⟩:=I.gq.lv i g e o hi;rcases r.status with h|h<;>rw[h]<;>simp
  .obtain⟨x,rfl⟩:∃x,i=Y.base+x:=⟨i-Y.base,by omega⟩
   have y:x<j:=by have:=(ig.1 hi).1;rw[I.gq.size]at this;omega
   obtain⟨g',b,k⟩:=I.gq.wk x y;rw[hi]at b;cases b;rcases k.status with h|h<;>rw[h]<;>simp
def tq.at(I:tq P ty Y N val n T c f gs w t l p j D A K d tag rk a s st u)(b:Nat):tq P ty Y N val n T c f gs (w.at b) t l p j D A K d tag rk a s st u :=
 ⟨I.a0,I.cs,I.rely.more (bg _) (λ_ _=>rfl) (λ_ _ _ _ h=>h) rfl rfl rfl,I.lead,I.gq.at b,I.wg,I.mode,I.mu⟩
def DZ(I:tq P ty Y N val n T c f gs w t l p j D A K d tag rk a s st u){i:Nat}(hi:0<i)(r:i<Y.base){g:au}(E:gs[i]?=aa g)(o:g.status=.running):
  ∃h ops μ',runT P (crowd gs w sl) i=(.next h,ops)/\FY (Y.base+n) μ' f/\Inv P ty Y N val n T c μ' h (t++ops):=by
 obtain⟨m,G,C⟩:=I.gq.lv i g hi r E;cases m with
 |zero=>rw[C.1]at o;cases o
 |succ m =>
  rcases C with⟨H,_⟩|⟨_,g',es,B,v,y⟩
  .grind
  .have z:(i==0)=ae:=by grind
   have q:=runT_crowd_go (P:=P) (sl:=sl) (i:=i) E (by rw[z];exact v w)
   obtain⟨tag',rk',x,e,F⟩:=I.cs.wokenBy g g' w;have b:Go.ConcN.Mode j D tag' st u:=I.mode.retag e;refine⟨_,_,(phi n (Vc j D) tag'+Ssum j D+sumTo j A,(upd K i (Rk.nat m),rk')),q,?_,_,w,sl,l,p,j,D,A,_,d,tag',rk',woken P g g' w a,s,st,u,rfl,
    ⟨by rw[Go.ConcN.get_map_set _ _ _ _ (by omega),I.a0];rfl,x,I.rely,I.lead,I.gq.leave hi r B y,I.wg,b,rfl⟩⟩
   rw[I.mu,Go.ConcN.phi_retag n _ e];exact Prod.Lex.right _ (Prod.Lex.left _ _ ⟨i,by omega,by rw[upd_same,G];exact Rk.DX _ s,λk hk=>upd_ne K _ hk⟩)
def JR(C:n<2147483648)(B:∀g s,c g s->en (Cx.lead P ty Y.Wg) (Es Y.Wg) (AtW1 P ty Y T c) g s){m:Machine}(h:Inv P ty Y N val n T c f m t):
  ∃b ops,stepT P m=(.next b,ops)/\((∃hm' NW,Fin P Y N val n T hm' NW b (t++ops))∨∃k,FY (Y.base+n) k f/\Inv P ty Y N val n T c k b (t++ops)):=by
 obtain⟨gs,w,sl,l,p,j,D,A,K,O,tag,rk,a,s,st,u,rfl,I⟩:=h;obtain⟨i,g,G,o,r,e,q⟩:=crowd_pick (P:=P) (w:=w) (sl:=sl) (all_awake I) (someone_runs I);rw[q];have z:=I.at G;have H:j<=n:=by have:=I.cs.bound;omega
 rcases mT i with rfl|v
 .rw[I.a0]at r;cases r;exact JP (sl:=o) z C B e
 .rcases cG i Y.base with y|L
  .obtain⟨b,ops,k,F,J,E⟩:=DZ (sl:=o) z v y r e;grind
  .obtain⟨x,rfl⟩:∃x,i=Y.base+x:=⟨i-Y.base,by omega⟩
   have M:x<j:=by have:=(ig.1 r).1;rw[I.gq.size]at this;omega
   obtain⟨b,ops,k,F,J,E⟩:=stepWorker (sl:=o) z C H I.cs.bound M r e;grind
def Hs(y:n<2147483648)(o:∀g s,c g s->en (Cx.lead P ty Y.Wg) (Es Y.Wg) (AtW1 P ty Y T c) g s):∀(f:Mu)(m:Machine)(t:Trace),Inv P ty Y N val n T c f m t ->
  ∃M k i hm' NW,runNT P M m t=(.next k,i)/\Fin P Y N val n T hm' NW k i:=by
 intro f;induction(RE (Y.base+n)).apply f with
 |intro f _ v =>
  intro m t h;obtain⟨b,ops,r,e⟩:=JR y o h;rcases e with⟨hm',NW,e⟩|⟨q,e,x⟩
  .exact⟨1,b,t++ops,hm',NW,by simp[runNT,r],e⟩
  .obtain⟨M,k,i,hm',NW,k1,z⟩:=v q e b (t++ops) x;exact⟨M+1,k,i,hm',NW,by simp only[runNT,r];exact k1,z⟩
def Uf.fork{g:au}{s s0:St}{T':au->St->Prop}(kc:Nat)(Z7:0<kc)(Wg C:Nat)(hn:n<2147483648)(Bi:C≠Wg)(W:eu s s0)(wj:g.status=.running)(hC:∃L∈s.β,C∈L.bs)(hW:∃L∈s.β,Wg∈L.bs)(B:∀b,(s.own b∨∃L∈s.β,b∈L.bs)->b<s.w.heap.size)(h0:∀b,(b=C∨b=Wg)->¬s0.own b/\(∀L∈s0.β,b∉L.bs)/\∀o,s0.M b o=af)(R:WgAt ty Wg s.w 0 0)(JO:PayAt C N s.w)(h:∀Y:Lay,Y.Wg=Wg->Y.C=C->Y.kc=kc->∃T c,(∀g s,c g s->en (Cx.lead P ty Y.Wg) (Es Y.Wg) (AtW1 P ty Y T c) g s)/\Spawns P ty Y N val n c n g s0 /\
   ∀g' s',T g' s'->gM s'->PayAt C N s'.w->(∀x,x<n->∀i,i<kc->s'.w.cell? ⟨C,kc*x+i,af⟩=aa (val x i))->C<s'.w.heap.size->(∀b,(b=C∨b=Wg)->¬s'.own b/\(∀L∈s'.β,b∉L.bs)/\∀o,s'.M b o=af) ->
    ∃s2,T' g' s2/\s2.w=s'.w/\gM s2/\∀Sh:Nat->Prop,Clear Sh s'->¬Sh C->Clear Sh s2):Uf P g s T':=by
 intro Sh gs sl t q l ha H hP hc Yd;have Yl:¬Sh C:=λhs=>let ⟨L,H,m⟩:=hC;hc.β C hs L H m
 have V:¬Sh Wg:=λhs=>let ⟨L,H,m⟩:=hW;hc.β Wg hs L H m
 have UQ:=B C (.inr hC);have X:=B Wg (.inr hW);have JQ:1<=gs.size:=(ig.1 ha).1;let Y:Lay:={Sh:=Sh,T0:=t.size,Wg:=Wg,C:=C,base:=gs.size,kc:=kc}
 obtain⟨T,c,Xc,y,Z⟩:=h Y rfl rfl rfl;have U:=hc.ghost W;have NU:gM s0:=.ghost W;have G:jL Y (λ_=>0) (λ_ _ _=>af) 0 s0:=by
  refine⟨λb m=>⟨rfl,λe=>?_,λe=>?_,λe=>?_,by rw[W.w];exact B b (W.blk b m)⟩,λb o v hv=>⟨rfl,λe=>?_,λe=>?_,λe=>?_,gM.lt NU hv⟩,λx z=>absurd z (fQ x)⟩
  .grind
  .grind
  .rcases m with m|⟨L,H,m⟩
   .exact U.own b e m
   .exact U.β b e L H m
  .grind
  .grind
  .rw[U.M b e o]at hv;cases hv
 have Q:Com P ty Y N val (λ_=>0) (λ_ _ _=>af) 0 gs s.w t (λ_=>⟨0,0,0⟩) (λ_=>0) (λi=>Rk.nat (q i)) 0 :=
  ⟨rfl,λi g hi _ Rf=>⟨q i,rfl,H.old i g hi Rf⟩,H.above,λx z=>absurd z (fQ x),TL.start hP rfl JQ Bi V Yl,Yd,hP.hears,λx z=>absurd z (fQ x),λx z=>absurd z (fQ x),λx z=>absurd z (fQ x),λx z=>absurd z (fQ x),
   JO,⟨_,_,R⟩,X,UQ,hc.lt,Z7,λx z=>absurd z (fQ x)⟩
 have O:cp s0 {s0 with w:=s.w}:=by have:=cp.wB NU;rw[<-W.w];exact this
 have F:∃f,Inv P ty Y N val n T c f (crowd gs s.w sl) t:=by
  cases n with
  |zero =>
   obtain⟨r,y⟩:=y;exact⟨_,gs,s.w,sl,_,_,0,_,_,_,0,.kd,r,g,s0,_,_,rfl,⟨ha,.kd y,O,G,Q,R,by have:=Go.ConcN.Mode.opn (j:=0) (D:=λ_=>(⟨0,0,0⟩:WD)) (tag:=.kd) aw (λi hi=>absurd hi (fQ i)) (by simp);simpa[Vc,sumTo,pend]using this,rfl⟩⟩
  |succ n =>
   obtain⟨r,y⟩:=y;have UR:CS P ty Y N val (n+1) T c (.sp n 5) (n+1-(n+1)) r 0 g s0:=.skd (Nat.lt_succ_self n) y;rw[Nat.sub_self]at UR;exact⟨_,gs,s.w,sl,_,_,0,_,_,_,0,.sp n 5,r,g,s0,_,_,rfl,⟨ha,UR,O,G,Q,R,by have:=Go.ConcN.Mode.opn (j:=0) (D:=λ_=>(⟨0,0,0⟩:WD)) (tag:=.sp n 5) aw (λi hi=>absurd hi (fQ i)) (by simp);simpa[Vc,sumTo,pend]using this,rfl⟩⟩
 obtain⟨f,F⟩:=F;obtain⟨M,m',t',hm',NW,aaf,⟨gs',w',sl',a',I,q',rfl,Yf,_,hT,P9,US,fj,hP',acx,hp',J,hlC,hlW,hlS⟩⟩:=Hs hn Xc f _ _ F;have S:jL Y hm' NW n {I with w:=w'}:=US.rely P9.size;have E:∀b,(b=C∨b=Wg∨Sh b)->¬I.own b/\(∀L∈I.β,b∉L.bs)/\∀o,I.M b o=af:=by
  intro b m;have key:∀x,(hm' x=0/\x≠Y.C/\x≠Y.Wg/\¬Y.Sh x/\x<w'.heap.size)->x≠b:=by grind
  refine⟨λho=>key b (S.blk b (.inl ho)) rfl,λL H Nc=>key b (S.blk b (.inr ⟨L,H,Nc⟩)) rfl,λo=>?_⟩;cases hM:I.M b o with
  |none=>rfl
  |some v=>exact absurd rfl (key b (S.M b o v hM))
 obtain⟨s2,hT2,Yh,Yj,TE⟩:=Z a' {I with w:=w'} hT (λb o v hv=>P9.mem b o v hv) hp' J hlC (λb m=>E b (m.elim .inl λe=>.inr (.inl e)));have Dz:Clear (λb=>Sh b∨b=Wg) {I with w:=w'}:=by have k:∀b,(Sh b∨b=Wg)->¬I.own b/\(∀L∈I.β,b∉L.bs)/\∀o,I.M b o=af:=λb m=>E b (m.elim (λe=>.inr (.inr e)) λe=>.inr (.inl e));exact⟨λb m=>(k b m).1,λb m=>(k b m).2.1,λb m=>(k b m).2.2,λb m=>m.elim (hlS b) λe=>by grind⟩
 grind
end
end
section
open Go.Conc Go.RowKit Go.Conc.Lib Go.ConcR.Gen
open Go.ConcN (WgLive)
open Go.ConcR (KK WgAt stA smA rd wr mk DC0)
variable {L:WgLink}
section
variable (P:aq)(R:az->az->Prop)(L:WgLink)(Wg:Nat)(a:au)
def YH(g:au)(_:az):Prop:=g.status=.running/\∃g',(∀w,aG P ab g w=.go g' w #[mk .enable])/\∀w1,WgLive L.tWg Wg w1->∃m,Goes P ab R DC0 (λg _=>g=a) m g' w1
def GRd(g:au)(_:az):Prop:=g.status=.running/\∃g' ad,ad.block=Wg/\(∀w,aG P ab g w=.go g' w #[mk (.read ad)])/\∀w1,WgLive L.tWg Wg w1->∃m,Goes P ab R DC0 (YH P R L Wg a) m g' w1
def GA1(g:au)(w:az):Prop:=g.status=.running/\∀v:Nat,v<2147483647->WgAt L.tWg Wg w (v*KK) 0 ->
 ∃g',aG P ab g w=.go g' (w.setCell (stA Wg) (.int .u64 ((v+1)*KK))) #[rd (stA Wg),wr (stA Wg)]/\∃m,Goes P ab R DC0 (λg w=>GRd P R L Wg a g w∨YH P R L Wg a g w) m g' (w.setCell (stA Wg) (.int .u64 ((v+1)*KK)))
def GKd(g:au)(_:az):Prop:=g.status=.running/\∃g',(∀w,aG P ab g w=.go g' w #[mk .disable])/\∀w1,WgLive L.tWg Wg w1->∃m,Goes P ab R DC0 (GA1 P R L Wg a) m g' w1
end
set_option maxRecDepth 100000 in
def Oe{P:aq}(H:WgLib P L){R:az->az->Prop}{Wg:Nat}(c:∀{w w1},WgLive L.tWg Wg w->R w w1->WgLive L.tWg Wg w1){b₀:aR}{a₀:Act}{ops₀:Array ar}{i₀:Nat}{rest₀:List Nat}{k₀:List Item}{cs:List aR}(w:az)(b:WgLive L.tWg Wg w):
  Goes P ab R DC0 (GKd P R L Wg (G (b₀.at (a₀.put ((ops₀[i₀]?).bind (·.dst)) (.tuple #[])) (.inRegion ops₀ rest₀::k₀)) cs)) 12
   (G ((base L.add).at ⟨#[.pointer (aa ⟨Wg,0,af⟩),.int .i64 1,ai,ai,ai,ai,ai,ai,ai,ai,ai,ai,ai,ai,ai,ai,ai,ai,ai,ai,ai,ai,ai,ai,ai,ai,ai,ai,ai,ai,ai,ai,ai,ai,ai,ai,ai,ai,ai,ai,ai,ai,ai,ai,ai,ai,ai,ai,ai,ai,ai,ai,ai,ai,ai,ai,ai,ai,ai,ai,ai,ai,ai,ai,ai,ai,ai,ai,ai,ai,ai,ai,ai,ai,ai,ai,ai,ai,ai,ai,ai,ai,ai,ai,ai,ai,ai,ai,ai,ai,ai,ai,ai,ai,ai,ai,ai,ai,ai,ai,ai,ai,ai,ai,ai,ai,ai,ai,ai,ai,ai,ai,ai,ai,ai,ai,ai],[]⟩ [.code (body_add L)]) (b₀.at a₀ (.inRegion ops₀ (i₀::rest₀)::k₀)::cs)) w:=by
 lib_facts
 simp only[body_add,addFn,ik]
 repeat (u_c aC c b)
 u_cond ab c b
 repeat (u_c aC c b)
 u_reg c b
 u_op c b
 u_op c b
 u_c aB c b
 repeat (u_c aC c b)
 u_cond ae c b
 u_c stepG_skip c b
 repeat (u_c aC c b)
 u_reg c b
 refine Goes.stop (λl i=>?_);refine⟨rfl,_,λw=>stepG_mark0 .disable (by simp) rfl rfl (by k_ne) rfl H.f_disable (x_disable_n L) (x_disable_b L) (x_disable_x L) (x_disable_f L),λw b=>?_⟩;clear i;refine⟨40,?_⟩
 walk_nrm
 u_c aB c b
 repeat (u_c aC c b)
 u_reg c b
 u_defer c b
 u_c aB c b
 repeat (u_c aC c b)
 u_reg c b
 u_op c b
 u_c aB c b
 repeat (u_c aC c b)
 u_reg c b
 u_bub c b
 u_c aB c b
 repeat (u_c aC c b)
 u_cond ae c b
 u_c stepG_skip c b
 repeat (u_c aC c b)
 u_reg c b
 u_op c b
 u_op c b
 u_op c b
 u_op c b
 u_op c b
 u_op c b
 u_call H.f_uAdd (nm_uAdd L) uAddFn c b
 repeat (u_c aC c b)
 u_reg c b
 u_op c b
 u_c aB c b
 repeat (u_c aC c b)
 u_reg c b
 u_op c b
 u_op c b
 u_op c b
 u_op c b
 refine Goes.stop (λh e=>?_);replace b:=c b e;clear e;refine⟨rfl,λv s j=>?_⟩;have k:KK=4294967296:=rfl;have n:IntKind.u64.wrap ((v:Int)*KK+4294967296)=((v:Int)+1)*KK:=by rw[IntKind.wrap_u64];simp only[k];omega
 refine⟨_,(stepG_add_atomic rfl rfl (by k_ne) rfl H.f_addU64 (x_addU64_n L) (x_addU64_b L) (x_addU64_x L) .u64 (x_addU64_f L) rfl rfl j.cellSt (j.thaw 0)).trans (by rw[n];rfl),110,?_⟩;replace b:WgLive L.tWg Wg (h.setCell (stA Wg) (.int .u64 (((v:Int)+1)*KK))):=⟨_,_,j.setSt _⟩
 clear j
 walk_nrm
 u_op c b
 u_c aB c b
 u_c stepG_ret' c b
 u_leave1 H.f_uAdd c b
 u_op c b
 u_c aB c b
 have u:bits .and .u64 (((v:Int)+1)*4294967296) 2147483648=0:=by have:=Go.ConcN.st_flag (v+1) 0 (by omega) (by omega);grind
 have t:bits .and .u64 (((v:Int)+1)*4294967296) 2147483647=0:=by have:=Go.ConcN.st_waiters (v+1) 0 (by omega) (by omega);grind
 have r:((v:Int)+1+2147483648) % 4294967296-2147483648=(v:Int)+1:=by omega
 have x:¬((v:Int)+1<0):=by omega
 have q:(0:Int)<(v:Int)+1:=by omega
 repeat (u_c aC c b)
 u_reg c b
 u_op c b
 u_op c b
 u_op c b
 u_op c b
 u_skip c b
 u_skip c b
 u_op c b
 u_c aB c b
 repeat (u_c aC c b)
 u_cond ae c b
 u_c stepG_skip c b
 repeat (u_c aC c b)
 u_reg c b
 u_op c b
 u_op c b
 u_op c b
 u_op c b
 u_c aB c b
 repeat (u_c aC c b)
 u_reg c b
 u_op c b
 u_op c b
 u_op c b
 u_op c b
 u_c aB c b
 by_cases o:(v:Int)+1=1
 .repeat (u_c aC c b)
  u_reg c b
  u_op c b
  u_op c b
  u_op c b
  u_op c b
  u_op c b
  u_op c b
  u_op c b
  u_op c b
  u_op c b
  u_op c b
  u_c aB c b
  repeat (u_c aC c b)
  u_cond ab c b
  repeat (u_c aC c b)
  u_reg c b
  u_op c b
  u_op c b
  u_op c b
  u_conv H.underlying_tPU32 H.room_tU32 (Go.ConcN.Gen.WgLive.cell1 b).choose_spec c b
  refine Goes.stop (λm f=>.inl ?_);clear f;refine⟨rfl,_,⟨Wg,1,af⟩,rfl,λw=>stepG_markAt .read (by simp) rfl rfl (by k_ne) rfl H.f_raceRead (x_raceRead_n L) (x_raceRead_b L) (x_raceRead_x L) (x_raceRead_f L) (ad:=⟨Wg,1,af⟩) (by simp[Act.eval]),λw b=>⟨50,?_⟩⟩
  walk_nrm
  u_c aB c b
  repeat (u_c aC c b)
  u_reg c b
  u_op c b
  u_op c b
  u_c aB c b
  repeat (u_c aC c b)
  u_cond ae c b
  u_c stepG_skip c b
  repeat (u_c aC c b)
  u_reg c b
  u_op c b
  u_op c b
  u_op c b
  u_skip c b
  u_skip c b
  u_op c b
  u_op c b
  u_skip c b
  u_skip c b
  u_skip c b
  u_skip c b
  u_op c b
  u_c aB c b
  repeat (u_c aC c b)
  u_cond ae c b
  u_c stepG_skip c b
  repeat (u_c aC c b)
  u_reg c b
  u_op c b
  u_op c b
  u_op c b
  u_skip c b
  u_skip c b
  u_op c b
  u_c aB c b
  repeat (u_c aC c b)
  u_cond ab c b
  u_c stepG_ret' c b
  refine Goes.stop (λg d=>?_);clear d;refine⟨rfl,_,λw=>stepG_unwind_entry (v:=.tuple #[]) (evs:=#[mk .enable]) rfl H.f_enable (x_enable_n L) (x_enable_b L) (x_enable_x L) (x_enable_f L) (by simp[Extern.Race.none_]) (by simp[mk]) (by simp[mk]),λw b=>⟨1,?_⟩⟩
  u_leave0 H.f_add c b
  grind[Goes.stop]
 .have p:((v:Int)+1==1)=ae:=by grind
  repeat (u_c aC c b)
  u_reg c b
  u_op c b
  u_op c b
  u_op c b
  u_op c b
  u_op c b
  u_op c b
  u_op c b
  u_op c b
  u_op c b
  u_op c b
  u_c aB c b
  repeat (u_c aC c b)
  u_cond ae c b
  u_c stepG_skip c b
  repeat (u_c aC c b)
  u_reg c b
  u_op c b
  u_op c b
  u_c aB c b
  repeat (u_c aC c b)
  u_cond ae c b
  u_c stepG_skip c b
  repeat (u_c aC c b)
  u_reg c b
  u_op c b
  u_op c b
  u_op c b
  u_skip c b
  u_skip c b
  u_op c b
  u_op c b
  u_skip c b
  u_skip c b
  u_skip c b
  u_skip c b
  u_op c b
  u_c aB c b
  repeat (u_c aC c b)
  u_cond ae c b
  u_c stepG_skip c b
  repeat (u_c aC c b)
  u_reg c b
  u_op c b
  u_op c b
  u_op c b
  u_skip c b
  u_skip c b
  u_op c b
  u_c aB c b
  repeat (u_c aC c b)
  u_cond ab c b
  u_c stepG_ret' c b
  refine Goes.stop (λg d=>.inr ?_);clear d;refine⟨rfl,_,λw=>stepG_unwind_entry (v:=.tuple #[]) (evs:=#[mk .enable]) rfl H.f_enable (x_enable_n L) (x_enable_b L) (x_enable_x L) (x_enable_f L) (by simp[Extern.Race.none_]) (by simp[mk]) (by simp[mk]),λw b=>⟨1,?_⟩⟩
  u_leave0 H.f_add c b
  grind[Goes.stop]
end
section
open Go.Conc Go.RowKit Go.Conc.Lib Go.ConcR.Gen
open Go.ConcN (WgLive)
open Go.ConcR (KK WgAt stA smA rd wr mk DC0)
section
variable (P:aq)(R:az->az->Prop)(L:WgLink)(Wg:Nat)(a:au)(b:au->Prop)
def Vd(g:au)(_:az):Prop:=g.status=.running/\∃g',(∀w,aG P ab g w=.go g' w #[mk (.acquire (stA Wg))])/\∀w1,WgLive L.tWg Wg w1->∃m,Goes P ab R DC0 (λg _=>g=a) m g' w1
def YI(g:au)(_:az):Prop:=g.status=.running/\∃g',(∀w,aG P ab g w=.go g' w #[mk .enable])/\∀w1,WgLive L.tWg Wg w1->∃m,Goes P ab R DC0 (Vd P R L Wg a) m g' w1
def HW4(g:au)(w:az):Prop:=g.status=.running/\(WgAt L.tWg Wg w 0 0->∃g',aG P ab g w=.go g' w #[rd (stA Wg)]/\∃m,Goes P ab R DC0 (YI P R L Wg a) m g' w)
def HW3(g:au)(w:az):Prop:=g.status=.running/\g.offers=af/\((∃st,WgAt L.tWg Wg w st 0)->aG P ab g w=.go {g with status:=.blocked} w #[]) /\
 (WgAt L.tWg Wg w 0 1->∃g',aG P ab g w=.go g' (w.setCell (smA Wg) (.int .u32 0)) (semEvents (smA Wg))/\∃m,Goes P ab R DC0 (HW4 P R L Wg a) m g' (w.setCell (smA Wg) (.int .u32 0)))
def HWr(g:au)(_:az):Prop:=g.status=.running/\∃g' ad,ad.block=Wg/\(∀w,aG P ab g w=.go g' w #[mk (.write ad)])/\∀w1,WgLive L.tWg Wg w1->∃m,Goes P ab R DC0 (HW3 P R L Wg a) m g' w1
def HW2(vs:Nat)(g:au)(w:az):Prop:=g.status=.running/\∀v:Nat,v<2147483648->WgAt L.tWg Wg w (v*KK) 0 ->
 (v=vs->∃g',aG P ab g w=.go g' (w.setCell (stA Wg) (.int .u64 (v*KK+1))) #[rd (stA Wg),wr (stA Wg)]/\∃m,Goes P ab R DC0 (HWr P R L Wg a) m g' (w.setCell (stA Wg) (.int .u64 (v*KK+1)))) /\
 (v≠vs->∃g',aG P ab g w=.go g' w #[rd (stA Wg)]/\∃m,Goes P ab R DC0 (λg _=>b g) m g' w)
def HW1(g:au)(w:az):Prop:=g.status=.running/\∀v:Nat,v<2147483648->WgAt L.tWg Wg w (v*KK) 0 ->
 ∃g',aG P ab g w=.go g' w #[rd (stA Wg)]/\(v=0->∃m,Goes P ab R DC0 (YI P R L Wg a) m g' w)/\(v≠0->∃m,Goes P ab R DC0 (HW2 P R L Wg a b v) m g' w)
def HKd(g:au)(_:az):Prop:=g.status=.running/\∃g',(∀w,aG P ab g w=.go g' w #[mk .disable])/\∀w1,WgLive L.tWg Wg w1->∃m,Goes P ab R DC0 (λg _=>b g) m g' w1
end
def R4(L:WgLink)(Wg:Nat)(c:aR)(cs:List aR)(g:au):Prop :=
 ∃T:Array ah,g=G ((base L.wait).at ⟨T,[]⟩ [.code (L7 L),.inLoop (L7 L),.inBlock 0]) (c::cs)/\T.size=84/\T[0]?=aa (.pointer (aa ⟨Wg,0,af⟩))
set_option maxRecDepth 100000 in
def Ek{L:WgLink}{P:aq}(H:WgLib P L){R:az->az->Prop}{Wg:Nat}(b:∀{w w1},WgLive L.tWg Wg w->R w w1->WgLive L.tWg Wg w1){c:aR}{cs:List aR}(w:az)(a:WgLive L.tWg Wg w):
  Goes P ab R DC0 (HKd P R L Wg (R4 L Wg c cs)) 6 (G ((base L.wait).at ⟨#[.pointer (aa ⟨Wg,0,af⟩),ai,ai,ai,ai,ai,ai,ai,ai,ai,ai,ai,ai,ai,ai,ai,ai,ai,ai,ai,ai,ai,ai,ai,ai,ai,ai,ai,ai,ai,ai,ai,ai,ai,ai,ai,ai,ai,ai,ai,ai,ai,ai,ai,ai,ai,ai,ai,ai,ai,ai,ai,ai,ai,ai,ai,ai,ai,ai,ai,ai,ai,ai,ai,ai,ai,ai,ai,ai,ai,ai,ai,ai,ai,ai,ai,ai,ai,ai,ai,ai,ai,ai,ai],[]⟩ [.code (body_wait L)]) (c::cs)) w:=by
 lib_facts
 unfold R4;simp only[L7,body_wait,waitFn,ik]
 repeat (u_c aC b a)
 u_cond ab b a
 repeat (u_c aC b a)
 u_reg b a
 refine Goes.stop (λe d=>?_);clear d;refine⟨rfl,_,λw=>stepG_mark0 .disable (by simp) rfl rfl (by k_ne) rfl H.f_disable (x_disable_n L) (x_disable_b L) (x_disable_x L) (x_disable_f L),λw a=>⟨6,?_⟩⟩
 walk_nrm
 u_c aB b a
 repeat (u_c aC b a)
 u_c stepG_block b a
 u_c stepG_loop b a
 exact Goes.stop λ_ _=>⟨_,rfl,rfl,rfl⟩
end
section
open Go.Conc Go.RowKit Go.Conc.Lib Go.ConcR.Gen
open Go.ConcN (WgLive)
open Go.ConcN.Gen
open Go.ConcR (KK WgAt stA smA rd wr mk DC0)
set_option maxRecDepth 100000 in
def Ej{L:WgLink}{P:aq}(H:WgLib P L){R:az->az->Prop}{Wg:Nat}(b:∀{w w1},WgLive L.tWg Wg w->R w w1->WgLive L.tWg Wg w1){b₀:aR}{a₀:Act}{ops₀:Array ar}{i₀:Nat}{rest₀:List Nat}{k₀:List Item}{cs:List aR}(g:au)(hg:R4 L Wg (b₀.at a₀ (.inRegion ops₀ (i₀::rest₀)::k₀)) cs g)(w:az)(a:WgLive L.tWg Wg w):
  ∃m,Goes P ab R DC0 (HW1 P R L Wg (G (b₀.at (a₀.put ((ops₀[i₀]?).bind (·.dst)) (.tuple #[])) (.inRegion ops₀ rest₀::k₀)) cs) (R4 L Wg (b₀.at a₀ (.inRegion ops₀ (i₀::rest₀)::k₀)) cs)) m g w:=by
 lib_facts
 obtain⟨T,rfl,q,t⟩:=hg;obtain⟨v0,v1,v2,v3,v4,v5,v6,v7,v8,v9,v10,v11,v12,v13,v14,A,z,Z,v18,M,v20,v21,F,N,v24,X,v26,v27,u,B,v30,Q,v32,v33,Y,C,v36,v37,v38,v39,D,v41,v42,v43,v44,v45,O,U,v48,v49,K,v51,v52,v53,v54,v55,v56,v57,v58,v59,y,v61,E,v63,v64,v65,I,v67,J,v69,v70,x,v72,v73,v74,W,v76,v77,v78,v79,v80,v81,v82,V,rfl⟩:=array84 T q;simp only[ij,lb,dr]at t;subst t;refine⟨30,?_⟩;unfold R4;simp only[L7,body_wait,waitFn,ik]
 u_c stepG_block b a
 repeat (u_c aC b a)
 u_reg b a
 u_op b a
 u_op b a
 u_op b a
 u_call H.f_uLoad (nm_uLoad L) uLoadFn b a
 repeat (u_c aC b a)
 u_reg b a
 u_op b a
 u_c aB b a
 repeat (u_c aC b a)
 u_reg b a
 u_op b a
 u_op b a
 u_op b a
 refine Goes.stop (λo k=>?_);replace a:=b a k;clear k;refine⟨rfl,λv hv d=>?_⟩;rcases mT v with rfl|hvp
 .replace d:WgAt L.tWg Wg o 0 0:=by grind
  refine⟨_,stepG_load_atomic (v:=0) rfl rfl (by k_ne) rfl H.f_loadU64 (x_loadU64_n L) (x_loadU64_b L) (x_loadU64_x L) .u64 (x_loadU64_f L) rfl d.cellSt,λ_=>⟨80,?_⟩,λh=>absurd rfl h⟩;clear d
  walk_nrm
  u_op b a
  u_c aB b a
  u_c stepG_ret' b a
  u_leave1 H.f_uLoad b a
  u_op b a
  u_c aB b a
  repeat (u_c aC b a)
  u_reg b a
  u_op b a
  u_op b a
  u_op b a
  u_op b a
  u_c aB b a
  repeat (u_c aC b a)
  u_reg b a
  u_op b a
  u_op b a
  u_op b a
  u_op b a
  u_c aB b a
  repeat (u_c aC b a)
  u_reg b a
  u_op b a
  u_op b a
  u_c aB b a
  repeat (u_c aC b a)
  u_cond ab b a
  repeat (u_c aC b a)
  u_cond ab b a
  repeat (u_c aC b a)
  u_reg b a
  refine Goes.stop (λf c=>?_);clear c;refine⟨rfl,_,λw=>stepG_mark0 .enable (by simp) rfl rfl (by k_ne) rfl H.f_enable (x_enable_n L) (x_enable_b L) (x_enable_x L) (x_enable_f L),λw a=>⟨20,?_⟩⟩
  walk_nrm
  u_c aB b a
  repeat (u_c aC b a)
  u_reg b a
  u_op b a
  u_conv H.underlying_tWgP H.room_tWg (Go.ConcN.Gen.WgLive.cell0 a).choose_spec b a
  refine Goes.stop (λf c=>?_);clear c;refine⟨rfl,_,λw=>stepG_markAt .acquire (by simp) rfl rfl (by k_ne) rfl H.f_acquire (x_acquire_n L) (x_acquire_b L) (x_acquire_x L) (x_acquire_f L) (by simp[Act.eval,stA]),λw a=>⟨40,?_⟩⟩
  walk_nrm
  u_c aB b a
  repeat (u_c aC b a)
  u_reg b a
  u_op b a
  u_op b a
  u_op b a
  u_op b a
  u_op b a
  u_op b a
  u_op b a
  u_op b a
  u_skip b a
  u_skip b a
  u_op b a
  u_c aB b a
  repeat (u_c aC b a)
  u_cond ae b a
  u_c stepG_skip b a
  u_c stepG_ret' b a
  u_leave0 H.f_wait b a
  grind[Goes.stop]
 .obtain⟨S,l⟩:∃S:Int,(v:Int)*KK=S:=⟨_,rfl⟩;have a1:S / 4294967296=(v:Int):=by rw[<-l];simp only[KK];omega
  have b1:bits .and .u64 S 2147483648=0:=by rw[<-l];have:=Go.ConcN.st_flag v 0 (by omega) (by omega);simpa[KK]using this
  have b2:bits .and .u64 S 2147483647=0:=by rw[<-l];have:=Go.ConcN.st_waiters v 0 (by omega) (by omega);simpa[KK]using this
  have c1:IntKind.i32.wrap (v:Int)=(v:Int):=by grind[IntKind.wrap_i32]
  have w1:IntKind.u64.wrap (S+1)=S+1:=by rw[IntKind.wrap_u64,<-l];simp only[KK];omega
  have q3:decide ((v:Int)<0)=ae:=iP (by omega);have q4:decide (0<(v:Int))=ab:=dc (by omega);have q5:((v:Int)==0)=ae:=by grind
  have q6:decide ((v:Int)=0)=ae:=iP (by omega);rw[l]at d;refine⟨_,stepG_load_atomic (v:=S) rfl rfl (by k_ne) rfl H.f_loadU64 (x_loadU64_n L) (x_loadU64_b L) (x_loadU64_x L) .u64 (x_loadU64_f L) rfl d.cellSt,λh0=>absurd h0 (by omega),λ_=>⟨80,?_⟩⟩;clear d
  walk_nrm
  u_op b a
  u_c aB b a
  u_c stepG_ret' b a
  u_leave1 H.f_uLoad b a
  u_op b a
  u_c aB b a
  repeat (u_c aC b a)
  u_reg b a
  u_op b a
  u_op b a
  u_op b a
  u_op b a
  u_c aB b a
  repeat (u_c aC b a)
  u_reg b a
  u_op b a
  u_op b a
  u_op b a
  u_op b a
  u_c aB b a
  repeat (u_c aC b a)
  u_reg b a
  u_op b a
  u_op b a
  u_c aB b a
  repeat (u_c aC b a)
  u_cnd ae b a
  u_c stepG_skip b a
  repeat (u_c aC b a)
  u_reg b a
  u_op b a
  u_op b a
  u_op b a
  u_op b a
  u_op b a
  u_op b a
  u_call H.f_uCas (nm_uCas L) uCasFn b a
  repeat (u_c aC b a)
  u_reg b a
  u_op b a
  u_c aB b a
  repeat (u_c aC b a)
  u_reg b a
  u_op b a
  u_op b a
  u_op b a
  u_op b a
  u_op b a
  refine Goes.stop (λf c=>?_);replace a:=b a c;clear c;refine⟨rfl,λv' WO d=>⟨λe=>?_,λe=>?_⟩⟩
  .subst e;rw[l]at d⊢;refine⟨_,(stepG_cas_hit (v:=S) (n:=S+1) rfl rfl (by k_ne) rfl H.f_casU64 (x_casU64_n L) (x_casU64_b L) (x_casU64_x L) .u64 (x_casU64_f L) rfl rfl rfl d.cellSt (d.thaw 0)).trans (by rfl),90,?_⟩;replace a:WgLive L.tWg Wg (f.setCell (stA Wg) (.int .u64 (S+1))):=⟨_,_,d.setSt _⟩
   clear d
   walk_nrm
   u_op b a
   u_c aB b a
   u_c stepG_ret' b a
   u_leave1 H.f_uCas b a
   u_c aB b a
   repeat (u_c aC b a)
   u_cond ab b a
   repeat (u_c aC b a)
   u_reg b a
   u_op b a
   u_op b a
   u_op b a
   u_op b a
   u_c aB b a
   repeat (u_c aC b a)
   u_cond ab b a
   repeat (u_c aC b a)
   u_reg b a
   u_op b a
   u_op b a
   u_op b a
   u_conv H.underlying_tPU32 H.room_tU32 (Go.ConcN.Gen.WgLive.cell1 a).choose_spec b a
   refine Goes.stop (λf c=>?_);clear c;refine⟨rfl,_,⟨Wg,1,af⟩,rfl,λw=>stepG_markAt .write (by simp) rfl rfl (by k_ne) rfl H.f_raceWrite (x_raceWrite_n L) (x_raceWrite_b L) (x_raceWrite_x L) (x_raceWrite_f L) (ad:=⟨Wg,1,af⟩) (by simp[Act.eval]),λw a=>⟨60,?_⟩⟩
   walk_nrm
   u_c aB b a
   repeat (u_c aC b a)
   u_reg b a
   u_op b a
   u_c aB b a
   repeat (u_c aC b a)
   u_reg b a
   u_op b a
   u_op b a
   u_op b a
   u_op b a
   u_skip b a
   u_op b a
   u_c aB b a
   repeat (u_c aC b a)
   u_cond ae b a
   u_c stepG_skip b a
   repeat (u_c aC b a)
   u_reg b a
   u_op b a
   u_op b a
   u_op b a
   u_op b a
   refine Goes.stop (λp j=>?_);replace a:=b a j;clear j;refine⟨rfl,rfl,λ⟨st,d⟩=>stepG_semacquire_wait rfl rfl rfl H.f_semacquire (x_semacquire_n L) (x_semacquire_b L) (x_semacquire_x L) (x_semacquire_f L) (by simp[Act.eval,smA]) d.cellSm,λr=>?_⟩;refine⟨_,(stepG_semacquire (n:=1) rfl rfl (by k_ne) rfl H.f_semacquire (x_semacquire_n L) (x_semacquire_b L) (x_semacquire_x L) (x_semacquire_f L) (by simp[Act.eval,smA]) r.cellSm (by k_ne) (r.thaw 1)).trans (by rfl),40,?_⟩;replace a:WgLive L.tWg Wg (p.setCell (smA Wg) (.int .u32 0)):=⟨_,_,r.setSm 0⟩
   clear r
   walk_nrm
   u_c aB b a
   repeat (u_c aC b a)
   u_reg b a
   u_op b a
   u_op b a
   u_op b a
   u_call H.f_uLoad (nm_uLoad L) uLoadFn b a
   repeat (u_c aC b a)
   u_reg b a
   u_op b a
   u_c aB b a
   repeat (u_c aC b a)
   u_reg b a
   u_op b a
   u_op b a
   u_op b a
   refine Goes.stop (λs i=>?_);replace a:=b a i;clear i;refine⟨rfl,λd=>⟨_,stepG_load_atomic (v:=0) rfl rfl (by k_ne) rfl H.f_loadU64 (x_loadU64_n L) (x_loadU64_b L) (x_loadU64_x L) .u64 (x_loadU64_f L) rfl d.cellSt,40,?_⟩⟩;clear d
   walk_nrm
   u_op b a
   u_c aB b a
   u_c stepG_ret' b a
   u_leave1 H.f_uLoad b a
   u_op b a
   u_op b a
   u_c aB b a
   repeat (u_c aC b a)
   u_cond ab b a
   repeat (u_c aC b a)
   u_reg b a
   refine Goes.stop (λf c=>?_);clear c;refine⟨rfl,_,λw=>stepG_mark0 .enable (by simp) rfl rfl (by k_ne) rfl H.f_enable (x_enable_n L) (x_enable_b L) (x_enable_x L) (x_enable_f L),λw a=>⟨20,?_⟩⟩
   walk_nrm
   u_c aB b a
   repeat (u_c aC b a)
   u_reg b a
   u_op b a
   u_conv H.underlying_tWgP H.room_tWg (Go.ConcN.Gen.WgLive.cell0 a).choose_spec b a
   refine Goes.stop (λf c=>?_);clear c;refine⟨rfl,_,λw=>stepG_markAt .acquire (by simp) rfl rfl (by k_ne) rfl H.f_acquire (x_acquire_n L) (x_acquire_b L) (x_acquire_x L) (x_acquire_f L) (by simp[Act.eval,stA]),λw a=>⟨40,?_⟩⟩
   walk_nrm
   u_c aB b a
   repeat (u_c aC b a)
   u_reg b a
   u_op b a
   u_c aB b a
   repeat (u_c aC b a)
   u_cond ae b a
   u_c stepG_skip b a
   u_c stepG_ret' b a
   u_leave0 H.f_wait b a
   grind[Goes.stop]
  .refine⟨_,stepG_cas_miss (v:=(v':Int)*KK) (old:=S) (n:=S+1) rfl rfl (by k_ne) rfl H.f_casU64 (x_casU64_n L) (x_casU64_b L) (x_casU64_x L) .u64 (x_casU64_f L) rfl rfl rfl d.cellSt (d.thaw 0) (by rw[<-l];simp only[KK];omega),30,?_⟩;clear d
   walk_nrm
   u_op b a
   u_c aB b a
   u_c stepG_ret' b a
   u_leave1 H.f_uCas b a
   u_c aB b a
   repeat (u_c aC b a)
   u_cond ae b a
   u_c stepG_skip b a
   u_c stepG_inBlock b a
   u_c stepG_inLoop b a
   exact Goes.stop λ_ _=>⟨_,rfl,by simp,by simp⟩
end
section
open Go.Conc Go.Conc.Lib
open Go.ConcN (WgLive)
open Go.ConcR (KK WgAt stA smA rd wr mk DC0 Payload)
def fC(ty:aj)(Wg:Nat)(w w1:az):Prop:=WgLive ty Wg w->WgLive ty Wg w1
def fC.refl{ty:aj}{Wg:Nat}(w:az):fC ty Wg w w:=id
def fC.trans{ty:aj}{Wg:Nat}{a b c:az}(h:fC ty Wg a b)(k:fC ty Wg b c):fC ty Wg a c:=λx=>k (h x)
def x6(R:az->az->Prop)(Stop:au->az->Prop)(g:au)(w:az):Prop:=∀w1,R w w1->Stop g w1
def Goes.all{P:aq}{main:Bool}{R:az->az->Prop}{D:az->az->Array Event->Prop}{Stop:au->az->Prop}(hT:∀a b c,R a b->R b c->R a c):
  ∀{n:Nat} {g:au} {w:az},Goes P main R D Stop n g w->Goes P main R D (x6 R Stop) n g w
 |0,g,w,h=>λw1 l w2 p=>h w2 (hT _ _ _ l p)
 |n+1,g,w,h=>by
  rcases h with h|⟨d,h⟩
  .exact .inl λw1 l w2 p=>h w2 (hT _ _ _ l p)
  .refine .inr ⟨d,λw1 l=>?_⟩;have p:=h w1 l;cases j:aG P main g w1 with
   |go g' w' es =>
    rw[j,goes_go]at p;rw[goes_go];exact⟨p.1,Goes.all hT p.2⟩
   |_=>rw[j]at p;exact p.elim
structure Apart(Wg:Nat)(F:St->Prop):Prop where
 rely:∀s s',F s->cp s s'->F s'
 heap:∀s,F s->∃σ,aE σ s
 free:∀s,F s->¬s.own Wg/\(∀L∈s.β,Wg∉L.bs)/\∀o,s.M Wg o=af
section
variable {P:aq}{L:WgLink}{Wg:Nat}{F:St->Prop}
def yD(ty:aj)(Wg:Nat)(F:St->Prop)(s:St):Prop:=F s/\WgLive ty Wg s.w
def Apart.Qi(A:Apart Wg F){s:St}(h:F s):gM s:=(A.heap s h).choose_spec.mem
def Apart.set(A:Apart Wg F){s:St}(h:F s)(a:Addr)(x:a.block=Wg)(v:ah):cp s {s with w:=s.w.setCell a v}:=by
 obtain⟨l,p,y⟩:=A.free s h;have hk:∀b,b≠Wg->(s.w.setCell a v).heap[b]?=s.w.heap[b]?:=λb j=>by have:=(aside_setCell s.w a v).block b (by grind);exact this
 refine⟨rfl,rfl,rfl,Nat.le_of_eq (aside_setCell s.w a v).size.symm,λb j=>hk b ?_,λb o u k=>?_,(aside_setCell s.w a v).os,(aside_setCell s.w a v).tape,(aside_setCell s.w a v).output⟩
 .grind
 .have E:b≠Wg:=by grind
  show(s.w.setCell a v).cell? _=_;rw[jM (hk b E) o];exact A.Qi h b o u k
def Apart.next(A:Apart Wg F){ty:aj}{s i:St}(h:yD ty Wg F s)(r:(Cx.lead P ty Wg).rely s i):yD ty Wg F i:=⟨A.rely s i h.1 r.1,r.2 h.2⟩
def Apart.here(A:Apart Wg F){ty:aj}{s:St}(h:yD ty Wg F s):(Cx.lead P ty Wg).rely s s:=⟨cp.wB (A.Qi h.1),id⟩
def Apart.goes(A:Apart Wg F){ty:aj}{S:au->St->Prop}{Stop:au->az->Prop}(k:∀g s,yD ty Wg F s->x6 (fC ty Wg) Stop g s.w->en (Cx.lead P ty Wg) (Es Wg) S g s){n:Nat}{g:au}{s:St}(d:yD ty Wg F s)(h:Goes P ab (fC ty Wg) DC0 Stop n g s.w):en (Cx.lead P ty Wg) (Es Wg) S g s:=by refine en.goes (X:=Cx.lead P ty Wg) (R:=fC ty Wg) (D:=DC0) (Stop:=x6 (fC ty Wg) Stop) (yD ty Wg F) (λs i hi f=>A.next hi f) (λs i _ f=>f.2) ?_ (λs hi=>A.here hi) k n g s d (Goes.all (λ_ _ _ l p=>l.trans p) h);rintro s es hi w' ⟨rfl,rfl⟩;exact⟨rfl,.inl (.quiet (A.heap s hi.1).choose_spec)⟩
end
set_option maxRecDepth 100000 in
def Ei{P:aq}{L:WgLink}(H:WgLib P L){Wg:Nat}:Frame.enter P L.add #[.pointer (aa ⟨Wg,0,af⟩),.int .i64 1] .normal=(base L.add).at ⟨#[.pointer (aa ⟨Wg,0,af⟩),.int .i64 1,ai,ai,ai,ai,ai,ai,ai,ai,ai,ai,ai,ai,ai,ai,ai,ai,ai,ai,ai,ai,ai,ai,ai,ai,ai,ai,ai,ai,ai,ai,ai,ai,ai,ai,ai,ai,ai,ai,ai,ai,ai,ai,ai,ai,ai,ai,ai,ai,ai,ai,ai,ai,ai,ai,ai,ai,ai,ai,ai,ai,ai,ai,ai,ai,ai,ai,ai,ai,ai,ai,ai,ai,ai,ai,ai,ai,ai,ai,ai,ai,ai,ai,ai,ai,ai,ai,ai,ai,ai,ai,ai,ai,ai,ai,ai,ai,ai,ai,ai,ai,ai,ai,ai,ai,ai,ai,ai,ai,ai,ai,ai,ai,ai,ai,ai],[]⟩ [.code (Go.ConcR.Gen.body_add L)] :=
 (enter_at (c:=Go.ConcR.Gen.body_add L) _ H.f_add (by kernel_rfl)).trans (by kernel_rfl)
set_option maxRecDepth 100000 in
def B8{P:aq}{L:WgLink}(H:WgLib P L){Wg:Nat}:Frame.enter P L.wait #[.pointer (aa ⟨Wg,0,af⟩)] .normal=(base L.wait).at ⟨#[.pointer (aa ⟨Wg,0,af⟩),ai,ai,ai,ai,ai,ai,ai,ai,ai,ai,ai,ai,ai,ai,ai,ai,ai,ai,ai,ai,ai,ai,ai,ai,ai,ai,ai,ai,ai,ai,ai,ai,ai,ai,ai,ai,ai,ai,ai,ai,ai,ai,ai,ai,ai,ai,ai,ai,ai,ai,ai,ai,ai,ai,ai,ai,ai,ai,ai,ai,ai,ai,ai,ai,ai,ai,ai,ai,ai,ai,ai,ai,ai,ai,ai,ai,ai,ai,ai,ai,ai,ai,ai],[]⟩ [.code (Go.ConcR.Gen.body_wait L)] :=
 (enter_at (c:=Go.ConcR.Gen.body_wait L) _ H.f_wait (by kernel_rfl)).trans (by kernel_rfl)
section
variable [Payload]{P:aq}{L:WgLink}{Y:Lay}{F:St->Prop}{N n:Nat}{val:Nat->Nat->ah}
def YG(H:WgLib P L)(A:Apart Y.Wg F){j:Nat}{Next:au->St->Prop}{b₀:aR}{a₀:Act}{ops₀:Array ar}{i₀:Nat}{rest₀:List Nat}{k₀:List Item}{cs:List aR}(o:∀s,yD L.tWg Y.Wg F s->en (Cx.lead P L.tWg Y.Wg) (Es Y.Wg) (AtGo P L.tWg Y N val j Next) (G (b₀.at (a₀.put ((ops₀[i₀]?).bind (·.dst)) (.tuple #[])) (.inRegion ops₀ rest₀::k₀)) cs) s){s:St}(d:yD L.tWg Y.Wg F s):
  en (Cx.lead P L.tWg Y.Wg) (Es Y.Wg) (AtKdS P L.tWg Y N val j Next) (G (Frame.enter P L.add #[.pointer (aa ⟨Y.Wg,0,af⟩),.int .i64 1] .normal) (b₀.at a₀ (.inRegion ops₀ (i₀::rest₀)::k₀)::cs)) s:=by
 have z:∀g s,yD L.tWg Y.Wg F s->YH P (fC L.tWg Y.Wg) L Y.Wg (G (b₀.at (a₀.put ((ops₀[i₀]?).bind (·.dst)) (.tuple #[])) (.inRegion ops₀ rest₀::k₀)) cs) g s.w->en (Cx.lead P L.tWg Y.Wg) (Es Y.Wg) (AtKeS P L.tWg Y N val j Next) g s:=by rintro g s d ⟨l,g',p,y⟩;refine⟨.leaf,l,g',p,λi f=>?_⟩;have a:=A.next d f;obtain⟨m,q⟩:=y i.w a.2;exact A.goes (λg s d h=>by obtain rfl:=h s.w (.refl _);grind) a q
 have k:∀g s,yD L.tWg Y.Wg F s->x6 (fC L.tWg Y.Wg) (GA1 P (fC L.tWg Y.Wg) L Y.Wg (G (b₀.at (a₀.put ((ops₀[i₀]?).bind (·.dst)) (.tuple #[])) (.inRegion ops₀ rest₀::k₀)) cs)) g s.w->en (Cx.lead P L.tWg Y.Wg) (Es Y.Wg) (AtA1 P L.tWg Y N val j Next) g s:=by
  rintro g s d h;refine⟨.leaf,(h s.w (.refl _)).1,λi f v I t=>?_⟩;have a:=A.next d f;obtain⟨g',l,m,q⟩:=(h i.w f.2).2 v I t;have b:yD L.tWg Y.Wg F {i with w:=i.w.setCell (stA Y.Wg) (.int .u64 ((v+1)*KK))}:=⟨A.rely _ _ a.1 (A.set a.1 _ rfl _),⟨_,_,t.setSt _⟩⟩;refine⟨g',l,A.goes (λg s d h=>?_) b q⟩
  rcases h s.w (.refl _)with h|h
  .obtain⟨l,g',ad,p,y,V⟩:=h;refine .step l λi f=>⟨g',i,_,y i.w,.inr ⟨rfl,ad,p,.inl rfl⟩,?_⟩
   have a:=A.next d f;obtain⟨m,q⟩:=V i.w a.2;exact A.goes (λg s d h=>z g s d (h s.w (.refl _))) a q
  grind
 have t:=Oe (P:=P) (L:=L) H (R:=fC L.tWg Y.Wg) (Wg:=Y.Wg) (λh r=>r h) (b₀:=b₀) (a₀:=a₀) (ops₀:=ops₀) (i₀:=i₀) (rest₀:=rest₀) (k₀:=k₀) (cs:=cs) s.w d.2;rw[Ei H];refine A.goes (λg s d h=>?_) d t;obtain⟨l,g',p,y⟩:=h s.w (.refl _);refine⟨.leaf,l,g',p,λi f=>?_⟩;have a:=A.next d f;obtain⟨m,q⟩:=y i.w a.2;exact A.goes k a q
section
variable (P L Y F)
def TW(B g:au)(s:St):Prop:=yD L.tWg Y.Wg F s/\∃m,Goes P ab (fC L.tWg Y.Wg) DC0 (λg _=>g=B) m g s.w
def Gj(c:aR)(cs:List aR)(g:au)(s:St):Prop:=yD L.tWg Y.Wg F s/\∃m,Goes P ab (fC L.tWg Y.Wg) DC0 (λg _=>R4 L Y.Wg c cs g) m g s.w
end
variable {b₀:aR}{a₀:Act}{ops₀:Array ar}{i₀:Nat}{rest₀:List Nat}{k₀:List Item}{cs:List aR}
omit [Payload]in
def Vb(H:WgLib P L)(A:Apart Y.Wg F){T J:au->St->Prop}(K:∀g s,TW P L Y F (G (b₀.at (a₀.put ((ops₀[i₀]?).bind (·.dst)) (.tuple #[])) (.inRegion ops₀ rest₀::k₀)) cs) g s->T g s)(C:∀g s,Gj P L Y F (b₀.at a₀ (.inRegion ops₀ (i₀::rest₀)::k₀)) cs g s->J g s){g:au}{s:St}(h:Gj P L Y F (b₀.at a₀ (.inRegion ops₀ (i₀::rest₀)::k₀)) cs g s):
  en (Cx.lead P L.tWg Y.Wg) (Es Y.Wg) (AtW1 P L.tWg Y T J) g s:=by
 generalize hc:b₀.at a₀ (.inRegion ops₀ (i₀::rest₀)::k₀)=c at *;generalize hgE:G (b₀.at (a₀.put ((ops₀[i₀]?).bind (·.dst)) (.tuple #[])) (.inRegion ops₀ rest₀::k₀)) cs=B at K;have O:∀g s,yD L.tWg Y.Wg F s->x6 (fC L.tWg Y.Wg) (Vd P (fC L.tWg Y.Wg) L Y.Wg B) g s.w->en (Cx.lead P L.tWg Y.Wg) (Es Y.Wg) (AtAcq P L.tWg Y T) g s:=by intro g s d h;obtain⟨l,g',p,y⟩:=h s.w (.refl _);exact⟨.leaf,l,g',p,λi f=>K _ _ ⟨A.next d f,y i.w (A.next d f).2⟩⟩
 have z:∀g s,yD L.tWg Y.Wg F s->x6 (fC L.tWg Y.Wg) (YI P (fC L.tWg Y.Wg) L Y.Wg B) g s.w->en (Cx.lead P L.tWg Y.Wg) (Es Y.Wg) (AtKe P L.tWg Y T) g s:=by intro g s d h;obtain⟨l,g',p,y⟩:=h s.w (.refl _);refine⟨.leaf,l,g',p,λi f=>?_⟩;obtain⟨m,q⟩:=y i.w (A.next d f).2;exact A.goes O (A.next d f) q
 have W:∀g s,yD L.tWg Y.Wg F s->x6 (fC L.tWg Y.Wg) (HW4 P (fC L.tWg Y.Wg) L Y.Wg B) g s.w->en (Cx.lead P L.tWg Y.Wg) (Es Y.Wg) (AtW4 P L.tWg Y T) g s:=by intro g s d h;refine⟨.leaf,(h s.w (.refl _)).1,λi f t=>?_⟩;obtain⟨g',l,m,q⟩:=(h i.w f.2).2 t;exact⟨g',l,A.goes z (A.next d f) q⟩
 have Z:∀g s,yD L.tWg Y.Wg F s->x6 (fC L.tWg Y.Wg) (HW3 P (fC L.tWg Y.Wg) L Y.Wg B) g s.w->en (Cx.lead P L.tWg Y.Wg) (Es Y.Wg) (AtW3 P L.tWg Y T) g s:=by intro g s d h;refine⟨.leaf,(h s.w (.refl _)).1,(h s.w (.refl _)).2.1,λi f=>⟨(h i.w f.2).2.2.1,λt=>?_⟩⟩;obtain⟨g',l,m,q⟩:=(h i.w f.2).2.2.2 t;exact⟨g',l,A.goes W (s:={i with w:=i.w.setCell (smA Y.Wg) (.int .u32 0)}) ⟨A.rely _ _ (A.next d f).1 (A.set (A.next d f).1 _ rfl _),⟨_,_,t.setSm 0⟩⟩ q⟩
 have U:∀g s,yD L.tWg Y.Wg F s->x6 (fC L.tWg Y.Wg) (HWr P (fC L.tWg Y.Wg) L Y.Wg B) g s.w->en (Cx.lead P L.tWg Y.Wg) (Es Y.Wg) (AtW3 P L.tWg Y T) g s:=by
  intro g s d h;obtain⟨l,g',ad,p,y,V⟩:=h s.w (.refl _);refine .step l λi f=>⟨g',i,_,y i.w,.inr ⟨rfl,ad,p,.inr rfl⟩,?_⟩
  obtain⟨m,q⟩:=V i.w (A.next d f).2;exact A.goes Z (A.next d f) q
 have Q:∀(v:Nat) g s,yD L.tWg Y.Wg F s->x6 (fC L.tWg Y.Wg) (HW2 P (fC L.tWg Y.Wg) L Y.Wg B (R4 L Y.Wg c cs) v) g s.w->en (Cx.lead P L.tWg Y.Wg) (Es Y.Wg) (AtW2 P L.tWg Y T J v) g s:=by
  intro vs g s d h;refine⟨.leaf,(h s.w (.refl _)).1,λi f v I t=>⟨λe=>?_,λe=>?_⟩⟩
  .obtain⟨g',l,m,q⟩:=((h i.w f.2).2 v I t).1 e;exact⟨g',l,A.goes U (s:={i with w:=i.w.setCell (stA Y.Wg) (.int .u64 (v*KK+1))}) ⟨A.rely _ _ (A.next d f).1 (A.set (A.next d f).1 _ rfl _),⟨_,_,t.setSt _⟩⟩ q⟩
  .obtain⟨g',l,m,q⟩:=((h i.w f.2).2 v I t).2 e;exact⟨g',l,C _ _ ⟨A.next d f,m,q⟩⟩
 obtain⟨d,m,q⟩:=h;refine A.goes (λg s d h=>?_) d q;obtain⟨m,t⟩:=Ej (P:=P) (L:=L) H (R:=fC L.tWg Y.Wg) (Wg:=Y.Wg) (λh r=>r h) (b₀:=b₀) (a₀:=a₀) (ops₀:=ops₀) (i₀:=i₀) (rest₀:=rest₀) (k₀:=k₀) (cs:=cs) g (by rw[hc];exact h s.w (.refl _)) s.w d.2;rw[hc,hgE]at t;refine A.goes (λg s d h=>?_) d t;refine⟨.leaf,(h s.w (.refl _)).1,λi f v I t=>?_⟩;obtain⟨g',l,p,y⟩:=(h i.w f.2).2 v I t;refine⟨g',l,λh0=>?_,λE=>?_⟩
 .obtain⟨m,q⟩:=p h0;exact A.goes z (A.next d f) q
 .obtain⟨m,q⟩:=y E;exact A.goes (Q v) (A.next d f) q
omit [Payload]in
def Ve(H:WgLib P L)(A:Apart Y.Wg F){c:aR}{J:au->St->Prop}(C:∀g s,Gj P L Y F c cs g s->J g s){s:St}(d:yD L.tWg Y.Wg F s):
  en (Cx.lead P L.tWg Y.Wg) (Es Y.Wg) (AtKd P L.tWg Y J) (G (Frame.enter P L.wait #[.pointer (aa ⟨Y.Wg,0,af⟩)] .normal) (c::cs)) s:=by have t:=Ek (P:=P) (L:=L) H (R:=fC L.tWg Y.Wg) (Wg:=Y.Wg) (λh r=>r h) (c:=c) (cs:=cs) s.w d.2;rw[B8 H];refine A.goes (λg s d h=>?_) d t;obtain⟨l,g',p,y⟩:=h s.w (.refl _);exact⟨.leaf,l,g',p,λi f=>C _ _ ⟨A.next d f,y i.w (A.next d f).2⟩⟩
end
end
end Go.AM
namespace Go.AM.R1
section
open Go.Proofs Go.Conc.Lib
def Qn:WgLink:={add:=141,done:=143,wait:=145,relMerge:=166,disable:=167,enable:=168,inBubble:=169,associate:=170,fatal:=171,uOr:=172,uAdd:=173,raceRead:=174,uLoad:=175,uStore:=176,disassociate:=177,semrelease:=178,acquire:=180,isAssociated:=181,uCas:=182,raceWrite:=183,semacquire:=184,orU64:=207,addU64:=208,loadU64:=209,storeU64:=210,casU64:=213,tWgP:=245,tUP:=123,tAssoc:=247,tWg:=215,tAU:=212,tU64:=210,tUint:=230,tU32:=213,tPU32:=251,tPAU:=280,tPU64:=282,tNoCopy:=207,tANoCopy:=208,tAlign64:=209}
def Ck:WgLib ag Qn where
 f_add:=Tryz.func141.trans (dA aa (by kernel_rfl))
 f_done:=Tryz.func143.trans (dA aa (by kernel_rfl))
 f_wait:=Tryz.func145.trans (dA aa (by kernel_rfl))
 f_relMerge:=Tryz.func166.trans (dA aa (by kernel_rfl))
 f_disable:=Tryz.func167.trans (dA aa (by kernel_rfl))
 f_enable:=Tryz.func168.trans (dA aa (by kernel_rfl))
 f_inBubble:=Tryz.func169.trans (dA aa (by kernel_rfl))
 f_associate:=Tryz.func170.trans (dA aa (by kernel_rfl))
 f_fatal:=Tryz.func171.trans (dA aa (by kernel_rfl))
 f_uOr:=Tryz.func172.trans (dA aa (by kernel_rfl))
 f_uAdd:=Tryz.func173.trans (dA aa (by kernel_rfl))
 f_raceRead:=Tryz.func174.trans (dA aa (by kernel_rfl))
 f_uLoad:=Tryz.func175.trans (dA aa (by kernel_rfl))
 f_uStore:=Tryz.func176.trans (dA aa (by kernel_rfl))
 f_disassociate:=Tryz.func177.trans (dA aa (by kernel_rfl))
 f_semrelease:=Tryz.func178.trans (dA aa (by kernel_rfl))
 f_acquire:=Tryz.func180.trans (dA aa (by kernel_rfl))
 f_isAssociated:=Tryz.func181.trans (dA aa (by kernel_rfl))
 f_uCas:=Tryz.func182.trans (dA aa (by kernel_rfl))
 f_raceWrite:=Tryz.func183.trans (dA aa (by kernel_rfl))
 f_semacquire:=Tryz.func184.trans (dA aa (by kernel_rfl))
 f_orU64:=Tryz.func207.trans (dA aa (by kernel_rfl))
 f_addU64:=Tryz.func208.trans (dA aa (by kernel_rfl))
 f_loadU64:=Tryz.func209.trans (dA aa (by kernel_rfl))
 f_storeU64:=Tryz.func210.trans (dA aa (by kernel_rfl))
 f_casU64:=Tryz.func213.trans (dA aa (by kernel_rfl))
 underlying_tWgP:=Tryz.underlying245
 runUnderlying_tWgP:=Tryz.runUnderlying245
 sizeOf_tWgP:=Tryz.sizeOf245
 isAgg_tWgP:=Tryz.isAgg245
 zeroValue_tWgP:=Tryz.zeroValue245
 underlying_tUP:=Tryz.underlying123
 runUnderlying_tUP:=Tryz.runUnderlying123
 sizeOf_tUP:=Tryz.sizeOf123
 isAgg_tUP:=Tryz.isAgg123
 zeroValue_tUP:=Tryz.zeroValue123
 underlying_tI32:=Tryz.underlying247
 runUnderlying_tI32:=Tryz.runUnderlying247
 sizeOf_tI32:=Tryz.sizeOf247
 isAgg_tI32:=Tryz.isAgg247
 zeroValue_tI32:=Tryz.zeroValue247
 underlying_tWg:=Tryz.underlying215
 runUnderlying_tWg:=Tryz.runUnderlying215
 sizeOf_tWg:=Tryz.sizeOf215
 isAgg_tWg:=Tryz.isAgg215
 zeroValue_tWg:=Tryz.zeroValue215
 underlying_tAU:=Tryz.underlying212
 runUnderlying_tAU:=Tryz.runUnderlying212
 sizeOf_tAU:=Tryz.sizeOf212
 isAgg_tAU:=Tryz.isAgg212
 zeroValue_tAU:=Tryz.zeroValue212
 underlying_tU64:=Tryz.underlying210
 runUnderlying_tU64:=Tryz.runUnderlying210
 sizeOf_tU64:=Tryz.sizeOf210
 isAgg_tU64:=Tryz.isAgg210
 zeroValue_tU64:=Tryz.zeroValue210
 underlying_tSh:=Tryz.underlying230
 runUnderlying_tSh:=Tryz.runUnderlying230
 sizeOf_tSh:=Tryz.sizeOf230
 isAgg_tSh:=Tryz.isAgg230
 zeroValue_tSh:=Tryz.zeroValue230
 underlying_tU32:=Tryz.underlying213
 runUnderlying_tU32:=Tryz.runUnderlying213
 sizeOf_tU32:=Tryz.sizeOf213
 isAgg_tU32:=Tryz.isAgg213
 zeroValue_tU32:=Tryz.zeroValue213
 underlying_tPU32:=Tryz.underlying251
 runUnderlying_tPU32:=Tryz.runUnderlying251
 sizeOf_tPU32:=Tryz.sizeOf251
 isAgg_tPU32:=Tryz.isAgg251
 zeroValue_tPU32:=Tryz.zeroValue251
 underlying_tPAU:=Tryz.underlying280
 runUnderlying_tPAU:=Tryz.runUnderlying280
 sizeOf_tPAU:=Tryz.sizeOf280
 isAgg_tPAU:=Tryz.isAgg280
 zeroValue_tPAU:=Tryz.zeroValue280
 underlying_tPU64:=Tryz.underlying282
 runUnderlying_tPU64:=Tryz.runUnderlying282
 sizeOf_tPU64:=Tryz.sizeOf282
 isAgg_tPU64:=Tryz.isAgg282
 zeroValue_tPU64:=Tryz.zeroValue282
 underlying_t0:=Tryz.underlying0
 runUnderlying_t0:=Tryz.runUnderlying0
 sizeOf_t0:=Tryz.sizeOf0
 isAgg_t0:=Tryz.isAgg0
 zeroValue_t0:=Tryz.zeroValue0
 underlying_t3:=Tryz.underlying3
 runUnderlying_t3:=Tryz.runUnderlying3
 sizeOf_t3:=Tryz.sizeOf3
 isAgg_t3:=Tryz.isAgg3
 zeroValue_t3:=Tryz.zeroValue3
 underlying_t4:=Tryz.underlying4
 runUnderlying_t4:=Tryz.runUnderlying4
 sizeOf_t4:=Tryz.sizeOf4
 isAgg_t4:=Tryz.isAgg4
 zeroValue_t4:=Tryz.zeroValue4
 underlying_t9:=Tryz.underlying9
 runUnderlying_t9:=Tryz.runUnderlying9
 sizeOf_t9:=Tryz.sizeOf9
 isAgg_t9:=Tryz.isAgg9
 zeroValue_t9:=Tryz.zeroValue9
 underlying_t20:=Tryz.underlying20
 runUnderlying_t20:=Tryz.runUnderlying20
 sizeOf_t20:=Tryz.sizeOf20
 isAgg_t20:=Tryz.isAgg20
 zeroValue_t20:=Tryz.zeroValue20
 underlying_t21:=Tryz.underlying21
 runUnderlying_t21:=Tryz.runUnderlying21
 sizeOf_t21:=Tryz.sizeOf21
 isAgg_t21:=Tryz.isAgg21
 zeroValue_t21:=Tryz.zeroValue21
 room_tWg:=by kernel_rfl
 room_tU32:=by kernel_rfl
end
end Go.AM.R1
namespace Go.AM
section
open Go.Conc (G)
structure Ko{P:aq}(X:Cx P)(N:Nat)(ops:Array ar)(φ:Fr)(σ:List aP)(x:Nat->D)(c:Nat->Fr)(idx:Nat->Option Nat)(last:Nat):Prop where
 back:∀i o,ops[i]?=aa o->∀e∈o.after,dm e=ab->e.on<i
 Jk:∀i o d,ops[i]?=aa o->o.dst=aa d->idx d=aa i/\d<N
 xX:∀d i,idx d=aa i->∃o,ops[i]?=aa o/\o.dst=aa d
 one:∀i o,ops[i]?=aa o->i≠last->OA X N ops.toList o (c i) σ (x i) σ
 TN:∀i o,ops[i]?=aa o->i≠last->∀t σ s v,dn σ s v (match idx t with|some j=>(if ∃e∈o.after,dm e=ab/\e.on=j then x j else .any)|none=>look φ t)->dn σ s v (look (c i) t)
 lst:∀o,ops[last]?=aa o->∀j,j<ops.size->j≠last->∃e∈o.after,dm e=ab/\e.on=j
 has:last<ops.size
section
variable {P:aq}{X:Cx P}{N:Nat}{ops:Array ar}{φ:Fr}{σ:List aP}{x:Nat->D}{c:Nat->Fr}{idx:Nat->Option Nat}{last:Nat}
theorem BZ{a t:Nat}{L:Array Bool}(h:∀i,i<ops.size->L.getD i ab=ab):Region.linearise.go .any ops a t L []=[]:=by
 cases a with
 |zero=>exact wc t L
 |succ n =>
  have b:a9 .any ops L=[]:=by
   cases b:a9 .any ops L with
   |nil=>rfl
   |cons y e =>
    have d:y∈a9 .any ops L:=by grind
    grind[mem_ready]
  grind[pg]
def Ko.arr(h:Ko X N ops φ σ x c idx last){R:au->St->Prop}{b:aR}{kk:List Item}{cs:List aR}(M:b.kind≠.early){s0:St}(hQ:∀s a,a.tmps.size=N->(∀t,dn σ s (a.tmps.getD t ai) (match idx t with|some j=>if j=last then .any else x j|none=>look φ t))->a.defers=[]->aE σ s->cU σ s0 σ s->fE X R (G (b.aT a (.inRegion ops [last]::kk)) cs) s):
  ∀(f:Nat) (L:Array Bool),L.size=ops.size->(L.toList.filter (λb=>!b)).length<=f->¬L.getD last ae=ab ->
   (∀i o,ops[i]?=aa o->L.getD i ae=ab->∀e∈o.after,dm e=ab->L.getD e.on ae=ab) ->
   ∀(s:St) (a:Act),IN N σ s (gp φ x idx L) a->a.defers=[]->aE σ s->cU σ s0 σ s ->
   ∀t,fE X R (G (b.aT a (.inRegion ops (Region.linearise.go .any ops f t L [])::kk)) cs) s:=by
 intro f;induction f with
 |zero =>
  intro L hs hf l Z s a g J hh st t;exfalso;have hm:L[last]'(by have:=h.has;omega)∈L.toList:=by simp
  have Q:=h.has;cases M:L[last]'(by omega)with
  |true=>exact l (by simp[dN,fY (by omega:last<L.size),M])
  |false =>
   have:L[last]'(by omega)∈L.toList.filter (λb=>!b):=lg.2 ⟨hm,by grind⟩;grind
 |succ f ih =>
  intro L hs hf l Z s a g J hh st t;rw[pg];cases I:(a9 .any ops L)[t % (a9 .any ops L).length]? with
  |none =>
   exfalso;have hr:a9 .any ops L=[]:=by
    cases hr:a9 .any ops L with
    |nil=>rfl
    |cons y ys =>
     grind[Nat.mod_lt]
   have F:∀i,i<ops.size->L.getD i ae=ab:=by
    intro i;induction i using Nat.strongRecOn with
    |_ i ihi =>
     intro hi;cases M:L.getD i ae with
     |true=>rfl
     |false =>
      have hm:i∈a9 .any ops L:=mem_ready.2 ⟨ops[i],fY hi,by
       grind,λe S A=>by
       have:=h.back i _ (fY hi) e S A
       grind⟩
      grind
   exact l (F last h.has)
  |some i =>
   have hi:=bJ I;obtain⟨o,C,XF,Re⟩:=mem_ready.1 hi;have Q:i<ops.size:=(ig.1 C).1;have H:¬L.getD i ae=ab:=by grind
   by_cases B:i=last
   .subst B;have u:Region.linearise.go .any ops f (t / (a9 .any ops L).length) (L.setIfInBounds i ab) []=[]:=by
     refine BZ λj hj=>?_;have hj2:(L.setIfInBounds i ab).getD j ae=ab:=by
      rw[eK (by omega)];by_cases e:j=i
      .grind
      .obtain⟨ed,S,A,rfl⟩:=h.lst o C j hj e;grind
     grind
    simp only[u];refine hQ s a g.size (λt=>?_) J hh st;have:=g.slot t;unfold gp at this;cases k:idx t with
    |none=>grind
    |some j =>
     simp only[k]at this⊢;obtain⟨oj,w,_⟩:=h.xX _ _ k;by_cases e:j=i
     .rw[bl e];trivial
     .rw[aY e];obtain⟨ed,S,A,rfl⟩:=h.lst o C j (ig.1 w).1 e;grind
   have p:(L.setIfInBounds i ab).size=ops.size:=by grind
   have q:((L.setIfInBounds i ab).toList.filter (λb=>!b)).length<=f:=by
    have h1:L.toList[i]?=aa ae:=by rw[zm,fY (by omega:i<L.size)];simpa[dN,fY (by omega:i<L.size)]using H
    grind[count_set]
   have K:∀j o',ops[j]?=aa o'->(L.setIfInBounds i ab).getD j ae=ab->∀e∈o'.after,dm e=ab->(L.setIfInBounds i ab).getD e.on ae=ab:=by grind[eK]
   have r:¬(L.setIfInBounds i ab).getD last ae=ab:=by grind[eK]
   have V:cq N σ s (c i) a:=g.Jj λt σ s v E=>h.TN i o C B t σ s v (by
    unfold gp at E;cases k:idx t with
    |none=>grind
    |some j =>
     simp only[k]at E⊢;split
     .grind
     .trivial)
   have z:∀(s':St) (v:ah),cU σ s σ s'->dn σ s' v (x i)->IN N σ s' (gp φ x idx (L.setIfInBounds i ab)) (a.put o.dst v):=by
    intro s' v m E;cases J:o.dst with
    |none =>
     refine⟨g.size,g.defers.imp λ_ h1=>h1.mono m.ext,λt=>?_⟩;have n:=(g.slot t).mono m.ext hh.len;simp only[Act.put];unfold gp at n⊢;cases k:idx t with
     |none=>grind
     |some j =>
      simp only[k]at n⊢;obtain⟨oj,w,Y⟩:=h.xX _ _ k;grind[eK]
    |some d =>
     obtain⟨T,O⟩:=h.Jk i o d C J;refine⟨by simp[Act.put,g.size],g.defers.imp λ_ h1=>h1.mono m.ext,λt=>?_⟩;simp only[Act.put];by_cases e:d=t
     .subst e;have U:d<a.tmps.size:=by rw[g.size];exact O
      simp only[dN,vD U,ik];unfold gp;simp only[T];rw[bl ((eK (by omega)).2 (.inl rfl))];exact E
     .have n:=(g.slot t).mono m.ext hh.len;simp only[dN]at n⊢;rw[vF e];unfold gp at n⊢;cases k:idx t with
      |none=>grind
      |some j =>
       simp only[k]at n⊢;obtain⟨oj,w,Y⟩:=h.xX _ _ k;grind[eK]
   have:=h.one i o C B s a V hh b kk cs R i (Region.linearise.go .any ops f (t / (a9 .any ops L).length) (L.setIfInBounds i ab) []) M (by grind);simp only[oZ]at this;exact this λv s' E W m=>ih _ p q r K s' _ (z _ _ m E) (by cases o.dst<;>exact J) W (st.trans m) _
theorem Ko.region(h:Ko X N ops φ σ x c idx last)(A:P.follows Departure.mixedOrders=ab){r:au->St->Prop}{b:aR}{kk:List Item}{cs:List aR}(y:b.kind≠.early){s0:St}{a0:Act}{id:Nat}(v:cq N σ s0 φ a0)(q:a0.defers=[])(n:aE σ s0)(u:∀s a,a.tmps.size=N->(∀t,dn σ s (a.tmps.getD t ai) (match idx t with|some j=>if j=last then .any else x j|none=>look φ t))->a.defers=[]->aE σ s->cU σ s0 σ s->fE X r (G (b.aT a (.inRegion ops [last]::kk)) cs) s):
  fE X r (G (b.aT a0 (.code (.region id ops ab)::kk)) cs) s0:=by
 refine .next rfl λg f=>?_;have f:=X.iv f;have e:=n.rely f;have l:=v.rely f n;have k:Step σ g σ {g with w:={g.w with drawn:=g.w.drawn+1}}:=Step.same rfl rfl rfl rfl;have m:aE σ {g with w:={g.w with drawn:=g.w.drawn+1}}:=e.same rfl;have p:=f.stepW.trans (k.na e);refine⟨_,{g with w:={g.w with drawn:=g.w.drawn+1}},#[],lU,⟨⟨σ,σ,e,m,k⟩,.nil⟩,?_⟩;simp only[Region.schedule,A,Bool.true_or,cn];refine h.arr y (s0:=s0) u ops.size _ (by simp) (by simp) ?_ ?_ _ a0 ?_ q m p _
 .simp[dN,mS];split<;>simp
 .intro i o B hi;simp[dN,mS]at hi;split at hi<;>simp at hi
 .have d:=l.mono (k.na e) e.len;refine⟨d.size,d.defers,λt=>?_⟩;unfold gp;cases z:idx t with
  |none=>exact d.slot t
  |some j =>
   simp only;rw[aY]
   .exact d.slot t
   .simp[dN,mS];split<;>simp
end
end
section
open Go.Conc Go.RowKit Go.Conc.Lib Go.ConcR.Gen
open Go.ConcN (WgLive Has RW DWs AtR0 EvW)
open Go.ConcN.Gen
open Go.ConcR (KK WgAt stA smA rd wr mk DC0 Payload)
section
variable {P:aq}{R:az->az->Prop}{D:az->az->Array Event->Prop}{Stop A:au->az->Prop}
def Goes.never(b:∀w,R w w)(f:∀g w,Stop g w->∃g' e,aG P ae g w=.go g' w #[e])(d:∀n g w,A g w->¬Goes P ae R D Stop n g w):
  ∀(m n:Nat) (g:au) (w:az),Goes P ae R DC0 A m g w->¬Goes P ae R D Stop n g w
 |0,n,g,w,h,k=>d n g w (h w (b w)) k
 |m+1,n,g,w,h,k=>by
  rcases h with h|⟨_,h⟩
  .grind
  .have h1:=h w (b w);cases a:aG P ae g w with
   |go g' w' es =>
    rw[a,goes_go]at h1;obtain⟨⟨rfl,rfl⟩,h2⟩:=h1;have no:¬Stop g w':=λi=>by grind
    cases n with
    |zero=>exact no (k w' (b w'))
    |succ n =>
     rcases k with k|⟨_,k⟩
     .grind
     .have k1:=k w' (b w');rw[a,goes_go]at k1;exact Goes.never b f d m n g' w' h2 k1.2
   |_=>rw[a]at h1;exact h1.elim
def Goes.meet(b:∀w,R w w)(i:∀g w,Stop g w->∃g' e,aG P ae g w=.go g' w #[e])(d:∀n g w,A g w->Goes P ae R D Stop n g w->∀w1,R w w1->Stop g w1):
  ∀(m n:Nat) (g:au) (w:az),Goes P ae R DC0 A m g w->Goes P ae R D Stop n g w->Goes P ae R DC0 Stop m g w
 |0,n,g,w,h,k=>d n g w (h w (b w)) k
 |m+1,n,g,w,h,k=>by
  rcases h with h|⟨f,h⟩
  .exact .inl (d n g w (h w (b w)) k)
  .refine .inr ⟨f,λw1 hr=>?_⟩;have h1:=h w1 hr;cases a:aG P ae g w1 with
   |go g' w' es =>
    rw[a,goes_go]at h1;rw[goes_go];obtain⟨⟨rfl,rfl⟩,h2⟩:=h1;have no:¬Stop g w':=λf=>by grind
    refine⟨⟨rfl,rfl⟩,?_⟩;cases n with
    |zero=>exact absurd (k w' hr) no
    |succ n =>
     rcases k with k|⟨_,k⟩
     .grind
     .have k1:=k w' hr;rw[a,goes_go]at k1;exact Goes.meet b i d m n g' w' h2 k1.2
   |_=>rw[a]at h1;exact h1.elim
end
variable [Payload]{L:WgLink}{P:aq}{Wg C n Low x:Nat}{val:ah}{c:aR}{cs:List aR}
def StK(P:aq)(g:au)(_:az):Prop:=∃a,∀w,aG P ae g w=.go a w #[mk .disable]
def StR(P:aq)(L:WgLink)(Wg C n Low x:Nat)(val:ah)(g:au)(w:az):Prop :=
 (WgLive L.tWg Wg w/\Has C (x-1) val w)/\∃a,(∀w,aG P ae g w=.go a w #[mk (.releaseMerge (stA Wg))])/\∀w,WgLive L.tWg Wg w/\Has C (x-1) val w->∃m,Goes P ae (RW L.tWg Wg C n Low (x-1)) DC0 (StK P) m a w
set_option maxRecDepth 100000 in
def MU(H:WgLib P L)(w:az)(a:WgLive L.tWg Wg w/\Has C (x-1) val w):
  Goes P ae (RW L.tWg Wg C n Low (x-1)) DC0 (StR P L Wg C n Low x val) 23 (G ((baseD L.done).at ⟨#[.pointer (aa ⟨Wg,0,af⟩),ai,ai,ai],[]⟩ [.code (body_done L)]) (c::cs)) w:=by
 lib_facts
 simp only[body_done,body_add,doneFn,addFn,ik]
 u_reg kn_rely a
 u_op kn_rely a
 u_in kn_rely a
 refine goes_call rfl rfl (by k_ne) rfl H.f_add (nm_add L) rfl ⟨by u_nil,?_⟩
 walk_nrmf addFn
 repeat (u_c aC kn_rely a)
 u_cond ab kn_rely a
 repeat (u_c aC kn_rely a)
 u_reg kn_rely a
 u_op kn_rely a
 u_op kn_rely a
 u_c aB kn_rely a
 repeat (u_c aC kn_rely a)
 u_cond ab kn_rely a
 u_reg kn_rely a
 u_op kn_rely a
 u_conv H.underlying_tWgP H.room_tWg (Go.ConcN.Gen.WgLive.cell0 a.1).choose_spec kn_rely a
 refine Goes.stop (λd b=>?_);replace a:=kn_rely a b;clear b;refine⟨a,_,λw=>stepG_markAt .releaseMerge (by simp) rfl rfl (by k_ne) rfl H.f_relMerge (x_relMerge_n L) (x_relMerge_b L) (x_relMerge_x L) (x_relMerge_f L) (by simp[Act.eval,stA]),λw a=>⟨10,?_⟩⟩
 walk_nrm
 u_c aB kn_rely a
 repeat (u_c aC kn_rely a)
 u_reg kn_rely a
 exact Goes.stop λd b=>⟨_,λw=>stepG_mark0 .disable (by simp) rfl rfl (by k_ne) rfl H.f_disable (x_disable_n L) (x_disable_b L) (x_disable_x L) (x_disable_f L)⟩
def Vs(H:WgLib P L){r:Nat}(f:c.mode=.returning)(hT:QuitsD P r 0 (G c cs))(w:az)(d:WgLive L.tWg Wg w/\Has C (x-1) val w):
  Goes P ae (RW L.tWg Wg C n Low (x-1)) DC0 (AtR0 P L.tWg Wg C n Low x val) 23 (G ((baseD L.done).at ⟨#[.pointer (aa ⟨Wg,0,af⟩),ai,ai,ai],[]⟩ [.code (body_done L)]) (c::cs)) w:=by
 have z:=doneN (Own:=λ_ _=>False) (Rd:=λ_ _=>False) (Low:=Low) (n:=n) H f hT w d;have j:∀g w,AtR0 P L.tWg Wg C n Low x val g w->∃g' e,aG P ae g w=.go g' w #[e]:=λg w h=>by obtain⟨_,_,g',p,_⟩:=h;grind
 have q:(mk (.releaseMerge (stA Wg)):Event)≠mk .disable:=by simp[mk]
 refine Goes.meet (λw=>.refl w) j ?_ _ _ _ _ (MU H w d) z;intro l g w h k w1 hr;obtain⟨d,t,p,u⟩:=h;have a:AtR0 P L.tWg Wg C n Low x val g w1∨∃i,Goes P ae (RW L.tWg Wg C n Low (x-1)) (DWs Wg (λ_ _=>False) (λ_ _=>False) C n x) (AtR0 P L.tWg Wg C n Low x val) i t w1:=by
  cases l with
  |zero=>exact .inl (k w1 hr)
  |succ l =>
   rcases k with k|⟨_,k⟩
   .grind
   grind[goes_go]
 rcases a with h|⟨i,h⟩
 .exact h
 .exfalso;obtain⟨m,y⟩:=u w1 (kn_rely d hr);refine Goes.never (λw=>.refl w) j ?_ _ _ _ _ y h;rintro o v w4 ⟨F,B⟩ k;have b:∀w,¬AtR0 P L.tWg Wg C n Low x val v w:=λw s=>by obtain⟨_,_,E,I,_⟩:=s;grind
  cases o with
  |zero=>exact b w4 (k w4 (.refl w4))
  |succ o =>
   rcases k with k|⟨_,k⟩
   .exact b w4 (k w4 (.refl w4))
   .have k1:=k w4 (.refl w4);rw[B w4,goes_go]at k1;have:=(k1.1.2 _ (Array.mem_singleton.2 rfl)).2.1;exact this rfl
end
end Go.AM
namespace Go.AM.R1
section
open Go.Proofs Go.Conc Go.Conc.Lib
open Go.ConcN (WgLive PayAt Has RW AtR0)
open Go.ConcR (KK WgAt stA smA rd wr mk Payload DC0)
instance pay:Payload:=⟨218⟩
def l6(f:Int):dv:=λargs σ=>match args,σ with
 |[.e (.one (.c (.int .i64 k))),g,.e (.one (.c (.int .i64 n)))],[]=>match kY 2 g with
  |none=>af
  |some (d,b)=>aa (Xi (dK k (cP.list d b) n),[],[cP.fits d b,k=f])
 |_,_=>af
noncomputable def Qo:Code:=(Tryz.f142.body).getD .skip
noncomputable def KL:Array ar:=match Qo with|.seq (.region _ o _) _=>o|_=>#[]
noncomputable def KM:Array ar:=match Qo with|.seq _ (.region _ o _)=>o|_=>#[]
def KN:Tryz.f142.body=aa (.seq (.region 0 KL ae) (.region 1 KM ab)):=by kernel_rfl
def oW(d:Option Nat)(op:Op)(ty:aj)(b:Array Edge):ar:={dst:=d,op:=op,type:=ty,pos:= "l12_snap.go:82",after:=b,guard:=af}
def uQ:List ar:=[oW (aa 6) (.load 205 (.tmp 4)) 205 #[],oW (aa 7) (.load 3 (.tmp 5)) 3 #[],oW (aa 8) (.load 3 (.tmp 1)) 3 #[],oW (aa 9) (.load 23 (.tmp 2)) 23 #[],oW (aa 10) (.load 3 (.tmp 3)) 3 #[],
 oW (aa 11) (.call {callee:=.value (.func 144),args:=#[.tmp 8,.tmp 9,.tmp 10],argTypes:=#[3,23,3]}) 218 #[⟨2,.data⟩,⟨3,.data⟩,⟨4,.data⟩],
 oW (aa 12) (.indexAddr 205 (.tmp 6) (.tmp 7)) 0 #[⟨0,.data⟩,⟨1,.data⟩,⟨0,.phase⟩,⟨1,.phase⟩,⟨2,.phase⟩,⟨3,.phase⟩,⟨4,.phase⟩,⟨5,.phase⟩],
 oW af (.store 218 (.tmp 12) (.tmp 11)) 0 #[⟨6,.data⟩,⟨5,.data⟩,⟨5,.chain⟩,⟨0,.phase⟩,⟨1,.phase⟩,⟨2,.phase⟩,⟨3,.phase⟩,⟨4,.phase⟩,⟨5,.phase⟩]]
def Ow:KM=uQ.toArray:=by kernel_rfl
def oB{i:Nat}{o:ar}(h:uQ[i]?=aa o):i<8:=(bZ.1 h).1
section
variable (k:Int)(ps:List bH)(a:Int)(n x C:Nat)
def Vq(b:ah):Fr:=[(0,.e (.one (.v b))),(1,.e (.one (.c (.rp [.int .i64 k])))),(2,.e (.one (.c (.rp [.sl ae 2 ps.length (cP.fn ps)])))),(3,.e (.one (.c (.rp [.int .i64 a])))),(4,.e (.one (.c (.rp [.val (.slice (aa ⟨C,0,af⟩) n n)])))),(5,.e (.one (.c (.rp [.int .i64 x]))))]
def xW:Nat->D
 |0=>.e (.one (.v (.slice (aa ⟨C,0,af⟩) n n)))
 |1=>dI x
 |2=>dI k
 |3=>cP.sl ps
 |4=>dI a
 |5=>Xi (dK k ps a)
 |6=>.e (.one (.v (.pointer (aa ⟨C,x*2,af⟩))))
 |_=>.any
def ED:Nat->Option Nat
 |6=>aa 0|7=>aa 1|8=>aa 2|9=>aa 3|10=>aa 4|11=>aa 5|12=>aa 6|_=>af
def frW(b:ah):Nat->Fr
 |5=>[(8,dI k),(9,cP.sl ps),(10,dI a)]
 |6=>[(6,.e (.one (.v (.slice (aa ⟨C,0,af⟩) n n)))),(7,dI x)]
 |_=>Vq k ps a n x C b
end
def Ox{X:Cx ag}{n x C:Nat}(h:x<n):OA X 13 uQ (oW (aa 12) (.indexAddr 205 (.tmp 6) (.tmp 7)) 0 #[⟨0,.data⟩,⟨1,.data⟩,⟨0,.phase⟩,⟨1,.phase⟩,⟨2,.phase⟩,⟨3,.phase⟩,⟨4,.phase⟩,⟨5,.phase⟩]) [(6,.e (.one (.v (.slice (aa ⟨C,0,af⟩) n n)))),(7,dI x)] [] (.e (.one (.v (.pointer (aa ⟨C,x*2,af⟩))))) []:=by
 refine .kS (λ_ _ _ _=>dC rfl) (bG.quiet λs i m f=>?_);have b:=f (.tmp 6);have c:=f (.tmp 7);have j:bP [(6,D.e (.one (.v (.slice (aa ⟨C,0,af⟩) n n)))),(7,dI x)] (.tmp 6)=.e (.one (.v (.slice (aa ⟨C,0,af⟩) n n))):=rfl;have l:bP [(6,D.e (.one (.v (.slice (aa ⟨C,0,af⟩) n n)))),(7,dI x)] (.tmp 7)=dI x:=rfl;rw[j]at b;rw[l]at c;have b:=Rd.dY b;have c:=eY c;generalize d:i (.tmp 7)=vy at c;cases c;have g:=(tok 205 i205 rfl).run_underlying (w:=s.w);refine⟨.pointer (aa ⟨C,x*2,af⟩),?_,Rd.val rfl,?_⟩
 .simp[av,oW,b,d,Instr.indexAt,asIntOf,g,i205,(tok 218 i218 rfl).run_sizeOf,i218,dq,h]
 .simp[av,oW,b,d,Instr.indexAt,asIntOf,g,i205,dq,h]
def Vr{X:Cx ag}{k:Int}(l:eb X 144 (l6 k))(ps:List bH)(a:Int)(n x C:Nat)(r:x<n)(m:ah):
  Ko X 13 uQ.toArray (Vq k ps a n x C m) [] (xW k ps a n x C) (frW k ps a n x C m) ED 7:=by
 have u:bF X [(144,l6 k)]:=bF.cons l bF.nil;have f:∀(i:Nat) (o:ar) (φ:Fr) (d:D) (obs:List Prop),uQ[i]?=aa o->we tt [(144,l6 k)] [] uQ φ [] o=aa (d,af,obs)->ay obs->OA X 13 uQ o φ [] d [] :=
  λi o φ d obs _ h b=>gD tok u h b
 refine⟨?_,?_,?_,?_,?_,?_,by decide⟩
 .intro i o b e p _;simp only[ij]at b;have hi:=oB b
  match i,hi with
  |0,_|1,_|2,_|3,_|4,_|5,_|6,_|7,_ =>
   cases b;simp[oW]at p;try (rcases p with rfl|rfl|rfl|rfl|rfl|rfl|rfl|rfl|rfl<;>decide)
   try (rcases p with rfl|rfl|rfl<;>decide)
 .intro i o d b w;simp only[ij]at b;have hi:=oB b
  match i,hi with
  |0,_|1,_|2,_|3,_|4,_|5,_|6,_|7,_ =>
   cases b;cases w;try exact⟨rfl,by decide⟩
 .intro d i h;unfold ED at h;split at h<;>cases h<;>exact⟨_,rfl,rfl⟩
 .intro i o b g;simp only[ij]at b;have hi:=oB b
  match i,hi with
  |0,_=>cases b;exact f 0 _ _ _ _ rfl rfl aw
  |1,_=>cases b;exact f 1 _ _ _ _ rfl rfl aw
  |2,_=>cases b;exact f 2 _ _ _ _ rfl rfl aw
  |3,_=>cases b;exact f 3 _ _ _ _ rfl rfl aw
  |4,_=>cases b;exact f 4 _ _ _ _ rfl rfl aw
  |5,_ =>
   cases b;have:=f 5 _ (frW k ps a n x C m 5) _ _ rfl rfl (by simp[cP.aM]);rw[cP.list_fn]at this;exact this
  |6,_=>cases b;exact Ox r
  |7,_=>grind
 .intro i o b g t σ s v c;simp only[ij]at b;have hi:=oB b
  match i,hi with
  |0,_|1,_|2,_|3,_|4,_ =>
   match t with
   |0|1|2|3|4|5=>exact c
   |t+6=>trivial
  |5,_ =>
   cases b
   match t with
   |8=>exact(show dn σ s v (xW k ps a n x C 2)from by simpa[ED,oW,dm,Region.binds]using c)
   |9=>exact(show dn σ s v (xW k ps a n x C 3)from by simpa[ED,oW,dm,Region.binds]using c)
   |10=>exact(show dn σ s v (xW k ps a n x C 4)from by simpa[ED,oW,dm,Region.binds]using c)
   |0|1|2|3|4|5|6|7=>trivial
   |t+11=>trivial
  |6,_ =>
   cases b
   match t with
   |6=>exact(show dn σ s v (xW k ps a n x C 0)from by simpa[ED,oW,dm,Region.binds]using c)
   |7=>exact(show dn σ s v (xW k ps a n x C 1)from by simpa[ED,oW,dm,Region.binds]using c)
   |0|1|2|3|4|5=>trivial
   |t+8=>trivial
  |7,_=>grind
 .intro o b j q g;simp only[ij]at b;cases b
  match j,q with
  |0,_=>exact⟨⟨0,.phase⟩,by simp[oW],rfl,rfl⟩
  |1,_=>exact⟨⟨1,.phase⟩,by simp[oW],rfl,rfl⟩
  |2,_=>exact⟨⟨2,.phase⟩,by simp[oW],rfl,rfl⟩
  |3,_=>exact⟨⟨3,.phase⟩,by simp[oW],rfl,rfl⟩
  |4,_=>exact⟨⟨4,.phase⟩,by simp[oW],rfl,rfl⟩
  |5,_=>exact⟨⟨5,.phase⟩,by simp[oW],rfl,rfl⟩
  |6,_=>exact⟨⟨6,.data⟩,by simp[oW],rfl,rfl⟩
  |7,_=>grind
noncomputable def uR:aR:={(default:aR)with fn:=Tryz.prog.funcs.size,defers:=[],mode:=.panicking [goexitEntry]}
def xg(vs:Array ah):Deferred:={target:=.fn (.func 142) vs,args:=#[]}
def HP(v0 v1 v2 v3 v4 v5:ah)(w:az):aG ag ae (born ag (xg #[v0,v1,v2,v3,v4,v5])) w =
  .go (G ((baseD 142).at ⟨#[v0,v1,v2,v3,v4,v5,ai,ai,ai,ai,ai,ai,ai],[]⟩ [.code (.seq (.region 0 KL ae) (.region 1 KM ab))]) [uR]) w #[]:=by
 have d:=KN;have c:Tryz.f142.ntmps=13:=by kernel_rfl
 have b:¬Tryz.f142.name= "runtime.NumGoroutine":=by
  have:(Tryz.f142.name== "runtime.NumGoroutine")=ae:=by kernel_rfl
  grind
 simp[born,xg,aG,unwind,callDeferred,invoke,callFunc,Tryz.func142,d,c,b,seen,GStep.after,G,Frame.enter,Frame.at,baseD,uR]
end
section
open Go.Proofs
variable {X:Cx ag}
abbrev pk(ps:List bH)(i:Nat):bH:=ps.getD i (0,[])
def KE{k n:Int}{ps:List bH}{i:Nat}{r:Bs}(hi:i<ps.length)(h:eh k (pk ps i) n=aa r)(a:∀j,j<i->eh k (pk ps j) n=af):dK k ps n=aa r:=by
 unfold dK;induction ps generalizing i with
 |nil=>grind
 |cons p ps ih =>
  cases i with
  |zero=>grind
  |succ i =>
   have b:=a 0 (by omega);grind
def Ez{k n:Int}{ps:List bH}(a:∀j,j<ps.length->eh k (pk ps j) n=af):dK k ps n=af:=by unfold dK;grind[List.getElem_of_mem]
theorem qZ.Us{P:aq}{φ:Fr}{σ:List aP}{T:List (Nat×TI)}(hT:cT P T){fn:Func}{c:Nat}{res:D}{σ':List aP}(ks:List Nat){ps:List Prop}(h:Hg T fn.results.toList ks φ res=aa ps)(f:ay ps)(e:jH ks σ=aa σ')(a:kn σ'=ab)(g:dy ks=ab)(hk:∀j,j<c->ks[j]?=aa j):
  qZ P fn c res σ' .ret φ σ:=by
 refine⟨.inl rfl,ks,?_⟩;unfold Hg at h;split at h
 .rename_i ds Yo;split at h
  .rename_i d i;split at h
   .rename_i b;exact⟨d,ps,zD.Us hT Yo i,h,f,b,e,a,g,hk⟩
   grind
  grind
 grind
def sD{a:List Nat}:∀j,j<0->a[j]?=aa j:=λ_ h=>absurd h (fQ _)
def KF(d:eb X 126 nC)(k:Int)(ps:List bH)(n:Int)(hk:b6 k=ab):Ev X 144 [dI k,cP.sl ps,dI n] [] (Xi (dK k ps n)) []:=by
 refine Ev.qJ Tryz.func144 rfl rfl rfl λl=>?_;have f:=l.sl 1 rfl;have b:bF X [(179,Et aI (Ey dM) aI (λk p n=>Am (eh k p n)) λk _ _=>[b6 k=ab])]:=.cons (Sd d) .nil;refine cg b rfl aw ?_;refine AK.cC 1 (λi=>i<=ps.length/\∀j,j<i->eh k (pk ps j) n=af) (λi:Nat=>[(0,dI k),(2,dI n),(6,.e (.one (.ptr 0 0))),(11,cP.sl ps),(12,dI ps.length),(13,dI i)]) (λ_=>[.cells 218 [.c (.str []),.c (.bool ae)]]) (λi=>ps.length-i) 0 rfl ?_ rfl ?_ rfl ⟨by omega,by omega⟩ ?_
 .simp
 .simp
 rintro i ⟨hi,a⟩;by_cases h:i<ps.length
 .cases g:eh k (pk ps i) n with
  |some r =>
   refine aV b [(14,ab),(24,ab)] rfl ?_ (AK.freeze 6 0 rfl rfl rfl (AK.fJ ?_))
   .simp only[ay,cd,dM.list_fn];refine⟨?_,dM.aM _,hk,by omega,by omega,dc (by omega)⟩;grind
   .refine qZ.Us tok [] rfl ?_ rfl rfl rfl sD;rw[KE h g a];simp only[cd,dM.list_fn];have e:eh k ((ps.getD i cP.b7).1,(ps.getD i cP.b7).2) n=aa r:=g;rw[e];simp
  |none =>
   refine aV b [(14,ab),(24,ae)] rfl ?_ (AK.aQ (i+1) rfl ?_ ?_ ?_ ?_)
   .simp only[ay,cd,dM.list_fn];refine⟨by simp only[bA];omega,?_,dM.aM _,hk,by omega,by omega,dc (by omega)⟩;grind
   .simp
   .simp
   .grind
   grind
 .refine aV b [(14,ae)] rfl (by simp;omega) (AK.leaveD rfl rfl ?_);refine cg b rfl aw ?_;refine AK.freeze 6 0 rfl rfl rfl ?_;refine AK.Bx tok [] rfl ?_ rfl rfl rfl sD;rw[Ez λj m=>a j (by omega)];simp
def Se(a:eb X 126 nC){k:Int}(hk:b6 k=ab):eb X 144 (l6 k):=by
 intro args σ res σ' obs h b;unfold l6 at h;split at h
 .rename_i k1 da n;split at h
  .cases h
  .rename_i f e d;cases h;obtain⟨c,rfl⟩:=b;exact(KF a _ _ n hk).args λs vs=>ck.imp (λ_ r=>r) (ck.imp (λ_ r=>cP.jR d c r) (ck.imp (λ_ r=>r) (λ_ r=>r))) vs
 grind
abbrev dQ(n:Int):D:=.e (.one (.c (.int .u64 n)))
def _root_.Go.AM.AW.Gn{P:aq}{X:Cx P}{N:Nat}{Q:Post}{φ:Fr}{σ:List aP}{x y:Code}(h:AW X N y Q φ σ):AW X N (.cond (.const (.bool ae)) x y) Q φ σ:=by intro s a f hh b k cs S i d;refine .ctl hh rfl (λ_=>vc (t:=ae) rfl) λc h1=>?_;exact h c a (f.rely h1 hh) (hh.rely h1) b k cs S i λe φ' σ' s' a' q g j st=>d e φ' σ' s' a' q g j (h1.stepW.trans st)
def _root_.Go.AM.AK.Gn{P:aq}{X:Cx P}{N:Nat}{Qf:Post}{K:List It}{φ:Fr}{σ:List aP}{x y:Code}(h:AK X N Qf (.code y::K) .normal φ σ):AK X N Qf (.code (.cond (.const (.bool ae)) x y)::K) .normal φ σ:=AW.Gn h
def En{P:aq}{o:ar}{l:ak->D}{σ:List aP}{op:BinOp}{t ty:aj}{x y:ak}{k n:IntKind}{a b:Int}(c:Int)(h:o.op=.binOp op t x y ty)(v:l x=.e (.one (.c (.int k a))))(u:l y=.e (.one (.c (.int n b))))(p:bA k c)(d:∀w,(binOp op t (.int k a) (.int n b)).run P w=.ok (.int k c) w)(m:∀w,(binOp op t (.int k a) (.int n b)).events P w #[]=#[]):
  bG P o l σ (.e (.one (.c (.int k c)))) σ:=by refine .quiet λs r z q=>?_;have i:=q x;have f:=q y;rw[v]at i;rw[u]at f;replace i:=eY i;replace f:=eY f;generalize g:r x=vx at i;generalize j:r y=vy at f;cases i;cases f;exact⟨.int k c,by simp only[av,h,bO,g,j,gN,bX,d,dt],.int p,by simp[av,h,g,j,gN,jE,d,m]⟩
def EA:Ev X 229 [dQ 1,dQ 2] [] (.fa [.one (.c (.int .u64 0)),.one (.c (.int .u64 2))]) []:=by refine Ev.bQ Tryz.func229 rfl λa=>?_;exact di rfl (by simp[bA]) (AK.bx rfl)
def EB:Ev X 229 [dQ 1,dQ 3] [] (.fa [.one (.c (.int .u64 0)),.one (.c (.int .u64 3))]) []:=by refine Ev.bQ Tryz.func229 rfl λa=>?_;exact di rfl (by simp[bA]) (AK.bx rfl)
def Vo:dv:=λargs σ=>match args,σ with
 |[.e (.one (.c (.int .u64 1))),.e (.one (.c (.int .u64 c)))],[]=>aa (.fa [.one (.c (.int .u64 0)),.one (.c (.int .u64 c))],[],[c=2∨c=3])
 |_,_=>af
def t229:eb X 229 Vo:=by
 intro args σ res σ' obs h a;unfold Vo at h;split at h
 .cases h;rcases a with rfl|rfl
  .exact EA
  .exact EB
 grind
def Sf(c:Int)(a:c=2∨c=3):Ev X 204 [dQ 1,dQ c] [] (.fa [.one (.c (.int .u64 0)),.one (.c (.int .u64 c))]) []:=by
 refine Ev.bQ Tryz.func204 rfl λb=>?_;refine cg (bF.cons t229 .nil) rfl aw ?_;refine AK.Gn ?_;refine cg (bF.cons t229 .nil) rfl ?_ (AK.bx rfl)
 .simp[a]
def R7:dv:=λargs σ=>match args,σ with
 |[.e (.one (.c (.int .u64 1))),.e (.one (.c (.int .u64 c)))],[]=>aa (.fa [.one (.c (.int .u64 0)),.one (.c (.int .u64 c))],[],[c=2∨c=3])
 |_,_=>af
def t204:eb X 204 R7:=by
 intro args σ res σ' obs h a;unfold R7 at h;split at h
 .cases h;exact Sf _ a
 grind
def HD:dv:=λargs σ=>match args,σ with
 |[.e (.one (.c (.str [46]))),.e (.one (.c (.int .i64 c)))],[]=>aa (dS (List.replicate c.toNat 46),[],[0<=c/\c<=3])
 |_,_=>af
def t160:eb X 160 (kq aI (λn=>dI (cK n.toNat)) λn=>[0<=n/\n<=4000000]):=.pD λn h=>by
 have a:0<=n/\n<=4000000:=h;obtain⟨m,rfl⟩:∃m:Nat,n=m:=⟨n.toNat,by omega⟩
 exact Cd (X:=X) m (by omega)
def KG{n:Nat}(b:1<=n)(a:n<=8):n<=cK n/\cK n<=n+3:=by unfold cK;grind
def KH(a:eb X 159 HD)(p:Bs):Ev X 126 [dS p] [] (dS (eT p)) []:=by
 refine Ev.bQ Tryz.func126 rfl λf=>?_;have d:bF X [(139,kq aS (λs=>dB (bt s)) λ_=>[]),(160,kq aI (λn=>dI (cK n.toNat)) λn=>[0<=n/\n<=4000000]),(159,HD)]:=.cons t139 (.cons t160 (.cons a .nil));by_cases b:bt p=ab
 .have c:=b;simp only[bt,bS,aZ]at c;have e:=KG c.1.1 c.1.2;refine aV d [(5,ae)] rfl ?_ (AK.bx rfl ?_)
  .simp[b,bA];omega
  .simp[eT,b]
 .refine aV d [(5,ab)] rfl ?_ (AK.bx rfl ?_)
  .simp[b]
  .simp[eT,b]
def Vj(a:eb X 159 HD):eb X 126 nC:=.pD λp _=>KH a p
def Oq:Ev X 159 [dS [46],dI 0] [] (dS []) []:=by
 refine Ev.bQ Tryz.func159 rfl λa=>?_;refine aW [(12,ab)] rfl ?_ (AK.bx rfl)
 .simp
def Ot:Ev X 159 [dS [46],dI 1] [] (dS [46]) []:=by
 refine Ev.bQ Tryz.func159 rfl λa=>?_;refine aW [(12,ae),(14,ab)] rfl ?_ (AK.bx rfl)
 .simp
def Vi(a:Ev X 159 [dS [46],dI 2] [] (dS [46,46]) [])(d:Ev X 159 [dS [46],dI 3] [] (dS [46,46,46]) []):eb X 159 HD:=by
 intro args σ res σ' obs h b;unfold HD at h;split at h
 .rename_i c;cases h;have:c=0∨c=1∨c=2∨c=3:=by have:0<=c/\c<=3:=b;omega
  rcases this with rfl|rfl|rfl|rfl
  .exact Oq
  .exact Ot
  .exact a
  grind
 grind
end
section
open Go.Proofs
def xa{P:aq}{o:ar}{m:ak->D}{σ:List aP}{op:BinOp}{t ty:aj}{x y:ak}(h:o.op=.binOp op t x y ty){e:aj}(E:P.underlying t=aa (.pointer e)){b c:Bool}(z:∀s u v,aE σ s->dn σ s u (m x)->dn σ s v (m y)->∃p q,u=.pointer p/\v=.pointer q/\(p==q)=b/\(eqGuard op t x y u v).run P s.w=.ok () s.w/\(∀es,(eqGuard op t x y u v).events P s.w es=es) /\
   (Op.equal t u v).run P s.w=.ok b s.w/\∀es,(Op.equal t u v).events P s.w es=es)(n:ja op b=aa c):bG P o m σ (.e (.one (.c (.bool c)))) σ:=by
 refine .quiet λs B A r=>?_;obtain⟨p,q,g,f,C,j,l,i,k⟩:=z s _ _ A (r x) (r y);rw[g,f]at j i;have a:=l #[];have d:=k #[];rw[g,f]at a d;cases op<;>simp only[ja,reduceCtorEq,dr]at n
 .subst n;exact⟨.bool b,by simp[av,h,g,f,j,binOp,i],Rd.bool,by simp[av,h,g,f,j,a,binOp,i,d]⟩
 .subst n;exact⟨.bool (!b),by simp[av,h,g,f,j,binOp,i],Rd.bool,by simp[av,h,g,f,j,a,binOp,i,d]⟩
def tE{P:aq}{o:ar}{g:ak->D}{σ:List aP}{op:BinOp}{t ty:aj}{x:ak}(h:o.op=.binOp op t x (.const (.pointer af)) ty){e:aj}(i:P.underlying t=aa (.pointer e)){c:Bool}(m:g x=.e (.one (.c .fx)))(k:g (.const (.pointer af))=.e (.one (.c .fx)))(l:ja op ab=aa c):bG P o g σ (.e (.one (.c (.bool c)))) σ:=by
 refine xa h i (b:=ab) ?_ l;intro s u v _ a d;rw[m]at a;rw[k]at d;replace a:=eY a;replace d:=eY d;cases a;cases d;have j:(Op.equal t (.pointer af) (.pointer af)).run P s.w=.ok ab s.w:=by show(aX (9999+1) t _ _).run P s.w=_;unfold aX;simp[underlying,i]
 have f:∀es,(Op.equal t (.pointer af) (.pointer af)).events P s.w es=es:=λes=>by show(aX (9999+1) t _ _).events P s.w es=es;unfold aX;simp[underlying,i]
 exact⟨af,af,rfl,rfl,rfl,by cases op<;>simp[eqGuard],λes=>by cases op<;>simp[eqGuard],j,f⟩
def R5{P:aq}{o:ar}{f:ak->D}{σ:List aP}{op:BinOp}{t ty:aj}{x:ak}(h:o.op=.binOp op t x (.const (.pointer af)) ty){e:aj}(g:P.underlying t=aa (.pointer e)){c:Bool}{l off:Nat}(n:f x=.e (.one (.ptr l off)))(k:f (.const (.pointer af))=.e (.one (.c .fx)))(m:ja op ae=aa c):bG P o f σ (.e (.one (.c (.bool c)))) σ:=by
 refine xa h g (b:=ae) ?_ m;intro s u v _ i a;rw[n]at i;rw[k]at a;replace a:=eY a;cases a;obtain⟨_,L,b,_,_,rfl⟩:=(i:gu σ s u (.ptr l off));have j:(Op.equal t (.pointer (aa ⟨b,off,af⟩)) (.pointer af)).run P s.w=.ok ae s.w:=by show(aX (9999+1) t _ _).run P s.w=_;unfold aX;simp[underlying,g]
 have d:∀es,(Op.equal t (.pointer (aa ⟨b,off,af⟩)) (.pointer af)).events P s.w es=es:=λes=>by show(aX (9999+1) t _ _).events P s.w es=es;unfold aX;simp[underlying,g]
 exact⟨_,af,rfl,rfl,rfl,by cases op<;>simp[eqGuard],λes=>by cases op<;>simp[eqGuard],j,d⟩
def Of{P:aq}{o:ar}{i:ak->D}{σ:List aP}{op:BinOp}{t ty:aj}{x y:ak}(h:o.op=.binOp op t x y ty){e:aj}(j:P.underlying t=aa (.pointer e)){n:Nat}(q:n≠0)(m:∀w,(sizeOf e).run P w=.ok n w)(f:∀w es,(sizeOf e).events P w es=es){c:Bool}{l off:Nat}(E:i x=.e (.one (.ptr l off)))(A:i y=.e (.one (.ptr l off)))(B:ja op ab=aa c):bG P o i σ (.e (.one (.c (.bool c)))) σ:=by
 refine xa h j (b:=ab) ?_ B;intro s u v _ p r;rw[E]at p;rw[A]at r;obtain⟨_,L,b,C,k,rfl⟩:=(p:gu σ s u (.ptr l off));obtain⟨_,F,G,d,a,rfl⟩:=(r:gu σ s v (.ptr l off));rw[C]at d;cases d;rw[k]at a;cases a;have z:(Op.equal t (.pointer (aa ⟨b,off,af⟩)) (.pointer (aa ⟨b,off,af⟩))).run P s.w=.ok ab s.w:=by show(aX (9999+1) t _ _).run P s.w=_;unfold aX;simp[underlying,j,m,q,sameAddr]
 have g:∀es,(Op.equal t (.pointer (aa ⟨b,off,af⟩)) (.pointer (aa ⟨b,off,af⟩))).events P s.w es=es:=λes=>by show(aX (9999+1) t _ _).events P s.w es=es;unfold aX;simp[underlying,j,m,f,q,sameAddr]
 exact⟨_,_,rfl,rfl,by simp,by cases op<;>simp[eqGuard],λes=>by cases op<;>simp[eqGuard],z,g⟩
def Gp{P:aq}{o:ar}{g:ak->D}{σ:List aP}{op:BinOp}{t ty:aj}{x:ak}(h:o.op=.binOp op t x (.const (.pointer af)) ty){e:aj}(i:P.underlying t=aa (.pointer e)){c:Bool}{cs:List C}(m:g x=.e (.one (.c (.rp cs))))(k:g (.const (.pointer af))=.e (.one (.c .fx)))(l:ja op ae=aa c):bG P o g σ (.e (.one (.c (.bool c)))) σ:=by
 refine xa h i (b:=ae) ?_ l;intro s u v _ a d;rw[m]at a;rw[k]at d;replace a:=eY a;replace d:=eY d;cases d;cases a with|rp b off =>
 have j:(Op.equal t (.pointer (aa ⟨b,off,af⟩)) (.pointer af)).run P s.w=.ok ae s.w:=by show(aX (9999+1) t _ _).run P s.w=_;unfold aX;simp[underlying,i]
 have f:∀es,(Op.equal t (.pointer (aa ⟨b,off,af⟩)) (.pointer af)).events P s.w es=es:=λes=>by show(aX (9999+1) t _ _).events P s.w es=es;unfold aX;simp[underlying,i]
 exact⟨_,af,rfl,rfl,rfl,by cases op<;>simp[eqGuard],λes=>by cases op<;>simp[eqGuard],j,f⟩
end
end Go.AM.R1
namespace Go.AM
section
open Go.Conc (G)
def mz{P:aq}(X:Cx P)(N:Nat)(all:List ar)(o:ar)(φ:Fr)(σ:List aP){ι:Type}(x:ι->D)(σ':ι->List aP):Prop :=
 ∀s a,cq N σ s φ a->aE σ s->∀(b:aR) (k:List Item) (cs:List aR) (S:au->St->Prop) (i:Nat) (rest:List Nat),b.kind≠.early->all.toArray[i]?=aa o ->
  (∀j v s',dn (σ' j) s' v (x j)->aE (σ' j) s'->cU σ s (σ' j) s'->fE X S (G (b.aT (a.put o.dst v) (.inRegion all.toArray rest::k)) cs) s')->fE X S (G (b.aT a (.inRegion all.toArray (i::rest)::k)) cs) s
def Aa:List ar->Nat->(Nat->D)->List (Option Nat×D)
 |[],_,_=>[]
 |o::r,i,x=>(o.dst,x i)::Aa r (i+1) x
def wK{x:Nat->D}:∀{l:List ar}{k j:Nat},(Aa l k x)[j]?=(l[j]?).map λo=>(o.dst,x (k+j))
 |[],k,j=>by simp[Aa]
 |o::r,k,0=>by simp[Aa]
 |o::r,k,j+1=>by simp only[Aa,nY];rw[wK,show k+1+j=k+(j+1) by omega]
def jX(all:List ar)(φ:Fr)(x:Nat->D)(i:Nat):Fr:=jm (λj=>hZ j (bU (all.getD i jv).after.toList)) 0 (Aa all 0 x) (uO all φ)
def MX(all:List ar)(φ:Fr)(x:Nat->D):Fr:=jm (λ_=>ab) 0 (Aa all 0 x) (uO all φ)
def ov(N:Nat):List ar->Bool
 |[]=>ab
 |o::r=>match fW N o.dst with|true=>ov N r|false=>ae
def yt{N:Nat}:∀{l:List ar},ov N l=ab->∀(i:Nat)(o:ar),l[i]?=aa o->fW N o.dst=ab
 |[],_,i,o,h=>by grind
 |p::r,h,i,o,hi=>by
  simp only[ov]at h;split at h
  .rename_i a;cases i with
   |zero=>grind
   |succ i=>exact yt h i o (by grind)
  grind
def rX:List ar->Nat->Bool
 |[],_=>ab
 |o::r,i=>match TP i (bU o.after.toList)with|true=>rX r (i+1)|false=>ae
def BV:∀{l:List ar}{k:Nat},rX l k=ab->∀(i:Nat)(o:ar),l[i]?=aa o->∀e∈bU o.after.toList,e<k+i
 |[],_,_,i,o,h=>by grind
 |p::r,k,h,i,o,hi=>by
  simp only[rX]at h;split at h
  .rename_i a;cases i with
   |zero=>simp at hi;subst hi;exact DN a
   |succ i=>intro e b;have:=BV h i o (by grind) e b;omega
  grind
def Ab(pre:Nat->Bool):List Nat->Bool
 |[]=>ae
 |e::r=>match pre e with|true=>Ab pre r|false=>ab
theorem yu{pre:Nat->Bool}:∀{l:List Nat},Ab pre l=ab->∃e∈l,pre e=ae
 |[],h=>by cases h
 |e::r,h=>by
  simp only[Ab]at h;split at h
  .obtain⟨b,c,a⟩:=yu h;grind
  grind
def Ac(pre:Nat->Bool)(m:Nat):List ar->Nat->Bool
 |[],_=>ab
 |o::r,i=>match pre i with
  |true=>Ac pre m r (i+1)
  |false=>match aA i m with
   |true=>Ac pre m r (i+1)
   |false=>match Ab pre (bU o.after.toList)with|true=>Ac pre m r (i+1)|false=>ae
theorem F9{pre:Nat->Bool}{m:Nat}:∀{l:List ar}{k:Nat},Ac pre m l k=ab->∀(i:Nat)(o:ar),l[i]?=aa o->pre (k+i)=ae->k+i≠m->∃e∈bU o.after.toList,pre e=ae
 |[],_,_,i,o,h=>by grind
 |p::r,k,h,i,o,hi=>by
  intro c a;simp only[Ac]at h;cases i with
  |zero =>
   simp at hi;subst hi;simp only[iq]at c a;grind[Nat.eq_of_beq_eq_true,yu]
  |succ i =>
   have b:Ac pre m r (k+1)=ab:=by grind
   exact F9 b i o (by grind) (by grind) (by omega)
section
variable {P:aq}{X:Cx P}{N:Nat}{ops:Array ar}{φ:Fr}{σ:List aP}{idx:Nat->Option Nat}
def N4{x:Nat->D}{s:St}{a:Act}{L:Array Bool}{i:Nat}{o:ar}(b:∀t σ s v,dn σ s v (match idx t with|some j=>(if ∃e∈o.after,dm e=ab/\e.on=j then x j else .any)|none=>look φ t)->dn σ s v (look (jX ops.toList φ x i) t))(d:IN N σ s (gp φ x idx L) a)(g:∀e∈o.after,dm e=ab->L.getD e.on ae=ab):cq N σ s (jX ops.toList φ x i) a:=d.Jj λt σ s v f=>b t σ s v (by
 unfold gp at f;cases c:idx t with
 |none=>grind
 |some j =>
  simp only[c]at f⊢;split
  .grind
  .trivial)
def Hx{x y:Nat->D}{σ2:List aP}{s s':St}{a:Act}{v:ah}{L:Array Bool}{i:Nat}{o:ar}(f:∀d,o.dst=aa d->idx d=aa i/\d<N)(p:∀d j,idx d=aa j->∃o,ops[j]?=aa o/\o.dst=aa d)(A:ops[i]?=aa o)(q:i<L.size)(u:∀j,L.getD j ae=ab->y j=x j)(c:s.β.length=σ.length)(st:cU σ s σ2 s')(b:IN N σ s (gp φ x idx L) a)(r:dn σ2 s' v (y i)):IN N σ2 s' (gp φ y idx (L.setIfInBounds i ab)) (a.put o.dst v):=by
 have old:∀t,idx t≠aa i->dn σ2 s' (a.tmps.getD t ai) (gp φ y idx (L.setIfInBounds i ab) t):=by intro t z;have g:=(b.slot t).mono st.ext c;unfold gp at g⊢;grind[eK]
 cases w:o.dst with
 |none =>
  refine⟨b.size,b.defers.imp λ_ n=>n.mono st.ext,λt=>?_⟩;refine old t λh=>?_;grind
 |some d =>
  obtain⟨k,m⟩:=f d w;refine⟨by simp[Act.put,b.size],b.defers.imp λ_ n=>n.mono st.ext,λt=>?_⟩;simp only[Act.put];by_cases e:d=t
  .subst e;have l:d<a.tmps.size:=by rw[b.size];exact m
   simp only[dN,vD l,ik];unfold gp;simp only[k];rw[bl ((eK q).2 (.inl rfl))];exact r
  .have:=old t (λh=>by grind)
   simp only[dN]at this⊢;grind
def J6{back:∀i o,ops[i]?=aa o->∀e∈o.after,dm e=ab->e.on<i}{L:Array Bool}(d:L.size=ops.size)(f:a9 .any ops L=[]):∀i,i<ops.size->L.getD i ae=ab:=by
 intro i;induction i using Nat.strongRecOn with
 |_ i b =>
  intro hi;cases h:L.getD i ae with
  |true=>rfl
  |false =>
   have g:i∈a9 .any ops L:=mem_ready.2 ⟨ops[i],fY hi,by
    grind,λe c a=>by grind⟩
   grind
def Ea{L:Array Bool}{t:Nat}(a:(a9 .any ops L)[t % (a9 .any ops L).length]?=af):a9 .any ops L=[]:=by
 cases b:a9 .any ops L with
 |nil=>rfl
 |cons y c =>
  grind[Nat.mod_lt]
theorem Ad{L:Array Bool}(e:L.size=ops.size)(d:(L.toList.filter (λb=>!b)).length<=0):∀i,i<ops.size->L.getD i ae=ab:=by
 intro i hi;have a:L[i]'(by omega)∈L.toList:=by simp
 cases c:L[i]'(by omega)with
 |true=>simp[dN,fY (by omega:i<L.size),c]
 |false =>
  have:L[i]'(by omega)∈L.toList.filter (λb=>!b):=lg.2 ⟨a,by grind⟩;grind
end
def qH(xs:List UInt8):List ah:=xs.map λx=>.int .u8 x.toNat
theorem ve{xs:List UInt8}:(qH xs).length=xs.length:=by simp[qH]
def Nj{xs b:List UInt8}:qH (xs++b)=qH xs++qH b:=by simp[qH]
def pb(bf:Option (Nat×Nat))(n:Nat):ah:=match bf with|none=>.slice af 0 0|some (g,cap)=>.slice (aa ⟨g,0,af⟩) n cap
def BB(T E:aj)(a:Bool)(v1:ah)(bf:Option (Nat×Nat))(xs:List UInt8)(f:Nat):ah->(Nat->Option Obj)->Prop:=λv d =>
 ∃b,v=.pointer (aa ⟨b,0,af⟩)/\cJ v1=ab/\d b=aa (.cells #[if a then v else .pointer af,v1] T (0,0)) /\
 match bf with
 |none=>xs=[]/\∀c,(d c).isSome=ab↔c=b
 |some (g,cap)=>g≠b/\xs.length<=cap/\0<cap/\cap<=9223372036854775807/\f<=xs.length/\(∃e,(qH xs++e).length=cap/\d g=aa (.cells (qH xs++e).toArray E (0,f)))/\∀c,(d c).isSome=ab↔c=b∨c=g
section
variable {P:aq}{X:Cx P}{N:Nat}{m:List (Nat×TI)}{o:ar}{k:ak->D}{σ:List aP}{l:Nat}{T E:aj}{a:Bool}{v1:ah}{bf:Option (Nat×Nat)}{xs:List UInt8}{f:Nat}{s:St}
structure vI(P:aq)(σ:List aP)(s:St)(l:Nat)(T E:aj)(a:Bool)(v1:ah)(bf:Option (Nat×Nat))(xs:List UInt8)(f:Nat)(L:Loc)(b:Nat)(ch:Nat->Option Obj):Prop where
 β:s.β[l]?=aa L
 v:L.v=.pointer (aa ⟨b,0,af⟩)
 bb:BB T E a v1 bf xs f L.v ch
 heap:∀(b:Nat) (o:Obj),ch b=aa o->s.w.heap[b]?=aa o
 bs:∀b,b∈L.bs↔(ch b).isSome=ab
 M:∀b∈L.bs,∀o,s.M b o=af
 ch:ch b=aa (.cells #[if a then L.v else .pointer af,v1] T (0,0))
 cell:cJ v1=ab
def BB.row(hh:aE σ s)(hl:σ[l]?=aa (.cf (BB T E a v1 bf xs f))):∃L b ch,vI P σ s l T E a v1 bf xs f L b ch:=by
 have c:l<s.β.length:=by rw[hh.len];grind
 have e:=br c;generalize s.β[l]=L at e;obtain⟨ch,g,h1,h2,h⟩:=hh.box l _ L hl e;have d:=g;obtain⟨b,i,n,j,_⟩:=d;exact⟨L,b,ch,e,i,g,h1,h2,h,j,n⟩
def vI.mem{L:Loc}{b:Nat}{ch:Nat->Option Obj}(r:vI P σ s l T E a v1 bf xs f L b ch):b∈L.bs:=(r.bs b).2 (by rw[r.ch];rfl)
def vI.ptr{L:Loc}{b:Nat}{ch:Nat->Option Obj}(r:vI P σ s l T E a v1 bf xs f L b ch){v:ah}{off:Nat}(h:dn σ s v (.e (.one (.ptr l off)))):v=.pointer (aa ⟨b,off,af⟩):=by obtain⟨_,d,c,h1,h2,rfl⟩:=(h:gu σ s v (.ptr l off));rw[r.β]at h1;cases h1;rw[r.v]at h2;grind
def I4(hT:cT P m){t:aj}{x:ak}{i:TI}(h:o.op=.load t x)(hi:bD m t=aa i)(C:i.agg=ae)(H:σ[l]?=aa (.cf (BB T E a v1 bf xs f))){off:Nat}{d:D}(K:k x=.e (.one (.ptr l off)))(J:∀s L b ch,aE σ s->vI P σ s l T E a v1 bf xs f L b ch->∃v,(#[if a then L.v else .pointer af,v1]:Array ah)[off]?=aa v/\dn σ s v d):bG P o k σ d σ:=by
 refine .om λs G y F=>?_;obtain⟨L,b,ch,r⟩:=BB.row (P:=P) y H;have z:=r.ptr (by have:=F x;rwa [K]at this);obtain⟨v,I,u⟩:=J s L b ch y r;have g:s.w.cell? ⟨b,off,af⟩=aa v:=by simp only[aU,r.heap _ _ r.ch];grind
 have c:(loadVar t ⟨b,off,af⟩).run P s.w=.ok v s.w:=by simp[loadVar,(hT t i hi).ki,C,run_load,g]
 refine⟨v,by simp[av,h,z,Instr.loadAt,bn,c],u,λA p=>?_⟩;have q:A∈(loadVar t ⟨b,off,af⟩).events P s.w #[]:=by
  have e:av G o=(do pure (.value (<-loadVar t ⟨b,off,af⟩))):=by simp[av,h,z,Instr.loadAt,bn]
  rw[e]at p;simpa[c]using p
 obtain⟨j,B,rfl⟩:=gf (hT t i hi) (n:=1) (λj B=>by grind) (by grind) A q
 exact jF (bJ r.β) r.mem
def bG.fu(hT:cT P m){t:aj}{x:ak}{i:TI}(h:o.op=.load t x)(hi:bD m t=aa i)(d:i.agg=ae)(hl:σ[l]?=aa (.cf (BB T E a v1 bf xs f)))(c:k x=.e (.one (.ptr l 1))):bG P o k σ (.e (.one (.v v1))) σ :=
 I4 hT h hi d hl c λs L b ch hh r=>⟨v1,by simp,Rd.val r.cell⟩
def Nk{H:ah->(Nat->Option Obj)->Prop}(b:σ[l]?=aa (.cf H)):∀B,σ[l]?=aa B->B.gr=ae:=by intro B h;rw[b]at h;cases h;rfl
def bG.I5(hT:cT P m){t:aj}{x:ak}{i:TI}(h:o.op=.load t x)(hi:bD m t=aa i)(d:i.agg=ae)(hl:σ[l]?=aa (.cf (BB T E ab v1 bf xs f)))(c:k x=.e (.one (.ptr l 0))):bG P o k σ (.e (.one (.ptr l 0))) σ :=
 I4 hT h hi d hl c λs L b ch hh r=>⟨L.v,by simp,Nk hl,L,b,r.β,r.v,r.v⟩
def bG.Q2(hT:cT P m){t:aj}{x:ak}{i:TI}(h:o.op=.load t x)(hi:bD m t=aa i)(g:i.agg=ae)(hl:σ[l]?=aa (.cf (BB T E ae v1 bf xs f)))(d:k x=.e (.one (.ptr l 0))):bG P o k σ (.e (.one (.c .fx))) σ :=
 I4 hT h hi g hl d λs L b ch hh r=>⟨.pointer af,by simp,Rd.fx⟩
def setRow_size(w:az)(b:Nat)(row:Array ah):(w.setRow b row).heap.size=w.heap.size:=by simp[World.setRow]
def I6(hT:cT P m){t:aj}{x y:ak}{i:TI}(h:o.op=.store t x y)(hi:bD m t=aa i)(J:i.size=1)(hl:σ[l]?=aa (.cf (BB T E a v1 bf xs f))){off:Nat}{c:Bool}{d:ah}(hx:k x=.e (.one (.ptr l off)))(ho:off<2)(hc:cJ d=ab)(hd:∀s L b ch v,aE σ s->vI P σ s l T E a v1 bf xs f L b ch->dn σ s v (k y)->cJ v=ab/\(#[if a then L.v else .pointer af,v1]:Array ah).setIfInBounds off v=#[if c then L.v else .pointer af,d]):bG P o k σ .any (σ.set l (.cf (BB T E c d bf xs f))):=by
 intro s q R Y;obtain⟨L,b,ch,r⟩:=BB.row (P:=P) R hl;have I:=r.ptr (by have:=Y x;rwa [hx]at this);obtain⟨K,H⟩:=hd s L b ch (q y) R r (Y y);have u:(q y).cells=#[q y]:=by cases S:q y<;>simp[S,cJ,Value.cells]at K⊢
 have A:∀v∈[q y],v.oneCell'=ab:=by intro v I;simp at I;subst I;cases S:q y<;>simp[S,cJ,Value.oneCell']at K⊢
 have n:=r.heap _ _ r.ch;have O:=run_storeCells_at P b off T [q y] 0 _ s.w n (by grind) A;have C:((#[if a then L.v else .pointer af,v1]:Array ah).toList.take (off+0)++[q y]++(#[if a then L.v else .pointer af,v1]:Array ah).toList.drop (off+0+[q y].length)).toArray=#[if c then L.v else .pointer af,d]:=by
  rw[<-H]
  match off,ho with
  |0,_=>grind
  |1,_=>grind
 rw[C]at O;have W:(s.w.setRow b #[if c then L.v else .pointer af,d]).heap[b]?=aa (.cells #[if c then L.v else .pointer af,d] T (0,0)):=setRow_heap s.w b _ _ T _ n;have B:∀g,g≠b->(s.w.setRow b #[if c then L.v else .pointer af,d]).heap[g]?=s.w.heap[g]?:=λg p=>setRow_other s.w b g _ p;obtain⟨t1,t2⟩:=R.ju (l:=l) (H':=BB T E c d bf xs f) (L':=L) (w':=s.w.setRow b #[if c then L.v else .pointer af,d]) hl r.β rfl (by rw[setRow_size];grind)
  (λg p hn=>B g (by rintro rfl;exact hn r.mem)) (λg p=>.inl p)
  ⟨λg=>if g=b then aa (.cells #[if c then L.v else .pointer af,d] T (0,0))else ch g,by
   obtain⟨U,V,q2,q3,q4⟩:=r.bb;have:U=b:=by rw[r.v]at V;grind
   subst this;have Q:∀g,(if g=U then aa (Obj.cells #[if c then L.v else .pointer af,d] T (0,0))else ch g).isSome=ab↔(ch g).isSome=ab:=by grind
   refine⟨U,V,hc,by simp,?_⟩;grind,λg o' p=>by
   by_cases e:g=b
   .grind
   .simp only[e,b9]at p;rw[B g e];exact r.heap _ _ p,λg=>by
   rw[r.bs g];by_cases e:g=b
   .subst e;simp[r.ch]
   grind⟩ rfl rfl rfl
 have G:s.β.set l L=s.β:=by
  apply iO;intro j;by_cases e:l=j
  .subst e;rw[fZ (bZ.1 r.β).1,r.β]
  grind
 rw[G]at t1 t2;refine⟨.skip,{s with w:=s.w.setRow b #[if c then L.v else .pointer af,d]},?_,rfl,t1,t2,?_⟩
 .simp[av,h,I,Instr.storeAt,bn,storeVar,(hT t i hi).run_sizeOf,J,u,O]
 .intro Z z;have e:av q o=(do storeVar t ⟨b,off,af⟩ (q y);pure .skip):=by simp[av,h,I,Instr.storeAt,bn]
  rw[e]at z;have F:Z∈(storeCells ⟨b,off,af⟩ [q y]).events P s.w #[]:=by
   simp only[storeVar,aK,(hT t i hi).run_sizeOf,u,J,aO,events_sizeOf,du,fh,b9,bO,bX,Sem.events_pure,List.size_toArray,jg]at z;generalize(storeCells ⟨b,off,af⟩ [q y]).run P s.w=r at z;cases r with
   |ok v w'=>simpa using z
   |halt x w'=>simpa using z
  rcases dE [q y] 0 _ s.w #[] n (by grind) A Z F with I7|⟨j,_,_,rfl⟩
  .grind
  .exact jC (bJ r.β) r.mem (r.M _ r.mem _)
def bG.zv(hT:cT P m){t:aj}{x y:ak}{i:TI}(h:o.op=.store t x y)(hi:bD m t=aa i)(d:i.size=1)(hl:σ[l]?=aa (.cf (BB T E a v1 bf xs f))){c:ah}(p:k x=.e (.one (.ptr l 1)))(j:k y=.e (.one (.v c)))(n:cJ c=ab):bG P o k σ .any (σ.set l (.cf (BB T E a c bf xs f))) :=
 I6 hT h hi d hl p (by omega) n λs L b ch v hh r g=>by rw[j]at g;have:=Rd.dY g;grind
def bG.Nl(hT:cT P m){t:aj}{x y:ak}{i:TI}(h:o.op=.store t x y)(hi:bD m t=aa i)(c:i.size=1)(hl:σ[l]?=aa (.cf (BB T E a v1 bf xs f)))(n:k x=.e (.one (.ptr l 0)))(g:k y=.e (.one (.ptr l 0)))(j:cJ v1=ab):bG P o k σ .any (σ.set l (.cf (BB T E ab v1 bf xs f))) :=
 I6 hT h hi c hl n (by omega) j λs L b ch v hh r d=>by rw[g]at d;have:=r.ptr d;subst this;refine⟨rfl,?_⟩;rw[<-r.v];rfl
def bG.Q3{T:aj}(h:o.op=.alloc T)(j:∀w,(zeroValue T).run P w=.ok (.agg #[.pointer af,.slice af 0 0]) w)(i:∀w es,(zeroValue T).events P w es=es):bG P o k σ (.e (.one (.ptr σ.length 0))) (σ++[.cf (BB T E ae (.slice af 0 0) af [] 0)]):=by
 intro s z hh hr;let w':=s.w.alloc (.cells #[.pointer af,.slice af 0 0] T);obtain⟨u,r⟩:=hh.grow (M':=s.M) (w':=w') (by simp[w']) (λb n=>cM s.w _ n) (λ_ _ _=>rfl) (λb n o v g=>by have:=hh.block g;omega) rfl rfl rfl;have y:w'.heap.size=s.w.heap.size+1:=by simp[w']
 have p:w'.heap[s.w.heap.size]?=aa (.cells #[.pointer af,.slice af 0 0] T (0,0)):=dG s.w _;obtain⟨x,t⟩:=u.hO r rfl hh (B:=.cf (BB T E ae (.slice af 0 0) af [] 0)) (L:=⟨.pointer (aa ⟨s.w.heap.size,0,af⟩),[s.w.heap.size]⟩)
  ⟨λd=>if d=s.w.heap.size then aa (.cells #[.pointer af,.slice af 0 0] T (0,0))else af,⟨s.w.heap.size,rfl,rfl,by simp,rfl,λd=>by by_cases e:d=s.w.heap.size<;>simp[e]⟩,λd q c=>by
   grind,λd=>by by_cases e:d=s.w.heap.size<;>simp[e],λd c q=>by
   simp at c;subst c;show s.M _ _=af;cases g:s.M s.w.heap.size q with
   |none=>rfl
   |some v=>have:=hh.block g;omega⟩ (λd c=>by grind)
 refine⟨.value (.pointer (aa ⟨s.w.heap.size,0,af⟩)),_,?_,⟨by simp,⟨.pointer (aa ⟨s.w.heap.size,0,af⟩),[s.w.heap.size]⟩,s.w.heap.size,?_,rfl,rfl⟩,x,t,?_⟩
 .simp[av,h,Instr.alloc,j,Go.newVar,newRow,Value.cells,w']
 .simp[<-hh.len]
 .simp[av,h,Instr.alloc,j,i,Go.newVar,newRow];exact .nil
end
section
variable {P:aq}{X:Cx P}{N:Nat}{z:List (Nat×TI)}{o:ar}{q:ak->D}{σ:List aP}{l:Nat}{T E:aj}{d:Bool}{v1:ah}{bf:Option (Nat×Nat)}{xs:List UInt8}{k:Nat}{s:St}
def pd{P:aq}{b o:Nat}{t:aj}{k:Nat×Nat}:∀(vs:List ah)(i:Nat)(a:Array ah)(w:az)(es:Array Event),w.heap[b]?=aa (.cells a t k)->k.2<=o+i->o+i+vs.length<=a.size->(∀v∈vs,v.oneCell'=ab) ->
  ∀e∈(storeCells ⟨b,o,af⟩ vs i).events P w es,e∈es∨∃j,i<=j/\j<i+vs.length/\e=Hd b (o+j)
 |[],_,_,_,_,_,_,_,_=>λe h=>.inl (by simpa[storeCells]using h)
 |v::rest,i,a,w,es,n,x,B,p=>λe h=>by
  have hi:o+i<a.size:=by grind
  have c:w.cell? ⟨b,o+i,af⟩=aa a[o+i]:=by simp[aU,n,hi]
  have f:w.frozen? ⟨b,o+i,af⟩=ae:=by obtain⟨lo,r⟩:=k;simp only[World.frozen?,n,pP,bM];grind
  have g:(store (⟨b,o+i,af⟩:Addr) v).run P w=.ok () (w.setRow b (a.setIfInBounds (o+i) v)):=by grind[run_store,setCell_eq_setRow]
  have m:(store (⟨b,o+i,af⟩:Addr) v).events P w es=es.push (Hd b (o+i)):=by rw[events_store P w es _ v _ (p v (by simp)),c];simp only[f,jy,b9];rfl
  simp only[storeCells,aK,dq,g,m,aO]at h;rcases pd rest (i+1) (a.setIfInBounds (o+i) v) _ _ (setRow_heap _ _ _ _ _ _ n) (by omega) (by grind) (λu C=>p u (by grind)) e h with y|⟨j,A,F,rfl⟩
  .grind
  grind
def vI.at{L:Loc}{b g cap:Nat}{ch:Nat->Option Obj}(r:vI P σ s l T E d v1 (aa (g,cap)) xs k L b ch):
  g≠b/\xs.length<=cap/\0<cap/\cap<=9223372036854775807/\k<=xs.length/\(∃a,(qH xs++a).length=cap/\ch g=aa (.cells (qH xs++a).toArray E (0,k)))/\(∀c,(ch c).isSome=ab↔c=b∨c=g)/\g∈L.bs:=by
 obtain⟨e,h,_,_,a1,a2,a3,a4,a5,a6,f⟩:=r.bb;have:e=b:=by rw[r.v]at h;grind
 subst this;obtain⟨a,a6,i⟩:=a6;exact⟨a1,a2,a3,a4,a5,⟨a,a6,i⟩,f,(r.bs g).2 (by grind)⟩
def I8{L:Loc}(h:s.β[l]?=aa L):s.β.set l L=s.β:=by apply iO;grind
def vI.ju{L:Loc}{b g cap:Nat}{ch:Nat->Option Obj}(hh:aE σ s)(hl:σ[l]?=aa (.cf (BB T E d v1 (aa (g,cap)) xs k)))(r:vI P σ s l T E d v1 (aa (g,cap)) xs k L b ch){xs':List UInt8}{fz':Nat}{zs':List ah}{w':az}(f:(qH xs'++zs').length=cap)(x:xs'.length<=cap)(p:fz'<=xs'.length)(u:w'.heap.size=s.w.heap.size)(hk:∀a,a≠g->w'.heap[a]?=s.w.heap[a]?)(C:w'.heap[g]?=aa (.cells (qH xs'++zs').toArray E (0,fz')))(m:w'.os=s.w.os)(i:w'.tape=s.w.tape)(j:w'.output=s.w.output):
  aE (σ.set l (.cf (BB T E d v1 (aa (g,cap)) xs' fz'))) {s with w:=w'}/\Step σ s (σ.set l (.cf (BB T E d v1 (aa (g,cap)) xs' fz'))) {s with w:=w'}:=by
 obtain⟨a1,a2,a3,a4,a5,⟨F,a6,A⟩,y,h⟩:=r.at;obtain⟨t,n⟩:=hh.ju (l:=l) (H':=BB T E d v1 (aa (g,cap)) xs' fz') (L':=L) (w':=w') hl r.β rfl (by omega)
  (λa c B=>hk a (by grind)) (λa c=>.inl c)
  ⟨λa=>if a=g then aa (.cells (qH xs'++zs').toArray E (0,fz'))else ch a,⟨b,r.v,r.cell,(show(if b=g then _ else ch b)=_ from(aY λe=>a1 e.symm).trans r.ch),a1,x,a3,a4,p,⟨zs',f,by simp⟩,λa=>by
   grind⟩,λa G c=>by
   by_cases e:a=g
   .grind
   .simp only[e,b9]at c;rw[hk a e];exact r.heap _ _ c,λa=>by
   rw[r.bs a]
   grind⟩ m i j
 rw[I8 r.β]at t n;grind
def bG.Nm{t Q:aj}{x y:ak}(Y:o.op=.call {callee:=.builtin .append,args:=#[x,y],argTypes:=#[t,Q]}){W:TypeInfo}(ht:P.underlying t=aa (.slice E))(C:P.underlying Q=aa .string)(G:P.info? E=aa W)(B:W.size=1){g cap n:Nat}(hl:σ[l]?=aa (.cf (BB T E d v1 (aa (g,cap)) xs k)))(hx:q x=.e (.one (.v (pb (aa (g,cap)) n))))(hn:xs.length=n){str:List UInt8}(hy:q y=.e (.one (.c (.str str))))(Xx:n+str.length<=cap):
  bG P o q σ (.e (.one (.v (pb (aa (g,cap)) (n+str.length))))) (σ.set l (.cf (BB T E d v1 (aa (g,cap)) (xs++str) k))):=by
 intro s ρ hh hr;subst hn;obtain⟨L,b,ch,r⟩:=BB.row (P:=P) hh hl;obtain⟨a1,a2,a3,a4,a5,⟨a,a6,a7⟩,a8,u⟩:=r.at;have H:=hr x;rw[hx]at H;have H:=Rd.dY H;have I:=hr y;rw[hy]at I;have I:=eY I;generalize F:ρ y=vy at I;cases I with
 |@str sb _ hs abx =>
 have J:sb.size=str.length:=by rw[<-hs,jh];rfl
 have O:=r.heap _ _ a7;have Z:(qH xs++a).toArray.size=cap:=by grind
 have p:=Lib.run_append_room_stringF (P:=P) s.w t Q o.type E W ht C G B g xs.length cap _ _ O a5 sb (by omega) (by grind);have A:((qH xs++a).toArray.toList.take xs.length++Lib.strCells sb++(qH xs++a).toArray.toList.drop (xs.length+sb.size))=qH (xs++str)++a.drop str.length:=by
  have e1:(qH xs++a).take xs.length=qH xs:=by grind[ve]
  have e2:(qH xs++a).drop (xs.length+sb.size)=a.drop str.length:=by rw[List.drop_append,ve,List.drop_eq_nil_of_le (by grind),J];simp
  have e3:Lib.strCells sb=qH str:=by simp[Lib.strCells,qH,hs]
  rw[List.toList_toArray,e1,e2,e3,Nj]
 rw[A,J]at p;have hlz:a.length=cap-xs.length:=by grind[ve]
 have f:(qH (xs++str)++a.drop str.length).length=cap:=by grind[ve]
 have m:(s.w.setRow g (qH (xs++str)++a.drop str.length).toArray).heap[g]?=aa (.cells (qH (xs++str)++a.drop str.length).toArray E (0,k)):=setRow_heap s.w g _ _ E _ O;obtain⟨t1,R⟩:=r.ju (fz':=k) (w':=s.w.setRow g (qH (xs++str)++a.drop str.length).toArray) hh hl f (by grind) (by grind) (setRow_size _ _ _) (λb' S=>setRow_other s.w g b' _ S) m rfl rfl rfl;refine⟨.value (.slice (aa ⟨g,0,af⟩) (xs.length+str.length) cap),_,?_,Rd.val rfl,t1,R,?_⟩
 .rw[dj Y,H,F];simp only[bO,dt];have K:(Builtin.append_ #[t,Q] o.type #[pb (aa (g,cap)) xs.length,.string sb]).run P s.w=_:=p;rw[K];rfl
 .rw[dj Y,H,F];refine eJ λe he=>?_;have hf:=Lib.run_firstCells_string (P:=P) s.w 1 sb;have V:=run_storeCells_atF P g xs.length E (0,k) (Lib.strCells sb) 0 _ s.w O (by grind) (by grind) (Lib.strCells_oneCell sb);have i:xs.length+sb.size<=cap:=by omega
  have U:(Builtin.firstCells 1 sb.size (.string sb)).events P s.w #[]=#[]:=rfl;simp[pb,Builtin.append_,run_underlying ht,run_underlying C,sizeOf,typeInfo,G,B,Builtin.lenOf,i,hf,U,dq,V]at he;rcases pd (Lib.strCells sb) 0 _ s.w _ O (by grind) (by grind) (Lib.strCells_oneCell sb) e he with h|⟨j,h1,h2,rfl⟩
  .grind
  .exact jC (bJ r.β) u (r.M _ u _)
def bG.I9{t A:aj}{x y:ak}(u:o.op=.call {callee:=.builtin .append,args:=#[x,y],argTypes:=#[t,A]}){n:TypeInfo}(r:P.underlying t=aa (.slice E))(g:P.underlying A=aa .string)(b:P.info? E=aa n)(F:q x=.e (.one (.v (pb af 0))))(C:q y=.e (.one (.c (.str [])))):bG P o q σ (.e (.one (.v (pb af 0)))) σ:=by
 refine .quiet λs B hh hr=>?_;have f:=hr x;rw[F]at f;have f:=Rd.dY f;have h:=hr y;rw[C]at h;have h:=eY h;generalize i:B y=vy at h;cases h with
 |@str sb _ G p =>
 have a:sb.size=0:=by
  have:sb.data.toList.length=0:=by grind
  rw[jh]at this;exact this
 have j:=Lib.run_firstCells_string (P:=P) s.w n.size sb;rw[a]at j;have m:(Builtin.firstCells n.size 0 (.string sb)).events P s.w #[]=#[]:=rfl;refine⟨.slice af 0 0,?_,Rd.val rfl,?_⟩
 .rw[dj u,f,i];simp[pb,Builtin.append_,run_underlying r,run_underlying g,sizeOf,typeInfo,b,Builtin.lenOf,a,j]
 .rw[dj u,f,i];simp[pb,Builtin.append_,run_underlying r,run_underlying g,sizeOf,typeInfo,b,Builtin.lenOf,a,j,m]
def Ug{f:aH}{fn:Func}{ps:Array aj}{t:aj}(ht:P.underlying t=aa (.slice E))(hf:P.funcs[f]?=aa fn)(F:(fn.name== "runtime.NumGoroutine")=ae)(hb:fn.body.isNone=ab)(R:Extern.findNext fn=af)(I:Extern.find fn=aa (Extern.BytealgMakeNoZero.makeNoZero ps #[t])){O x:ak}{XA:Array aj}(ho:o.op=.call {callee:=.value O,args:=#[x],argTypes:=XA})(V:q O=.e (.one (.c (.fn (.func f) [] [])))){n:Nat}(hx:q x=.e (.one (.c (.int .i64 n))))(h0:0<n)(aby:n<=140737488355328)(hl:σ[l]?=aa (.cf (BB T E d v1 af xs k))):
  ∀s A,aE σ s->(∀y,dn σ s (A y) (q y))->∃(j:{p:Nat×Nat // n<=p.2}) (s':St) (v:ah),(av A o).run P s.w=.ok (.value v) s'.w/\dn (σ.set l (.cf (BB T E d v1 (aa j.1) [] 0))) s' v (.e (.one (.v (pb (aa j.1) n)))) /\
   aE (σ.set l (.cf (BB T E d v1 (aa j.1) [] 0))) s'/\Step σ s (σ.set l (.cf (BB T E d v1 (aa j.1) [] 0))) s'/\fb s ((av A o).events P s.w #[]):=by
 intro s A U hr;obtain⟨L,b,ch,r⟩:=BB.row (P:=P) U hl;have K:A O=.func (.func f) #[] #[]:=by
  have g:=hr O;rw[V]at g;have g:=eY g;generalize A O=v at g;cases g with
  |fn fs cs a b f1 f2 c1 c2 d1 d2 =>
   grind
 have J:A x=.int .i64 n:=by have g:=hr x;rw[hx]at g;have g:=eY g;generalize A x=v at g;cases g;rfl
 obtain⟨cs,g,Y,Q⟩:=Lib.run_makeNoZero (P:=P) s.w ps t E ht n (by omega);have Q:=Q (by simp only[maxLen];omega);have C:(callFunc f #[.int .i64 n]).run P s.w=.ok (.value (.slice (aa ⟨s.w.heap.size,0,af⟩) n cs.size)) (s.w.drew.drew.alloc (.cells cs E)):=by rw[run_callFunc_extern hf F hb R I,g];rfl
 let w':az:=s.w.drew.drew.alloc (.cells cs E);have Nn:w'.heap[s.w.heap.size]?=aa (.cells cs E (0,0)):=dG s.w.drew.drew _;have DG:w'.heap.size=s.w.heap.size+1:=by show(s.w.drew.drew.heap.push _).size=_;simp
 obtain⟨B,q1,q2,q3,q4⟩:=r.bb;have Z:B=b:=by rw[r.v]at q1;grind
 subst Z;have M:B<s.w.heap.size:=U.lt L (bJ r.β) B r.mem;have H:s.w.heap.size≠B:=by omega
 obtain⟨t1,t2⟩:=U.ju (l:=l) (H':=BB T E d v1 (aa (s.w.heap.size,cs.size)) [] 0) (L':=⟨L.v,[B,s.w.heap.size]⟩) (w':=w') hl r.β rfl (by omega)
  (λu i R=>cM s.w.drew.drew _ i) (λu i=>by
   simp at i;rcases i with rfl|rfl
   .exact .inl r.mem
   grind)
  ⟨λu=>if u=B then aa (.cells #[if d then L.v else .pointer af,v1] T (0,0))else if u=s.w.heap.size then aa (.cells cs E (0,0))else af,⟨B,r.v,r.cell,by simp,H,by simp,by omega,by simp only[maxLen]at Q;omega,by simp,⟨cs.toList,by simp[qH],by simp[H,qH]⟩,λu=>by
   grind⟩,λu o' i=>by
   by_cases e:u=B
   .subst e;simp only[cn]at i;have:w'.heap[u]?=s.w.heap[u]?:=cM s.w.drew.drew _ M;rw[this,<-i];exact r.heap _ _ r.ch
   grind,λu=>by grind⟩ rfl rfl rfl
 refine⟨⟨(s.w.heap.size,cs.size),Y⟩,_,_,?_,Rd.val rfl,t1,t2,?_⟩
 .simp[av,ho,resolve,Deferred.ofValue,invoke,K,J,C,w',pb]
 .intro ev W;simp only[av,ho,resolve,Deferred.ofValue,invoke,K,J]at W;have G:ev∈(callFunc f #[.int .i64 n]).events P s.w #[]:=by grind
  have TH:fn.name≠ "runtime.NumGoroutine":=by grind
  have S:fn.body=af:=by simpa using hb
  have key:∀es:Array Event,∀e∈(Extern.BytealgMakeNoZero.makeNoZero ps #[t] #[.int .i64 n]).events P s.w es,e∈es∨∃m,e=⟨.mark m,ae,ab⟩/\Go.Conc.Neutral m:=by
   intro es e I;change e∈Sem.events P (underlying _ >>= _) _ _ at I;have g:¬(n:Int)<0:=by omega
   have Y:¬(281474976710656:Int)<(n:Int):=by omega
   have WR:e∈(askRoom (grownCap s.w n 0 E)).events P s.w.drew es:=by simpa[run_underlying ht,g,Y,Question.forced,newRow,grownCap]using I
   grind[Go.Conc.events_askRoom]
  have:ev∈(Extern.BytealgMakeNoZero.makeNoZero ps #[t] #[.int .i64 n]).events P s.w ((#[]:Array Event).push ⟨.mark (.extern f),ae,ab⟩):=by have e:callFunc f #[.int .i64 n]=callFunc f #[.int .i64 n]:=rfl;simpa[callFunc,hf,TH,S,R,I,g]using G
  rcases key _ _ this with h|⟨m,rfl,hm⟩
  .simp at h;subst h;exact .inr ⟨f,rfl⟩
  .exact .inl hm
def Uh{C M:aj}{x y:ak}(ho:o.op=.call {callee:=.builtin .unsafeString,args:=#[x,y],argTypes:=#[C,M]})(hp:P.underlying C=aa (.pointer E))(G:P.cellsOf E=1){g cap:Nat}(hl:σ[l]?=aa (.cf (BB T E d v1 (aa (g,cap)) xs k)))(hx:q x=.e (.one (.v (.pointer (aa ⟨g,0,af⟩)))))(hy:q y=.e (.one (.c (.int .i64 xs.length)))):
  bG P o q σ (.e (.one (.c (.str xs)))) (σ.set l (.cf (BB T E d v1 (aa (g,cap)) xs xs.length))):=by
 intro s O Z hr;obtain⟨L,b,ch,r⟩:=BB.row (P:=P) Z hl;obtain⟨a1,a2,a3,a4,a5,⟨R,a6,a7⟩,a8,V⟩:=r.at;have A:=hr x;rw[hx]at A;have A:=Rd.dY A;have t:O y=.int .i64 xs.length:=by have H:=hr y;rw[hy]at H;have H:=eY H;generalize O y=v at H;cases H;rfl
 have U:=r.heap _ _ a7;have p:av O o=(do pure (.value (<-Builtin.unsafeString_ #[C,M] o.type #[O x,O y]))):=by simp[av,ho,resolve,invoke,builtin]
 have hlen:(qH xs++R).toArray.size=cap:=by grind
 by_cases h0:xs=[]
 .subst h0;have n:=Lib.run_unsafeString_none (P:=P) s.w C M o.type (aa ⟨g,0,af⟩);obtain⟨t1,t2⟩:=r.ju (xs':=[]) (fz':=0) (zs':=R) (w':=s.w) Z hl a6 a2 (by simp) rfl (λ_ _=>rfl) (by grind) rfl rfl rfl;refine⟨.value (.string .empty),_,?_,Rd.str rfl (by simp),t1,t2,?_⟩
  .rw[p,A,t];simp only[bO,dt];have:(Builtin.unsafeString_ #[C,M] o.type #[.pointer (aa ⟨g,0,af⟩),.int .i64 ([]:List UInt8).length]).run P s.w=_:=n;rw[this];rfl
  .rw[p,A,t];refine eJ ?_;change fb s (Sem.events P (asInt (.int .i64 0) >>= _) _ _);simp[asInt,asIntOf,IntKind.max];exact .nil
 .have m:∀j x,xs[j]?=aa x->s.w.cell? ((⟨g,0,af⟩:Addr).add j)=aa (.int .u8 x.toNat):=by
   intro j x Q;rw[dq];simp only[aU,U,bC];have vJ:j<xs.length:=(bZ.1 Q).1;have:(qH xs)[j]?=aa (.int .u8 x.toNat):=by simp[qH,Q]
   grind
  have B:s.w.shape? g=aa (E,cap):=by simp only[World.shape?,U];grind
  have n:=Lib.run_unsafeString_row (P:=P) s.w C M o.type E hp G g cap B xs h0 a2 (by omega) m;have f:xs.length≠0:=by grind
  have hfz:(s.w.freeze ⟨g,0,af⟩ xs.length).heap[g]?=aa (.cells (qH xs++R).toArray E (0,xs.length)):=by simp only[World.freeze,f,b9,Array.getElem?_modify,cn,U,n8];grind
  obtain⟨t1,t2⟩:=r.ju (xs':=xs) (fz':=xs.length) (zs':=R) (w':=s.w.freeze ⟨g,0,af⟩ xs.length) Z hl a6 a2 (bg _) (by simp[World.freeze,f]) (λb' Dq=>by
   simp only[World.freeze,f,b9,Array.getElem?_modify]
   grind) hfz (by simp[World.freeze,f]) (by simp[World.freeze,f]) (by simp[World.freeze,f])
  refine⟨.value (.string ⟨xs.toArray⟩),_,?_,Rd.str (by simp) (by omega),t1,t2,?_⟩
  .rw[p,A,t];simp only[bO,dt,n];rfl
  .rw[p,A,t];refine eJ λe u=>?_;have J:¬(xs.length:Int)<0:=by omega
   have S:¬(9223372036854775807:Int)<(xs.length:Int):=by omega
   have i:=Lib.liesAt_bytes (P:=P) G (cap / P.cellsOf E) xs.length (by grind);have F:IntKind.i64.max=9223372036854775807:=rfl;have W:=Lib.run_loadBytes (P:=P) s.w xs ⟨g,0,af⟩ .empty m;have Ha:∀(K:List UInt8) (a:Nat) (acc:ByteArray) (es:Array Event),(∀j x,K[j]?=aa x->s.w.cell? ⟨g,a+j,af⟩=aa (.int .u8 x.toNat))->∀e∈(loadBytes ⟨g,a,af⟩ acc K.length).events P s.w es,e∈es∨∃j,e=zt g j:=by
    intro K;induction K with
    |nil=>intro a acc es _ e u;exact .inl (by simpa[loadBytes]using u)
    |cons y K ih =>
     intro a acc es G e u;have I:=G 0 y rfl;simp only[iq]at I;have hl0:(load ⟨g,a,af⟩).run P s.w=.ok (.int .u8 y.toNat) s.w:=by grind[run_load]
     simp only[er,loadBytes,aK,hl0,aO,zw I,dq]at u;rcases ih (a+1) _ _ (λj x Q=>by have:=G (j+1) x (by grind);grind) e u with h|h
     .grind
     grind
   have Y:(variablesAt ⟨g,0,af⟩ E xs.length).run P s.w=.ok ab s.w:=by simp[variablesAt,B,i]
   have hve:∀es,(variablesAt ⟨g,0,af⟩ E xs.length).events P s.w es=es:=λes=>by simp[variablesAt,B,i]
   have Q4:e∈(loadBytes ⟨g,0,af⟩ .empty xs.length).events P s.w #[]:=by change e∈Sem.events P (asInt (.int .i64 (xs.length:Int)) >>= _) _ _ at u;simpa[asInt,asIntOf,F,J,S,f,elemOf,run_underlying hp,Y,hve,W]using u
   rcases Ha xs 0 .empty #[] (λj x Q=>by grind[dq]) e Q4 with h|⟨j,rfl⟩
   .grind
   .exact jF (bJ r.β) V
end
section
variable {P:aq}{X:Cx P}{N:Nat}{q:List (Nat×TI)}{o:ar}{g:ak->D}{σ:List aP}{l:Nat}{T E:aj}{i:Bool}{v1:ah}{bf:Option (Nat×Nat)}{xs:List UInt8}{p:Nat}{s:St}
def bG.exact{x:ak}{v r:ah}{d:D}(c:g x=.e (.one (.v v)))(h:∀(a:ak->ah) w,a x=v->(av a o).run P w=.ok (.value r) w/\(av a o).events P w #[]=#[])(f:∀σ s,dn σ s r d):bG P o g σ d σ:=by refine .quiet λs a hh hr=>?_;have b:=hr x;rw[c]at b;have b:=Rd.dY b;obtain⟨h1,h2⟩:=h a s.w b;grind
def bG.uL{x:ak}{b:Array aj}{t E:aj}(h:o.op=.call {callee:=.builtin .len,args:=#[x],argTypes:=b})(d:b[0]?=aa t)(j:P.underlying t=aa (.slice E)){a:Option Addr}{n c:Nat}(k:g x=.e (.one (.v (.slice a n c))))(r:n<=9223372036854775807):bG P o g σ (.e (.one (.c (.int .i64 n)))) σ :=
 .exact k (λm w f=>by constructor<;>simp[av,h,resolve,invoke,builtin,Builtin.len_,f,run_underlying j,goInt,d]) (λ_ _=>Rd.int (by simp only[bA];omega))
def bG.No{x:ak}{b:Array aj}{t E:aj}(h:o.op=.call {callee:=.builtin .cap,args:=#[x],argTypes:=b})(d:b[0]?=aa t)(j:P.underlying t=aa (.slice E)){a:Option Addr}{n c:Nat}(k:g x=.e (.one (.v (.slice a n c))))(r:c<=9223372036854775807):bG P o g σ (.e (.one (.c (.int .i64 c)))) σ :=
 .exact k (λm w f=>by constructor<;>simp[av,h,resolve,invoke,builtin,Builtin.cap_,f,run_underlying j,goInt,d]) (λ_ _=>Rd.int (by simp only[bA];omega))
def bG.Ui{x:ak}{a:Array aj}(h:o.op=.call {callee:=.builtin .unsafeSliceData,args:=#[x],argTypes:=a}){n c:Nat}(d:g x=.e (.one (.v (.slice af n c)))):bG P o g σ (.e (.one (.v (.pointer af)))) σ :=
 .exact d (λf w b=>by
  have e:Builtin.unsafeSliceData_ a o.type #[.slice af n c]=pure (.pointer af):=rfl
  constructor<;>simp[av,h,resolve,invoke,builtin,b,e]) (λ_ _=>Rd.val rfl)
def bG.Uj{x:ak}{b:Array aj}(h:o.op=.call {callee:=.builtin .unsafeSliceData,args:=#[x],argTypes:=b}){a:Addr}{n c:Nat}(j:g x=.e (.one (.v (.slice (aa a) n c))))(f:c≠0):bG P o g σ (.e (.one (.v (.pointer (aa a))))) σ :=
 .exact j (λk w d=>by
  obtain⟨m,rfl⟩:=Nat.exists_eq_succ_of_ne_zero f;have e:Builtin.unsafeSliceData_ b o.type #[.slice (aa a) n (m+1)]=pure (.pointer (aa a)):=rfl
  constructor<;>simp[av,h,resolve,invoke,builtin,d,e]) (λ_ _=>Rd.val rfl)
def bG.Uk{t E:aj}{x y:ak}(h:o.op=.slice t x af (aa y) af)(B:P.underlying t=aa (.slice E)){G:TypeInfo}(hi:P.info? E=aa G){a:Addr}{n c k:Nat}(H:g x=.e (.one (.v (.slice (aa a) n c))))(F:g y=.e (.one (.c (.int .i64 k))))(hk:k<=n)(z:n<=c)(A:c≠0)(C:a.add 0=a):bG P o g σ (.e (.one (.v (.slice (aa a) k c)))) σ:=by
 refine .quiet λs r hh hr=>?_;have d:=hr x;rw[H]at d;have d:=Rd.dY d;have b:r y=.int .i64 k:=by have h1:=hr y;rw[F]at h1;have h1:=eY h1;generalize r y=v at h1;cases h1;rfl
 have hl:((af:Option ah)=af/\(af:Option Int)=af)∨∃k j,(af:Option ah)=aa (.int k j)/\(af:Option Int)=aa j:=.inl ⟨rfl,rfl⟩;have hh:(aa (Value.int .i64 k)=af/\(aa (k:Int))=af)∨∃k' j,aa (Value.int .i64 k)=aa (.int k' j)/\(aa (k:Int))=aa j:=.inr ⟨_,_,rfl,rfl⟩;have u:ay (fR n af (aa (k:Int))):=by simp[fR,hk]
 obtain⟨m,_,_⟩:=lW (P:=P) (isS:=ab) z hl hh u s.w;have f:=nh (P:=P) (isS:=ab) z hl hh u s.w;simp only[cO,cd]at m;refine⟨.slice (aa a) k c,?_,Rd.val rfl,?_⟩
 .simp[av,h,d,b,Instr.sliceAt,run_underlying B,Instr.slice,m,sizeOf,typeInfo,hi,A,C]
 .simp[av,h,d,b,Instr.sliceAt,run_underlying B,Instr.slice,m,f,sizeOf,typeInfo,hi,A]
def bG.copyV{t E j:aj}{x y:ak}(h:o.op=.call {callee:=.builtin .copy,args:=#[x,y],argTypes:=#[t,j]})(k:P.underlying t=aa (.slice E)){m:TypeInfo}(hi:P.info? E=aa m){a:Addr}{c:Nat}(n:g x=.e (.one (.v (.slice (aa a) 0 c))))(f:g y=.e (.one (.v (.slice af 0 0)))):bG P o g σ (.e (.one (.c (.int .i64 0)))) σ:=by
 refine .quiet λs r hh hr=>?_;have b:=hr x;rw[n]at b;have b:=Rd.dY b;have d:=hr y;rw[f]at d;have d:=Rd.dY d;refine⟨.int .i64 0,?_,Rd.int (by simp[bA]),?_⟩<;>
 simp[av,h,resolve,invoke,builtin,Builtin.copy_,b,d,run_underlying k,sizeOf,typeInfo,hi,Builtin.lenOf,Builtin.firstCells,storeCells,goInt]
def bG.Ul{j k:aj}{x y:ak}(m:o.op=.call {callee:=.builtin .unsafeString,args:=#[x,y],argTypes:=#[j,k]})(r:g x=.e (.one (.v (.pointer af))))(n:g y=.e (.one (.c (.int .i64 ((0:Nat):Int))))):bG P o g σ (.e (.one (.c (.str [])))) σ:=by
 refine .om λs a hh hr=>?_;have d:=hr x;rw[r]at d;have d:=Rd.dY d;have b:a y=.int .i64 0:=by have h1:=hr y;rw[n]at h1;have h1:=eY h1;generalize a y=v at h1;cases h1;rfl
 have f:av a o=(do pure (.value (<-Builtin.unsafeString_ #[j,k] o.type #[a x,a y]))):=by simp[av,m,resolve,invoke,builtin]
 have h:=Lib.run_unsafeString_none (P:=P) s.w j k o.type af;refine⟨.string .empty,?_,Rd.str rfl (by simp),?_⟩
 .rw[f,d,b];simp only[bO,dt,h];rfl
 .rw[f,d,b];refine eJ ?_;change fb s (Sem.events P (asInt (.int .i64 0) >>= _) _ _);simp[asInt,asIntOf,IntKind.max];exact .nil
def bG.bTo(m:σ[l]?=aa (.cf (BB T E i v1 bf xs p))){c dst:aj}{x:ak}(h:o.op=.convert c dst x)(n:P.underlying c=aa (.pointer T))(u:P.underlying dst=aa .unsafePointer){j:TypeInfo}(hj:P.info? T=aa j)(f:j.size≠0)(y:g x=.e (.one (.ptr l 0))):bG P o g σ (.e (.one (.ptr l 0))) σ:=by
 refine .quiet λs v hh hr=>?_;obtain⟨L,b,ch,r⟩:=BB.row (P:=P) hh m;have d:=hr x;rw[y]at d;have t:=r.ptr d;have k:s.w.shape? b=aa (T,2):=by simp[World.shape?,r.heap _ _ r.ch]
 have a:=Lib.run_to_unsafe (P:=P) s.w ⟨b,0,af⟩ n u hj f k (by simp);refine⟨v x,by simp[av,h,t,a],d,?_⟩;have:(convert c dst (.pointer (aa ⟨b,0,af⟩))).events P s.w #[]=#[]:=by simp[convert,run_underlying n,run_underlying u,Conv.unsafePointer,Conv.seenAt,viewAt,cellsIn,k,sizeOf,typeInfo,hj,f]
 simp[av,h,t,a,this]
def bG.Um(m:σ[l]?=aa (.cf (BB T E i v1 bf xs p))){d dst:aj}{x:ak}(h:o.op=.convert d dst x)(t:P.underlying d=aa .unsafePointer)(v:P.underlying dst=aa (.pointer T)){j:TypeInfo}(hj:P.info? T=aa j)(n:j.size≠0)(a:liesAt P P.depth T (2 / P.cellsOf T) 0 T 1=ab)(z:g x=.e (.one (.ptr l 0))):bG P o g σ (.e (.one (.ptr l 0))) σ:=by
 refine .quiet λs y hh hr=>?_;obtain⟨L,b,ch,r⟩:=BB.row (P:=P) hh m;have f:=hr x;rw[z]at f;have u:=r.ptr f;have k:s.w.shape? b=aa (T,2):=by simp[World.shape?,r.heap _ _ r.ch]
 have c:=Lib.run_from_unsafe (P:=P) s.w ⟨b,0,af⟩ t v hj k a;refine⟨y x,by simp[av,h,u,c],f,?_⟩;have:(convert d dst (.pointer (aa ⟨b,0,af⟩))).events P s.w #[]=#[]:=by simp[convert,run_underlying t,run_underlying v,Conv.unsafePointer,Conv.seenAt,viewAt,variablesAt,k,sizeOf,typeInfo,hj,n,a]
 simp[av,h,u,c,this]
def bG.Un{f:aH}{fn:Func}(F:P.funcs[f]?=aa fn)(j:(fn.name== "runtime.NumGoroutine")=ae)(A:fn.body.isNone=ab)(C:Extern.findNext fn=af)(z:Extern.find fn=aa Extern.AbiNoEscape.same){r x:ak}{t:Array aj}(B:o.op=.call {callee:=.value r,args:=#[x],argTypes:=t})(u:g r=.e (.one (.c (.fn (.func f) [] [])))){d:D}(J:g x=d):bG P o g σ d σ:=by
 refine .om λs m hh hr=>?_;have n:m r=.func (.func f) #[] #[]:=by
  have h1:=hr r;rw[u]at h1;have h1:=eY h1;generalize m r=v at h1;cases h1 with
  |fn fs cs a b H I c1 c2 d1 d2 =>
   grind
 have k:(callFunc f #[m x]).run P s.w=.ok (.value (m x)) s.w:=by rw[run_callFunc_extern F j A C z];rfl
 have y:=lX (P:=P) F j A C z #[m x] (λ_ _=>rfl) s.w #[];refine⟨m x,?_,by grind,λG h=>?_⟩
 .simp[av,B,resolve,Deferred.ofValue,invoke,n,k]
 .simp[av,B,resolve,Deferred.ofValue,invoke,n,y]at h;subst h;exact .inr ⟨_,rfl⟩
end
end
end Go.AM
namespace Go.AM.R1
section
open Go.Proofs
variable {X:Cx ag}
abbrev bB(a:Bool)(v1:ah)(bf:Option (Nat×Nat))(xs:Bs)(b:Nat):aP:=.cf (BB 261 5 a v1 bf xs b)
def B9(v1:ah)(b:cJ v1=ab)(bf:Option (Nat×Nat))(xs:Bs)(a:Nat):Ev X 214 [.e (.one (.ptr 0 0))] [bB ae v1 bf xs a] (.fa []) [bB ab v1 bf xs a]:=by
 refine Ev.bQ Tryz.func214 rfl λc=>?_;refine bu rfl aw ?_;refine AK.law (bG.Q2 tok rfl rfl rfl rfl rfl) rfl rfl ?_;refine AK.law (tE rfl Tryz.underlying259 rfl rfl rfl) rfl rfl ?_;refine bu rfl aw ?_;refine AK.law (bG.bTo rfl rfl Tryz.underlying259 Tryz.underlying123 (ey Tryz.type261) (by simp[Tryz.t261]) rfl) rfl rfl ?_;refine AK.law (bG.Un Tryz.func230 (by kernel_rfl) (by kernel_rfl) (by kernel_rfl) (by kernel_rfl) rfl rfl rfl) rfl rfl ?_;refine AK.law (bG.Um rfl rfl Tryz.underlying123 Tryz.underlying259 (ey Tryz.type261) (by simp[Tryz.t261]) (by kernel_rfl) rfl) rfl rfl ?_
 refine bu rfl aw ?_;refine AK.law (bG.Nl tok rfl rfl rfl rfl rfl rfl b) rfl rfl ?_;refine bu rfl aw ?_;exact cw.px [0] rfl aw rfl rfl rfl (λj d=>by grind)
def Ca(v1:ah)(bf:Option (Nat×Nat))(xs:Bs)(a:Nat):Ev X 214 [.e (.one (.ptr 0 0))] [bB ab v1 bf xs a] (.fa []) [bB ab v1 bf xs a]:=by
 refine Ev.bQ Tryz.func214 rfl λb=>?_;refine bu rfl aw ?_;refine AK.law (bG.I5 tok rfl rfl rfl rfl rfl) rfl rfl ?_;refine AK.law (R5 rfl Tryz.underlying259 rfl rfl rfl) rfl rfl ?_;refine bu rfl aw ?_;refine AK.law (bG.I5 tok rfl rfl rfl rfl rfl) rfl rfl ?_;refine bu rfl aw ?_;refine AK.law (Of rfl Tryz.underlying259 (n:=2) (by decide) (λw=>by simp[sizeOf,typeInfo,ey Tryz.type261,Tryz.t261]) (λw es=>by simp[sizeOf,typeInfo,ey Tryz.type261]) rfl rfl rfl) rfl rfl ?_
 refine bu rfl aw ?_;exact cw.px [0] rfl aw rfl rfl rfl (λj c=>by grind)
end
end Go.AM.R1
namespace Go.AM
section
open Go.Conc (G)
def ef(i:Nat)(D:Nat->Bool):Nat->Bool:=λj=>match aA j i with|true=>ab|false=>D j
section
variable {P:aq}{X:Cx P}{N:Nat}{ops:Array ar}{φ:Fr}{σ:List aP}{g:Type}{x:g->Nat->D}{idx:Nat->Option Nat}{S:g->(Nat->Bool)->List aP}{Inv:g->(Nat->Bool)->Prop}{c:Nat}
def lC(L:Array Bool):Nat->Bool:=λi=>L.getD i ae
def HC{L:Array Bool}{i:Nat}(hi:i<L.size):lC (L.setIfInBounds i ab)=ef i (lC L):=by funext j;have h:=eK (L:=L) (i:=i) (j:=j) hi;simp only[lC,ef];grind[Nat.eq_of_beq_eq_true,Nat.beq_refl]
def RU{L:Array Bool}{n c:Nat}(d:L.size=n)(h:∀k,c<=k->¬L.getD k ae=ab):n-c<=(L.toList.filter (λb=>!b)).length:=by
 have e:(L.toList.drop c).filter (λb=>!b)=L.toList.drop c:=by rw[zp];intro b a;obtain⟨i,hi,rfl⟩:=dL a;have:=h (c+i) (by omega);simp only[pW,jh]at hi;simp only[dN,fY (by omega:c+i<L.size),ik]at this;grind
 grind[List.drop_sublist]
theorem Names.U8(all:List ar)(c:Nat):Names all (List.range' c (all.length-c)) (all.drop c):=by
 have key:∀(l:List ar) (n:Nat),(∀j o,l[j]?=aa o->all[n+j]?=aa o)->Names all (List.range' n l.length) l:=by
  intro l;induction l with
  |nil=>intro n _;trivial
  |cons o r b =>
   intro n h;rw[er,List.range'_succ];refine⟨by simpa using h 0 o rfl,b (n+1) λj a hj=>?_⟩;have:=h (j+1) a (by grind);grind
 have:=key (all.drop c) c λj o h=>by grind
 grind
structure U9{P:aq}(X:Cx P)(N:Nat)(ops:Array ar)(φ:Fr){g:Type}(x:g->Nat->D)(S:g->(Nat->Bool)->List aP)(Inv:g->(Nat->Bool)->Prop)(idx:Nat->Option Nat)(c:Nat):Prop where
 back:∀i o,ops[i]?=aa o->∀e∈o.after,dm e=ab->e.on<i
 Jk:∀i o d,ops[i]?=aa o->o.dst=aa d->idx d=aa i/\d<N
 xX:∀d i,idx d=aa i->∃o,ops[i]?=aa o/\o.dst=aa d
 one:∀κ (D:Nat->Bool) i o,Inv κ D->ops[i]?=aa o->i<c->D i=ae->(∀e∈o.after,dm e=ab->D e.on=ab)->(∀j o',ops[j]?=aa o'->D j=ab->∀e∈o'.after,dm e=ab->D e.on=ab)->mz X N ops.toList o (jX ops.toList φ (x κ) i) (S κ D) (λq:{κ':g // (∀j,D j=ab->x κ' j=x κ j)/\Inv κ' (ef i D)}=>x q.1 i) (λq=>S q.1 (ef i D))
 TN:∀(x:Nat->D) i o,ops[i]?=aa o->∀t σ s v,dn σ s v (match idx t with|some j=>(if ∃e∈o.after,dm e=ab/\e.on=j then x j else .any)|none=>look φ t)->dn σ s v (look (jX ops.toList φ x i) t)
 fin:∀(x:Nat->D) t σ s v,dn σ s v (match idx t with|some j=>x j|none=>look φ t)->dn σ s v (look (MX ops.toList φ x) t)
 PQ:∀i o,ops[i]?=aa o->c<=i->∀L:Array Bool,(∀i o,ops[i]?=aa o->L.getD i ae=ab->∀e∈o.after,dm e=ab->L.getD e.on ae=ab)->(∀e∈o.after,dm e=ab->L.getD e.on ae=ab)->∀k,k<i->L.getD k ae=ab
 cc:c<=ops.size
 RV:∀κ (D:Nat->Bool),Inv κ D->(∀i,i<c->D i=ab)->∀i,c<=i->i<ops.size->x κ i=.any
def Gf{L:Array Bool}{i n:Nat}(a:L.size=n)(hi:i<n):L.getD i ab=ae↔¬L.getD i ae=ab:=by grind
theorem U9.seq(h:U9 X N ops φ x S Inv idx c):∀(a d:Nat)(L:Array Bool)(t:Nat),L.size=ops.size->c<=d->d<=ops.size->ops.size-d<=a->(∀k,k<ops.size->(L.getD k ae=ab↔k<d)) ->
  Region.linearise.go .any ops a t L []=List.range' d (ops.size-d):=by
 intro a;induction a with
 |zero =>
  grind[wc]
 |succ a z =>
  intro d L t v B F E w;by_cases C:d=ops.size
  .grind [BZ]
  .rw[pg];have j:d<ops.size:=by omega
   have q:∀i o,ops[i]?=aa o->L.getD i ae=ab->∀e∈o.after,dm e=ab->L.getD e.on ae=ab:=λi o m hi e l u=>by have b:=(ig.1 m).1;have h1:=(w i b).1 hi;have h2:=h.back i o m e l u;grind
   have s:∀i,i∈a9 .any ops L->i=d:=λi hi=>by
    obtain⟨o,m,hl,y⟩:=mem_ready.1 hi;have b:=(ig.1 m).1;have A:¬i<d:=λn=>(Gf v b).1 hl ((w i b).2 n);rcases cG d i with h1|h1
    .have:=h.PQ i o m (by omega) L q y d h1;grind
    .omega
   have r:d∈a9 .any ops L:=mem_ready.2 ⟨ops[d],fY j,(Gf v j).2 (λhh=>by grind),λe l u=>by
    have:=h.back d _ (fY j) e l u
    grind⟩
   have p:0<(a9 .any ops L).length:=List.length_pos_of_mem r;have f:=j9 t p;rw[br f];have e1:=s _ (rK f);simp only[e1];rw[z (d+1) _ _ (by grind) (by omega) (by omega) (by omega) (λk hk=>by grind[eK])]
   rw[show ops.size-d=(ops.size-(d+1))+1 by omega,List.range'_succ]
def U9.arr(h:U9 X N ops φ x S Inv idx c){Q:au->St->Prop}{b:aR}{kk:List Item}{cs:List aR}(hb:b.kind≠.early){σ0:List aP}{s0:St}(hQ:∀l D s a,Inv l D->(∀i,i<c->D i=ab)->cq N (S l D) s (MX ops.toList φ (x l)) a->aE (S l D) s->cU σ0 s0 (S l D) s->fE X Q (G (b.aT a (.inRegion ops (List.range' c (ops.size-c))::kk)) cs) s):
  ∀(f:Nat) (l:g) (L:Array Bool),Inv l (lC L)->L.size=ops.size->(L.toList.filter (λb=>!b)).length<=f->(∀k,c<=k->¬L.getD k ae=ab) ->
   (∀i o,ops[i]?=aa o->L.getD i ae=ab->∀e∈o.after,dm e=ab->L.getD e.on ae=ab) ->
   ∀(s:St) (a:Act),IN N (S l (lC L)) s (gp φ (x l) idx L) a->aE (S l (lC L)) s->cU σ0 s0 (S l (lC L)) s ->
   ∀t,fE X Q (G (b.aT a (.inRegion ops (Region.linearise.go .any ops f t L [])::kk)) cs) s:=by
 have fin:∀(l:g) (L:Array Bool) (s:St) (a:Act) (f t:Nat),Inv l (lC L)->L.size=ops.size->(L.toList.filter (λb=>!b)).length<=f->(∀k,c<=k->¬L.getD k ae=ab)->(∀i,i<c->L.getD i ae=ab)->IN N (S l (lC L)) s (gp φ (x l) idx L) a->aE (S l (lC L)) s->cU σ0 s0 (S l (lC L)) s->fE X Q (G (b.aT a (.inRegion ops (Region.linearise.go .any ops f t L [])::kk)) cs) s:=by
  intro l L s a f t E C R r p m hh st;have T:=h.cc;rw[h.seq f c L t C (bg _) T (by
   have h2:=RU (n:=ops.size) (c:=c) C r;omega) (λk hk=>⟨λM=>by grind,λM=>p k M⟩)]
  exact hQ l _ s a E p (m.Jj λt σ s v I=>h.fin (x l) t σ s v (by
   unfold gp at I;cases hi:idx t with
   |none=>grind
   |some k =>
    simp only[hi]at I⊢;obtain⟨o,A,_⟩:=h.xX _ _ hi;rcases cG k c with h1|h1
    .grind
    .rw[h.RV l _ E p k h1 (ig.1 A).1];trivial)) hh st
 intro f;induction f with
 |zero =>
  intro l L E C R r H s a m hh st t;have T:=h.cc;grind[Ad]
 |succ f ih =>
  intro l L E C R r H s a m hh st t;have T:=h.cc;cases u:(a9 .any ops L)[t % (a9 .any ops L).length]? with
  |none=>exact fin l L s a _ t E C R r (λi hi=>J6 (back:=h.back) C (Ea u) i (by omega)) m hh st
  |some i =>
   have hi:=bJ u;obtain⟨o,A,XF,w⟩:=mem_ready.1 hi;have vJ:i<ops.size:=(ig.1 A).1;rcases cG i c with B|B
   rotate_left
   .exact fin l L s a _ t E C R r (λk hk=>h.PQ i o A B L H w k (by omega)) m hh st
   rw[pg,u];have K:¬L.getD i ae=ab:=by grind
   have y:((L.setIfInBounds i ab).toList.filter (λb=>!b)).length<=f:=by
    have h1:L.toList[i]?=aa ae:=by rw[zm,fY (by omega:i<L.size)];simpa[dN,fY (by omega:i<L.size)]using K
    grind[count_set]
   have O:∀j Z,ops[j]?=aa Z->(L.setIfInBounds i ab).getD j ae=ab->∀e∈Z.after,dm e=ab->(L.setIfInBounds i ab).getD e.on ae=ab:=by grind[eK]
   have Y:cq N (S l (lC L)) s (jX ops.toList φ (x l) i) a:=N4 (h.TN (x l) i o A) m w;have:=h.one l (lC L) i o E A B (by unfold lC;grind) w H s a Y hh b kk cs Q i (Region.linearise.go .any ops f (t / (a9 .any ops L).length) (L.setIfInBounds i ab) []) hb (by grind);simp only[oZ]at this;refine this λq v s' I F z=>?_;obtain⟨W,U,J⟩:=q;have V:=HC (L:=L) (i:=i) (by omega);simp only at I F z;rw[<-V]at I F z J;exact ih W _ J (by grind) y (λk hk=>by grind[eK]) O s' _ (Hx (λd hd=>h.Jk i o d A hd) h.xX A (by omega) (λj hj=>U j hj) hh.len z m I) F (st.trans z) _
def AW.reg(hf:P.follows Departure.mixedOrders=ab){all:List ar}(c:Nat)(x:g->Nat->D)(S:g->(Nat->Bool)->List aP)(Inv:g->(Nat->Bool)->Prop)(F:g)(hI0:Inv F λ_=>ae)(h0:S F (λ_=>ae)=σ)(Uu:mv all=ab)(G:rX all 0=ab)(M:ov N all=ab)(hc:c<=all.length)(PQ:∀i,c<=i->i<all.length->∀L:Nat->Prop,(∀i,i<all.length->L i->∀e∈bU (all.getD i jv).after.toList,L e)->(∀e∈bU (all.getD i jv).after.toList,L e)->∀k,k<i->L k)(RV:∀n (D:Nat->Bool),Inv n D->(∀i,i<c->D i=ab)->∀i,c<=i->i<all.length->x n i=.any)(one:∀n (D:Nat->Bool) i o,Inv n D->all[i]?=aa o->i<c->D i=ae->(∀e∈bU o.after.toList,D e=ab)->(∀j o',all[j]?=aa o'->D j=ab->∀e∈bU o'.after.toList,D e=ab)->mz X N all o (jX all φ (x n) i) (S n D) (λq:{I:g // (∀j,D j=ab->x I j=x n j)/\Inv I (ef i D)}=>x q.1 i) (λq=>S q.1 (ef i D))){Q:Post}(hQ:∀n D,Inv n D->(∀i,i<c->D i=ab)->ia X N all (all.drop c) (Q .normal) (MX all φ (x n)) (S n D))(id:Nat):
  AW X N (.region id all.toArray ab) Q φ σ:=by
 have p:∀i:Nat,all.toArray[i]?=all[i]?:=λi=>by simp
 let idx:Nat->Option Nat:=λt=>(bd all.length).find? (λi=>decide ((all.getD i jv).dst=aa t));have J:∀t j,idx t=aa j->∃o,all[j]?=aa o/\o.dst=aa t:=by grind
 have z:∀i o d,all[i]?=aa o->o.dst=aa d->idx d=aa i:=by
  intro i o d f O;have hi:i<all.length:=(bZ.1 f).1;cases hx:idx d with
  |none =>
   have:=List.find?_eq_none.1 hx i (by grind);grind
  |some j =>
   grind[th]
 have V:∀t,ph t all=ab↔∃j,idx t=aa j:=by grind[qi,r5]
 have H:∀i o,all[i]?=aa o->all.getD i jv=o:=λi o h=>by grind
 have O:U9 X N all.toArray φ x S Inv idx c:=by
  refine⟨?_,?_,?_,?_,?_,?_,λi o f X0 L hLc hLp k hk=>?_,by grind,λn D K hD i h1 h2=>RV n D K hD i h1 (by grind)⟩
  .intro i o f e T W;rw[p]at f;have:=BV G i o f e.on (eP.2 ⟨e,by grind,W,rfl⟩);omega
  .intro i o d f O;rw[p]at f;exact⟨z i o d f O,gC (yt M i o f) d O⟩
  .grind
  .intro n D i o K f Z hDi Re Dz;rw[p]at f;exact one n D i o K f Z hDi (λe T=>by
    grind[eP]) λj o hj hDj e T=>by grind[eP]
  .intro x i o f t σ s v U;rw[p]at f;show dn σ s v (look (jX all φ x i) t);unfold jX;rw[H i o f];rcases nv (m:=λj=>hZ j (bU o.after.toList)) (φ:=uO all φ) (t:=t) (l:=Aa all 0 x) (i:=0)with⟨j,y,h1,h2,C⟩|C
   .rw[C];rw[wK]at h1;cases hj:all[j]? with
    |none=>grind
    |some oj =>
     simp only[hj,n8,dr,lS,bC]at h1;rw[z j oj t hj h1.1]at U;simp only at U;rw[bl]at U
     .grind
     .simp only[bC]at h2;obtain⟨e,a,b,c⟩:=eP.1 (Jp h2);grind
   .rw[C,lO];split
    .trivial
    grind
  .intro x t σ s v U;show dn σ s v (look (MX all φ x) t);unfold MX;rcases nv (m:=λ_=>ab) (φ:=uO all φ) (t:=t) (l:=Aa all 0 x) (i:=0)with⟨j,y,h1,h2,C⟩|C
   .rw[C];rw[wK]at h1;grind
   .rw[C,lO];split
    .trivial
    grind
  .rw[p]at f;refine PQ i X0 (bZ.1 f).1 (λk=>L.getD k ae=ab) (λi' hi' hl e T=>?_) (λe T=>?_) k hk
   .grind [eP]
   grind[eP]
 intro s a Ds hh b kk cs SS W XR;refine .next rfl λB A=>?_;have A:=X.iv A;have u:=hh.rely A;have R:=Ds.rely A hh;have E:Step σ B σ {B with w:={B.w with drawn:=B.w.drawn+1}}:=Step.same rfl rfl rfl rfl;have Y:aE σ {B with w:={B.w with drawn:=B.w.drawn+1}}:=u.same rfl;have Z1:=A.stepW.trans (E.na u);refine⟨_,{B with w:={B.w with drawn:=B.w.drawn+1}},#[],lU,⟨⟨σ,σ,u,Y,E⟩,.nil⟩,?_⟩;simp only[Region.schedule,hf,Bool.true_or,cn];have hd0:lC (Array.replicate all.toArray.size ae)=λ_=>ae:=by funext i;simp[lC,dN,mS];split<;>simp
 refine O.arr W (σ0:=σ) (s0:=s) (λn D s2 a2 K hD f2 h2 nV=>?_) all.toArray.size F _ (by grind) (by simp) (by simp) ?_ ?_ _ a ?_ (by grind) (by grind) _
 .refine hQ n D K hD s2 a2 f2 h2 b kk cs SS _ W ?_ λφ3 σ3 s3 a3 q3 f3 C Yz=>XR .normal _ _ s3 a3 q3 f3 C (nV.trans Yz);grind[Names.U8]
 .intro i _ hi;simp[dN,mS]at hi;split at hi<;>simp at hi
 .intro i o f hi;simp[dN,mS]at hi;split at hi<;>simp at hi
 .rw[hd0,h0];have r:=R.mono (E.na u) u.len;refine⟨r.size,r.defers,λt=>?_⟩;unfold gp;cases hix:idx t with
  |none=>exact r.slot t
  |some j =>
   simp only;rw[aY]
   .exact r.slot t
   .simp[dN,mS];split<;>simp
def mz.to{all:List ar}{o:ar}{φ:Fr}{ι d:Type}{y:ι->D}{σ':ι->List aP}{z:d->D}{e:d->List aP}(h:mz X N all o φ σ y σ')(l:∀j,∃k,y j=z k/\σ' j=e k):mz X N all o φ σ z e:=by intro s a f hh b k cs S i rest hb hi hK;refine h s a f hh b k cs S i rest hb hi λj v s' r1 r2 r3=>?_;obtain⟨q,p2,p3⟩:=l j;grind
def OA.sW{all:List ar}{o:ar}{φ:Fr}{d:Type}{y:D}{σ':List aP}{z:d->D}{e:d->List aP}(h:OA X N all o φ σ y σ')(k:d)(h1:y=z k)(h2:σ'=e k):mz X N all o φ σ z e:=by subst h1 h2;exactλs a f hh b k' cs S i rest hb hi hK=>h s a f hh b k' cs S i rest hb hi λv s' r1 r2 r3=>hK k v s' r1 r2 r3
end
section
variable {P:aq}{X:Cx P}{N:Nat}{all:List ar}{φ:Fr}{σ:List aP}{o:ar}
theorem mz.kS{ι:Type}{x:ι->D}{σ':ι->List aP}(n:o.guard=af)(h:∀s e,aE σ s->(∀y,dn σ s (e y) (bP φ y))->∃(j:ι)(s':St)(v:ah),(av e o).run P s.w=.ok (.value v) s'.w/\dn (σ' j) s' v (x j)/\aE (σ' j) s'/\Step σ s (σ' j) s'/\fb s ((av e o).events P s.w #[])):mz X N all o φ σ x σ':=by intro s a f hh b k cs S i rest hb hi hK;refine rl hb hi (dC n) λm d=>?_;have c:=hh.rely d;obtain⟨j,s',v,h1,h2,g,l,p⟩:=h m a.eval c (c7 (f.rely d hh));exact⟨_,s',v,h1,.inl rfl,⟨⟨σ,σ' j,c,g,l⟩,p⟩,hK j v s' h2 g (d.stepW.trans (l.na c))⟩
def mz.zZ{x:D}{σ':List aP}(h:OA X N all o φ σ x σ'):mz X N all o φ σ (λ_:Unit=>x) (λ_=>σ') :=
 λs a f hh b k cs S i rest hb hi hK=>h s a f hh b k cs S i rest hb hi λv s'=>hK () v s'
def OA.law{x:D}{σ':List aP}(h:bG P o (bP φ) σ x σ')(a:o.guard=af):OA X N all o φ σ x σ':=.kS (λ_ _ _ _=>dC a) h
def OA.eval{T:List (Nat×TI)}{CT:List (Nat×dv)}{ds:List (Nat×Bool)}{x:D}{obs:List Prop}(hT:cT P T)(hC:bF X CT)(h:we T CT ds all φ σ o=aa (x,af,obs))(a:ay obs):OA X N all o φ σ x σ:=gD hT hC h a
def OA.cV{T:List (Nat×TI)}{CT:List (Nat×dv)}{x:D}(hT:cT P T)(hC:bF X CT)(h:we T CT [] all φ σ o=aa (x,af,[])):OA X N all o φ σ x σ:=gD hT hC h aw
def tv(X:Cx P)(N:Nat)(all:List ar)(φ:Fr)(σ:List aP)(x:Nat->D)(pre:Nat->Bool):List ar->Nat->Prop
 |[],_=>True
 |o::r,i=>(match pre i with|true=>OA X N all o (jX all φ x i) σ (x i) σ|false=>True)/\tv X N all φ σ x pre r (i+1)
def tw(X:Cx P)(N:Nat)(all:List ar)(φ:Fr)(σ:List aP)(x:Nat->D)(m:Nat):List ar->Nat->Prop
 |[],_=>True
 |o::r,i=>(match aA i m with|true=>True|false=>OA X N all o (jX all φ x i) σ (x i) σ)/\tw X N all φ σ x m r (i+1)
theorem tv.get{x:Nat->D}{pre:Nat->Bool}:∀{l:List ar}{k:Nat},tv X N all φ σ x pre l k->∀(i:Nat)(o:ar),l[i]?=aa o->pre (k+i)=ab->OA X N all o (jX all φ x (k+i)) σ (x (k+i)) σ
 |[],_,_,i,o,h=>by grind
 |p::r,k,h,0,o,hi=>λa=>by simp at hi;subst hi;have h1:=h.1;grind
 |p::r,k,h,i+1,o,hi=>λa=>by have:=tv.get h.2 i o (by grind) (by grind);grind
theorem tw.get{x:Nat->D}{m:Nat}:∀{l:List ar}{k:Nat},tw X N all φ σ x m l k->∀(i:Nat)(o:ar),l[i]?=aa o->k+i≠m->OA X N all o (jX all φ x (k+i)) σ (x (k+i)) σ
 |[],_,_,i,o,h=>by grind
 |p::r,k,h,0,o,hi=>λa=>by simp at hi;subst hi;have h1:=h.1;simp only[iq]at a;grind[Nat.eq_of_beq_eq_true]
 |p::r,k,h,i+1,o,hi=>λa=>by have:=tw.get h.2 i o (by grind) (by omega);grind
def Eb{ι:Type}(pre:Nat->Bool)(x:Nat->D)(y:ι->Nat->D)(j:ι)(i:Nat):D:=match pre i with|true=>x i|false=>y j i
def Ga{ι:Type}{m c:Nat}{pre:Nat->Bool}{x:Nat->D}{a:ι->Nat->D}{σ':ι->List aP}{S:ι->(Nat->Bool)->List aP}(y:pre m=ae)(w:Ac pre m all 0=ab)(same:∀j i,pre i=ab->a j i=x i)(one:∀i o,all[i]?=aa o->pre i=ab->OA X N all o (jX all φ x i) σ (x i) σ)(two:∀j (D:Nat->Bool) i o,all[i]?=aa o->i≠m->i<c->D i=ae->(∀k g,all[k]?=aa g->D k=ab->∀e∈bU g.after.toList,D e=ab)->OA X N all o (jX all φ (a j) i) (S j D) (a j i) (S j (ef i D)))(M6:∀o,all[m]?=aa o->mz X N all o (jX all φ x m) σ (λj=>a j m) σ')(v:∀j (D:Nat->Bool),(∀i,D i=ab->pre i=ab)->σ' j=S j (ef m D)):
  ∀(b:Option ι) (D:Nat->Bool) i o,(b.isSome=D m/\(b=af->∀i,D i=ab->pre i=ab))->all[i]?=aa o->i<c->D i=ae->(∀e∈bU o.after.toList,D e=ab)->(∀j g,all[j]?=aa g->D j=ab->∀e∈bU g.after.toList,D e=ab) ->
   mz X N all o (jX all φ (b.elim x a) i) (b.elim σ λj=>S j D) (λq:{d:Option ι // (∀j,D j=ab->d.elim x a j=b.elim x a j)/\(d.isSome=ef i D m/\(d=af->∀k,ef i D k=ab->pre k=ab))}=>q.1.elim x a i) (λq=>q.1.elim σ λj=>S j (ef i D)):=by
 intro b D i o t r p n u l;have A:∀{k},ef i D k=ab->k=i∨D k=ab:=λ{k} hk=>by unfold ef at hk;grind[Nat.eq_of_beq_eq_true]
 have z:∀{k},k≠i->ef i D k=D k:=λ{k} hk=>by unfold ef;grind[Nat.eq_of_beq_eq_true]
 by_cases f:i=m
 .subst f;cases b with
  |some j=>grind
  |none =>
   refine(M6 o r).to λj=>⟨⟨aa j,λk hk=>same j k (t.2 rfl k hk),?_,λh=>by cases h⟩,rfl,v j D (t.2 rfl)⟩
   unfold ef;grind[Nat.beq_refl]
 .cases b with
  |none =>
   have s:pre i=ab:=by grind[F9]
   exact(one i o r s).sW ⟨af,λ_ _=>rfl,by grind,λ_ k hk=>by grind⟩ rfl rfl
  |some j=>exact(two j D i o r f p n l).sW ⟨aa j,λ_ _=>rfl,by grind,λh=>by cases h⟩ rfl rfl
def wL{ι:Type}{m c:Nat}{pre:Nat->Bool}{a:Option ι}{D:Nat->Bool}(d:a.isSome=D m/\(a=af->∀i,D i=ab->pre i=ab))(b:m<c)(e:∀i,i<c->D i=ab):∃j,a=aa j:=by
 cases a with
 |some j=>grind
 |none=>grind
def AK.M6{ι:Type}(q:P.follows Departure.mixedOrders=ab)(m:Nat)(pre:Nat->Bool)(x:Nat->D)(y:ι->Nat->D)(σ':ι->List aP){ops:Array ar}{id:Nat}{K:List It}{Qf:Post}(c:mv ops.toList=ab)(b:rX ops.toList 0=ab)(d:ov N ops.toList=ab)(e:Nat.blt m ops.toList.length=ab)(f:pre m=ae)(g:Ac pre m ops.toList 0=ab)(one:tv X N ops.toList φ σ x pre ops.toList 0)(two:∀j,tw X N ops.toList φ (σ' j) (Eb pre x y j) m ops.toList 0)(M6:mz X N ops.toList (ops.toList.getD m jv) (jX ops.toList φ x m) σ (λj=>Eb pre x y j m) σ')(k:∀j,AK X N Qf K .normal (MX ops.toList φ (Eb pre x y j)) (σ' j)):AK X N Qf (.code (.region id ops ab)::K) .normal φ σ:=by
 have e:=cZ e;have:=AW.reg (X:=X) (N:=N) (φ:=φ) (σ:=σ) q (all:=ops.toList) ops.toList.length (λa:Option ι=>a.elim x (Eb pre x y)) (λa _=>a.elim σ σ') (λa D=>a.isSome=D m/\(a=af->∀i,D i=ab->pre i=ab)) af ⟨rfl,λ_ _ h=>by cases h⟩ rfl c b d (bg _)
  (λi h1 h2=>absurd h2 (mm.2 h1)) (λa D _ _ i h1 h2=>absurd h2 (mm.2 h1))
  (Ga (S:=λj _=>σ' j) f g (λj i l=>by simp only[Eb,l]) (λi o hi l=>by have:=one.get i o hi (by grind);grind) (λj D i o hi Bi _ _ _=>by have:=(two j).get i o hi (by grind);grind)
   (λo r=>by grind) (λ_ _ _=>rfl))
  (Q:=AK X N Qf K) (λa D p n=>by obtain⟨j,rfl⟩:=wL p e n;rw[u7];exact .nil (k j)) id
 rw[oZ]at this;exact this
end
end
end Go.AM
namespace Go.AM.R1
section
open Go.Proofs
variable {X:Cx ag}
abbrev bb(a:Bool)(bf:Option (Nat×Nat))(xs:Bs)(b:Nat):aP:=bB a (pb bf xs.length) bf xs b
def Aj:∀j,j<1->([0]:List Nat)[j]?=aa j:=λj a=>by grind
def Ak(a:Bool)(bf:Option (Nat×Nat))(xs:Bs)(b:Nat)(c:xs.length<=9223372036854775807)(d:bf=af->xs=[]):Ev X 205 [.e (.one (.ptr 0 0))] [bb a bf xs b] (dI xs.length) [bb a bf xs b]:=by
 refine Ev.bQ Tryz.func205 rfl λf=>?_;refine bu rfl aw ?_;refine AK.law (bG.fu tok rfl rfl rfl rfl rfl) rfl rfl ?_;cases bf with
 |none =>
  have:=d rfl;subst this;refine AK.law (bG.uL rfl rfl Tryz.underlying22 rfl (by simp)) rfl rfl ?_;refine bu rfl aw (AK.cY [0] rfl ?_ rfl rfl rfl Aj);simp
 |some p =>
  refine AK.law (bG.uL rfl rfl Tryz.underlying22 rfl c) rfl rfl ?_;refine bu rfl aw (AK.cY [0] rfl ?_ rfl rfl rfl Aj);simp
def El(g cap:Nat)(xs s:Bs)(b:Nat)(f:s.length<=9223372036854775807)(a:xs.length+s.length<=cap):Ev X 186 [.e (.one (.ptr 0 0)),dS s] [bb ab (aa (g,cap)) xs b] (.fa [.one (.c (.int .i64 s.length)),.one (.c .iw)]) [bb ab (aa (g,cap)) (xs++s) b]:=by
 refine Ev.bQ Tryz.func186 rfl λd=>?_;refine bu rfl aw ?_;refine AK.cQ (Ca (pb (aa (g,cap)) xs.length) (aa (g,cap)) xs b) [0] rfl ?_;refine bu rfl aw ?_;refine AK.law (bG.fu tok rfl rfl rfl rfl rfl) rfl rfl ?_;refine bu rfl aw ?_;refine AK.law (bG.Nm (l:=0) (g:=g) (cap:=cap) (xs:=xs) rfl Tryz.underlying22 Tryz.underlying9 (ey Tryz.type5) (by simp[Tryz.t5]) rfl rfl rfl rfl a) rfl rfl ?_;refine bu rfl aw ?_;refine AK.law (bG.zv tok rfl rfl rfl rfl rfl rfl rfl) rfl rfl ?_;have e:bb ab (aa (g,cap)) (xs++s) b=.cf (BB 261 5 ab (pb (aa (g,cap)) (xs.length+s.length)) (aa (g,cap)) (xs++s) b):=by grind
 rw[e];refine bu rfl aw (AK.cY [0] rfl ?_ rfl rfl rfl Aj);simp
theorem R6:Ev X 186 [.e (.one (.ptr 0 0)),dS []] [bb ab af [] 0] (.fa [.one (.c (.int .i64 0)),.one (.c .iw)]) [bb ab af [] 0]:=by refine Ev.bQ Tryz.func186 rfl λa=>?_;refine bu rfl aw ?_;refine AK.cQ (Ca (pb af 0) af [] 0) [0] rfl ?_;refine bu rfl aw ?_;refine AK.law (bG.fu tok rfl rfl rfl rfl rfl) rfl rfl ?_;refine bu rfl aw ?_;refine AK.law (bG.I9 rfl Tryz.underlying22 Tryz.underlying9 (ey Tryz.type5) rfl rfl) rfl rfl ?_;refine bu rfl aw ?_;refine AK.law (bG.zv tok rfl rfl rfl rfl rfl rfl rfl) rfl rfl ?_;refine bu rfl aw (AK.cY [0] rfl ?_ rfl rfl rfl Aj);simp
abbrev dp:D:=.e (.one (.ptr 0 0))
abbrev M7:D:=.e (.one (.ptr 0 1))
def Em(g cap:Nat)(xs:Bs)(c:Nat)(a:xs.length<=9223372036854775807)(b:cap≠0):Ev X 187 [.e (.one (.ptr 0 0))] [bb ab (aa (g,cap)) xs c] (dS xs) [bb ab (aa (g,cap)) xs xs.length]:=by
 refine Ev.bQ Tryz.func187 rfl λd=>?_;refine aW [(1000001,ab)] rfl aw ?_;refine AK.M6 iZ 10 (λi=>bw i 9) (λi=>[dp,dp,M7,.e (.one (.v (.slice (aa ⟨g,0,af⟩) xs.length cap))),.e (.one (.v (.pointer (aa ⟨g,0,af⟩)))),dp,dp,M7,.e (.one (.v (.slice (aa ⟨g,0,af⟩) xs.length cap))),dI xs.length].getD i .any) (λ(_:Unit) _=>dS xs)
  (λ_=>[bb ab (aa (g,cap)) xs xs.length]) rfl rfl rfl rfl rfl rfl ?_ ?_ ?_ ?_
 .refine⟨.cV tok bF.nil rfl,.cV tok bF.nil rfl,.cV tok bF.nil rfl,?_,?_,.cV tok bF.nil rfl,.cV tok bF.nil rfl,.cV tok bF.nil rfl,?_,?_,aw,aw,aw⟩
  .exact .law (bG.fu (l:=0) tok rfl rfl rfl rfl rfl) rfl
  .exact .law (bG.Uj rfl rfl b) rfl
  .exact .law (bG.fu (l:=0) tok rfl rfl rfl rfl rfl) rfl
  .exact .law (bG.uL rfl rfl Tryz.underlying22 rfl a) rfl
 .intro _;refine⟨.cV tok bF.nil rfl,.cV tok bF.nil rfl,.cV tok bF.nil rfl,?_,?_,.cV tok bF.nil rfl,.cV tok bF.nil rfl,.cV tok bF.nil rfl,?_,?_,aw,.cV tok bF.nil rfl,aw⟩
  .exact .law (bG.fu (l:=0) tok rfl rfl rfl rfl rfl) rfl
  .exact .law (bG.Uj rfl rfl b) rfl
  .exact .law (bG.fu (l:=0) tok rfl rfl rfl rfl rfl) rfl
  .exact .law (bG.uL rfl rfl Tryz.underlying22 rfl a) rfl
 .exact .zZ (.law (Uh (l:=0) rfl Tryz.underlying288 (by kernel_rfl) rfl rfl rfl) rfl)
 .intro _;refine bu rfl aw (AK.cY [0] rfl ?_ rfl rfl rfl Aj);simp
def Vh{o:ar}{a:ak->D}{σ:List aP}{t ty:aj}{x y:ak}(h:o.op=.binOp .add t x y ty){b:Int}(f:a x=dI 0)(e:a y=dI b)(d:bA .i64 b):bG ag o a σ (dI b) σ:=by have:=bG.binOp (P:=ag) (σ:=σ) h f e (c:=.int .i64 (0+b)) (obs:=[bA .i64 (0+b)]) rfl (by rw[Int.zero_add];exact d);grind
def dZ.Qj{ι:Type}{f:aH}{fn:Func}{c:Code}{args:List D}{σ:List aP}{σ':ι->List aP}{res:ι->D}(d:Tryz.prog.funcs[f]?=aa fn)(a:(fn.name== "runtime.NumGoroutine")=ae)(g:fn.body=aa c)(b:bw args.length fn.ntmps=ab)(h:AK X fn.ntmps (λe φ σ1=>∃j,cw fn σ.length (res j) (σ' j) e φ σ1) [.code c] .normal (iY 0 args) σ):dZ X f args σ res σ' :=
 dZ.intro d a g (cZ b) (AK.of_code h)
def Og:Ev X 187 [.e (.one (.ptr 0 0))] [bb ab af [] 0] (dS []) [bb ab af [] 0]:=by
 refine Ev.bQ Tryz.func187 rfl λa=>?_;refine aW [(1000001,ab)] rfl aw ?_;refine AK.M6 iZ 10 (λi=>bw i 9) (λi=>[dp,dp,M7,.e (.one (.v (.slice af 0 0))),.e (.one (.v (.pointer af))),dp,dp,M7,.e (.one (.v (.slice af 0 0))),dI (0:Nat)].getD i .any) (λ(_:Unit) _=>dS [])
  (λ_=>[bb ab af [] 0]) rfl rfl rfl rfl rfl rfl ?_ ?_ ?_ ?_
 .refine⟨.cV tok bF.nil rfl,.cV tok bF.nil rfl,.cV tok bF.nil rfl,?_,?_,.cV tok bF.nil rfl,.cV tok bF.nil rfl,.cV tok bF.nil rfl,?_,?_,aw,aw,aw⟩
  .exact .law (bG.fu (l:=0) tok rfl rfl rfl rfl rfl) rfl
  .exact .law (bG.Ui rfl rfl) rfl
  .exact .law (bG.fu (l:=0) tok rfl rfl rfl rfl rfl) rfl
  .exact .law (bG.uL rfl rfl Tryz.underlying22 rfl (by decide)) rfl
 .intro _;refine⟨.cV tok bF.nil rfl,.cV tok bF.nil rfl,.cV tok bF.nil rfl,?_,?_,.cV tok bF.nil rfl,.cV tok bF.nil rfl,.cV tok bF.nil rfl,?_,?_,aw,.cV tok bF.nil rfl,aw⟩
  .exact .law (bG.fu (l:=0) tok rfl rfl rfl rfl rfl) rfl
  .exact .law (bG.Ui rfl rfl) rfl
  .exact .law (bG.fu (l:=0) tok rfl rfl rfl rfl rfl) rfl
  .exact .law (bG.uL rfl rfl Tryz.underlying22 rfl (by decide)) rfl
 .exact .zZ (.law (bG.Ul rfl rfl rfl) rfl)
 .intro _;refine bu rfl aw (AK.cY [0] rfl ?_ rfl rfl rfl Aj);simp
def Oh(n:Nat)(d:0<n)(b:n<=140737488355328):dZ (ι:={p:Nat×Nat // n<=p.2}) X 215 [.e (.one (.ptr 0 0)),dI n] [bb ab af [] 0] (λ_=>.fa []) (λj=>[bb ab (aa j.1) [] 0]):=by
 refine dZ.Qj Tryz.func215 rfl rfl rfl ?_;refine aW [(1000000,ab)] rfl aw ?_;have a:bA .i64 (n:Int):=by simp only[bA];omega
 have v0:D:=.e (.one (.v (.slice af 0 0)));refine AK.M6 (ι:={p:Nat×Nat // n<=p.2}) iZ 8 (λi=>bw i 7||(bw 9 i&&bw i 13)) (λi=>[dp,dp,M7,.e (.one (.v (.slice af 0 0))),dI (0:Nat),dI 0,dI n,dI n,.any,dp,dp,M7,.e (.one (.v (.slice af 0 0))),dI (0:Nat)].getD i .any)
  (λj i=>[.e (.one (.v (pb (aa j.1) n))),.any,.any,.any,.any,.any,.e (.one (.v (.slice (aa ⟨j.1.1,0,af⟩) 0 j.1.2))),.e (.one (.v (.slice (aa ⟨j.1.1,0,af⟩) 0 j.1.2)))].getD (i-8) .any)
  (λj=>[bB ab (.slice af 0 0) (aa j.1) [] 0]) rfl rfl rfl rfl rfl rfl ?_ ?_ ?_ ?_
 .refine⟨.cV tok bF.nil rfl,.cV tok bF.nil rfl,.cV tok bF.nil rfl,?_,?_,?_,.cV tok bF.nil rfl,?_,aw,.cV tok bF.nil rfl,.cV tok bF.nil rfl,.cV tok bF.nil rfl,?_,?_,aw,aw,aw⟩
  .exact .law (bG.fu (l:=0) tok rfl rfl rfl rfl rfl) rfl
  .exact .law (bG.No rfl rfl Tryz.underlying22 rfl (by decide)) rfl
  .exact .law (En 0 rfl rfl rfl (by simp[bA]) (λw=>rfl) (λw=>rfl)) rfl
  .exact .law (Vh rfl rfl rfl a) rfl
  .exact .law (bG.fu (l:=0) tok rfl rfl rfl rfl rfl) rfl
  .exact .law (bG.uL rfl rfl Tryz.underlying22 rfl (by decide)) rfl
 .intro j;have c:j.1.2≠0:=by grind
  refine⟨.cV tok bF.nil rfl,.cV tok bF.nil rfl,.cV tok bF.nil rfl,?_,?_,?_,.cV tok bF.nil rfl,?_,aw,.cV tok bF.nil rfl,.cV tok bF.nil rfl,.cV tok bF.nil rfl,?_,?_,?_,.cV tok bF.nil rfl,aw⟩
  .exact .law (bG.fu (l:=0) tok rfl rfl rfl rfl rfl) rfl
  .exact .law (bG.No rfl rfl Tryz.underlying22 rfl (by decide)) rfl
  .exact .law (En 0 rfl rfl rfl (by simp[bA]) (λw=>rfl) (λw=>rfl)) rfl
  .exact .law (Vh rfl rfl rfl a) rfl
  .exact .law (bG.fu (l:=0) tok rfl rfl rfl rfl rfl) rfl
  .exact .law (bG.uL rfl rfl Tryz.underlying22 rfl (by decide)) rfl
  .exact .law (bG.Uk (k:=0) rfl Tryz.underlying22 (ey Tryz.type5) rfl rfl (ll _) j.2 c (dq _ _ _)) rfl
 .exact .kS rfl (Ug (l:=0) (ps:=#[3]) Tryz.underlying22 Tryz.func231 (by kernel_rfl) (by kernel_rfl) (by kernel_rfl) (by kernel_rfl) rfl rfl rfl d b rfl)
 .intro j;refine bu rfl aw ?_;refine AK.law (bG.fu (l:=0) tok rfl rfl rfl rfl rfl) rfl rfl ?_;refine AK.law (bG.copyV rfl Tryz.underlying22 (ey Tryz.type5) rfl rfl) rfl rfl ?_;refine bu rfl aw ?_;refine AK.law (bG.zv (l:=0) tok rfl rfl rfl rfl rfl rfl rfl) rfl rfl ?_;refine bu rfl aw ?_;exact⟨j,cw.px [0] rfl aw rfl rfl rfl Aj⟩
def Gk(n:Nat)(b:0<n)(a:n<=140737488355328):dZ (ι:={p:Nat×Nat // n<=p.2}) X 185 [.e (.one (.ptr 0 0)),dI n] [bb ae af [] 0] (λ_=>.fa []) (λj=>[bb ab (aa j.1) [] 0]):=by
 refine dZ.Qj Tryz.func185 rfl rfl rfl ?_;refine bu rfl aw ?_;refine AK.cQ (B9 (pb af 0) rfl af [] 0) [0] rfl ?_;refine aW [(7,ae),(1000003,ab)] rfl ?_ ?_
 .simp
 refine AK.M6 iZ 4 (λi=>bw i 3||(bw 5 i&&bw i 9)||aA i 11) (λi=>[dp,dp,M7,.e (.one (.v (.slice af 0 0))),.any,dp,dp,M7,.e (.one (.v (.slice af 0 0))),dI (0:Nat),.any,dI n].getD i .any)
  (λ(_:Unit) i=>[dI (0:Nat),.any,.any,.any,.any,.any,dI (0-0),.any,dB ab].getD (i-4) .any)
  (λ_=>[bb ab af [] 0]) rfl rfl rfl rfl rfl rfl ?_ ?_ ?_ ?_
 .refine⟨.cV tok bF.nil rfl,.cV tok bF.nil rfl,.cV tok bF.nil rfl,?_,aw,.cV tok bF.nil rfl,.cV tok bF.nil rfl,.cV tok bF.nil rfl,?_,?_,aw,.cV tok bF.nil rfl,aw,aw⟩
  .exact .law (bG.fu (l:=0) tok rfl rfl rfl rfl rfl) rfl
  .exact .law (bG.fu (l:=0) tok rfl rfl rfl rfl rfl) rfl
  .exact .law (bG.uL rfl rfl Tryz.underlying22 rfl (by decide)) rfl
 .intro _;refine⟨.cV tok bF.nil rfl,.cV tok bF.nil rfl,.cV tok bF.nil rfl,?_,aw,.cV tok bF.nil rfl,.cV tok bF.nil rfl,.cV tok bF.nil rfl,?_,?_,?_,.cV tok bF.nil rfl,?_,aw⟩
  .exact .law (bG.fu (l:=0) tok rfl rfl rfl rfl rfl) rfl
  .exact .law (bG.fu (l:=0) tok rfl rfl rfl rfl rfl) rfl
  .exact .law (bG.uL rfl rfl Tryz.underlying22 rfl (by decide)) rfl
  .exact .eval (ds:=[]) tok bF.nil (obs:=[bA .i64 (((0:Nat):Int)-((0:Nat):Int))]) rfl (by simp[bA])
  .exact .eval (ds:=[(21,ab)]) tok bF.nil (obs:=[decide ((0:Int)-0<(n:Int))=ab]) rfl (by simp;omega)
 .exact .zZ (.law (bG.No rfl rfl Tryz.underlying22 rfl (by decide)) rfl)
 .intro _;refine bu rfl aw ?_;refine AK.cP (Oh n b a) [0] rfl (λ_=>rfl) λj=>?_;refine bu rfl aw ?_;exact⟨j,cw.px [0] rfl aw rfl rfl rfl Aj⟩
def Kr:Ev X 185 [.e (.one (.ptr 0 0)),dI (0:Nat)] [bb ae af [] 0] (.fa []) [bb ab af [] 0]:=by
 refine Ev.bQ Tryz.func185 rfl λa=>?_;refine bu rfl aw ?_;refine AK.cQ (B9 (pb af 0) rfl af [] 0) [0] rfl ?_;refine aW [(7,ae),(1000003,ab)] rfl ?_ ?_
 .simp
 refine AK.M6 iZ 4 (λi=>bw i 3||(bw 5 i&&bw i 9)||aA i 11) (λi=>[dp,dp,M7,.e (.one (.v (.slice af 0 0))),.any,dp,dp,M7,.e (.one (.v (.slice af 0 0))),dI (0:Nat),.any,dI (0:Nat)].getD i .any)
  (λ(_:Unit) i=>[dI (0:Nat),.any,.any,.any,.any,.any,dI (0-0),.any,dB ae].getD (i-4) .any)
  (λ_=>[bb ab af [] 0]) rfl rfl rfl rfl rfl rfl ?_ ?_ ?_ ?_
 .refine⟨.cV tok bF.nil rfl,.cV tok bF.nil rfl,.cV tok bF.nil rfl,?_,aw,.cV tok bF.nil rfl,.cV tok bF.nil rfl,.cV tok bF.nil rfl,?_,?_,aw,.cV tok bF.nil rfl,aw,aw⟩
  .exact .law (bG.fu (l:=0) tok rfl rfl rfl rfl rfl) rfl
  .exact .law (bG.fu (l:=0) tok rfl rfl rfl rfl rfl) rfl
  .exact .law (bG.uL rfl rfl Tryz.underlying22 rfl (by decide)) rfl
 .intro _;refine⟨.cV tok bF.nil rfl,.cV tok bF.nil rfl,.cV tok bF.nil rfl,?_,aw,.cV tok bF.nil rfl,.cV tok bF.nil rfl,.cV tok bF.nil rfl,?_,?_,?_,.cV tok bF.nil rfl,?_,aw⟩
  .exact .law (bG.fu (l:=0) tok rfl rfl rfl rfl rfl) rfl
  .exact .law (bG.fu (l:=0) tok rfl rfl rfl rfl rfl) rfl
  .exact .law (bG.uL rfl rfl Tryz.underlying22 rfl (by decide)) rfl
  .exact .eval (ds:=[]) tok bF.nil (obs:=[bA .i64 (((0:Nat):Int)-((0:Nat):Int))]) rfl (by simp[bA])
  .exact .eval (ds:=[(21,ae)]) tok bF.nil (obs:=[decide ((0:Int)-0<((0:Nat):Int))=ae]) rfl (by simp)
 .exact .zZ (.law (bG.No rfl rfl Tryz.underlying22 rfl (by decide)) rfl)
 .intro _;refine bu rfl aw ?_;exact cw.px [0] rfl aw rfl rfl rfl Aj
def Ks{o:ar}{a:ak->D}{σ:List aP}(h:o.op=.alloc 261):bG ag o a σ (.e (.one (.ptr σ.length 0))) (σ++[bb ae af [] 0]) :=
 bG.Q3 h (λw=>by simp[zeroValue,typeInfo,ey Tryz.type261,Tryz.t261]) (λw es=>by simp)
def Kt{o:ar}{n:ak->D}{σ:List aP}{x y z:ak}{p:Array aj}{a b c:Int}(m:Int)(h:o.op=.call {callee:=.builtin .min,args:=#[x,y,z],argTypes:=p})(v:n x=dI a)(u:n y=dI b)(t:n z=dI c)(w:min (min a b) c=m)(r:bA .i64 m):bG ag o n σ (dI m) σ:=by
 refine .quiet λs q A d=>?_;have j:=d x;have f:=d y;have g:=d z;rw[v]at j;rw[u]at f;rw[t]at g;replace j:=eY j;replace f:=eY f;replace g:=eY g;generalize i:q x=vx at j;generalize l:q y=vy at f;generalize k:q z=vz at g;cases j;cases f;cases g;have e:(if c<(if b<a then b else a)then c else if b<a then b else a)=m:=by grind
 exact⟨.int .i64 m,by simp[av,h,resolve,invoke,builtin,i,l,k,Builtin.min_,Builtin.min2,e],.int r,by simp[av,h,resolve,invoke,builtin,i,l,k,Builtin.min_,Builtin.min2]⟩
def Ku(n:Nat)(l:2<=n)(o:n<=3):Ev X 159 [dS [46],dI n] [] (dS (List.replicate n 46)) []:=by
 refine Ev.bQ Tryz.func159 rfl λp=>?_;have a:bF X [(204,R7)]:=.cons t204 .nil;refine bh a [(13,ae),(15,ae),(18,ae),(30,ae),(33,ae),(40,ae),(44,ae),(45,ae),(46,ae),(47,ae),(48,ae),(96,ae),(1000035,ab)] rfl ?_ ?_
 .have h:(n:Int)=2∨(n:Int)=3:=by omega
  have e:(iS [46] 0).toNat=46:=rfl;simp[bA,e,h];omega
 refine AK.region ?_;refine AK.law (Ks rfl) rfl rfl ?_;refine cm a rfl aw ?_;refine AK.cP (Gk n (by omega) (by omega)) [0] rfl (λ_=>rfl) λj=>?_;obtain⟨⟨g,cap⟩,b⟩:=j;have b:n<=cap:=b;refine cm a rfl aw ?_;refine AK.cQ (El g cap [] [46] 0 (by simp) (by simp;omega)) [0] rfl ?_;refine cm a rfl aw ?_;refine AK.j0 (λk=>1<=k/\k<=n) (λk:Nat=>[(0,dS [46]),(7,dI n),(8,dI n),(9,.e (.one (.ptr 0 0)))]) (λk=>[bb ab (aa (g,cap)) (List.replicate k 46) (k-1)]) (λk=>n-k) 1 rfl ?_ rfl ?_ ⟨by omega,by omega⟩ ?_
 .simp
 .exact ay.cat.2 ⟨rfl,aw⟩
 rintro k ⟨f,d⟩;refine cm a rfl aw ?_;refine AK.cQ (Ak ab (aa (g,cap)) (List.replicate k 46) (k-1) (by simp;omega) (by simp)) [0] rfl ?_;by_cases hk:k<n
 .refine bh a [(113,ab)] rfl ?_ ?_
  .simp;omega
  refine AK.cQ (Ak ab (aa (g,cap)) (List.replicate k 46) (k-1) (by simp;omega) (by simp)) [0] rfl ?_;refine cm a rfl ?_ ?_
  .simp[bA];omega
  refine AK.cQ (Ak ab (aa (g,cap)) (List.replicate k 46) (k-1) (by simp;omega) (by simp)) [0] rfl ?_;refine cm a rfl aw ?_;refine AK.law (Kt 1 rfl rfl rfl rfl (by simp;omega) (by simp[bA])) rfl rfl ?_;refine cm a rfl aw ?_;refine AK.cQ (Em g cap (List.replicate k 46) (k-1) (by simp;omega) (by omega)) [0] rfl ?_;have i:r9 (List.replicate k (46:UInt8)) af (aa 1)=[46]:=by
   obtain⟨m,rfl⟩:∃m,k=m+1:=⟨k-1,by omega⟩
   simp[r9,List.replicate_succ]
  refine cm a rfl ?_ ?_
  .simp;omega
  rw[i];refine AK.cQ (El g cap (List.replicate k 46) [46] (List.replicate k 46).length (by simp) (by simp;omega)) [0] rfl ?_;have c:List.replicate k (46:UInt8)++[46]=List.replicate (k+1) 46:=by rw[List.replicate_succ']
  rw[c];refine cm a rfl aw (AK.gj (k+1) rfl ?_ rfl ?_ ⟨by omega,by omega⟩ (by omega))
  .simp
  .refine ay.cat.2 ⟨?_,aw⟩;simp
 .refine bh a [(113,ae)] rfl ?_ (AK.leave rfl rfl ?_)
  .simp;omega
  have e:k=n:=by omega
  subst e;refine cm a rfl aw ?_;refine AK.cQ (Em g cap (List.replicate k 46) (k-1) (by simp;omega) (by omega)) [0] rfl ?_;exact cm a rfl aw (AK.bx rfl)
def YJ:eb X 159 HD:=Vi (Ku 2 (by omega) (by omega)) (Ku 3 (by omega) (by omega))
def Oi:eb X 126 nC:=Vj YJ
def Room(bf:Option (Nat×Nat))(n:Nat):Prop:=match bf with|none=>n=0|some (_,cap)=>n<=cap/\0<cap
def _root_.Go.AM.dZ.re{P:aq}{ι b:Type}{X:Cx P}{f:aH}{args:List D}{σ:List aP}{res:ι->D}{σ':ι->List aP}{a:b->D}{σ2:b->List aP}(h:dZ X f args σ res σ')(g:ι->b)(c:∀i,a (g i)=res i)(d:∀i,σ2 (g i)=σ' i):dZ X f args σ a σ2 :=
 ⟨h.1,λs vs h1 h2 S cs hS=>h.2 s vs h1 h2 S cs λi fr v s' k1 k2 k3 k4=>hS (g i) fr v s' k1 (by grind) (by grind) (by grind)⟩
def Kv(n:Nat)(a:n<=140737488355328):dZ (ι:={bf:Option (Nat×Nat) // Room bf n}) X 185 [.e (.one (.ptr 0 0)),dI n] [bb ae af [] 0] (λ_=>.fa []) (λj=>[bb ab j.1 [] 0]):=by
 by_cases h:n=0
 .subst h;exact Kr.sW.re (λ_=>⟨af,rfl⟩) (λ_=>rfl) (λ_=>rfl)
 .exact(Gk n (by omega) a).re (λp=>⟨aa p.1,p.2,by grind⟩) (λ_=>rfl) (λ_=>rfl)
def Eo(bf:Option (Nat×Nat))(xs s:Bs)(a:s.length<=9223372036854775807)(h:Room bf (xs.length+s.length)):Ev X 186 [.e (.one (.ptr 0 0)),dS s] [bb ab bf xs 0] (.fa [.one (.c (.int .i64 s.length)),.one (.c .iw)]) [bb ab bf (xs++s) 0]:=by
 cases bf with
 |none =>
  have h:xs.length+s.length=0:=h;grind[R6]
 |some p=>exact El p.1 p.2 xs s 0 a h.1
def shown(bf:Option (Nat×Nat))(xs:Bs):Nat:=match bf with|none=>0|some _=>xs.length
def Oj(bf:Option (Nat×Nat))(xs:Bs)(a:xs.length<=9223372036854775807)(h:Room bf xs.length):Ev X 187 [.e (.one (.ptr 0 0))] [bb ab bf xs 0] (dS xs) [bb ab bf xs (shown bf xs)]:=by
 cases bf with
 |none =>
  have h:xs.length=0:=h;have b:xs=[]:=jf h;subst b;exact Og
 |some p=>exact Em p.1 p.2 xs 0 a (by have:=h.2;omega)
def Gm(l:List Bs)(i:Nat):Bs:=(l.take i).flatten
def Kw{l:List Bs}{i:Nat}(h:i<l.length):Gm l (i+1)=Gm l i++l.getD i []:=by unfold Gm;grind[List.take_add_one]
def Vk{l:List Bs}:Gm l l.length=l.flatten:=by simp[Gm]
def Kx{l:List Bs}(i:Nat):(Gm l i).length<=l.flatten.length:=by
 have e:l.flatten=(l.take i).flatten++(l.drop i).flatten:=by grind[List.take_append_drop]
 rw[e,cA];simp only[Gm];omega
def Ol(l:List Bs)(r:l.flatten.length<=140737488355328):Ev X 146 [cS.sl l,dS []] [] (dS l.flatten) []:=by
 refine Ev.bQ Tryz.func146 rfl λt=>?_;have g:=t.sl 0 rfl;by_cases k:l=[]
 .subst k;refine aW [(14,ab)] rfl ?_ (AK.bx rfl)
  .simp
 by_cases s:l.length=1
 .obtain⟨x,rfl⟩:=List.length_eq_one_iff.1 s;refine aW [(14,ae),(16,ab)] rfl ?_ (AK.bx rfl ?_)
  .simp
  .simp[cS,kF.fn]
 have u:2<=l.length:=by
  have:l.length≠0:=by grind
  omega
 refine aW [(14,ae),(16,ae),(22,ae)] rfl ?_ ?_
 .simp[k];omega
 refine AK.j0 (λi=>i<=l.length) (λi:Nat=>[(0,cS.sl l),(1,dS []),(5,dI (Gm l i).length),(39,cS.sl l),(40,dI l.length),(41,dI i)]) (λ_=>[]) (λi=>l.length-i) 0 rfl ?_ rfl aw (by omega) ?_
 .simp[Gm]
 .intro i hi;have v:=Kx (l:=l) i;by_cases h:i<l.length
  .have b:=Kx (l:=l) (i+1);rw[Kw h,cA]at b;refine aW [(42,ab),(49,ae)] rfl ?_ (AK.gj (i+1) rfl ?_ rfl aw (by omega) (by omega))
   .have e:(l.getD (i:Int).toNat cS.b7)=l.getD i []:=rfl;simp only[ay,bA,e];grind
   .have e:(l.getD (i:Int).toNat cS.b7)=l.getD i []:=rfl;rw[Kw h];rw[e];simp
  .have e:i=l.length:=by omega
   subst e;refine aW [(42,ae),(1000018,ab)] rfl ?_ (AK.leave rfl rfl ?_)
   .simp
   refine aW [(1000018,ab)] rfl aw ?_;refine AK.region ?_;refine AK.law (Ks rfl) rfl rfl ?_;refine di rfl aw ?_;rw[Vk];refine AK.cP (Kv l.flatten.length r) [0] rfl (λ_=>rfl) λj=>?_;obtain⟨bf,d⟩:=j;refine di rfl ?_ ?_
   .exact⟨by omega,show(0:Int)<(l.length:Int) by omega⟩
   have room:∀n,n<=l.flatten.length->Room bf n:=λn q=>by
    cases bf with
    |none =>
     have:l.flatten.length=0:=d;grind
    |some p=>exact⟨im q d.1,d.2⟩
   have m:Gm l 1=l.getD 0 []:=by rw[Kw (by omega)];simp[Gm]
   have f:=Kx (l:=l) 1;rw[m]at f;refine AK.cQ (Eo bf [] (l.getD 0 []) (by omega) (room _ (by grind))) [0] rfl ?_;refine di rfl ?_ ?_
   .exact⟨by omega,show(1:Int)<=(l.length:Int) by omega⟩
   refine AK.j0 (λi=>i+1<=l.length) (λi:Nat=>[(1,dS []),(8,.e (.one (.ptr 0 0))),(63,.e (.one (.c (.sl ae 1 (l.length-1) (jJ 1 (cS.fn l)))))),(64,dI (l.length-1:Nat)),(65,dI i)]) (λi=>[bb ab bf (Gm l (i+1)) 0]) (λi=>l.length-i) 0 rfl ?_ rfl ?_ (by omega) ?_
   .simp[cO]
   .refine ay.cat.2 ⟨?_,aw⟩;rw[bC,m];exact rfl
   intro i hi;have o:=Kx (l:=l) (i+1);by_cases h:i+1<l.length
   .have a:=Kx (l:=l) (i+2);rw[Kw h,cA]at a;refine aW [(66,ab)] rfl ?_ ?_
    .exact⟨by omega,by omega,dc (by omega)⟩
    refine AK.cQ (Eo bf (Gm l (i+1)) [] (by simp) (room _ (by grind))) [0] rfl ?_;rw[iQ];refine bu rfl aw ?_;refine AK.cQ (Eo bf (Gm l (i+1)) (l.getD (1+i) []) (by grind) (room _ (by grind))) [0] rfl ?_;refine bu rfl ?_ (AK.gj (i+1) rfl ?_ rfl ?_ (by omega) (by omega))
    .simp only[ay,bA];omega
    .simp
    .refine ay.cat.2 ⟨?_,aw⟩;rw[Kw h,Nat.add_comm 1 i];exact rfl
   .have e:i+1=l.length:=by omega
    refine aW [(66,ae)] rfl ?_ (AK.leave rfl rfl ?_)
    .exact iP (by omega)
    rw[e,Vk];refine bu rfl aw ?_;refine AK.cQ (Oj bf l.flatten (by omega) (room _ (by omega))) [0] rfl ?_;exact bu rfl aw (AK.bx rfl)
def HI{s:Bs}(h:b8 s=ab)(i:Nat)(hi:i<s.length):97<=cN s i/\cN s i<=122:=by have a:=List.all_eq_true.1 h (s.getD i 0) (by grind);simp only[eW,bS,aZ]at a;unfold cN;omega
def Ch(s:Bs)(i:Nat)(a:b8 s=ab)(e:3<=i)(hi:i<=s.length)(j:s.length<=4000000):Ev X 165 [dS s,dI i] [] (dB (ju s i)) []:=by
 refine Ev.bQ Tryz.func165 rfl λk=>?_;have g:=HI a (i-1) (by omega);have h:=HI a (i-2) (by omega);have f:=HI a (i-3) (by omega);have d:((iS s ((i:Int)-1)).toNat:Int)=cN s (i-1):=by grind[cR]
 have c:((iS s ((i:Int)-2)).toNat:Int)=cN s (i-2):=by grind[cR]
 have b:((iS s ((i:Int)-3)).toNat:Int)=cN s (i-3):=by grind[cR]
 refine bu rfl ?_ (AK.bx rfl ?_)
 .simp only[ay,bA,d,c,b];omega
 .simp only[ay,ay.cat,d,c,b,ju,dl,aD];grind
def HJ:eb X 165 (oX aS aI (λs i=>dB (ju s i.toNat)) λs i=>[b8 s=ab,3<=i,i<=s.length,s.length<=4000000]):=.sC λs i h=>by
 obtain⟨b,c,d,a⟩:=h;obtain⟨m,rfl⟩:∃m:Nat,i=m:=⟨i.toNat,by omega⟩
 exact Ch s m b (by omega) (by omega) a
def tF{o:ar}{k:ak->D}{σ:List aP}{x y:ak}{j:Array aj}{a b:Int}(m:Int)(h:o.op=.call {callee:=.builtin .min,args:=#[x,y],argTypes:=j})(q:k x=dI a)(p:k y=dI b)(r:min a b=m)(n:bA .i64 m):bG ag o k σ (dI m) σ:=by
 refine .quiet λs l t f=>?_;have g:=f x;have c:=f y;rw[q]at g;rw[p]at c;replace g:=eY g;replace c:=eY c;generalize d:l x=vx at g;generalize i:l y=vy at c;cases g;cases c;have e:(if b<a then b else a)=m:=by grind
 exact⟨.int .i64 m,by simp[av,h,resolve,invoke,builtin,d,i,Builtin.min_,Builtin.min2,e],.int n,by simp[av,h,resolve,invoke,builtin,d,i,Builtin.min_,Builtin.min2]⟩
theorem KI{t:Bs}{f j:Nat}(h:t.length<=f+3+j)(b:j<=5):tG t f (5-j)=min (f+8) t.length:=by
 rcases cG j 5 with a|a
 .obtain⟨k,hk⟩:∃k,5-j=k+1:=⟨4-j,by omega⟩
  rw[hk];simp only[tG];grind
 .rw[show 5-j=0 by omega];rfl
def HK(t:Bs)(f:Nat)(l:b8 t=ab)(n:f<=t.length)(o:t.length<=4000000):Ev X 138 [dS t,dI f] [] (dI (cutAt t f)) []:=by
 refine Ev.bQ Tryz.func138 rfl λp=>?_;have a:bF X [(165,oX aS aI (λs i=>dB (ju s i.toNat)) λs i=>[b8 s=ab,3<=i,i<=s.length,s.length<=4000000])]:=.cons HJ .nil;refine cg a rfl ?_ ?_
 .simp[bA];omega
 refine AK.j0 (λj=>j<=5/\tG t f (5-j)=cutAt t f) (λj:Nat=>[(0,dS t),(1,dI f),(5,dI (f+3+j))]) (λ_=>[]) (λj=>5-j) 0 rfl ?_ rfl aw ⟨by omega,rfl⟩ ?_
 .simp
 rintro j ⟨q,b⟩;by_cases h:j<5/\f+3+j<t.length
 .obtain⟨k,hk⟩:∃k,5-j=k+1:=⟨4-j,by omega⟩
  have d:f+(7-k)=f+3+j:=by omega
  rw[hk]at b;simp only[tG,d]at b;rw[aY (by omega)]at b;have e:((f:Int)+3+j).toNat=f+3+j:=by omega
  cases c:ju t (f+3+j)with
  |true =>
   rw[c,bl rfl]at b;refine aV a [(11,ab),(16,ab),(22,ab)] rfl ?_ (AK.iC (cw.zero rfl ?_))
   .simp only[ay,bA,e,c,l,aZ,eq_self,aF,aD];omega
   .simp[<-b]
  |false =>
   rw[c,aY (by simp)]at b;refine aV a [(11,ab),(16,ab),(22,ae)] rfl ?_ (AK.gj (j+1) rfl ?_ rfl aw ⟨by omega,by grind⟩ (by omega))
   .simp only[ay,bA,e,c,l,aZ,eq_self,aF,aD];omega
   .simp;omega
 .have e:cutAt t f=min (f+8) t.length:=by
   rw[<-b];rcases cG j 5 with g|g
   .grind [KI]
   .rw[show 5-j=0 by omega];rfl
  have m:bA .i64 ((min (f+8) t.length:Nat):Int):=by simp only[bA];omega
  rcases cG j 5 with g|g
  .refine aV a [(11,ab),(16,ae)] rfl ?_ (AK.leave rfl rfl ?_)
   .simp only[ay,bA,aZ,bM];omega
   refine cg a rfl ?_ ?_
   .simp only[ay,bA];omega
   refine AK.law (tF ((min (f+8) t.length:Nat):Int) rfl rfl rfl (by omega) m) rfl rfl ?_;refine cg a rfl aw (AK.bx rfl ?_);simp[e]
  .refine aV a [(11,ae)] rfl ?_ (AK.leave rfl rfl ?_)
   .simp only[ay,bA,aZ,bM];omega
   refine cg a rfl ?_ ?_
   .simp only[ay,bA];omega
   refine AK.law (tF ((min (f+8) t.length:Nat):Int) rfl rfl rfl (by omega) m) rfl rfl ?_;refine cg a rfl aw (AK.bx rfl ?_);simp[e]
def Sg:eb X 138 (oX aS aI (λs i=>dI (cutAt s i.toNat)) λs i=>[b8 s=ab,0<=i,i<=s.length,s.length<=4000000]):=.sC λs i h=>by
 obtain⟨b,c,d,a⟩:=h;obtain⟨m,rfl⟩:∃m:Nat,i=m:=⟨i.toNat,by omega⟩
 exact HK s m b (by omega) a
end
end Go.AM.R1
namespace Go.AM
def rq{B:aP}{r:List aP}(h:B≠.qX)(k:lB r=ab):lB (B::r)=ab:=by cases B<;>first|exact k|grind
section
variable {P:aq}{X:Cx P}{N:Nat}{Qf:Post}{φ:Fr}{σ:List aP}
def AK.iK{Q a:Post}(h:∀e φ σ,Q e φ σ->a e φ σ):∀{K:List It}{e:Exit}{φ:Fr}{σ:List aP},AK X N Q K e φ σ->AK X N a K e φ σ
 |[],e,φ,σ,q=>h e φ σ q
 |.code c::K,.normal,φ,σ,q=>AW.mono q λ_ _ _ q=>AK.iK h q
 |.code c::K,.exit _,φ,σ,q=>AK.iK (K:=K) h q
 |.code c::K,.ret,φ,σ,q=>AK.iK (K:=K) h q
 |.code c::K,.panic _,φ,σ,q=>AK.iK (K:=K) h q
 |.code c::K,.goto _,φ,σ,q=>AK.iK (K:=K) h q
 |.code c::K,.outgrown,φ,σ,q=>AK.iK (K:=K) h q
 |.blk id::K,.exit IV,φ,σ,q=>by
  simp only[AK]at q⊢;split
  .rename_i e;rw[bl e]at q;exact AK.iK (K:=K) h q
  .rename_i e;rw[aY e]at q;exact AK.iK (K:=K) h q
 |.blk id::K,.normal,φ,σ,q=>AK.iK (K:=K) h q
 |.blk id::K,.ret,φ,σ,q=>AK.iK (K:=K) h q
 |.blk id::K,.panic _,φ,σ,q=>AK.iK (K:=K) h q
 |.blk id::K,.goto _,φ,σ,q=>AK.iK (K:=K) h q
 |.blk id::K,.outgrown,φ,σ,q=>AK.iK (K:=K) h q
 |.ops all rest::K,.normal,φ,σ,q=>ia.mono q λ_ _ q=>AK.iK h q
 |.ops all rest::K,.exit _,φ,σ,q=>AK.iK (K:=K) h q
 |.ops all rest::K,.ret,φ,σ,q=>AK.iK (K:=K) h q
 |.ops all rest::K,.panic _,φ,σ,q=>AK.iK (K:=K) h q
 |.ops all rest::K,.goto _,φ,σ,q=>AK.iK (K:=K) h q
 |.ops all rest::K,.outgrown,φ,σ,q=>AK.iK (K:=K) h q
def AK.J2{id:Nat}{A:Fr->List aP->Prop}{a b c:List It}(h1:jO id a=af)(h2:jO id b=aa c)(k:AK X N Qf c .normal φ σ):
  AK X N (BN A (AK X N Qf b)) (.code (.exit id)::a) .normal φ σ :=
 AK.iK (λe φ' σ' q=>by cases e<;>exact q) (AK.leave (X:=X) (N:=N) (Qr:=Qf) (A:=A) (φ:=φ) (σ:=σ) h1 h2 k)
end
end Go.AM
namespace Go.AM.R1
section
open Go.Proofs
variable {X:Cx ag}
abbrev Ql(t:Bs):C:=.fn (.func 137) [] [.rp [.str t]]
theorem Ou(t:Bs):Ev X 91 [dS t] [] (.e (.one (.c (Ql t)))) []:=by refine Ev.bQ Tryz.func91 rfl λa=>?_;refine qG [] 5 rfl aw ?_;refine AK.freeze 1 0 rfl rfl rfl ?_;exact bu rfl aw (AK.bx rfl)
def HL{T:Type}(text:Bs)(m:b8 text=ab)(p:text.length<=4000000){N0:Nat}{φ0:Fr}{d:Loop}(b B1 B2:T->aP)(R:Nat->T->Prop)(g:T)(n:R 0 g)(hB:∀t,b t≠.qX/\B1 t≠.qX/\B2 t≠.qX)(xd:∀f t,f<text.length->R f t->Yields (ι:={a:T // R (cutAt text f) a}) X 3 [dI f,dI (cutAt text f)] [b t,B1 t,B2 t,.loop N0 φ0 d] ab (λa=>[b a.1,B1 a.1,B2 a.1,.loop N0 φ0 d])):
  dZ (ι:={t:T // R text.length t}) X 137 [.e (.one (.ref 3)),.e (.one (.c (.rp [.str text])))] [b g,B1 g,B2 g,.loop N0 φ0 d] (λ_=>.fa []) (λi=>[b i.1,B1 i.1,B2 i.1,.loop N0 φ0 d]):=by
 refine dZ.JX Tryz.func137 rfl rfl rfl (AK.of_code ?_);have j:bF X [(138,oX aS aI (λs i=>dI (cutAt s i.toNat)) λs i=>[b8 s=ab,0<=i,i<=s.length,s.length<=4000000])]:=.cons Sg .nil;refine cg j rfl aw ?_;show AW X _ (.loop _) _ _ _;refine AW.loop (S:=T×Nat) (λx=>x.2<=text.length/\R x.2 x.1) (λx=>[(0,.e (.one (.ref 3))),(1,.e (.one (.c (.rp [.str text])))),(3,dI x.2)]) (λx=>[b x.1,B1 x.1,B2 x.1,.loop N0 φ0 d]) (λx=>text.length-x.2) (g,0) ⟨ll _,n⟩ (cX rfl (by simp)) rfl ?_;rintro⟨t,f⟩ ⟨o,l⟩;simp only at o l;refine AK.of_code ?_;by_cases h:f<text.length
 .have k:=nD text f h;refine aV j [(8,ab)] rfl ?_ ?_
  .simp only[ay,m,aZ,eq_self,aF,aD];omega
  refine AK.yield (xd f t h l) rfl rfl rfl rfl rfl rfl λa=>?_;refine aV j [(16,ae)] rfl ?_ ?_
  .simp
  refine⟨(a.1,cutAt text f),⟨k.2.1,a.2⟩,?_,cX rfl (by simp),rfl⟩;grind
 .have e:f=text.length:=by omega
  subst e;refine aV j [(8,ae)] rfl ?_ ?_
  .simp
  refine AK.J2 rfl rfl ?_;exact⟨⟨t,l⟩,.inr rfl,rfl,rq (hB t).1 (rq (hB t).2.1 (rq (hB t).2.2 rfl)),[],.fa [],[],rfl,rfl,rfl,aw⟩
def R9(a b:List Bs):Ev X 147 [cS.sl a,cS.sl b] [] (dB (a==b)) []:=by
 refine Ev.bQ Tryz.func147 rfl λk=>?_;have d:=k.sl 0 rfl;by_cases g:a.length=b.length
 .refine aW [(10,ae)] rfl (by simp[g]) ?_;refine AK.j0 (λi=>i<=a.length/\∀j,j<i->a.getD j []=b.getD j []) (λi:Nat=>[(0,cS.sl a),(1,cS.sl b),(12,dI a.length),(13,dI i)]) (λ_=>[]) (λi=>a.length-i) 0 rfl ?_ rfl aw ⟨by omega,by omega⟩ ?_
  .simp
  rintro i ⟨hi,c⟩;by_cases h:i<a.length
  .by_cases f:a.getD i []=b.getD i []
   .refine aW [(14,ab),(24,ae)] rfl ?_ (AK.gj (i+1) rfl ?_ rfl aw ?_ ?_)
    .simp only[ay,cd];have e:(a.getD i cS.b7==b.getD i cS.b7)=ab:=hI.2 f;exact⟨by simp only[bA];omega,by grind,by omega,by omega,by omega,by omega,dc (by omega)⟩
    .simp
    .grind
    .omega
   .refine aW [(14,ab),(24,ab)] rfl ?_ (AK.iC (cw.zero rfl ?_))
    .simp only[ay,cd];grind
    .have:(a==b)=ae:=eD.2 (by grind);simp[this]
  .refine aW [(14,ae)] rfl (by simp;omega) (AK.leave rfl rfl ?_);refine bu rfl aw (AK.bx rfl ?_);have:a=b:=pX g λj f l=>by grind
   simp[this]
 .refine aW [(10,ab)] rfl ?_ (AK.bx rfl ?_)
  .simp;omega
  .have:(a==b)=ae:=eD.2 (by grind);simp[this]
def lM:∀(l:List UInt8)(c:UInt8),Lib.indexByte l c<l.length∨Lib.indexByte l c=-1
 |[],c=>.inr (by rw[Lib.indexByte.eq_def])
 |b::l,c=>by have a:=lM l c;grind[Lib.indexByte.eq_def]
set_option maxRecDepth 20000 in
theorem AU(s:Bs)(c:UInt8):Ev X 224 [dS s,dU c.toNat] [] (dI (Lib.indexByte s c)) []:=by
 refine Ev.bQ Tryz.func224 rfl λq=>?_;have t:=q.str 0 rfl;refine bu rfl aw ?_;refine AK.one (x:=dI (Lib.indexByte s c)) (σ':=[]) ?_ rfl ?_
 .refine OA.kS (λ_ _ _ _=>dC (by rfl)) ?_;refine bG.om λst ρ u k=>?_;have p:=eY (k (.tmp 5));have n:=eY (k (.tmp 6));generalize h:ρ (.tmp 5)=v1 at p;generalize j:ρ (.tmp 6)=v2 at n;cases p with
  |str e1 l1 =>
  cases n with
  |int l2 =>
  have g:ρ (.func 237)=.func (.func 237) #[] #[]:=by
   have:=eY (k (.func 237));generalize ρ (.func 237)=v at this;cases this with
   |fn fs cs a b A z c1 c2 d1 d2 =>
    grind
  have f:(callFunc 237 #[.string ‹ByteArray›,.int .u8 c.toNat]).run ag st.w=.ok (.value (.int .i64 (Lib.indexByte s c))) st.w:=by rw[run_callFunc_extern Tryz.func237 (by kernel_rfl) (by kernel_rfl) (by kernel_rfl) (e:=Extern.BytealgIndexByte.indexByte) (by kernel_rfl),Lib.run_indexByteString];subst e1;simp
  have l:c9 ag (Extern.BytealgIndexByte.indexByte #[.string ‹ByteArray›,.int .u8 c.toNat]):=by
   refine c9.bind (m:=Extern.Bytes.bytesOf (.string ‹ByteArray›)) (λ_ _=>rfl) λb=>c9.bind (m:=Extern.Bytes.asByte (.int .u8 c.toNat)) (λ_ _=>?_) λd=>?_
   .simp[Extern.Bytes.asByte]
   .skip
    split<;>exact .pure
  have i:=lX Tryz.func237 (by kernel_rfl) (by kernel_rfl) (by kernel_rfl) (e:=Extern.BytealgIndexByte.indexByte) (by kernel_rfl) _ l st.w #[];refine⟨.int .i64 (Lib.indexByte s c),?_,Rd.int ?_,?_⟩
  rotate_left 2
  .intro y o;simp[av,resolve,Deferred.ofValue,invoke,h,j,g,i]at o;subst o;exact .inr ⟨_,rfl⟩
  .simp[av,resolve,Deferred.ofValue,invoke,h,j,g,f]
  .have r:=Lib.indexByte_ge s c;have B:=lM s c;simp only[bA];omega
 .exact bu rfl aw (AK.bx rfl)
end
end Go.AM.R1
