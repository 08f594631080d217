/-
  Part 6 of a machine of values without memory, proved sound over the model, and of contracts of the functions that the laws reach. Nothing is taken for granted: no condition.
-/
import Derived.Test.YtplldmnmndnomaaGreatDoorA5
import Derived.Lib.SliceRun
set_option linter.unusedVariables false
set_option linter.unusedSimpArgs false
set_option linter.defProp false
set_option linter.deprecated false
namespace Go.AM.R1
open Go.Proofs Go.Conc Go.Conc.Lib
open Go.ConcN (WgLive PayAt Has RW AtR0)
open Go.ConcR (KK WgAt stA smA rd wr mk Payload DC0)
def qS:Code->Code|.seq a _=>a|c=>c
def hI:Code->Code|.seq _ a=>a|c=>c
def Mq:Code->Code|.block _ a=>a|c=>c
def Pf:Code->Code|.loop a=>a|c=>c
def JL:Code->Array Oper|.region _ o _=>o|_=>#[]
noncomputable def yo:Code:=(Tryz.f95.body).getD .skip
noncomputable def fe:Code:=Pf (Mq (hI (qS (hI (hI (hI yo))))))
noncomputable def Q5:Code:=qS fe
noncomputable def JM:Code:=Mq (qS (hI (hI fe)))
noncomputable def Q6:Code:=qS JM
noncomputable def uG:Array Oper:=JL (qS (hI JM))
noncomputable def rU:Array Oper:=JL (hI (hI JM))
noncomputable def FY:Code:=hI (hI (hI fe))
noncomputable def j5:Code:=hI (hI (hI (hI yo)))
noncomputable def rV:Array Oper:=JL (qS j5)
noncomputable def mm:Code:=hI j5
theorem wa:fe=.seq Q5 (.seq (.cond (.tmp 21) .skip (.exit 0)) (.seq (.block 1 (.seq Q6 (.seq (.region 6 uG false) (.region 7 rU false)))) FY)):=by kernel_rfl
theorem D8:j5=.seq (.region 9 rV false) mm:=by kernel_rfl
def NQ(l:Fr)(σ1:List ak):Post:=λe φ σ=>e=.normal/\nz φ l/\σ=σ1
structure At (j:List ak)(s0:St)(φ:Fr)(σ:List ak)(a:Act)(s:St):Prop where
 fr:br 45 σ s φ a
 hh:ag σ s
 st:bD j s0 σ s
section
variable {j:List ak}{s0:St}{φ l:Fr}{σ σ1:List ak}{a:Act}{s:St}
theorem At.rely(h:At j s0 φ σ a s){d:St}(c:aX s d):At j s0 φ σ a d:=⟨h.fr.rely c h.hh,h.hh.rely c,h.st.trans c.stepW⟩
structure FZ (b:Nat)(s:St):Prop where
 own:¬s.own b
 β:∀ L∈s.β,b∉L.bs
 M:∀ o,s.M b o=none
 lt:b<s.w.heap.size
theorem FZ.step{b:Nat}(h:FZ b s0)(st:bD j s0 σ s):FZ b s :=
 ⟨by rw[st.own];exact h.own,λL e d=>by
  rcases st.rF L e b d with h1|⟨f,c,h1⟩
  ·have:=h.lt;omega
  ·exact h.β f c h1,λo=>by rw[st.hZ b h.lt h.β];exact h.M o,bk h.lt st.size⟩
theorem At.apart{Wg:Nat}(e:FZ Wg s0):Apart Wg (At j s0 φ σ a) :=
 ⟨λ_ _ h d=>h.rely d,λ_ h=>⟨σ,h.hh⟩,λ_ h=>let c:=e.step h.st;⟨c.own,c.β,c.M⟩⟩
variable {X:Cx Tryz.prog}{S:Goroutine->St->Prop}{b:Frame}{k:List Item}{cs:List Frame}
theorem At.ctl(h:At j s0 φ σ a s){g g':Goroutine}(e:g.status=.running)(d:∀ w,stepG Tryz.prog X.main g w=.go g' w #[])(kk:∀ c,At j s0 φ σ a c->dk X S g' c):dk X S g s :=
 .ctl h.hh e d λc h1=>kk c (h.rely h1)
theorem At.code(h:At j s0 φ σ a s)(m:b.kind≠.early){c:Code}(n:AW X 45 c (NQ l σ1) φ σ)(kk:∀ g f,At j s0 l σ1 g f->dk X S (G (b.aT g k) cs) f):dk X S (G (b.aT a (.code c::k)) cs) s:=by
 refine n s a h.fr h.hh b k cs S m ?_;rintro e φ' σ' s' a' ⟨rfl,hl,rfl⟩ o i d;exact kk a' s' ⟨o.le hl,i,h.st.trans d⟩
end
theorem dk.live{Wg:Nat}{E:St->St->Array Event->Prop}{S:Goroutine->St->Prop}{g:Goroutine}{s:St}(h:dk (Cx.lead Tryz.prog 197 Wg) S g s)(f:Clear (λb=>b=Wg) s)(hl:WgLive 197 Wg s.w) :
  cz (Cx.lead Tryz.prog 197 Wg) E (λg s=>S g s/\WgLive 197 Wg s.w) g s:=by
 induction h with
 |stop h=>exact⟨.leaf,h,hl⟩
 |@step g s t ns ne hr h1 h2 _ q =>
  refine .step hr λi c=>?_
  have n:=c.2 hl;have d:Clear (λb=>b=Wg) i:=⟨λb e=>by rw[c.1.own];exact f.own b e,λb e=>by rw[c.1.β];exact f.β b e,λb e o=>by rw[c.1.M];exact f.M b e o,λb e=>bk (f.lt b e) c.1.size⟩
  obtain⟨⟨σ,σ',hh,m,st⟩,p⟩:=h2 i c;refine⟨_,_,_,h1 i c,.inl ⟨⟨σ,σ',hh,m,st⟩,p⟩,q i c (d.step st) ?_⟩;obtain⟨x,y,r⟩:=n;exact⟨x,y,by show (ns i).w.heap[Wg]?=_;rw[st.en Wg (d.lt Wg rfl) (d.β Wg rfl)];exact r⟩
 |ghost hg _ q=>exact .ghost hg (q (f.ghost hg) (by rw[hg.w];exact hl))
 |forget hx _ _ _=>exact hx.elim
 |rG hj _ _=>exact hj.elim
theorem FZ.clear{Wg:Nat}{s:St}(h:FZ Wg s):Clear (λb=>b=Wg) s:=⟨λb e=>e▸h.own,λb e=>e▸h.β,λb e=>e▸h.M,λb e=>e▸h.lt⟩
section
variable (k:Int)(ps:List aV)(ns:List Int)(C Wg:Nat)
def jP(i:Nat):Fr:=[(3,.e (.one (.c (.rp [.int .i64 k])))),(4,.e (.one (.c (.rp [.sl false 2 ps.length (cP.fn ps)])))),(8,.e (.one (.c (.rp [.val (.slice (some ⟨C,0,none⟩) ns.length ns.length)])))),(9,.e (.one (.v (.pointer (some ⟨Wg,0,none⟩))))),
 (18,cI.sl ns),(19,dI ns.length),(20,dI i)]
variable {k ps ns C Wg}{X:Cx Tryz.prog}{σ:List ak}
theorem Q7{i:Nat}(hi:i<=ns.length):AW X 45 Q5 (NQ ((21,dB (decide (i<ns.length)))::jP k ps ns C Wg i) σ) (jP k ps ns C Wg i) σ:=by
 refine AK.of_code ?_
 by_cases h:i<ns.length
 ·refine aE [(21,true)] 100 rfl ?_ ⟨rfl,cg rfl ?_,rfl⟩
  ·simp[aa];omega
  ·simp[aa.cat,aa,h,aw.same]
 ·refine aE [(21,false)] 100 rfl ?_ ⟨rfl,cg rfl ?_,rfl⟩
  ·simp[aa];omega
  ·simp[aa.cat,aa,h,aw.same]
abbrev d5:List ak:=[.dead,.dead,.dead,.dead,.dead]
theorem Tc{i:Nat}(hi:i<ns.length):AW X 45 Q6 (NQ ((10,.e (.one (.ptr 5 0)))::(11,.e (.one (.ptr 6 0)))::jP k ps ns C Wg i) [.dead,.dead,.dead,.dead,.dead,.cells 3 [.c (.int .i64 i)],.cells 3 [.c (.int .i64 (ns.getD i 0))]]) (jP k ps ns C Wg i) d5:=by
 refine AK.of_code ?_;refine bq rfl ?_ ⟨rfl,cg rfl ?_,?_⟩
 ·simp[aa];omega
 ·simp[aa.cat,aa,aw.same]
 ·simp[cI]
theorem Td{i:Nat}(hi:i<ns.length)(c:ns.length<=4000000):AW X 45 FY (NQ (jP k ps ns C Wg (i+1)) d5) (jP k ps ns C Wg i) d5:=by
 refine AK.of_code ?_;refine bq rfl ?_ ⟨rfl,cg rfl ?_,rfl⟩
 ·simp[aa,aB];omega
 ·simp[aa.cat,aa,aw.same]
variable {j:List ak}{s0:St}{S:Goroutine->St->Prop}{b:Frame}{kk:List Item}{cs:List Frame}
abbrev d7:List ak:=[.dead,.dead,.dead,.dead,.dead,.dead,.dead]
variable (k ps ns C Wg) in
abbrev mN(i:Nat):Fr:=(11,.e (.one (.c (.rp [.int .i64 (ns.getD i 0)]))))::(10,.e (.one (.c (.rp [.int .i64 i]))))::jP k ps ns C Wg i
noncomputable abbrev oi(kk:List Item):List Item:=.code (.region 7 rU false)::.inBlock 1::.code FY::.inLoop fe::.inBlock 0::kk
theorem pM{P:Program}{main:Bool}{b:Frame}{a:Act}{k:List Item}{cs:List Frame}{w:World}{c x y:Code}(h:c=.seq x y):stepG P main (G (b.aT a (.code c::k)) cs) w=.go (G (b.aT a (.code x::.code y::k)) cs) w:=by
 subst h;exact kz
theorem toAdd{i:Nat}(hi:i<ns.length)(n:b.kind≠.early){a:Act}{s:St}(h:At j s0 (jP k ps ns C Wg i) d5 a s)
  (K:∀ o m,At j s0 (mN k ps ns C Wg i) d7 o m->dk X S (G (b.aT o (.inRegion uG [0]::oi kk)) cs) m) :
  dk X S (G (b.aT a (.code fe::.inLoop fe::.inBlock 0::kk)) cs) s:=by
 refine h.ctl rfl (λw=>pM wa) λs h=>?_
 refine h.code n (Q7 (Nat.le_of_lt hi)) λa s h=>?_
 refine h.ctl rfl (λw=>kz) λs h=>?_
 have p:a.eval (.tmp 21)=.bool true:=by
  have:=h.fr.slot 21;simp only[hi,decide_true] at this;exact rd_bool (ei this)
 refine h.ctl rfl (λw=>pA p) λs h=>?_
 refine h.ctl rfl (λw=>zh) λs h=>?_
 refine h.ctl rfl (λw=>kz) λs h=>?_
 refine h.ctl rfl (λw=>m4) λs h=>?_
 refine h.ctl rfl (λw=>kz) λs h=>?_
 have h:At j s0 (jP k ps ns C Wg i) d5 a s:=⟨h.fr.le (cg rfl (by simp[aa.cat,aa,aw.same])),h.hh,h.st⟩
 refine h.code n (Tc hi) λa s h=>?_
 obtain⟨m,w1,r,d,g⟩:=br.freeze 10 5 (E:=3) (cs:=[.c (.int .i64 i)]) (cc:=[.int .i64 i]) rfl rfl rfl h.fr h.hh;refine .ghost (.of h.hh d w1 (g.mH h.hh)) ?_;obtain⟨s2,w2,q,f,e⟩:=br.freeze 11 6 (E:=3) (cs:=[.c (.int .i64 (ns.getD i 0))]) (cc:=[.int .i64 (ns.getD i 0)]) rfl rfl rfl r d;refine .ghost (.of d f w2 (e.mH d)) ?_;have h:At j s0 (mN k ps ns C Wg i) d7 a s2:=⟨q.le (cg rfl (by simp[aa.cat,aa,aw.same])),f,h.st.trans ((g.mH h.hh).trans (e.mH d))⟩
 refine h.ctl rfl (λw=>kz) λs h=>?_
 refine h.ctl rfl (λw=>lU) λs h=>?_
 exact K a s h
def o6:Oper:={ dst:=some 25,op:=.call { callee:=.value (.func 126),args:=#[.tmp 9,.const (.int .i64 1)],argTypes:=#[197,3] },type:=0,pos:= "l12_snap.go:79",after:=#[],guard:=none }
theorem zU:uG=#[o6]:=by kernel_rfl
theorem D9{i:Nat}(m:b.kind≠.early){a:Act}{s:St}(h:At j s0 (mN k ps ns C Wg i) d7 a s)
  (K:∀ c,At j s0 (mN k ps ns C Wg i) d7 a c->dk X S (G (Frame.enter Tryz.prog 126 #[.pointer (some ⟨Wg,0,none⟩),.int .i64 1] .normal) (b.aT a (.inRegion uG [0]::oi kk)::cs)) c) :
  dk X S (G (b.aT a (.inRegion uG [0]::oi kk)) cs) s:=by
 refine .next rfl λc d=>?_
 have e:=h.rely (X.fC d);have p:a.eval (.tmp 9)=.pointer (some ⟨Wg,0,none⟩):=Rd.fD (e.fr.slot 9);have g:(execOp a.eval o6).run Tryz.prog c.w=.ok (.enter 126 #[.pointer (some ⟨Wg,0,none⟩),.int .i64 1]) c.w:=by
  have:=run_call_body (P:=Tryz.prog) (a:=a) (w:=c.w) (o:=o6) (f:=126) (fn:=Tryz.f126) rfl Tryz.func126 (by kernel_rfl) (by kernel_rfl)
  rw[this,<-p];simp only[List.map_toArray,iF,ji];rfl
 have n:(execOp a.eval o6).events Tryz.prog c.w #[]=#[]:=events_call_body (P:=Tryz.prog) (a:=a) (w:=c.w) (o:=o6) (f:=126) (fn:=Tryz.f126) rfl Tryz.func126 (by kernel_rfl) (by kernel_rfl) #[]
 have q:listed Tryz.prog b.fn a o6 c.w=#[]:=by unfold listed;rw[n];exact seen_none _ _
 refine⟨_,c,#[],?_,.quiet e.hh,K c e⟩;have:=pY (P:=Tryz.prog) (main:=X.main) (b:=b) (a:=a) (k:=oi kk) (cs:=cs) (w:=c.w) (ops:=uG) (i:=0) (rest:=[]) (o:=o6) (by rw[zU];rfl) rfl m g
 rw[q] at this;exact this
def Mr:Oper:={ dst:=some 26,op:=.makeFunc (.func 127) #[] #[.tmp 9,.tmp 3,.tmp 4,.tmp 11,.tmp 8,.tmp 10],type:=1,pos:= "l12_snap.go:80",after:=#[],guard:=none }
def G2:Oper:={ dst:=none,op:=.go { callee:=.value (.tmp 26),args:=#[],argTypes:=#[] },type:=0,pos:= "l12_snap.go:80",after:=#[⟨0,.data⟩],guard:=none }
theorem zV:rU=[Mr,G2].toArray:=by kernel_rfl
variable (k ps ns C Wg) in
abbrev yp(i:Nat):AM.C:=.fn (.func 127) [] [.val (.pointer (some ⟨Wg,0,none⟩)),.rp [.int .i64 k],.rp [.sl false 2 ps.length (cP.fn ps)],.rp [.int .i64 (ns.getD i 0)],.rp [.val (.slice (some ⟨C,0,none⟩) ns.length ns.length)],.rp [.int .i64 i]]
theorem Ms{i:Nat}:OA X 45 [Mr,G2] Mr ((25,.any)::mN k ps ns C Wg i) d7 (.e (.one (.c (yp k ps ns C Wg i)))) d7:=by
 have h:zq tt [] [] [Mr,G2] ((25,.any)::mN k ps ns C Wg i) d7 Mr=some (.e (.one (.c (yp k ps ns C Wg i))),none,[]):=rfl;exact kG tok aM.nil h ab
theorem Pg{i:Nat}(p:b.kind≠.early){a:Act}{s:St}(h:At j s0 (mN k ps ns C Wg i) d7 a s)
  (K:∀ v n c,At j s0 (mN k ps ns C Wg i) d7 n c->Rd c.M v (yp k ps ns C Wg i)->n.tmps.getD 26 undef=v->dk X S (G (b.aT n (.inRegion rU [1]::.inBlock 1::.code FY::.inLoop fe::.inBlock 0::kk)) cs) c) :
  dk X S (G (b.aT (a.put (some 25) (.tuple #[])) (.inRegion uG []::oi kk)) cs) s:=by
 have o:At j s0 ((25,.any)::mN k ps ns C Wg i) d7 (a.put (some 25) (.tuple #[])) s:=⟨h.fr.put (by decide) ab,h.hh,h.st⟩
 refine o.ctl rfl (λw=>et) λs h=>?_
 refine h.ctl rfl (λw=>lU) λs h=>?_
 rw[zV];refine Ms s _ h.fr h.hh b _ cs S 0 [1] p rfl λv c f g e=>?_
 have f:Rd c.M v (yp k ps ns C Wg i):=ei f;have q:=((h.fr.mono e h.hh.len).put (d:=26) (v:=v) (x:=.any) (by decide) ab)
 have m:26<(a.put (some 25) (.tuple #[])).tmps.size:=by rw[h.fr.size];decide
 refine K v _ c ⟨q.le (cg rfl ?_),g,h.st.trans e⟩ f (Dc m);simp[aa.cat,aa,aw.same]
theorem JN{i:Nat}(hi:i<ns.length)(r:ns.length<=4000000)(c:b.kind≠.early)(e:j.length<=5){a:Act}{s:St}(h:At j s0 (mN k ps ns C Wg i) d7 a s)
  (K:∀ n m,At j s0 (jP k ps ns C Wg (i+1)) d5 n m->dk X S (G (b.aT n (.code fe::.inLoop fe::.inBlock 0::kk)) cs) m) :
  dk X S (G (b.aT a (.inRegion rU []::.inBlock 1::.code FY::.inLoop fe::.inBlock 0::kk)) cs) s:=by
 have f:br 45 (d5++[.dead,.dead]) s (jP k ps ns C Wg i) a:=h.fr.le (cg rfl (by simp[aa.cat,aa,aw.same]))
 have d:ag (d5++[.dead,.dead]) s:=h.hh;have g:bD j s0 (d5++[.dead,.dead]) s:=h.st;have p:eX s (s.cut d5.length):=⟨rfl,λ_ _ _ h=>h,λ_ _ _=>rfl,d.mem,λb c=>c.imp id λ⟨L,q,c⟩=>⟨L,jJ q,c⟩⟩
 refine .ghost p ?_;have h:At j s0 (jP k ps ns C Wg i) d5 a (s.cut d5.length):=⟨⟨f.size,f.defers.imp λ_ o=>o.drop rfl,λt=>(f.slot t).drop (l4 rfl)⟩,d.drop rfl,g.drop e⟩
 refine h.ctl rfl (λw=>et) λs h=>?_
 refine h.ctl rfl (λw=>mE) λs h=>?_
 refine h.code c (Td hi r) λa s h=>?_
 exact h.ctl rfl (λw=>sd) λs h=>K a s h
end
theorem qT{b:Frame}(d:b.roundOf=none)(a:Act)(t:List Item):b.aT a t=b.at ⟨a.tmps,a.defers++b.defers⟩ t:=by
 cases b;simp only at d;subst d;rfl
section
variable {k:Int}{ps:List aV}{ns:List Int}{Y:Lay}{val:Nat->Nat->Value}{c:List ak}{s0:St}{b:Frame}{kk:List Item}{cs:List Frame}
theorem Io{a:Act}{w:World}{f d c2 c3 c4 c5:Value}(g:a.tmps.getD 26 undef=.func (.func 127) #[] #[f,d,c2,c3,c4,c5]):(execOp a.eval G2).run Tryz.prog w=.ok (.spawn (qR #[f,d,c2,c3,c4,c5])) w/\(execOp a.eval G2).events Tryz.prog w #[]=#[]:=by
 have e:a.eval (.tmp 26)=.func (.func 127) #[] #[f,d,c2,c3,c4,c5]:=g
 constructor
 ·simp[execOp,G2,resolve,Deferred.ofValue,e,qR]
 ·simp[execOp,G2,resolve,Deferred.ofValue,e]
theorem Mt(p:bO (Cx.work Tryz.prog) 129 (iX k))(n:Y.kc=2)(g:b.roundOf=none)(D:b.kind≠.early){i:Nat}(hi:i<ns.length)
  (t:val i 0=.string ⟨((b6 k ps (ns.getD i 0)).getD []).toArray⟩) (m:val i 1=.bool (b6 k ps (ns.getD i 0)).isSome) {v:Value} {a:Act} {s:St} (h:At c s0 (mN k ps ns Y.C Y.Wg i) d7 a s) (A:WgLive 197 Y.Wg s.w)
  (E:Rd s.M v (yp k ps ns Y.C Y.Wg i)) (x:a.tmps.getD 26 undef=v) {Next:Goroutine->St->Prop}
  (K:∀ d,At c s0 (mN k ps ns Y.C Y.Wg i) d7 a d->WgLive 197 Y.Wg d.w->Next (G (b.aT a (.inRegion rU []::.inBlock 1::.code FY::.inLoop fe::.inBlock 0::kk)) cs) d) :
  AtGo Tryz.prog 197 Y (2*ns.length) val i Next (G (b.aT a (.inRegion rU [1]::.inBlock 1::.code FY::.inLoop fe::.inBlock 0::kk)) cs) s:=by
 refine⟨rfl,λd e=>?_⟩
 have y:=h.rely e.1;have l:Rd d.M v (yp k ps ns Y.C Y.Wg i):=by rw[e.1.M];exact E
 cases l with
 |fn fs cc LN Nu f1 f2 g1 g2 r1 r2 =>
 have q:fs=[]:=fO LN;subst q;have u:cc=[f2 0,f2 1,f2 2,f2 3,f2 4,f2 5]:=by
  apply k8
  intro j;have Nu:cc.length=6:=Nu
  match j with
  |0=>exact g2 0 (by omega)
  |1=>exact g2 1 (by omega)
  |2=>exact g2 2 (by omega)
  |3=>exact g2 3 (by omega)
  |4=>exact g2 4 (by omega)
  |5=>exact g2 5 (by omega)
  |j+6=>rw[jI (by omega),jI (by simp)]
 subst u;have B:f2 0=.pointer (some ⟨Y.Wg,0,none⟩):=Rd.fD (r2 0 _ rfl);obtain⟨z,F⟩:=Io (a:=a) (w:=d.w) x;have f:Go.Conc.listed Tryz.prog b.fn ⟨a.tmps,a.defers++b.defers⟩ G2 d.w=#[]:=by
  unfold Go.Conc.listed;have:=(Io (a:=⟨a.tmps,a.defers++b.defers⟩) (w:=d.w) x).2;rw[this];exact seen_none _ _
 have r:=stepG_spawn (P:=Tryz.prog) (main:=true) (b:=b) (a:=⟨a.tmps,a.defers++b.defers⟩) (k:=.inBlock 1::.code FY::.inLoop fe::.inBlock 0::kk) (cs:=cs) (w:=d.w) (ops:=rU) (i:=1) (rest:=[]) (o:=G2) (by rw[zV];rfl) rfl D z rfl
 refine⟨G (b.aT a (.inRegion rU []::.inBlock 1::.code FY::.inLoop fe::.inBlock 0::kk)) cs,born Tryz.prog (qR #[f2 0,f2 1,f2 2,f2 3,f2 4,f2 5]),?_,rfl,?_,K d y (e.2 A)⟩
 ·rw[qT g,qT g,r,f];rfl
 ·rw[B];exact worker p hi n t m (s:=d.child) ⟨y.hh.mem,rfl,by simp,by simp[St.child],by simp[St.child],by simp[St.child]⟩ rfl (r2 1 _ rfl) (r2 2 _ rfl) (r2 3 _ rfl) (r2 4 _ rfl) (r2 5 _ rfl)
def o9:Oper:={ dst:=some 28,op:=.call { callee:=.value (.func 130),args:=#[.tmp 9],argTypes:=#[197] },type:=0,pos:= "l12_snap.go:85",after:=#[],guard:=none }
theorem zW:rV=#[o9]:=by kernel_rfl
variable {X:Cx Tryz.prog}{S:Goroutine->St->Prop}
theorem JO(j:b.kind≠.early){C Wg:Nat}{a:Act}{s:St}(h:At c s0 (jP k ps ns C Wg ns.length) d5 a s)
  (K:∀ l d,At c s0 (jP k ps ns C Wg ns.length) d5 l d->dk X S (G (Frame.enter Tryz.prog 130 #[.pointer (some ⟨Wg,0,none⟩)] .normal) (b.aT l (.inRegion rV [0]::.code mm::kk)::cs)) d) :
  dk X S (G (b.aT a (.code fe::.inLoop fe::.inBlock 0::.code j5::kk)) cs) s:=by
 refine h.ctl rfl (λw=>pM wa) λs h=>?_
 refine h.code j (Q7 (aq _)) λa s h=>?_
 refine h.ctl rfl (λw=>kz) λs h=>?_
 have m:a.eval (.tmp 21)=.bool false:=by
  have:=h.fr.slot 21;simp only[Nat.lt_irrefl,decide_false] at this;exact rd_bool (ei this)
 refine h.ctl rfl (λw=>pA m) λs h=>?_
 refine h.ctl rfl (λw=>tN (k':=.code j5::kk) rfl) λs h=>?_
 refine h.ctl rfl (λw=>pM D8) λs h=>?_
 refine h.ctl rfl (λw=>lU) λs h=>?_
 have h:At c s0 (jP k ps ns C Wg ns.length) d5 a s:=⟨h.fr.le (cg rfl (by simp[aa.cat,aa,aw.same])),h.hh,h.st⟩
 refine .next rfl λd e=>?_
 have g:=h.rely (X.fC e);have q:a.eval (.tmp 9)=.pointer (some ⟨Wg,0,none⟩):=Rd.fD (g.fr.slot 9);have n:(execOp a.eval o9).run Tryz.prog d.w=.ok (.enter 130 #[.pointer (some ⟨Wg,0,none⟩)]) d.w:=by
  have:=run_call_body (P:=Tryz.prog) (a:=a) (w:=d.w) (o:=o9) (f:=130) (fn:=Tryz.f130) rfl Tryz.func130 (by kernel_rfl) (by kernel_rfl)
  rw[this,<-q];simp only[List.map_toArray,iF,ji]
 have p:(execOp a.eval o9).events Tryz.prog d.w #[]=#[]:=events_call_body (P:=Tryz.prog) (a:=a) (w:=d.w) (o:=o9) (f:=130) (fn:=Tryz.f130) rfl Tryz.func130 (by kernel_rfl) (by kernel_rfl) #[]
 have r:Go.Conc.listed Tryz.prog b.fn a o9 d.w=#[]:=by unfold Go.Conc.listed;rw[p];exact seen_none _ _
 refine⟨_,d,#[],?_,.quiet g.hh,K a d g⟩;have:=pY (P:=Tryz.prog) (main:=X.main) (b:=b) (a:=a) (k:=.code mm::kk) (cs:=cs) (w:=d.w) (ops:=rV) (i:=0) (rest:=[]) (o:=o9) (by rw[zW];rfl) rfl j n
 rw[r] at this;exact this
section
variable (k ps ns Y c s0 b kk cs)
def Ny(g:Goroutine)(s:St):Prop:=∃ a,zN Tryz.prog Il Y (At c s0 (jP k ps ns Y.C Y.Wg ns.length) d5 a) (b.aT a (.inRegion rV [0]::.code mm::kk)) cs g s
def TF(g:Goroutine)(s:St):Prop:=∃ a,TW Tryz.prog Il Y (At c s0 (jP k ps ns Y.C Y.Wg ns.length) d5 a) (G (b.aT (a.put (some 28) (.tuple #[])) (.inRegion rV []::.code mm::kk)) cs) g s
end
theorem Te(f:FZ Y.Wg s0)(d:b.roundOf=none){g:Goroutine}{s:St}(h:Ny k ps ns Y c s0 b kk cs g s) :
  cz (Cx.lead Tryz.prog 197 Y.Wg) (Es Y.Wg) (AtW1 Tryz.prog 197 Y (TF k ps ns Y c s0 b kk cs) (Ny k ps ns Y c s0 b kk cs)) g s:=by
 obtain⟨a,h⟩:=h;have j:(rV[0]?).bind (·.dst)=some 28:=by rw[zW];rfl
 rw[qT d] at h;refine LY (P:=Tryz.prog) (L:=Il) (b₀:=b) (a₀:=⟨a.tmps,a.defers++b.defers⟩) (ops₀:=rV) (i₀:=0) (rest₀:=[]) (k₀:=.code mm::kk) (cs:=cs) vZ (At.apart f) (λg s e=>⟨a,?_⟩) (λg s i=>⟨a,?_⟩) h
 ·rw[qT d];rw[j] at e;exact e
 ·rw[qT d];exact i
theorem Be{P:Program}{ty:TypeId}{N n:Nat}{a:Goroutine->St->Prop}:∀ (r:Nat){g:Goroutine}{s:St},cz (Cx.lead P ty Y.Wg) (Es Y.Wg) (λg s=>Spawns P ty Y N val n a r g s) g s->Spawns P ty Y N val n a r g s
 |0,_,_,h=>cz.bind h λ_ _ x=>x
 |_+1,_,_,h=>cz.bind h λ_ _ x=>x
theorem G3(u:bO (Cx.work Tryz.prog) 129 (iX k))(t:Y.kc=2)(m:FZ Y.Wg s0)(l:b.roundOf=none)(n:b.kind≠.early)(o:c.length<=5)(J:ns.length<=4000000)
  (B:∀ i,i<ns.length->val i 0=.string ⟨((b6 k ps (ns.getD i 0)).getD []).toArray⟩) (q:∀ i,i<ns.length->val i 1=.bool (b6 k ps (ns.getD i 0)).isSome) :
  ∀ (r:Nat),r<=ns.length->∀ (a:Act) (s:St),At c s0 (jP k ps ns Y.C Y.Wg (ns.length-r)) d5 a s->WgLive 197 Y.Wg s.w ->
   Spawns Tryz.prog 197 Y (2*ns.length) val ns.length (Ny k ps ns Y c s0 b kk cs) r (G (b.aT a (.code fe::.inLoop fe::.inBlock 0::.code j5::kk)) cs) s:=by
 intro r
 induction r with
 |zero =>
  intro _ a s h d;rw[ky] at h;have:=dk.live (E:=Es Y.Wg) (JO (X:=Cx.lead Tryz.prog 197 Y.Wg) (kk:=kk) (cs:=cs) (S:=λg s=>∃ a,g=G (Frame.enter Tryz.prog 130 #[.pointer (some ⟨Y.Wg,0,none⟩)] .normal) (b.aT a (.inRegion rV [0]::.code mm::kk)::cs)/\At c s0 (jP k ps ns Y.C Y.Wg ns.length) d5 a s) n h λf p e=>.stop ⟨f,rfl,e⟩) (m.step h.st).clear d
  refine cz.bind this ?_;rintro g s ⟨⟨a,rfl,h⟩,d⟩;exact L5 (P:=Tryz.prog) (L:=Il) (Y:=Y) vZ (At.apart m) (λg s H=>⟨a,H⟩) ⟨h,d⟩
 |succ r D =>
  intro K a s h d;have hi:ns.length-(r+1)<ns.length:=by omega
  generalize y:ns.length-(r+1)=i at h hi;have:=dk.live (E:=Es Y.Wg) (toAdd (X:=Cx.lead Tryz.prog 197 Y.Wg) (kk:=.code j5::kk) (cs:=cs) (S:=λg s=>∃ a,g=G (Frame.enter Tryz.prog 126 #[.pointer (some ⟨Y.Wg,0,none⟩),.int .i64 1] .normal) (b.aT a (.inRegion uG [0]::oi (.code j5::kk))::cs)/\At c s0 (mN k ps ns Y.C Y.Wg i) d7 a s) hi n h λf p e=>D9 n e λs2 h2=>.stop ⟨f,rfl,h2⟩) (m.step h.st).clear d
  refine cz.bind this ?_;rintro g s ⟨⟨a,rfl,h⟩,d⟩;have I:(uG[0]?).bind (·.dst)=some 25:=by rw[zU];rfl
  rw[qT l];refine O5 (P:=Tryz.prog) (L:=Il) (Y:=Y) (F:=At c s0 (mN k ps ns Y.C Y.Wg i) d7 a) vZ (At.apart m) (λs x=>?_) ⟨h,d⟩
  rw[I];have:=dk.live (E:=Es Y.Wg) (Pg (X:=Cx.lead Tryz.prog 197 Y.Wg) (kk:=.code j5::kk) (cs:=cs) (S:=λg s=>∃ v a,g=G (b.aT a (.inRegion rU [1]::.inBlock 1::.code FY::.inLoop fe::.inBlock 0::.code j5::kk)) cs/\At c s0 (mN k ps ns Y.C Y.Wg i) d7 a s/\Rd s.M v (yp k ps ns Y.C Y.Wg i)/\a.tmps.getD 26 undef=v) n x.1 λv f p e A j=>.stop ⟨v,f,rfl,e,A,j⟩) (m.step x.1.st).clear x.2
  rw[qT l] at this;refine cz.bind this ?_;rintro g s ⟨⟨v,a,rfl,h,A,j⟩,d⟩;rw[y];refine⟨.leaf,Mt u t l n hi (B i hi) (q i hi) h d A j λp e z=>?_⟩
  refine Be r ?_;have:=dk.live (E:=Es Y.Wg) (JN (X:=Cx.lead Tryz.prog 197 Y.Wg) (kk:=.code j5::kk) (cs:=cs) (S:=λg s=>∃ a,g=G (b.aT a (.code fe::.inLoop fe::.inBlock 0::.code j5::kk)) cs/\At c s0 (jP k ps ns Y.C Y.Wg (i+1)) d5 a s) hi J n o e λf p e=>.stop ⟨f,rfl,e⟩) (m.step e.st).clear z
  refine cz.bind this ?_;rintro g s ⟨⟨a,rfl,h⟩,d⟩;refine⟨.leaf,D (by omega) a s ?_ d⟩
  rw[show ns.length-r=i+1 by omega]
  exact h
end
end Go.AM.R1
namespace Go.AM
open Go.Conc
theorem ag.Mv{σ:List ak}{s:St}(hh:ag σ s){l:Nat}{B:ak}{L:Loc}(m:σ[l]?=some B)(n:s.β[l]?=some L)(p:(∃ E cs,B=.cells E cs)∨∃ H,B=.eB H) :
  ag (σ.set l .dead) { s with β:=s.β.set l ⟨L.v,[]⟩ }/\Step σ s (σ.set l .dead) { s with β:=s.β.set l ⟨L.v,[]⟩ }:=by
 have j:l<σ.length:=(aF.1 m).1;have g:l<s.β.length:=(aF.1 n).1;have a:∀ l',(s.β.set l ⟨L.v,[]⟩)[l']?=if l=l' then some ⟨L.v,[]⟩ else s.β[l']?:=by
  intro l'
  by_cases e:l=l'
  ·subst e;rw[ar rfl,bo g]
  ·rw[an e,b7 e]
 have c:∀ L'∈s.β.set l ⟨L.v,[]⟩,∀ b∈L'.bs,L'∈s.β:=by
  intro L' eR b d;obtain⟨l',f⟩:=tB.1 eR;rw[a] at f;split at f
  ·cases f;simp at d
  ·exact aH f
 have st:Step σ s (σ.set l .dead) { s with β:=s.β.set l ⟨L.v,[]⟩ }:=by
  refine⟨aq _,λ_ _ _=>rfl,λ_ _ _ h=>h,λ_ _ _ _=>rfl,λL' eR b d=>.inr ⟨L',c L' eR b d,d⟩,?_,rfl,rfl,rfl,rfl⟩
  intro l' B' L' ig eR
  by_cases e:l=l'
  ·subst e;rw[m] at ig;cases ig;rw[n] at eR;cases eR;refine⟨.dead,⟨L.v,[]⟩,by rw[bo j],by rw[a,ar rfl],?_⟩
   rcases p with⟨E,cs,rfl⟩|⟨H,rfl⟩ <;> rfl
  ·exact⟨B',L',by rw[b7 e];exact ig,by rw[a,an e];exact eR,.refl _ _⟩
 refine⟨⟨hh.mem,by simp[hh.len],?_,?_,λL' eR b d=>hh.lt L' (c L' eR b d) b d,λb d=>⟨(hh.own b d).1,λL' eR Cw=>(hh.own b d).2 L' (c L' eR b Cw) Cw⟩⟩,st⟩
 ·intro l' B' L' ig eR
  by_cases e:l=l'
  ·subst e;rw[bo j] at ig;cases ig;trivial
  ·rw[b7 e] at ig;rw[a,an e] at eR;exact(hh.box l' B' L' ig eR).carry st.ext hh.len λb d=>⟨rfl,λo=>rfl⟩
 ·intro r q L1 L2 h1 h2 b i k;rw[a] at h1 h2;split at h1
  ·cases h1;simp at i
  ·split at h2
   ·cases h2;simp at k
   ·exact hh.ez r q L1 L2 h1 h2 b i k
theorem cd.closed{σ σ':List ak}{s s':St}(e:s'.M=s.M){v:Value}{d:D}(h:cd σ s v d)(f:vd 0 d=true):cd σ' s' v d:=by
 have h1:=cd.drop (σ1:=[]) (rest:=σ) h f;refine cd.mono (σ:=[]) (s:=s.cut 0) ⟨λb o v a=>by rw[e];exact a,λl B L c _=>by simp at c⟩ (by simp[St.cut]) h1
end Go.AM
namespace Go.AM.R1
open Go.Proofs Go.Conc Go.Conc.Lib
open Go.ConcN (WgLive PayAt Has RW AtR0)
open Go.ConcR (KK WgAt stA smA rd wr mk Payload DC0)
noncomputable def Mw:Code:=qS (hI (hI (hI yo)))
noncomputable def Q8:Code:=qS Mw
noncomputable def Ph:Code:=hI (hI (hI yo))
theorem JP:Ph=.seq (.seq Q8 (.block 0 (.loop fe))) j5:=by kernel_rfl
section
variable {p:List ak}{s0:St}{φ:Fr}{σ:List ak}{a:Act}{s:St}{S:Goroutine->St->Prop}
theorem At.goes{Wg:Nat}{j:Goroutine}:∀ (m:Nat)(g:Goroutine)(s:St),At p s0 φ σ a s->WgLive 197 Wg s.w->Goes Tryz.prog true (dg 197 Wg) DC0 (λg _=>g=j) m g s.w ->
  (∀ b,At p s0 φ σ a b->dk (Cx.beside Tryz.prog) S j b)->dk (Cx.beside Tryz.prog) S g s
 |0,g,s,h,_,e,K=>by
  obtain rfl:g=j:=e s.w (.refl _);exact K s h
 |m+1,g,s,h,hl,e,K=>by
  rcases e with e|⟨l,e⟩
  ·obtain rfl:g=j:=e s.w (.refl _);exact K s h
  ·refine .next l λb c=>?_
   have h1:=h.rely c.1;obtain⟨d,o⟩:=c.2;have i:WgLive 197 Wg b.w:=by rw[o];exact hl
   have h2:=e b.w (λ_=>i)
   cases f:stepG Tryz.prog true g b.w with
   |go g' w' es =>
    rw[f,goes_go] at h2;obtain⟨⟨rfl,rfl⟩,n⟩:=h2;exact⟨g',b,#[],f,.quiet h1.hh,At.goes m g' b h1 i n K⟩
   |_=>rw[f] at h2;exact h2.elim
theorem kD{σ:List ak}{s:St}(c:∀ B∈σ,B=.dead){ds:List Deferred}{b:List Nat}(h:kW σ s ds b):ds=[]:=by
 cases ds with
 |nil=>rfl
 |cons d ds =>
  cases b with
  |nil=>exact h.elim
  |cons l b =>
   have:=c _ (aH h.1.1);cases this
end
section
variable {k:Int}{ps:List aV}{ns:List Int}{C:Nat}{xs:List Value}
variable (k ps ns C) in
def G4:Fr:=[(2,cI.sl ns),(3,.e (.one (.ptr 0 0))),(4,.e (.one (.ptr 1 0))),(8,.e (.one (.ptr 3 0))),(9,.e (.one (.ptr 4 0)))]
variable (k ps ns C xs) in
def uH:List ak:=[.cells 3 [.c (.int .i64 k)],.cells 37 [.c (.sl false 2 ps.length (cP.fn ps))],.eB (xz 200 2 (.row C ns.length) ns.length xs),.cells 189 [.c (.val (.slice (some ⟨C,0,none⟩) ns.length ns.length))],.cells 197 [.c (.int .u64 0),.c (.int .u32 0)]]
variable (k ps ns) in
def Ga(x i:Nat):Value:=if i=0 then .string ⟨((b6 k ps (ns.getD x 0)).getD []).toArray⟩ else .bool (b6 k ps (ns.getD x 0)).isSome
variable (k ps ns) in
def iZ:List Value:=ns.flatMap λn=>[.string ⟨((b6 k ps n).getD []).toArray⟩,.bool (b6 k ps n).isSome]
variable (k ps ns C) in
def yq:List ak:=[.dead,.dead,.eB (xz 200 2 (.row C ns.length) ns.length (iZ k ps ns)),.dead,.dead]
theorem Tf{X:Cx Tryz.prog}:AW X 45 Q8 (NQ ((18,cI.sl ns)::(19,dI ns.length)::(20,dI 0)::G4 ns) (uH k ps ns C xs)) (G4 ns) (uH k ps ns C xs):=by
 refine AK.of_code ?_;refine bq rfl ab ⟨rfl,cg rfl ?_,rfl⟩;simp[aa.cat,aa,aw.same]
theorem qU:(iZ k ps ns).length=ns.length*2:=by
 unfold iZ
 induction ns with
 |nil=>rfl
 |cons n r b=>simp only[List.flatMap_cons,bd,b,ft,kn];omega
theorem uI:∀ {ns:List Int}{x i:Nat},x<ns.length->i<2->(iZ k ps ns)[2*x+i]?=some (Ga k ps ns x i)
 |[],x,i,h,_=>by simp at h
 |n::r,0,i,_,hi=>by
  match i,hi with
  |0,_=>rfl
  |1,_=>rfl
 |n::r,x+1,i,h,hi=>by
  have:=uI (ns:=r) (x:=x) (i:=i) (by simpa using h) hi
  unfold iZ at this ⊢;rw[List.flatMap_cons,cv (by simp;omega)]
  rw[show 2*(x+1)+i - [Value.string ⟨((b6 k ps n).getD []).toArray⟩,Value.bool (b6 k ps n).isSome].length=2*x+i by simp;omega]
  rw[this];simp[Ga]
theorem _root_.Go.AM.br.seen{N b:Nat}{d:D}{σ:List ak}{s:St}{φ:Fr}{a:Act}(f:br N σ s φ a)(h:cd σ s (a.tmps.getD b undef) d):br N σ s ((b,d)::φ) a:=by
 refine⟨f.size,f.defers,λt=>?_⟩
 simp only[look];cases c:Nat.beq b t with
 |false=>exact f.slot t
 |true=>rw[<-bn c];exact h
theorem getSet{α:Type}{l:List α}{i:Nat}{x y:α}(hi:i<l.length)(j:Nat)(h:(l.set i x)[j]?=some y):(j=i/\y=x)∨(j≠i/\l[j]?=some y):=by
 by_cases e:i=j
 ·subst e;rw[bo hi] at h;cases h;exact .inl ⟨rfl,rfl⟩
 ·rw[b7 e] at h;exact .inr ⟨λb=>e b.symm,h⟩
abbrev Ea(n C:Nat):Fr:=[(8,.e (.one (.c (.rp [.val (.slice (some ⟨C,0,none⟩) n n)]))))]
variable (k ps ns C) in
abbrev Mx:Fr:=(8,.e (.one (.c (.rp [.val (.slice (some ⟨C,0,none⟩) ns.length ns.length)]))))::(4,.e (.one (.c (.rp [.sl false 2 ps.length (cP.fn ps)]))))::(3,.e (.one (.c (.rp [.int .i64 k]))))::(18,cI.sl ns)::(19,dI ns.length)::(20,dI 0)::[(9,.e (.one (.ptr 4 0)))]
set_option maxHeartbeats 2000000 in
theorem My(Tg:bO (Cx.work Tryz.prog) 129 (iX k)){Q:Post}(hn:ns.length<=4000000)(Mz:mg (Cx.beside Tryz.prog) 45 mm Q (Ea ns.length C) (yq k ps ns C)):mg (Cx.beside Tryz.prog) 45 Ph Q (G4 ns) (uH k ps ns C xs):=by
 intro so ao hf Th b kk cs S hb LO hQ;have h:At (uH k ps ns C xs) so (G4 ns) (uH k ps ns C xs) ao so:=⟨hf,Th,.refl _ _⟩;refine h.ctl rfl (λw=>pM JP) λs h=>?_
 refine h.ctl rfl (λw=>kz) λs h=>?_
 refine h.code hb Tf λa s h=>?_
 obtain⟨s1,w1,f1,R,IQ⟩:=br.freeze 3 0 (E:=3) (cs:=[.c (.int .i64 k)]) (cc:=[.int .i64 k]) rfl rfl rfl h.fr h.hh;refine .ghost (.of h.hh R w1 (IQ.mH h.hh)) ?_;obtain⟨s2,w2,f2,V,na⟩:=br.freeze 4 1 (E:=37) (cs:=[.c (.sl false 2 ps.length (cP.fn ps))]) (cc:=[.sl false 2 ps.length (cP.fn ps)]) rfl rfl rfl f1 R;refine .ghost (.of R V w2 (na.mH R)) ?_;obtain⟨s3,w3,f3,Pj,Jd⟩:=br.freeze 8 3 (E:=189) (cs:=[.c (.val (.slice (some ⟨C,0,none⟩) ns.length ns.length))]) (cc:=[.val (.slice (some ⟨C,0,none⟩) ns.length ns.length)]) rfl rfl rfl f2 V;refine .ghost (.of V Pj w3 (Jd.mH V)) ?_;have h:At (uH k ps ns C xs) so (Mx k ps ns C)
   [.dead,.dead,.eB (xz 200 2 (.row C ns.length) ns.length xs),.dead,.cells 197 [.c (.int .u64 0),.c (.int .u32 0)]] a s3 :=
  ⟨f3.le (cg rfl (by simp[aa.cat,aa,aw.same])),Pj,h.st.trans ((IQ.mH h.hh).trans ((na.mH R).trans (Jd.mH V)))⟩
 clear IQ na Jd f1 f2 f3 R V Pj;refine h.ctl rfl (λw=>m4) λs h=>?_
 refine h.ctl rfl (λw=>zi) λs h=>?_
 have hlen:=h.hh.len;simp only[ft,kn] at hlen;obtain⟨O,A⟩:∃ L,s.β[2]?=some L:=⟨_,aj (by omega)⟩
 obtain⟨L4,H⟩:∃ L,s.β[4]?=some L:=⟨_,aj (by omega)⟩
 obtain⟨ch,hH,MA,Qt,Ti⟩:=h.hh.box 2 _ O rfl A;obtain⟨zs,Tj,MB,Tk⟩:=xz.lookup hH;obtain⟨Q9,_,UN,_,_,_⟩:=hH;have K:C∈O.bs:=(Qt C).2 (by rw[MB];rfl)
 have MC:=MA C _ MB;obtain⟨Wg,vs,z,X,Tl,Tm⟩:=h.hh.box 4 _ L4 rfl H;have Pk:vs=[.int .u64 0,.int .u32 0]:=by
  match vs,Tl with
  |[],r=>exact r.elim
  |[_],r=>exact r.2.elim
  |_::_::_::_,r=>exact r.2.2.elim
  |[u0,u1],r =>
   have r0:Rd s.M u0 (.int .u64 0):=r.1;have r1:Rd s.M u1 (.int .u32 0):=r.2.1;cases r0;cases r1;rfl
 subst Pk;have sj:C≠Wg:=by
  rintro rfl;have:=h.hh.ez 2 4 O L4 A H C K (by rw[z];simp)
  omega
 have Tn:a.tmps.getD 9 undef=.pointer (some ⟨Wg,0,none⟩):=by
  obtain⟨_,L,bb,q1,q2,q3⟩:=h.fr.slot 9;rw[H] at q1;cases q1;rw[z] at q2;cases q2;exact q3
 obtain⟨g1,t1⟩:=h.hh.Mv (l:=2) rfl A (.inr ⟨_,rfl⟩);have Pl:(s.β.set 2 ⟨O.v,[]⟩)[4]?=some L4:=by rw[b7 (by decide)];exact H
 obtain⟨g2,t2⟩:=g1.Mv (l:=4) (B:=.cells 197 [.c (.int .u64 0),.c (.int .u32 0)]) rfl Pl (.inl ⟨_,_,rfl⟩);generalize Nz:({ s with β:=(s.β.set 2 ⟨O.v,[]⟩).set 4 ⟨L4.v,[]⟩ }:St)=sB at g2 t2;have eβ:sB.β=(s.β.set 2 ⟨O.v,[]⟩).set 4 ⟨L4.v,[]⟩:=by rw[<-Nz]
 have eM:sB.M=s.M:=by rw[<-Nz]
 have ew:sB.w=s.w:=by rw[<-Nz]
 have eo:sB.own=s.own:=by rw[<-Nz]
 have Rb:ag d5 sB:=g2;have F0:=(t1.mH h.hh).trans (t2.mH g1);have Pm:sB.β[2]?=some ⟨O.v,[]⟩:=by rw[eβ,b7 (by decide),bo (by omega)]
 have D:∀ L∈sB.β,∀ x∈L.bs,∃ l,l≠2/\l≠4/\s.β[l]?=some L:=by
  intro L f x d;rw[eβ] at f;obtain⟨l,F⟩:=tB.1 f;rcases getSet (by simp;omega) l F with⟨_,rfl⟩|⟨n4,F⟩
  ·simp at d
  ·rcases getSet (by omega) l F with⟨_,rfl⟩|⟨n2,F⟩
   ·simp at d
   ·exact⟨l,n2,n4,F⟩
 have vB:C<s.w.heap.size:=h.hh.lt O (aH A) C K;have uf:Wg<s.w.heap.size:=h.hh.lt L4 (aH H) Wg (by rw[z];simp)
 have Pn:FZ C sB:=⟨by rw[eo];exactλho=>(h.hh.own C ho).2 O (aH A) K,λL f d=>by
  obtain⟨l,n2,n4,F⟩:=D L f C d;exact n2 (h.hh.ez l 2 L O F A C d K),λo=>by rw[eM];exact Ti C K o,by rw[ew];exact vB⟩
 have Z:FZ Wg sB:=⟨by rw[eo];exactλho=>(h.hh.own Wg ho).2 L4 (aH H) (by rw[z];simp),λL f d=>by
  obtain⟨l,n2,n4,F⟩:=D L f Wg d;exact n4 (h.hh.ez l 4 L L4 F H Wg d (by rw[z];simp)),λo=>by rw[eM];exact Tm o,by rw[ew];exact uf⟩
 have fB:br 45 d5 sB (jP k ps ns C Wg 0) a:=by
  have q:=h.fr.mono F0 h.hh.len;have q9:br 45 d5 sB ((9,.e (.one (.v (.pointer (some ⟨Wg,0,none⟩)))))::Mx k ps ns C) a:=q.seen (by rw[Tn];exact Rd.val rfl)
  exact q9.le (cg rfl (by simp[aa.cat,aa,aw.same]))
 have JQ:(xs++zs).toArray.size=2*ns.length:=by simp only[my,Tj];omega
 have Gz:∀ x,(s.own x∨∃ L∈s.β,x∈L.bs)->x<s.w.heap.size:=λx d=>d.elim (λq=>(h.hh.own x q).1) λ⟨L,f,q⟩=>h.hh.lt L f x q
 refine .rG (T:=λg' s'=>∃ a4 m,At (uH k ps ns C xs) so (Ea ns.length C) (yq k ps ns C) a4 s'/\WgLive 197 Wg s'.w/\Goes Tryz.prog true (dg 197 Wg) DC0 (λg _=>g=G (b.aT (a4.put (some 28) (.tuple #[])) (.inRegion rV []::.code mm::kk)) cs) m g' s'.w)
  (K2.fork (n:=ns.length) (ty:=197) (val:=Ga k ps ns) (N:=2*ns.length) (s0:=sB) 2 (by omega) Wg C (by omega) sj (.of h.hh Rb ew F0) rfl ⟨O,aH A,K⟩ ⟨L4,aH H,by rw[z];simp⟩ Gz ?_ X ⟨_,MC,JQ⟩ ?_) ?_
 ·rintro x (rfl|rfl)
  ·exact⟨Pn.own,Pn.β,Pn.M⟩
  ·exact⟨Z.own,Z.β,Z.M⟩
 ·intro Y To Tp Tq;subst To Tp;refine⟨TF k ps ns Y d5 sB b kk cs,Ny k ps ns Y d5 sB b kk cs,λg s d=>Te Z LO d,?_,?_⟩
  ·refine G3 Tg Tq Z LO hb (by decide) hn (λi hi=>rfl) (λi hi=>rfl) ns.length (aq _) a sB ⟨by rw[Nat.sub_self];exact fB,Rb,.refl _ _⟩ ⟨_,_,by rw[ew];exact X⟩
  ·rintro g' s' ⟨a4,⟨j,D7⟩,m,hgo⟩ hm' MD JR Jb ME;obtain⟨o1,o2,o3⟩:=ME Y.C (.inl rfl);obtain⟨lr,W,Tr⟩:=MD;have Ns:lr=(iZ k ps ns).toArray:=by
    apply Array.ext_getElem?
    intro o;have Ts:(iZ k ps ns).toArray[o]?=(iZ k ps ns)[o]?:=by simp
    rw[Ts];rcases bC o (2*ns.length) with ho|ho
    ·have q1:=JR (o / 2) (by omega) (o % 2) (by omega)
     have q2:=uI (k:=k) (ps:=ps) (ns:=ns) (x:=o / 2) (i:=o % 2) (by omega) (by omega)
     rw[show 2*(o / 2)+o % 2=o by omega] at q1 q2
     rw[q2];simpa[World.cell?,W] using q1
    ·rw[pj (by omega),jI (by rw[qU];omega)]
   subst Ns;have xE:s'.β.length=5:=j.hh.len;obtain⟨UO,Rc,p1,p2,p3⟩:=j.st.box 2 .dead ⟨O.v,[]⟩ rfl Pm;have Tt:Rc.v=.nilFunc:=by
    cases p1;exact(show Rc.v=O.v from p3).trans Q9
   have Ip:∀ (l:Nat) (B:ak),d5[l]?=some B->B=.dead:=by
    intro l B u
    match l,u with
    |0,u|1,u|2,u|3,u|4,u=>cases u;rfl
   have I:∀ l,(s'.β.set 2 ⟨.nilFunc,[Y.C]⟩)[l]?=if l=2 then some ⟨.nilFunc,[Y.C]⟩ else s'.β[l]?:=by
    intro l
    by_cases e:l=2
    ·subst e;rw[ar rfl,bo (by omega)]
    ·rw[an e,b7 (λe'=>e e'.symm)]
   have P:∀ L∈s'.β.set 2 ⟨.nilFunc,[Y.C]⟩,L=⟨.nilFunc,[Y.C]⟩∨L∈s'.β:=λL f=>by
    obtain⟨l,F⟩:=tB.1 f;rw[I] at F;split at F
    ·cases F;exact .inl rfl
    ·exact .inr (aH F)
   have Nt:ag (yq k ps ns Y.C) { s' with β:=s'.β.set 2 ⟨.nilFunc,[Y.C]⟩ }:=by
    refine⟨j.hh.mem,by simp[xE,yq],?_,?_,?_,λx d=>⟨(j.hh.own x d).1,λL f y=>?_⟩⟩
    ·intro l B L u f;rw[I] at f
     by_cases e:l=2
     ·subst e;rw[ar rfl] at f;cases f;cases u;refine⟨λb'=>if b'=Y.C then some (.cells (iZ k ps ns++[]).toArray 200 (0,0)) else none,⟨rfl,?_,qU,aq _,by omega,[],by simp[qU],rfl⟩,λb' ob U=>?_,λb'=>?_,λb' U o=>?_⟩
      ·intro x d;simp only[iZ,List.mem_flatMap] at d;obtain⟨_,_,d⟩:=d;simp only[dF,pt,or_false] at d;rcases d with rfl|rfl <;> rfl
      ·by_cases e:b'=Y.C
       ·subst e;simp only[aZ] at U;cases U;rw[iE];exact W
       ·simp[e] at U
      ·by_cases e:b'=Y.C <;> simp[e]
      ·simp at U;subst U;exact o3 o
     ·match l,u,e with
      |0,u,_|1,u,_|3,u,_|4,u,_=>cases u;trivial
      |2,_,e=>exact absurd rfl e
    ·intro l l' L L' f J x d FV;rw[I] at f J
     by_cases e:l=2
     ·rw[ar e] at f;cases f;simp at d;subst d
      by_cases e':l'=2
      ·omega
      ·rw[an e'] at J;exact absurd FV (o2 L' (aH J))
     ·rw[an e] at f
      by_cases e':l'=2
      ·rw[ar e'] at J;cases J;simp at FV;subst FV;exact absurd d (o2 L (aH f))
      ·rw[an e'] at J;exact j.hh.ez l l' L L' f J x d FV
    ·intro L f x d;rcases P L f with rfl|f
     ·simp at d;subst d;exact Jb
     ·exact j.hh.lt L f x d
    ·rcases P L f with rfl|f
     ·simp at y;subst y;exact o1 d
     ·exact(j.hh.own x d).2 L f y
   have Po:bD [.dead,.dead,.eB (xz 200 2 (.row Y.C ns.length) ns.length xs),.dead,.cells 197 [.c (.int .u64 0),.c (.int .u32 0)]] s (yq k ps ns Y.C) { s' with β:=s'.β.set 2 ⟨.nilFunc,[Y.C]⟩ }:=by
    have q:=j.st;refine⟨by have:=q.size;rw[ew] at this;exact this,λx d=>by have:=q.en x (by rw[eo];exact d);rw[ew] at this;exact this,λx o v d=>q.mem x o v (by rw[eM];exact d),λx d Tu o=>?_,λL f x d=>?_,?_,by rw[q.os,ew],by rw[q.tape,ew],by rw[q.output,ew],by rw[q.own,eo]⟩
    ·rw[q.hZ x (by rw[ew];exact d) (λL f y=>by
      obtain⟨l,_,_,F⟩:=D L f x y;exact Tu L (aH F) y) o,eM]
    ·rcases P L f with rfl|f
     ·simp at d;subst d;exact .inr ⟨O,aH A,K⟩
     ·rcases q.rF L f x d with r1|⟨L0,r1,r2⟩
      ·rw[ew] at r1;exact .inl r1
      ·obtain⟨l,_,_,F⟩:=D L0 r1 x r2;exact .inr ⟨L0,aH F,r2⟩
    ·intro l B L u f;obtain⟨B1,L1,r1,r2,r3⟩:=F0.box l B L u f;obtain⟨B3,L3,u1,u2,u3⟩:=q.box l B1 L1 r1 r2;have Tv:=Ip l B1 r1;have Tw:=Ip l B3 u1;subst Tv Tw
     by_cases e:l=2
     ·subst e;cases u;rw[A] at f;cases f;exact⟨_,⟨.nilFunc,[Y.C]⟩,rfl,by rw[I,ar rfl],Q9.symm⟩
     ·refine⟨.dead,L3,?_,by rw[I,an e];exact u2,r3.trans u3⟩
      match l,u1,e with
      |0,_,_|1,_,_|3,_,_|4,_,_=>rfl
      |2,_,e=>exact absurd rfl e
   refine⟨{ s' with β:=s'.β.set 2 ⟨.nilFunc,[Y.C]⟩ },⟨a4,m,⟨⟨j.fr.size,⟨[],?_⟩,λt=>?_⟩,Nt,h.st.trans Po⟩,D7,hgo⟩,rfl,hm',λSh NA Tx=>⟨NA.own,λx d L f y=>?_,NA.M,NA.lt⟩⟩
   ·obtain⟨ls,Nv⟩:=j.fr.defers;rw[kD (λB u=>by simp at u;exact u) Nv]
    trivial
   ·have fq:br 45 d5 s' (Ea ns.length Y.C) a4:=j.fr.le (cg rfl (by simp[aa.cat,aa]))
    exact cd.closed (s:=s') (s':={ s' with β:=s'.β.set 2 ⟨.nilFunc,[Y.C]⟩ }) rfl (fq.slot t) (l4 rfl)
   ·rcases P L f with rfl|f
    ·simp at y;subst y;exact Tx d
    ·exact NA.β x d L f y
 ·rintro g' s' ⟨a4,m,h4,Ty,hgo⟩;refine At.goes m g' s' h4 Ty hgo λs1 h1=>?_
  have h2:At (uH k ps ns C xs) so ((28,.any)::Ea ns.length C) (yq k ps ns C) (a4.put (some 28) (.tuple #[])) s1:=⟨h1.fr.put (by decide) ab,h1.hh,h1.st⟩
  refine h2.ctl rfl (λw=>et) λs2 h3=>?_
  refine Mz s2 _ (h3.fr.le (cg rfl (by simp[aa.cat,aa]))) h3.hh b kk cs S hb LO λe φ' σ' s' a' q f' h' kF=>hQ e φ' σ' s' a' q f' h' (h3.st.trans kF)
end
end Go.AM.R1
namespace Go.AM.R1
open Go.Proofs
abbrev Pp(a:List Bs)(b:Bool):D:=.eY [.one (.c (.sl false 1 a.length (cS.fn a))),.one (.c (.bool b))]
def cM(k:Int)(ps:List aV)(ns:List Int):Option (List Bs):=if ns.all (λn=>(b6 k ps n).isSome) then some (ns.map λn=>(b6 k ps n).getD []) else none
noncomputable def Tz:Code:=qS yo
noncomputable def TA:Code:=qS (hI yo)
noncomputable def TB:Code:=qS (hI (hI yo))
theorem G5:Tryz.f95.body=some (.seq Tz (.seq TA (.seq TB Ph))):=by kernel_rfl
def JS(k:Int)(ps:List aV)(ns:List Int)(i:Nat):List AM.C:=[.str ((b6 k ps (ns.getD i 0)).getD []),.bool (b6 k ps (ns.getD i 0)).isSome]
def pb(k:Int)(ps:List aV)(ns:List Int):List Bs:=ns.map λn=>(b6 k ps n).getD []
theorem wc{b p:Bs}(h:cZ b=some p):p.length<=8:=by
 unfold cZ at h;split at h
 ·rename_i a
  cases h;simp only[bA,a9,aD] at a;omega
 ·cases h
theorem Bf{k:Int}{x:fb}{p:Bs}(h:chunk k x=some p):p.length<=8:=by
 unfold chunk at h;split at h
 ·rename_i q a
  split at h
  ·cases h;exact wc a
  ·cases h
 ·cases h
theorem sK{k:Int}{ps:List aV}{n:Int}:((b6 k ps n).getD []).length<=8:=by
 cases h:b6 k ps n with
 |none=>simp
 |some p =>
  obtain⟨q,_,a⟩:=List.exists_of_findSome?_eq_some h;unfold cj at a;split at a
  ·simpa using Bf a
  ·cases a
theorem JU{k:Int}{ps:List aV}{ns:List Int}{i:Nat}(hi:i<ns.length){M:Mem}{j:Nat}{c:AM.C}{x:Value}(a:(JS k ps ns i)[j]?=some c)(d:(iZ k ps ns)[i*2+j]?=some x):Rd M x c:=by
 have b:j<2:=(aF.1 a).1;have:=uI (k:=k) (ps:=ps) hi b;rw[iq,this] at d;cases d
 match j,b with
 |0,_ =>
  cases a;have:=sK (k:=k) (ps:=ps) (n:=ns.getD i 0);exact .str rfl (by omega)
 |1,_=>cases a;exact .bool
theorem _root_.Go.AM.mg.le{P:Program}{X:Cx P}{N:Nat}{Q:Post}{φ φ':Fr}{σ:List ak}{c:Code}(h:mg X N c Q φ' σ)(hl:nz φ φ'):mg X N c Q φ σ:=λs a f hh=>h s a (f.le hl) hh
theorem vY{k:Int}(s:bO (Cx.work Tryz.prog) 129 (iX k))(ps:List aV)(ns:List Int)(u:ns.length<=4000000) :
  Ev (Cx.beside Tryz.prog) 95 [dI k,cP.sl ps,cI.sl ns] [] (Pp ((cM k ps ns).getD []) (cM k ps ns).isSome) []:=by
 refine fK.CC (fK.xX (ι:=Unit) Tryz.func95 rfl G5 rfl λw=>?_)
 show mg _ 45 _ _ _ _;refine mg.seq (AW.top (AK.of_code ?_));refine bq rfl ab ?_;show mg _ 45 _ _ _ _;refine mg.seq (AW.top (AK.of_code ?_));refine bq rfl ab ?_;refine AK.Cz (E:=200) (n:=ns.length) tok rfl rfl rfl rfl rfl rfl (by show _*24<=_;omega) (by omega) rfl rfl λC xs=>?_
 refine bq rfl ab ?_;show mg _ 45 _ _ _ _;refine mg.seq (AW.top (AK.of_code ?_));refine bq rfl ab ?_;show mg _ 45 _ _ _ _;have b:mg (Cx.beside Tryz.prog) 45 mm (λe φ σ1=>∃ _:Unit,aR Tryz.f95 0 (Pp ((cM k ps ns).getD []) (cM k ps ns).isSome) [] e φ σ1) (Ea ns.length C) (yq k ps ns C):=by
  refine AW.top (AW.mono (Q:=aR Tryz.f95 0 (Pp ((cM k ps ns).getD []) (cM k ps ns).isSome) []) (AK.of_code ?_) λ_ _ _ q=>⟨(),q⟩)
  refine bq rfl (show _<=_ by omega) ?_
  refine AK.xA 29 2 (bf:=.row C ns.length) (n:=ns.length) (k:=2) (JS k ps ns) rfl rfl (λi hi=>⟨rfl,λM j c x o v=>?_⟩) ?_
  ·exact JU hi o v
  refine AK.lA 12 9 1 rfl rfl ?_;refine AK.bU 6 (λi=>i<=ns.length/\∀ j,j<i->(b6 k ps (ns.getD j 0)).isSome=true) (λi:Nat=>[(29,.e (.one (.c (.sl false 2 ns.length (JS k ps ns))))),(30,dI ns.length),(31,dI i),(12,.e (.one (.vec 5 1 (pb k ps (ns.take i)).length (cS.fn (pb k ps (ns.take i))))))]) (λi=>[.dead,.dead,.dead,.dead,.dead,.vec 9 1 (pb k ps (ns.take i)).length (cS.fn (pb k ps (ns.take i)))]) (λi=>ns.length-i) 0 rfl ?_ rfl ?_ rfl ⟨by omega,by omega⟩ ?_
  ·simp[aa.cat,aa,aw,aw.same,pb]
  ·simp[aa.cat,aa,aw,pb]
  rintro i ⟨hi,a⟩
  by_cases h:i<ns.length
  ·cases l:(b6 k ps (ns.getD i 0)).isSome with
   |true =>
    have g:pb k ps (ns.take (i+1))=pb k ps (ns.take i)++[(b6 k ps (ns.getD i 0)).getD []]:=by
     unfold pb;rw[k7,aj h,mY];simp only[mV,iF,ji,List.getD_eq_getElem?_getD,aj h,cw]
    have t:(pb k ps (ns.take i)).length<=4000000:=by simp[pb];omega
    refine aE [(32,true),(37,false)] 200 rfl ?_ (AK.aA (i+1) rfl ?_ rfl rfl rfl ?_ rfl ?_ ?_)
    ·simp[-List.getD_eq_getElem?_getD,aa,h,JS,l,aB];have:i9.bytes=16:=rfl;rw[this];omega
    ·rw[g];simp[-List.getD_eq_getElem?_getD,aa.cat,aa,aw.same,JS];exact cS.eO _ _
    ·rw[g];simp[-List.getD_eq_getElem?_getD,aa.cat,aa,aw.same,JS];exact cS.eO _ _
    ·refine⟨by omega,λj d=>?_⟩
     rcases dC.1 d with d|rfl
     ·exact a j d
     ·exact l
    ·omega
   |false =>
    refine aE [(32,true),(37,true)] 200 rfl ?_ (AK.cR (aR.zero rfl ?_))
    ·simp[-List.getD_eq_getElem?_getD,aa,h,JS,l]
    ·have r:cM k ps ns=none:=by
      unfold cM;rw[an];intro o;have:=List.all_eq_true.1 o (ns.getD i 0) (by simp[List.getD_eq_getElem?_getD,aj h])
      rw[l] at this;cases this
     simp[aa.cat,aa,r]
  ·have m:i=ns.length:=by omega
   subst m;refine aE [(32,false)] 200 rfl (by simp[aa]) (AK.leaveD rfl rfl ?_)
   refine eQ rfl ab (AK.au rfl ?_);have f:cM k ps ns=some (pb k ps ns):=by
    unfold cM;rw[ar]
    ·rfl
    ·rw[List.all_eq_true];intro n p;obtain⟨j,d,rfl⟩:=jK.1 p;have:=a j d;simpa[List.getD_eq_getElem?_getD,aj d] using this
   simp[aa.cat,aa,f,aw.same]
 exact mg.le (σ:=uH k ps ns C xs) (My (xs:=xs) s u b) (cg rfl (by simp[aa.cat,aa,aw.same]))
end Go.AM.R1
namespace Go.AM.R1
theorem gu(a:UInt8)(s:Bs):ff (a::s)=if a=47 then 0 else if ff s=-1 then -1 else ff s+1:=by
 unfold ff;rw[Lib.indexByte.eq_def];simp
theorem pO:ff []=-1:=by unfold ff;rw[Lib.indexByte.eq_def]
theorem Bj(s:Bs):cV s=cp s:=by
 by_cases i:s.length<=3
 ·match s,i with
  |[],_=>simp[cV,cp,bg,ga,pO]
  |[a],_ =>
   by_cases d:a=47
   ·subst d;simp[cV,cp,bg,ga,jB,gF,gu,ja,bc]
   ·simp[cV,cp,bg,ga,gF,gu,pO,d,ja,bc]
  |[a,b],_ =>
   by_cases d:a=47
   ·subst d;simp[cV,cp,bg,ga,jB,gF,gu]
   ·by_cases e:b=47
    ·subst e;simp[cV,cp,bg,ga,jB,gF,gu,d]
    ·simp[cV,cp,bg,ga,gF,gu,pO,d,e]
  |[a,b,c],_ =>
   by_cases d:a=47
   ·subst d;simp[cV,cp,bg,ga,jB,gF,gu,ja,bc]
   ·by_cases e:b=47
    ·subst e;simp[cV,cp,bg,ga,jB,gF,gu,d,ja,bc]
    ·have f:¬(b.toNat:Int)=47:=by
      intro h;apply e;apply lN.1;simp;omega
     by_cases g:c=47
     ·subst g;simp[cV,cp,bg,ga,jB,gF,gu,d,e,ja,bc]
     ·simp[cV,cp,bg,ga,gF,gu,pO,d,e,g,f,ja,bc]
  |_::_::_::_::_,h=>simp at h
 ·have k:cp s=false:=by unfold cp;rw[an (by omega),an (by omega)]
  rw[k];cases j:cV s with
  |false=>rfl
  |true=>exact absurd (oM j) i
end Go.AM.R1
namespace Go.AM
theorem nC(a:Bs):Op.bytesLess a []=false:=by rw[Op.bytesLess.eq_def]
theorem qY(b:UInt8)(l:Bs):Op.bytesLess [] (b::l)=true:=by rw[Op.bytesLess.eq_def]
theorem nD(a b:UInt8)(x y:Bs):Op.bytesLess (a::x) (b::y)=(decide (a<b)||a==b&&Op.bytesLess x y):=by rw[Op.bytesLess.eq_def]
theorem l9:∀ a:Bs,Op.bytesLess a a=false
 |[]=>nC []
 |a::l=>by rw[nD,l9 l];simp
theorem wi:∀ a b:Bs,Op.bytesLess a b=true∨a=b∨Op.bytesLess b a=true
 |[],[]=>.inr (.inl rfl)
 |[],b::y=>.inl (qY b y)
 |a::x,[]=>.inr (.inr (qY a x))
 |a::x,b::y=>by
  rw[nD,nD];rcases wi x y with h|h|h
  ·by_cases c:a=b
   ·subst c;left;simp[h]
   ·rcases tE c with d|d
    ·left;simp[d]
    ·right;right;simp[d]
  ·subst h
   by_cases c:a=b
   ·subst c;right;left;rfl
   ·rcases tE c with d|d
    ·left;simp[d]
    ·right;right;simp[d]
  ·by_cases c:a=b
   ·subst c;right;right;simp[h]
   ·rcases tE c with d|d
    ·left;simp[d]
    ·right;right;simp[d]
theorem qZ:∀ {a b c:Bs},Op.bytesLess a b=true->Op.bytesLess b c=true->Op.bytesLess a c=true
 |a,b,[],_,d=>by rw[nC] at d;cases d
 |a,[],c::z,e,_=>by rw[nC] at e;cases e
 |[],b::y,c::z,_,_=>qY c z
 |a::x,b::y,c::z,e,d=>by
  rw[nD,ko,bA,aD,gg] at e d ⊢;rcases e with e|⟨rfl,e⟩
  ·rcases d with d|⟨rfl,d⟩
   ·exact .inl (UInt8.lt_trans e d)
   ·exact .inl e
  ·rcases d with d|⟨rfl,d⟩
   ·exact .inl d
   ·exact .inr ⟨rfl,qZ e d⟩
theorem wj{a b:Bs}(h:Op.bytesLess a b=true):Op.bytesLess b a=false:=by
 cases c:Op.bytesLess b a with
 |false=>rfl
 |true=>have:=qZ h c;rw[l9] at this;cases this
theorem J4{a b:Bs}:(!(Op.bytesLess b a||b==a))=Op.bytesLess a b:=by
 rcases wi a b with h|h|h
 ·have c:(b==a)=false:=by
   simp only[eU,b9];rintro rfl;rw[l9] at h;cases h
  rw[h,wj h,c];rfl
 ·subst h;simp[l9]
 ·rw[h,wj h];rfl
namespace R1
theorem Ps{t:List dq}{i:Nat}(h:∀ k,0<k->k<=i->Op.bytesLess (dY t (k-1)) (dY t k)=true):∀ j,j<i->Op.bytesLess (dY t j) (dY t i)=true:=by
 intro j f
 induction i with
 |zero=>omega
 |succ i d =>
  have c:=h (i+1) (by omega) (aq _)
  simp only[k6] at c
  by_cases e:j=i
  ·subst e;exact c
  ·exact qZ (d (λk a b=>h k a (by omega)) (by omega)) c
theorem oN{s:Bs}(h:cp s=true):(∃ a,s=[a])∨∃ a b,s=[a,47,b]:=by
 unfold cp at h;split at h
 ·rename_i d
  match s,d with
  |[a],_=>exact .inl ⟨a,rfl⟩
 ·split at h
  ·rename_i d
   match s,d with
   |[a,b,c],_ =>
    right
    simp[ja,bc] at h;have e:b=47:=by apply lN.1;simp;omega
    exact⟨a,c,by rw[e]⟩
  ·cases h
theorem wm{p q:Bs}(j:cp p=true)(k:cp q=true)(f:Op.bytesLess p q=true):clash p q=under q p:=by
 rcases oN j with⟨a,rfl⟩|⟨a,b,rfl⟩ <;> rcases oN k with⟨c,rfl⟩|⟨c,d,rfl⟩
 ·simp[clash,under,ic]
 ·by_cases e:a=c
  ·subst e;simp[clash,under,ic,bc]
  ·have:¬(a.toNat:Int)=c.toNat:=λh=>e (lN.1 (by omega))
   have i:((a.toNat:Int)==(c.toNat:Int))=false:=by rw[eU];exact this
   have g:(c==a)=false:=by rw[eU];exactλh=>e h.symm
   simp[clash,under,ic,bc];rw[i,g]
 ·have:¬(a.toNat:Int)=c.toNat:=by
   intro h;have e:a=c:=lN.1 (by omega)
   subst e;rw[nD,nC] at f;simp at f
  simp[clash,under,ic,bc,this]
 ·simp[clash,under,ic]
theorem sR{t:List dq}{i:Nat}(a:∀ j,j<i->fx t j=true):fN t i=fx t i:=by
 unfold fN fx;rw[Bj,J4];cases m:cp (dY t i) with
 |false=>simp
 |true =>
  cases n:db (Ha t i) with
  |false=>simp
  |true =>
   cases f:(i==0||Op.bytesLess (dY t (i-1)) (dY t i)) with
   |false=>simp
   |true =>
    simp only[cf];have g:∀ j,j<i->Op.bytesLess (dY t j) (dY t i)=true:=by
     apply Ps
     intro k o l
     by_cases e:k=i
     ·subst e;have:(k==0)=false:=by simp;omega
      rw[this,pz] at f;exact f
     ·have:=a k (by omega)
      simp only[fx,bA,ko,gg] at this;exact this.1.2.resolve_left (by omega)
    rw[ld,ba,ba];have d:∀ j,j<i->clash (dY t j) (dY t i)=under (dY t i) (dY t j):=by
     intro j b;have c:cp (dY t j)=true:=by
      have:=a j b;simp only[fx,bA] at this;exact this.1.1.1
     exact wm c m (g j b)
    constructor
    ·intro h j b;rw[d j b];exact h j b
    ·intro h j b;rw[<-d j b];exact h j b
theorem A9(t:List dq):kN t=iY t:=by
 unfold kN iY
 congr 1
 rw[ld,ba,ba]
 constructor
 ·intro h i
  induction i using Nat.strongRecOn with
  |_ i b=>intro hi;rw[<-sR (λj a=>b j a (by omega))];exact h i hi
 ·intro h i hi;rw[sR (λj a=>h j (by omega))]
  exact h i hi
end R1
end Go.AM
namespace Go.AM.R1
open Go.Proofs
variable {X:Cx Tryz.prog}
def fileOf(k:Int)(ps:List aV)(x:cU):Option dq:=match cM k ps x.2 with
 |none=>none
 |some l=>match dO l with
  |none=>none
  |some t=>some (x.1,t)
def bL(k:Int)(ps:List aV)(l:List cU):List dq:=l.map λx=>(fileOf k ps x).getD ([],[])
def bY(k:Int)(s:cK)(ps:List aV):Option (List dq) :=
 if bJ k&&s.2.all (λx=>(fileOf k ps x).isSome)&&iY (bL k ps s.2) then some (bL k ps s.2) else none
abbrev Ml(a:List dq)(b:Bool):D:=.eY [.one (.c (.sl false 2 a.length (cF.fn a))),.one (.c (.bool b))]
abbrev JJ(s:cK):D:=.e (.agg [.c (.int .i64 s.1),.c (.sl false 2 s.2.length (cL.fn s.2))])
theorem lJ{k:Int}{ps:List aV}{l:List cU}{i:Nat}(h:i<l.length):bL k ps (l.take (i+1))=bL k ps (l.take i)++[(fileOf k ps (l.getD i ([],[]))).getD ([],[])]:=by
 unfold bL;rw[k7,aj h,mY];simp only[mV,iF,ji,List.getD_eq_getElem?_getD,aj h,cw]
theorem lK{k:Int}{ps:List aV}{s:cK}{i:Nat}(h:i<s.2.length)(b:fileOf k ps (s.2.getD i ([],[]))=none):bY k s ps=none:=by
 unfold bY;rw[an];intro a;simp only[bA] at a;have:=List.all_eq_true.1 a.1.2 (s.2.getD i ([],[])) (by rw[List.getD_eq_getElem?_getD,aj h];exact hX h)
 rw[b] at this;cases this
theorem rT{k:Int}{ps:List aV}{ns:List Int}{l:List Bs}(h:cM k ps ns=some l)(a:ns.length<=4000000):l.flatten.length<=140737488355328/\l.length<=4000000:=by
 unfold cM at h;split at h
 ·rename_i b
  cases h;refine⟨?_,by simpa using a⟩
  have key:∀ ns:List Int,(ns.all λn=>(b6 k ps n).isSome)=true->(ns.map λn=>(b6 k ps n).getD []).flatten.length<=8*ns.length:=by
   intro ns
   induction ns with
   |nil=>intro _;simp
   |cons n ns ih =>
    intro h;simp only[List.all_cons,bA] at h;have:=ih h.2;have c:=sK (k:=k) (ps:=ps) (n:=n);simp only[iF,List.flatten_cons,bd,ft];omega
  have:=key ns b;omega
 ·cases h
theorem vX(k:Int)(s:cK)(ps:List aV)(K:s.2.length<=4000000)(J:∀ x∈s.2,x.2.length<=4000000) :
  Ev (Cx.beside Tryz.prog) 75 [dI k,JJ s,cP.sl ps] [] (Ml ((bY k s ps).getD []) (bY k s ps).isSome) []:=by
 refine Ev.body Tryz.func75 rfl rfl rfl λE=>?_
 have y:=E.sl 2 rfl;have d:aM (Cx.beside Tryz.prog) [(53,fZ aI (λk=>dB (bJ k)) λ_=>[])]:=.cons t53 .nil
 cases n:bJ k with
 |false =>
  refine af d [(15,false),(16,true)] 100 rfl ?_ (AK.au rfl ?_)
  ·simp[aa,n]
  ·simp[aa,aa.cat,bY,n]
 |true =>
  have r:bO (Cx.work Tryz.prog) 129 (iX k):=JF Mb n;refine af d [(15,true),(16,false),(1000004,true)] 100 rfl ?_ ?_
  ·simp[aa,n]
  refine AK.lA 8 148 2 rfl rfl ?_;refine af d [] 100 rfl ab ?_;refine AK.bU 2 (λi=>i<=s.2.length/\∀ j,j<i->(fileOf k ps (s.2.getD j ([],[]))).isSome=true) (λi:Nat=>[(0,dI k),(2,cP.sl ps),(4,.e (.one (.ptr 0 0))),(8,.e (.one (.vec 1 2 (bL k ps (s.2.take i)).length (cF.fn (bL k ps (s.2.take i)))))),(18,cL.sl s.2),(19,dI s.2.length),(20,dI i)]) (λi=>[.cells 83 [.c (.int .i64 s.1),.c (.sl false 2 s.2.length (cL.fn s.2))],.vec 148 2 (bL k ps (s.2.take i)).length (cF.fn (bL k ps (s.2.take i)))]) (λi=>s.2.length-i) 0 rfl ?_ rfl ?_ rfl ⟨by omega,by omega⟩ ?_
  ·simp[aa.cat,aa,aw.same,aw.nil,bL]
  ·simp[aa.cat,aa,aw.same,aw.nil,bL]
  rintro i ⟨hi,g⟩
  by_cases h:i<s.2.length
  ·have q:s.2.getD i ([],[])∈s.2:=by rw[List.getD_eq_getElem?_getD,aj h];exact hX h
   generalize a:s.2.getD i ([],[])=x at q;have o:=J x q;have f:=vY r ps x.2 o;cases b:cM k ps x.2 with
   |none =>
    rw[b] at f;refine af d [(21,true)] 100 rfl ?_ ?_
    ·exact⟨by omega,by omega,aP (by omega)⟩
    refine AK.aO (a▸f) [] rfl rfl rfl rfl rfl rfl rfl rfl rfl rfl rfl ?_;refine af d [(33,true)] 100 rfl ?_ (AK.cR (aR.zero rfl ?_))
    ·simp[aa]
    ·have e:fileOf k ps x=none:=by simp[fileOf,b]
     rw[lK h (by rw[a];exact e)]
     simp[aa,aa.cat]
   |some l =>
    obtain⟨v,I⟩:=rT b o;rw[b] at f;have u:=yl (X:=Cx.beside Tryz.prog) l v;refine af d [(21,true)] 100 rfl ?_ ?_
    ·exact⟨by omega,by omega,aP (by omega)⟩
    refine AK.aO (a▸f) [] rfl rfl rfl rfl rfl rfl rfl rfl rfl rfl rfl ?_;refine af d [(33,false)] 100 rfl ?_ ?_
    ·simp[aa]
    refine AK.aO u [] rfl rfl rfl rfl rfl rfl rfl rfl rfl rfl rfl ?_;cases B:dO l with
    |none =>
     refine af d [(40,true)] 100 rfl ?_ (AK.cR (aR.zero rfl ?_))
     ·simp[aa]
     ·have e:fileOf k ps x=none:=by simp[fileOf,b,B]
      rw[lK h (by rw[a];exact e)]
      simp[aa,aa.cat]
    |some t =>
     have e:fileOf k ps x=some (x.1,t):=by simp[fileOf,b,B]
     have F:s.2.getD (i:Int).toNat cL.bx=x:=a;have G:(bL k ps (s.2.take i)).length<=4000000:=by simp[bL];omega
     have A:aw ((bL k ps (s.2.take i)).length+1) (cx (bL k ps (s.2.take i)).length (cF.fn (bL k ps (s.2.take i))) λw=>[[C.str (s.2.getD (i:Int).toNat cL.bx).1,C.str ((some t).getD [])]].getD w []) (cF.fn (bL k ps (s.2.take (i+1)))):=by
      rw[lJ h,a,e,F];exact cF.eO (bL k ps (s.2.take i)) (x.1,t)
     have D:(bL k ps (s.2.take i)).length+1=(bL k ps (s.2.take (i+1))).length:=by rw[lJ h];simp
     refine af d [(40,false)] 100 rfl ?_ (AK.aA (i+1) rfl ?_ rfl rfl rfl ?_ rfl ?_ ?_)
     ·refine⟨by simp only[aB];omega,rfl,rfl,?_,rfl⟩
      show _*32<=_;omega
     ·refine aa.cat.2 ⟨rfl,aa.cat.2 ⟨⟨rfl,aw.same⟩,aa.cat.2 ⟨ab,aa.cat.2 ⟨⟨D,A⟩,aa.cat.2 ⟨⟨rfl,aw.same⟩,aa.cat.2 ⟨rfl,aa.cat.2 ⟨?_,ab⟩⟩⟩⟩⟩⟩⟩;simp[aa]
     ·exact aa.cat.2 ⟨aa.cat.2 ⟨rfl,aa.cat.2 ⟨⟨rfl,aw.same⟩,ab⟩⟩,aa.cat.2 ⟨⟨D,A⟩,ab⟩⟩
     ·refine⟨by omega,λj m=>?_⟩
      rcases dC.1 m with m|rfl
      ·exact g j m
      ·rw[a,e];rfl
     ·omega
  ·have e:i=s.2.length:=by omega
   subst e;refine af d [(21,false)] 100 rfl (by simp[aa]) (AK.leaveD rfl rfl ?_)
   rw[cW];have p:=ym (X:=Cx.beside Tryz.prog) (bL k ps s.2);rw[A9] at p;refine af d [] 100 rfl ab ?_;refine AK.aO p [] rfl rfl rfl rfl rfl rfl rfl rfl rfl rfl rfl ?_;have H:s.2.all (λx=>(fileOf k ps x).isSome)=true:=List.all_eq_true.2 λx q=>by
    obtain⟨j,m,rfl⟩:=jK.1 q;have:=g j m;simpa[List.getD_eq_getElem?_getD,aj m] using this
   cases z:iY (bL k ps s.2) with
   |false =>
    refine af d [(51,true)] 100 rfl ?_ (AK.au rfl ?_)
    ·simp[aa]
    ·simp[aa,aa.cat,bY,z]
   |true =>
    refine af d [(51,false)] 100 rfl ?_ (AK.au rfl ?_)
    ·simp[aa]
    ·simp[aa,aa.cat,bY,z,n,H,aw.same]
abbrev cX:=List aV×List cK×List (Int×Int)
def qQ(s:cX):Prop:=∀ x∈s.2.1,x.2.length<=4000000/\∀ y∈x.2,y.2.length<=4000000
abbrev Ba(s:cX):D:=.e (.agg [.c (.sl false 2 s.1.length (cP.fn s.1)),.c (.sl false 2 s.2.1.length (cD.fn s.2.1)),.c (.sl false 2 s.2.2.length (cH.fn s.2.2))])
def sL:bE:=Ci aI (mS cL) (aL cP) (λk s ps=>Ml ((bY k s ps).getD []) (bY k s ps).isSome) λ_ s _=>[s.2.length<=4000000,∀ x∈s.2,x.2.length<=4000000]
theorem Bb:bO (Cx.beside Tryz.prog) 75 sL:=.Ih λk s ps h=>vX k s ps h.1 h.2
def zS:Arg cX:=⟨Ba,λd=>match d with
 |.e (.agg [.c a,.c b,.c c])=>match jz 2 (.e (.one (.c a))) with
  |some (m,g)=>match jz 2 (.e (.one (.c b))) with
   |some (i,l)=>match jz 2 (.e (.one (.c c))) with
    |some (n,k)=>some ((cP.list m g,cD.list i l,cH.list n k),[cP.fits m g,cD.fits i l,cH.fits n k])
    |none=>none
   |none=>none
  |none=>none
 |_=>none,λ{d a o} h j σ s v r=>by
 split at h
 ·split at h
  ·rename_i m g t
   split at h
   ·rename_i i l p
    split at h
    ·rename_i n k u
     cases h;obtain⟨vs,w,f⟩:=r
     match vs,f with
     |[],f=>exact f.elim
     |[_],f=>exact f.2.elim
     |[_,_],f=>exact f.2.2.elim
     |_::_::_::_::_,f=>exact f.2.2.2.elim
     |[x,q,y],f =>
      exact⟨_,w,cP.iW (σ:=[]) (s:=s) (v:=x) t j.1 f.1,cD.iW (σ:=[]) (s:=s) (v:=q) p j.2.1 f.2.1,cH.iW (σ:=[]) (s:=s) (v:=y) u j.2.2 f.2.2.1,ab⟩
    ·cases h
   ·cases h
  ·cases h
 ·cases h⟩
abbrev dL(p:aV)(i:Nat):fb:=p.2.getD i (0,[])
def gq(k:Int)(p:aV)(i:Nat):Bool:=right k (dL p i)&&(i==0||decide ((dL p (i-1)).1<(dL p i).1))
theorem oh(k:Int)(p:aV):gI k p=((List.range p.2.length).all (gq k p)&&(bJ k&&decide (1<=p.1)&&decide (p.1<=99)&&decide (1<=p.2.length)&&decide (p.2.length<=4))):=by
 have e:(p.2.all (right k)&&uF (p.2.map (·.1)))=(List.range p.2.length).all (gq k p):=by
  rw[ld,bA,List.all_eq_true,List.all_eq_true];unfold uF;rw[List.all_eq_true];have a:∀ i,i<p.2.length->(p.2.map (·.1)).getD i 0=(dL p i).1:=λi hi=>by simp[List.getD_eq_getElem?_getD,aj hi]
  constructor
  ·rintro⟨d,c⟩ i hi;have hi:=lO.1 hi;have q:=c i (by simpa using hi)
   rw[a i hi] at q;unfold gq;rw[d (dL p i) (by simp only[dL,List.getD_eq_getElem?_getD,aj hi,cw];exact hX hi),cf]
   rcases hU i with rfl|b
   ·rfl
   ·rw[a (i-1) (by omega)] at q;exact q
  ·intro h;refine⟨λx f=>?_,λi hi=>?_⟩
   ·obtain⟨i,hi,rfl⟩:=jK.1 f;have:=h i (lO.2 hi);simp only[gq,bA] at this;simpa[dL,List.getD_eq_getElem?_getD,aj hi] using this.1
   ·have hi:i<p.2.length:=by simpa using hi
    have:=h i (lO.2 hi);simp only[gq,bA] at this;rw[a i hi];rcases hU i with rfl|b
    ·rfl
    ·rw[a (i-1) (by omega)];exact this.2
 rw[<-e];unfold gI;cases bJ k <;> cases decide (1<=p.1) <;> cases decide (p.1<=99) <;> cases decide (1<=p.2.length) <;> cases decide (p.2.length<=4) <;> simp
theorem sM{k:Int}{p:aV}{i:Nat}(hi:i<p.2.length)(h:gq k p i=false):gI k p=false:=by
 rw[oh];cases a:(List.range p.2.length).all (gq k p) with
 |false=>rfl
 |true =>
  have:=List.all_eq_true.1 a i (lO.2 hi);rw[h] at this;cases this
theorem mM{k:Int}{x:fb}(a:bJ k=true):(chunk k x).isSome=right k x:=by
 unfold chunk right;cases cZ x.2 with
 |none=>rfl
 |some q =>
  simp only[a,cf];split
  ·rename_i h;rw[h];rfl
  ·rename_i h;simp only[kl] at h;rw[h];rfl
theorem Bc(k:Int)(p:aV)(a:bJ k=true)(v:p.2.length<=4000000):Ev X 71 [dI k,Ii p] [] (dB (gI k p)) []:=by
 refine Ev.body Tryz.func71 rfl rfl rfl λy=>?_
 have b:aM X [(53,fZ aI (λk=>dB (bJ k)) λ_=>[]),(91,gb yd aI (λx k=>uD (chunk k x)) λ_ k=>[bJ k=true])]:=.cons t53 (.cons (DU Mb) .nil)
 refine af b [] 100 rfl ab ?_;refine AK.bU 1 (λi=>i<=p.2.length/\∀ j,j<i->gq k p j=true) (λi:Nat=>[(0,dI k),(3,.e (.one (.ptr 0 0))),(10,cG.sl p.2),(11,dI p.2.length),(12,dI i)]) (λ_=>[.cells 73 [.c (.int .i64 p.1),.c (sP p)]]) (λi=>p.2.length-i) 0 rfl ?_ rfl ?_ rfl ⟨by omega,by omega⟩ ?_
 ·simp[aa.cat,aa,aw.same]
 ·simp[aa.cat,aa,aw.same]
 rintro i ⟨hi,f⟩
 by_cases h:i<p.2.length
 ·cases l:right k (dL p i) with
  |false =>
   have n:(chunk k (dL p i)).isSome=false:=by rw[mM a];exact l
   refine af b [(13,true),(24,true),(40,true)] 100 rfl ?_ (AK.cR (aR.zero rfl ?_))
   ·refine⟨rfl,?_,a,by omega,by omega,aP (by omega)⟩
    show (!(chunk k (dL p i)).isSome)=true;rw[n];rfl
   ·rw[sM h (by simp only[gq,l,ku])]
    simp[aa]
  |true =>
   have n:(!(chunk k (dL p i)).isSome)=false:=by rw[mM a,l];rfl
   by_cases s:i=0
   ·subst s;refine af b [(13,true),(24,false),(27,false),(40,false)] 100 rfl ?_ (AK.aA 1 rfl ?_ rfl rfl rfl ?_ rfl ⟨by omega,λj m=>?_⟩ (by omega))
    ·simp only[aa,aB];refine⟨by omega,ab,by simp,n,a,by omega,by omega,aP (by omega)⟩
    ·simp[aa.cat,aa,aw.same]
    ·simp[aa.cat,aa,aw.same]
    ·have:j=0:=by omega
     subst this;simp only[gq,l,cf];rfl
   ·have u:((i:Int)-1).toNat=i-1:=by omega
    cases o:decide ((dL p (i-1)).1<(dL p i).1) with
    |false =>
     refine af b [(13,true),(24,false),(27,true),(38,true),(40,true)] 100 rfl ?_ (AK.cR (aR.zero rfl ?_))
     ·have r:(p.2.getD ((i:Int)-1).toNat cG.bx).1=(dL p (i-1)).1:=by rw[u];rfl
      refine⟨rfl,aP ?_,by omega,by omega,by simp only[aB];omega,aP (by omega),n,a,by omega,by omega,aP (by omega)⟩
      rw[r];show (dL p i).1<=_;exact Int.not_lt.1 (of_decide_eq_false o)
     ·rw[sM h (by simp only[gq,l,o,cf,Bool.or_false];simpa using s)]
      simp[aa]
    |true =>
     refine af b [(13,true),(24,false),(27,true),(38,false),(40,false)] 100 rfl ?_ (AK.aA (i+1) rfl ?_ rfl rfl rfl ?_ rfl ⟨by omega,λj m=>?_⟩ (by omega))
     ·have r:(p.2.getD ((i:Int)-1).toNat cG.bx).1=(dL p (i-1)).1:=by rw[u];rfl
      refine⟨by simp only[aB];omega,rfl,bR ?_,by omega,by omega,by simp only[aB];omega,aP (by omega),n,a,by omega,by omega,aP (by omega)⟩
      rw[r];show ¬(dL p i).1<=_;exact Int.not_le.2 (ki o)
     ·simp[aa.cat,aa,aw.same]
     ·simp[aa.cat,aa,aw.same]
     ·rcases dC.1 m with m|rfl
      ·exact f j m
      ·simp only[gq,l,o,cf,Bool.or_true]
 ·have e:i=p.2.length:=by omega
  subst e;refine af b [(13,false)] 100 rfl (by simp[aa]) (AK.leaveD rfl rfl ?_)
  have w:(List.range p.2.length).all (gq k p)=true:=List.all_eq_true.2 λj m=>f j (lO.1 m)
  rw[oh,w,a]
  by_cases d:1<=p.1
  ·by_cases g:p.1<=99
   ·by_cases q:1<=p.2.length
    ·by_cases t:p.2.length<=4
     ·refine af b [(43,true),(47,true),(52,true),(58,true),(64,true)] 100 rfl ?_ (AK.au rfl ?_)
      ·exact⟨aP (by omega),aP (by omega),aP g,aP d,a⟩
      ·simp[aa,d,g,q,t]
     ·refine af b [(43,true),(47,true),(52,true),(58,true),(64,false)] 100 rfl ?_ (AK.au rfl ?_)
      ·exact⟨bR (by omega),aP (by omega),aP g,aP d,a⟩
      ·simp[aa,d,g,q,t]
    ·refine af b [(43,true),(47,true),(52,true),(58,false)] 100 rfl ?_ (AK.au rfl ?_)
     ·exact⟨bR (by omega),aP g,aP d,a⟩
     ·simp[aa,d,g,q]
   ·refine af b [(43,true),(47,true),(52,false)] 100 rfl ?_ (AK.au rfl ?_)
    ·exact⟨bR g,aP d,a⟩
    ·simp[aa,d,g]
  ·refine af b [(43,true),(47,false)] 100 rfl ?_ (AK.au rfl ?_)
   ·exact⟨bR d,a⟩
   ·simp[aa,d]
def zT:bE:=gb aI (mS cG) (λk p=>dB (gI k p)) λk p=>[bJ k=true,p.2.length<=4000000]
theorem GZ:bO X 71 zT:=.gO λk p h=>Bc k p h.1 h.2
def qV{α:Type}(q:α->Bool)(l:List α):Int:=match l.findIdx? q with|some i=>i|none=>-1
theorem uJ{α:Type}{q:α->Bool}{t:List α}{i:Nat}{d:α}(hi:i<t.length)(h:q (t.getD i d)=true)(a:∀ j,j<i->q (t.getD j d)=false):qV q t=i:=by
 have:t.findIdx? q=some i:=by
  rw[tq];refine⟨hi,?_,λj c=>?_⟩
  ·simpa[List.getD_eq_getElem?_getD,aj hi] using h
  ·have b:j<t.length:=by omega
   simpa[List.getD_eq_getElem?_getD,aj b] using a j c
 rw[qV,this]
theorem om{α:Type}{q:α->Bool}{t:List α}{d:α}(a:∀ j,j<t.length->q (t.getD j d)=false):qV q t=-1:=by
 have:t.findIdx? q=none:=by
  rw[mr];intro f c;obtain⟨j,b,rfl⟩:=dV c;simpa[List.getD_eq_getElem?_getD,aj b] using a j b
 rw[qV,this]
theorem fK.Ix{ι:Type}{f:FuncId}{fn:Func}{c:Code}{args:List D}{σ:List ak}{σ':ι->List ak}{res:ι->D}(i:Tryz.prog.funcs[f]?=some fn)(b:(fn.name== "runtime.NumGoroutine")=false)(g:fn.body=some c)(a:Nat.ble args.length fn.ntmps=true)
  (h:Fits args σ->AK X fn.ntmps (λe φ σ1=>∃ j,aR fn σ.length (res j) (σ' j) e φ σ1) [.code c] .normal (iO 0 args) σ):fK X f args σ res σ' :=
 fK.xX i b g a λd=>AW.top (AK.of_code (h d))
theorem AK.Kl{ι:Type}{fn:Func}{a:Nat}{res:ι->D}{σ':ι->List ak}{N:Nat}{φ:Fr}{σ:List ak}{K:List It}(i:ι)(k:AK X N (aR fn a (res i) (σ' i)) K .normal φ σ):AK X N (λe φ σ1=>∃ j,aR fn a (res j) (σ' j) e φ σ1) K .normal φ σ :=
 AK.fG (λ_ _ _ q=>⟨i,q⟩) k
theorem yu{lo hi j:Nat}{z:List C}{es:Nat->List C}(h:¬(lo<=j/\j<hi)):nV lo hi z es j=es j:=an h
theorem bu{α:Type}{l:List α}{i:Nat}(h:i<l.length)(d:α):l.take (i+1)=l.take i++[l.getD i d]:=by
 rw[k7];simp[List.getD_eq_getElem?_getD,aj h]
theorem _root_.Go.AM.jd.JW{α:Type}(c:jd α)(l:List α)(i:Nat)(x:α)(n:Nat)(b:n<=l.length):aw n (fY i (c.enc x) (c.fn l)) (c.fn (l.set i x)):=by
 intro q a;simp only[fY,jd.fn,Cj]
 by_cases e:q=i
 ·subst e;rw[ar rfl];simp[List.getD_eq_getElem?_getD,bo (by omega:q<l.length)]
 ·rw[an e,List.getD_eq_getElem?_getD,List.getD_eq_getElem?_getD,b7 (λh=>e h.symm)]
abbrev Pq:=Int×Int×Int×Bs
theorem KO(s:cX)(l:Pq)(n:Nat)(a:l.2.1=n)(h:n<=s.2.2.length):aa (ib s.2.2.length (some l.2.1) none):=by
 show 0<=l.2.1/\l.2.1<=(s.2.2.length:Int);omega
end Go.AM.R1
namespace Go.AM
theorem fK.le{P:Program}{ι:Type}{X:Cx P}{f:FuncId}{args:List D}{σ:List ak}{res res':ι->D}{σ1:ι->List ak}(h:fK X f args σ res σ1){ps:ι->List Prop}(a:∀ i,FQ (res i) (res' i)=some (ps i))(b:∀ i,aa (ps i)):fK X f args σ res' σ1 :=
 ⟨h.1,λs vs hr hh S cs hS=>h.2 s vs hr hh S cs λi fr v s' hl rJ md st=>hS i fr v s' hl (uq (a i) (b i) rJ) md st⟩
theorem fK.one{P:Program}{ι:Type}{X:Cx P}{f:FuncId}{args:List D}{σ:List ak}{res:D}{σ1:List ak}(h:fK (ι:=ι) X f args σ (λ_=>res) (λ_=>σ1)):Ev X f args σ res σ1 :=
 ⟨h.1,λs vs hr hh S cs hS=>h.2 s vs hr hh S cs λ_ fr v s' hl rJ md st=>hS fr v s' hl rJ md st⟩
namespace R1
open Go.Proofs
variable {X:Cx Tryz.prog}
end R1
end Go.AM
namespace Go.AM.R1
open Go.Proofs
open Go.Sort (pdq bitsLen ltInt Below)
variable {X:Cx Tryz.prog}
def jC(l:List Int):List Int:=l.mergeSort λx y=>decide (x<=y)
theorem ek(l:List Int):(jC l).length=l.length:=List.length_mergeSort _
theorem E8(l:List Int):pdq ltInt l.toArray 0 l.length (bitsLen l.length) true true=(jC l).toArray:=by
 have h:=Go.Sort.sortInt l;unfold Go.Sort.sort at h;rw[my] at h;exact fH (by rw[h];rfl)
theorem M1(l:List Int):eI l.toArray=cI.fn l:=by
 funext j
 simp only[eI,jd.fn,Cj,cI,List.getD_eq_getElem?_getD];simp
abbrev BC(n:Nat)(l:List Int):ak:=.buf 3 1 n (cI.fn l)
theorem wH(l:List Int)(a:l.length<=4000000):Ev X 73 [gQ l.length] [BC l.length l] (.eY []) [BC l.length (jC l)]:=by
 refine Ev.body Tryz.func73 rfl rfl rfl λb=>?_
 refine eQ rfl (by simp only[aa,aB];and_intros <;> omega) ?_
 refine AK.aO (E9 l.length a) [] rfl rfl rfl rfl rfl rfl rfl rfl rfl rfl rfl ?_;refine eQ rfl ab ?_;have c:=gK (x:=l.length) (k:=22) (by simp;omega)
 have key:Ev X 93 [gQ l.length,dI 0,dI l.length,dI (bitsLen l.length)] [BC l.length l] (.eY []) [BC l.length (jC l)]:=by
  have:=KB (X:=X) l.length a l.length l.toArray 0 l.length (bitsLen l.length) (by omega) (by simp) (by omega) (aq _) (by omega) (.inl rfl) (x:=0) rfl rfl rfl (E8 l).symm
  simp only[bI,M1] at this;exact this
 refine AK.aO key [0] rfl rfl rfl rfl rfl rfl rfl rfl rfl rfl rfl ?_;refine eQ rfl ab ?_;exact aR.oa [0] rfl ab rfl rfl rfl gA
def gC(l:List Int):Nat->List Int
 |0=>[]
 |j+1=>if j≠0/\l.getD j 0=l.getD (j-1) 0 then gC l j else gC l j++[l.getD j 0]
def cm(l:List Int):List Int:=gC l l.length
theorem nG(l:List Int):∀ j,(gC l j).length<=j
 |0=>aq _
 |j+1=>by
  have:=nG l j;simp only[gC];split
  ·omega
  ·simp;omega
theorem j7{l:List Int}:∀ {k:Nat},k<=l.length->(∀ i,1<=i->i<k->l.getD i 0≠l.getD (i-1) 0)->gC l k=l.take k
 |0,_,_=>by simp[gC]
 |k+1,d,h=>by
  rw[gC,an,j7 (by omega) λi a e=>h i a (by omega),bu (by omega) 0]
  rintro⟨c,b⟩;exact h k (by omega) (by omega) b
structure Uk (l:List Int)(k0:Nat)(k2:Nat)(ys:List Int):Prop where
 h1:1<=k2
 hj:k0+k2<=l.length
 len:ys.length=l.length
 lt:(gC l (k0+k2)).length<k0+k2
 done:ys.take (gC l (k0+k2)).length=gC l (k0+k2)
 rest:∀ i,k0+k2<=i+1->ys.getD i 0=l.getD i 0
abbrev Fa(a:List Int):Type:={ es:Nat->List C // ∀ i,i<a.length->es i=cI.fn a i }
set_option maxHeartbeats 2000000 in
theorem rj(l:List Int)(L:l.length<=4000000):fK (ι:=Fa (cm l)) X 74 [gQ l.length] [BC l.length l] (λ_=>.e (.one (.bp 0 (.sl l.length 1 0 (cm l).length)))) (λes=>[.buf 3 1 l.length es.1]):=by
 refine fK.Ix Tryz.func74 rfl rfl rfl λK=>?_
 by_cases o:l.length<2
 ·have n:cm l=l:=by
   unfold cm;rw[j7 (aq _) λi _ _=>by omega,cW]
  refine aE [(8,true)] 200 rfl (by simp only[aa,aD];omega) (AK.Kl ⟨cI.fn l,λi _=>by rw[n]⟩ (AK.eF [0] rfl ?_ rfl rfl rfl gA))
  simp[aa,n]
 refine aE [(8,false)] 200 rfl (by simp only[aa,aY];omega) ?_
 refine AK.ik (S2:=Unit) 0 rfl rfl (λ_=>cm l=l) (λ_=>[(0,gQ l.length)]) (λ_=>[BC l.length l]) 1 (λk:Nat=>1<=k/\k<=l.length/\∀ i,1<=i->i<k->l.getD i 0≠l.getD (i-1) 0) (λk=>[(0,gQ l.length),(3,dI k)]) (λ_=>[BC l.length l]) (λk=>l.length-k) 1 rfl ?_ rfl ?_ rfl ⟨aq _,by omega,λi z o=>by omega⟩ ?_ ?_
 ·simp[aa.cat,aa]
 ·simp[aa.cat,aa,aw.same]
 ·rintro out k ⟨F,M,d⟩
  by_cases D:k<l.length
  ·have x:((k:Int)-1).toNat=k-1:=by omega
   have A:∀ j,l.getD j cI.bx=l.getD j 0:=λ_=>rfl
   by_cases g:l.getD k 0=l.getD (k-1) 0
   ·refine aE [(13,true),(25,true)] 200 rfl ?_ ?_
    ·simp only[aa,ay,az,x,A,g,aB,aD,beq_self_eq_true,ai,ah];and_intros <;> omega
    have I:=j7 (l:=l) (by omega) d
    have t:gC l (k+1)=l.take k:=by rw[gC,ar ⟨by omega,g⟩,I]
    refine AK.ik (S2:=List Int) 2 rfl rfl (λc=>c.length=l.length/\c.take (cm l).length=cm l) (λ_=>[(0,gQ l.length),(3,dI (cm l).length)]) (λc=>[BC l.length c]) 1 (λs:Nat×List Int=>Uk l k s.1 s.2) (λs=>[(0,gQ l.length),(3,dI (gC l (k+s.1)).length),(4,.e (.one (.bp 0 (.sl l.length 1 k (l.length-k))))),(5,dI s.1)]) (λs=>[BC l.length s.2]) (λs=>l.length-s.1) (1,l) rfl ?_ rfl ?_ rfl ?_ ?_ ?_
    ·simp only[aa.cat,aa,t,List.length_take,cy,ay,az,ai,ah];exact⟨by omega,rfl,rfl⟩
    ·simp[aa.cat,aa,aw.same]
    ·exact⟨aq _,by omega,rfl,by rw[t,List.length_take];omega,by rw[t];simp[List.take_take],λ_ _=>rfl⟩
    ·rintro p ⟨b,c⟩ ⟨G,c2,c3,c4,m,h⟩;simp only at G c2 c3 c4 m h
     by_cases H:k+b<l.length
     ·have y:((b:Int)-1).toNat=b-1:=by omega
      have v:∀ j,c.getD j cI.bx=c.getD j 0:=λ_=>rfl
      have u:c.getD (k+b) 0=l.getD (k+b) 0:=h _ (by omega)
      have B:c.getD (k+(b-1)) 0=l.getD (k+(b-1)) 0:=h _ (by omega)
      by_cases q:l.getD (k+b) 0=l.getD (k+(b-1)) 0
      ·have f:gC l (k+(b+1))=gC l (k+b):=by
        rw[show k+(b+1)=k+b+1 by omega,gC,ar ⟨by omega,by rw[q,show k+b-1=k+(b-1) by omega]⟩]
       refine aE [(32,true),(44,false)] 200 rfl ?_ (AK.aA (b+1,c) rfl ?_ rfl rfl rfl ?_ rfl ?_ ?_)
       ·simp only[aa,ay,az,y,v,u,B,q,aB,aD,bne_self_eq_false,Bool.not_true,beq_self_eq_true,ai,ah];and_intros <;> first|trivial|omega
       ·simp only[aa.cat,aa,f,ai,ah];omega
       ·simp[aa.cat,aa,aw.same]
       ·exact⟨by simp only;omega,by simp only;omega,c3,by simp only;rw[f];omega,by simp only;rw[f];exact m,λi hi=>h i (by simp only at hi;omega)⟩
       ·simp only;omega
      ·have f:gC l (k+(b+1))=gC l (k+b)++[l.getD (k+b) 0]:=by
        rw[show k+(b+1)=k+b+1 by omega,gC,an]
        rintro⟨_,g⟩;exact q (by rw[g,show k+b-1=k+(b-1) by omega])
       refine aE [(32,true),(44,true)] 200 rfl ?_ (AK.aA (b+1,c.set (gC l (k+b)).length (l.getD (k+b) 0)) rfl ?_ rfl rfl rfl ?_ rfl ?_ ?_)
       ·simp only[aa,ay,az,y,v,u,B,aB,aD,iC,eU,bne_iff_ne,b9,ai,ah];and_intros <;> first|exact q|omega
       ·simp only[aa.cat,aa,f,bd,ft,kn,ai,ah];and_intros <;> omega
       ·have e:=cI.JW c (gC l (k+b)).length (l.getD (k+b) 0) l.length (by omega)
        simp only[aa.cat,aa,ay,az,v,u,ah,ai];exact e
       ·refine⟨by simp only;omega,by simp only;omega,by simp[c3],by simp only;rw[f,bd];simp;omega,?_,λi hi=>?_⟩
        ·simp only;rw[f,bd,show ∀ a:Int,[a].length=1 fromλ_=>rfl,k7,List.take_set,List.set_eq_of_length_le (by simp;omega),m,bo (by omega)]
         rfl
        ·simp only at hi ⊢;rw[List.getD_eq_getElem?_getD,b7 (by omega),<-List.getD_eq_getElem?_getD]
         exact h i (by omega)
       ·simp only;omega
     ·have E:k+b=l.length:=by omega
      have w:gC l (k+b)=cm l:=by rw[E];rfl
      refine aE [(32,false)] 200 rfl ?_ (AK.leaveD rfl rfl ?_)
      ·simp only[aa,aY];omega
      rw[w] at m;exact p c ⟨c3,m⟩ rfl (by simp[aa.cat,aa,w]) rfl (by simp[aa.cat,aa,aw.same])
    rintro c ⟨J,r⟩;have C:(cm l).length<=l.length:=nG l _;refine eQ rfl ?_ ?_
    ·simp only[aa];exact⟨by omega,by omega⟩
    refine AK.law (aG.IL tok rfl rfl rfl rfl rfl rfl ?_) rfl rfl ?_
    ·simp only[cy,az];omega
    refine bq rfl ?_ (AK.cR ⟨⟨nV (0+cy 0 (some ((cm l).length:Int))) (0+cy 0 (some ((cm l).length:Int))+(cy l.length none-cy 0 (some ((cm l).length:Int)))) i3.zero (cI.fn c),λi hi=>?_⟩,aR.mk [0] rfl ?_ rfl rfl rfl gA⟩)
    ·simp only[aa];exact⟨by omega,by omega⟩
    ·have e:c[i]?=(cm l)[i]?:=by rw[<-r,dD,ar hi]
     refine(yu (by simp only[cy,az];omega)).trans ?_
     simp only[jd.fn,Cj,List.getD_eq_getElem?_getD,e]
    ·simp[aa,cy];rfl
   ·refine aE [(13,true),(25,false)] 200 rfl ?_ (AK.aA (k+1) rfl ?_ rfl rfl rfl ?_ rfl ?_ ?_)
    ·simp only[aa,ay,az,x,A,aB,aD,eU,b9,ai,ah];and_intros <;> first|exact g|omega
    ·simp[aa.cat,aa]
    ·simp[aa.cat,aa,aw.same]
    ·refine⟨by omega,by omega,λi z o=>?_⟩
     rcases dC.1 o with o|rfl
     ·exact d i z o
     ·exact g
    ·omega
  ·obtain rfl:k=l.length:=by omega
   refine aE [(13,false)] 200 rfl (by simp[aa]) (AK.leaveD rfl rfl ?_)
   exact out () (by unfold cm;rw[j7 (aq _) d,cW]) rfl (by simp[aa.cat,aa]) rfl (by simp[aa.cat,aa,aw.same])
 rintro⟨⟩ n;refine eQ rfl ab (AK.Kl ⟨cI.fn l,λi _=>by rw[n]⟩ (AK.eF [0] rfl ?_ rfl rfl rfl gA))
 simp[aa,n]
end Go.AM.R1
namespace Go.AM.R1
open Go.Proofs
variable {X:Cx Tryz.prog}
def aW(l:List cU):List Int:=l.flatMap (·.2)
def eJ(x:cK):List Int:=cm (jC (aW x.2))
theorem nE{l:List cU}{i:Nat}(h:i<l.length):aW (l.take (i+1))=aW (l.take i)++(l.getD i ([],[])).2:=by
 rw[bu h ([],[])];simp[aW]
theorem _root_.Go.AM.jd.EJ{α:Type}(c:jd α)(a b:List α)(n:Nat)(d:n=(a++b).length):aw n (cx a.length (c.fn a) (c.fn b)) (c.fn (a++b)):=by
 intro i hi;simp only[cx,jd.fn,Cj,List.getD_eq_getElem?_getD];subst d
 by_cases h:i<a.length
 ·rw[ar h,bS h]
 ·rw[an h,cv (by omega)]
theorem r7(x:cK)(n:x.2.length<=4000000)(k:(aW x.2).length<=4000000)(m:∀ i,i<=x.2.length->(aW (x.2.take i)).length<=4000000) :
  fK (ι:=Fa (eJ x)) X 58 [JJ x] [] (λ_=>.e (.one (.bp 0 (.sl (aW x.2).length 1 0 (eJ x).length)))) (λes=>[.buf 3 1 (aW x.2).length es.1]):=by
 refine fK.Ix Tryz.func58 rfl rfl rfl λo=>?_
 refine aE [(1000002,true)] 200 rfl ab ?_;refine AK.L8 3 3 1 (cI.fn []) rfl ?_;refine eQ rfl ab ?_;refine AK.bU 2 (λi=>i<=x.2.length) (λi:Nat=>[(3,.e (.one (.bp 1 (.sl (aW (x.2.take i)).length 1 0 (aW (x.2.take i)).length)))),(7,cL.sl x.2),(8,dI x.2.length),(9,dI i)])
  (λi=>[.cells 83 [.c (.int .i64 x.1),.c (.sl false 2 x.2.length (cL.fn x.2))],BC (aW (x.2.take i)).length (aW (x.2.take i))]) (λi=>x.2.length-i) 0 rfl ?_ rfl ?_ rfl (by omega) ?_
 ·simp[aa.cat,aa,aw.same,aW]
 ·simp[aa.cat,aa,aw,aW]
 intro i hi
 by_cases h:i<x.2.length
 ·have d:x.2.getD (i:Int).toNat cL.bx=x.2.getD i ([],[]):=by rw[az];rfl
  have a:=nE h;have b:=m (i+1) h;rw[a,bd] at b;refine aE [(10,true)] 200 rfl ?_ (AK.aA (i+1) rfl ?_ rfl rfl rfl ?_ rfl ?_ ?_)
  ·simp only[aa,d,aB,show i3.bytes=8 from rfl,aD,ai,ah];and_intros <;> omega
  ·simp only[aa.cat,aa,d,a,bd,ah,ai]
   and_intros <;> first|exact aw.same|rfl|omega
  ·have e:=cI.EJ (aW (x.2.take i)) (x.2.getD i ([],[])).2 _ rfl;simp only[aa.cat,aa,d,a,bd,ah,ai] at e ⊢;exact⟨aw.same,e⟩
  ·show i+1<=_;omega
  ·omega
 ·obtain rfl:i=x.2.length:=by omega
  rw[cW];refine aE [(10,false)] 200 rfl (by simp[aa]) (AK.leaveD rfl rfl ?_)
  refine eQ rfl ab ?_;refine AK.aO (wH (aW x.2) k) [1] rfl rfl rfl rfl rfl rfl rfl rfl rfl rfl rfl ?_;refine eQ rfl ab ?_;have g:=rj (X:=X) (jC (aW x.2)) (by rw[ek];exact k)
  rw[ek] at g;refine AK.pD g [1] rfl rfl rfl rfl rfl rfl rfl (λ_=>rfl) rfl (λ_=>rfl) rfl ?_
  rintro⟨es,f⟩;refine eQ rfl ab (AK.Kl ⟨es,f⟩ (AK.eF [1] rfl ?_ rfl rfl rfl (λj l=>absurd l (by simp))))
  simp[aa,eJ]
theorem j6(l:List cU)(i:Nat):(aW (l.take i)).length<=(aW l).length:=by
 have h:aW l=aW (l.take i)++aW (l.drop i):=by
  unfold aW;rw[<-pq,jH]
 rw[h,bd];omega
theorem nF(l:List Int):(cm l).length<=l.length:=nG l _
theorem uS(x:cK)(d:x.2.length<=4000000)(c:(aW x.2).length<=4000000):Ev X 58 [JJ x] [] (cI.sl (eJ x)) []:=by
 have a:=r7 (X:=X) x d c λi _=>gf (j6 _ _) c
 have b:=fK.lE (σ1:=λ_:Fa (eJ x)=>[]) (E:=3) (k:=1) (n:=λ_=>(aW x.2).length) (es:=λes=>es.1) a (λ_=>rfl) (λ_=>?_) (λ_=>rfl) (λ_=>aq _)
 refine(b.le (res':=λ_=>cI.sl (eJ x)) (λ_=>rfl) (λes=>?_)).one
 ·simp only[aa.cat,aa,ah,ai];exact es.2
 ·have:(eJ x).length<=(aW x.2).length:=by unfold eJ;rw[<-ek (aW x.2)];exact nF _
  simpa[aa.cat,aa] using this
theorem JX(n lo hi:Int):Ev X 14 [dI n,dI lo,dI hi] [] (dB (decide (lo<=n/\n<=hi))) []:=by
 refine Ev.body Tryz.func14 rfl rfl rfl λc=>?_
 by_cases a:lo<=n
 ·by_cases b:n<=hi
  ·refine aE [(10,true),(14,true)] 100 rfl (by simp[aa];omega) (AK.au rfl ?_)
   simp[aa,a,b]
  ·refine aE [(10,true),(14,false)] 100 rfl (by simp[aa];omega) (AK.au rfl ?_)
   simp[aa];omega
 ·refine aE [(10,false),(14,false)] 100 rfl (by simp[aa];omega) (AK.au rfl ?_)
  simp[aa];omega
abbrev wh:bE:=Ci aI aI aI (λn lo hi=>dB (decide (lo<=n/\n<=hi))) λ_ _ _=>[]
theorem yv:bO X 14 wh:=.Ih λn lo hi _=>JX n lo hi
theorem Bh(n:Nat)(f:n<=4000000):Ev X 184 [dI n] [] (dI (bm n)) []:=by
 refine Ev.body Tryz.func184 rfl rfl rfl λe=>?_
 by_cases d:n<1
 ·refine aE [(6,true),(9,true)] 100 rfl (by simp[aa];omega) (AK.au rfl ?_)
  have:bm n=0:=by simp[bm,d]
  simp[aa,this]
 by_cases c:8<n
 ·refine aE [(6,false),(9,true)] 100 rfl (by simp[aa];omega) (AK.au rfl ?_)
  have:bm n=0:=by simp[bm,c]
  simp[aa,this]
 by_cases a:n<=2
 ·refine aE [(6,false),(9,false),(10,true)] 100 rfl (by simp[aa];omega) (AK.au rfl ?_)
  have:bm n=2:=by simp only[bm,an (show ¬(n<1∨8<n) by omega),ar a]
  simp[aa,this]
 by_cases b:n<=4
 ·refine aE [(6,false),(9,false),(10,false),(13,true)] 100 rfl (by simp[aa];omega) (AK.au rfl ?_)
  have:bm n=4:=by simp only[bm,an (show ¬(n<1∨8<n) by omega),an a,ar b]
  simp[aa,this]
 ·refine aE [(6,false),(9,false),(10,false),(13,false)] 100 rfl (by simp[aa];omega) (AK.au rfl ?_)
  have:bm n=8:=by simp only[bm,an (show ¬(n<1∨8<n) by omega),an a,an b]
  simp[aa,this]
theorem Ec(p:Bs)(b:a9 p=true):Ev X 104 [dS p] [] (dI (codeOf p)) []:=by
 refine Ev.body Tryz.func104 rfl rfl rfl λj=>?_
 have a:=b;simp only[a9,bA,aD] at a;refine bq rfl ab ?_;refine AK.bU 0 (λi=>i<=p.length) (λi:Nat=>[(0,dS p),(3,dI (codeOf (p.take i))),(4,dI i)]) (λ_=>[]) (λi=>p.length-i) 0 rfl (by simp[aa.cat,aa,codeOf]) rfl (by simp[aa]) rfl (by omega) ?_
 intro i hi
 by_cases h:i<p.length
 ·have k:=gp b hi;have f:=gp b (i:=i+1) (by omega)
  have e:=oL h;have g:=g8 a.2 (p.getD i 0) (qN h);have c:97<=bc p i/\bc p i<=122:=by unfold bc;omega
  refine aE [(8,true)] 100 rfl ?_ (AK.aA (i+1) rfl ?_ rfl rfl rfl ?_ rfl ?_ ?_)
  ·simp only[aa,bj,aB];simp[-List.getD_eq_getElem?_getD,h,bj];omega
  ·have d:(bc p i-97) % 256=bc p i-97:=k9 (by omega) (by omega)
   rw[d] at e;simp[-List.getD_eq_getElem?_getD,aa.cat,aa,bj,e]
  ·simp[aa]
  ·show i+1<=p.length;omega
  ·show p.length-(i+1)<p.length-i;omega
 ·obtain rfl:i=p.length:=by omega
  refine aE [(8,false)] 100 rfl (by simp[aa]) (AK.leaveD rfl rfl ?_)
  refine bq rfl ab (AK.au rfl ?_);simp[aa]
theorem JY:bO X 104 (fZ aS (λp=>dI (codeOf p)) λp=>[a9 p=true]):=.je λp h=>Ec p h
theorem Ed(k:Int)(p:Bs)(c:bJ k=true)(b:a9 p=true):Ev X 85 [dI k,dS p] [] (dI (lH k p)) []:=by
 refine Ev.body Tryz.func85 rfl rfl rfl λh=>?_
 have e:aM X [(104,fZ aS (λp=>dI (codeOf p)) λp=>[a9 p=true])]:=.cons JY .nil
 have a:=c;simp only[bJ,bA,aD] at a;have g:=sH b;refine af e [] 100 rfl ?_ (AK.au rfl ?_)
 ·have d:0<=codeOf p*(2*k+1):=Int.mul_nonneg g.1 (by omega)
  have f:codeOf p*(2*k+1)<=282429536481*199:=Int.mul_le_mul (by omega) (by omega) (by omega) (by omega)
  generalize codeOf p*(2*k+1)=m at d f;simp only[aa,aB];simp[b];omega
 ·show (_:Int)=_;rfl
theorem JZ:bO X 85 (gb aI aS (λk p=>dI (lH k p)) λk p=>[bJ k=true,a9 p=true]):=.gO λk p h=>Ed k p h.1 h.2
theorem qW{n:Nat}(a:1<=n)(b:n<=8):n<=bm n/\bm n<=8:=by
 unfold bm;rw[an (by omega)]
 split
 ·omega
 ·split <;> omega
abbrev zX:bE:=fZ aI (λn=>dI (bm n.toNat)) λn=>[0<=n/\n<=4000000]
theorem G6:bO X 184 zX:=.je λn h=>by
 obtain⟨m,rfl⟩:∃ m:Nat,n=m:=⟨n.toNat,by have:=h.1;omega⟩
 exact Bh m (by have:=h.2;omega)
theorem G7(p:Bs)(c:a9 p=true):Ev X 142 [dS p] [] (dS (gE p)) []:=by
 refine Ev.body Tryz.func142 rfl rfl rfl λg=>?_
 have b:aM X [(184,zX)]:=.cons G6 .nil;have a:=c;simp only[a9,bA,aD] at a;have d:=qW a.1.1 a.1.2;refine af b [] 100 rfl ?_ ?_
 ·simp only[aa];omega
 refine AK.bU 0 (λj=>p.length+j<=bm p.length) (λj:Nat=>[(0,dS (p++List.replicate j 46)),(3,dI (bm p.length))]) (λ_=>[]) (λj=>bm p.length-j) 0 rfl (by simp[aa.cat,aa]) rfl (by simp[aa]) rfl (by omega) ?_
 intro j f
 by_cases h:p.length+j<bm p.length
 ·refine af b [(10,true)] 100 rfl ?_ (AK.aA (j+1) rfl ?_ rfl rfl rfl ?_ rfl ?_ ?_)
  ·simp[aa];omega
  ·simp[aa.cat,aa,List.replicate_succ']
  ·simp[aa]
  ·show p.length+(j+1)<=_;omega
  ·show bm p.length-(j+1)<bm p.length-j;omega
 ·have e:bm p.length-p.length=j:=by omega
  refine af b [(10,false)] 100 rfl (by simp[aa];omega) (AK.leaveD rfl rfl ?_)
  refine af b [] 100 rfl ab (AK.au rfl ?_);simp[aa,gE,c,e]
theorem Ee(s:Bs)(i:Nat)(b:bl s=true)(f:3<=i)(hi:i<=s.length)(k:s.length<=4000000):Ev X 205 [dS s,dI i] [] (dB (jf s i)) []:=by
 refine Ev.body Tryz.func205 rfl rfl rfl λl=>?_
 have h:=A4 b (i-1) (by omega)
 have j:=A4 b (i-2) (by omega)
 have g:=A4 b (i-3) (by omega)
 have c:((fw s ((i:Int)-1)).toNat:Int)=bc s (i-1):=by rw[bj,show ((i:Int)-1).toNat=i-1 by omega]
 have e:((fw s ((i:Int)-2)).toNat:Int)=bc s (i-2):=by rw[bj,show ((i:Int)-2).toNat=i-2 by omega]
 have d:((fw s ((i:Int)-3)).toNat:Int)=bc s (i-3):=by rw[bj,show ((i:Int)-3).toNat=i-3 by omega]
 refine bq rfl ?_ (AK.au rfl ?_)
 ·simp only[aa,aB,c,e,d];omega
 ·simp only[aa,aa.cat,c,e,d,jf,dl,ah];rw[k9 (a:=bc s (i-1)-97) (by omega) (by omega),k9 (a:=bc s (i-2)-97) (by omega) (by omega),k9 (a:=bc s (i-3)-97) (by omega) (by omega)]
abbrev Ef:bE:=gb aS aI (λs i=>dB (jf s i.toNat)) λs i=>[bl s=true,3<=i,i<=s.length,s.length<=4000000]
theorem J0:bO X 205 Ef:=.gO λs i h=>by
 obtain⟨a,c,d,b⟩:=h;obtain⟨m,rfl⟩:∃ m:Nat,i=m:=⟨i.toNat,by omega⟩
 exact Ee s m a (by omega) (by omega) b
theorem J1(t:Bs)(f:Nat)(i:bl t=true)(n:f<=t.length)(q:t.length<=4000000):Ev X 185 [dS t,dI f] [] (dI (cutAt t f)) []:=by
 refine Ev.body Tryz.func185 rfl rfl rfl λo=>?_
 have b:aM X [(205,Ef)]:=.cons J0 .nil;refine af b [] 100 rfl ab ?_;refine AK.dX (λj=>j<=5/\og t f (5-j)=cutAt t f) (λj:Nat=>[(0,dS t),(1,dI f),(5,dI (3+j))]) (λ_=>[]) (λj=>5-j) 0 rfl ?_ rfl ab ⟨by omega,rfl⟩ ?_
 ·simp[aa,aa.cat]
 rintro j ⟨p,a⟩
 by_cases h:j<5
 ·obtain⟨k,l⟩:∃ k,5-j=k+1:=⟨4-j,by omega⟩
  have d:f+(7-k)=f+3+j:=by omega
  rw[l] at a;simp only[og,d] at a
  by_cases g:t.length<=f+3+j
  ·rw[ar g] at a;refine af b [(7,true),(15,true)] 100 rfl ?_ (AK.dN (aR.zero rfl ?_))
   ·simp only[aa,aB,aD,ai,ah];omega
   ·simp[aa,aa.cat,<-a]
  rw[an g] at a;have e:((f:Int)+(3+(j:Int))).toNat=f+3+j:=by omega
  cases c:jf t (f+3+j) with
  |true =>
   rw[c,ar rfl] at a;refine af b [(7,true),(15,false),(22,true)] 100 rfl ?_ (AK.dN (aR.zero rfl ?_))
   ·simp only[aa,aB,e,c,i,aD,aY,ai,ah];omega
   ·simp[aa,aa.cat,<-a];omega
  |false =>
   rw[c,an (by simp)] at a
   refine af b [(7,true),(15,false),(22,false)] 100 rfl ?_ (AK.cN (j+1) rfl ?_ rfl ab ⟨by omega,by rw[<-a];congr 1;omega⟩ (by omega))
   ·simp only[aa,aB,e,c,i,aD,aY,ai,ah];omega
   ·simp[aa,aa.cat];omega
 ·have e:cutAt t f=min (f+8) t.length:=by
   rw[<-a,show 5-j=0 by omega];rfl
  have m:aB .i64 ((min (f+8) t.length:Nat):Int):=by simp only[aB];omega
  refine af b [(7,false)] 100 rfl ?_ (AK.leave rfl rfl ?_)
  ·simp only[aa,aB,aD,aY];omega
  refine af b [] 100 rfl ?_ ?_
  ·simp only[aa,aB];omega
  refine AK.law (yk ((min (f+8) t.length:Nat):Int) rfl rfl rfl (by omega) m) rfl rfl ?_
  refine af b [] 100 rfl ab (AK.au rfl ?_);simp[aa,e]
abbrev MF:bE:=gb aS aI (λs i=>dI (cutAt s i.toNat)) λs i=>[bl s=true,0<=i,i<=s.length,s.length<=4000000]
theorem Pr:bO X 185 MF:=.gO λs i h=>by
 obtain⟨a,c,d,b⟩:=h;obtain⟨m,rfl⟩:∃ m:Nat,i=m:=⟨i.toNat,by omega⟩
 exact J1 s m a (by omega) b
abbrev il(t:Bs):List Int:=(uK t).map λn:Nat=>(n:Int)
theorem Eg(t:Bs)(m:bl t=true)(p:t.length<=4000000):Ev X 144 [dS t] [] (cI.sl (il t)) []:=by
 refine Ev.body Tryz.func144 rfl rfl rfl λo=>?_
 have b:aM X [(185,MF)]:=.cons Pr .nil;refine af b [(1000003,true)] 100 rfl ab ?_;refine AK.lA 3 3 1 rfl rfl ?_;refine af b [] 100 rfl ab ?_;refine AK.bU 1 (λs:Nat×List Int=>s.1<=t.length/\s.2.length<=s.1/\∃ k,t.length<=s.1+k/\il t=s.2++(jA t k s.1).map λn:Nat=>(n:Int)) (λs=>[(0,dS t),(3,.e (.one (.vec 0 1 s.2.length (cI.fn s.2)))),(4,dI s.1)]) (λs=>[.vec 3 1 s.2.length (cI.fn s.2)]) (λs=>t.length-s.1) (0,[]) rfl ?_ rfl ?_ rfl ⟨by simp,by simp,t.length,by simp,by simp[il,uK]⟩ ?_
 ·simp[aa.cat,aa,aw.same,aw.nil]
 ·simp[aa.cat,aa,aw.same,aw.nil]
 rintro⟨f,acc⟩ ⟨d,a,k,j,c⟩;simp only at d a j c
 by_cases h:f<t.length
 ·obtain⟨k,rfl⟩:∃ k',k=k'+1:=⟨k-1,by omega⟩
  have l:=lI t f h;have i:=cI.eO acc (cutAt t f:Int);have g:acc.length+1=(acc++[(cutAt t f:Int)]).length:=by simp
  refine af b [(9,true)] 100 rfl ?_ (AK.aA (cutAt t f,acc++[(cutAt t f:Int)]) rfl ?_ rfl rfl rfl ?_ rfl ?_ ?_)
  ·simp only[aa,m,show i3.bytes=8 from rfl,aD,ai,ah]
   and_intros <;> omega
  ·exact aa.cat.2 ⟨rfl,aa.cat.2 ⟨⟨g,i⟩,aa.cat.2 ⟨rfl,ab⟩⟩⟩
  ·exact aa.cat.2 ⟨⟨g,i⟩,ab⟩
  ·refine⟨l.2.1,by simp;omega,k,by simp only;omega,?_⟩
   rw[c];simp only[jA,ar h];simp
  ·simp only;omega
 ·have e:il t=acc:=by
   have:jA t k f=[]:=by cases k <;> simp[jA,h]
   rw[c,this];simp
  refine af b [(9,false)] 100 rfl (by simp only[aa,aY];omega) (AK.leaveD rfl rfl ?_)
  refine af b [] 100 rfl ab (AK.au rfl ?_);rw[e];simp[aa,aa.cat,aw.same]
abbrev Eh:bE:=fZ aS (λt=>cI.sl (il t)) λt=>[bl t=true,t.length<=4000000]
theorem J2:bO X 144 Eh:=.je λt h=>Eg t h.1 h.2
theorem drop_cons{α:Type}{l r:List α}{i:Nat}{x:α}(h:l.drop i=x::r)(d:α):i<l.length/\l.getD i d=x/\l.drop (i+1)=r:=by
 have a:i<l.length:=by
  rcases bC i l.length with a|a
  ·exact a
  ·rw[tA a] at h;cases h
 rw[tu a] at h;simp only[List.cons.injEq] at h;refine⟨a,?_,h.2⟩;rw[List.getD_eq_getElem?_getD,aj a];exact h.1
theorem sQ(t:Bs):∀ k f,(jA t k f).length<=k
 |0,_=>aq _
 |k+1,f=>by
  simp only[jA];split
  ·have:=sQ t k (cutAt t f);simp;omega
  ·simp
theorem G8(t:Bs)(v:bl t=true)(w:t.length<=4000000):Ev X 108 [dS t] [] (cS.sl (pieces t)) []:=by
 refine Ev.body Tryz.func108 rfl rfl rfl λC=>?_
 have j:aM X [(144,Eh)]:=.cons J2 .nil;have D:(il t).length<=t.length:=by simp only[il,iD];exact sQ t _ _
 refine af j [(1000002,true)] 100 rfl ab ?_;refine AK.lA 3 9 1 rfl rfl ?_;refine af j [] 100 rfl (by simp only[aa,v];exact⟨ab,w⟩) ?_
 refine AK.bU 1 (λs:Nat×Nat×List Bs=>s.1<=(il t).length/\s.2.1<=t.length/\s.2.2.length<=s.1/\∃ k,t.length<=s.2.1+k/\(il t).drop s.1=((jA t k s.2.1).map λn:Nat=>(n:Int))/\pieces t=s.2.2++eN t k s.2.1) (λs=>[(0,dS t),(3,.e (.one (.vec 0 1 s.2.2.length (cS.fn s.2.2)))),(4,dI s.2.1),(5,cI.sl (il t)),(6,dI s.1)]) (λs=>[.vec 9 1 s.2.2.length (cS.fn s.2.2)]) (λs=>(il t).length-s.1) (0,0,[]) rfl ?_ rfl ?_ rfl ⟨by simp,by simp,by simp,t.length,by simp,by simp[il,uK],by simp[pieces]⟩ ?_
 ·simp[aa.cat,aa,aw.same,aw.nil]
 ·simp[aa.cat,aa,aw.same,aw.nil]
 rintro⟨i,f,acc⟩ ⟨hi,m,g,k,x,c,o⟩;simp only at hi m g x c o
 by_cases h:i<(il t).length
 ·have d:jA t k f≠[]:=by
   intro e;rw[e] at c;have:=la (i:=i) (l:=il t);rw[c] at this;simp at this;simp only[il,iD] at h;omega
  obtain⟨k,rfl⟩:∃ k',k=k'+1:=by
   cases k with
   |zero=>exact absurd rfl d
   |succ k=>exact⟨k,rfl⟩
  have a:f<t.length:=by
   rcases bC f t.length with h|h
   ·exact h
   ·exact absurd (by simp only[jA,an (show ¬f<t.length by omega)]) d
  simp only[jA,ar a,iF] at c;obtain⟨_,B,y⟩:=drop_cons c 0;have A:=lI t f a;have p:(il t).getD (i:Int).toNat cI.bx=(cutAt t f:Int):=by rw[az];exact B
  have b:nk t (some (f:Int)) (some (cutAt t f:Int))=(t.drop f).take (cutAt t f-f):=by simp[nk,List.drop_take]
  have q:=cS.eO acc ((t.drop f).take (cutAt t f-f));have u:acc.length+1=(acc++[(t.drop f).take (cutAt t f-f)]).length:=by simp
  refine af j [(13,true)] 100 rfl ?_ (AK.aA (i+1,cutAt t f,acc++[(t.drop f).take (cutAt t f-f)]) rfl ?_ rfl rfl rfl ?_ rfl ?_ ?_)
  ·simp only[aa,p,aB,ib,show i9.bytes=16 from rfl,aD,ai,ah]
   and_intros <;> omega
  ·simp only[aa.cat,aa,p,b,ai,ah]
   and_intros <;> first|exact u|exact q|exactλ_ _=>rfl|omega
  ·simp only[aa.cat,aa,p,b,ai,ah]
   and_intros <;> first|exact u|exact q
  ·refine⟨by simp only;omega,A.2.1,by simp;omega,k,by simp only;omega,y,?_⟩
   rw[o];simp only[eN,ar a];simp
  ·simp only;omega
 ·have e:pieces t=acc:=by
   have r:jA t k f=[]:=by
    rw[tA (by omega)] at c
    exact List.map_eq_nil_iff.1 c.symm
   have a:¬f<t.length:=by
    intro z;cases k with
    |zero=>omega
    |succ k=>simp only[jA,ar z] at r;cases r
   rw[o];cases k <;> simp[eN,a]
  refine af j [(13,false)] 100 rfl (by simp only[aa,aY];omega) (AK.leaveD rfl rfl ?_)
  refine af j [] 100 rfl ab (AK.au rfl ?_);rw[e];simp[aa,aa.cat,aw.same]
abbrev Ir:bE:=fZ aS (λt=>cS.sl (pieces t)) λt=>[bl t=true,t.length<=4000000]
theorem MG:bO X 108 Ir:=.je λt h=>G8 t h.1 h.2
theorem _root_.Go.AM.jd.qX{α:Type}(c:jd α)(l:List α)(x y:α):aw (l.length+1+1) (cx (l.length+1) (cx l.length (c.fn l) λq=>[c.enc x].getD q []) λq=>[c.enc y].getD q []) (c.fn (l++[x,y])):=by
 have h1:=c.eO l x;have h2:=c.eO (l++[x]) y;rw[show (l++[x]).length=l.length+1 by simp,show l++[x]++[y]=l++[x,y] by simp] at h2
 intro q a;rw[<-h2 q a];simp only[cx]
 by_cases e:q<l.length+1
 ·rw[ar e,ar e];exact h1 q e
 ·rw[an e,an e]
abbrev J3:bE:=gb aI aS (λk p=>dI (lH k p)) λk p=>[bJ k=true,a9 p=true]
abbrev Iu:bE:=fZ aS (λp=>dS (gE p)) λp=>[a9 p=true]
theorem MI:bO X 142 Iu:=.je λp h=>G7 p h
end Go.AM.R1
namespace Go.AM
theorem Fits.Eo{args:List D}{σ:List ak}(h:Fits args σ)(k:Nat){cs:List A}(a:args[k]?=some (.e (.agg cs)))(j:Nat){t:Bool}{q n:Nat}{es:Nat->List C}(hj:cs[j]?=some (A.c (.sl t q n es))):n<=9223372036854775807:=by
 obtain⟨s,v,d⟩:=h.at a;obtain⟨vs,_,h2⟩:=d;obtain⟨u,_,b⟩:=cA.get h2 hj;cases b <;> omega
theorem Fits.ML{args:List D}{σ:List ak}(h:Fits args σ)(k:Nat){t:Bool}{kk n:Nat}{es:Nat->List C}(a:args[k]?=some (.e (.one (.c (.sl t kk n es))))){i j:Nat}{p:Bs}(hi:i<n)(hj:(es i)[j]?=some (.str p)):p.length<=9223372036854775807:=by
 obtain⟨s,vs,d,_⟩:=h;have:=(bX.get d).2 k;rw[a] at this;have:=ei (show cd σ s ((vs[k]?).getD undef) (.e (.one (.c (.sl t kk n es)))) from this)
 generalize (vs[k]?).getD undef=v at this;cases this with
 |sl b off f h1 h2 h3 h4 h5 h6 h7 =>
  have:=h7 i hi j _ hj;generalize f i j=u at this;cases this with
  |str e hl=>exact hl
theorem Fits.MM{args:List D}{σ:List ak}(h:Fits args σ)(k:Nat){cs:List A}(a:args[k]?=some (.e (.agg cs)))(j:Nat){p:List UInt8}(hj:cs[j]?=some (A.c (.str p))):p.length<=9223372036854775807:=by
 obtain⟨s,v,d⟩:=h.at a;obtain⟨vs,_,h2⟩:=d;obtain⟨u,_,b⟩:=cA.get h2 hj;cases b with
 |str _ hl=>exact hl
namespace R1
theorem cq{n i:Nat}{p:Nat->Bool}(hi:i<n)(h:p i=false):(List.range n).all p=false:=by
 cases a:(List.range n).all p with
 |false=>rfl
 |true=>rw[ba.1 a i hi] at h;cases h
theorem dc{i:Nat}{p:Nat->Bool}(a:∀ j,j<i->p j=true)(h:p i=true):∀ j,j<i+1->p j=true:=λj b=>by
 rcases dC.1 b with b|rfl
 ·exact a j b
 ·exact h
end R1
end Go.AM
namespace Go.AM.R1
open Go.Proofs
variable {X:Cx Tryz.prog}
theorem Bl(p:Bs):Ev X 141 [dS p] [] (dB (a9 p)) []:=by
 refine Ev.body Tryz.func141 rfl rfl rfl λb=>?_
 have a:aM X [(14,wh),(143,Hc)]:=.cons yv (.cons t143 .nil)
 by_cases h:1<=p.length/\p.length<=8
 ·refine af a [(6,true)] 100 rfl ?_ (AK.au rfl ?_)
  ·simp[aa];omega
  ·simp[aa,a9,h.1,h.2]
 ·refine af a [(6,false)] 100 rfl ?_ (AK.au rfl ?_)
  ·simp[aa];omega
  ·have:a9 p=false:=by simp only[a9,<-Bool.decide_and,bR h,ku]
   simp[aa,this]
abbrev zY:bE:=fZ aS (λp=>dB (a9 p)) λ_=>[]
theorem Hd:bO X 141 zY:=.je λp _=>Bl p
theorem Bm(p:Bs):Ev X 103 [dS p] [] (dS (gE p)) []:=by
 refine Ev.body Tryz.func103 rfl rfl rfl λb=>?_
 have a:aM X [(141,zY),(142,Iu)]:=.cons Hd (.cons MI .nil);cases h:a9 p with
 |true=>exact af a [(5,false)] 100 rfl (by simp[aa,h]) (AK.au rfl (by simp[aa]))
 |false=>exact af a [(5,true)] 100 rfl (by simp[aa,h]) (AK.au rfl (by simp[aa,gE,h]))
abbrev zZ:bE:=fZ aS (λp=>dS (gE p)) λ_=>[]
theorem He:bO X 103 zZ:=.je λp _=>Bm p
theorem Bn(p:Bs):(gE p).length<=8:=by
 unfold gE;split
 ·rename_i h
  simp only[a9,bA,aD] at h;have:=qW h.1.1 h.1.2;simp only[bd,List.length_replicate];omega
 ·simp
theorem wo(b:Bs):Ev X 84 [dS b] [] (uD (cZ b)) []:=by
 refine Ev.body Tryz.func84 rfl rfl rfl λu=>?_
 have r:=u.str 0 rfl;have o:aM X [(103,zZ)]:=.cons He .nil;refine bq rfl ab ?_;have fin:∀ n,n<=b.length->strip (b.take n)=strip b->(n=0∨strip (b.take n)=b.take n)->b.take n=strip b:=λn d h f=>by
  rcases f with rfl|f
  ·simpa[strip] using h
  ·rw[<-f,h]
 have rest:∀ n,n<=b.length->b.take n=strip b->cZ b=if b.length<=8/\gE (strip b)=b/\n≠0 then some (b.take n) else none:=λn d h=>by
  have t:=Bn (strip b);have g:n=0↔strip b=[]:=by
   rw[<-h]
   constructor
   ·rintro rfl;rfl
   ·intro a;rcases List.take_eq_nil_iff.1 a with a|a
    ·exact a
    ·rw[a] at d;simpa using d
  unfold cZ;rw[h]
  by_cases a:gE (strip b)=b
  ·by_cases i:a9 (strip b)=true
   ·have:n≠0:=λp=>by rw[g.1 p] at i;cases i
    rw[ar (by simp[a,i]),ar ⟨by rw[<-a];exact t,a,this⟩]
   ·have p:n=0:=g.2 (by rw[gE,an i] at a;rw[<-a];rfl)
    rw[an (by simp[i]),an (by simp[p])]
  ·rw[an (by simp[a]),an (by simp[a])]
 refine AK.ik (S2:=Nat) 0 rfl rfl (λn=>n<=b.length/\b.take n=strip b) (λn=>[(0,dS b),(4,dI n)]) (λ_=>[]) 0 (λn=>n<=b.length/\strip (b.take n)=strip b) (λn:Nat=>[(0,dS b),(4,dI n)]) (λ_=>[]) (λn=>n) b.length rfl (by simp[aa.cat,aa]) rfl ab rfl ⟨by omega,by simp⟩ ?_ ?_
 ·rintro out n ⟨d,c⟩;rcases n with _|n
  ·refine aE [(9,false),(15,false)] 100 rfl (by simp[aa]) (AK.leaveD rfl rfl ?_)
   exact out 0 ⟨d,fin 0 d c (.inl rfl)⟩ rfl (by simp[aa.cat,aa]) rfl ab
  have g:=qL (s:=b) (n:=n) (by omega)
  have j:((n:Int)+1-1).toNat=n:=by omega
  by_cases f:b.getD n 0=46
  ·refine aE [(9,true),(15,true)] 100 rfl ?_ (AK.aA n rfl ?_ rfl rfl rfl ab rfl ⟨by omega,?_⟩ (by omega))
   ·have a:bc b n=46:=by unfold bc;rw[f];rfl
    simp[-List.getD_eq_getElem?_getD,aa,bj,j,a,aB];omega
   ·simp[aa.cat,aa]
   ·rw[g,ar f] at c;exact c
  ·refine aE [(9,true),(15,false)] 100 rfl ?_ (AK.leaveD rfl rfl ?_)
   ·have a:bc b n≠46:=by
     unfold bc;intro e;exact f (lN.1 (by show _=46;omega))
    simp[-List.getD_eq_getElem?_getD,aa,bj,j,a,aB];omega
   ·exact out (n+1) ⟨d,fin _ d c (.inr (by rw[g,an f]))⟩ rfl (by simp[aa.cat,aa]) rfl ab
 rintro n ⟨d,q⟩;have k:=rest n d q;have l:nk b none (some (n:Int))=strip b:=q▸rfl;have hi:((b.length:Int)<=8)↔b.length<=8:=by omega
 by_cases m:b.length<=8
 ·by_cases c2:gE (strip b)=b
  ·by_cases c3:n=0
   ·refine af o [(21,false),(29,false),(32,true)] 100 rfl ?_ (AK.au rfl ?_)
    ·subst c3;simp only[aa,l,c2];simp;omega
    ·simp[aa,aa.cat,k,c3]
   ·refine af o [(21,false),(29,false),(32,false)] 100 rfl ?_ (AK.au rfl ?_)
    ·simp[aa,l,hi,m,c2,c3,d]
    ·simp[aa,aa.cat,k,l,q,m,c2,c3]
  ·refine af o [(21,false),(29,true),(32,true)] 100 rfl ?_ (AK.au rfl ?_)
   ·simp[aa,l,hi,m,c2,d]
   ·simp[aa,aa.cat,k,c2]
 ·refine af o [(21,true),(29,true),(32,true)] 100 rfl ?_ (AK.au rfl ?_)
  ·simp[aa];omega
  ·simp[aa,aa.cat,k,m]
abbrev oq:bE:=fZ aS (λb=>uD (cZ b)) λ_=>[]
theorem sS:bO X 84 oq:=.je λb _=>wo b
theorem Bo(k:Int)(x:fb)(c:bJ k=true):Ev X 65 [dI k,Pc x] [] (dB (right k x)) []:=by
 refine Ev.body Tryz.func65 rfl rfl rfl λd=>?_
 have b:aM X [(84,oq),(85,J3)]:=.cons sS (.cons JZ .nil);cases a:cZ x.2 with
 |none=>exact af b [(14,false)] 100 rfl (by simp[aa,a]) (AK.au rfl (by simp[aa,right,a]))
 |some p=>exact af b [(14,true)] 100 rfl (by simp[aa,a,c,qO a]) (AK.au rfl (by simp[aa,right,a]))
abbrev uL:bE:=gb aI yd (λk x=>dB (right k x)) λk _=>[bJ k=true]
theorem z0:bO X 65 uL:=.gO λk x h=>Bo k x h
theorem Hf(k:Int):Ev X 47 [dI k] [] (dB (bJ k)) []:=by
 refine Ev.body Tryz.func47 rfl rfl rfl λb=>?_
 have a:aM X [(14,wh)]:=.cons yv .nil;exact af a [] 100 rfl ab (AK.au rfl (by simp[aa,bJ]))
abbrev wq:bE:=fZ aI (λk=>dB (bJ k)) λ_=>[]
theorem z8:bO X 47 wq:=.je λk _=>Hf k
abbrev J7(p:aV):ak:=.cells 73 [.c (.int .i64 p.1),.c (sP p)]
theorem wu(k:Int)(p:aV) (n:Int):Ev X 105 [dI k,Ii p,dI n] [] (uD (cj k p n)) []:=by
 refine Ev.body Tryz.func105 rfl rfl rfl λr=>?_
 have f:aM X [(47,wq),(65,uL),(84,oq)]:=.cons z8 (.cons z0 (.cons sS .nil));cases a:bJ k with
 |false =>
  refine af f [(11,true)] 100 rfl (by simp[aa,a]) (AK.au rfl ?_)
  have:cj k p n=none:=by
   unfold cj chunk;split
   ·split <;> simp[a]
   ·rfl
  simp[aa,aa.cat,this]
 |true =>
 have m:=r.Eo 1 rfl 1 rfl;refine af f [(11,false)] 100 rfl (by simp[aa,a]) ?_
 refine AK.bU 1 (λi=>i<=p.2.length/\p.2.find? (λx=>x.1==n)=(p.2.drop i).find? (λx=>x.1==n)) (λi:Nat=>[(0,dI k),(4,.e (.one (.ptr 0 0))),(2,dI n),(8,dI i)]) (λ_=>[J7 p]) (λi=>p.2.length-i) 0 rfl (by simp[aa.cat,aa]) rfl (by simp[aa.cat,aa,aw.same]) rfl ⟨by omega,rfl⟩ ?_
 rintro i ⟨hi,g⟩
 by_cases h:i<p.2.length
 ·have j:p.2.getD i cG.bx=dL p i:=rfl;have l:p.2.drop i=dL p i::p.2.drop (i+1):=by rw[tu h,dL,List.getD_eq_getElem?_getD,aj h];rfl
  rw[l,List.find?_cons] at g
  by_cases d:(dL p i).1=n
  ·rw[show ((dL p i).1==n)=true by simpa using d] at g
   cases b:right k (dL p i) with
   |false =>
    have c:right k (n,(dL p i).2)=false:=d▸b;refine af f [(16,true),(26,true),(34,true)] 100 rfl ?_ (AK.cR (aR.zero rfl ?_))
    ·simp[-List.getD_eq_getElem?_getD,aa,j,d,c,a,h]
    ·have e:cj k p n=none:=by
      have:=mM (k:=k) (x:=dL p i) a;rw[b] at this;simp only[cj,g];simpa using this
     simp[aa,aa.cat,e]
   |true =>
    have c:right k (n,(dL p i).2)=true:=d▸b;refine af f [(16,true),(26,true),(34,false)] 100 rfl ?_ (AK.cR (aR.zero rfl ?_))
    ·simp[-List.getD_eq_getElem?_getD,aa,j,d,c,a,h]
    ·have e:cj k p n=cZ (dL p i).2:=by
      simp only[cj,g,chunk];unfold right at b;split at b
      ·rename_i q o;rw[o];simp only[a,b,Bool.and_self,aZ]
      ·cases b
     simp[-List.getD_eq_getElem?_getD,aa,aa.cat,e,j]
  ·rw[show ((dL p i).1==n)=false by simpa using d] at g
   refine af f [(16,true),(26,false)] 100 rfl ?_ (AK.aA (i+1) rfl (by simp[aa.cat,aa]) rfl rfl rfl (by simp[aa.cat,aa,aw.same]) rfl ⟨h,g⟩ (by omega))
   simp[-List.getD_eq_getElem?_getD,aa,j,d,aB,h];omega
 ·obtain rfl:i=p.2.length:=by omega
  refine af f [(16,false)] 100 rfl (by simp[aa]) (AK.leaveD rfl rfl ?_)
  refine af f [] 100 rfl ab (AK.au rfl ?_);simp[aa,aa.cat,cj,g]
abbrev z9:bE:=Ci aI (mS cG) aI (λk p n=>uD (cj k p n)) λ_ _ _=>[]
theorem Hg:bO X 105 z9:=.Ih λk p n _=>wu k p n
theorem oO(k:Int)(p:aV):gI k p=(decide (1<=p.1/\p.1<=99)&&bJ k&&decide (1<=p.2.length/\p.2.length<=4)&&(List.range p.2.length).all (gq k p)):=by
 rw[oh];simp only[Bool.decide_and];cases bJ k <;> cases decide (1<=p.1) <;> cases decide (p.1<=99) <;> cases decide (1<=p.2.length) <;> cases decide (p.2.length<=4) <;> simp
theorem Bp{k:Int}{p:aV}{i:Nat}(a:i≠0):gq k p i=(right k (dL p i)&&decide ((dL p (i-1)).1<(dL p i).1)):=by
 unfold gq;rw[show (i==0)=false by simpa using a,pz]
theorem yw(k:Int)(p:aV):Ev X 45 [dI k,Ii p] [] (dB (gI k p)) []:=by
 refine Ev.body Tryz.func45 rfl rfl rfl λr=>?_
 have b:aM X [(14,wh),(47,wq),(65,uL)]:=.cons yv (.cons z8 (.cons z0 .nil));have q:=r.Eo 1 rfl 1 rfl;rw[oO]
 by_cases g:1<=p.1/\p.1<=99
 rotate_left
 ·exact af b [(10,true),(14,true),(21,true)] 100 rfl (by simp[aa];omega) (AK.au rfl (by simp[aa,bR g]))
 cases c:bJ k
 ·exact af b [(10,false),(14,true),(21,true)] 100 rfl (by simp[aa,c,g]) (AK.au rfl (by simp[aa]))
 by_cases c3:1<=p.2.length/\p.2.length<=4
 rotate_left
 ·exact af b [(10,false),(14,false),(21,true)] 100 rfl (by simp[aa,c,g];omega) (AK.au rfl (by simp[aa,bR c3]))
 refine af b [(10,false),(14,false),(21,false)] 100 rfl (by simp[aa,c,g];omega) ?_
 rw[aP g,aP c3,cf,cf,cf];refine AK.bU 1 (λi=>i<=p.2.length/\∀ j,j<i->gq k p j=true) (λi:Nat=>[(0,dI k),(3,.e (.one (.ptr 0 0))),(5,dI i)]) (λ_=>[J7 p]) (λi=>p.2.length-i) 0 rfl (by simp[aa.cat,aa]) rfl (by simp[aa.cat,aa,aw.same]) rfl ⟨by omega,by omega⟩ ?_
 rintro i ⟨hi,a⟩
 by_cases h:i<p.2.length
 ·have l:p.2.getD i cG.bx=dL p i:=rfl;cases d:right k (dL p i) with
  |false =>
   refine af b [(26,true),(37,true),(56,true)] 100 rfl ?_ (AK.cR (aR.zero rfl ?_))
   ·simp[-List.getD_eq_getElem?_getD,aa,l,d,c,h]
   ·rw[cq h (by simp only[gq,d,ku])];simp[aa]
  |true =>
   by_cases n:i=0
   ·subst n;refine af b [(26,true),(37,false),(40,false),(56,false)] 100 rfl ?_ (AK.aA 1 rfl (by simp[aa.cat,aa]) rfl rfl rfl (by simp[aa.cat,aa,aw.same]) rfl ⟨h,dc a (by simp only[gq,d,cf];rfl)⟩ (by omega))
    simp[-List.getD_eq_getElem?_getD,aa,l,d,c,h,aB]
   have f:p.2.getD (i-1) cG.bx=dL p (i-1):=rfl;have o:=Bp (k:=k) (p:=p) n
   by_cases m:(dL p (i-1)).1<(dL p i).1
   ·refine af b [(26,true),(37,false),(40,true),(54,false),(56,false)] 100 rfl ?_ (AK.aA (i+1) rfl (by simp[aa.cat,aa]) rfl rfl rfl (by simp[aa.cat,aa,aw.same]) rfl ⟨h,dc a (by rw[o,d,aP m];rfl)⟩ (by omega))
    simp[-List.getD_eq_getElem?_getD,aa,l,f,d,c,h,m,aB];omega
   ·refine af b [(26,true),(37,false),(40,true),(54,true),(56,true)] 100 rfl ?_ (AK.cR (aR.zero rfl ?_))
    ·simp[-List.getD_eq_getElem?_getD,aa,l,f,d,c,h,aB];omega
    ·rw[cq h (by rw[o,bR m,kx])];simp[aa]
 ·obtain rfl:i=p.2.length:=by omega
  refine af b [(26,false)] 100 rfl (by simp[aa]) (AK.leaveD rfl rfl ?_)
  exact af b [] 100 rfl ab (AK.au rfl (by simp[aa,ba.2 a]))
abbrev wv:bE:=gb aI (mS cG) (λk p=>dB (gI k p)) λ_ _=>[]
theorem Ep:bO X 45 wv:=.gO λk p _=>yw k p
theorem cE{α:Type}{l:List α}{i:Nat}{d:α}(h:i<l.length):l.getD i d∈l:=by
 rw[List.getD_eq_getElem?_getD,aj h];exact hX h
theorem Hh{l:List Int}{n:Int}:l.contains n=!(List.range l.length).all λi=>!(l.getD i 0==n):=by
 rw[ld,iC,<-kl,ba,tC]
 constructor
 ·intro h a;obtain⟨i,hi,rfl⟩:=jK.1 h;have:=a i hi;simp[List.getD_eq_getElem?_getD,aj hi] at this
 ·intro h
  by_cases a:n∈l
  ·exact a
  ·exact absurd (λi hi=>by
    have:l.getD i 0≠n:=λe=>a (e▸cE hi)
    simpa using this) h
theorem Hi(l:List Int) (n:Int):Ev X 27 [cI.sl l,dI n] [] (dB (l.contains n)) []:=by
 refine Ev.body Tryz.func27 rfl rfl rfl λe=>?_
 have d:=e.sl 0 rfl;refine bq rfl ab ?_;rw[Hh];refine AK.dX (λi=>i<=l.length/\∀ j,j<i->(!(l.getD j 0==n))=true) (λi:Nat=>[(0,cI.sl l),(1,dI n),(5,dI i)]) (λ_=>[]) (λi=>l.length-i) 0 rfl (by simp[aa.cat,aa,aw.same]) rfl ab ⟨by omega,by omega⟩ ?_
 rintro i ⟨hi,a⟩
 by_cases h:i<l.length
 ·have c:l.getD i cI.bx=l.getD i 0:=rfl
  by_cases b:l.getD i 0=n
  ·refine aE [(9,true),(17,true)] 100 rfl ?_ (AK.dN (aR.zero rfl ?_))
   ·simp[-List.getD_eq_getElem?_getD,aa,c,b,h]
   ·rw[cq h (by simpa using b)];simp[aa]
  ·refine aE [(9,true),(17,false)] 100 rfl ?_ (AK.cN (i+1) rfl (by simp[aa.cat,aa,aw.same]) rfl ab ⟨h,dc a (by simpa using b)⟩ (by omega))
   simp[-List.getD_eq_getElem?_getD,aa,c,b,h,aB];omega
 ·obtain rfl:i=l.length:=by omega
  refine aE [(9,false)] 100 rfl (by simp[aa]) (AK.leave rfl rfl ?_)
  exact bq rfl ab (AK.au rfl (by rw[ba.2 a];simp[aa]))
abbrev Er:bE:=gb (aL cI) aI (λl n=>dB (l.contains n)) λ_ _=>[]
theorem Iv:bO X 27 Er:=.gO λl n _=>Hi l n
theorem yx(k:Int)(ps:List aV) (n:Int):Ev X 86 [dI k,cP.sl ps,dI n] [] (uD (b6 k ps n)) []:=by
 refine Ev.body Tryz.func86 rfl rfl rfl λg=>?_
 have f:=g.sl 1 rfl;have d:aM X [(105,z9)]:=.cons Hg .nil;refine af d [] 100 rfl ab ?_;refine AK.dX (λi=>i<=ps.length/\b6 k ps n=b6 k (ps.drop i) n) (λi:Nat=>[(0,dI k),(1,cP.sl ps),(2,dI n),(8,dI i)]) (λ_=>[]) (λi=>ps.length-i) 0 rfl (by simp[aa.cat,aa,aw.same]) rfl ab ⟨by omega,rfl⟩ ?_
 rintro i ⟨hi,a⟩
 by_cases h:i<ps.length
 ·have e:ps.drop i=ps.getD i (0,[])::ps.drop (i+1):=by rw[tu h,List.getD_eq_getElem?_getD,aj h];rfl
  have c:((ps.getD i cP.bx).1,cG.list (ps.getD i cP.bx).2.length (cG.fn (ps.getD i cP.bx).2))=ps.getD i (0,[]):=by rw[cG.list_fn];rfl
  rw[e,show b6 k (ps.getD i (0,[])::ps.drop (i+1)) n=_ from tI] at a
  cases b:cj k (ps.getD i (0,[])) n with
  |some q =>
   rw[b] at a;refine af d [(14,true),(27,true)] 100 rfl ?_ (AK.dN (aR.zero rfl ?_))
   ·simp[-List.getD_eq_getElem?_getD,aa,c,b,h,cG.ae]
   ·simp[-List.getD_eq_getElem?_getD,aa,aa.cat,c,b,a]
  |none =>
   rw[b] at a;refine af d [(14,true),(27,false)] 100 rfl ?_ (AK.cN (i+1) rfl (by simp[aa.cat,aa,aw.same]) rfl ab ⟨h,a⟩ (by omega))
   simp[-List.getD_eq_getElem?_getD,aa,c,b,h,aB,cG.ae];omega
 ·obtain rfl:i=ps.length:=by omega
  refine aE [(14,false)] 100 rfl (by simp[aa]) (AK.leave rfl rfl ?_)
  exact bq rfl ab (AK.au rfl (by rw[a,List.drop_length];simp[aa,aa.cat,b6]))
abbrev wx:bE:=Ci aI (aL cP) aI (λk ps n=>uD (b6 k ps n)) λ_ _ _=>[]
theorem Et:bO X 86 wx:=.Ih λk ps n _=>yx k ps n
theorem Eu(a b:List Bs):Ev X 107 [cS.sl a,cS.sl b] [] (dB (a==b)) []:=by
 refine Ev.body Tryz.func107 rfl rfl rfl λn=>?_
 have k:=n.sl 0 rfl
 by_cases f:a.length=b.length
 rotate_left
 ·have:(a==b)=false:=eU.2 (by rintro rfl;exact f rfl)
  exact aE [(10,true)] 100 rfl (by simp[aa];omega) (AK.au rfl (by simp[aa,this]))
 refine aE [(10,false)] 100 rfl (by simp[aa];omega) ?_
 refine AK.dX (λi=>i<=a.length/\∀ j,j<i->a.getD j []=b.getD j []) (λi:Nat=>[(0,cS.sl a),(1,cS.sl b),(5,dI i)]) (λ_=>[]) (λi=>a.length-i) 0 rfl (by simp[aa.cat,aa,aw.same]) rfl ab ⟨by omega,by omega⟩ ?_
 rintro i ⟨hi,c⟩
 by_cases h:i<a.length
 ·have g:∀ l:List Bs,l.getD i cS.bx=l.getD i []:=λ_=>rfl
  by_cases d:a.getD i []=b.getD i []
  ·refine aE [(14,true),(25,false)] 100 rfl ?_ (AK.cN (i+1) rfl (by simp[aa.cat,aa,aw.same]) rfl ab ⟨h,λj e=>?_⟩ (by omega))
   ·simp[-List.getD_eq_getElem?_getD,aa,g,d,aB];omega
   ·rcases dC.1 e with e|rfl
    ·exact c j e
    ·exact d
  ·refine aE [(14,true),(25,true)] 100 rfl ?_ (AK.dN (aR.zero rfl ?_))
   ·simp[-List.getD_eq_getElem?_getD,aa,g,d];omega
   ·have:(a==b)=false:=eU.2 (by rintro rfl;exact d rfl)
    simp[aa,this]
 ·obtain rfl:i=a.length:=by omega
  have:a=b:=pv f λj d m=>by rw[<-pL d,<-pL m];exact c j d
  refine aE [(14,false)] 100 rfl (by simp[aa]) (AK.leave rfl rfl ?_)
  exact bq rfl ab (AK.au rfl (by simp[aa,this]))
theorem J8:bO X 107 GY:=.gO λa b _=>Eu a b
theorem oP(t:Bs):∀ k f p,p∈eN t k f->p.length<=8
 |0,_,p,h=>by simp[eN] at h
 |k+1,f,p,h=>by
  simp only[eN] at h;split at h
  ·rename_i a
   rcases dF.1 h with rfl|h
   ·have:=lI t f a;simp only[List.length_take,la];omega
   ·exact oP t k _ p h
  ·cases h
theorem uM{l:List Bs}{p:Bs}(h:p∈l)(b:8<p.length):dO l=none:=by
 unfold dO;rw[an];intro a;simp only[bA,gg] at a;have:=oP l.flatten l.flatten.length 0 p (by rw[show eN l.flatten l.flatten.length 0=l from a.2];exact h)
 omega
theorem pd(l:List Bs)(i:Nat):(l.take i).flatten.length<=l.flatten.length:=by
 have:l.flatten=(l.take i).flatten++(l.drop i).flatten:=by rw[<-tH,jH]
 rw[this,bd];omega
theorem yy{l:List Bs}{i:Nat}(h:40<(l.take i).flatten.length):dO l=none:=by
 have:=pd l i;unfold dO;rw[an];intro a;simp only[bA,db,aD] at a;omega
theorem Ew(l:List Bs):Ev X 87 [cS.sl l] [] (uD (dO l)) []:=by
 refine Ev.body Tryz.func87 rfl rfl rfl λm=>?_
 have k:=m.sl 0 rfl;have b:aM X [(106,Hj),(108,Ir),(107,GY)]:=.cons t106 (.cons MG (.cons J8 .nil));refine af b [] 100 rfl ab ?_;refine AK.dX (λi=>i<=l.length/\(l.take i).flatten.length<=48) (λi:Nat=>[(0,cS.sl l),(4,dS (l.take i).flatten),(5,dI i)]) (λ_=>[]) (λi=>l.length-i) 0 rfl (by simp[aa.cat,aa,aw.same]) rfl ab ⟨by omega,by simp⟩ ?_
 rintro i ⟨hi,f⟩
 by_cases h:i<l.length
 ·have e:l.getD i cS.bx=l.getD i []:=rfl;have g:(l.take (i+1)).flatten=(l.take i).flatten++l.getD i []:=by rw[bu h []];simp
  by_cases a:(l.getD i []).length<=8
  ·by_cases c:(l.take i).flatten.length<=40
   ·refine af b [(9,true),(18,false),(22,false)] 100 rfl ?_ (AK.cN (i+1) rfl ?_ rfl ab ⟨h,by rw[g,bd];omega⟩ (by omega))
    ·simp[-List.getD_eq_getElem?_getD,-List.length_flatten,aa,e,aB];omega
    ·simp only[aa.cat,aa,g,ai,ah];exact⟨aw.same,rfl,rfl⟩
   ·refine af b [(9,true),(18,false),(22,true)] 100 rfl ?_ (AK.dN (aR.zero rfl ?_))
    ·simp[-List.getD_eq_getElem?_getD,-List.length_flatten,aa,e];omega
    ·simp[aa,aa.cat,yy (l:=l) (i:=i) (by omega)]
  ·refine af b [(9,true),(18,true),(22,true)] 100 rfl ?_ (AK.dN (aR.zero rfl ?_))
   ·simp[-List.getD_eq_getElem?_getD,aa,e];omega
   ·simp[aa,aa.cat,uM (cE (d:=[]) h) (by omega)]
 ·obtain rfl:i=l.length:=by omega
  rw[cW] at f ⊢;refine af b [(9,false)] 100 rfl (by simp[aa]) (AK.leave rfl rfl ?_)
  have el:=cS.list_fn l;cases a:db l.flatten with
  |false=>exact af b [(32,true),(38,true)] 100 rfl (by simp[aa,a]) (AK.au rfl (by simp[aa,aa.cat,dO,a]))
  |true =>
   have j:bl l.flatten=true:=by simp only[db,bA] at a;exact a.2
   cases c:(pieces l.flatten==l) with
   |false =>
    refine af b [(32,false),(38,true)] 100 rfl ?_ (AK.au rfl (by simp[aa,aa.cat,dO,c]))
    simp[-List.length_flatten,aa,a,j,el,cS.list_fn,cS.ae,by simpa using c];omega
   |true =>
    refine af b [(32,false),(38,false)] 100 rfl ?_ (AK.au rfl (by simp[aa,aa.cat,dO,a,c]))
    simp[-List.length_flatten,aa,a,j,el,cS.list_fn,cS.ae,by simpa using c];omega
abbrev Ex:bE:=fZ (aL cS) (λl=>uD (dO l)) λ_=>[]
theorem J9:bO X 87 Ex:=.je λl _=>Ew l
abbrev ND(s:cK):ak:=.cells 83 [.c (.int .i64 s.1),.c (.sl false 2 s.2.length (cL.fn s.2))]
abbrev Ck(k:Int)(ps:List aV)(ns:List Int):List Bs:=ns.map λn=>(b6 k ps n).getD []
theorem Hk{k:Int}{ps:List aV}{ns:List Int}{j:Nat}(h:j<ns.length):Ck k ps (ns.take (j+1))=Ck k ps (ns.take j)++[(b6 k ps (ns.getD j 0)).getD []]:=by
 rw[bu h 0,Ck,mY];rfl
theorem wy{k:Int}{ps:List aV}{ns:List Int}{j:Nat}(h:j<ns.length)(a:b6 k ps (ns.getD j 0)=none):cM k ps ns=none:=by
 unfold cM;rw[an];intro b;have:=List.all_eq_true.1 b _ (cE (d:=0) h);rw[a] at this;cases this
theorem uN{k:Int}{ps:List aV}{ns:List Int}(h:∀ j,j<ns.length->(b6 k ps (ns.getD j 0)).isSome=true):cM k ps ns=some (Ck k ps ns):=by
 unfold cM;rw[ar];refine List.all_eq_true.2 λx b=>?_
 obtain⟨j,a,rfl⟩:=jK.1 b;have:=h j a
 rwa [List.getD_eq_getElem?_getD,aj a] at this
set_option maxHeartbeats 4000000 in
theorem uO(k:Int)(s:cK)(ps:List aV)(J:s.2.length<=4000000)(I:∀ x∈s.2,x.2.length<=4000000) :
  Ev X 66 [dI k,JJ s,cP.sl ps] [] (Ml ((bY k s ps).getD []) (bY k s ps).isSome) []:=by
 refine Ev.body Tryz.func66 rfl rfl rfl λK=>?_
 have a:aM X [(47,wq),(86,wx),(87,Ex),(88,NF)]:=.cons z8 (.cons Et (.cons J9 (.cons t88 .nil)));cases z:bJ k with
 |false =>
  refine af a [(19,true)] 100 rfl ?_ (AK.au rfl ?_)
  ·simp[aa,z]
  ·simp[aa,aa.cat,bY,z,aw.nil]
 |true =>
 refine af a [(19,false),(1000004,true)] 100 rfl (by simp[aa,z]) ?_
 refine AK.lA 8 148 2 rfl rfl ?_;refine af a [] 100 rfl ab ?_;refine AK.bU 2 (λi=>i<=s.2.length/\∀ j,j<i->(fileOf k ps (s.2.getD j ([],[]))).isSome=true) (λi:Nat=>[(0,dI k),(2,cP.sl ps),(4,.e (.one (.ptr 0 0))),(8,.e (.one (.vec 1 2 (bL k ps (s.2.take i)).length (cF.fn (bL k ps (s.2.take i)))))),(9,dI i)]) (λi=>[ND s,.vec 148 2 (bL k ps (s.2.take i)).length (cF.fn (bL k ps (s.2.take i)))]) (λi=>s.2.length-i) 0 rfl (by simp[aa.cat,aa,aw.same,aw.nil,bL]) rfl (by simp[aa.cat,aa,aw.same,aw.nil,bL]) rfl ⟨by omega,by omega⟩ ?_
 rintro i ⟨hi,g⟩
 by_cases h:i<s.2.length
 ·have B:=I _ (cE (d:=([],[])) h);have b:=lJ (k:=k) (ps:=ps) h;have C:(bL k ps (s.2.take i)).length=i:=by simp[bL];omega
  have f:s.2.getD (i:Int).toNat cL.bx=s.2.getD i ([],[]):=by rw[az];rfl
  have l:=lK (k:=k) (ps:=ps) h;generalize E:s.2.getD i ([],[])=x at B b f l;generalize bL k ps (s.2.take i)=fs at *;refine af a [(25,true),(1000008,true)] 100 rfl (by simp[aa];omega) ?_
  refine AK.lA 10 9 1 rfl rfl ?_;refine af a [] 100 rfl ab ?_;refine AK.bU 3 (λj=>j<=x.2.length/\∀ q,q<j->(b6 k ps (x.2.getD q 0)).isSome=true) (λj:Nat=>[(0,dI k),(2,cP.sl ps),(4,.e (.one (.ptr 0 0))),(8,.e (.one (.vec 1 2 fs.length (cF.fn fs)))),(9,dI i),(10,.e (.one (.vec 2 1 (Ck k ps (x.2.take j)).length (cS.fn (Ck k ps (x.2.take j)))))),(11,dI j)]) (λj=>[ND s,.vec 148 2 fs.length (cF.fn fs),.vec 9 1 (Ck k ps (x.2.take j)).length (cS.fn (Ck k ps (x.2.take j)))]) (λj=>x.2.length-j) 0 rfl (by simp[aa.cat,aa,aw.same,aw.nil]) rfl (by simp[aa.cat,aa,aw.same,aw.nil]) rfl ⟨by omega,by omega⟩ ?_
  rintro j ⟨D,u⟩
  by_cases F:j<x.2.length
  ·have c:x.2.getD (j:Int).toNat cI.bx=x.2.getD j 0:=by rw[az];rfl
   cases m:b6 k ps (x.2.getD j 0) with
   |none =>
    have e:fileOf k ps x=none:=by simp[fileOf,wy F m]
    refine af a [(37,true),(56,true)] 100 rfl ?_ (AK.cR (AK.nx (aR.zero rfl ?_)))
    ·simp only[aa,f,c,m,cP.list_fn,cP.ae];simp;omega
    ·rw[l e];simp[aa,aa.cat,aw.nil]
   |some q =>
    have n:=Hk (k:=k) (ps:=ps) F;rw[m] at n;have v:(Ck k ps (x.2.take j)).length=j:=by simp;omega
    have w:=cS.eO (Ck k ps (x.2.take j)) q;refine af a [(37,true),(56,false)] 100 rfl ?_ (AK.aA (j+1) rfl ?_ rfl rfl rfl ?_ rfl ⟨F,λr o=>?_⟩ (by omega))
    ·simp only[aa,f,c,m,cP.list_fn,cP.ae,v,aB,show i9.bytes=16 from rfl];simp;omega
    ·rw[n];simp only[aa.cat,aa,f,c,m,cP.list_fn,bd,fi,ai,ah]
     and_intros <;> first|exact aw.same|exact w|rfl|omega
    ·rw[n];simp only[aa.cat,aa,f,c,m,cP.list_fn,bd,fi,ai,ah]
     and_intros <;> first|exact aw.same|exact w|rfl|omega
    ·rcases dC.1 o with o|rfl
     ·exact u r o
     ·rw[m];rfl
  ·obtain rfl:j=x.2.length:=by omega
   have y:=uN u;rw[cW];have v:(Ck k ps x.2).length=x.2.length:=by simp
   refine af a [(37,false)] 100 rfl (by simp only[aa,f];simp[h]) (AK.leaveD rfl rfl ?_)
   cases p:dO (Ck k ps x.2) with
   |none =>
    have e:fileOf k ps x=none:=by simp[fileOf,y,p]
    refine af a [(68,true)] 100 rfl ?_ (AK.cR (aR.zero rfl ?_))
    ·simp only[aa,cS.list_fn,cS.ae,p];simp
    ·rw[l e];simp[aa,aa.cat,aw.nil]
   |some t =>
    have e:fileOf k ps x=some (x.1,t):=by simp[fileOf,y,p]
    rw[e] at b;have G:=cF.eO fs (x.1,t);refine af a [(68,false)] 100 rfl ?_ (AK.aA (i+1) rfl ?_ rfl rfl rfl ?_ rfl ⟨h,λr o=>?_⟩ (by omega))
    ·simp only[aa,f,cS.list_fn,cS.ae,p,C,aB,show i148.bytes=32 from rfl];simp;omega
    ·rw[b];simp only[aa.cat,aa,f,cS.list_fn,p,cw,bd,fi,ai,ah]
     and_intros <;> first|exact aw.same|exact G|rfl|omega
    ·rw[b];simp only[aa.cat,aa,f,cS.list_fn,p,cw,bd,fi,ai,ah]
     and_intros <;> first|exact aw.same|exact G|rfl|omega
    ·rcases dC.1 o with o|rfl
     ·exact g r o
     ·rw[E,e];rfl
 ·obtain rfl:i=s.2.length:=by omega
  rw[cW];have H:s.2.all (λx=>(fileOf k ps x).isSome)=true:=List.all_eq_true.2 λx B=>by
   obtain⟨j,D,rfl⟩:=jK.1 B;have:=g j D;simpa[List.getD_eq_getElem?_getD,aj D] using this
  refine af a [(25,false)] 100 rfl (by simp[aa]) (AK.leaveD rfl rfl ?_)
  cases A:iY (bL k ps s.2) with
  |false =>
   refine af a [(83,true)] 100 rfl ?_ (AK.au rfl ?_)
   ·simp[aa,cF.list_fn,cF.ae,A]
   ·simp[aa,aa.cat,bY,A,aw.nil]
  |true =>
   refine af a [(83,false)] 100 rfl ?_ (AK.au rfl ?_)
   ·simp[aa,cF.list_fn,cF.ae,A]
   ·simp[aa,aa.cat,bY,A,z,H,aw.same]
abbrev ra:bE:=Ci aI (mS cL) (aL cP) (λk s ps=>Ml ((bY k s ps).getD []) (bY k s ps).isSome) λ_ s _=>[s.2.length<=4000000,∀ x∈s.2,x.2.length<=4000000]
theorem yz:bO X 66 ra:=.Ih λk s ps h=>uO k s ps h.1 h.2
abbrev gv:=Int×Int
def fy(h:gv):Bool:=decide (1<=h.1/\h.1<=2)&&decide (1<=h.2/\h.2<=20)
def mn(l:List gv):Bool:=(List.range l.length).all (λi=>fy (l.getD i (0,0)))&&decide (l.length<=9)
abbrev Pt(h:gv):D:=.e (.agg [.c (.int .i64 h.1),.c (.int .i64 h.2)])
theorem Bq(h:gv):Ev X 67 [Pt h] [] (dB (fy h)) []:=by
 refine Ev.body Tryz.func67 rfl rfl rfl λb=>?_
 have a:aM X [(14,wh)]:=.cons yv .nil
 by_cases c:1<=h.1/\h.1<=2
 ·exact af a [(6,true)] 100 rfl (by simp[aa,c]) (AK.au rfl (by simp[aa,fy,c]))
 ·exact af a [(6,false)] 100 rfl (by simp[aa];omega) (AK.au rfl (by simp only[aa,fy,bR c];simp))
theorem Br(l:List gv):Ev X 48 [cH.sl l] [] (dB (mn l)) []:=by
 refine Ev.body Tryz.func48 rfl rfl rfl λf=>?_
 have e:=f.sl 0 rfl;have b:aM X [(67,fZ sJ (λh=>dB (fy h)) λ_=>[])]:=.cons (.je λh _=>Bq h) .nil
 refine af b [] 100 rfl ab ?_;unfold mn;refine AK.dX (λi=>i<=l.length/\∀ j,j<i->fy (l.getD j (0,0))=true) (λi:Nat=>[(0,cH.sl l),(3,dI i)]) (λ_=>[]) (λi=>l.length-i) 0 rfl (by simp[aa.cat,aa,aw.same]) rfl ab ⟨by omega,by omega⟩ ?_
 rintro i ⟨hi,a⟩
 by_cases h:i<l.length
 ·have d:l.getD i cH.bx=l.getD i (0,0):=rfl;cases c:fy (l.getD i (0,0)) with
  |false =>
   refine af b [(7,true),(15,true)] 100 rfl ?_ (AK.dN (aR.zero rfl ?_))
   ·simp[-List.getD_eq_getElem?_getD,aa,d,c,h]
   ·rw[cq h c];simp[aa]
  |true =>
   refine af b [(7,true),(15,false)] 100 rfl ?_ (AK.cN (i+1) rfl (by simp[aa.cat,aa,aw.same]) rfl ab ⟨h,dc a c⟩ (by omega))
   simp[-List.getD_eq_getElem?_getD,aa,d,c,h,aB];omega
 ·obtain rfl:i=l.length:=by omega
  refine af b [(7,false)] 100 rfl (by simp[aa]) (AK.leave rfl rfl ?_)
  exact af b [] 100 rfl ab (AK.au rfl (by rw[ba.2 a];simp[aa];omega))
abbrev pP:bE:=fZ (aL cH) (λl=>dB (mn l)) λ_=>[]
theorem Hl:bO X 48 pP:=.je λl _=>Br l
def aK(ps:List aV):List Int:=ps.flatMap λp=>p.2.map (·.1)
def yA{α:Type}(f:α->Int)(d:α)(l:List α)(i:Nat):Bool:=i==0||decide (f (l.getD (i-1) d)<f (l.getD i d))
def mO(k:Int)(ps:List aV)(i:Nat):Bool:=gI k (ps.getD i (0,[]))&&yA (·.1) (0,[]) ps i
def jQ(k:Int)(s:cX)(i:Nat):Bool:=decide (1<=(s.2.1.getD i (0,[])).1/\(s.2.1.getD i (0,[])).1<=20)&&yA (·.1) (0,[]) s.2.1 i&&(bY k (s.2.1.getD i (0,[])) s.1).isSome
def gw(k:Int)(s:cX):Bool:=(List.range s.1.length).all (mO k s.1)&&decide (aK s.1).Nodup&&(List.range s.2.1.length).all (jQ k s)&&bJ k&&mn s.2.2&&decide (s.1.length<=20)
theorem rb{ps:List aV}{i:Nat}(h:i<ps.length):aK (ps.take (i+1))=aK (ps.take i)++(ps.getD i (0,[])).2.map (·.1):=by
 rw[bu h (0,[])];simp[aK]
theorem Bt{ps:List aV}{i:Nat}(h:¬(aK (ps.take i)).Nodup):¬(aK ps).Nodup:=λa=>h (by
 have:aK ps=aK (ps.take i)++aK (ps.drop i):=by unfold aK;rw[<-pq,jH]
 rw[this] at a;exact(List.nodup_append.1 a).1)
theorem rf{l:List Int}{n:Int}:(l++[n]).Nodup↔l.Nodup/\n∉l:=by
 rw[List.nodup_append];simp;intro _;exact⟨λh b=>h n b rfl,λh a c e=>h (e▸c)⟩
abbrev F0(s:cX):ak:=.cells 41 [.c (.sl false 2 s.1.length (cP.fn s.1)),.c (.sl false 2 s.2.1.length (cD.fn s.2.1)),.c (.sl false 2 s.2.2.length (cH.fn s.2.2))]
theorem Ey(k:Int)(s:cX)(x:cK)(c:x.2.length<=4000000)(b:∀ y∈x.2,y.2.length<=4000000):Ev X 46 [dI k,Ba s,JJ x] [] (dB (bY k x s.1).isSome) []:=by
 refine Ev.body Tryz.func46 rfl rfl rfl λd=>?_
 have a:aM X [(66,ra)]:=.cons yz .nil;have e:(x.1,cL.list x.2.length (cL.fn x.2))=x:=by rw[cL.list_fn]
 refine af a [] 100 rfl ?_ (AK.au rfl ?_)
 ·simp only[aa,cL.list_fn,cL.ae,cP.ae,c,ai,ah];exact b
 ·simp[aa,aa.cat,cL.list_fn,cP.list_fn]
abbrev Ez:bE:=Ci aI zS (mS cL) (λk s x=>dB (bY k x s.1).isSome) λ_ _ x=>[x.2.length<=4000000,∀ y∈x.2,y.2.length<=4000000]
theorem Ka:bO X 46 Ez:=.Ih λk s x h=>Ey k s x h.1 h.2
theorem ma{α:Type}{f:α->Int}{d:α}{l:List α}{i:Nat}(h:i≠0):yA f d l i=decide (f (l.getD (i-1) d)<f (l.getD i d)):=by
 unfold yA;rw[show (i==0)=false by simpa using h,pz]
set_option maxHeartbeats 4000000 in
theorem wz(k:Int)(s:cX)(P:qQ s)(T:s.1.length<=4000000)(V:s.2.1.length<=4000000):Ev X 28 [dI k,Ba s] [] (dB (gw k s)) []:=by
 refine Ev.body Tryz.func28 rfl rfl rfl λR=>?_
 have g:aM X [(45,wv),(27,Er),(14,wh),(46,Ez),(47,wq),(48,pP)]:=.cons Ep (.cons Iv (.cons yv (.cons Ka (.cons z8 (.cons Hl .nil)))));refine af g [(1000002,true)] 100 rfl ab ?_;refine AK.lA 5 3 1 rfl rfl ?_;refine af g [] 100 rfl ab ?_;unfold gw;refine AK.bU 2 (λi=>i<=s.1.length/\(∀ j,j<i->mO k s.1 j=true)/\(aK (s.1.take i)).Nodup/\(aK (s.1.take i)).length<=4*i) (λi:Nat=>[(0,dI k),(3,.e (.one (.ptr 0 0))),(5,.e (.one (.vec 1 1 (aK (s.1.take i)).length (cI.fn (aK (s.1.take i)))))),(6,dI i)]) (λi=>[F0 s,.vec 3 1 (aK (s.1.take i)).length (cI.fn (aK (s.1.take i)))]) (λi=>s.1.length-i) 0 rfl (by simp[aa.cat,aa,aw.nil,aK]) rfl (by simp[aa.cat,aa,aw.nil,aw.same,aK]) rfl ⟨by omega,by omega,by simp[aK],by simp[aK]⟩ ?_
 rintro i ⟨hi,m,B,Q⟩
 by_cases h:i<s.1.length
 ·have x:=rb h;have I:=Bt (ps:=s.1) (i:=i+1);have q:s.1.getD i cP.bx=s.1.getD i (0,[]):=rfl;have t:s.1.getD (i-1) cP.bx=s.1.getD (i-1) (0,[]):=rfl;have c:mO k s.1 i=(gI k (s.1.getD i (0,[]))&&yA (·.1) (0,[]) s.1 i):=rfl;have u:=ma (f:=λp:aV=>p.1) (d:=(0,[])) (l:=s.1) (i:=i)
  generalize K:s.1.getD i (0,[])=p at *;generalize s.1.getD (i-1) (0,[])=p' at *;cases y:gI k p with
  |false =>
   rw[y,ku] at c;refine af g [(14,true),(25,true),(44,true)] 100 rfl ?_ (AK.cR (aR.zero rfl ?_))
   ·simp[-List.getD_eq_getElem?_getD,aa,q,y,cG.list_fn,cG.ae,h]
   ·rw[cq h c];simp[aa]
  |true =>
   have S:p.2.length<=4:=by rw[oO] at y;simp only[bA,aD] at y;exact y.1.2.2
   rw[y,cf] at c;cases n:yA (·.1) (0,[]) s.1 i with
   |false =>
    have v:i≠0:=by rintro rfl;cases n
    have F:¬p'.1<p.1:=by rw[u v] at n;exact of_decide_eq_false n
    refine af g [(14,true),(25,false),(28,true),(42,true),(44,true)] 100 rfl ?_ (AK.cR (aR.zero rfl ?_))
    ·simp[-List.getD_eq_getElem?_getD,aa,q,t,y,cG.list_fn,cG.ae,h,aB];omega
    ·rw[cq h (c.trans n)];simp[aa]
   |true =>
   rw[n] at c
   apply AK.join [(0,dI k),(3,.e (.one (.ptr 0 0))),(5,.e (.one (.vec 1 1 (aK (s.1.take i)).length (cI.fn (aK (s.1.take i)))))),(6,dI i),(7,dI 0)] [F0 s,.vec 3 1 (aK (s.1.take i)).length (cI.fn (aK (s.1.take i)))]
   ·intro D
    by_cases v:i=0
    ·subst v;refine af g [(14,true),(25,false),(28,false),(44,false)] 100 rfl ?_ (D _ _ rfl ?_)
     ·simp[-List.getD_eq_getElem?_getD,aa,q,y,cG.list_fn,cG.ae,h]
     ·simp[aa.cat,aa,aw.same]
    ·have F:p'.1<p.1:=by rw[u v] at n;exact ki n
     refine af g [(14,true),(25,false),(28,true),(42,false),(44,false)] 100 rfl ?_ (D _ _ rfl ?_)
     ·simp[-List.getD_eq_getElem?_getD,aa,q,t,y,cG.list_fn,cG.ae,h,aB];omega
     ·simp[aa.cat,aa,aw.same]
   generalize aK (s.1.take i)=ns at *;refine AK.bU 2 (λj=>j<=p.2.length/\(ns++(p.2.take j).map (·.1)).Nodup) (λj:Nat=>[(0,dI k),(3,.e (.one (.ptr 0 0))),(5,.e (.one (.vec 1 1 (ns++(p.2.take j).map (·.1)).length (cI.fn (ns++(p.2.take j).map (·.1)))))),(6,dI i),(7,dI j)]) (λj=>[F0 s,.vec 3 1 (ns++(p.2.take j).map (·.1)).length (cI.fn (ns++(p.2.take j).map (·.1)))]) (λj=>p.2.length-j) 0 rfl (by simp[aa.cat,aa,aw.same]) rfl (by simp[aa.cat,aa,aw.same]) rfl ⟨by omega,by simpa using B⟩ ?_
   rintro j ⟨U,A⟩
   by_cases w:j<p.2.length
   ·have G:p.2.getD j cG.bx=dL p j:=rfl;have z:ns++(p.2.take (j+1)).map (·.1)=(ns++(p.2.take j).map (·.1))++[(dL p j).1]:=by rw[bu w (0,[])];simp
    have E:(ns++(p.2.take j).map (·.1)).length=ns.length+j:=by simp;omega
    generalize ns++(p.2.take j).map (·.1)=a at *;cases H:a.contains (dL p j).1 with
    |true =>
     refine af g [(53,true),(67,true)] 100 rfl ?_ (AK.cR (AK.nx (aR.zero rfl ?_)))
     ·simp[-List.getD_eq_getElem?_getD,-List.contains_eq_mem,aa,q,G,h,w,H,cI.list_fn,cI.ae]
     ·have L:¬(aK s.1).Nodup:=I (by
       have e:ns++p.2.map (·.1)=(ns++(p.2.take (j+1)).map (·.1))++(p.2.drop (j+1)).map (·.1):=by rw[dt,<-mY,jH]
       rw[x,e,z];intro L;exact(rf.1 (List.nodup_append.1 L).1).2 (by simpa using H))
      simp[aa,L]
    |false =>
     have O:=cI.eO a (dL p j).1;have M:cI.list (ns.length+j) (cI.fn a)=a:=by rw[<-E];exact cI.list_fn a
     refine af g [(53,true),(67,false)] 100 rfl ?_ (AK.aA (j+1) rfl ?_ rfl rfl rfl ?_ rfl ⟨w,?_⟩ (by omega))
     ·simp[-List.getD_eq_getElem?_getD,-List.contains_eq_mem,aa,q,G,h,w,H,cI.list_fn,cI.ae,E,M,aB,show i3.bytes=8 from rfl];omega
     ·rw[z];simp only[aa.cat,aa,az,q,G,bd,fi,ai,ah]
      and_intros <;> first|exact aw.same|exact O|rfl|omega
     ·rw[z];simp only[aa.cat,aa,az,q,G,bd,fi,ai,ah]
      and_intros <;> first|exact aw.same|exact O|rfl|omega
     ·rw[z,rf];exact⟨A,by simpa using H⟩
   ·obtain rfl:j=p.2.length:=by omega
    rw[cW] at A ⊢;refine af g [(53,false)] 100 rfl ?_ (AK.leaveD rfl rfl ?_)
    ·simp[-List.getD_eq_getElem?_getD,aa,q,h]
    refine af g [] 100 rfl ?_ (AK.aA (i+1) rfl ?_ rfl rfl rfl ?_ rfl ⟨h,dc m c,by rw[x];exact A,by rw[x];simp;omega⟩ (by omega))
    ·simp[aa,aB];omega
    ·rw[x];simp[aa.cat,aa,aw.same]
    ·rw[x];simp[aa.cat,aa,aw.same]
 obtain rfl:i=s.1.length:=by omega
 rw[cW] at B ⊢;refine af g [(14,false)] 100 rfl (by simp[aa]) (AK.leaveD rfl rfl ?_)
 refine af g [] 100 rfl ab ?_;rw[ba.2 m,aP B,cf,cf];generalize aK s.1=ns;refine AK.bU 2 (λi=>i<=s.2.1.length/\(∀ j,j<i->jQ k s j=true)) (λi:Nat=>[(0,dI k),(3,.e (.one (.ptr 0 0))),(8,dI i)]) (λ_=>[F0 s,.vec 3 1 ns.length (cI.fn ns)]) (λi=>s.2.1.length-i) 0 rfl (by simp[aa.cat,aa]) rfl (by simp[aa.cat,aa,aw.same]) rfl ⟨by omega,by omega⟩ ?_
 rintro i ⟨hi,m⟩
 by_cases h:i<s.2.1.length
 ·have q:s.2.1.getD i cD.bx=s.2.1.getD i (0,[]):=rfl;have t:s.2.1.getD (i-1) cD.bx=s.2.1.getD (i-1) (0,[]):=rfl;have o:=P _ (cE (d:=(0,[])) h);have c:jQ k s i=(decide (1<=(s.2.1.getD i (0,[])).1/\(s.2.1.getD i (0,[])).1<=20)&&yA (·.1) (0,[]) s.2.1 i&&(bY k (s.2.1.getD i (0,[])) s.1).isSome):=rfl;have u:=ma (f:=λp:cK=>p.1) (d:=(0,[])) (l:=s.2.1) (i:=i)
  generalize K:s.2.1.getD i (0,[])=p at *;generalize s.2.1.getD (i-1) (0,[])=p' at *
  by_cases C:1<=p.1/\p.1<=20
  rotate_left
  ·refine af g [(85,true),(96,true),(116,true),(126,true)] 100 rfl ?_ (AK.cR (aR.zero rfl ?_))
   ·simp[-List.getD_eq_getElem?_getD,aa,q,h];omega
   ·rw[cq h (by rw[c,bR C];rfl)];simp[aa]
  cases n:yA (·.1) (0,[]) s.2.1 i with
  |false =>
   have v:i≠0:=by rintro rfl;cases n
   have F:¬p'.1<p.1:=by rw[u v] at n;exact of_decide_eq_false n
   refine af g [(85,true),(96,false),(99,true),(113,true),(116,true),(126,true)] 100 rfl ?_ (AK.cR (aR.zero rfl ?_))
   ·simp[-List.getD_eq_getElem?_getD,aa,q,t,h,C,aB];omega
   ·rw[cq h (by rw[c,n,kx,ku])];simp[aa]
  |true =>
   rw[aP C,n,cf,cf] at c;cases w:(bY k p s.1).isSome with
   |false =>
    by_cases v:i=0
    ·subst v;refine af g [(85,true),(96,false),(99,false),(116,false),(126,true)] 100 rfl ?_ (AK.cR (aR.zero rfl ?_))
     ·simp[-List.getD_eq_getElem?_getD,aa,q,h,C,cL.list_fn,cL.ae,cP.list_fn,cP.ae,cD.ae,cH.ae,w,o.1];exactλa b r=>o.2 (a,b) r
     ·rw[cq h (c.trans w)];simp[aa]
    ·have F:p'.1<p.1:=by rw[u v] at n;exact ki n
     refine af g [(85,true),(96,false),(99,true),(113,false),(116,false),(126,true)] 100 rfl ?_ (AK.cR (aR.zero rfl ?_))
     ·simp[-List.getD_eq_getElem?_getD,aa,q,t,h,C,aB,cL.list_fn,cL.ae,cP.list_fn,cP.ae,cD.ae,cH.ae,w,o.1];and_intros <;> first|omega|exactλa b r=>o.2 (a,b) r
     ·rw[cq h (c.trans w)];simp[aa]
   |true =>
    rw[w] at c
    by_cases v:i=0
    ·subst v;refine af g [(85,true),(96,false),(99,false),(116,false),(126,false)] 100 rfl ?_ (AK.aA 1 rfl (by simp[aa.cat,aa]) rfl rfl rfl (by simp[aa.cat,aa,aw.same]) rfl ⟨h,dc m c⟩ (by omega))
     simp[-List.getD_eq_getElem?_getD,aa,q,h,C,aB,cL.list_fn,cL.ae,cP.list_fn,cP.ae,cD.ae,cH.ae,w,o.1];exactλa b r=>o.2 (a,b) r
    ·have F:p'.1<p.1:=by rw[u v] at n;exact ki n
     refine af g [(85,true),(96,false),(99,true),(113,false),(116,false),(126,false)] 100 rfl ?_ (AK.aA (i+1) rfl (by simp[aa.cat,aa]) rfl rfl rfl (by simp[aa.cat,aa,aw.same]) rfl ⟨h,dc m c⟩ (by omega))
     simp[-List.getD_eq_getElem?_getD,aa,q,t,h,C,aB,cL.list_fn,cL.ae,cP.list_fn,cP.ae,cD.ae,cH.ae,w,o.1];and_intros <;> first|omega|exactλa b r=>o.2 (a,b) r
 obtain rfl:i=s.2.1.length:=by omega
 refine af g [(85,false)] 100 rfl (by simp[aa]) (AK.leaveD rfl rfl ?_)
 rw[ba.2 m,cf];cases J:bJ k
 ·exact af g [(129,false),(134,false)] 100 rfl (by simp[aa,J]) (AK.au rfl (by simp[aa]))
 cases N:mn s.2.2
 ·exact af g [(129,true),(134,false)] 100 rfl (by simp[aa,J,N,cH.list_fn,cH.ae]) (AK.au rfl (by simp[aa]))
 exact af g [(129,true),(134,true)] 100 rfl (by simp[aa,J,N,cH.list_fn,cH.ae]) (AK.au rfl (by simp[aa];omega))
abbrev sT:bE:=gb aI zS (λk s=>dB (gw k s)) λ_ s=>[qQ s,s.1.length<=4000000,s.2.1.length<=4000000]
theorem Bu:bO X 28 sT:=.gO λk s h=>wz k s h.1 h.2.1 h.2.2
def fg(n:Int)(a:List Int×Bool) (y:Int):List Int×Bool :=
 if a.2=true then (if y=n then a else (a.1++[y],true)) else if n<=y then (if y=n then (a.1++[n],true) else (a.1++[n,y],true)) else (a.1++[y],false)
abbrev kZ(n:Int)(l:List Int)(i:Nat):List Int×Bool:=(l.take i).foldl (fg n) ([],false)
def jR(l:List Int) (n:Int):List Int:=if (l.foldl (fg n) ([],false)).2=true then (l.foldl (fg n) ([],false)).1 else (l.foldl (fg n) ([],false)).1++[n]
theorem wA{n:Int}{l:List Int}{i:Nat}(h:i<l.length):kZ n l (i+1)=fg n (kZ n l i) (l.getD i 0):=by
 unfold kZ;rw[bu h 0,mX];rfl
theorem rh(n:Int)(l:List Int):∀ i,i<=l.length->(kZ n l i).1.length+(if (kZ n l i).2=true then 0 else 1)<=i+1
 |0,_=>by simp[kZ]
 |i+1,h=>by
  have:=rh n l i (by omega)
  rw[wA (by omega)]
  generalize kZ n l i=a at *;obtain⟨a,b⟩:=a;unfold fg;cases b with
  |true =>
   simp only[aZ] at this ⊢;split <;> simp <;> omega
  |false =>
   simp only[fQ,aQ] at this ⊢;split
   ·split <;> simp <;> omega
   ·simp;omega
theorem EA(l:List Int) (n:Int):(jR l n).length<=l.length+1:=by
 have:=rh n l l.length (aq _);simp only[kZ,cW] at this;unfold jR;split at this <;> rename_i h
 ·rw[ar h];omega
 ·rw[an h];simp;omega
theorem qX{α:Type}(c:jd α)(l:List α)(x y:α):aw (l.length+1+1) (cx (l.length+1) (cx l.length (c.fn l) λq=>[c.enc x].getD q []) λq=>[c.enc y].getD q []) (c.fn (l++[x,y])):=c.qX l x y
theorem EB(l:List Int) (n:Int)(r:l.length<=100000000):Ev X 44 [cI.sl l,dI n] [] (cI.sl (jR l n)) []:=by
 refine Ev.body Tryz.func44 rfl rfl rfl λp=>?_
 refine aE [(1000002,true)] 100 rfl ab ?_;refine AK.lA 5 3 1 rfl rfl ?_;refine bq rfl ab ?_;refine AK.bU 1 (λi=>i<=l.length) (λi:Nat=>[(0,cI.sl l),(1,dI n),(5,.e (.one (.vec 0 1 (kZ n l i).1.length (cI.fn (kZ n l i).1)))),(6,dB (kZ n l i).2),(7,dI i)]) (λi=>[.vec 3 1 (kZ n l i).1.length (cI.fn (kZ n l i).1)]) (λi=>l.length-i) 0 rfl (by simp[kZ,aa.cat,aa,aw.same,aw.nil]) rfl (by simp[kZ,aa.cat,aa,aw.same,aw.nil]) rfl (by omega) ?_
 intro i hi;have f:=rh n l i hi
 by_cases h:i<l.length
 ·have c:=wA (n:=n) h;have d:l.getD (i:Int).toNat cI.bx=l.getD i 0:=by rw[az];rfl
  generalize l.getD i 0=y at *;generalize kZ n l i=a at *;obtain⟨a,b⟩:=a;have j:=λy=>cI.eO a y
  have o:=λx y=>cI.qX a x y
  have q:(a.length+1+1)*8<=140737488355328:=by simp only at f;split at f <;> omega
  have fin:∀ a',kZ n l (i+1)=a'->True:=λ_ _=>trivial
  have k:l.length-(i+1)<l.length-i:=by omega
  by_cases g:y=n
  ·cases b with
   |true =>
    rw[show fg n (a,true) y=(a,true) by simp[fg,g]] at c
    refine aE [(12,true),(34,false)] 100 rfl ?_ (AK.aA (i+1) rfl ?_ rfl rfl rfl ?_ rfl h k)
    ·simp only[aa,d,g,aB];simp;omega
    ·rw[c];simp[aa.cat,aa,aw.same]
    ·rw[c];simp[aa.cat,aa,aw.same]
   |false =>
    rw[show fg n (a,false) y=(a++[n],true) by simp[fg,g]] at c
    refine aE [(12,true),(24,true),(34,false)] 100 rfl ?_ (AK.aA (i+1) rfl ?_ rfl rfl rfl ?_ rfl h k)
    ·simp only[aa,d,g,aB,show i3.bytes=8 from rfl];simp;omega
    ·rw[c];simp only[aa.cat,aa,bd,fi,ai,ah];and_intros <;> first|exact aw.same|exact j n|rfl|omega
    ·rw[c];simp only[aa.cat,aa,bd,fi,ai,ah];and_intros <;> first|exact aw.same|exact j n|rfl|omega
  ·cases b with
   |true =>
    rw[show fg n (a,true) y=(a++[y],true) by simp[fg,g]] at c
    refine aE [(12,true),(34,true)] 100 rfl ?_ (AK.aA (i+1) rfl ?_ rfl rfl rfl ?_ rfl h k)
    ·simp only[aa,d,aB,show i3.bytes=8 from rfl];simp[g];omega
    ·rw[c];simp only[aa.cat,aa,d,bd,fi,ai,ah];and_intros <;> first|exact aw.same|exact j y|rfl|omega
    ·rw[c];simp only[aa.cat,aa,d,bd,fi,ai,ah];and_intros <;> first|exact aw.same|exact j y|rfl|omega
   |false =>
    by_cases m:n<=y
    ·rw[show fg n (a,false) y=(a++[n,y],true) by simp[fg,g,m]] at c
     refine aE [(12,true),(24,true),(34,true)] 100 rfl ?_ (AK.aA (i+1) rfl ?_ rfl rfl rfl ?_ rfl h k)
     ·simp only[aa,d,aB,show i3.bytes=8 from rfl];simp[g,m];omega
     ·rw[c];simp only[aa.cat,aa,d,bd,ft,kn,ai,ah];and_intros <;> first|exact aw.same|exact o n y|rfl|omega
     ·rw[c];simp only[aa.cat,aa,d,bd,ft,kn,ai,ah];and_intros <;> first|exact aw.same|exact o n y|rfl|omega
    ·rw[show fg n (a,false) y=(a++[y],false) by simp[fg,m]] at c
     refine aE [(12,true),(24,false),(34,true)] 100 rfl ?_ (AK.aA (i+1) rfl ?_ rfl rfl rfl ?_ rfl h k)
     ·simp only[aa,d,aB,show i3.bytes=8 from rfl];simp[g,m];omega
     ·rw[c];simp only[aa.cat,aa,d,bd,fi,ai,ah];and_intros <;> first|exact aw.same|exact j y|rfl|omega
     ·rw[c];simp only[aa.cat,aa,d,bd,fi,ai,ah];and_intros <;> first|exact aw.same|exact j y|rfl|omega
 ·obtain rfl:i=l.length:=by omega
  unfold jR;simp only[kZ,cW] at f ⊢;generalize l.foldl (fg n) ([],false)=a at *;obtain⟨a,b⟩:=a;have j:=cI.eO a n;refine aE [(12,false)] 100 rfl (by simp[aa]) (AK.leaveD rfl rfl ?_)
  cases b with
  |true=>exact bq rfl (by simp[aa]) (AK.au rfl (by simp[aa,aw.same]))
  |false =>
   refine bq rfl ?_ (AK.au rfl ?_)
   ·simp only[aa,show i3.bytes=8 from rfl];simp at f ⊢;omega
   ·simp only[aa,fQ,aQ,bd,fi];and_intros <;> first|exact j|trivial
abbrev yB:bE:=gb (aL cI) aI (λl n=>cI.sl (jR l n)) λl _=>[l.length<=100000000]
theorem EC:bO X 44 yB:=.gO λl n h=>EB l n h
theorem gx(a:List Int):∀ l:List Int,(l.foldl jR a).length<=a.length+l.length
 |[]=>by simp
 |x::l=>by
  have:=gx (jR a x) l;have:=EA a x;simp only[kt,ft];omega
theorem sU{b:Type}(f:b->Int->b)(a:b){l:List Int}{j:Nat}(h:j<l.length):(l.take (j+1)).foldl f a=f ((l.take j).foldl f a) (l.getD j 0):=by
 rw[bu h 0,mX];rfl
def dZ(l:List cU):List Int:=(aW l).foldl jR []
theorem mP(l:List cU):(dZ l).length<=(aW l).length:=by
 have:=gx [] (aW l)
 rwa [kn,ay] at this
set_option maxHeartbeats 4000000 in
theorem rW(s:cK)(p:s.2.length<=4000000)(o:(aW s.2).length<=4000000):Ev X 43 [JJ s] [] (cI.sl (dZ s.2)) []:=by
 refine Ev.body Tryz.func43 rfl rfl rfl λt=>?_
 have b:aM X [(44,yB)]:=.cons EC .nil;refine af b [] 100 rfl ab ?_;refine AK.bU 1 (λi=>i<=s.2.length) (λi:Nat=>[(1,.e (.one (.ptr 0 0))),(3,cI.sl (dZ (s.2.take i))),(4,dI i)]) (λ_=>[ND s]) (λi=>s.2.length-i) 0 rfl (by simp[aa.cat,aa,aw.nil,dZ,aW]) rfl (by simp[aa.cat,aa,aw.same]) rfl (by omega) ?_
 intro i hi
 by_cases h:i<s.2.length
 ·have l:s.2.getD i cL.bx=s.2.getD i ([],[]):=rfl;have d:=nE h;have n:=j6 s.2 (i+1);have r:=mP (s.2.take i);have m:dZ (s.2.take (i+1))=(s.2.getD i ([],[])).2.foldl jR (dZ (s.2.take i)):=by simp only[dZ,d,mX]
  rw[d,bd] at n;generalize s.2.getD i ([],[])=x at *;generalize dZ (s.2.take i)=a at *;refine af b [(11,true)] 100 rfl (by simp[aa,h]) ?_
  refine AK.bU 1 (λj=>j<=x.2.length) (λj:Nat=>[(1,.e (.one (.ptr 0 0))),(3,cI.sl ((x.2.take j).foldl jR a)),(4,dI i),(5,dI j)]) (λ_=>[ND s]) (λj=>x.2.length-j) 0 rfl (by simp[aa.cat,aa,aw.same]) rfl (by simp[aa.cat,aa,aw.same]) rfl (by omega) ?_
  intro j q
  by_cases k:j<x.2.length
  ·have c:x.2.getD j cI.bx=x.2.getD j 0:=rfl;have g:=sU jR a k;have f:=gx a (x.2.take j);rw[List.length_take] at f;generalize (x.2.take j).foldl jR a=a2 at *;have e:=cI.list_fn a2;refine af b [(22,true)] 100 rfl ?_ (AK.aA (j+1) rfl ?_ rfl rfl rfl ?_ rfl k (by omega))
   ·simp[-List.getD_eq_getElem?_getD,aa,l,c,h,k,e,cI.ae,aB];omega
   ·rw[g];simp[-List.getD_eq_getElem?_getD,aa.cat,aa,l,c,e,aw.same]
   ·simp[aa.cat,aa,aw.same]
  ·obtain rfl:j=x.2.length:=by omega
   rw[cW,<-m];refine af b [(22,false)] 100 rfl ?_ (AK.leaveD rfl rfl ?_)
   ·simp[-List.getD_eq_getElem?_getD,aa,l,h]
   refine af b [] 100 rfl ?_ (AK.aA (i+1) rfl ?_ rfl rfl rfl ?_ rfl h (by omega))
   ·simp[aa,aB];omega
   ·simp[aa.cat,aa,aw.same]
   ·simp[aa.cat,aa,aw.same]
 ·obtain rfl:i=s.2.length:=by omega
  rw[cW];refine af b [(11,false)] 100 rfl (by simp[aa]) (AK.leaveD rfl rfl ?_)
  exact af b [] 100 rfl ab (AK.au rfl (by simp[aa,aw.same]))
abbrev Aa:bE:=fZ (mS cL) (λs=>cI.sl (dZ s.2)) λs=>[s.2.length<=4000000,(aW s.2).length<=4000000]
theorem Hm:bO X 43 Aa:=.je λs h=>rW s h.1 h.2
def im(l:List cK):List Int:=l.flatMap λx=>aW x.2
def dT(l:List cK):List Int:=l.foldl (λout x=>(dZ x.2).foldl jR out) []
theorem mQ{l:List cK}{i:Nat}(h:i<l.length):im (l.take (i+1))=im (l.take i)++aW (l.getD i (0,[])).2:=by
 rw[bu h (0,[])];simp[im]
theorem wB(l:List cK)(i:Nat):(im (l.take i)).length<=(im l).length:=by
 have h:im l=im (l.take i)++im (l.drop i):=by unfold im;rw[<-pq,jH]
 rw[h,bd];omega
theorem ri{l:List cK}{i:Nat}(h:i<l.length):dT (l.take (i+1))=(dZ (l.getD i (0,[])).2).foldl jR (dT (l.take i)):=by
 unfold dT;rw[bu h (0,[]),mX];rfl
theorem ot(l:List cK):∀ i,i<=l.length->(dT (l.take i)).length<=(im (l.take i)).length
 |0,_=>by simp[dT]
 |i+1,h=>by
  have a:=ot l i (by omega)
  have b:=gx (dT (l.take i)) (dZ (l.getD i (0,[])).2);have c:=mP (l.getD i (0,[])).2;rw[ri (by omega),mQ (by omega),bd]
  omega
set_option maxHeartbeats 4000000 in
theorem yC(s:cX)(m:qQ s)(t:s.2.1.length<=4000000)(w:(im s.2.1).length<=4000000):Ev X 26 [Ba s] [] (cI.sl (dT s.2.1)) []:=by
 refine Ev.body Tryz.func26 rfl rfl rfl λv=>?_
 have b:aM X [(44,yB),(43,Aa)]:=.cons EC (.cons Hm .nil);refine af b [] 100 rfl ab ?_;refine AK.bU 1 (λi=>i<=s.2.1.length) (λi:Nat=>[(1,.e (.one (.ptr 0 0))),(3,cI.sl (dT (s.2.1.take i))),(4,dI i)]) (λ_=>[F0 s]) (λi=>s.2.1.length-i) 0 rfl (by simp[aa.cat,aa,aw.nil,dT]) rfl (by simp[aa.cat,aa,aw.same]) rfl (by omega) ?_
 intro i hi
 by_cases h:i<s.2.1.length
 ·have o:s.2.1.getD i cD.bx=s.2.1.getD i (0,[]):=rfl;have p:=m _ (cE (d:=(0,[])) h);have n:=mQ h;have q:=wB s.2.1 (i+1);have y:=ot s.2.1 i hi;have m:=ri h;rw[n,bd] at q;generalize s.2.1.getD i (0,[])=x at *;have r:=mP x.2;generalize dT (s.2.1.take i)=a at *;refine af b [(12,true)] 100 rfl ?_ ?_
  ·simp[-List.getD_eq_getElem?_getD,aa,h,o,cL.list_fn,cL.ae];omega
  have l:s.2.1.getD (i:Int).toNat cD.bx=x:=by rw[az];exact o
  rw[l,cL.list_fn];refine AK.bU 1 (λj=>j<=(dZ x.2).length) (λj:Nat=>[(1,.e (.one (.ptr 0 0))),(3,cI.sl (((dZ x.2).take j).foldl jR a)),(4,dI i),(5,cI.sl (dZ x.2)),(6,dI j)]) (λ_=>[F0 s]) (λj=>(dZ x.2).length-j) 0 rfl (by simp[aa.cat,aa,aw.same]) rfl (by simp[aa.cat,aa,aw.same]) rfl (by omega) ?_
  intro j u;generalize dZ x.2=ns at *
  by_cases k:j<ns.length
  ·have c:ns.getD j cI.bx=ns.getD j 0:=rfl;have g:=sU jR a k;have f:=gx a (ns.take j);rw[List.length_take] at f;generalize (ns.take j).foldl jR a=a2 at *;have e:=cI.list_fn a2;refine af b [(24,true)] 100 rfl ?_ (AK.aA (j+1) rfl ?_ rfl rfl rfl ?_ rfl k (by omega))
   ·simp[-List.getD_eq_getElem?_getD,aa,c,k,e,cI.ae,aB];omega
   ·rw[g];simp[-List.getD_eq_getElem?_getD,aa.cat,aa,c,e,aw.same]
   ·simp[aa.cat,aa,aw.same]
  ·obtain rfl:j=ns.length:=by omega
   rw[cW,<-m];refine af b [(24,false)] 100 rfl (by simp[aa]) (AK.leaveD rfl rfl ?_)
   refine af b [] 100 rfl ?_ (AK.aA (i+1) rfl ?_ rfl rfl rfl ?_ rfl h (by omega))
   ·simp[aa,aB];omega
   ·simp[aa.cat,aa,aw.same]
   ·simp[aa.cat,aa,aw.same]
 ·obtain rfl:i=s.2.1.length:=by omega
  rw[cW];refine af b [(12,false)] 100 rfl (by simp[aa]) (AK.leaveD rfl rfl ?_)
  exact af b [] 100 rfl ab (AK.au rfl (by simp[aa,aw.same]))
abbrev wC:bE:=fZ zS (λs=>cI.sl (dT s.2.1)) λs=>[qQ s,s.2.1.length<=4000000,(im s.2.1).length<=4000000]
theorem ED:bO X 26 wC:=.je λs h=>yC s h.1 h.2.1 h.2.2
abbrev fU:=cX×List Int×List Int
abbrev eG:=Int×fU×(Int×Int×Int×Bs)×List (Int×Int)×List Int
abbrev Rg:FA cX:=fP (fL cP) (fP (fL cD) (fL cH))
abbrev EE:FA fU:=fP Rg (fP (fL cI) (fL cI))
abbrev pe:FA (Int×Int×Int×Bs):=fP fI (fP fI (fP fI fS))
abbrev F1:FA eG:=fP fI (fP EE (fP pe (fP (fL cH) (fL cI))))
abbrev Kb{α:Type}(c:jd α)(l:List α):A:=.c (.sl false c.k l.length (c.fn l))
abbrev Pu(w:fU):List A:=[Kb cP w.1.1,Kb cD w.1.2.1,Kb cH w.1.2.2,Kb cI w.2.1,Kb cI w.2.2]
abbrev MN(w:fU):D:=.e (.agg (Pu w))
abbrev Pv(w:eG):List A:=.c (.int .i64 w.1)::(Pu w.2.1++[.c (.int .i64 w.2.2.1.1),.c (.int .i64 w.2.2.1.2.1),.c (.int .i64 w.2.2.1.2.2.1),.c (.str w.2.2.1.2.2.2),Kb cH w.2.2.2.1,Kb cI w.2.2.2.2])
abbrev Kc(w:eG):D:=.e (.agg (Pv w))
structure MO (s:cX):Prop where
 pN:s.1.length<=4000000
 sm:qQ s
 sN:s.2.1.length<=4000000
 aN:(im s.2.1).length<=4000000
def mR(ps:List aV)(l:List Int)(i:Nat):Bool:=(ps.any λp=>p.1==l.getD i 0)&&yA (λx=>x) 0 l i
def gy(k:Int)(w:fU):Bool:=(dT w.1.2.1).all (λn=>w.2.1.contains n)&&(List.range w.2.2.length).all (mR w.1.1 w.2.2)&&gw k w.1
theorem EF{l:List Int}{p:Int->Bool}:l.all p=(List.range l.length).all λi=>p (l.getD i 0):=by
 rw[ld,ba,List.all_eq_true]
 constructor
 ·exactλh i hi=>h _ (cE hi)
 ·intro h x a;obtain⟨i,hi,rfl⟩:=jK.1 a;have:=h i hi
  rwa [List.getD_eq_getElem?_getD,aj hi] at this
theorem EG{l:List aV}{p:aV->Bool}{j:Nat}(h:j<l.length):(l.take (j+1)).any p=((l.take j).any p||p (l.getD j (0,[]))):=by
 rw[bu h (0,[]),List.any_append];simp
abbrev MP(w:fU):ak:=.cells 43 (Pu w)
set_option maxHeartbeats 4000000 in
theorem wD(k:Int)(w:fU)(m:MO w.1):Ev X 15 [dI k,MN w] [] (dB (gy k w)) []:=by
 refine Ev.body Tryz.func15 rfl rfl rfl λB=>?_
 have c:aM X [(26,wC),(27,Er),(28,sT)]:=.cons ED (.cons Iv (.cons Bu .nil));have C:=B.Eo 1 rfl 4 rfl;have y:=ot w.1.2.1 _ (aq _);rw[cW] at y;have E:=m.aN;refine af c [] 100 rfl ?_ ?_
 ·simp[aa,cP.list_fn,cP.ae,cD.list_fn,cD.ae,cH.list_fn,cH.ae,m.sm,m.sN,m.aN]
 rw[cD.list_fn];unfold gy;rw[EF];generalize dT w.1.2.1=ms at *;refine AK.bU 1 (λi=>i<=ms.length/\∀ j,j<i->w.2.1.contains (ms.getD j 0)=true) (λi:Nat=>[(0,dI k),(3,.e (.one (.ptr 0 0))),(5,cI.sl ms),(6,dI i)]) (λ_=>[MP w]) (λi=>ms.length-i) 0 rfl (by simp[aa.cat,aa,aw.same]) rfl (by simp[aa.cat,aa,aw.same]) rfl ⟨by omega,by omega⟩ ?_
 rintro i ⟨hi,a⟩
 by_cases h:i<ms.length
 ·have o:ms.getD i cI.bx=ms.getD i 0:=rfl;cases u:w.2.1.contains (ms.getD i 0) with
  |false =>
   refine af c [(16,true),(26,true)] 100 rfl ?_ (AK.cR (aR.zero rfl ?_))
   ·simp[-List.getD_eq_getElem?_getD,-List.contains_eq_mem,aa,o,h,u,cI.list_fn,cI.ae]
   ·rw[cq h u];simp[aa]
  |true =>
   refine af c [(16,true),(26,false)] 100 rfl ?_ (AK.aA (i+1) rfl (by simp[aa.cat,aa,aw.same]) rfl rfl rfl (by simp[aa.cat,aa,aw.same]) rfl ⟨h,dc a u⟩ (by omega))
   simp[-List.getD_eq_getElem?_getD,-List.contains_eq_mem,aa,o,h,u,cI.list_fn,cI.ae,aB];omega
 obtain rfl:i=ms.length:=by omega
 rw[ba.2 a,cf];refine af c [(16,false)] 100 rfl (by simp[aa]) (AK.leaveD rfl rfl ?_)
 refine af c [] 100 rfl ab ?_;refine AK.bU 1 (λi=>i<=w.2.2.length/\∀ j,j<i->mR w.1.1 w.2.2 j=true) (λi:Nat=>[(0,dI k),(3,.e (.one (.ptr 0 0))),(7,dI i)]) (λ_=>[MP w]) (λi=>w.2.2.length-i) 0 rfl (by simp[aa.cat,aa]) rfl (by simp[aa.cat,aa,aw.same]) rfl ⟨by omega,by omega⟩ ?_
 rintro i ⟨hi,a⟩
 by_cases h:i<w.2.2.length
 ·have o:w.2.2.getD i cI.bx=w.2.2.getD i 0:=rfl;have q:w.2.2.getD (i-1) cI.bx=w.2.2.getD (i-1) 0:=rfl;have g:mR w.1.1 w.2.2 i=((w.1.1.any λp=>p.1==w.2.2.getD i 0)&&yA (λx=>x) 0 w.2.2 i):=rfl
  have r:=ma (f:=λx:Int=>x) (d:=0) (l:=w.2.2) (i:=i)
  generalize w.2.2.getD i 0=n at *;generalize w.2.2.getD (i-1) 0=n' at *;refine af c [(31,true)] 100 rfl (by simp[aa,h]) ?_
  refine AK.bU 1 (λj=>j<=w.1.1.length) (λj:Nat=>[(0,dI k),(3,.e (.one (.ptr 0 0))),(7,dI i),(8,dB ((w.1.1.take j).any λp=>p.1==n)),(9,dI j)]) (λ_=>[MP w]) (λj=>w.1.1.length-j) 0 rfl (by simp[aa.cat,aa]) rfl (by simp[aa.cat,aa,aw.same]) rfl (by omega) ?_
  intro j G
  by_cases s:j<w.1.1.length
  ·have F:=m.pN;have D:w.1.1.getD j cP.bx=w.1.1.getD j (0,[]):=rfl;have t:=EG (p:=λp=>p.1==n) s
   generalize w.1.1.getD j (0,[])=p at *;generalize (w.1.1.take j).any (λp=>p.1==n)=b at *
   cases b with
   |true =>
    refine af c [(39,true)] 100 rfl ?_ (AK.aA (j+1) rfl ?_ rfl rfl rfl ?_ rfl s (by omega))
    ·simp[aa,s,aB];omega
    ·rw[t];simp[aa.cat,aa]
    ·simp[aa.cat,aa,aw.same]
   |false =>
    refine af c [(39,true)] 100 rfl ?_ (AK.aA (j+1) rfl ?_ rfl rfl rfl ?_ rfl s (by omega))
    ·simp[-List.getD_eq_getElem?_getD,aa,h,s,aB];omega
    ·rw[t];simp[-List.getD_eq_getElem?_getD,aa.cat,aa,D,o]
    ·simp[aa.cat,aa,aw.same]
  obtain rfl:j=w.1.1.length:=by omega
  rw[cW];refine af c [(39,false)] 100 rfl (by simp[aa]) (AK.leaveD rfl rfl ?_)
  cases A:w.1.1.any (λp=>p.1==n) with
  |false =>
   rw[A,ku] at g;refine af c [(77,true)] 100 rfl (by simp[aa]) (AK.cR (aR.zero rfl ?_))
   rw[cq h g];simp[aa]
  |true =>
   rw[A,cf] at g
   by_cases v:i=0
   ·subst v;refine af c [(63,false),(77,false)] 100 rfl ?_ (AK.aA 1 rfl (by simp[aa.cat,aa]) rfl rfl rfl (by simp[aa.cat,aa,aw.same]) rfl ⟨h,dc a (by rw[g];rfl)⟩ (by omega))
    simp[aa,aB]
   by_cases z:n'<n
   ·refine af c [(63,true),(75,false),(77,false)] 100 rfl ?_ (AK.aA (i+1) rfl (by simp[aa.cat,aa]) rfl rfl rfl (by simp[aa.cat,aa,aw.same]) rfl ⟨h,dc a (by rw[g,r v];exact aP z)⟩ (by omega))
    simp[-List.getD_eq_getElem?_getD,aa,o,q,h,aB];omega
   ·refine af c [(63,true),(75,true),(77,true)] 100 rfl ?_ (AK.cR (aR.zero rfl ?_))
    ·simp[-List.getD_eq_getElem?_getD,aa,o,q,h,aB];omega
    ·rw[cq h (by rw[g,r v];exact bR z)];simp[aa]
 obtain rfl:i=w.2.2.length:=by omega
 rw[ba.2 a,cf];refine af c [(31,false)] 100 rfl (by simp[aa]) (AK.leaveD rfl rfl ?_)
 refine af c [] 100 rfl ?_ (AK.au rfl ?_)
 ·simp[aa,cP.list_fn,cP.ae,cD.list_fn,cD.ae,cH.list_fn,cH.ae,m.sm,m.sN,m.pN]
 ·simp[aa,cP.list_fn,cD.list_fn,cH.list_fn]
abbrev sV:bE:=gb aI (kT EE) (λk w=>dB (gy k w)) λ_ w=>[MO w.1]
theorem Bv:bO X 15 sV:=.gO λk w h=>wD k w h
abbrev F2:FA cU:=fP fS (fL cI)
abbrev xl{ks:List Nat}:∀ j,j<([]:List ak).length->ks[j]?=some j:=λj a=>absurd a (by simp)
theorem jc{α:Type}{c:jd α}{l:List α}{i:Nat}{es:Nat->List C}{d:α}(b:c.bx=d)(h:∀ j,j<i->es j=c.fn l j):∀ j,j<i+1->fY i (c.enc (l.getD i d)) es j=c.fn l j:=λj a=>by
 unfold fY;rcases dC.1 a with a|rfl
 ·rw[an (by omega)];exact h j a
 ·rw[ar rfl,<-b];rfl
theorem B6(a:List (Int))(g:a.length<=4000000):Ev X 19 [cI.sl a] [] (cI.sl a) []:=by
 have key:Ev X 19 [cI.sl a] [] (.e (.one (.bp 0 (.sl a.length 1 0 a.length)))) ([]++[.buf 3 1 a.length (cI.fn a)]):=by
  refine Ev.body Tryz.func19 rfl rfl rfl λf=>?_
  have c:aM X []:=.nil;refine af c [] 100 rfl ab ?_;refine AK.qx tok (n:=a.length) rfl rfl rfl rfl rfl rfl (by show _*i3.bytes<=_;simp only[show i3.bytes=8 from rfl];omega) (by omega) rfl rfl ?_
  refine af c [] 100 rfl ab ?_;refine AK.bU 1 (λs:Nat×(Nat->List C)=>s.1<=a.length/\∀ j,j<s.1->s.2 j=cI.fn a j) (λs=>[(0,cI.sl a),(3,.e (.one (.bp 0 (.sl a.length 1 0 a.length)))),(4,dI s.1)]) (λs=>[.buf 3 1 a.length s.2]) (λs=>a.length-s.1) (0,λ_=>i3.zero) rfl (by simp[aa.cat,aa,aw.same];rfl) rfl (by simp[aa.cat,aa,aw.same]) rfl ⟨by simp,by simp⟩ ?_
  rintro⟨i,es⟩ ⟨hi,b⟩;simp only at hi b
  by_cases h:i<a.length
  ·have d:a.getD (i:Int).toNat cI.bx=a.getD i 0:=by rw[az];rfl
   refine af c [(11,true)] 100 rfl ?_ (AK.aA (i+1,fY i (cI.enc (a.getD i 0)) es) rfl ?_ rfl rfl rfl ?_ rfl ⟨h,jc rfl b⟩ (by simp only;omega))
   ·simp only[aa,d,aB];simp only[ai,ah,aD];and_intros <;> first|omega|exact hx|exact hx.1|exact hx.2
   ·simp[aa.cat,aa,aw.same]
   ·simp only[aa.cat,aa,d,ah,ai,ay,az];exactλ_ _=>rfl
  obtain rfl:i=a.length:=by omega
  refine af c [(11,false)] 100 rfl (by simp[aa]) (AK.leaveD rfl rfl ?_)
  refine AK.vI (φ':=[(3,.e (.one (.bp 0 (.sl a.length 1 0 a.length))))]) (σ':=[.buf 3 1 a.length (cI.fn a)]) ?_ rfl (by simp[aa.cat,aa]) rfl (by simp only[aa.cat,aa,ah,ai];exact b)
  exact af c [] 100 rfl ab (AK.eF [0] rfl (by simp[aa]) rfl rfl rfl xl)
 exact key.lE (by rfl) (by simp[aa,aw.same]) rfl (aq _)
abbrev pS:bE:=fZ (aL cI) (λa=>cI.sl a) λa=>[a.length<=4000000]
theorem va:bO X 19 pS:=.je λa h=>B6 a h
theorem B7(x:fb):Ev X 111 [yd.enc x] [] (yd.enc x) []:=by
 refine Ev.kR Tryz.func111 rfl rfl rfl λb=>?_
 have a:aM X []:=.nil;refine af a [] 100 rfl ?_ (AK.freeze 2 1 rfl rfl rfl (AK.oX tok [] rfl ?_ rfl rfl rfl xl))
 ·trivial
 ·simp[aa,aa.cat,aw.same]
abbrev An:bE:=fZ yd (λx=>yd.enc x) λx=>[]
theorem HM:bO X 111 An:=.je λx h=>B7 x
theorem zb(a:List (fb))(g:a.length<=4000000):Ev X 89 [cG.sl a] [] (cG.sl a) []:=by
 have key:Ev X 89 [cG.sl a] [] (.e (.one (.bp 0 (.sl a.length 2 0 a.length)))) ([]++[.buf 98 2 a.length (cG.fn a)]):=by
  refine Ev.body Tryz.func89 rfl rfl rfl λf=>?_
  have c:aM X [(111,An)]:=.cons HM .nil;refine af c [] 100 rfl ab ?_;refine AK.qx tok (n:=a.length) rfl rfl rfl rfl rfl rfl (by show _*i98.bytes<=_;simp only[show i98.bytes=24 from rfl];omega) (by omega) rfl rfl ?_
  refine af c [] 100 rfl ab ?_;refine AK.bU 1 (λs:Nat×(Nat->List C)=>s.1<=a.length/\∀ j,j<s.1->s.2 j=cG.fn a j) (λs=>[(0,cG.sl a),(3,.e (.one (.bp 0 (.sl a.length 2 0 a.length)))),(4,dI s.1)]) (λs=>[.buf 98 2 a.length s.2]) (λs=>a.length-s.1) (0,λ_=>i98.zero) rfl (by simp[aa.cat,aa,aw.same];rfl) rfl (by simp[aa.cat,aa,aw.same]) rfl ⟨by simp,by simp⟩ ?_
  rintro⟨i,es⟩ ⟨hi,b⟩;simp only at hi b
  by_cases h:i<a.length
  ·have d:a.getD (i:Int).toNat cG.bx=a.getD i (0,[]):=by rw[az];rfl
   refine af c [(11,true)] 100 rfl ?_ (AK.aA (i+1,fY i (cG.enc (a.getD i (0,[]))) es) rfl ?_ rfl rfl rfl ?_ rfl ⟨h,jc rfl b⟩ (by simp only;omega))
   ·simp only[aa,d,aB];simp only[ai,ah,aD];and_intros <;> first|omega|exact hx|exact hx.1|exact hx.2
   ·simp[aa.cat,aa,aw.same]
   ·simp only[aa.cat,aa,d,ah,ai,ay,az];exactλ_ _=>rfl
  obtain rfl:i=a.length:=by omega
  refine af c [(11,false)] 100 rfl (by simp[aa]) (AK.leaveD rfl rfl ?_)
  refine AK.vI (φ':=[(3,.e (.one (.bp 0 (.sl a.length 2 0 a.length))))]) (σ':=[.buf 98 2 a.length (cG.fn a)]) ?_ rfl (by simp[aa.cat,aa]) rfl (by simp only[aa.cat,aa,ah,ai];exact b)
  exact af c [] 100 rfl ab (AK.eF [0] rfl (by simp[aa]) rfl rfl rfl xl)
 exact key.lE (by rfl) (by simp[aa,aw.same]) rfl (aq _)
abbrev xp:bE:=fZ (aL cG) (λa=>cG.sl a) λa=>[a.length<=4000000]
theorem FO:bO X 89 xp:=.je λa h=>zb a h
theorem B8(x:aV)(h:x.2.length<=4000000):Ev X 68 [(mS cG).enc x] [] ((mS cG).enc x) []:=by
 refine Ev.kR Tryz.func68 rfl rfl rfl λb=>?_
 have a:aM X [(89,xp)]:=.cons FO (.nil);refine af a [] 100 rfl ?_ (AK.freeze 2 1 rfl rfl rfl (AK.oX tok [] rfl ?_ rfl rfl rfl xl))
 ·simp only[aa,aa.cat,cG.list_fn,cG.ae,ai,ah];exact h
 ·simp[aa,aa.cat,aw.same,cG.list_fn]
abbrev Ao:bE:=fZ (mS cG) (λx=>(mS cG).enc x) λx=>[x.2.length<=4000000]
theorem HN:bO X 68 Ao:=.je λx h=>B8 x h
theorem zc(a:List (aV))(m:a.length<=4000000)(k:∀ x∈a,x.2.length<=4000000):Ev X 49 [cP.sl a] [] (cP.sl a) []:=by
 have key:Ev X 49 [cP.sl a] [] (.e (.one (.bp 0 (.sl a.length 2 0 a.length)))) ([]++[.buf 73 2 a.length (cP.fn a)]):=by
  refine Ev.body Tryz.func49 rfl rfl rfl λl=>?_
  have c:aM X [(68,Ao)]:=.cons HN .nil;refine af c [] 100 rfl ab ?_;refine AK.qx tok (n:=a.length) rfl rfl rfl rfl rfl rfl (by show _*i73.bytes<=_;simp only[show i73.bytes=32 from rfl];omega) (by omega) rfl rfl ?_
  refine af c [] 100 rfl ab ?_;refine AK.bU 1 (λs:Nat×(Nat->List C)=>s.1<=a.length/\∀ j,j<s.1->s.2 j=cP.fn a j) (λs=>[(0,cP.sl a),(3,.e (.one (.bp 0 (.sl a.length 2 0 a.length)))),(4,dI s.1)]) (λs=>[.buf 73 2 a.length s.2]) (λs=>a.length-s.1) (0,λ_=>i73.zero) rfl (by simp[aa.cat,aa,aw.same];rfl) rfl (by simp[aa.cat,aa,aw.same]) rfl ⟨by simp,by simp⟩ ?_
  rintro⟨i,es⟩ ⟨hi,b⟩;simp only at hi b
  by_cases h:i<a.length
  ·have g:a.getD (i:Int).toNat cP.bx=a.getD i (0,[]):=by rw[az];rfl
   have f:=k _ (cE (d:=(0,[])) h);refine af c [(11,true)] 100 rfl ?_ (AK.aA (i+1,fY i (cP.enc (a.getD i (0,[]))) es) rfl ?_ rfl rfl rfl ?_ rfl ⟨h,jc rfl b⟩ (by simp only;omega))
   ·simp only[aa,g,aB,cG.list_fn,cG.ae];simp only[ai,ah,aD];and_intros <;> first|omega|exact f|exact f.1|exact f.2
   ·simp[aa.cat,aa,aw.same]
   ·simp only[aa.cat,aa,g,cG.list_fn,ah,ai,ay,az];exactλ_ _=>rfl
  obtain rfl:i=a.length:=by omega
  refine af c [(11,false)] 100 rfl (by simp[aa]) (AK.leaveD rfl rfl ?_)
  refine AK.vI (φ':=[(3,.e (.one (.bp 0 (.sl a.length 2 0 a.length))))]) (σ':=[.buf 73 2 a.length (cP.fn a)]) ?_ rfl (by simp[aa.cat,aa]) rfl (by simp only[aa.cat,aa,ah,ai];exact b)
  exact af c [] 100 rfl ab (AK.eF [0] rfl (by simp[aa]) rfl rfl rfl xl)
 exact key.lE (by rfl) (by simp[aa,aw.same]) rfl (aq _)
abbrev xi:bE:=fZ (aL cP) (λa=>cP.sl a) λa=>[a.length<=4000000,∀ x∈a,x.2.length<=4000000]
theorem FG:bO X 49 xi:=.je λa h=>zc a h.1 h.2
theorem xq(x:cU)(h:x.2.length<=4000000):Ev X 112 [(kT F2).enc x] [] ((kT F2).enc x) []:=by
 refine Ev.kR Tryz.func112 rfl rfl rfl λb=>?_
 have a:aM X [(19,pS)]:=.cons va (.nil);refine af a [] 100 rfl ?_ (AK.freeze 2 1 rfl rfl rfl (AK.oX tok [] rfl ?_ rfl rfl rfl xl))
 ·simp only[aa,aa.cat,cI.list_fn,cI.ae,ai,ah];exact h
 ·simp[aa,aa.cat,aw.same,cI.list_fn]
abbrev tn:bE:=fZ (kT F2) (λx=>(kT F2).enc x) λx=>[x.2.length<=4000000]
theorem B9:bO X 112 tn:=.je λx h=>xq x h
theorem vb(a:List (cU))(m:a.length<=4000000)(k:∀ x∈a,x.2.length<=4000000):Ev X 90 [cL.sl a] [] (cL.sl a) []:=by
 have key:Ev X 90 [cL.sl a] [] (.e (.one (.bp 0 (.sl a.length 2 0 a.length)))) ([]++[.buf 122 2 a.length (cL.fn a)]):=by
  refine Ev.body Tryz.func90 rfl rfl rfl λl=>?_
  have c:aM X [(112,tn)]:=.cons B9 .nil;refine af c [] 100 rfl ab ?_;refine AK.qx tok (n:=a.length) rfl rfl rfl rfl rfl rfl (by show _*i122.bytes<=_;simp only[show i122.bytes=40 from rfl];omega) (by omega) rfl rfl ?_
  refine af c [] 100 rfl ab ?_;refine AK.bU 1 (λs:Nat×(Nat->List C)=>s.1<=a.length/\∀ j,j<s.1->s.2 j=cL.fn a j) (λs=>[(0,cL.sl a),(3,.e (.one (.bp 0 (.sl a.length 2 0 a.length)))),(4,dI s.1)]) (λs=>[.buf 122 2 a.length s.2]) (λs=>a.length-s.1) (0,λ_=>i122.zero) rfl (by simp[aa.cat,aa,aw.same];rfl) rfl (by simp[aa.cat,aa,aw.same]) rfl ⟨by simp,by simp⟩ ?_
  rintro⟨i,es⟩ ⟨hi,b⟩;simp only at hi b
  by_cases h:i<a.length
  ·have g:a.getD (i:Int).toNat cL.bx=a.getD i ([],[]):=by rw[az];rfl
   have f:=k _ (cE (d:=([],[])) h);refine af c [(11,true)] 100 rfl ?_ (AK.aA (i+1,fY i (cL.enc (a.getD i ([],[]))) es) rfl ?_ rfl rfl rfl ?_ rfl ⟨h,jc rfl b⟩ (by simp only;omega))
   ·simp only[aa,g,aB,cI.list_fn,cI.ae];simp only[ai,ah,aD];and_intros <;> first|omega|exact f|exact f.1|exact f.2
   ·simp[aa.cat,aa,aw.same]
   ·simp only[aa.cat,aa,g,cI.list_fn,ah,ai,ay,az];exactλ_ _=>rfl
  obtain rfl:i=a.length:=by omega
  refine af c [(11,false)] 100 rfl (by simp[aa]) (AK.leaveD rfl rfl ?_)
  refine AK.vI (φ':=[(3,.e (.one (.bp 0 (.sl a.length 2 0 a.length))))]) (σ':=[.buf 122 2 a.length (cL.fn a)]) ?_ rfl (by simp[aa.cat,aa]) rfl (by simp only[aa.cat,aa,ah,ai];exact b)
  exact af c [] 100 rfl ab (AK.eF [0] rfl (by simp[aa]) rfl rfl rfl xl)
 exact key.lE (by rfl) (by simp[aa,aw.same]) rfl (aq _)
abbrev rD:bE:=fZ (aL cL) (λa=>cL.sl a) λa=>[a.length<=4000000,∀ x∈a,x.2.length<=4000000]
theorem zd:bO X 90 rD:=.je λa h=>vb a h.1 h.2
theorem Ca(x:cK)(h:x.2.length<=4000000/\(∀ y∈x.2,y.2.length<=4000000)):Ev X 69 [(mS cL).enc x] [] ((mS cL).enc x) []:=by
 refine Ev.kR Tryz.func69 rfl rfl rfl λb=>?_
 have a:aM X [(90,rD)]:=.cons zd (.nil);refine af a [] 100 rfl ?_ (AK.freeze 2 1 rfl rfl rfl (AK.oX tok [] rfl ?_ rfl rfl rfl xl))
 ·simp only[aa,aa.cat,cL.list_fn,cL.ae,ai,ah];exact h
 ·simp[aa,aa.cat,aw.same,cL.list_fn]
abbrev Ap:bE:=fZ (mS cL) (λx=>(mS cL).enc x) λx=>[x.2.length<=4000000,∀ y∈x.2,y.2.length<=4000000]
theorem HO:bO X 69 Ap:=.je λx h=>Ca x h
theorem ze(a:List (cK))(m:a.length<=4000000)(k:∀ x∈a,x.2.length<=4000000/\∀ y∈x.2,y.2.length<=4000000):Ev X 50 [cD.sl a] [] (cD.sl a) []:=by
 have key:Ev X 50 [cD.sl a] [] (.e (.one (.bp 0 (.sl a.length 2 0 a.length)))) ([]++[.buf 83 2 a.length (cD.fn a)]):=by
  refine Ev.body Tryz.func50 rfl rfl rfl λl=>?_
  have c:aM X [(69,Ap)]:=.cons HO .nil;refine af c [] 100 rfl ab ?_;refine AK.qx tok (n:=a.length) rfl rfl rfl rfl rfl rfl (by show _*i83.bytes<=_;simp only[show i83.bytes=32 from rfl];omega) (by omega) rfl rfl ?_
  refine af c [] 100 rfl ab ?_;refine AK.bU 1 (λs:Nat×(Nat->List C)=>s.1<=a.length/\∀ j,j<s.1->s.2 j=cD.fn a j) (λs=>[(0,cD.sl a),(3,.e (.one (.bp 0 (.sl a.length 2 0 a.length)))),(4,dI s.1)]) (λs=>[.buf 83 2 a.length s.2]) (λs=>a.length-s.1) (0,λ_=>i83.zero) rfl (by simp[aa.cat,aa,aw.same];rfl) rfl (by simp[aa.cat,aa,aw.same]) rfl ⟨by simp,by simp⟩ ?_
  rintro⟨i,es⟩ ⟨hi,b⟩;simp only at hi b
  by_cases h:i<a.length
  ·have g:a.getD (i:Int).toNat cD.bx=a.getD i (0,[]):=by rw[az];rfl
   have f:=k _ (cE (d:=(0,[])) h);refine af c [(11,true)] 100 rfl ?_ (AK.aA (i+1,fY i (cD.enc (a.getD i (0,[]))) es) rfl ?_ rfl rfl rfl ?_ rfl ⟨h,jc rfl b⟩ (by simp only;omega))
   ·simp only[aa,g,aB,cL.list_fn,cL.ae];simp only[ai,ah,aD];and_intros <;> first|omega|exact f|exact f.1|exact f.2
   ·simp[aa.cat,aa,aw.same]
   ·simp only[aa.cat,aa,g,cL.list_fn,ah,ai,ay,az];exactλ_ _=>rfl
  obtain rfl:i=a.length:=by omega
  refine af c [(11,false)] 100 rfl (by simp[aa]) (AK.leaveD rfl rfl ?_)
  refine AK.vI (φ':=[(3,.e (.one (.bp 0 (.sl a.length 2 0 a.length))))]) (σ':=[.buf 83 2 a.length (cD.fn a)]) ?_ rfl (by simp[aa.cat,aa]) rfl (by simp only[aa.cat,aa,ah,ai];exact b)
  exact af c [] 100 rfl ab (AK.eF [0] rfl (by simp[aa]) rfl rfl rfl xl)
 exact key.lE (by rfl) (by simp[aa,aw.same]) rfl (aq _)
abbrev xj:bE:=fZ (aL cD) (λa=>cD.sl a) λa=>[a.length<=4000000,∀ x∈a,x.2.length<=4000000/\∀ y∈x.2,y.2.length<=4000000]
theorem FH:bO X 50 xj:=.je λa h=>ze a h.1 h.2
theorem Cb(x:gv):Ev X 70 [sJ.enc x] [] (sJ.enc x) []:=by
 refine Ev.kR Tryz.func70 rfl rfl rfl λb=>?_
 have a:aM X []:=.nil;refine af a [] 100 rfl ?_ (AK.freeze 2 1 rfl rfl rfl (AK.oX tok [] rfl ?_ rfl rfl rfl xl))
 ·trivial
 ·simp[aa,aa.cat,aw.same]
abbrev Aq:bE:=fZ sJ (λx=>sJ.enc x) λx=>[]
theorem HP:bO X 70 Aq:=.je λx h=>Cb x
theorem zf(a:List (gv))(g:a.length<=4000000):Ev X 51 [cH.sl a] [] (cH.sl a) []:=by
 have key:Ev X 51 [cH.sl a] [] (.e (.one (.bp 0 (.sl a.length 2 0 a.length)))) ([]++[.buf 129 2 a.length (cH.fn a)]):=by
  refine Ev.body Tryz.func51 rfl rfl rfl λf=>?_
  have c:aM X [(70,Aq)]:=.cons HP .nil;refine af c [] 100 rfl ab ?_;refine AK.qx tok (n:=a.length) rfl rfl rfl rfl rfl rfl (by show _*i129.bytes<=_;simp only[show i129.bytes=16 from rfl];omega) (by omega) rfl rfl ?_
  refine af c [] 100 rfl ab ?_;refine AK.bU 1 (λs:Nat×(Nat->List C)=>s.1<=a.length/\∀ j,j<s.1->s.2 j=cH.fn a j) (λs=>[(0,cH.sl a),(3,.e (.one (.bp 0 (.sl a.length 2 0 a.length)))),(4,dI s.1)]) (λs=>[.buf 129 2 a.length s.2]) (λs=>a.length-s.1) (0,λ_=>i129.zero) rfl (by simp[aa.cat,aa,aw.same];rfl) rfl (by simp[aa.cat,aa,aw.same]) rfl ⟨by simp,by simp⟩ ?_
  rintro⟨i,es⟩ ⟨hi,b⟩;simp only at hi b
  by_cases h:i<a.length
  ·have d:a.getD (i:Int).toNat cH.bx=a.getD i (0,0):=by rw[az];rfl
   refine af c [(11,true)] 100 rfl ?_ (AK.aA (i+1,fY i (cH.enc (a.getD i (0,0))) es) rfl ?_ rfl rfl rfl ?_ rfl ⟨h,jc rfl b⟩ (by simp only;omega))
   ·simp only[aa,d,aB];simp only[ai,ah,aD];and_intros <;> first|omega|exact hx|exact hx.1|exact hx.2
   ·simp[aa.cat,aa,aw.same]
   ·simp only[aa.cat,aa,d,ah,ai,ay,az];exactλ_ _=>rfl
  obtain rfl:i=a.length:=by omega
  refine af c [(11,false)] 100 rfl (by simp[aa]) (AK.leaveD rfl rfl ?_)
  refine AK.vI (φ':=[(3,.e (.one (.bp 0 (.sl a.length 2 0 a.length))))]) (σ':=[.buf 129 2 a.length (cH.fn a)]) ?_ rfl (by simp[aa.cat,aa]) rfl (by simp only[aa.cat,aa,ah,ai];exact b)
  exact af c [] 100 rfl ab (AK.eF [0] rfl (by simp[aa]) rfl rfl rfl xl)
 exact key.lE (by rfl) (by simp[aa,aw.same]) rfl (aq _)
abbrev xk:bE:=fZ (aL cH) (λa=>cH.sl a) λa=>[a.length<=4000000]
theorem FI:bO X 51 xk:=.je λa h=>zf a h
theorem xr(x:gv):Ev X 30 [sJ.enc x] [] (sJ.enc x) []:=by
 refine Ev.kR Tryz.func30 rfl rfl rfl λb=>?_
 have a:aM X []:=.nil;refine af a [] 100 rfl ?_ (AK.freeze 2 1 rfl rfl rfl (AK.oX tok [] rfl ?_ rfl rfl rfl xl))
 ·trivial
 ·simp[aa,aa.cat,aw.same]
abbrev tp:bE:=fZ sJ (λx=>sJ.enc x) λx=>[]
theorem Cc:bO X 30 tp:=.je λx h=>xr x
theorem vc(a:List (gv))(g:a.length<=4000000):Ev X 18 [cH.sl a] [] (cH.sl a) []:=by
 have key:Ev X 18 [cH.sl a] [] (.e (.one (.bp 0 (.sl a.length 2 0 a.length)))) ([]++[.buf 57 2 a.length (cH.fn a)]):=by
  refine Ev.body Tryz.func18 rfl rfl rfl λf=>?_
  have c:aM X [(30,tp)]:=.cons Cc .nil;refine af c [] 100 rfl ab ?_;refine AK.qx tok (n:=a.length) rfl rfl rfl rfl rfl rfl (by show _*i57.bytes<=_;simp only[show i57.bytes=16 from rfl];omega) (by omega) rfl rfl ?_
  refine af c [] 100 rfl ab ?_;refine AK.bU 1 (λs:Nat×(Nat->List C)=>s.1<=a.length/\∀ j,j<s.1->s.2 j=cH.fn a j) (λs=>[(0,cH.sl a),(3,.e (.one (.bp 0 (.sl a.length 2 0 a.length)))),(4,dI s.1)]) (λs=>[.buf 57 2 a.length s.2]) (λs=>a.length-s.1) (0,λ_=>i57.zero) rfl (by simp[aa.cat,aa,aw.same];rfl) rfl (by simp[aa.cat,aa,aw.same]) rfl ⟨by simp,by simp⟩ ?_
  rintro⟨i,es⟩ ⟨hi,b⟩;simp only at hi b
  by_cases h:i<a.length
  ·have d:a.getD (i:Int).toNat cH.bx=a.getD i (0,0):=by rw[az];rfl
   refine af c [(11,true)] 100 rfl ?_ (AK.aA (i+1,fY i (cH.enc (a.getD i (0,0))) es) rfl ?_ rfl rfl rfl ?_ rfl ⟨h,jc rfl b⟩ (by simp only;omega))
   ·simp only[aa,d,aB];simp only[ai,ah,aD];and_intros <;> first|omega|exact hx|exact hx.1|exact hx.2
   ·simp[aa.cat,aa,aw.same]
   ·simp only[aa.cat,aa,d,ah,ai,ay,az];exactλ_ _=>rfl
  obtain rfl:i=a.length:=by omega
  refine af c [(11,false)] 100 rfl (by simp[aa]) (AK.leaveD rfl rfl ?_)
  refine AK.vI (φ':=[(3,.e (.one (.bp 0 (.sl a.length 2 0 a.length))))]) (σ':=[.buf 57 2 a.length (cH.fn a)]) ?_ rfl (by simp[aa.cat,aa]) rfl (by simp only[aa.cat,aa,ah,ai];exact b)
  exact af c [] 100 rfl ab (AK.eF [0] rfl (by simp[aa]) rfl rfl rfl xl)
 exact key.lE (by rfl) (by simp[aa,aw.same]) rfl (aq _)
abbrev rC:bE:=fZ (aL cH) (λa=>cH.sl a) λa=>[a.length<=4000000]
theorem za:bO X 18 rC:=.je λa h=>vc a h
def mq(c:Nat) (l:Int):Int:=if (c:Int)<=l then l-c else -1
theorem bF{c:Nat}{l:Int}(h:(c:Int)<=l):mq c l=l-c:=ar h
theorem bz{c:Nat}{l:Int}(h:¬(c:Int)<=l):mq c l=-1:=an h
def fh{α:Type}(f:α->Nat)(a:List α):Nat:=a.length+(a.map f).sum
def fV{α:Type}(f:α->Nat)(a:List α)(i:Nat):Nat:=a.length+((a.take i).map f).sum
theorem nJ{α:Type}{f:α->Nat}{a:List α}{i:Nat}(h:i<a.length)(d:α):fV f a (i+1)=fV f a i+f (a.getD i d):=by
 unfold fV;rw[bu h d];simp;omega
theorem jE{α:Type}(f:α->Nat)(a:List α)(i:Nat):fV f a i<=fh f a:=by
 unfold fV fh;have:(a.map f).sum=((a.take i).map f).sum+((a.drop i).map f).sum:=by rw[<-List.sum_append,<-mY,jH]
 omega
theorem nK{α:Type}(f:α->Nat)(a:List α):fV f a a.length=fh f a:=by unfold fV fh;rw[cW]
theorem BY(a:List Int) (l:Int)(c:0<=l/\l<=1048576):Ev X 12 [cI.sl a,dI l] [] (dI (mq (a.length) l)) []:=by
 refine Ev.body Tryz.func12 rfl rfl rfl λb=>?_
 have d:=b.sl 0 rfl
 by_cases h:((a.length:Nat):Int)<=l
 ·exact aE [(10,false)] 100 rfl (by simp[aa,aB];omega) (AK.au rfl (by simp[aa,bF h]))
 ·exact aE [(10,true)] 100 rfl (by simp[aa,aB];omega) (AK.au rfl (by simp[aa,bz h]))
abbrev pR:bE:=gb (aL cI) aI (λx l=>dI (mq (x.length) l)) λ_ l=>[0<=l/\l<=1048576]
theorem u6:bO X 12 pR:=.gO λx l h=>BY x l h
theorem yW(a:List gv) (l:Int)(c:0<=l/\l<=1048576):Ev X 42 [cH.sl a,dI l] [] (dI (mq (a.length) l)) []:=by
 refine Ev.body Tryz.func42 rfl rfl rfl λb=>?_
 have d:=b.sl 0 rfl
 by_cases h:((a.length:Nat):Int)<=l
 ·exact aE [(10,false)] 100 rfl (by simp[aa,aB];omega) (AK.au rfl (by simp[aa,bF h]))
 ·exact aE [(10,true)] 100 rfl (by simp[aa,aB];omega) (AK.au rfl (by simp[aa,bz h]))
abbrev xa:bE:=gb (aL cH) aI (λx l=>dI (mq (x.length) l)) λ_ l=>[0<=l/\l<=1048576]
theorem Fw:bO X 42 xa:=.gO λx l h=>yW x l h
theorem u7(a:List gv) (l:Int)(c:0<=l/\l<=1048576):Ev X 11 [cH.sl a,dI l] [] (dI (mq (a.length) l)) []:=by
 refine Ev.body Tryz.func11 rfl rfl rfl λb=>?_
 have d:=b.sl 0 rfl
 by_cases h:((a.length:Nat):Int)<=l
 ·exact aE [(10,false)] 100 rfl (by simp[aa,aB];omega) (AK.au rfl (by simp[aa,bF h]))
 ·exact aE [(10,true)] 100 rfl (by simp[aa,aB];omega) (AK.au rfl (by simp[aa,bz h]))
abbrev rA:bE:=gb (aL cH) aI (λx l=>dI (mq (x.length) l)) λ_ l=>[0<=l/\l<=1048576]
theorem yX:bO X 11 rA:=.gO λx l h=>u7 x l h
def fW(x:fb):Nat:=x.2.length
theorem BZ(x:fb) (l:Int)(b:0<=l/\l<=1048576):Ev X 101 [yd.enc x,dI l] [] (dI (mq (fW x) l)) []:=by
 refine Ev.body Tryz.func101 rfl rfl rfl λa=>?_
 have c:=a.MM 0 rfl 1 rfl;unfold fW
 by_cases h:((x.2.length:Nat):Int)<=l
 ·exact aE [(11,false)] 100 rfl (by simp[aa,aB];omega) (AK.au rfl (by simp[aa,bF h]))
 ·exact aE [(11,true)] 100 rfl (by simp[aa,aB];omega) (AK.au rfl (by simp[aa,bz h]))
abbrev Ak:bE:=gb yd aI (λx l=>dI (mq (fW x) l)) λ_ l=>[0<=l/\l<=1048576]
theorem HJ:bO X 101 Ak:=.gO λx l h=>BZ x l h
theorem Fx(x:Int×Int×Int×Bs) (l:Int)(b:0<=l/\l<=1048576):Ev X 10 [(kT pe).enc x,dI l] [] (dI (mq (x.2.2.2.length) l)) []:=by
 refine Ev.body Tryz.func10 rfl rfl rfl λa=>?_
 have c:=a.MM 0 rfl 3 rfl
 by_cases h:((x.2.2.2.length:Nat):Int)<=l
 ·exact aE [(11,false)] 100 rfl (by simp[aa,aB];omega) (AK.au rfl (by simp[aa,bF h]))
 ·exact aE [(11,true)] 100 rfl (by simp[aa,aB];omega) (AK.au rfl (by simp[aa,bz h]))
abbrev Fy:bE:=gb (kT pe) aI (λx l=>dI (mq (x.2.2.2.length) l)) λ_ l=>[0<=l/\l<=1048576]
theorem KH:bO X 10 Fy:=.gO λx l h=>Fx x l h
theorem yY(a:List (fb)) (l:Int)(o:0<=l/\l<=1048576):Ev X 82 [cG.sl a,dI l] [] (dI (mq (fh fW a) l)) []:=by
 refine Ev.body Tryz.func82 rfl rfl rfl λj=>?_
 have p:=j.sl 0 rfl;have b:aM X [(101,Ak)]:=.cons HJ .nil;have g:=jE fW a 0;simp only[fV,px,ji,List.sum_nil,eg] at g
 by_cases m:(a.length:Int)<=l
 rotate_left
 ·exact af b [(11,true)] 100 rfl (by simp[aa,aB];omega) (AK.au rfl (by rw[bz (by omega)];simp[aa]))
 refine af b [(11,false)] 100 rfl (by simp[aa,aB];omega) ?_
 refine AK.dX (λi=>i<=a.length/\(fV fW a i:Int)<=l) (λi:Nat=>[(0,cG.sl a),(5,dI i),(1,dI (l-(fV fW a i:Nat)))]) (λ_=>[]) (λi=>a.length-i) 0 rfl (by simp[fV,aa.cat,aa,aw.same]) rfl ab ⟨by omega,by simpa[fV] using m⟩ ?_
 rintro i ⟨hi,d⟩
 by_cases h:i<a.length
 ·have c:a.getD (i:Int).toNat cG.bx=a.getD i (0,[]):=by rw[az];rfl
  have n:=nJ (f:=fW) h (0,[]);have k:=jE fW a (i+1);generalize a.getD i (0,[])=x at *
  by_cases c2:((fW x:Nat):Int)<=l-(fV fW a i:Nat)
  ·have e:=bF c2;refine af b [(15,true),(25,false)] 100 rfl ?_ (AK.cN (i+1) rfl ?_ rfl ab ⟨h,by omega⟩ (by omega))
   ·simp only[aa,c,aB,e];simp;and_intros <;> omega
   ·simp only[aa.cat,aa,c,e];simp only[ah,ai];and_intros <;> first|exact aw.same|omega|rfl
  ·have e:=bz c2;refine af b [(15,true),(25,true)] 100 rfl ?_ (AK.dN (aR.zero rfl (by rw[bz (by omega)];simp[aa])))
   simp only[aa,c,aB,e];simp;and_intros <;> omega
 obtain rfl:i=a.length:=by omega
 rw[nK] at d ⊢;refine af b [(15,false)] 100 rfl (by simp[aa]) (AK.leave rfl rfl ?_)
 exact af b [] 100 rfl ab (AK.au rfl (by rw[bF d];simp[aa]))
abbrev xb:bE:=gb (aL cG) aI (λa l=>dI (mq (fh fW a) l)) λ_ l=>[0<=l/\l<=1048576]
theorem Fz:bO X 82 xb:=.gO λa l h=>yY a l h
def dr(x:aV):Nat:=fh fW x.2
theorem B0(x:aV) (l:Int)(h:0<=l/\l<=1048576):Ev X 63 [(mS cG).enc x,dI l] [] (dI (mq (dr x) l)) []:=by
 refine Ev.body Tryz.func63 rfl rfl rfl λg=>?_
 have d:aM X [(82,xb)]:=.cons Fz (.nil);unfold dr
 by_cases a:((fh fW x.2:Nat):Int)<=l
 rotate_left
 ·have e:=bz a;exact af d [(10,true)] 100 rfl (by simp[-List.map_map,aa,aB,e,cG.list_fn,cG.ae];omega) (AK.au rfl (by rw[bz (by omega)];simp[aa]))
 have b:=bF a;have f:=bF (c:=fh fW x.2) (l:=l) (by omega)
 exact af d [(10,false)] 100 rfl (by simp[-List.map_map,aa,aB,b,cG.list_fn,cG.ae];omega) (AK.au rfl (by simp[aa,f,b,cG.list_fn,cG.ae];try omega))
abbrev Al:bE:=gb (mS cG) aI (λx l=>dI (mq (dr x) l)) λ_ l=>[0<=l/\l<=1048576]
theorem HK:bO X 63 Al:=.gO λx l h=>B0 x l h
theorem yZ(a:List (aV)) (l:Int)(o:0<=l/\l<=1048576):Ev X 40 [cP.sl a,dI l] [] (dI (mq (fh dr a) l)) []:=by
 refine Ev.body Tryz.func40 rfl rfl rfl λj=>?_
 have p:=j.sl 0 rfl;have b:aM X [(63,Al)]:=.cons HK .nil;have g:=jE dr a 0;simp only[fV,px,ji,List.sum_nil,eg] at g
 by_cases m:(a.length:Int)<=l
 rotate_left
 ·exact af b [(11,true)] 100 rfl (by simp[aa,aB];omega) (AK.au rfl (by rw[bz (by omega)];simp[aa]))
 refine af b [(11,false)] 100 rfl (by simp[aa,aB];omega) ?_
 refine AK.dX (λi=>i<=a.length/\(fV dr a i:Int)<=l) (λi:Nat=>[(0,cP.sl a),(5,dI i),(1,dI (l-(fV dr a i:Nat)))]) (λ_=>[]) (λi=>a.length-i) 0 rfl (by simp[fV,aa.cat,aa,aw.same]) rfl ab ⟨by omega,by simpa[fV] using m⟩ ?_
 rintro i ⟨hi,d⟩
 by_cases h:i<a.length
 ·have c:a.getD (i:Int).toNat cP.bx=a.getD i (0,[]):=by rw[az];rfl
  have n:=nJ (f:=dr) h (0,[]);have k:=jE dr a (i+1);generalize a.getD i (0,[])=x at *
  by_cases c2:((dr x:Nat):Int)<=l-(fV dr a i:Nat)
  ·have e:=bF c2;refine af b [(15,true),(25,false)] 100 rfl ?_ (AK.cN (i+1) rfl ?_ rfl ab ⟨h,by omega⟩ (by omega))
   ·simp only[aa,c,aB,cG.list_fn,cG.ae,e];simp;and_intros <;> omega
   ·simp only[aa.cat,aa,c,cG.list_fn,cG.list_fn,e];simp only[ah,ai];and_intros <;> first|exact aw.same|omega|rfl
  ·have e:=bz c2;refine af b [(15,true),(25,true)] 100 rfl ?_ (AK.dN (aR.zero rfl (by rw[bz (by omega)];simp[aa])))
   simp only[aa,c,aB,cG.list_fn,cG.ae,e];simp;and_intros <;> omega
 obtain rfl:i=a.length:=by omega
 rw[nK] at d ⊢;refine af b [(15,false)] 100 rfl (by simp[aa]) (AK.leave rfl rfl ?_)
 exact af b [] 100 rfl ab (AK.au rfl (by rw[bF d];simp[aa]))
abbrev xc:bE:=gb (aL cP) aI (λa l=>dI (mq (fh dr a) l)) λ_ l=>[0<=l/\l<=1048576]
theorem FB:bO X 40 xc:=.gO λa l h=>yZ a l h
def cu(x:cU):Nat:=x.1.length+x.2.length
theorem xd(x:cU) (l:Int)(i:0<=l/\l<=1048576)(j:x.1.length<=9223372036854775807):Ev X 102 [(kT F2).enc x,dI l] [] (dI (mq (cu x) l)) []:=by
 refine Ev.body Tryz.func102 rfl rfl rfl λh=>?_
 have a:aM X [(12,pR)]:=.cons u6 (.nil);unfold cu
 by_cases f:((x.1.length:Nat):Int)<=l
 rotate_left
 ·have e:=bz f;exact af a [(11,true)] 100 rfl (by simp[-List.map_map,aa,aB,e,cI.list_fn,cI.ae];omega) (AK.au rfl (by rw[bz (by omega)];simp[aa]))
 by_cases b:((x.2.length:Nat):Int)<=l-(x.1.length:Nat)
 rotate_left
 ·have e:=bz b;exact af a [(11,false),(17,true)] 100 rfl (by simp[-List.map_map,aa,aB,e,cI.list_fn,cI.ae];omega) (AK.au rfl (by rw[bz (by omega)];simp[aa]))
 have d:=bF b;have g:=bF (c:=x.1.length+x.2.length) (l:=l) (by omega)
 exact af a [(11,false),(17,false)] 100 rfl (by simp[-List.map_map,aa,aB,d,cI.list_fn,cI.ae];omega) (AK.au rfl (by simp[aa,g,d,cI.list_fn,cI.ae];try omega))
abbrev tm:bE:=gb (kT F2) aI (λx l=>dI (mq (cu x) l)) λx l=>[0<=l/\l<=1048576,x.1.length<=9223372036854775807]
theorem B4:bO X 102 tm:=.gO λx l h=>xd x l h.1 h.2
theorem u9(a:List (cU)) (l:Int)(p:0<=l/\l<=1048576):Ev X 83 [cL.sl a,dI l] [] (dI (mq (fh cu a) l)) []:=by
 refine Ev.body Tryz.func83 rfl rfl rfl λd=>?_
 have q:=d.sl 0 rfl;have b:aM X [(102,tm)]:=.cons B4 .nil;have k:=jE cu a 0;simp only[fV,px,ji,List.sum_nil,eg] at k
 by_cases n:(a.length:Int)<=l
 rotate_left
 ·exact af b [(11,true)] 100 rfl (by simp[aa,aB];omega) (AK.au rfl (by rw[bz (by omega)];simp[aa]))
 refine af b [(11,false)] 100 rfl (by simp[aa,aB];omega) ?_
 refine AK.dX (λi=>i<=a.length/\(fV cu a i:Int)<=l) (λi:Nat=>[(0,cL.sl a),(5,dI i),(1,dI (l-(fV cu a i:Nat)))]) (λ_=>[]) (λi=>a.length-i) 0 rfl (by simp[fV,aa.cat,aa,aw.same]) rfl ab ⟨by omega,by simpa[fV] using n⟩ ?_
 rintro i ⟨hi,g⟩
 by_cases h:i<a.length
 ·have c:a.getD (i:Int).toNat cL.bx=a.getD i ([],[]):=by rw[az];rfl
  have o:=nJ (f:=cu) h ([],[]);have m:=jE cu a (i+1);have r:(a.getD i ([],[])).1.length<=9223372036854775807:=d.ML 0 rfl h (j:=0) rfl;generalize a.getD i ([],[])=x at *
  by_cases c2:((cu x:Nat):Int)<=l-(fV cu a i:Nat)
  ·have e:=bF c2;refine af b [(15,true),(25,false)] 100 rfl ?_ (AK.cN (i+1) rfl ?_ rfl ab ⟨h,by omega⟩ (by omega))
   ·simp only[aa,c,aB,cI.list_fn,cI.ae,e];simp;and_intros <;> omega
   ·simp only[aa.cat,aa,c,cI.list_fn,cI.list_fn,e];simp only[ah,ai];and_intros <;> first|exact aw.same|omega|rfl
  ·have e:=bz c2;refine af b [(15,true),(25,true)] 100 rfl ?_ (AK.dN (aR.zero rfl (by rw[bz (by omega)];simp[aa])))
   simp only[aa,c,aB,cI.list_fn,cI.ae,e];simp;and_intros <;> omega
 obtain rfl:i=a.length:=by omega
 rw[nK] at g ⊢;refine af b [(15,false)] 100 rfl (by simp[aa]) (AK.leave rfl rfl ?_)
 exact af b [] 100 rfl ab (AK.au rfl (by rw[bF g];simp[aa]))
abbrev rB:bE:=gb (aL cL) aI (λa l=>dI (mq (fh cu a) l)) λ_ l=>[0<=l/\l<=1048576]
theorem y0:bO X 83 rB:=.gO λa l h=>u9 a l h
def c8(x:cK):Nat:=fh cu x.2
theorem B5(x:cK) (l:Int)(h:0<=l/\l<=1048576):Ev X 64 [(mS cL).enc x,dI l] [] (dI (mq (c8 x) l)) []:=by
 refine Ev.body Tryz.func64 rfl rfl rfl λg=>?_
 have d:aM X [(83,rB)]:=.cons y0 (.nil);unfold c8
 by_cases a:((fh cu x.2:Nat):Int)<=l
 rotate_left
 ·have e:=bz a;exact af d [(10,true)] 100 rfl (by simp[-List.map_map,aa,aB,e,cL.list_fn,cL.ae];omega) (AK.au rfl (by rw[bz (by omega)];simp[aa]))
 have b:=bF a;have f:=bF (c:=fh cu x.2) (l:=l) (by omega)
 exact af d [(10,false)] 100 rfl (by simp[-List.map_map,aa,aB,b,cL.list_fn,cL.ae];omega) (AK.au rfl (by simp[aa,f,b,cL.list_fn,cL.ae];try omega))
abbrev Am:bE:=gb (mS cL) aI (λx l=>dI (mq (c8 x) l)) λ_ l=>[0<=l/\l<=1048576]
theorem HL:bO X 64 Am:=.gO λx l h=>B5 x l h
theorem y3(a:List (cK)) (l:Int)(o:0<=l/\l<=1048576):Ev X 41 [cD.sl a,dI l] [] (dI (mq (fh c8 a) l)) []:=by
 refine Ev.body Tryz.func41 rfl rfl rfl λj=>?_
 have p:=j.sl 0 rfl;have b:aM X [(64,Am)]:=.cons HL .nil;have g:=jE c8 a 0;simp only[fV,px,ji,List.sum_nil,eg] at g
 by_cases m:(a.length:Int)<=l
 rotate_left
 ·exact af b [(11,true)] 100 rfl (by simp[aa,aB];omega) (AK.au rfl (by rw[bz (by omega)];simp[aa]))
 refine af b [(11,false)] 100 rfl (by simp[aa,aB];omega) ?_
 refine AK.dX (λi=>i<=a.length/\(fV c8 a i:Int)<=l) (λi:Nat=>[(0,cD.sl a),(5,dI i),(1,dI (l-(fV c8 a i:Nat)))]) (λ_=>[]) (λi=>a.length-i) 0 rfl (by simp[fV,aa.cat,aa,aw.same]) rfl ab ⟨by omega,by simpa[fV] using m⟩ ?_
 rintro i ⟨hi,d⟩
 by_cases h:i<a.length
 ·have c:a.getD (i:Int).toNat cD.bx=a.getD i (0,[]):=by rw[az];rfl
  have n:=nJ (f:=c8) h (0,[]);have k:=jE c8 a (i+1);generalize a.getD i (0,[])=x at *
  by_cases c2:((c8 x:Nat):Int)<=l-(fV c8 a i:Nat)
  ·have e:=bF c2;refine af b [(15,true),(25,false)] 100 rfl ?_ (AK.cN (i+1) rfl ?_ rfl ab ⟨h,by omega⟩ (by omega))
   ·simp only[aa,c,aB,cL.list_fn,cL.ae,e];simp;and_intros <;> omega
   ·simp only[aa.cat,aa,c,cL.list_fn,cL.list_fn,e];simp only[ah,ai];and_intros <;> first|exact aw.same|omega|rfl
  ·have e:=bz c2;refine af b [(15,true),(25,true)] 100 rfl ?_ (AK.dN (aR.zero rfl (by rw[bz (by omega)];simp[aa])))
   simp only[aa,c,aB,cL.list_fn,cL.ae,e];simp;and_intros <;> omega
 obtain rfl:i=a.length:=by omega
 rw[nK] at d ⊢;refine af b [(15,false)] 100 rfl (by simp[aa]) (AK.leave rfl rfl ?_)
 exact af b [] 100 rfl ab (AK.au rfl (by rw[bF d];simp[aa]))
abbrev xe:bE:=gb (aL cD) aI (λa l=>dI (mq (fh c8 a) l)) λ_ l=>[0<=l/\l<=1048576]
theorem FC:bO X 41 xe:=.gO λa l h=>y3 a l h
def iy(x:cX):Nat:=fh dr x.1+fh c8 x.2.1+x.2.2.length
theorem y4(x:cX) (l:Int)(m:0<=l/\l<=1048576):Ev X 25 [zS.enc x,dI l] [] (dI (mq (iy x) l)) []:=by
 refine Ev.body Tryz.func25 rfl rfl rfl λk=>?_
 have b:aM X [(40,xc),(41,xe),(42,xa)]:=.cons FB (.cons FC (.cons Fw (.nil)));unfold iy
 by_cases f:((fh dr x.1:Nat):Int)<=l
 rotate_left
 ·have e:=bz f;exact af b [(10,true)] 100 rfl (by simp[-List.map_map,aa,aB,e,cP.list_fn,cP.ae,cD.list_fn,cD.ae,cH.list_fn,cH.ae];omega) (AK.au rfl (by rw[bz (by omega)];simp[aa]))
 have a:=bF f
 by_cases h:((fh c8 x.2.1:Nat):Int)<=l-(fh dr x.1:Nat)
 rotate_left
 ·have e:=bz h;exact af b [(10,false),(16,true)] 100 rfl (by simp[-List.map_map,aa,aB,e,a,cP.list_fn,cP.ae,cD.list_fn,cD.ae,cH.list_fn,cH.ae];omega) (AK.au rfl (by rw[bz (by omega)];simp[aa]))
 have d:=bF h
 by_cases g:((x.2.2.length:Nat):Int)<=l-(fh dr x.1:Nat)-(fh c8 x.2.1:Nat)
 rotate_left
 ·have e:=bz g;exact af b [(10,false),(16,false),(22,true)] 100 rfl (by simp[-List.map_map,aa,aB,e,a,d,cP.list_fn,cP.ae,cD.list_fn,cD.ae,cH.list_fn,cH.ae];omega) (AK.au rfl (by rw[bz (by omega)];simp[aa]))
 have i:=bF g;have j:=bF (c:=fh dr x.1+fh c8 x.2.1+x.2.2.length) (l:=l) (by omega)
 exact af b [(10,false),(16,false),(22,false)] 100 rfl (by simp[-List.map_map,aa,aB,a,d,i,cP.list_fn,cP.ae,cD.list_fn,cD.ae,cH.list_fn,cH.ae];omega) (AK.au rfl (by simp[aa,j,a,d,i,cP.list_fn,cP.ae,cD.list_fn,cD.ae,cH.list_fn,cH.ae];try omega))
abbrev xf:bE:=gb zS aI (λx l=>dI (mq (iy x) l)) λ_ l=>[0<=l/\l<=1048576]
theorem FD:bO X 25 xf:=.gO λx l h=>y4 x l h
def gV(x:fU):Nat:=iy x.1+x.2.1.length+x.2.2.length
theorem y5(x:fU) (l:Int)(m:0<=l/\l<=1048576):Ev X 9 [(kT EE).enc x,dI l] [] (dI (mq (gV x) l)) []:=by
 refine Ev.body Tryz.func9 rfl rfl rfl λk=>?_
 have b:aM X [(25,xf),(12,pR)]:=.cons FD (.cons u6 (.nil));unfold gV
 by_cases f:((iy x.1:Nat):Int)<=l
 rotate_left
 ·have e:=bz f;exact af b [(10,true)] 100 rfl (by simp[-List.map_map,aa,aB,e,cP.list_fn,cP.ae,cD.list_fn,cD.ae,cH.list_fn,cH.ae,cI.list_fn,cI.ae];omega) (AK.au rfl (by rw[bz (by omega)];simp[aa]))
 have a:=bF f
 by_cases h:((x.2.1.length:Nat):Int)<=l-(iy x.1:Nat)
 rotate_left
 ·have e:=bz h;exact af b [(10,false),(16,true)] 100 rfl (by simp[-List.map_map,aa,aB,e,a,cP.list_fn,cP.ae,cD.list_fn,cD.ae,cH.list_fn,cH.ae,cI.list_fn,cI.ae];omega) (AK.au rfl (by rw[bz (by omega)];simp[aa]))
 have d:=bF h
 by_cases g:((x.2.2.length:Nat):Int)<=l-(iy x.1:Nat)-(x.2.1.length:Nat)
 rotate_left
 ·have e:=bz g;exact af b [(10,false),(16,false),(22,true)] 100 rfl (by simp[-List.map_map,aa,aB,e,a,d,cP.list_fn,cP.ae,cD.list_fn,cD.ae,cH.list_fn,cH.ae,cI.list_fn,cI.ae];omega) (AK.au rfl (by rw[bz (by omega)];simp[aa]))
 have i:=bF g;have j:=bF (c:=iy x.1+x.2.1.length+x.2.2.length) (l:=l) (by omega)
 exact af b [(10,false),(16,false),(22,false)] 100 rfl (by simp[-List.map_map,aa,aB,a,d,i,cP.list_fn,cP.ae,cD.list_fn,cD.ae,cH.list_fn,cH.ae,cI.list_fn,cI.ae];omega) (AK.au rfl (by simp[aa,j,a,d,i,cP.list_fn,cP.ae,cD.list_fn,cD.ae,cH.list_fn,cH.ae,cI.list_fn,cI.ae];try omega))
abbrev xg:bE:=gb (kT EE) aI (λx l=>dI (mq (gV x) l)) λ_ l=>[0<=l/\l<=1048576]
theorem FE:bO X 9 xg:=.gO λx l h=>y5 x l h
def mc(x:eG):Nat:=gV x.2.1+x.2.2.1.2.2.2.length+x.2.2.2.1.length+x.2.2.2.2.length
theorem y6(x:eG) (l:Int)(o:0<=l/\l<=1048576):Ev X 4 [(kT F1).enc x,dI l] [] (dI (mq (mc x) l)) []:=by
 refine Ev.body Tryz.func4 rfl rfl rfl λn=>?_
 have b:aM X [(9,xg),(10,Fy),(11,rA),(12,pR)]:=.cons FE (.cons KH (.cons yX (.cons u6 (.nil))));unfold mc
 by_cases g:((gV x.2.1:Nat):Int)<=l
 rotate_left
 ·have e:=bz g;exact af b [(10,true)] 100 rfl (by simp[-List.map_map,aa,aB,e,cP.list_fn,cP.ae,cD.list_fn,cD.ae,cH.list_fn,cH.ae,cI.list_fn,cI.ae,aa.cat];omega) (AK.au rfl (by rw[bz (by omega)];simp[aa]))
 have a:=bF g
 by_cases i:((x.2.2.1.2.2.2.length:Nat):Int)<=l-(gV x.2.1:Nat)
 rotate_left
 ·have e:=bz i;exact af b [(10,false),(16,true)] 100 rfl (by simp[-List.map_map,aa,aB,e,a,cP.list_fn,cP.ae,cD.list_fn,cD.ae,cH.list_fn,cH.ae,cI.list_fn,cI.ae,aa.cat];omega) (AK.au rfl (by rw[bz (by omega)];simp[aa]))
 have d:=bF i
 by_cases h:((x.2.2.2.1.length:Nat):Int)<=l-(gV x.2.1:Nat)-(x.2.2.1.2.2.2.length:Nat)
 rotate_left
 ·have e:=bz h;exact af b [(10,false),(16,false),(22,true)] 100 rfl (by simp[-List.map_map,aa,aB,e,a,d,cP.list_fn,cP.ae,cD.list_fn,cD.ae,cH.list_fn,cH.ae,cI.list_fn,cI.ae,aa.cat];omega) (AK.au rfl (by rw[bz (by omega)];simp[aa]))
 have f:=bF h
 by_cases j:((x.2.2.2.2.length:Nat):Int)<=l-(gV x.2.1:Nat)-(x.2.2.1.2.2.2.length:Nat)-(x.2.2.2.1.length:Nat)
 rotate_left
 ·have e:=bz j;exact af b [(10,false),(16,false),(22,false),(28,true)] 100 rfl (by simp[-List.map_map,aa,aB,e,a,d,f,cP.list_fn,cP.ae,cD.list_fn,cD.ae,cH.list_fn,cH.ae,cI.list_fn,cI.ae,aa.cat];omega) (AK.au rfl (by rw[bz (by omega)];simp[aa]))
 have k:=bF j;have m:=bF (c:=gV x.2.1+x.2.2.1.2.2.2.length+x.2.2.2.1.length+x.2.2.2.2.length) (l:=l) (by omega)
 exact af b [(10,false),(16,false),(22,false),(28,false)] 100 rfl (by simp[-List.map_map,aa,aB,a,d,f,k,cP.list_fn,cP.ae,cD.list_fn,cD.ae,cH.list_fn,cH.ae,cI.list_fn,cI.ae,aa.cat];omega) (AK.au rfl (by simp[aa,m,a,d,f,k,cP.list_fn,cP.ae,cD.list_fn,cD.ae,cH.list_fn,cH.ae,cI.list_fn,cI.ae,aa.cat];try omega))
abbrev xh:bE:=gb (kT F1) aI (λx l=>dI (mq (mc x) l)) λ_ l=>[0<=l/\l<=1048576]
theorem FF:bO X 4 xh:=.gO λx l h=>y6 x l h
theorem q0{α:Type}{q:α->Bool}{l:List α}(h:l.any q=true):0<=qV q l:=by
 unfold qV;cases e:l.findIdx? q with
 |some i=>exact Int.natCast_nonneg i
 |none =>
  rw[mr] at e;obtain⟨x,b,a⟩:=List.any_eq_true.1 h;rw[e x b] at a;cases a
theorem q8{α:Type}{q:α->Bool}{l:List α}(h:l.any q=false):qV q l=-1:=by
 unfold qV;have:l.findIdx? q=none:=by
  rw[mr];intro x a;have:=pr.1 h x a;simpa using this
 rw[this]
theorem Ei(l:List (Int×Int))(b:Nat)(q:Int×Int->Bool)(k:∀ x,x∈l->Ev X b [.e (.agg [.c (.int .i64 x.1),.c (.int .i64 x.2)])] [] (dB (q x)) []) :
  Ev X 98 [cH.sl l,.e (.one (.c (.fn (.func b) [] [])))] [] (dI (qV q l)) []:=by
 refine Ev.body Tryz.func98 rfl rfl rfl λn=>?_
 have g:=n.sl 0 rfl;refine bq rfl ab ?_;refine AK.dX (λi=>i<=l.length/\∀ j,j<i->q (l.getD j (0,0))=false) (λi:Nat=>[(0,cH.sl l),(1,.e (.one (.c (.fn (.func b) [] [])))),(7,dI l.length),(8,dI i)]) (λ_=>[]) (λi=>l.length-i) 0 rfl ?_ rfl ab ⟨by omega,by omega⟩ ?_
 ·simp[aa.cat,aa,aw.same]
 rintro i ⟨hi,a⟩
 by_cases h:i<l.length
 ·have o:l.getD i (0,0)∈l:=by rw[List.getD_eq_getElem?_getD,aj h];exact hX h
  have m:l.getD (i:Int).toNat cH.bx=l.getD i (0,0):=by rw[az];rfl
  refine aE [(9,true)] 100 rfl ?_ ?_
  ·simp only[aa];exact⟨by omega,by omega,aP (by omega)⟩
  rw[m];refine AK.aO (k _ o) [] rfl rfl rfl rfl rfl rfl rfl rfl rfl rfl rfl ?_;cases f:q (l.getD i (0,0)) with
  |true =>
   refine aE [(16,true)] 100 rfl ?_ (AK.dN (aR.zero rfl ?_))
   ·simp[aa]
   ·simp[aa,uJ h f a]
  |false =>
   refine aE [(16,false)] 100 rfl ?_ (AK.cN (i+1) rfl ?_ rfl ab ?_ ?_)
   ·simp[aa,aB];omega
   ·simp[aa.cat,aa,aw.same]
   ·refine⟨by omega,λj d=>?_⟩
    rcases dC.1 d with d|rfl
    ·exact a j d
    ·exact f
   ·omega
 ·refine aE [(9,false)] 100 rfl (by simp[aa];omega) (AK.leave rfl rfl ?_)
  refine bq rfl ab (AK.au rfl ?_);simp[aa,om (λj d=>a j (by omega))]
theorem Ej(l:List (Int×Int))(a:Nat)(q:Int×Int->Bool)(b:∀ x,x∈l->Ev X a [.e (.agg [.c (.int .i64 x.1),.c (.int .i64 x.2)])] [] (dB (q x)) []) :
  Ev X 76 [cH.sl l,.e (.one (.c (.fn (.func a) [] [])))] [] (dB (l.any q)) []:=by
 refine Ev.body Tryz.func76 rfl rfl rfl λd=>?_
 refine bq rfl ab ?_;refine AK.aO (Ei l a q b) [] rfl rfl rfl rfl rfl rfl rfl rfl rfl rfl rfl ?_;cases h:l.any q with
 |true =>
  refine aE [(8,true)] 100 rfl (aP (q0 h)) (AK.au rfl ?_);simp[aa]
 |false =>
  refine aE [(8,false)] 100 rfl (bR (by rw[q8 h];decide)) (AK.au rfl ?_)
  simp[aa]
theorem Ek(l:List (aV))(b:Nat)(cs:List C)(q:aV->Bool)(k:∀ x,x∈l->Ev X b [Ii x,.e (.one (.c (.rp cs)))] [] (dB (q x)) []) :
  Ev X 59 [cP.sl l,.e (.one (.c (.fn (.func b) [] [.rp cs])))] [] (dI (qV q l)) []:=by
 refine Ev.body Tryz.func59 rfl rfl rfl λn=>?_
 have g:=n.sl 0 rfl;refine bq rfl ab ?_;refine AK.dX (λi=>i<=l.length/\∀ j,j<i->q (l.getD j (0,[]))=false) (λi:Nat=>[(0,cP.sl l),(1,.e (.one (.c (.fn (.func b) [] [.rp cs])))),(7,dI l.length),(8,dI i)]) (λ_=>[]) (λi=>l.length-i) 0 rfl ?_ rfl ab ⟨by omega,by omega⟩ ?_
 ·simp[aa.cat,aa,aw.same]
 rintro i ⟨hi,a⟩
 by_cases h:i<l.length
 ·have o:l.getD i (0,[])∈l:=by rw[List.getD_eq_getElem?_getD,aj h];exact hX h
  have m:l.getD (i:Int).toNat cP.bx=l.getD i (0,[]):=by rw[az];rfl
  refine aE [(9,true)] 100 rfl ?_ ?_
  ·simp only[aa];exact⟨by omega,by omega,aP (by omega)⟩
  rw[m];refine AK.aO (k _ o) [] rfl rfl rfl rfl rfl rfl rfl rfl rfl rfl rfl ?_;cases f:q (l.getD i (0,[])) with
  |true =>
   refine aE [(16,true)] 100 rfl ?_ (AK.dN (aR.zero rfl ?_))
   ·simp[aa]
   ·simp[aa,uJ h f a]
  |false =>
   refine aE [(16,false)] 100 rfl ?_ (AK.cN (i+1) rfl ?_ rfl ab ?_ ?_)
   ·simp[aa,aB];omega
   ·simp[aa.cat,aa,aw.same]
   ·refine⟨by omega,λj d=>?_⟩
    rcases dC.1 d with d|rfl
    ·exact a j d
    ·exact f
   ·omega
 ·refine aE [(9,false)] 100 rfl (by simp[aa];omega) (AK.leave rfl rfl ?_)
  refine bq rfl ab (AK.au rfl ?_);simp[aa,om (λj d=>a j (by omega))]
theorem El(l:List (aV))(a:Nat)(cs:List C)(q:aV->Bool)(b:∀ x,x∈l->Ev X a [Ii x,.e (.one (.c (.rp cs)))] [] (dB (q x)) []) :
  Ev X 36 [cP.sl l,.e (.one (.c (.fn (.func a) [] [.rp cs])))] [] (dB (l.any q)) []:=by
 refine Ev.body Tryz.func36 rfl rfl rfl λd=>?_
 refine bq rfl ab ?_;refine AK.aO (Ek l a cs q b) [] rfl rfl rfl rfl rfl rfl rfl rfl rfl rfl rfl ?_;cases h:l.any q with
 |true =>
  refine aE [(8,true)] 100 rfl (aP (q0 h)) (AK.au rfl ?_);simp[aa]
 |false =>
  refine aE [(8,false)] 100 rfl (bR (by rw[q8 h];decide)) (AK.au rfl ?_)
  simp[aa]
theorem Em(l:List (Int))(b:Nat)(cs:List C)(H:Value->(Nat->Option Obj)->Prop)(q:Int->Bool)(k:∀ x,x∈l->Ev X b [dI x,.e (.one (.c (.rp cs)))] [.eB H] (dB (q x)) [.eB H]) :
  Ev X 57 [cI.sl l,.e (.one (.c (.fn (.func b) [] [.rp cs])))] [.eB H] (dI (qV q l)) [.eB H]:=by
 refine Ev.body Tryz.func57 rfl rfl rfl λn=>?_
 have g:=n.sl 0 rfl;refine bq rfl ab ?_;refine AK.bU 1 (λi=>i<=l.length/\∀ j,j<i->q (l.getD j 0)=false) (λi:Nat=>[(0,cI.sl l),(1,.e (.one (.c (.fn (.func b) [] [.rp cs])))),(7,dI l.length),(8,dI i)]) (λ_=>[.eB H]) (λi=>l.length-i) 0 rfl ?_ rfl ?_ rfl ⟨by omega,by omega⟩ ?_
 ·simp[aa.cat,aa,aw.same]
 ·simp[aa.cat,aa,aw.same]
 rintro i ⟨hi,a⟩
 by_cases h:i<l.length
 ·have o:l.getD i 0∈l:=by rw[List.getD_eq_getElem?_getD,aj h];exact hX h
  have m:l.getD (i:Int).toNat cI.bx=l.getD i 0:=by rw[az];rfl
  refine aE [(9,true)] 100 rfl ?_ ?_
  ·simp only[aa];exact⟨by omega,by omega,aP (by omega)⟩
  rw[m];refine AK.aO (k _ o) [0] rfl rfl rfl rfl rfl rfl rfl rfl rfl rfl rfl ?_;cases f:q (l.getD i 0) with
  |true =>
   refine aE [(16,true)] 100 rfl ?_ (AK.cR (aR.mk [0] rfl ?_ rfl rfl rfl mL))
   ·simp[aa]
   ·simp[aa,uJ h f a]
  |false =>
   refine aE [(16,false)] 100 rfl ?_ (AK.aA (i+1) rfl ?_ rfl rfl rfl ?_ rfl ?_ ?_)
   ·simp[aa,aB];omega
   ·simp[aa.cat,aa,aw.same]
   ·simp[aa.cat,aa,aw.same]
   ·refine⟨by omega,λj d=>?_⟩
    rcases dC.1 d with d|rfl
    ·exact a j d
    ·exact f
   ·omega
 ·refine aE [(9,false)] 100 rfl (by simp[aa];omega) (AK.leaveD rfl rfl ?_)
  refine bq rfl ab (AK.eF [0] rfl ?_ rfl rfl rfl mL);simp[aa,om (λj d=>a j (by omega))]
theorem En(l:List (Int))(a:Nat)(cs:List C)(H:Value->(Nat->Option Obj)->Prop)(q:Int->Bool)(b:∀ x,x∈l->Ev X a [dI x,.e (.one (.c (.rp cs)))] [.eB H] (dB (q x)) [.eB H]) :
  Ev X 33 [cI.sl l,.e (.one (.c (.fn (.func a) [] [.rp cs])))] [.eB H] (dB (l.any q)) [.eB H]:=by
 refine Ev.body Tryz.func33 rfl rfl rfl λd=>?_
 refine bq rfl ab ?_;refine AK.aO (Em l a cs H q b) [0] rfl rfl rfl rfl rfl rfl rfl rfl rfl rfl rfl ?_;cases h:l.any q with
 |true =>
  refine aE [(8,true)] 100 rfl (aP (q0 h)) (AK.eF [0] rfl ?_ rfl rfl rfl mL);simp[aa]
 |false =>
  refine aE [(8,false)] 100 rfl (bR (by rw[q8 h];decide)) (AK.eF [0] rfl ?_ rfl rfl rfl mL)
  simp[aa]
end Go.AM.R1
namespace Go.AM.R1
open Go.Proofs
def Bi(a:List D)(res:D):bE:=λargs σ=>match σ with|[]=>some (res,[],[args=a])|_=>none
theorem G9{X:Cx Tryz.prog}{f:FuncId}{a:List D}{res:D}(h:Ev X f a [] res []):bO X f (Bi a res):=by
 intro args σ r σ' obs he ho;unfold Bi at he;split at he
 ·cases he;have:args=a:=ho;subst this;exact h
 ·cases he
variable {X:Cx Tryz.prog} [X.sc]
end Go.AM.R1
namespace Go.AM
theorem fK.die{P:Program}{ι:Type}{X:Cx P}{f:FuncId}{args:List D}{E k n:Nat}{b:Nat->List C}{w:BP}{es:ι->Nat->List C}{m:ι->Nat}(h:fK X f args [.buf E k n b] (λ_=>.e (.one (.bp 0 w))) (λi=>[.buf E k (m i) (es i)])):Ev X f args [.buf E k n b] (.e (.one (.bp 0 w))) [.dead] :=
 ⟨h.1,λs vs hr hh S cs hS=>h.2 s vs hr hh S cs λi fr v s' hl rJ md st=>hS fr v s' hl (by
  obtain⟨lv,h1,_,_⟩:fz _ _ _ (.bp 0 w):=rJ;exact(⟨lv,h1,by simp,λ_ _ _ _ c=>by simp at c⟩:fz [.dead] s' v (.bp 0 w))) md.kD
  ⟨st.size,st.en,st.mem,st.hZ,st.rF,λl B L a d=>by
   obtain⟨B',L',h1,h2,g⟩:=st.box l B L a d;cases l with
   |zero=>simp at a;subst a;exact⟨.dead,L',rfl,h2,ab⟩
   |succ l=>simp at a,st.os,st.tape,st.output,st.own⟩⟩
namespace R1
open Go.Proofs
variable {X:Cx Tryz.prog}
theorem yD(h:gv):Ev X 78 [Pt h] [] (dB (fy h)) []:=by
 refine Ev.body Tryz.func78 rfl rfl rfl λc=>?_
 have a:aM X []:=.nil;unfold fy
 by_cases b:h.1=1
 ·by_cases c3:1<=h.2
  ·exact af a [(6,true),(11,true),(16,true)] 100 rfl (by simp[aa,b,c3]) (AK.au rfl (by simp[aa,b,c3]))
  ·exact af a [(6,true),(11,true),(16,false)] 100 rfl (by simp[aa,b];omega) (AK.au rfl (by simp[aa,c3]))
 ·by_cases c2:h.1=2
  ·by_cases c3:1<=h.2
   ·exact af a [(6,false),(11,true),(16,true)] 100 rfl (by simp[aa,c2,c3]) (AK.au rfl (by simp[aa,c2,c3]))
   ·exact af a [(6,false),(11,true),(16,false)] 100 rfl (by simp[aa,c2];omega) (AK.au rfl (by simp[aa,c3]))
  ·exact af a [(6,false),(11,false),(16,false)] 100 rfl (by simp[aa,b,c2]) (AK.au rfl (by
    have:¬(1<=h.1/\h.1<=2):=by omega
    simp only[aa,bR this];simp))
theorem Bx(h:gv):Ev X 77 [Pt h] [] (dB (!fy h)) []:=by
 refine Ev.body Tryz.func77 rfl rfl rfl λb=>?_
 have a:aM X [(78,fZ sJ (λh=>dB (fy h)) λ_=>[])]:=.cons (.je λh _=>yD h) .nil
 exact af a [] 100 rfl ab (AK.au rfl (by simp[aa]))
theorem By(l:List gv):mn l=(decide (l.length<=9)&&!l.any λh=>!fy h):=by
 have:(List.range l.length).all (λi=>fy (l.getD i (0,0)))=!l.any λh=>!fy h:=by
  rw[ld,ba,iC,pr]
  constructor
  ·intro h x a;obtain⟨i,hi,rfl⟩:=jK.1 a;have:=h i hi;rw[List.getD_eq_getElem?_getD,aj hi] at this;simpa using this
  ·intro h i hi;have:=h _ (cE (d:=(0,0)) hi);simpa using this
 rw[mn,this,Bool.and_comm]
theorem Bz(l:List gv):Ev X 56 [cH.sl l] [] (dB (mn l)) []:=by
 refine Ev.body Tryz.func56 rfl rfl rfl λd=>?_
 have a:=Ej (X:=X) l 77 (λh=>!fy h) λx _=>Bx x
 have b:aM X [(76,Bi [cH.sl l,.e (.one (.c (.fn (.func 77) [] [])))] (dB (l.any λh=>!fy h)))]:=.cons (G9 a) .nil
 rw[By]
 by_cases h:l.length<=9
 ·exact af b [(6,true)] 100 rfl ⟨rfl,aP (by omega)⟩ (AK.au rfl (by simp[aa,h]))
 ·exact af b [(6,false)] 100 rfl (by simp[aa];omega) (AK.au rfl (by simp[aa,bR h]))
theorem Hn:bO X 56 pP:=.je λl _=>Bz l
theorem uP(p:aV)(d:p.2.length<=4000000):Ev X 92 [Ii p] [] (cI.sl (p.2.map (·.1))) []:=by
 refine Ev.body Tryz.func92 rfl rfl rfl λf=>?_
 refine aE [(1000002,true)] 100 rfl ab ?_;refine AK.lA 3 3 1 rfl rfl ?_;refine bq rfl ab ?_;refine AK.bU 2 (λi=>i<=p.2.length) (λi:Nat=>[(1,.e (.one (.ptr 0 0))),(3,.e (.one (.vec 1 1 i (cI.fn ((p.2.take i).map (·.1)))))),(7,cG.sl p.2),(8,dI p.2.length),(9,dI i)]) (λi=>[J7 p,.vec 3 1 i (cI.fn ((p.2.take i).map (·.1)))]) (λi=>p.2.length-i) 0 rfl (by simp[aa.cat,aa,aw.same,aw.nil]) rfl (by simp[aa.cat,aa,aw.same,aw.nil]) rfl (by omega) ?_
 intro i hi
 by_cases h:i<p.2.length
 ·have b:p.2.getD (i:Int).toNat cG.bx=dL p i:=by rw[az];rfl
  have a:(p.2.take (i+1)).map (·.1)=(p.2.take i).map (·.1)++[(dL p i).1]:=by rw[bu h (0,[])];simp
  have c:((p.2.take i).map (·.1)).length=i:=by simp;omega
  have e:=cI.eO ((p.2.take i).map (·.1)) (dL p i).1;rw[c] at e;refine aE [(10,true)] 100 rfl ?_ (AK.aA (i+1) rfl ?_ rfl rfl rfl ?_ rfl h (by omega))
  ·simp only[aa,aB,show i3.bytes=8 from rfl];simp;omega
  ·rw[a];simp only[aa.cat,aa,b,ai,ah];and_intros <;> first|exact aw.same|exact e|rfl|omega
  ·rw[a];simp only[aa.cat,aa,b,ai,ah];and_intros <;> first|exact aw.same|exact e|rfl|omega
 obtain rfl:i=p.2.length:=by omega
 rw[cW];refine aE [(10,false)] 100 rfl (by simp[aa]) (AK.leaveD rfl rfl ?_)
 exact bq rfl ab (AK.au rfl (by simp[aa,aa.cat,aw.same]))
abbrev wF:bE:=fZ (mS cG) (λp=>cI.sl (p.2.map (·.1))) λp=>[p.2.length<=4000000]
theorem EI:bO X 92 wF:=.je λp h=>uP p h
theorem BA(ps:List aV)(i:Nat):(aK (ps.take i)).length<=(aK ps).length:=by
 have:aK ps=aK (ps.take i)++aK (ps.drop i):=by unfold aK;rw[<-pq,jH]
 rw[this,bd];omega
abbrev Pw(l:List Int):D:=.e (.one (.bp 0 (.sl l.length 1 0 l.length)))
theorem wG(ps:List aV)(m:∀ p∈ps,p.2.length<=4000000)(q:(aK ps).length<=4000000):Ev X 72 [cP.sl ps] [] (Pw (aK ps)) [BC (aK ps).length (aK ps)]:=by
 refine Ev.body Tryz.func72 rfl rfl rfl λo=>?_
 have k:=o.sl 0 rfl;have f:aM X [(92,wF)]:=.cons EI .nil;refine af f [(1000002,true)] 100 rfl ab ?_;refine AK.L8 3 3 1 (cI.fn []) rfl ?_;refine af f [] 100 rfl ab ?_;refine AK.bU 1 (λi=>i<=ps.length) (λi:Nat=>[(3,.e (.one (.bp 0 (.sl (aK (ps.take i)).length 1 0 (aK (ps.take i)).length)))),(6,cP.sl ps),(7,dI ps.length),(8,dI i)]) (λi=>[BC (aK (ps.take i)).length (aK (ps.take i))]) (λi=>ps.length-i) 0 rfl (by simp[aa.cat,aa,aw.same,aK]) rfl (by simp[aa.cat,aa,aw,aK]) rfl (by omega) ?_
 intro i hi
 by_cases h:i<ps.length
 ·have g:ps.getD (i:Int).toNat cP.bx=ps.getD i (0,[]):=by rw[az];rfl
  have b:=rb h;have c:=BA ps (i+1);have l:=m _ (cE (d:=(0,[])) h);generalize ps.getD i (0,[])=p at *;rw[b] at c;generalize aK (ps.take i)=a at *;have e:=cI.EJ a (p.2.map (·.1)) _ rfl;simp only[bd,iD] at c e;refine af f [(9,true)] 100 rfl ?_ (AK.aA (i+1) rfl ?_ rfl rfl rfl ?_ rfl h (by omega))
  ·simp only[aa,g,aB,cG.list_fn,cG.ae,iD,show i3.bytes=8 from rfl];simp;omega
  ·rw[b];simp only[aa.cat,aa,g,cG.list_fn,bd,iD,ai,ah];and_intros <;> first|exact aw.same|rfl|omega
  ·rw[b];simp only[aa.cat,aa,g,cG.list_fn,bd,iD,ai,ah];and_intros <;> first|exact aw.same|exact e|rfl|omega
 obtain rfl:i=ps.length:=by omega
 rw[cW];refine af f [(9,false)] 100 rfl (by simp[aa]) (AK.leaveD rfl rfl ?_)
 refine af f [] 100 rfl ab (AK.eF [0] rfl ?_ rfl rfl rfl (λj n=>absurd n (by simp)))
 simp[aa]
theorem BD(ps:List aV)(a:∀ p∈ps,p.2.length<=4000000)(b:(aK ps).length<=4000000):Ev X 72 [cP.sl ps] [] (cI.sl (aK ps)) [] :=
 Ev.lE (σ1:=[]) (E:=3) (k:=1) (n:=(aK ps).length) (es:=cI.fn (aK ps)) (wG ps a b) rfl (by simp[aa]) rfl (aq _)
end R1
end Go.AM
namespace Go.AM.R1
theorem s9{l:List Int}:∀ {k:Nat},(gC l k).length=k->∀ i,1<=i->i<k->l.getD i 0≠l.getD (i-1) 0
 |0,_,i,_,h=>by omega
 |k+1,h,i,b,d=>by
  have f:=nG l k;rw[gC] at h;split at h
  ·omega
  ·rename_i a
   simp only[bd,fi] at h
   by_cases e:i=k
   ·subst e;exactλc=>a ⟨by omega,c⟩
   ·exact s9 (k:=k) (by omega) i b (by omega)
theorem uT(l:List Int):(jC l).Pairwise λx y=>x<=y:=by
 have:=List.pairwise_mergeSort (le:=λx y:Int=>decide (x<=y)) (λa b c d e=>by simp at *;omega) (λa b=>by simp;omega) l
 exact this.imp λh=>by simpa using h
theorem rl(l:List Int):(jC l).Perm l:=List.mergeSort_perm _ _
theorem uQ(l:List Int):(cm (jC l)).length=l.length↔l.Nodup:=by
 rw[<-ek l,<-(rl l).nodup_iff];have f:=uT l;generalize jC l=s at *;have b:∀ {i:Nat} (h:i<s.length),s.getD i 0=s[i]:=λ{i} h=>by rw[List.getD_eq_getElem?_getD,aj h];rfl
 constructor
 ·intro h;have c:=s9 h;refine List.Pairwise.imp (R:=λx y=>x<y) (λh e=>by omega) (tr.2 λi j hi hj UQ=>?_)
  have a:=tr.1 f;have d:=c j (by omega) hj
  rw[b hj,b (by omega)] at d
  have g:=a (j-1) j (by omega) hj (by omega)
  by_cases e:i=j-1
  ·subst e;omega
  ·have:=a i (j-1) hi (by omega) (by omega);omega
 ·intro h;unfold cm;rw[j7 (aq _),cW];intro i c a e;rw[b a,b (by omega)] at e
  have:=(tr.1 h) (i-1) i (by omega) a (by omega)
  exact this e.symm
end Go.AM.R1
namespace Go.AM.R1
open Go.Proofs
def Is(a:List D)(b:List ak)(res:D)(σ1:List ak):bE:=λargs σ=>some (res,σ1,[args=a,σ=b])
theorem MH{X:Cx Tryz.prog}{f:FuncId}{a:List D}{b σ1:List ak}{res:D}(h:Ev X f a b res σ1):bO X f (Is a b res σ1):=by
 intro args σ r σ' obs he ho;cases he;obtain⟨c,d⟩:args=a/\σ=b:=ho;subst c d;exact h
variable {X:Cx Tryz.prog} [X.sc]
end Go.AM.R1
