/- Part 3. No condition. -/
import Derived.Test.YtmikbgondjokcaaGreatDoorA2
import Derived.Maps.RangeRun
import Derived.Laws.Externs
import Derived.Conc.Beside
import Derived.Conc.CrowdRun
import Derived.Conc.WgGenN2
import Derived.Conc.WgGenN3
set_option linter.all false
set_option maxHeartbeats 8000000
open Go.Conc (G)
open Go renaming Value → ai, TypeId → av, undef → ah, Operand → aB, execOp → aq, World → ay, Program → aJ, Oper → aC, Goroutine → ar, stepG → aG, Frame → aX, FuncId → aH
open Option renaming some → aa, none → ae
open Bool renaming true → ab, false → af
open Go.World renaming cell? → aP
open Go.Sem renaming events_bind → aR
open Go.Result renaming evThen_ok → aV
open Go.Instr renaming sliceBounds → bk, sureAddr → bt
open List renaming range → bc
open Go.Region renaming wanted → bl
open Go.MemAct renaming ofEvent → aM
open Nat renaming beq → aw, ble → bD
open Go.Conc renaming stepG_seq → aA, stepG_region_end → az
namespace Go.AM
variable {n:Nat}{k:Int}{l b i j:Nat}{E:av}{H:ai->(Nat->Option Obj)->Prop}{L:Array Bool}{M:Mem}{N:Nat}{P:aJ}{S:ar->St->Prop}{c:Code}{g:ar}{o:aC}{s:St}{t:av}{v:ai}{w:ay}{x y:aB}{α:Type}{η:aB->D}{ι:Type}{σ:List bg}{φ:Fr}{all:List aC}{jU:Array av}{cap:List C}{cv:List D}{cs:List aX}{ds:List (Nat×Bool)}{es:Nat->List C}{fo:aB}{ks:List Nat}{obs:List Prop}{off:Nat}{op:BinOp}{ops:Array aC}{ps:List Prop}{rest:List aC}{s':St}{ty:av}{val:Nat->Nat->ai}{vs:List ai}{w':ay}{xs:Array aB}{σ' σs:List bg}{res:ι->D}{σ1:ι->List bg}
variable {CT:List (Nat×dJ)}{K:List It}{Qf:Post}{T:List (Nat×TI)}{ie:TI}
section
variable {X:Cx P}
theorem m9.lL{x:ι->D}{σ':ι->List bg}(p:o.guard=ae)(h:∀s e,aE σ s->(∀y,du σ s (e y) (bS φ y))->∃(j:ι)(s':St)(v:ai),(aq e o).run P s.w=.ok (.value v) s'.w/\du (σ' j) s' v (x j)/\aE (σ' j) s'/\Step σ s (σ' j) s'/\fj s ((aq e o).events P s.w #[])):m9 X N all o φ σ x σ':=by intro s a f hh b k cs S i rest hb hi hK;refine se hb hi (dM p) λn d=>?_;have c:=hh.rely d;obtain⟨j,s',v,h1,h2,g,l,m⟩:=h n a.eval c (dh (f.rely d hh));exact⟨_,s',v,h1,.inl rfl,⟨⟨σ,σ' j,c,g,l⟩,m⟩,hK j v s' h2 g (d.stepW.trans (l.nN c))⟩
def m9.Bi{x:D}(h:OA X N all o φ σ x σ'):m9 X N all o φ σ (λ_:Unit=>x) (λ_=>σ') :=
 λs a f hh b k cs S i rest hb hi hK=>h s a f hh b k cs S i rest hb hi λv s'=>hK () v s'
def OA.law{x:D}(h:bL P o (bS φ) σ x σ')(a:o.guard=ae):OA X N all o φ σ x σ':=.lL (λ_ _ _ _=>dM a) h
def OA.eval{x:D}(hT:cV P T)(hC:bH X CT)(h:xj T CT ds all φ σ o=aa (x,ae,obs))(a:au obs):OA X N all o φ σ x σ:=gV hT hC h a
def OA.c8{x:D}(hT:cV P T)(hC:bH X CT)(h:xj T CT [] all φ σ o=aa (x,ae,[])):OA X N all o φ σ x σ:=gV hT hC h ak
def uA(X:Cx P)(N:Nat)(all:List aC)(φ:Fr)(σ:List bg)(x:Nat->D)(pre:Nat->Bool):List aC->Nat->Prop
 |[],_=>True
 |o::r,i=>(match pre i with|true=>OA X N all o (kC all φ x i) σ (x i) σ|false=>True)/\uA X N all φ σ x pre r (i+1)
def uB(X:Cx P)(N:Nat)(all:List aC)(φ:Fr)(σ:List bg)(x:Nat->D)(m:Nat):List aC->Nat->Prop
 |[],_=>True
 |o::r,i=>(match aw i m with|true=>True|false=>OA X N all o (kC all φ x i) σ (x i) σ)/\uB X N all φ σ x m r (i+1)
theorem uA.get{x:Nat->D}{pre:Nat->Bool}:∀{l:List aC}{k:Nat},uA X N all φ σ x pre l k->∀(i:Nat)(o:aC),l[i]?=aa o->pre (k+i)=ab->OA X N all o (kC all φ x (k+i)) σ (x (k+i)) σ
 |[],_,_,i,o,h=>by grind
 |p::r,k,h,0,o,hi=>λa=>by simp at hi;subst hi;have h1:=h.1;grind
 |p::r,k,h,i+1,o,hi=>λa=>by have:=uA.get h.2 i o (by grind) (by grind);grind
theorem uB.get{x:Nat->D}{m:Nat}:∀{l:List aC}{k:Nat},uB X N all φ σ x m l k->∀(i:Nat)(o:aC),l[i]?=aa o->k+i≠m->OA X N all o (kC all φ x (k+i)) σ (x (k+i)) σ
 |[],_,_,i,o,h=>by grind
 |p::r,k,h,0,o,hi=>λa=>by simp at hi;subst hi;have h1:=h.1;simp only[iO]at a;grind[Nat.eq_of_beq_eq_true]
 |p::r,k,h,i+1,o,hi=>λa=>by have:=uB.get h.2 i o (by grind) (by omega);grind
def FD(pre:Nat->Bool)(x:Nat->D)(y:ι->Nat->D)(j:ι)(i:Nat):D:=match pre i with|true=>x i|false=>y j i
def Hw{m c:Nat}{pre:Nat->Bool}{x:Nat->D}{a:ι->Nat->D}{σ':ι->List bg}{S:ι->(Nat->Bool)->List bg}(z:pre m=af)(w:Bq pre m all 0=ab)(same:∀j i,pre i=ab->a j i=x i)(one:∀i o,all[i]?=aa o->pre i=ab->OA X N all o (kC all φ x i) σ (x i) σ)(two:∀j (D:Nat->Bool) i o,all[i]?=aa o->i≠m->i<c->D i=af->(∀k f,all[k]?=aa f->D k=ab->∀e∈bZ f.after.toList,D e=ab)->OA X N all o (kC all φ (a j) i) (S j D) (a j i) (S j (eC i D)))(Ov:∀o,all[m]?=aa o->m9 X N all o (kC all φ x m) σ (λj=>a j m) σ')(v:∀j (D:Nat->Bool),(∀i,D i=ab->pre i=ab)->σ' j=S j (eC m D)):
  ∀(b:Option ι) (D:Nat->Bool) i o,(b.isSome=D m/\(b=ae->∀i,D i=ab->pre i=ab))->all[i]?=aa o->i<c->D i=af->(∀e∈bZ o.after.toList,D e=ab)->(∀j f,all[j]?=aa f->D j=ab->∀e∈bZ f.after.toList,D e=ab) ->
   m9 X N all o (kC all φ (b.elim x a) i) (b.elim σ λj=>S j D) (λq:{d:Option ι // (∀j,D j=ab->d.elim x a j=b.elim x a j)/\(d.isSome=eC i D m/\(d=ae->∀k,eC i D k=ab->pre k=ab))}=>q.1.elim x a i) (λq=>q.1.elim σ λj=>S j (eC i D)):=by
 intro b D i o u s p r t g;have A:∀{k},eC i D k=ab->k=i∨D k=ab:=λ{k} hk=>by unfold eC at hk;grind[Nat.eq_of_beq_eq_true]
 have y:∀{k},k≠i->eC i D k=D k:=λ{k} hk=>by unfold eC;grind[Nat.eq_of_beq_eq_true]
 by_cases l:i=m
 .subst l;cases b with
  |some j=>grind
  |none =>
   refine(Ov o s).to λj=>⟨⟨aa j,λk hk=>same j k (u.2 rfl k hk),?_,λh=>by cases h⟩,rfl,v j D (u.2 rfl)⟩
   unfold eC;grind[Nat.beq_refl]
 .cases b with
  |none =>
   have n:pre i=ab:=by grind[Hv]
   exact(one i o s n).sH ⟨ae,λ_ _=>rfl,by grind,λ_ k hk=>by grind⟩ rfl rfl
  |some j=>exact(two j D i o s l p r g).sH ⟨aa j,λ_ _=>rfl,by grind,λh=>by cases h⟩ rfl rfl
def xM{m c:Nat}{pre:Nat->Bool}{a:Option ι}{D:Nat->Bool}(b:a.isSome=D m/\(a=ae->∀i,D i=ab->pre i=ab))(d:m<c)(e:∀i,i<c->D i=ab):∃j,a=aa j:=by
 cases a with
 |some j=>grind
 |none=>grind
def AK.Ov(n:P.follows Departure.mixedOrders=ab)(m:Nat)(pre:Nat->Bool)(x:Nat->D)(y:ι->Nat->D)(σ':ι->List bg){id:Nat}(b:m7 ops.toList=ab)(c:tb ops.toList 0=ab)(d:oS N ops.toList=ab)(e:Nat.blt m ops.toList.length=ab)(g:pre m=af)(f:Bq pre m ops.toList 0=ab)(one:uA X N ops.toList φ σ x pre ops.toList 0)(two:∀j,uB X N ops.toList φ (σ' j) (FD pre x y j) m ops.toList 0)(Ov:m9 X N ops.toList (ops.toList.getD m jY) (kC ops.toList φ x m) σ (λj=>FD pre x y j m) σ')(k:∀j,AK X N Qf K .normal (On ops.toList φ (FD pre x y j)) (σ' j)):AK X N Qf (.code (.region id ops ab)::K) .normal φ σ:=by
 have e:=dr e;have:=AW.reg (X:=X) (N:=N) (φ:=φ) (σ:=σ) n (all:=ops.toList) ops.toList.length (λa:Option ι=>a.elim x (FD pre x y)) (λa _=>a.elim σ σ') (λa D=>a.isSome=D m/\(a=ae->∀i,D i=ab->pre i=ab)) ae ⟨rfl,λ_ _ h=>by cases h⟩ rfl b c d (bh _)
  (λi h1 h2=>absurd h2 (mX.2 h1)) (λa D _ _ i h1 h2=>absurd h2 (mX.2 h1))
  (Hw (S:=λj _=>σ' j) g f (λj i l=>by simp only[FD,l]) (λi o hi l=>by have:=one.get i o hi (by grind);grind) (λj D i o hi CE _ _ _=>by have:=(two j).get i o hi (by grind);grind)
   (λo r=>by grind) (λ_ _ _=>rfl))
  (Q:=AK X N Qf K) (λa D p q=>by obtain⟨j,rfl⟩:=xM p e q;rw[wm];exact .nil (k j)) id
 rw[pJ]at this;exact this
end
def sj{B:bg}{r:List bg}(h:B≠.rX)(k:lX r=ab):lX (B::r)=ab:=by cases B<;>first|exact k|grind
section
variable {X:Cx P}
def AK.jf{Q a:Post}(h:∀e φ σ,Q e φ σ->a e φ σ):∀{K:List It}{e:Exit}{φ:Fr}{σ:List bg},AK X N Q K e φ σ->AK X N a K e φ σ
 |[],e,φ,σ,q=>h e φ σ q
 |.code c::K,.normal,φ,σ,q=>AW.mono q λ_ _ _ q=>AK.jf h q
 |.code c::K,.exit _,φ,σ,q=>AK.jf (K:=K) h q
 |.code c::K,.ret,φ,σ,q=>AK.jf (K:=K) h q
 |.code c::K,.panic _,φ,σ,q=>AK.jf (K:=K) h q
 |.code c::K,.goto _,φ,σ,q=>AK.jf (K:=K) h q
 |.code c::K,.outgrown,φ,σ,q=>AK.jf (K:=K) h q
 |.blk id::K,.exit J7,φ,σ,q=>by
  simp only[AK]at q⊢;split
  .rename_i e;rw[bo e]at q;exact AK.jf (K:=K) h q
  .rename_i e;rw[aY e]at q;exact AK.jf (K:=K) h q
 |.blk id::K,.normal,φ,σ,q=>AK.jf (K:=K) h q
 |.blk id::K,.ret,φ,σ,q=>AK.jf (K:=K) h q
 |.blk id::K,.panic _,φ,σ,q=>AK.jf (K:=K) h q
 |.blk id::K,.goto _,φ,σ,q=>AK.jf (K:=K) h q
 |.blk id::K,.outgrown,φ,σ,q=>AK.jf (K:=K) h q
 |.ops all rest::K,.normal,φ,σ,q=>iG.mono q λ_ _ q=>AK.jf h q
 |.ops all rest::K,.exit _,φ,σ,q=>AK.jf (K:=K) h q
 |.ops all rest::K,.ret,φ,σ,q=>AK.jf (K:=K) h q
 |.ops all rest::K,.panic _,φ,σ,q=>AK.jf (K:=K) h q
 |.ops all rest::K,.goto _,φ,σ,q=>AK.jf (K:=K) h q
 |.ops all rest::K,.outgrown,φ,σ,q=>AK.jf (K:=K) h q
def AK.Lh{id:Nat}{A:Fr->List bg->Prop}{a b c:List It}(h1:ko id a=ae)(h2:ko id b=aa c)(k:AK X N Qf c .normal φ σ):
  AK X N (C9 A (AK X N Qf b)) (.code (.exit id)::a) .normal φ σ :=
 AK.jf (λe φ' σ' q=>by cases e<;>exact q) (AK.leave (X:=X) (N:=N) (Qr:=Qf) (A:=A) (φ:=φ) (σ:=σ) h1 h2 k)
end
section
variable {X:Cx P}
def AK.nc{fn:Func}{h:Nat}{σ':ι->List bg}(i:ι)(ks:List Nat){cs:List A}{t:Tmp}{b:TI}(o:fn.results.toList=[.cell t ty])(hi:bJ T ty=aa b)(n:b.agg=ab)(q:look φ t=.e (.one (.ptr l 0)))(hl:dF l σ=aa (.cells E cs))(a:aw cs.length b.size=ab)(c:iF l ks=af)(f:ET (.e (.agg cs)) (iE ks (res i))=aa ps)(p:au ps)(g:w7 ks.length (res i)=ab)(m:kh ks σ=aa (σ' i))(d:kS (σ' i)=ab)(k:dK ks=ab)(hk:∀j,j<h->ks[j]?=aa j):
  AK X N (λe φ σ1=>∃j,Lw T fn h (res j) (σ' j) e φ σ1) (.code .ret::K) .normal φ σ :=
 AK.ret ⟨i,.inl rfl,ks,l,E,cs,t,ty,b,ps,ae,nofun,o,hi,n,bY a,q,b7 hl,Dj c,f,p,g,m,d,k,hk⟩
def AK.lZ{fn:Func}{k:Nat}{σ':ι->List bg}(i:ι)(ks:List Nat){cs:List A}{t u:Tmp}{b:TI}{x:E1}(q:fn.results.toList=[.cell t ty,.tmp u])(hi:bJ T ty=aa b)(p:b.agg=ab)(s:look φ t=.e (.one (.ptr l 0)))(o:look φ u=.e x)(hl:dF l σ=aa (.cells E cs))(a:aw cs.length b.size=ab)(c:iF l ks=af)(f:ET (.fD [.agg cs,x]) (iE ks (res i))=aa ps)(r:au ps)(g:w7 ks.length (res i)=ab)(n:kh ks σ=aa (σ' i))(d:kS (σ' i)=ab)(m:dK ks=ab)(hk:∀j,j<k->ks[j]?=aa j):
  AK X N (λe φ σ1=>∃j,Lw T fn k (res j) (σ' j) e φ σ1) (.code .ret::K) .normal φ σ :=
 AK.ret ⟨i,.inl rfl,ks,l,E,cs,t,ty,b,ps,aa (u,x),λ_ h=>by cases h;exact o,q,hi,p,bY a,s,b7 hl,Dj c,f,r,g,n,d,m,hk⟩
def Ev.rK(hT:cV P T){f:aH}{fn:Func}{args:List D}{res:D}(d:P.funcs[f]?=aa fn)(b:(fn.name== "runtime.NumGoroutine")=af)(g:fn.body=aa c)(a:bD args.length fn.ntmps=ab)(h:Fits args σ->AK X fn.ntmps (λe φ σ1=>∃_:Unit,Lw T fn σ.length res σ' e φ σ1) [.code c] .normal (js 0 args) σ):Ev X f args σ res σ' :=
 (ek.tc (ι:=Unit) (σ':=λ_=>σ') (res:=λ_=>res) hT d b g a h).E9
end
section
variable {X:Cx P}
theorem m9.xG{x:ι->D}{σ':ι->List bg}(q:o.guard=ae)(h:eg P N o φ σ x σ'):m9 X N all o φ σ x σ':=by intro s a f hh b k cs S i rest hb hi hK;refine se hb hi (dM q) λp d=>?_;have c:=hh.rely d;obtain⟨j,l,s',v,h1,h2,m,g,e,n⟩:=h p a (f.rely d hh) c;exact⟨l,s',v,h1,h2,⟨⟨σ,σ' j,c,g,e⟩,n⟩,hK j v s' m g (d.stepW.trans (e.nN c))⟩
def m9.CP{f:aH}(l:ek X f cv σs res σ1)(ks:List Nat)(y:o.guard=ae)(A:o.op=.call {callee:=.value fo,args:=xs,argTypes:=jU})(r:eQ (bS φ fo)=aa (f,cap))(k:∀s vs,cp σ s vs (xs.toList.map (bS φ)++fY cap)->cp σ s vs (fX ks cv))(x:lP ks.length cv=ab)(v:kh ks σ=aa σs)(D:cC σs=ab)(t:∀j,cC (σ1 j)=ab)(C:dK ks=ab)(u:∀j,bD ks.length (σ1 j).length=ab):
  m9 X N all o φ σ (λj=>iE (ks++ln σ.length ((σ1 j).length-ks.length)) (res j)) (λj=>dY ks (σ1 j) σ):=by
 intro s a m hh b kk cs S i rest hb hi hK;have n:=dh m fo;unfold eQ at r;split at r
 case h_2=>cases r
 case h_1 f' OG he =>
  cases r;rw[he]at n;have g:=fe n;generalize B:a.eval fo=fv at g;cases g with
  |fn fs nO hl ES f1 f2 h1 h2 r1 r2 =>
   have z:fs=[]:=jF hl;subst z;have h:cp σ s nO (fY cap):=nU (λj c hj=>⟨f2 j,h2 j (by grind),r2 j c hj⟩) ES;have q:cp σ s (xs.toList.map a.eval++nO) (fX ks cv):=k s _ ((ma (dh m) xs.toList).append h);obtain⟨fn,p,e,d⟩:=l.1;exact uj hb hi (dM y) hh (λw=>(jV A p e d B w).1) (λw=>(jV A p e d B w).2) l q x v D t C (λj=>dr (u j)) hK
def m9.qS{f:aH}(c:ek X f cv σs res σ1)(ks:List Nat)(g:o.guard=ae)(m:o.op=.call {callee:=.value fo,args:=xs,argTypes:=jU})(l:eQ (bS φ fo)=aa (f,cap))(a:m6 (xs.toList.map (bS φ)++fY cap)=fX ks cv)(i:lP ks.length cv=ab)(b:kh ks σ=aa σs)(n:cC σs=ab)(d:∀j,cC (σ1 j)=ab)(k:dK ks=ab)(e:∀j,bD ks.length (σ1 j).length=ab):
  m9 X N all o φ σ (λj=>iE (ks++ln σ.length ((σ1 j).length-ks.length)) (res j)) (λj=>dY ks (σ1 j) σ):=.CP c ks g m l (λ_ _ h=>a▸pQ h) i b n d k e
def m9.jB{f:aH}(c:ek X f cv σs res σ1)(ks:List Nat)(i:o.guard=ae)(n:o.op=.call {callee:=.value fo,args:=xs,argTypes:=jU})(m:eQ (bS φ fo)=aa (f,cap))(a:xa (xs.toList.map (bS φ)++fY cap) (fX ks cv)=aa ps)(e:au ps)(k:lP ks.length cv=ab)(b:kh ks σ=aa σs)(p:cC σs=ab)(d:∀j,cC (σ1 j)=ab)(l:dK ks=ab)(g:∀j,bD ks.length (σ1 j).length=ab):
  m9 X N all o φ σ (λj=>iE (ks++ln σ.length ((σ1 j).length-ks.length)) (res j)) (λj=>dY ks (σ1 j) σ):=.CP c ks i n m (λ_ _ h=>wA a e h) k b p d l g
def eg.fresh(h:lW P o x y E ie){Y k m:Nat}{tx:Bool}{es':Nat->List C}(hs:ie.size=k)(S:bS φ x=.e (.one (.c (.sl ab Y 0 es))))(hy:bS φ y=.e (.one (.c (.sl tx k m es'))))(L:0<m)(D:m*ie.bytes<=140737488355328)(hgn:∀i,i<m->∀c∈es' i,vP c=ab):
  eg P N o φ σ (ι:={q:nL×List ai // gE k m es' q.2}) (λq=>.e (.one (.v (lK q.1.1 m)))) (λq=>σ++[.cj (gk E k q.1.1 m q.1.2)]):=by
 intro s ρ V hh;obtain⟨t,t2,i,i2,ho,hi,Z,I,K⟩:=h.op;have h1:=dh V x;rw[S]at h1;have n:=Rd.wo (k:=Y) (k':=ie.size) (.inr rfl) (fe h1);have h2:=dh V y;rw[hy]at h2;have h2:=fe h2;obtain⟨a,cap,vs,hv,E6,UW,ht,hF,U4⟩:=n.flat;have O:cap=0:=ht rfl;subst O;rw[hv]at n;have F:Rd s.M (ρ.eval y) (.sl tx ie.size m es'):=by grind
 obtain⟨f,Q,g,d,H,U,z,r⟩:=iQ (P:=P) (ty:=o.type) hi Z I K h.elem hh n F (by omega) (by grind) h.bytes;have Rc:=jq (P:=P) (ty:=o.type) hi Z I K h.elem hh n F (by omega) (by grind) h.bytes;have e0:cM 0 es es'=es':=by funext i;simp[cM]
 rw[hs,bF,e0]at d;rw[hs]at z;rw[bF]at H r;have G:gE k m es' f:=⟨d.len,d.width,λi hi j c hj=>by
  obtain⟨u,R,W⟩:=d.rd i hi j c hj
  grind[qQ]⟩
 have A:∀x∈f,cO x=ab:=λx S=>by
  obtain⟨p,hp,rfl⟩:=dD S;have hk:0<k:=by grind
  have Rb:=d.len;have hi:p / k<m:=qz (by grind);have T:p / k*k+p % k=p:=qH p k;have hj:p % k<(es' (p / k)).length:=by rw[d.width _ hi];exact jd _ hk
  obtain⟨u,R,W⟩:=G.at' _ hi _ _ (bn hj);rw[T,bn hp]at R;cases R;exact(W s.M).cell
 let w':ay:=s.w.drew.alloc (.cells (f++Q).toArray E);have hB:eG (σ++[.cj (gk E k (.row s.w.heap.size g) m f)]) {s with w:=w',β:=s.β++[⟨.nilFunc,[s.w.heap.size]⟩]} (.cj (gk E k (.row s.w.heap.size g) m f)) ⟨.nilFunc,[s.w.heap.size]⟩:=by
  refine⟨λB=>if B=s.w.heap.size then aa (.cells (f++Q).toArray E (0,0))else ae,⟨rfl,A,d.len,H,U,Q,z,rfl⟩,λB o l=>?_,λB=>?_,λB l o=>?_⟩
  .by_cases e:B=s.w.heap.size
   .subst e;simp only[b6]at l;cases l;exact dX s.w.drew _
   grind
  .by_cases e:B=s.w.heap.size<;>simp[e]
  .simp at l;subst l;cases L:s.M s.w.heap.size o with
   |none=>rfl
   |some v=>have:=hh.block L;omega
 have JX:w'.heap.size=s.w.heap.size+1:=by show(s.w.drew.heap.push _).size=_;simp
 have J:aE σ {s with w:=w'}/\Step σ s σ {s with w:=w'} :=
  hh.grow (by omega) (λb D=>cT s.w.drew _ D) (λb D o=>rfl) (λb D o v L=>by have:=hh.block L;omega) rfl rfl rfl
 obtain⟨g1,g2⟩:=J.1.iy J.2 rfl hh hB (λb D=>by grind)
 refine⟨⟨(.row s.w.heap.size g,f),G⟩,.value (.slice (aa ⟨s.w.heap.size,0,ae⟩) m g),_,_,?_,.inl rfl,Rd.val rfl,g1,g2,?_⟩
 .rw[dq ho,hv];simp[r];rfl
 grind[dq,eU]
def AK.fresh{x y:aB}{E:av}{ie:TI}(h:lW P o x y E ie){d k m:Nat}{tx:Bool}{es es':Nat->List C}(g:ie.size=k)(b:bS φ x=.e (.one (.c (.sl ab d 0 es))))(j:bS φ y=.e (.one (.c (.sl tx k m es'))))(f:0<m)(l:m*ie.bytes<=140737488355328)(a:∀i,i<m->∀c∈es' i,vP c=ab)(n:o.guard=ae)(p:gm N o.dst=ab)(kk:∀q:{q:nL×List ai // gE k m es' q.2},AK X N Qf (.ops all rest::K) .normal (kQ o.dst (.e (.one (.v (lK q.1.1 m)))) φ) (σ++[.cj (gk E k q.1.1 m q.1.2)])):AK X N Qf (.ops all (o::rest)::K) .normal φ σ :=
 AK.hand _ _ n p (eg.fresh h g b j f l a) kk
def AK.spare(E:av)(k:Nat)(kk:AK X N Qf (.code c::K) .normal φ (σ++[.cj (gk E k (.nil ae) 0 [])])):AK X N Qf (.code c::K) .normal φ σ:=by refine AK.ghost (λs a b hh=>?_) kk;obtain⟨e,d⟩:=hh.iy (B:=.cj (gk E k (.nil ae) 0 [])) (L:=⟨.nilFunc,[]⟩) (.refl _ _) rfl hh ⟨λ_=>ae,⟨rfl,by simp,by simp,rfl,rfl⟩,by simp,by simp,by simp⟩ (by simp);exact⟨{s with β:=s.β++[⟨.nilFunc,[]⟩]},rfl,⟨b.size,b.defers.imp λ_ h1=>h1.mono d.ext,λu=>(b.slot u).mono d.ext hh.len⟩,e,d⟩
end
def Pt(p:Nat->Bool):List Nat->Bool
 |[]=>af
 |e::r=>match p e with|true=>ab|false=>Pt p r
def Hx{p:Nat->Bool}:∀{l:List Nat},Pt p l=ab->∃e∈l,p e=ab
 |[],h=>by cases h
 |e::r,h=>by
  simp only[Pt]at h;split at h
  .grind
  .obtain⟨b,c,a⟩:=Hx h;grind
def xN(all:List aC)(k:Nat):Nat->List Nat->Bool
 |0,l=>iF k l
 |f+1,l=>match iF k l with|true=>ab|false=>Pt (λe=>xN all k f (bZ (all.getD e jY).after.toList)) l
def qT{all:List aC}{k:Nat}{L:Nat->Prop}(c:∀i,i<all.length->L i->∀e∈bZ (all.getD i jY).after.toList,L e):∀{f:Nat}{l:List Nat},xN all k f l=ab->(∀e∈l,L e)->L k
 |0,l,h,d=>d k (KB h)
 |f+1,l,h,d=>by
  simp only[xN]at h;split at h
  .grind [KB]
  .obtain⟨e,j,a⟩:=Hx h;rcases cN e all.length with g|g
   .exact qT c a (c e g (d e j))
   .have:all.getD e jY=jY:=by grind
    rw[this]at a;exact qT c a (λm b=>by simp[jY,bZ]at b)
def xO(all:List aC)(f:Nat)(l:List Nat):Nat->Bool
 |0=>ab
 |n+1=>match xN all n f l with|true=>xO all f l n|false=>af
def uk{all:List aC}{f:Nat}{l:List Nat}:∀{n:Nat},xO all f l n=ab->∀k,k<n->xN all k f l=ab
 |0,_,k,hk=>by omega
 |n+1,h,k,hk=>by
  simp only[xO]at h;split at h
  .rename_i a;by_cases e:k=n
   .grind
   .exact uk h k (by omega)
  grind
def xb(all:List aC)(f:Nat):Nat->Nat->Bool
 |_,0=>ab
 |i,r+1=>match xO all f (bZ (all.getD i jY).after.toList) i with|true=>xb all f (i+1) r|false=>af
def um{all:List aC}{f:Nat}:∀{i r:Nat},xb all f i r=ab->∀q,i<=q->q<i+r->xO all f (bZ (all.getD q jY).after.toList) q=ab
 |i,0,_,q,b,a=>by omega
 |i,r+1,h,q,b,a=>by
  simp only[xb]at h;split at h
  .rename_i c;by_cases e:q=i
   .grind
   .exact um h q (by omega) (by omega)
  grind
section
variable {X:Cx P}
def IT(c:Nat)(pre:Nat->Bool)(x:Nat->D)(y:ι->Nat->D)(j:ι)(i:Nat):D:=match Nat.blt i c with|true=>FD pre x y j i|false=>.any
def AK.Lm(v:P.follows Departure.mixedOrders=ab)(m c l:Nat)(pre:Nat->Bool)(x:Nat->D)(y:ι->Nat->D)(σ':ι->List bg){id:Nat}(b:m7 ops.toList=ab)(d:tb ops.toList 0=ab)(e:oS N ops.toList=ab)(r:pre m=af)(p:Bq pre m ops.toList 0=ab)(u:Nat.blt c ops.toList.length=ab)(n:Nat.blt m c=ab)(g:∀i,pre i=ab->i<c)(Rf:xb ops.toList l c (ops.toList.length-c)=ab)(one:uA X N ops.toList φ σ x pre ops.toList 0)(two:∀j,uB X N ops.toList φ (σ' j) (IT c pre x y j) m (ops.toList.take c) 0)(Ov:m9 X N ops.toList (ops.toList.getD m jY) (kC ops.toList φ x m) σ (λj=>IT c pre x y j m) σ')(k:∀j,AK X N Qf (.ops ops.toList (ops.toList.drop c)::K) .normal (On ops.toList φ (IT c pre x y j)) (σ' j)):AK X N Qf (.code (.region id ops ab)::K) .normal φ σ:=by
 have u:=dr u;have n:=dr n;have:=AW.reg (X:=X) (N:=N) (φ:=φ) (σ:=σ) v (all:=ops.toList) c (λa:Option ι=>a.elim x (IT c pre x y)) (λa _=>a.elim σ σ') (λa D=>a.isSome=D m/\(a=ae->∀i,D i=ab->pre i=ab)) ae ⟨rfl,λ_ _ h=>by cases h⟩ rfl b d e (by omega)
  (λi h1 h2 L z f k hk=>qT z (uk (um Rf i h1 (by omega)) k hk) f)
  (λa D q s i h1 h2=>by
   obtain⟨j,rfl⟩:=xM q n s;have:Nat.blt i c=af:=by
    cases w:Nat.blt i c with
    |false=>rfl
    |true=>have:=dr w;omega
   simp only[Option.elim,IT,this])
  (Hw (S:=λj _=>σ' j) r p (λj i f=>by have:Nat.blt i c=ab:=sL (g i f);simp only[IT,this,FD,f])
   (λi o hi f=>by have:=one.get i o hi (by grind);grind)
   (λj D i o hi CE ug _ _=>by
    have t:(ops.toList.take c)[i]?=aa o:=by grind
    have:=(two j).get i o t (by grind);grind)
   (λo A=>by grind) (λ_ _ _=>rfl))
  (Q:=AK X N Qf K) (λa D q s=>by obtain⟨j,rfl⟩:=xM q n s;exact k j) id
 rw[pJ]at this;exact this
end
section
variable {X:Cx P}{x:Nat->D}{S:(Nat->Bool)->List bg}
def pZ:List aC->List (List Bool)->List (List Bool)
 |[],a=>a
 |o::r,a=>qY (Hb a (bZ o.after.toList)) λc=>pZ r (a++[c])
 where qY:List Bool->(List Bool->List (List Bool))->List (List Bool)
 |[],q=>q []
 |true::r,q=>qY r λr=>q (ab::r)
 |false::r,q=>qY r λr=>q (af::r)
theorem oV:∀(l:List Bool)(q:List Bool->List (List Bool)),pZ.qY l q=q l
 |[],q=>rfl
 |true::r,q=>by simp only[pZ.qY];rw[oV r]
 |false::r,q=>by simp only[pZ.qY];rw[oV r]
def C1{all:List aC}{D:Nat->Bool}(b:∀(j:Nat)(o:aC),all[j]?=aa o->D j=ab->∀e∈bZ o.after.toList,D e=ab):
  ∀(r:List aC) (a:List (List Bool)),(∀k,r[k]?=all[a.length+k]?)->(∀(j:Nat) (c:List Bool),a[j]?=aa c->∀o,all[j]?=aa o->(∀e∈bZ o.after.toList,D e=ab)->∀q,bit c q=ab->D q=ab) ->
   ∀(j:Nat) (c:List Bool),(pZ r a)[j]?=aa c->∀o,all[j]?=aa o->(∀e∈bZ o.after.toList,D e=ab)->∀q,bit c q=ab->D q=ab
 |[],a,_,h=>h
 |o::r,a,d,h=>by
  simp only[pZ];rw[oV];refine C1 b r _ (λk=>?_) ?_
  .have:=d (k+1);grind
  .intro j c g;have i:=d 0;simp only[jI,iO]at i;rcases Nat.lt_trichotomy j a.length with l|rfl|f
   .grind
   .rw[gp (bh _)]at g;grind[A5]
   grind
def gd(all:List aC)(i j:Nat):Bool:=match(pZ all [])[i]? with|some c=>bit c j|none=>af
def xz{D:Nat->Bool}(a:∀(j:Nat)(o:aC),all[j]?=aa o->D j=ab->∀e∈bZ o.after.toList,D e=ab):∀(i:Nat) o,all[i]?=aa o->(∀e∈bZ o.after.toList,D e=ab)->∀j,gd all i j=ab->D j=ab:=by
 intro i o f g j b;unfold gd at b;split at b
 .rename_i c d;exact C1 a all [] (by simp) (by simp) i c d o f g j b
 grind
def Hi{D:Nat->Bool}(c:∀(j:Nat)(o:aC),all[j]?=aa o->D j=ab->∀e∈bZ o.after.toList,D e=ab)(g:D i=af):∀j,(j=i∨gd all j i=ab)->D j=af:=by
 intro j f;rcases f with rfl|f
 .exact g
 .cases h:D j with
  |false=>rfl
  |true =>
   have a:∃d,all[j]?=aa d:=by
    cases a:all[j]? with
    |some d=>grind
    |none =>
     exfalso;have k:(pZ all []).length=all.length:=by
      have:∀(r:List aC) (b:List (List Bool)),(pZ r b).length=b.length+r.length:=by
       intro r;induction r with
       |nil=>intro b;simp[pZ]
       |cons o r l=>intro b;simp only[pZ];grind[oV]
      grind
     unfold gd at f;grind
   obtain⟨d,a⟩:=a;have:=xz c j d a (c j d a h) i f;grind
def en(X:Cx P)(N:Nat)(all:List aC)(φ:Fr)(x:Nat->D)(S:(Nat->Bool)->List bg)(i:Nat)(o:aC):Prop :=
 ∀D:Nat->Bool,(∀j,gd all i j=ab->D j=ab)->(∀j,(j=i∨gd all j i=ab)->D j=af)->OA X N all o (kC all φ x i) (S D) (x i) (S (eC i D))
def KU{P:aJ}(X:Cx P)(N:Nat)(all:List aC)(φ:Fr)(x:Nat->D)(S:(Nat->Bool)->List bg):List aC->Nat->Prop
 |[],_=>True
 |o::r,i=>en X N all φ x S i o/\KU X N all φ x S r (i+1)
theorem KU.get{all:List aC}:∀{l:List aC}{k:Nat},KU X N all φ x S l k->∀i o,l[i]?=aa o->en X N all φ x S (k+i) o
 |[],_,_,i,o,h=>by grind
 |p::r,k,h,0,o,a=>by simp at a;subst a;exact h.1
 |p::r,k,h,i+1,o,a=>by have:=KU.get h.2 i o (by grind);grind
def AK.flags{id:Nat}(j:P.follows Departure.mixedOrders=ab)(x:Nat->D)(S:(Nat->Bool)->List bg)(l:S (λ_=>af)=σ)(a:m7 ops.toList=ab)(b:tb ops.toList 0=ab)(c:oS N ops.toList=ab)(one:KU X N ops.toList φ x S ops.toList 0)(k:∀D,(∀i,i<ops.toList.length->D i=ab)->AK X N Qf K .normal (On ops.toList φ x) (S D)):AK X N Qf (.code (.region id ops ab)::K) .normal φ σ:=by
 have:=AW.reg (X:=X) (N:=N) (φ:=φ) (σ:=σ) j (all:=ops.toList) ops.toList.length (λ_:Unit=>x) (λ_=>S) (λ_ _=>True) () ak l a b c (bh _)
  (λi h1 h2=>absurd h2 (mX.2 h1)) (λh D _ _ i h1 h2=>absurd h2 (mX.2 h1))
  (λh D i o _ g _ f d e=>by have h1:=one.get i o g;rw[bF]at h1;exact(h1 D (xz e i o g d) (Hi e f)).sH ⟨(),λ_ _=>rfl,ak⟩ rfl rfl)
  (Q:=AK X N Qf K) (λh D _ m=>by rw[wm];exact .nil (k D m)) id
 rw[pJ]at this;exact this
end
section
variable {X:Cx P}
def AK.Bn{φ':Fr}(k:AK X N Qf (.code c::K) .normal φ' σ'){qs:List Prop}(h1:n6 φ φ'=aa ps)(a:au ps)(h2:pE σ σ'=aa qs)(b:au qs):AK X N Qf (.code c::K) .normal φ σ :=
 AK.norm σ' h2 b (AW.le k (db h1 a))
def vl:List It->List It
 |.blk _::K=>vl K
 |K=>K
def AK.vl:∀{K:List It},AK X N Qf (vl K) .normal φ σ->AK X N Qf K .normal φ σ
 |[],h=>h
 |.blk _::K,h=>AK.vl (K:=K) h
 |.code _::_,h=>h
 |.ops _ _::_,h=>h
def AK.lB{S S2:Type}{c2:Code}(id:Nat){d h:List It}(h2:ko id K=aa d)(l:Go.AM.vl d=.code c2::h)(O:S2->Prop)(kC:S2->Fr)(a:S2->List bg)(n:Nat)(I:S->Prop)(fr:S->Fr)(st:S->List bg)(i:S->Nat)(x:S){qs:List Prop}(e:n6 φ (fr x)=aa ps)(g:au ps)(f:pE σ (st x)=aa qs)(b:au qs)(j:σ.length=n)(m:I x)(round:(∀(y:S2) {φ:Fr} {σ:List bg} {ps qs:List Prop},O y->n6 φ (kC y)=aa ps->au ps->pE σ (a y)=aa qs->au qs->AK X N Qf d .normal φ σ) ->
   ∀x,I x->AK X N (lQ X N Qf K I fr st i n x) [.code c] .normal (fr x) (st x))(after:∀y,O y->AK X N Qf (.code c2::h) .normal (kC y) (a y)):AK X N Qf (.code (.loop c)::K) .normal φ σ :=
 AK.cJ n I fr st i x e g f b j m (round λy _ _ _ _ k h1 g h2 b=>AK.vl (by rw[l];exact(after y k).Bn h1 g h2 b))
end
def fS(a:Nat->Option Obj):Mem:=λb o=>match a b with
 |some (.cells cs _ _)=>cs[o]?
 |_=>ae
def PM(K:Mem->Prop):ai->(Nat->Option Obj)->Prop:=λu a=>u=.nilFunc/\(∀b o,a b=aa o->∃cs E,o=.cells cs E (0,0))/\K (fS a)
section
variable {X:Cx P}{d:List It}
def AK.merge(i j:Nat){H1 H2:ai->(Nat->Option Obj)->Prop}(Q:i≠j)(hi:σ[i]?=aa (.cj H1))(hj:σ[j]?=aa (.cj H2))(h1:∀v ch,H1 v ch->v=.nilFunc)(h:∀v f v2 k,H1 v f->H2 v2 k->(∀b,(f b).isSome=ab->(k b).isSome=ab->False)->H .nilFunc λb=>(f b).or (k b))(kk:AK X N Qf (.code c::d) .normal φ ((σ.set i (.cj H)).set j .dead)):AK X N Qf (.code c::d) .normal φ σ:=by
 refine AK.ghost (λs a K hh=>?_) kk;have Z:i<σ.length:=(bX.1 hi).1;have W:j<σ.length:=(bX.1 hj).1;have E:i<s.β.length:=by rw[hh.len];grind
 have G:j<s.β.length:=by rw[hh.len];grind
 obtain⟨y,n⟩:∃L,s.β[i]?=aa L:=⟨_,bn E⟩;obtain⟨r,p⟩:∃L,s.β[j]?=aa L:=⟨_,bn G⟩;have Y:=hh.box i _ y hi n;have bj:=hh.box j _ r hj p;have vi:y.v=.nilFunc:=by obtain⟨ch,hH,_⟩:=Y;grind
 let s':St:={s with β:=(s.β.set i ⟨.nilFunc,y.bs++r.bs⟩).set j ⟨r.v,[]⟩}
 have I:∀l,((σ.set i (.cj H)).set j .dead)[l]?=if l=j then aa .dead else if l=i then aa (.cj H)else σ[l]?:=λl=>by grind
 have A:∀l,s'.β[l]?=if l=j then aa ⟨r.v,[]⟩else if l=i then aa ⟨.nilFunc,y.bs++r.bs⟩else s.β[l]?:=λl=>by grind
 have mi:=bP n;have mj:=bP p;have M:∀L∈s'.β,∀b∈L.bs,∃z∈s.β,b∈z.bs:=λL g b m=>by grind
 have ex:Ext σ s ((σ.set i (.cj H)).set j .dead) s':=by
  refine⟨λ_ _ _ h=>h,λl B L hB g=>?_⟩;rw[I,A];by_cases e:l=j
  .subst e;rw[hj]at hB;cases hB;rw[p]at g;cases g;exact⟨.dead,⟨r.v,[]⟩,by simp,by simp,rfl⟩
  .by_cases F:l=i
   .subst F;rw[hi]at hB;cases hB;rw[n]at g;cases g;exact⟨.cj H,⟨.nilFunc,y.bs++r.bs⟩,by simp[e],by simp[e],vi.symm⟩
   .exact⟨B,L,by grind,by grind,.refl _ _⟩
 have st:Step σ s ((σ.set i (.cj H)).set j .dead) s' :=
  ⟨bh _,λ_ _ _=>rfl,λ_ _ _ h=>h,λ_ _ _ _=>rfl,λL h b m=>.inr (M L h b m),ex.box,rfl,rfl,rfl,rfl⟩
 obtain⟨f,a1,a2,a3,a4⟩:=Y;obtain⟨k,b1,b2,b3,b4⟩:=bj;have O:∀b,(f b).isSome=ab->(k b).isSome=ab->False:=λb J q2=>Q (hh.eO i j y r n p b ((a3 b).2 J) ((b3 b).2 q2));refine⟨s',rfl,⟨K.size,K.defers.imp λ_ h1=>h1.mono ex,λu=>(K.slot u).mono ex hh.len⟩,⟨hh.mem,by simp[s',hh.len],?_,?_,λL g b m=>?_,λb m=>⟨(hh.own b m).1,λL g V=>?_⟩⟩,st⟩
 .intro l B L hB g;rw[I]at hB;rw[A]at g;split at hB
  .cases hB;trivial
  .rename_i e;rw[aY e]at g;split at hB
   .rename_i F;rw[bo F]at g;cases hB;cases g;refine⟨λb=>(f b).or (k b),h _ f _ k a1 b1 O,λb o m=>?_,λb=>?_,λb m o=>?_⟩
    .cases h1:f b with
     |some x=>grind
     |none=>grind
    .grind
    grind
   .rename_i F;rw[aY F]at g;exact(hh.box l B L hB g).carry ex hh.len λb m=>⟨rfl,λ_=>rfl⟩
 .intro l l' L1 L2 J q2 b m T;rw[A]at J q2;have key:∀l L,(if l=j then aa (⟨r.v,[]⟩:Loc)else if l=i then aa ⟨.nilFunc,y.bs++r.bs⟩else s.β[l]?)=aa L->b∈L.bs->(l=i/\(b∈y.bs∨b∈r.bs))∨(l≠i/\l≠j/\∃z,s.β[l]?=aa z/\b∈z.bs):=λl L q m=>by
   split at q
   .grind
   .split at q
    .grind
    grind
  rcases key l L1 J m with⟨e1,t⟩|⟨n1,U,L3,t,D⟩<;>rcases key l' L2 q2 T with⟨e2,w⟩|⟨n2,R,L4,w,C⟩
  .grind
  .rcases t with t|t
   .exact absurd (hh.eO _ _ _ _ n w b t C).symm n2
   .exact absurd (hh.eO _ _ _ _ p w b t C).symm R
  .rcases w with w|w
   .exact absurd (hh.eO _ _ _ _ n t b w D).symm n1
   .exact absurd (hh.eO _ _ _ _ p t b w D).symm U
  .exact hh.eO _ _ _ _ t w b D C
 .obtain⟨z,S,h1⟩:=M L g b m;exact hh.lt z S b h1
 .obtain⟨z,S,h1⟩:=M L g b V;exact(hh.own b m).2 z S h1
def xU(M M':Mem):Prop:=∀b o v,M b o=aa v->M' b o=aa v
def PM.add{K t:Mem->Prop}{k:Nat}{bf:nL}{xs:List ai}(i:∀M M',xU M M'->K M->(∀b cap,bf=.row b cap->∀j v,xs[j]?=aa v->M' b j=aa v)->t M'):
  ∀v c m f,PM K v c->gk E k bf n xs m f->(∀b,(c b).isSome=ab->(f b).isSome=ab->False)->PM t .nilFunc λb=>(c b).or (f b):=by
 rintro v c m f ⟨_,h2,p⟩ q A;have g:xU (fS c) (fS λb=>(c b).or (f b)):=λb o v r=>by
  cases h:c b with
  |none=>simp[fS,h]at r
  |some x=>simpa[fS,h]using r
 cases bf with
 |nil a =>
  obtain⟨_,_,_,_,rfl⟩:=q;exact⟨rfl,λb o w=>h2 b o (by grind),i _ _ g p λb cap e=>by cases e⟩
 |row b cap =>
  obtain⟨_,q2,q3,q4,y,z,B,rfl⟩:=q;refine⟨rfl,λl o w=>?_,i _ _ g p λl s e j v hj=>?_⟩
  .cases h:c l with
   |some x=>grind
   |none =>
    grind
  .cases e;have u:c b=ae:=by
    cases h:c b with
    |none=>rfl
    |some x=>grind
   have hl:j<xs.length:=(bX.1 hj).1;simp only[fS,u,Option.none_or,b6];grind
def PM.start{k:Nat}{xs:List ai}{a:Option Addr}{K:Mem->Prop}(c:∀M,K M):∀v ch,gk E k (.nil a) n xs v ch->PM K v ch:=by rintro v ch ⟨h1,_,_,_,rfl⟩;exact⟨h1,λb o e=>by grind,c _⟩
def PM.CL{c:Nat}{K:Mem->Prop}{u:ai}{k:Nat}(hl:σ[c]?=aa (.cj (PM K)))(j:∀M,K M->Rd M u (.sl af k n es)):ik σ c u k n es:=by
 intro s hh;have e:c<s.β.length:=by rw[hh.len];grind
 have g:=bn e;generalize s.β[c]=L at g;obtain⟨ch,⟨h1,h2,m⟩,i,q,p⟩:=hh.box c _ L hl g;have f:∀b o v,fS ch b o=aa v->b∈L.bs/\s.w.cell? ⟨b,o,ae⟩=aa v:=λb o v a=>by
  cases h:ch b with
  |none=>simp[fS,h]at a
  |some x =>
   obtain⟨cs,E,rfl⟩:=h2 b x h;have l:=i b _ h;simp only[fS,h]at a;exact⟨(q b).2 (by simp[h]),by simpa[aP,l]using a⟩
 refine⟨L,λb o=>(s.M b o).or (fS ch b o),g,λb o v a=>by grind,λb r o=>?_,λb o v a=>?_,p,(j _ m).mono λb o v a=>?_⟩
 .cases h:fS ch b o with
  |none=>simp[h]
  |some v=>grind
 .cases h:s.M b o with
  |some v'=>simp only[h,Option.some_or]at a;cases a;exact hh.mem b o v h
  |none=>grind
 grind
def gk.Wd{k:Nat}{bf:nL}{xs:List ai}(hl:σ[l]?=aa (.cj (gk E k bf n xs)))(h:0<n)(s:St)(hh:aE σ s):∃b cap,bf=.row b cap/\n<=cap/\cap<=9223372036854775807:=by
 have c:l<s.β.length:=by rw[hh.len];grind
 obtain⟨ch,e,_⟩:=hh.box l _ _ hl (bn c);cases bf with
 |nil a=>obtain⟨_,_,_,f,_⟩:=e;omega
 |row b cap=>obtain⟨_,_,_,f,g,_⟩:=e;grind
end
def xc(l k n:Nat)(es:Nat->List C):A->A×List Prop
 |.bp l' (.sl g k' o m)=>match aw l' l with
  |true=>match aw k' k with
   |true=>(.c (.sl af k m (r6 o es)),[g=n,o+m<=n])
   |false=>(.bp l' (.sl g k' o m),[])
  |false=>(.bp l' (.sl g k' o m),[])
 |a=>(a,[])
def oT(l k n:Nat)(es:Nat->List C):List A->List A×List Prop
 |[]=>([],[])
 |a::r=>match xc l k n es a with
  |(a',p)=>match oT l k n es r with
   |(r',q)=>(a'::r',lp p q)
def Fa(l k n:Nat)(es:Nat->List C):E1->E1×List Prop
 |.one a=>match xc l k n es a with|(a',p)=>(.one a',p)
 |.agg cs=>match oT l k n es cs with|(b,p)=>(.agg b,p)
def Fb(l k n:Nat)(es:Nat->List C):D->D×List Prop
 |.e x=>match Fa l k n es x with|(a,p)=>(.e a,p)
 |d=>(d,[])
def xd(l k n:Nat)(es:Nat->List C):Fr->Fr×List Prop
 |[]=>([],[])
 |(t,d)::r=>match Fb l k n es d with
  |(a,p)=>match xd l k n es r with
   |(r',q)=>((t,a)::r',lp p q)
def ib(l k n:Nat)(es:Nat->List C):Nat->List bg->List bg×List Prop
 |_,[]=>([],[])
 |i,b::r=>match ib l k n es (i+1) r with
  |(r',q)=>match aw i l with
   |true=>(.dead::r',q)
   |false=>match b with
    |.cells E cs=>match oT l k n es cs with|(a,p)=>(.cells E a::r',lp p q)
    |b=>(b::r',q)
section
variable {s2:St}{E k:Nat}
structure jC(σ:List bg)(s:St)(l k n:Nat)(es:Nat->List C)(σ':List bg)(s2:St):Prop where
 fA:∀v a,gH σ s v a->gH σ' s2 v a
 Kt:∀v k' o m,gH σ s v (.bp l (.sl n k' o m))->k'=k->o+m<=n->Rd s2.M v (.sl af k m (r6 o es))
def jC.a(h:jC σ s l k n es σ' s2){v:ai}{a:A}(b:au (xc l k n es a).2)(r:gH σ s v a):gH σ' s2 v (xc l k n es a).1:=by
 unfold xc at b⊢;split
 .rename_i l' g k' o m;split
  .rename_i e1;split
   .rename_i e2;simp only[e1,e2]at b;have e1:=bY e1;have e2:=bY e2;subst e1;obtain⟨rfl,h2⟩:g=n/\o+m<=n:=b;exact h.Kt v _ _ _ r e2 h2
   .exact h.fA v _ r
  .exact h.fA v _ r
 .exact h.fA v _ r
def jC.ls(h:jC σ s l k n es σ' s2):∀{vs:List ai}{cs:List A},au (oT l k n es cs).2->er σ s vs cs->er σ' s2 vs (oT l k n es cs).1
 |[],[],_,_=>trivial
 |[],_::_,_,r=>r.elim
 |_::_,[],_,r=>r.elim
 |v::vs,c::cs,b,r=>by simp only[oT]at b⊢;rw[au.cat]at b;exact⟨h.a b.1 r.1,h.ls b.2 r.2⟩
def jC.e(h:jC σ s l k n es σ' s2){x:E1}(b:au (Fa l k n es x).2)(r:ow σ s v x):ow σ' s2 v (Fa l k n es x).1:=by
 cases x with
 |one a=>exact h.a b r
 |agg cs=>obtain⟨vs,d,c⟩:=r;exact⟨vs,d,h.ls b c⟩
def jC.d(h:jC σ s l k n es σ' s2)(hl:s.β.length=σ.length)(b:Ext σ s σ' s2){v:ai}{d:D}(a:au (Fb l k n es d).2)(r:du σ s v d):du σ' s2 v (Fb l k n es d).1:=by
 cases d with
 |e x=>exact h.e a r
 |fD xs=>exact r.mono b hl
 |any=>trivial
def jC.f(h:jC σ s l k n es σ' s2)(hl:s.β.length=σ.length)(e:Ext σ s σ' s2):∀{φ:Fr}{t:Nat}{v:ai},au (xd l k n es φ).2->du σ s v (look φ t)->du σ' s2 v (look (xd l k n es φ).1 t)
 |[],_,_,_,_=>trivial
 |(u,d)::r,t,v,b,a=>by
  simp only[xd]at b⊢;rw[au.cat]at b;simp only[look]at a⊢;cases c:aw u t with
  |true=>rw[c]at a;exact h.d hl e b.1 a
  |false=>rw[c]at a;exact h.f hl e b.2 a
theorem r7:∀{σ:List bg}{i j:Nat},(ib l k n es i σ).1[j]?=match σ[j]? with
  |none=>ae
  |some b=>aa (match aw (i+j) l with|true=>.dead|false=>match b with|.cells E cs=>.cells E (oT l k n es cs).1|b=>b)
 |[],i,j=>by simp[ib]
 |b::r,i,0=>by simp only[ib,iO,jI];grind
 |b::r,i,j+1=>by
  have a:=r7 (σ:=r) (i:=i+1) (j:=j);have e:i+1+j=i+(j+1):=by omega
  rw[e]at a;simp only[ib,ox];grind
def xe:∀{σ:List bg}{i j:Nat}{E:av}{cs:List A},au (ib l k n es i σ).2->σ[j]?=aa (.cells E cs)->i+j≠l->au (oT l k n es cs).2
 |[],i,j,_,_,_,a,_=>by grind
 |b::r,i,0,E,cs,c,a,d=>by simp at a;subst a;simp only[ib]at c;grind[Nat.eq_of_beq_eq_true,au.cat]
 |b::r,i,j+1,E,cs,c,a,d=>by simp at a;refine xe (σ:=r) (i:=i+1) (j:=j) ?_ a (by omega);simp only[ib]at c;grind[au.cat]
theorem r8:∀{σ:List bg}{i:Nat},(ib l k n es i σ).1.length=σ.length
 |[],_=>rfl
 |b::r,i=>by simp only[ib];have a:=r8 (σ:=r) (i:=i+1);grind
def aE.pq(hh:aE σ s)(hB:σ[l]?=aa (.buf E k n es))(hq:au (ib l k n es 0 σ).2):
  ∃s2:St,s2.w=s.w/\aE (ib l k n es 0 σ).1 s2/\Step σ s (ib l k n es 0 σ).1 s2/\jC σ s l k n es (ib l k n es 0 σ).1 s2:=by
 have I:l<σ.length:=(bX.1 hB).1;have Q:s.β[l]?=aa (s.β[l]'(by rw[hh.len];exact I)):=bn _;generalize s.β[l]'(by grind)=L at Q;have J:=hh.box _ _ L hB Q;obtain⟨M',m1,m2,m3,m4⟩:∃M':Mem,(∀b o v,s.M b o=aa v->M' b o=aa v)/\(∀b,b∉L.bs->∀o,M' b o=s.M b o)/\(∀b o v,M' b o=aa v->s.w.cell? ⟨b,o,ae⟩=aa v) /\
   (∀v k' o m,gH σ s v (.bp l (.sl n k' o m))->k'=k->o+m<=n->Rd M' v (.sl af k m (r6 o es))):=by
  rcases J with⟨rfl,rfl⟩|⟨b,c0,vs,zs,rfl,hw,JW,hnc,UW,Z,hM⟩
  .refine⟨s.M,λ_ _ _ h=>h,λ_ _ _=>rfl,hh.mem,λv k' o m r e y=>?_⟩;obtain⟨lv,⟨a,a0,cap,c0,A,h1,h2,D,H,O⟩,_,Y⟩:=r;grind[Rd.iR]
  .let M':Mem:=λq o=>if q=b then vs[o]? else s.M q o;have W:∀q o v,s.M q o=aa v->M' q o=aa v:=λq o v A=>by grind
   refine⟨M',W,λq JY o=>?_,λq o v A=>?_,λv k' o m r e y=>?_⟩
   .grind
   .by_cases e:q=b
    .subst e;simp only[M',b6]at A;simp only[aP,hw];grind
    .simp only[M',e,cg]at A;exact hh.mem q o v A
   .subst e;obtain⟨lv,⟨a,a0,cap,c1,A,h1,h2,D,H,O⟩,_,Y⟩:=r;obtain⟨L',f,G⟩:=(Y _ _ _ _ hB).2 rfl;rw[Q]at f;cases f;rw[H]at G;cases G;rw[A];have g:∀i,i<m->∀j c,(r6 o es i)[j]?=aa c->∃u,vs[(o+i)*k'+j]?=aa u/\Rd s.M u c:=λi hi j c hj=>by rw[wB]at hj;exact Z.rd (o+i) (by omega) j c hj
    refine .sl b (o*k') (λi j=>(vs[(o+i)*k'+j]?).getD ah) h1 (by omega) (by simp) (λi hi=>by rw[wB];exact Z.width _ (by omega)) (λhm=>?_) (λi hi j c hj=>?_) (λi hi j c hj=>?_)
    .grind
    .grind
    .obtain⟨u,u1,u2⟩:=g i hi j c hj;rw[u1];exact u2.mono W
 obtain⟨C,q2⟩:=hh.gT (M':=M') (w':=s.w) (B':=.dead) (L':=⟨L.v,[]⟩) hB Q ak (bh _) (λ_ _ _=>rfl) (λb _ S o=>m2 b S o) m1 m3 (by simp) rfl rfl rfl ak;let s2:St:=⟨s.β.set l ⟨L.v,[]⟩,M',s.w,s.own⟩
 have g:∀i B,σ[i]?=aa B->i≠l->(ib l k n es 0 σ).1[i]?=aa (match B with|.cells E cs=>.cells E (oT l k n es cs).1|b=>b):=λi B hi CE=>by grind[r7,Nat.eq_of_beq_eq_true]
 have K:(ib l k n es 0 σ).1[l]?=aa .dead:=by
  rw[r7,hB];have:aw (0+l) l=ab:=by rw[bF];exact j4 l
  grind
 have xf:Step (σ.set l .dead) s2 (ib l k n es 0 σ).1 s2:=by
  refine⟨bh _,λ_ _ _=>rfl,λ_ _ _ h=>h,λ_ _ _ _=>rfl,λL' f b S=>.inr ⟨L',f,S⟩,λi B L' hi f=>?_,rfl,rfl,rfl,rfl⟩;by_cases e:i=l
  .subst e;rw[gu I]at hi;cases hi;exact⟨.dead,L',K,f,rfl⟩
  .rw[kL (λh=>e h.symm)]at hi;refine⟨_,L',g i B hi e,f,?_⟩;cases B<;>first|exact gR.refl _ _|rfl
 have st:=q2.trans xf;have V:jC σ s l k n es (ib l k n es 0 σ).1 s2:=⟨λv a r=>r.mono st.ext hh.len,λv k' o m r e y=>m4 v k' o m r e y⟩
 refine⟨s2,rfl,⟨C.mem,by rw[r8,<-hh.len];grind,λi B L' hi f=>?_,C.eO,C.lt,C.own⟩,st,V⟩;by_cases e:i=l
 .subst e;rw[K]at hi;cases hi;trivial
 .have z:i<σ.length:=by grind[r8]
  have x:=bn z;have T:s.β[i]?=aa L':=by grind
  have U:=hh.box i _ L' x T;have p:=C.box i _ L' (by rw[kL (λh=>e h.symm)];exact x) f;have d:=g i _ x e;rw[hi]at d;have d:=l4 d;generalize hBe:σ[i]=B0 at *;cases B0 with
  |cells E0 cs =>
   subst d;obtain⟨b,vs,h1,h2,D,O⟩:=U;obtain⟨q,YD,F,YE,_,R⟩:=p;rw[h1]at F;cases F;exact⟨b,vs,h1,h2,V.ls (xe hq x (by omega)) D,R⟩
  |vec=>subst d;exact p
  |cj=>subst d;exact p
  |dead=>subst d;trivial
  |loop N φ r =>
   subst d;obtain⟨l1,tmps,fn,df,h1,h2,D,O,h5⟩:=p;exact⟨l1,tmps,fn,df,h1,h2,D,λt=>(O t).mono xf.ext C.len,h5⟩
  |rX=>subst d;exact p
  |buf=>subst d;exact p
end
section
variable {X:Cx P}{φ':Fr}
def AK.pq(l:Nat){E k n:Nat}{es:Nat->List C}{ps qs:List Prop}(hl:dF l σ=aa (.buf E k n es))(i:xd l k n es φ=(φ',ps))(e:ib l k n es 0 σ=(σ',qs))(m:au ps)(j:au qs)(kk:AK X N Qf (.code c::K) .normal φ' σ'):AK X N Qf (.code c::K) .normal φ σ:=by refine AK.ghost (λs a d hh=>?_) kk;obtain⟨s2,h1,h2,b,g⟩:=hh.pq (b7 hl) (by grind);rw[e]at h2 b g;refine⟨s2,h1,⟨d.size,d.defers.imp λ_ h=>h.mono b.ext,λt=>?_⟩,h2,b⟩;have:=g.f hh.len b.ext (φ:=φ) (t:=t) (by grind) (d.slot t);grind
end
section
variable {X:Cx P}
def ek.Cu{f:aH}{args:List D}{k:Nat}{a b:C}{ok:Bool}{es:ι->Nat->List C}{K:ι->Mem->Prop}(es':Nat->List C)(h:ek X f args [] (λ_=>.fD [.agg [.bp 0 (.sl n k 0 n),.c a,.c b],.one (.c (.bool ok))]) (λi=>[.buf E k n (es i),.cj (PM (K i))]))(hK:∀i M M',xU M M'->K i M->K i M')(u:∀i M,K i M->∀j,j<n->(es' j).length=k/\∀(p:Nat) (c:C),(es' j)[p]?=aa c->∃W,(es i j)[p]?=aa W/\∀v M0,Rd M0 v W->Rd M v c):
  ek (ι:=ai) X f args [] (λv=>.fD [.agg [.c (.val v),.c a,.c b],.one (.c (.bool ok))]) (λv=>[.dead,.cj (PM λM=>Rd M v (.sl af k n es'))]):=by
 refine⟨h.1,λs vs hr hh S cs hS=>h.2 s vs hr hh S cs λi fr v s' hl mT jP st=>?_⟩;have hlen:s'.β.length=2:=jP.len;obtain⟨t,L1,G⟩:∃t L1,s'.β=[t,L1]:=by
  match hq:s'.β with
  |[A,B]=>grind
  |[]=>grind
  |[_]=>grind
  |_::_::_::_=>grind
 have I:s'.β[0]?=aa t:=by grind
 have g1:s'.β[1]?=aa L1:=by grind
 obtain⟨ch,⟨p1,p2,p3⟩,p4,p5,p6⟩:=jP.box 1 _ L1 rfl g1;have b0:=jP.box 0 _ t rfl I;obtain⟨ws,rfl,hw⟩:=mT
 match ws,hw with
 |[w0,w1],⟨z,F,_⟩ =>
 obtain⟨us,rfl,Q⟩:=z
 match us,Q with
 |[u0,u1,u2],⟨U,V,N,_⟩ =>
 obtain⟨lv,⟨a',a0,cap,W,rfl,k1,k2,k3,k4,k5⟩,_,J⟩:=U;obtain⟨_,J⟩:=J E k n (es i) rfl;obtain⟨L0',e0,e1⟩:=J rfl;rw[I]at e0;cases e0;rw[k4]at e1;have aeh:∀x,x∈t.bs->x∈L1.bs->False:=λx h1 h2=>absurd (jP.eO 0 1 t L1 I g1 x h1 h2) (by decide);obtain⟨m,q1,q2,q3,q4⟩:∃m:Nat->Option Obj,(∀x o,m x=aa o->s'.w.heap[x]?=aa o/\∃cs E,o=.cells cs E (0,0))/\(∀x,x∈t.bs↔(m x).isSome=ab)/\(∀x∈t.bs,∀o,s'.M x o=ae) /\
   (∀d,(∀x,(m x).isSome=ab->d x=m x)->K i (fS d)->Rd (fS d) (.slice a' n cap) (.sl af k n es')):=by
  rcases b0 with⟨rfl,rfl⟩|⟨bb,c1,xs,Z,rfl,z1,z2,z3,z4,z5,z6⟩
  .exact⟨λ_=>ae,by simp,by simp,by simp,λd _ _=>.sl 0 0 (λ_ _=>ah) k1 (by omega) (λh=>by cases h) (λi hi=>by omega) (λh=>by omega) (λi hi=>by omega) λi hi=>by omega⟩
  .cases e1;refine⟨λx=>if x=bb then aa (.cells (xs++Z).toArray E (0,0))else ae,λx o g=>?_,λx=>by by_cases e:x=bb<;>simp[e],λx g o=>?_,λd hc hk=>?_⟩
   .grind
   .grind
   .have Y:d bb=aa (.cells (xs++Z).toArray E (0,0)):=by grind
    refine .sl bb 0 (λi' j'=>xs.getD (i'*k+j') ah) k1 (by omega) (λh=>by cases h) (λj hj=>(u i _ hk j hj).1) (λh=>?_) (λj hj p c O=>?_) λj hj p c O=>?_
    .grind
    .obtain⟨c2,h1,h2⟩:=(u i _ hk j hj).2 p c O;obtain⟨v,v1,v2⟩:=z5.rd j hj p c2 h1;have ug:=(bX.1 v1).1;simp only[fS,Y,iL,bF];grind
    .obtain⟨c2,h1,h2⟩:=(u i _ hk j hj).2 p c O;obtain⟨v,v1,v2⟩:=z5.rd j hj p c2 h1;grind
 let d:Nat->Option Obj:=λx=>(ch x).or (m x);have H:∀x,(m x).isSome=ab->d x=m x:=λx g=>by
  have:ch x=ae:=by
   cases h:ch x with
   |none=>rfl
   |some y=>grind
  grind
 have T:xU (fS ch) (fS d):=λx o v hv=>by
  cases h:ch x with
  |none=>simp[fS,h]at hv
  |some y=>simpa[fS,h,d]using hv
 let s2:St:={s' with β:=[⟨t.v,[]⟩,⟨.nilFunc,L1.bs++t.bs⟩]}
 have r:∀L∈s2.β,∀x∈L.bs,∃L'∈s'.β,x∈L'.bs:=λL q x g=>by rw[G];simp only[s2,eb,oF,jy]at q;grind
 have hG:eH s' s2:=⟨rfl,λ_ _ _ h=>h,λ_ _ _=>rfl,jP.mem,λx g=>g.imp id λ⟨L,q,g⟩=>r L q x g⟩
 refine .ghost hG (hS (.slice a' n cap) fr _ s2 (hl.mono λ_ _ _ h=>h) ⟨_,rfl,⟨_,rfl,Rd.val rfl,V,N,ak⟩,F,ak⟩ ⟨jP.mem,rfl,λl B L hB q=>?_,λl l' A B h1 h2 x g Ru=>?_,λL q x g=>?_,λx g=>⟨(jP.own x g).1,λL q R=>?_⟩⟩
  ⟨st.size,st.fA,st.mem,λx g hn o=>st.jo x g hn o,λL q x g=>?_,λl B L hB=>by grind,st.os,st.tape,st.output,st.own⟩)
 .match l,hB,q with
  |0,hB,q=>cases hB;trivial
  |1,hB,q =>
   cases hB;cases q;refine⟨d,⟨rfl,λx o g=>?_,q4 d H (hK i _ _ T p3)⟩,λx o g=>?_,λx=>?_,λx g o=>?_⟩
   .cases h:ch x with
    |some y=>simp only[d,h,Option.some_or]at g;exact p2 x o (h.trans g)
    |none=>simp only[d,h,Option.none_or]at g;exact(q1 x o g).2
   .cases h:ch x with
    |some y=>grind
    |none=>grind
   .grind
   grind
  |l+2,hB,q=>grind
 .match l,l',h1,h2 with
  |0,0,_,_=>rfl
  |1,1,_,_=>rfl
  |0,1,h1,_=>grind
  |1,0,_,h2=>grind
  |l+2,_,h1,_=>grind
  |_,l+2,_,h2=>grind
 .obtain⟨L',h1,h2⟩:=r L q x g;exact jP.lt L' h1 x h2
 .obtain⟨L',h1,h2⟩:=r L q x R;exact(jP.own x g).2 L' h1 h2
 .obtain⟨L',h1,h2⟩:=r L q x g;exact st.wu L' h1 x h2
end
section
variable {X:Cx P}{c:Type}{x:c->Nat->D}{S:c->(Nat->Bool)->List bg}{Inv:c->(Nat->Bool)->Prop}
def iH(X:Cx P)(N:Nat)(all:List aC)(φ:Fr){c:Type}(x:c->Nat->D)(S:c->(Nat->Bool)->List bg)(Inv:c->(Nat->Bool)->Prop)(i:Nat)(o:aC):Prop :=
 ∀b (D:Nat->Bool),Inv b D->(∀j,gd all i j=ab->D j=ab)->(∀j,(j=i∨gd all j i=ab)->D j=af)->m9 X N all o (kC all φ (x b) i) (S b D) (λq:{a:c // (∀j,D j=ab->x a j=x b j)/\Inv a (eC i D)}=>x q.1 i) (λq=>S q.1 (eC i D))
def KT{P:aJ}(X:Cx P)(N:Nat)(all:List aC)(φ:Fr){c:Type}(x:c->Nat->D)(S:c->(Nat->Bool)->List bg)(Inv:c->(Nat->Bool)->Prop):List aC->Nat->Prop
 |[],_=>True
 |o::r,i=>iH X N all φ x S Inv i o/\KT X N all φ x S Inv r (i+1)
theorem KT.get{all:List aC}:∀{l:List aC}{k:Nat},KT X N all φ x S Inv l k->∀i o,l[i]?=aa o->iH X N all φ x S Inv (k+i) o
 |[],_,_,i,o,h=>by grind
 |p::r,k,h,0,o,a=>by simp at a;subst a;exact h.1
 |p::r,k,h,i+1,o,a=>by have:=KT.get h.2 i o (by grind);grind
def AK.S1{id:Nat}(p:P.follows Departure.mixedOrders=ab)(x:c->Nat->D)(S:c->(Nat->Bool)->List bg)(Inv:c->(Nat->Bool)->Prop)(b:c)(j:Inv b λ_=>af)(q:S b (λ_=>af)=σ)(d:m7 ops.toList=ab)(e:tb ops.toList 0=ab)(f:oS N ops.toList=ab)(one:KT X N ops.toList φ x S Inv ops.toList 0)(k:∀a D,Inv a D->(∀i,i<ops.toList.length->D i=ab)->AK X N Qf K .normal (On ops.toList φ (x a)) (S a D)):AK X N Qf (.code (.region id ops ab)::K) .normal φ σ:=by
 have:=AW.reg (X:=X) (N:=N) (φ:=φ) (σ:=σ) p (all:=ops.toList) ops.toList.length x S Inv b j q d e f (bh _)
  (λi h1 h2=>absurd h2 (mX.2 h1)) (λa D _ _ i h1 h2=>absurd h2 (mX.2 h1))
  (λa D i o m n _ l g h=>by have h1:=one.get i o n;rw[bF]at h1;exact h1 a D m (xz h i o n g) (Hi h l))
  (Q:=AK X N Qf K) (λa D m r=>by rw[wm];exact .nil (k a D m r)) id
 rw[pJ]at this;exact this
theorem iH.of(h:∀d (D:Nat->Bool),Inv d D->(∀j,gd all i j=ab->D j=ab)->(∀j,(j=i∨gd all j i=ab)->D j=af)->Inv d (eC i D)/\OA X N all o (kC all φ (x d) i) (S d D) (x d i) (S d (eC i D))):iH X N all φ x S Inv i o:=by intro d D g h1 h2 s a f hh b k cs SS idx rest hb hi hK;obtain⟨e,q2⟩:=h d D g h1 h2;exact q2 s a f hh b k cs SS idx rest hb hi λv s' r1 r2 r3=>hK ⟨d,λ_ _=>rfl,e⟩ v s' r1 r2 r3
def iH.ofI(h:∀e (D:Nat->Bool),Inv e D->(∀j,gd all i j=ab->D j=ab)->(∀j,(j=i∨gd all j i=ab)->D j=af) ->
  ∃(ι:Type) (y:ι->Go.AM.D) (σ':ι->List bg),m9 X N all o (kC all φ (x e) i) (S e D) y σ'/\∀j,∃d,((∀q,D q=ab->x d q=x e q)/\Inv d (eC i D))/\y j=x d i/\σ' j=S d (eC i D)):iH X N all φ x S Inv i o:=by intro e D l h1 h2 s a f hh b k cs SS idx rest hb hi hK;obtain⟨ι,y,σ',m,q2⟩:=h e D l h1 h2;refine m s a f hh b k cs SS idx rest hb hi λj v s' r1 r2 r3=>?_;obtain⟨d,g,p2,p3⟩:=q2 j;rw[p2]at r1;rw[p3]at r1 r2 r3;exact hK ⟨d,g⟩ v s' r1 r2 r3
end
section
variable {X:Cx P}{x:Nat->D}{l:Bool->Bool->Bool->Bool->List bg}{e g f k:Nat}
abbrev pY(l:Bool->Bool->Bool->Bool->List bg)(e g f k:Nat):(Nat->Bool)->List bg:=λD=>l (D e) (D g) (D f) (D k)
theorem sh{D:Nat->Bool}(h:aw j i=af):eC i D j=D j:=by simp only[eC,h]
theorem C0{D:Nat->Bool}:eC i D i=ab:=by simp only[eC,j4]
def en.q4(h1:aw e i=af)(h2:aw g i=af)(m:aw f i=af)(j:aw k i=af)(h:∀a b c d,OA X N all o (kC all φ x i) (l a b c d) (x i) (l a b c d)):en X N all φ x (pY l e g f k) i o:=by intro D _ _;grind[sh]
def en.Yb(hT:cV P T)(hC:bH X CT)(j:au obs)(h:∀a b c d,xj T CT [] all (kC all φ x i) (l a b c d) o=aa (x i,ae,obs):=by intro a b c d;cases a<;>cases b<;>cases c<;>cases d<;>rfl)(h1:aw e i=af:=by rfl)(h2:aw g i=af:=by rfl)(n:aw f i=af:=by rfl)(m:aw k i=af:=by rfl):en X N all φ x (pY l e g f k) i o:=.q4 h1 h2 n m λa b c d=>OA.eval hT hC (h a b c d) j
def en.rC(hT:cV P T)(hC:bH X CT)(h:∀a b c d,xj T CT [] all (kC all φ x i) (l a b c d) o=aa (x i,ae,[]):=by intro a b c d;cases a<;>cases b<;>cases c<;>cases d<;>rfl)(h1:aw e i=af:=by rfl)(h2:aw g i=af:=by rfl)(m:aw f i=af:=by rfl)(j:aw k i=af:=by rfl):en X N all φ x (pY l e g f k) i o:=.Yb (obs:=[]) hT hC ak h h1 h2 m j
def en.c1(h2:aw g e=af)(a:aw f e=af)(d:aw k e=af)(c:gd all g e=ab)(i:gd all f e=ab)(b:gd all k e=ab)(h:OA X N all o (kC all φ x e) (l af af af af) (x e) (l ab af af af)):en X N all φ x (pY l e g f k) e o:=by intro D hT hF;grind[C0,sh]
def en.c2(h1:aw e g=af)(a:aw f g=af)(d:aw k g=af)(b:gd all g e=ab)(i:gd all f g=ab)(c:gd all k g=ab)(h:OA X N all o (kC all φ x g) (l ab af af af) (x g) (l ab ab af af)):en X N all φ x (pY l e g f k) g o:=by intro D hT hF;grind[C0,sh]
def en.c3(h1:aw e f=af)(h2:aw g f=af)(b:aw k f=af)(c:gd all f e=ab)(a:gd all f g=ab)(d:gd all k f=ab)(h:OA X N all o (kC all φ x f) (l ab ab af af) (x f) (l ab ab ab af)):en X N all φ x (pY l e g f k) f o:=by intro D hT hF;grind[C0,sh]
def en.c4(h1:aw e k=af)(h2:aw g k=af)(c:aw f k=af)(d:gd all k e=ab)(a:gd all k g=ab)(b:gd all k f=ab)(h:OA X N all o (kC all φ x k) (l ab ab ab af) (x k) (l ab ab ab ab)):en X N all φ x (pY l e g f k) k o:=by intro D hT hF;grind[C0,sh]
end
section
variable {X:Cx P}{x:Option ι->Nat->D}{s:Option ι->Bool->Bool->Bool->List bg}{m f e d:Nat}
abbrev SO(s:Option ι->Bool->Bool->Bool->List bg)(f e d:Nat):Option ι->(Nat->Bool)->List bg:=λa D=>s a (D f) (D e) (D d)
abbrev xA(ι:Type)(m:Nat):Option ι->(Nat->Bool)->Prop:=λa D=>a.isSome=D m
def iH.quiet(j:aw m i=af)(h1:aw f i=af)(h2:aw e i=af)(k:aw d i=af)(h:∀g a b c,OA X N all o (kC all φ (x g) i) (s g a b c) (x g i) (s g a b c)):
  iH X N all φ x (SO s f e d) (xA ι m) i o:=by grind[iH.of,sh]
def iH.S4(p:aw m i=af)(h1:aw f i=af)(h2:aw e i=af)(k:aw d i=af)(n:gd all i m=ab)(h:∀j a b c,OA X N all o (kC all φ (x (aa j)) i) (s (aa j) a b c) (x (aa j) i) (s (aa j) a b c)):
  iH X N all φ x (SO s f e d) (xA ι m) i o:=by
 refine iH.of λg D q hT _=>⟨?_,?_⟩
 .grind [sh]
 .show OA X N all o _ (s g (D f) (D e) (D d)) _ (s g (eC i D f) (eC i D e) (eC i D d));rw[sh h1,sh h2,sh k];have l:=hT m n;cases g with
  |none=>grind
  |some j=>exact h _ _ _ _
def iH.qo(hT:cV P T)(hC:bH X CT)(k:au obs)(h:∀g a b c,xj T CT [] all (kC all φ (x g) i) (s g a b c) o=aa (x g i,ae,obs):=by intro g a b c;cases g<;>cases a<;>cases b<;>cases c<;>rfl)(l:aw m i=af:=by rfl)(h1:aw f i=af:=by rfl)(h2:aw e i=af:=by rfl)(j:aw d i=af:=by rfl):iH X N all φ x (SO s f e d) (xA ι m) i o:=.quiet l h1 h2 j λg a b c=>OA.eval hT hC (h g a b c) k
def iH.qe(hT:cV P T)(hC:bH X CT)(h:∀g a b c,xj T CT [] all (kC all φ (x g) i) (s g a b c) o=aa (x g i,ae,[]):=by intro g a b c;cases g<;>cases a<;>cases b<;>cases c<;>rfl)(k:aw m i=af:=by rfl)(h1:aw f i=af:=by rfl)(h2:aw e i=af:=by rfl)(j:aw d i=af:=by rfl):iH X N all φ x (SO s f e d) (xA ι m) i o:=.qo (obs:=[]) hT hC ak h k h1 h2 j
def iH.qs(hT:cV P T)(hC:bH X CT)(h:∀j a b c,xj T CT [] all (kC all φ (x (aa j)) i) (s (aa j) a b c) o=aa (x (aa j) i,ae,[]):=by intro j a b c;cases a<;>cases b<;>cases c<;>rfl)(g:aw m i=af:=by rfl)(h1:aw f i=af:=by rfl)(h2:aw e i=af:=by rfl)(k:aw d i=af:=by rfl)(l:gd all i m=ab:=by rfl):iH X N all φ x (SO s f e d) (xA ι m) i o:=.S4 g h1 h2 k l λj a b c=>OA.c8 hT hC (h j a b c)
def iH.Y2(c:aw m e=af)(h1:aw f e=af)(i:aw d e=af)(g:gd all d e=ab)(h:∀b a,OA X N all o (kC all φ (x b) e) (s b a af af) (x b e) (s b a ab af)):iH X N all φ x (SO s f e d) (xA ι m) e o:=by grind[iH.of,sh,C0]
def iH.Y3(g:aw m d=af)(h1:aw f d=af)(h2:aw e d=af)(c:gd all d m=ab)(k:gd all d f=ab)(l:gd all d e=ab)(h:∀j,OA X N all o (kC all φ (x (aa j)) d) (s (aa j) ab ab af) (x (aa j) d) (s (aa j) ab ab ab)):iH X N all φ x (SO s f e d) (xA ι m) d o:=by
 refine iH.of λb D i hT hF=>?_;have a:=hT m c;cases b with
 |none=>grind
 |some j =>
  grind[sh,C0]
end
section
variable {X:Cx P}
def AK.V9{x:ι->D}{σ':ι->List bg}(h:m9 X N all o φ σ x σ')(l:gm N o.dst=ab)(k:∀i,AK X N Qf (.ops all rest::K) .normal (kQ o.dst (x i) φ) (σ' i)):AK X N Qf (.ops all (o::rest)::K) .normal φ σ:=by
  intro s a f hh b kk cs S idx hb jO hQ;cases idx with
  | nil=>exact jO.elim
  | cons j idx =>
  refine h s a f hh b kk cs S j idx hb jO.1 λi v s' h1 h2 h3=>?_;refine k i s' _ ?_ h2 b kk cs S idx hb jO.2 λc σ2 s2 a2 q d g st=>hQ c σ2 s2 a2 q d g (h3.trans st);cases e:o.dst with
  | none=>exact f.mono h3 hh.len
  | some t=>exact(f.mono h3 hh.len).put (gU l t e) h1
def m9.q8[X.ik]{f:aH}(Rc:ek X f cv [] res σ1){G5:List D}(hgd:rH all φ o=ab)(ho:o.op=.call {callee:=.value fo,args:=xs,argTypes:=jU})(hf:eQ (bS φ fo)=aa (f,cap))(hl:kg σ (xs.toList.map (bS φ)++fY cap) G5)(Y:xa G5 (fX [] cv)=aa ps)(Zp:au ps)(hin:lP 0 cv=ab)(Q:∀j,OP (res j)=ab)(mY:∀j,CH (σ1 j)=ab):m9 X N all o φ σ res (λj=>σ++σ1 j):=by
  intro s a K hh b kx cs S i idx hb hi hQ;have hfo:=dh K fo;unfold eQ at hf;split at hf
  case h_2=>cases hf
  case h_1 f' OG he =>
    cases hf;rw[he]at hfo;have E:=fe hfo;generalize C:a.eval fo=fv at E;cases E with
    | fn fs nO hlf Zx f1 f2 h1 h2 r1 r2 =>
      have Zy:fs=[]:=jF hlf;subst Zy;have I:cp σ s nO (fY cap):=nU (λj c hj=>⟨f2 j,h2 j (by grind),r2 j c hj⟩) Zx;have G:cp σ s (xs.toList.map a.eval++nO) (xs.toList.map (bS φ)++fY cap):=(ma (dh K) xs.toList).append I;generalize UX:xs.toList.map a.eval++nO=vs at G;obtain⟨⟨fn,Pq,Tf,J⟩,U⟩:=Rc;have xn:∀w,(aq a.eval o).run P w=.ok (.enter f vs.toArray) w:=λw=>by grind[jV]
      have Zz:∀w,(aq a.eval o).events P w #[]=#[]:=λw=>(jV ho Pq Tf J C w).2;refine .next rfl λg Zq=>?_;have hr:=X.iS Zq;have e:=hh.rely hr;have f1':=K.rely hr hh;have O:cp σ g vs (xs.toList.map (bS φ)++fY cap):=G.mono hr.stepW.ext hh.len;obtain⟨B,M',hBL,m1,m2,m3,m4,m5⟩:=hl g vs e O;let sc:St:={g with β:=[],M:=M',own:=λb=>g.own b∨∃L∈g.β,b∈L.bs}
      have hhc:aE [] sc:=by
        refine⟨m3,rfl,by simp,by grind,by grind,λb hb=>⟨?_,by grind⟩⟩;rcases hb with hb|⟨L',q,hb⟩
        · exact(e.own b hb).1
        · exact e.lt L' q b hb
      have ZA:eH g sc:=by refine⟨rfl,m1,λb hb o=>m2 b (λhB=>by grind) o,m3,λb hb=>?_⟩;grind
      have A:cp [] sc vs cv:=by have a3:=wA Y Zp m5;exact(cp.sub (ks:=[]) (σ:=σ) (σ':=[]) (s:={g with M:=M'}) (β':=[]) rfl rfl a3 hin).mono (σ:=[]) (s:={g with β:=[],M:=M'}) (σ':=[]) (s':=sc) ⟨λ_ _ _ h=>h,λl B L hB hL=>by grind⟩ rfl
      refine⟨_,g,_,pM hi (fQ hgd _ _ _ f1') hb (xn g.w),⟨⟨σ,σ,e,e,.refl _ _⟩,fj.seen (by rw[Zz];exact .nil)⟩,.ghost ZA (U sc vs A hhc S _ λj fr v s2 Iu mT JZ m0=>?_)⟩;refine qR (cs:=cs) (c:=b.aT a (.inRegion all.toArray (i::idx)::kx)) JZ Iu λt R=>?_;have p:=JZ.rely R;have n:=m0.trans R.stepW;have T:=mT.mono R.stepW.ext JZ.len
      classical
      let F:Mem:=λb o=>if B b then g.M b o else t.M b o;have r:∀b,(g.own b∨∃L∈g.β,b∈L.bs)->t.own b:=λb hb=>by rw[n.own];exact hb
      have hFg:nB t {t with M:=F}:=by
        refine⟨rfl,rfl,rfl,λb o v C=>?_,λb o v C=>?_⟩
        · grind
        grind
      refine .forget Cx.ik.ok hFg ?_;have hM5:∀b o v,F b o=aa v->t.M b o=aa v:=hFg.less;let Z:St:={t with M:=F,β:=g.β++t.β,own:=g.own}
      have hMm:∀b o v,g.M b o=aa v->F b o=aa v:=λb o v C=>by
        by_cases d:B b
        · grind
        · simp only[F,d,cg];exact n.mem b o v (m1 b o v C)
      have hMk:∀b,b<g.w.heap.size->∀o,F b o=g.M b o:=λb hb o=>by
        by_cases d:B b
        · grind
        · simp only[F,d,cg]
          rw[n.jo b hb (by grind) o];grind
      have V:t.β.length=(σ1 j).length:=p.len;have ex:Ext σ g (σ++σ1 j) Z:=by
        refine⟨hMm,λl B L hB hL=>⟨B,L,?_,?_,.refl _ _⟩⟩
        · grind
        grind
      have W:g.w.heap.size<=t.w.heap.size:=n.size;have x:∀(l:Nat) (L':Loc),(g.β++t.β)[l]?=aa L'->(l<g.β.length/\g.β[l]?=aa L')∨(g.β.length<=l/\t.β[l-g.β.length]?=aa L'):=λl L' h=>by grind
      have hh5:aE (σ++σ1 j) Z:=by
        refine⟨λb o v C=>p.mem b o v (hM5 b o v C),by simp[Z,e.len,V],?_,?_,?_,?_⟩
        · intro l B L' hB q
          rcases x l L' q with⟨ug,h1⟩|⟨U2,h1⟩
          · rw[jH (by rw[<-e.len];exact ug)]at hB
            exact(e.box l B L' hB h1).carry ex e.len λm d=>⟨n.fA m (.inr ⟨L',bP h1,d⟩),hMk m (e.lt L' (bP h1) m d)⟩
          · rw[gp (by rw[<-e.len];exact U2),<-e.len]at hB
            have hbx:=p.box _ B L' hB h1;rcases CI (mY j) B (bP hB)with⟨H,rfl⟩|rfl
            · obtain⟨ch,c1,c2,c3,c4⟩:=hbx
              refine⟨ch,c1,c2,c3,λm d o=>?_⟩;grind
            · trivial
        · intro l l' L1 L2 hL1 hL2 m y z
          rcases x l L1 hL1 with⟨ug,h1⟩|⟨U2,h1⟩<;>rcases x l' L2 hL2 with⟨ad7,h2⟩|⟨ad8,h2⟩
          · exact e.eO l l' L1 L2 h1 h2 m y z
          · exact absurd z ((p.own m (r m (.inr ⟨L1,bP h1,y⟩))).2 L2 (bP h2))
          · exact absurd y ((p.own m (r m (.inr ⟨L2,bP h2,z⟩))).2 L1 (bP h1))
          · have:=p.eO _ _ L1 L2 h1 h2 m y z;omega
        · intro L' q m d
          rcases fz.1 q with h|h
          · exact c9 (e.lt L' h m d) W
          · exact p.lt L' h m d
        · intro m d
          refine⟨c9 (e.own m d).1 W,λL' q=>?_⟩;rcases fz.1 q with h|h
          · exact(e.own m d).2 L' h
          · exact(p.own m (r m (.inl d))).2 L' h
      have hg5:eH {t with M:=F} Z:=by refine⟨rfl,λ_ _ _ h=>h,λ_ _ _=>rfl,λb o v C=>p.mem b o v (hM5 b o v C),λm d=>?_⟩;grind
      have st5:c6 σ g (σ++σ1 j) Z:=by
        refine⟨W,λm d=>n.fA m (.inl d),hMm,λm d _ o=>hMk m d o,λL' q m d=>?_,ex.box,n.os,n.tape,n.output,rfl⟩;rcases fz.1 q with h|h
        · grind
        · rcases n.wu L' h m d with h1|⟨L0,h1,_⟩
          · grind
          grind
      refine .ghost hg5 ?_;have u:=kO (b:=b) (a:=a) (k:=kx) all.toArray i idx v;rw[hi]at u;simp only[oB]at u;rw[u];exact hQ j v Z (OQ (Q j) T) hh5 (hr.stepW.trans st5)
def AK.q8[X.ik]{ι:Type}{fo:aB}{xs:Array aB}{jU:Array av}{f:aH}{cap:List C}{cv:List D}{res:ι->D}{σ1:ι->List bg}(d:ek X f cv [] res σ1){c:List D}(h:rH all φ o=ab)(l:o.op=.call {callee:=.value fo,args:=xs,argTypes:=jU})(k:eQ (bS φ fo)=aa (f,cap))(hl:kg σ (xs.toList.map (bS φ)++fY cap) c){ps:List Prop}(b:xa c (fX [] cv)=aa ps)(e:au ps)(i:lP 0 cv=ab)(a:∀j,OP (res j)=ab)(g:∀j,CH (σ1 j)=ab)(m:gm N o.dst=ab)(kk:∀j,AK X N Qf (.ops all rest::K) .normal (kQ o.dst (res j) φ) (σ++σ1 j)):AK X N Qf (.ops all (o::rest)::K) .normal φ σ:=.V9 (m9.q8 d h l k hl b e i a g) m kk
def AK.Lf[X.ik]{f:aH}(d:ek X f cv [] res σ1)(m p:Nat){u:ai}{k:Nat}(i:rH all φ o=ab)(r:o.op=.call {callee:=.value fo,args:=xs,argTypes:=jU})(q:eQ (bS φ fo)=aa (f,cap))(s:(xs.toList.map (bS φ)++fY cap)[p]?=aa (.e (.one (.v u))))(hl:ik σ m u k n es)(b:xa ((xs.toList.map (bS φ)++fY cap).set p (.e (.one (.c (.sl af k n es))))) (fX [] cv)=aa ps)(g:au ps)(l:lP 0 cv=ab)(a:∀j,OP (res j)=ab)(h:∀j,CH (σ1 j)=ab)(t:gm N o.dst=ab)(kk:∀j,AK X N Qf (.ops all rest::K) .normal (kQ o.dst (res j) φ) (σ++σ1 j)):AK X N Qf (.ops all (o::rest)::K) .normal φ σ :=
  AK.q8 d i r q ((kg.refl _ _).step p m s hl) b g l a h t kk
end
section
variable {X:Cx P}{d:List It}
def ek.We{f:aH}{args:List D}{H:ι->ai->(Nat->Option Obj)->Prop}{k:Nat}(h:ek X f args [] res (λi=>[.dead,.cj (H i)]))(z:∀i v ch,H i v ch->v=.nilFunc)(G:∀i,iE [] (res i)=res i)(p:∀i,w7 0 (res i)=ab)(Q:lP 0 args=ab)(u:fX [] args=args):
  ek X f args [.cj (gk E k (.nil ae) 0 [])] res (λi=>[.cj (H i)]):=by
 refine⟨h.1,λs vs hr hh S cs hS=>?_⟩;have y:s.β.length=1:=hh.len;obtain⟨g,F⟩:∃g,s.β=[g]:=by
  match O:s.β with
  |[A]=>grind
  |[]=>grind
  |_::_::_=>grind
 have w:s.β[0]?=aa g:=by grind
 obtain⟨I,c1,c2,c3,c4⟩:=hh.box 0 _ g rfl w;obtain⟨R,_,_,_,rfl⟩:=c1;have K:∀b,b∉g.bs:=λb a=>by grind
 let j:St:={s with β:=[]}
 have J:eH s j:=⟨rfl,λ_ _ _ h=>h,λ_ _ _=>rfl,hh.mem,λb a=>a.imp id λ⟨L,c,_⟩=>by grind⟩
 have t:aE [] j:=⟨hh.mem,rfl,by simp,by grind,by grind,λb a=>⟨(hh.own b a).1,by grind⟩⟩
 have e:cp [] j vs args:=by rw[<-u]at hr;exact cp.sub (ks:=[]) (σ:=[.cj (gk E k (.nil ae) 0 [])]) (σ':=[]) (s:=s) (β':=[]) rfl rfl hr Q
 refine .ghost J (h.2 j vs e t S cs λi fr v s' hl mT jP st=>?_);have n:s'.β.length=2:=jP.len;obtain⟨A,B,x⟩:∃A B,s'.β=[A,B]:=by
  match O:s'.β with
  |[A,B]=>grind
  |[]=>grind
  |[_]=>grind
  |_::_::_::_=>grind
 have M:s'.β[1]?=aa B:=by grind
 obtain⟨ch,d1,d2,d3,d4⟩:=jP.box 1 _ B rfl M;have hB:=z i _ _ d1;let s2:St:={s' with β:=[B]}
 have m:∀L∈s2.β,L∈s'.β:=λL c=>by grind
 have r:eH s' s2:=⟨rfl,λ_ _ _ h=>h,λ_ _ _=>rfl,jP.mem,λb a=>a.imp id λ⟨L,c,a⟩=>⟨L,m L c,a⟩⟩
 have q:du [.cj (H i)] s2 v (res i):=by rw[<-G i]at mT;have:=du.sub (ks:=[]) (σ:=[.dead,.cj (H i)]) (σ':=[]) (s:=s') (β':=[]) rfl rfl mT (p i);exact this.mono (σ:=[]) (s:={s' with β:=[]}) (σ':=[.cj (H i)]) (s':=s2) ⟨λ_ _ _ h=>h,λl B L hB=>by grind⟩ rfl
 refine .ghost r (hS i fr v s2 (hl.mono λ_ _ _ h=>h) q ⟨jP.mem,rfl,λl C L hC c=>?_,λl l' C D h1 h2 b a N=>?_,λL c b a=>jP.lt L (m L c) b a,λb a=>⟨(jP.own b a).1,λL c=>(jP.own b a).2 L (m L c)⟩⟩
  ⟨st.size,st.fA,st.mem,λb a _ o=>st.jo b a (by grind) o,λL c b a=>?_,λl C L hC c=>?_,st.os,st.tape,st.output,st.own⟩)
 .match l,hC,c with
  |0,hC,c=>cases hC;cases c;exact⟨ch,d1,d2,d3,d4⟩
  |l+1,hC,_=>grind
 .match l,l',h1,h2 with
  |0,0,_,_=>rfl
  |l+1,_,h1,_=>grind
  |_,l+1,_,h2=>grind
 .rcases st.wu L (m L c) b a with h1|⟨L1,h1,_⟩
  .grind
  grind
 .match l,hC,c with
  |0,hC,c =>
   cases hC;rw[w]at c;cases c;exact⟨_,B,rfl,rfl,by show B.v=g.v;grind⟩
  |l+1,hC,_=>grind
def AK.Px(l i j:Nat){K:Mem->Prop}{E0:av}{k:Nat}{cs:List A}{R cl:C}(X2:l≠i)(hl:dF l σ=aa (.cj (PM K)))(hi:dF i σ=aa (.cells E0 cs))(hj:dF j cs=aa (.c R))(U:∀M M',K M->xU M M'->∀v,Rd M' v R->Rd M' v cl)(kk:AK X N Qf (.code c::d) .normal φ ((σ.set l (.cj (gk E k (.nil ae) 0 []))).set i (.cells E0 (cs.set j (.c cl))))):AK X N Qf (.code c::d) .normal φ σ:=by
 refine AK.ghost (λs a J hh=>?_) kk;have hl:=b7 hl;have hi:=b7 hi;have hJ:=b7 hj;have t:l<s.β.length:=by rw[hh.len];grind
 have Q:=bn t;generalize s.β[l]=L at Q;obtain⟨ch,⟨h1,h2,V⟩,h4,h5,h6⟩:=hh.box l _ L hl Q;let M':Mem:=λb o=>(s.M b o).or (fS ch b o);have r:∀b o v,fS ch b o=aa v->b∈L.bs/\s.w.cell? ⟨b,o,ae⟩=aa v:=λb o v f=>by
  cases h:ch b with
  |none=>simp[fS,h]at f
  |some x =>
   obtain⟨cs,E,rfl⟩:=h2 b x h;have hw:=h4 b _ h;simp only[fS,h]at f;exact⟨(h5 b).2 (by simp[h]),by simpa[aP,hw]using f⟩
 have m1:∀b o v,s.M b o=aa v->M' b o=aa v:=λb o v f=>by grind
 have m2:∀b,b∉L.bs->∀o,M' b o=s.M b o:=λb z o=>by
  cases h:fS ch b o with
  |none=>grind
  |some v=>grind
 have T:∀b o v,M' b o=aa v->s.w.cell? ⟨b,o,ae⟩=aa v:=λb o v f=>by
  cases h:s.M b o with
  |some v'=>simp only[M',h,Option.some_or]at f;cases f;exact hh.mem b o v h
  |none=>grind
 have Y:=U _ M' V λb o v f=>by have:=h6 b (r b o v f).1 o;simp[M',this,f]
 obtain⟨m,q2⟩:=hh.gT (M':=M') (w':=s.w) (B':=.cj (gk E k (.nil ae) 0 [])) (L':=⟨.nilFunc,[]⟩) hl Q h1.symm (bh _) (λ_ _ _=>rfl) (λb _ z o=>m2 b z o) m1 T (by simp) rfl rfl rfl
  ⟨λ_=>ae,⟨rfl,by simp,by simp,rfl,rfl⟩,by simp,by simp,by simp⟩
 have q:(σ.set l (.cj (gk E k (.nil ae) 0 [])))[i]?=aa (.cells E0 cs):=by grind
 generalize Z:(⟨s.β.set l ⟨.nilFunc,[]⟩,M',s.w,s.own⟩:St)=s1 at m q2;have F:i<s1.β.length:=by rw[m.len];grind
 have g:=bn F;generalize s1.β[i]=L2 at g;obtain⟨b,vs,O,n,D,hM⟩:=m.box i _ L2 q g;obtain⟨u,W,hr⟩:=D.get hJ;have y:s1.M=M':=by grind
 have I:s1.β.set i L2=s1.β:=by apply ji;grind
 obtain⟨t1,S⟩:=m.gT (M':=s1.M) (w':=s1.w) (B':=.cells E0 (cs.set j (.c cl))) (L':=L2) q g rfl (bh _) (λ_ _ _=>rfl) (λ_ _ _ _=>rfl) (λ_ _ _ h=>h) m.mem (λb z=>⟨.inl z,m.lt L2 (bP g) b z⟩) rfl rfl rfl (by
   rw[I];have ex:Ext (σ.set l (.cj (gk E k (.nil ae) 0 []))) s1 ((σ.set l (.cj (gk E k (.nil ae) 0 []))).set i (.cells E0 (cs.set j (.c cl)))) s1:=by
    refine⟨λ_ _ _ h=>h,λp B L G H=>?_⟩;by_cases e:i=p
    .subst e;rw[q]at G;cases G;exact⟨_,L,gu (by grind),H,rfl⟩
    .exact⟨B,L,by grind,H,.refl _ _⟩
   refine⟨b,vs,O,n,er.set (D.mono ex m.len) W ?_,hM⟩;show Rd s1.M u cl;rw[y];exact Y u (y▸hr))
 have st:=q2.trans S;exact⟨_,by grind,⟨J.size,J.defers.imp λ_ h1=>h1.mono st.ext,λu=>(J.slot u).mono st.ext hh.len⟩,t1,st⟩
def AK.sq(l i j:Nat){K:Mem->Prop}{E0:av}{k:Nat}{cs:List A}{cl:C}(a:l≠i)(hl:dF l σ=aa (.cj (PM K)))(hi:dF i σ=aa (.cells E0 cs))(hj:dF j cs=aa (.c (.val v)))(b:∀M,K M->Rd M v cl)(kk:AK X N Qf (.code c::d) .normal φ ((σ.set l (.cj (gk E k (.nil ae) 0 []))).set i (.cells E0 (cs.set j (.c cl))))):AK X N Qf (.code c::d) .normal φ σ :=
 AK.Px l i j a hl hi hj (λ_ _ h le _ r=>by rw[Rd.eu r];exact(b _ h).mono le) kk
end
section
variable {X:Cx P}{n:List It}
def AK.Wf(l i j:Nat){E0:av}{k Z:Nat}{cs:List A}{H:Nat->List C}(k1:Nat)(Fz:Nat->List C)(X2:l≠i)(hl:dF l σ=aa (.cj (gk E k (.nil ae) 0 [])))(hi:dF i σ=aa (.cells E0 cs))(hj:dF j cs=aa (.c (.sl ab Z 0 H)))(kk:∀v,AK X N Qf (.code c::n) .normal φ ((σ.set l (.cj (PM λM=>Rd M v (.sl af k1 0 Fz)))).set i (.cells E0 (cs.set j (.c (.val v)))))):AK X N Qf (.code c::n) .normal φ σ:=by
 refine AW.uh (ι:=ai) (φ':=λ_=>φ) (σ':=λv=>(σ.set l (.cj (PM λM=>Rd M v (.sl af k1 0 Fz)))).set i (.cells E0 (cs.set j (.c (.val v))))) (λs a S hh=>?_) kk;have hl:=b7 hl;have hi:=b7 hi;have hJ:=b7 hj;have o:i<s.β.length:=by rw[hh.len];grind
 have G:=bn o;generalize s.β[i]=Li at G;obtain⟨b0,ZD,hLb,R,K,_⟩:=hh.box i _ Li hi G;obtain⟨v,Sp,W⟩:=K.get hJ;obtain⟨a0,cap,vs1,rfl,n1,n2,_,_,_⟩:=(show Rd s.M v (.sl ab Z 0 H)from W).flat;have hK:∀M:Mem,Rd M (.slice a0 0 cap) (.sl af k1 0 Fz):=λM=>.sl 0 0 (λ_ _=>ah) n1 n2 (λh=>by cases h) (λi hi=>by omega) (λh=>by omega) (λi hi=>by omega) λi hi=>by omega
 have z:l<s.β.length:=by rw[hh.len];grind
 have Q:=bn z;generalize s.β[l]=L at Q;obtain⟨ch,hs,h4,h5,h6⟩:=hh.box l _ L hl Q;obtain⟨y,q2⟩:=hh.gT (M':=s.M) (w':=s.w) (B':=.cj (PM λM=>Rd M (.slice a0 0 cap) (.sl af k1 0 Fz))) (L':=L) hl Q rfl (bh _) (λ_ _ _=>rfl) (λ_ _ _ _=>rfl) (λ_ _ _ h=>h) hh.mem (λb F=>⟨.inl F,hh.lt L (bP Q) b F⟩) rfl rfl rfl
  ⟨ch,PM.start hK _ _ hs,h4,h5,h6⟩
 have r:(σ.set l (.cj (PM λM=>Rd M (.slice a0 0 cap) (.sl af k1 0 Fz))))[i]?=aa (.cells E0 cs):=by grind
 generalize hs1:(⟨s.β.set l L,s.M,s.w,s.own⟩:St)=s1 at y q2;have Y:i<s1.β.length:=by grind
 have t:s1.β[i]?=aa Li:=by grind
 obtain⟨b,vs,V,q,U,hM⟩:=y.box i _ Li r t;have O:s1.β.set i Li=s1.β:=by apply ji;grind
 have T:vs[j]?=aa (.slice a0 0 cap):=by grind
 obtain⟨t1,t2⟩:=y.gT (M':=s1.M) (w':=s1.w) (B':=.cells E0 (cs.set j (.c (.val (.slice a0 0 cap))))) (L':=Li) r t rfl (bh _) (λ_ _ _=>rfl) (λ_ _ _ _=>rfl) (λ_ _ _ h=>h) y.mem (λb F=>⟨.inl F,y.lt Li (bP t) b F⟩) rfl rfl rfl (by
   rw[O];have ex:Ext (σ.set l (.cj (PM λM=>Rd M (.slice a0 0 cap) (.sl af k1 0 Fz)))) s1 ((σ.set l (.cj (PM λM=>Rd M (.slice a0 0 cap) (.sl af k1 0 Fz)))).set i (.cells E0 (cs.set j (.c (.val (.slice a0 0 cap)))))) s1:=by
    refine⟨λ_ _ _ h=>h,λp B L I J=>?_⟩;by_cases e:i=p
    .subst e;rw[r]at I;cases I;exact⟨_,L,gu (by grind),J,rfl⟩
    .exact⟨B,L,by grind,J,.refl _ _⟩
   exact⟨b,vs,V,q,er.set (U.mono ex y.len) T (Rd.val rfl),hM⟩)
 have st:=q2.trans t2;exact⟨.slice a0 0 cap,_,by grind,⟨S.size,S.defers.imp λ_ h1=>h1.mono st.ext,λu=>(S.slot u).mono st.ext hh.len⟩,t1,st⟩
end
section
variable {X:Cx P}{x:Option ι->Nat->D}{s:Option ι->Bool->Bool->Bool->List bg}{m f g d:Nat}
def iH.pre(p:aw m f=af)(h2:aw g f=af)(q:aw d f=af)(l:gd all m f=ab)(i:gd all d f=ab)(h:∀b,OA X N all o (kC all φ (x ae) f) (s ae af b af) (x ae f) (s ae ab b af)):iH X N all φ x (SO s f g d) (xA ι m) f o:=by
 refine iH.of λk D r hT hF=>?_;have a:=hF m (.inr l);have e:=hF d (.inr i);have c:=hF f (.inl rfl);cases k with
 |some j=>grind
 |none=>grind[sh,C0]
def iH.ZE(h1:aw f m=af)(h2:aw g m=af)(t:aw d m=af)(k:gd all m f=ab)(p:gd all d m=ab)(l:∀j q,q=m∨gd all q m=ab∨x (aa j) q=x ae q)(h:∀b,m9 X N all o (kC all φ (x ae) m) (s ae ab b af) (λj=>x (aa j) m) (λj=>s (aa j) ab b af)):iH X N all φ x (SO s f g d) (xA ι m) m o:=by
 refine iH.ofI λa D u hT hF=>?_;have c:=hF m (.inl rfl);have i:=hT f k;have e:=hF d (.inr p);have r:a=ae:=by
  cases a with
  |none=>rfl
  |some j=>grind
 grind[C0,sh]
def iH.last(b:aw m d=af)(h1:aw f d=af)(h2:aw g d=af)(e:gd all d m=ab)(c:gd all d f=ab)(a:gd all d g=ab)(h:∀j,OA X N all o (kC all φ (x (aa j)) d) (s (aa j) ab ab af) (x (aa j) d) (s (aa j) ab ab ab)):iH X N all φ x (SO s f g d) (xA ι m) d o:=.Y3 b h1 h2 e c a h
end
theorem Rd.FG{t:Bool}{k:Nat}(h:Rd M v (.sl t k n es)):∃a cap b off,v=.slice a n cap/\n<=cap/\cap<=9223372036854775807/\(0<n->a=aa ⟨b,off,ae⟩)/\(∀i,i<n->(es i).length=k)/\∀i,i<n->∀j c,(es i)[j]?=aa c->∃u,M b (off+i*k+j)=aa u/\Rd M u c:=by
 cases h with
 |@sl a _ cap _ _ _ b off f e g l hk ha hm hr=>exact⟨a,cap,b,off,rfl,e,g,ha,hk,λi hi j c hj=>⟨_,hm i hi j c hj,hr i hi j c hj⟩⟩
def Rd.Tk{a:Option Addr}{cap k:Nat}(h1:n<=cap)(h2:cap<=9223372036854775807)(f:0<n->a=aa ⟨b,off,ae⟩)(e:∀i,i<n->(es i).length=k)(g:∀i,i<n->∀j c,(es i)[j]?=aa c->∃u,M b (off+i*k+j)=aa u/\Rd M u c):Rd M (.slice a n cap) (.sl af k n es):=by
 refine .sl b off (λi j=>(M b (off+i*k+j)).getD ah) h1 h2 (λh=>by cases h) e f (λi hi j c hj=>?_) λi hi j c hj=>?_
 .grind
 grind
section
variable {X:Cx P}{d:List It}
def AK.Wh{b:List It}(φ':ι->Fr)(σ':ι->List bg)(h:(∀(i:ι)(a:Fr)(ps:List Prop),n6 a (φ' i)=aa ps->au ps->AK X N Qf (.code c::b) .normal a (σ' i))->AK X N Qf K .normal φ σ)(k:∀i,AK X N Qf (.code c::b) .normal (φ' i) (σ' i)):AK X N Qf K .normal φ σ :=
 h λi _ _ h1 h2=>AW.le (k i) (db h1 h2)
def kg.agg{ds:List D}(p q I:Nat){cs:List A}{u:ai}{k:Nat}(C:ds[p]?=aa (.e (.agg cs)))(H:cs[q]?=aa (.c (.val u)))(hl:ik σ I u k n es):kg σ ds (ds.set p (.e (.agg (cs.set q (.c (.sl af k n es)))))):=by
 intro s vs hh hr;obtain⟨L,m,r,w,J,x,y,E⟩:=hl s hh;refine⟨λb=>b∈L.bs,m,λb z=>⟨L,bP r,z⟩,w,J,x,y,?_⟩;have e1:Ext σ s σ {s with M:=m}:=⟨w,λl B L hB r=>⟨B,L,hB,r,.refl _ _⟩⟩
 have t:=hr.mono e1 hh.len;obtain⟨F,j⟩:=cp.get t;have g:p<vs.length:=by grind
 have a:=j p;rw[C,bn g]at a;obtain⟨G,o,h⟩:=a;obtain⟨v,f,i⟩:=h.get H;rw[Rd.eu (show Rd m v (.val u)from i)]at f;refine cp.setAt t (bn g) ⟨G,o,er.set h f E⟩
theorem PM.of{K:Mem->Prop}{p:Prop}(hl:σ[l]?=aa (.cj (PM K)))(h:∀M,K M->p)(s:St)(hh:aE σ s):p:=by
 have a:l<s.β.length:=by rw[hh.len];grind
 obtain⟨ch,⟨_,_,b⟩,_⟩:=hh.box l _ _ hl (bn a);grind
def eg.Tl(hT:cV P T)(l:Nat){K:Mem->Prop}{i:TI}(h:o.op=.load t x)(hi:bJ T t=aa i)(I:∀v,lq i [.c (.val v)]=aa (.one (.c (.val v))))(U:bS φ x=.e (.one (.v (.pointer (aa ⟨b,off,ae⟩)))))(hl:σ[l]?=aa (.cj (PM K)))(O:∀M,K M->∃w,M b off=aa w/\cO w=ab):eg P N o φ σ (λw:ai=>.e (.one (.v w))) (λw=>σ.set l (.cj (PM λM=>K M/\M b off=aa w))):=by
 intro s a Q hh;have u:=dh Q x;rw[U]at u;have u:=Rd.eu u;have m:l<s.β.length:=by rw[hh.len];grind
 have r:=bn m;generalize s.β[l]=L at r;obtain⟨ch,⟨h1,h2,D⟩,H,G,W⟩:=hh.box l _ L hl r;obtain⟨w,A,S⟩:=O _ D;obtain⟨cs,E,z,C⟩:∃cs E,ch b=aa (.cells cs E (0,0))/\cs[off]?=aa w:=by
  cases e:ch b with
  |none=>simp[fS,e]at A
  |some x =>
   obtain⟨cs,E,rfl⟩:=h2 b x e;exact⟨cs,E,rfl,by simpa[fS,e]using A⟩
 have B:b∈L.bs:=(G b).2 (by grind);have p:=H b _ z;obtain⟨V,J⟩:=hh.jX (l:=l) (H':=PM λM=>K M/\M b off=aa w) (L':=L) (w':=s.w) hl r rfl (bh _) (λ_ _ _=>rfl) (λ_ R=>.inl R) ⟨ch,⟨h1,h2,D,A⟩,H,G⟩ rfl rfl rfl;have f:∀(j:Nat) (v:ai),[w][j]?=aa v->s.w.cell? ⟨b,off+j,ae⟩=aa v:=by
  intro j v hj
  match j,hj with
  |0,hj=>cases hj;simp[aP,p,C]
 obtain⟨v,g,y⟩:=iV (s:=⟨s.β.set l L,s.M,s.w,s.own⟩) (σ:=σ.set l (.cj (PM λM=>K M/\M b off=aa w))) (P:=P) (hT t i hi) (b:=b) (off:=off) (vs:=[w]) (cs:=[.c (.val w)]) f ⟨Rd.val S,ak⟩ (I w);have g:(loadVar t ⟨b,off,ae⟩).run P s.w=.ok v s.w:=g;have e1:aq a.eval o=(do pure (.value (<-loadVar t ⟨b,off,ae⟩))):=by simp[aq,h,u,Instr.loadAt,bt]
 refine⟨w,.value v,_,v,by rw[e1];simp[g],.inl rfl,y,V,J,λF k=>?_⟩;rw[e1]at k;have q:F∈(loadVar t ⟨b,off,ae⟩).events P s.w #[]:=by simpa[g]using k
 obtain⟨j,hj,rfl⟩:=gy (hT t i hi) (n:=1) (λj hj=>⟨w,f j w (by grind)⟩) (by have:=lu (I w);grind) F q;exact j9 (bP r) B
def Mem.up(M:Mem)(b o:Nat)(u:ai):Mem:=λc a=>if c=b/\a=o then aa u else M c a
def eg.Hy(hT:cV P T)(l:Nat){K:Mem->Prop}{c:C}{i:TI}(h:o.op=.store t x y)(hi:bJ T t=aa i)(hs1:i.size=1)(hx:bS φ x=.e (.one (.v (.pointer (aa ⟨b,off,ae⟩)))))(hy:bS φ y=.e (.one (.c c)))(hg:vP c=ab)(hl:σ[l]?=aa (.cj (PM K)))(hK:∀M,K M->∃w,M b off=aa w):eg P N o φ σ (ι:={u:ai // ∀M,Rd M u c}) (λ_=>.any) (λu=>σ.set l (.cj (PM λM'=>∃M,K M/\M'=M.up b off u.1))):=by
 intro s a V hh;have Q:=dh V x;rw[hx]at Q;have Q:=Rd.eu Q;have k:=mf (show kR (bS φ y)=aa [.c c] by rw[hy];rfl) (dh V y);generalize B:(a.eval y).cells.toList=vs at k;obtain⟨u,rfl⟩:∃u,vs=[u]:=by
  match vs,k with
  |[u],_=>grind
  |_::_::_,h=>exact h.2.elim
 have hu:Rd s.M u c:=k.1;have U:∀M,Rd M u c:=λM=>qQ hg hu;have A:l<s.β.length:=by rw[hh.len];grind
 have S:=bn A;generalize s.β[l]=L at S;obtain⟨ch,⟨h1,h2,W⟩,h4,h5,h6⟩:=hh.box l _ L hl S;obtain⟨w,Z⟩:=hK _ W;obtain⟨cs,E,F,V4⟩:∃cs E,ch b=aa (.cells cs E (0,0))/\cs[off]?=aa w:=by
  cases e:ch b with
  |none=>simp[fS,e]at Z
  |some x =>
   obtain⟨cs,E,rfl⟩:=h2 b x e;exact⟨cs,E,rfl,by simpa[fS,e]using Z⟩
 have O:b∈L.bs:=(h5 b).2 (by grind);have m:=h4 b _ F;have p:off<cs.size:=by grind
 have z:=run_storeCells_at P b off E [u] 0 cs s.w m (show off+0+1<=cs.size from p) k.cell;simp only[iO,iK]at z;have R:=setRow_heap s.w b cs (cs.toList.take off++[u]++cs.toList.drop (off+1)).toArray E (0,0) m;generalize I:(cs.toList.take off++[u]++cs.toList.drop (off+1)).toArray=Yi at z R;have H:∀j,Yi[j]?=if j=off then aa u else cs[j]?:=λj=>by rw[<-I];grind
 have D:∀f G,fS (λf=>if f=b then aa (.cells Yi E (0,0))else ch f) f G=(fS ch).up b off u f G:=λf G=>by
  by_cases e:f=b
  .subst e;simp only[fS,b6,Mem.up,aF,F,H]
  .simp only[fS,aY e,Mem.up,e,false_and,cg]
 obtain⟨t1,t2⟩:=hh.jX (l:=l) (H':=PM λM'=>∃M,K M/\M'=M.up b off u) (L':=L) (w':=s.w.setRow b Yi) hl S rfl (by simp)
  (λf n hn=>setRow_other s.w b f _ (λe=>hn (by grind))) (λf n=>.inl n)
  ⟨λf=>if f=b then aa (.cells Yi E (0,0))else ch f,⟨h1,λf o n=>by
   grind,_,W,funext λf=>funext λG=>D f G⟩,λf o n=>by
   grind[setRow_other],λf=>by grind⟩ rfl rfl rfl
 have J:(a.eval y).cells.size=i.size:=by grind
 have e1:aq a.eval o=(do storeVar t ⟨b,off,ae⟩ (a.eval y);pure .skip):=by simp[aq,h,Q,Instr.storeAt,bt]
 refine⟨⟨u,U⟩,.skip,_,ah,?_,.inr ⟨rfl,rfl⟩,ak,t1,t2,?_⟩
 .simp[aq,h,Q,Instr.storeAt,bt,storeVar,(hT t i hi).run_sizeOf,J,B,z]
 .intro Y g;rw[e1]at g;have q:Y∈(storeCells ⟨b,off,ae⟩ (a.eval y).cells.toList).events P s.w #[]:=by
   simp only[storeVar,aR,(hT t i hi).run_sizeOf,J,aV,events_sizeOf,dz,fx,cg,bT,cu,Sem.events_pure]at g;generalize(storeCells ⟨b,off,ae⟩ (a.eval y).cells.toList).run P s.w=r at g;cases r with
   |ok v w'=>simpa using g
   |halt x w'=>simpa using g
  rw[B]at q;rcases dT [u] 0 cs s.w #[] m (show off+0+1<=cs.size from p) k.cell Y q with Om|⟨j,_,_,rfl⟩
  .grind
  .exact j7 (bP S) O (h6 b O _)
end
def Cw(p:Bs):ai:=.string ⟨p.toArray⟩
def Ul{a:ByteArray}{p:Bs}(h:a.data.toList=p):Value.string a=Cw p:=by subst h;simp[Cw]
theorem str_val{p:Bs}(h:Rd M v (.str p)):v=Cw p/\cO v=ab:=by
 cases h with
 |str e _=>exact⟨Ul e,rfl⟩
section
variable {X:Cx P}{x:Nat->D}{k:Bool->Bool->Bool->List bg}{g b f:Nat}
abbrev vk(k:Bool->Bool->Bool->List bg)(g b f:Nat):(Nat->Bool)->List bg:=λD=>k (D g) (D b) (D f)
def mb{D:Nat->Bool}(h:aw j i=af):eC i D j=D j:=by simp only[eC,h]
def Bc{D:Nat->Bool}:eC i D i=ab:=by simp only[eC,j4]
def en.q3(h1:aw g i=af)(h2:aw b i=af)(e:aw f i=af)(h:∀a c d,OA X N all o (kC all φ x i) (k a c d) (x i) (k a c d)):en X N all φ x (vk k g b f) i o:=by intro D _ _;show OA X N all o _ (k (D g) (D b) (D f)) _ (k (eC i D g) (eC i D b) (eC i D f));rw[mb h1,mb h2,mb e];exact h _ _ _
def en.q3o(hT:cV P T)(hC:bH X CT)(e:au obs)(h:∀a c d,xj T CT [] all (kC all φ x i) (k a c d) o=aa (x i,ae,obs):=by intro a c d;cases a<;>cases c<;>cases d<;>rfl)(h1:aw g i=af:=by rfl)(h2:aw b i=af:=by rfl)(j:aw f i=af:=by rfl):en X N all φ x (vk k g b f) i o:=.q3 h1 h2 j λa c d=>OA.eval hT hC (h a c d) e
def en.J3(hT:cV P T)(hC:bH X CT)(h:∀a c d,xj T CT [] all (kC all φ x i) (k a c d) o=aa (x i,ae,[]):=by intro a c d;cases a<;>cases c<;>cases d<;>rfl)(h1:aw g i=af:=by rfl)(h2:aw b i=af:=by rfl)(e:aw f i=af:=by rfl):en X N all φ x (vk k g b f) i o:=.q3o (obs:=[]) hT hC ak h h1 h2 e
def en.e1(hi:aw g i=ab)(h1:aw g i=ab)(h2:aw b i=af)(j:aw f i=af)(h:∀c d,OA X N all o (kC all φ x i) (k af c d) (x i) (k ab c d)):en X N all φ x (vk k g b f) i o:=by intro D _ a;have e:=bY hi;subst e;show OA X N all o _ (k (D g) (D b) (D f)) _ (k (eC g D g) (eC g D b) (eC g D f));rw[Bc,mb h2,mb j,a g (.inl rfl)];exact h _ _
def en.e2(hi:aw b i=ab)(h1:aw g i=af)(l:aw f i=af)(j:gd all f i=ab)(d:aw b i=ab)(h:∀a,OA X N all o (kC all φ x i) (k a af af) (x i) (k a ab af)):en X N all φ x (vk k g b f) i o:=by intro D _ c;have e:=bY hi;subst e;show OA X N all o _ (k (D g) (D b) (D f)) _ (k (eC b D g) (eC b D b) (eC b D f));rw[Bc,mb h1,mb l,c b (.inl rfl),c f (.inr j)];exact h _
def en.e3(hi:aw f i=ab)(h1:aw g i=af)(h2:aw b i=af)(d:gd all i b=ab)(c:aw f i=ab)(h:∀a,OA X N all o (kC all φ x i) (k a ab af) (x i) (k a ab ab)):en X N all φ x (vk k g b f) i o:=by intro D hT hF;have e:=bY hi;subst e;show OA X N all o _ (k (D g) (D b) (D f)) _ (k (eC f D g) (eC f D b) (eC f D f));rw[Bc,mb h1,mb h2,hF f (.inl rfl),hT b d];exact h _
end
def dZ(g:Nat)(E:av)(v:ai):ai->(Nat->Option Obj)->Prop:=λu a=>u=.pointer (aa ⟨g,0,ae⟩)/\a g=aa (.cells #[v] E (0,0))/\∀b,b≠g->a b=ae
section
variable {X:Cx P}
def OA.K8(hT:cV P T){t g:Nat}(l:Nat){i:TI}(A:rH all φ o=ab)(F:o.op=.load t (.global g))(hl:dF l σ=aa (.cj (dZ g E v)))(hi:bJ T t=aa i)(K:cO v=ab)(I:lq i [.c (.val v)]=aa (.one (.c (.val v)))):
  OA X N all o φ σ (.e (.one (.c (.val v)))) σ:=by
 intro s a f hh b k cs S q rest hb hq hK;refine se hb hq (fQ A _ _ _ f) λh p=>?_;have d:=hh.rely p;have hB:=b7 hl;have C:l<h.β.length:=by rw[d.len];grind
 have D:=bn C;generalize h.β[l]=L at D;obtain⟨ch,⟨h1,h2,Q⟩,O,M,R⟩:=d.box l _ L hB D;have H:=O g _ h2;have J:g∈L.bs:=(M g).2 (by grind)
 have m:a.eval (.global g)=.pointer (aa ⟨g,0,ae⟩):=rfl;have B:er σ h [v] [.c (.val v)]:=⟨Rd.val K,ak⟩;obtain⟨u,r,z⟩:=iV (s:=h) (σ:=σ) (P:=P) (hT t i hi) (b:=g) (off:=0) (vs:=[v]) (cs:=[.c (.val v)]) (e:=.one (.c (.val v))) (λj w hj=>by
  simp only[aP,H]
  grind) B I
 refine⟨.value u,h,u,by simp[aq,F,m,Instr.loadAt,bt,r],.inl rfl,⟨⟨σ,σ,d,d,.refl _ _⟩,?_⟩,hK u h z d p.stepW⟩;intro G x;have y:G∈(loadVar t ⟨g,0,ae⟩).events P h.w #[]:=by
  have e:aq a.eval o=(do pure (.value (<-loadVar t ⟨g,0,ae⟩))):=by simp[aq,F,m,Instr.loadAt,bt]
  rw[e]at x;simpa[r]using x
 obtain⟨j,hj,rfl⟩:=gy (hT t i hi) (n:=1) (λj hj=>⟨v,by simp only[aP,H];grind⟩) (by have:=lu I;grind) G y;exact j9 (bP D) J
end
section
variable {X:Cx P}
def Kq{P:aJ}(X:Cx P)(N:Nat)(all:List aC)(φ:Fr)(σ:List bg)(x:Nat->D):List D->List aC->Nat->Prop
 |_::r,o::l,i=>OA X N all o (kC all φ x i) σ (x i) σ/\Kq X N all φ σ x r l (i+1)
 |[],_,_=>True
 |_::_,[],_=>False
theorem Kq.get{all:List aC}{x:Nat->D}:∀{r:List D}{l:List aC}{k:Nat},Kq X N all φ σ x r l k->∀i o,l[i]?=aa o->i<r.length->OA X N all o (kC all φ x (k+i)) σ (x (k+i)) σ
 |[],_,_,_,i,o,_,hi=>absurd hi (fy _)
 |_::r,[],_,h,i,o,_,hi=>h.elim
 |d::r,p::l,k,h,0,o,a,_=>by cases a;exact h.1
 |d::r,p::l,k,h,i+1,o,a,hi=>by have:=Kq.get h.2 i o a (by grind);grind
def AK.calm(g:P.follows Departure.mixedOrders=ab)(xs:List D)(d:Nat){id:Nat}(a:m7 ops.toList=ab)(b:tb ops.toList 0=ab)(c:oS N ops.toList=ab)(e:bD xs.length ops.toList.length=ab)(Rf:xb ops.toList d xs.length (ops.toList.length-xs.length)=ab)(one:Kq X N ops.toList φ σ (λi=>xs.getD i .any) xs ops.toList 0)(k:AK X N Qf (.ops ops.toList (ops.toList.drop xs.length)::K) .normal (On ops.toList φ λi=>xs.getD i .any) σ):AK X N Qf (.code (.region id ops ab)::K) .normal φ σ:=by
 have e:=dr e;have:=AW.reg (X:=X) (N:=N) (φ:=φ) (σ:=σ) g (all:=ops.toList) xs.length (λ_:Unit=>λi=>xs.getD i .any) (λ_ _=>σ) (λ_ _=>True) () ak rfl a b c e
  (λi h1 h2 L j l k hk=>qT j (uk (um Rf i h1 (by omega)) k hk) l)
  (λf D _ _ i h1 h2=>by grind)
  (λf D i o _ h hi _ _ _=>by have h1:=one.get i o h hi;rw[bF]at h1;exact h1.sH ⟨(),λ_ _=>rfl,ak⟩ rfl rfl)
  (Q:=AK X N Qf K) (λf D _ _=>k) id
 rw[pJ]at this;exact this
end
section
variable {X:Cx P}
def IW{b:aX}{k:List Item}{a:Act}{rest:List Nat}{f:aH}(hb:b.kind≠.early)(ho:ops[i]?=aa o)(hw:bl o (yielded ops a.tmps)=ab)(hh:aE σ s)(q:∀e,aE σ e->(aq a.eval o).run P e.w=.ok (.enter f vs.toArray) e.w/\fj e ((aq a.eval o).events P e.w #[]))(K:ek X f cv σs res σ1)(A:cp σ s vs (fX ks cv))(T:lP ks.length cv=ab)(n:kh ks σ=aa σs)(hp:cC σs=ab)(M:∀j,cC (σ1 j)=ab)(hn:dK ks=ab)(Q:∀j,ks.length<=(σ1 j).length)(h:∀j v s',du (dY ks (σ1 j) σ) s' v (iE (ks++ln σ.length ((σ1 j).length-ks.length)) (res j))->aE (dY ks (σ1 j) σ) s'->c6 σ s (dY ks (σ1 j) σ) s'->fL X S (G (b.aT (a.put o.dst v) (.inRegion ops rest::k)) cs) s'):
  fL X S (G (b.aT a (.inRegion ops (i::rest)::k)) cs) s:=by obtain⟨_,y⟩:=K;refine .next rfl λe O=>?_;have hr:=X.iS O;have g:=hh.rely hr;obtain⟨m,r⟩:=wZ (l':=e.β) n g.len;obtain⟨C,W⟩:=g.sub n r hp hn;have p:cp σ e vs (fX ks cv):=A.mono hr.stepW.ext hh.len;have E:cp σs {e with β:=m,own:=w9 e m} vs cv:=(p.sub (s:=e) n r T).mono (σ:=σs) (s:={e with β:=m}) (σ':=σs) (s':={e with β:=m,own:=w9 e m}) ⟨λ_ _ _ h=>h,λl B L hB hL=>⟨B,L,hB,hL,.refl _ _⟩⟩ C.len;refine⟨_,e,_,pM ho hw hb (q e g).1,⟨⟨σ,σ,g,g,.refl _ _⟩,fj.seen (q e g).2⟩,.ghost W (y _ vs E C S _ λj fr v s2 hl J t V=>?_)⟩;refine qR (cs:=cs) (c:=b.aT a (.inRegion ops (i::rest)::k)) t hl λs3 u=>?_;have I:=t.rely u;have F:=V.trans u.stepW;obtain⟨s4,Y,hr4,ZF,Z,R,U,H⟩:=frame g n r hn (M j) I F (Q j) (J.mono u.stepW.ext t.len);refine .ghost (eH.back g I F Y R U H) ?_;have N:=kO (b:=b) (a:=a) (k:=k) ops i rest v;rw[ho]at N;simp only[oB]at N;rw[N];exact h j v s4 hr4 ZF (hr.stepW.trans Z)
def dZ.cell(hT:cV P T){l t g:Nat}{E:av}{v:ai}{i:TI}(hl:dF l σ=aa (.cj (dZ g E v)))(hi:bJ T t=aa i)(F:cO v=ab)(q:lq i [.c (.val v)]=aa (.one (.c (.val v)))){s:St}(hh:aE σ s):
  (loadVar t ⟨g,0,ae⟩).run P s.w=.ok v s.w/\fj s ((loadVar t ⟨g,0,ae⟩).events P s.w #[]):=by
 have hB:=b7 hl;have k:l<s.β.length:=by rw[hh.len];grind
 have m:=bn k;generalize s.β[l]=L at m;obtain⟨ch,⟨h1,h2,G⟩,r,A,H⟩:=hh.box l _ L hB m;have p:=r g _ h2;have C:g∈L.bs:=(A g).2 (by grind)
 have h:er σ s [v] [.c (.val v)]:=⟨Rd.val F,ak⟩;obtain⟨u,f,o⟩:=iV (s:=s) (σ:=σ) (P:=P) (hT t i hi) (b:=g) (off:=0) (vs:=[v]) (cs:=[.c (.val v)]) (e:=.one (.c (.val v))) (λj w hj=>by
  simp only[aP,p]
  grind) h q
 have y:u=v:=Rd.eu o;subst y;refine⟨f,λB a=>?_⟩;obtain⟨j,hj,rfl⟩:=gy (hT t i hi) (n:=1) (λj hj=>⟨u,by simp only[aP,p];grind⟩) (by have:=lu q;grind) B a;exact j9 (bP m) C
def OA.zL(hT:cV P T){t g:Nat}(l:Nat){x:aB}{i:TI}(p:rH all φ o=ab)(B:o.op=.load t x)(w:bS φ x=.e (.one (.c (.val (.pointer (aa ⟨g,0,ae⟩))))))(hl:dF l σ=aa (.cj (dZ g E v)))(hi:bJ T t=aa i)(u:cO v=ab)(A:lq i [.c (.val v)]=aa (.one (.c (.val v)))):
  OA X N all o φ σ (.e (.one (.c (.val v)))) σ:=by
 intro s a f hh b k cs S q rest hb hq hK;refine se hb hq (fQ p _ _ _ f) λr m=>?_;have j:=hh.rely m;have h:=dh f x;rw[w]at h;have h:=Rd.eu (fe h);obtain⟨h1,h2⟩:=dZ.cell hT hl hi u A j;have e:aq a.eval o=(do pure (.value (<-loadVar t ⟨g,0,ae⟩))):=by simp[aq,B,h,Instr.loadAt,bt]
 refine⟨.value v,r,v,by rw[e];simp[h1],.inl rfl,⟨⟨σ,σ,j,j,.refl _ _⟩,?_⟩,hK v r (Rd.val u) j m.stepW⟩;intro y n;rw[e]at n;exact h2 y (by simpa[h1]using n)
def Hz(t:av)(p:Addr)(a:String):Builtin.ssaWrapNilChk_ #[t] t #[.pointer (aa p),strVal "",strVal a]=pure (.pointer (aa p)):=rfl
def rJ(P:aJ)(σ:List bg)(T:av)(v:ai)(name:String)(f:aH)(r:ai):Prop:=∀s,aE σ s->∀n,(Go.method (n+1) T v name).run P s.w=.ok (f,r) s.w/\fj s ((Go.method (n+1) T v name).events P s.w #[])
def rJ.ptr{a:av}{name:String}{f:aH}{i:TypeInfo}{m:Go.Method}{e:av}(hi:P.info? a=aa i)(b:i.methods.find? (·.name==name)=aa m)(g:m.path=#[])(c:m.func=aa (f,ab))(h:P.underlying a=aa (.pointer e)):rJ P σ a v name f v:=by
 intro s hh n;have h1:∀w,(typeInfo a).run P w=.ok i w:=λw=>by simp[typeInfo,hi]
 have h2:∀w,(underlying a).run P w=.ok (.pointer e) w:=λw=>by simp[underlying,h]
 unfold Go.method;constructor
 .simp only[bT,h1,b,g,c,cu,follow,dE,receiverAt,h2];rfl
 .have:∀es,((do pure (f,<-receiverAt a (.val v) ab (if m.path.isEmpty then aa ((name.splitOn ".").getLastD name)else ae))):Sem (aH×ai)).events P s.w es=es:=λes=>by simp[receiverAt,h2,Place.get]
  simp only[aR,bT,h1,b,g,c,cu,aV,follow,dE,Sem.events_pure,receiverAt,h2,events_typeInfo,events_underlying,Place.get];exact .nil
def rJ.deref(hT:cV P T){g:Nat}{b:av}{name:String}{f:aH}{i:TypeInfo}{m:Go.Method}{k:TI}(hi:P.info? b=aa i)(h:i.methods.find? (·.name==name)=aa m)(o:m.path=#[])(j:m.func=aa (f,af))(B:P.underlying b=aa (.pointer t))(hl:dF l σ=aa (.cj (dZ g E v)))(e:bJ T t=aa k)(q:cO v=ab)(A:lq k [.c (.val v)]=aa (.one (.c (.val v)))):rJ P σ b (.pointer (aa ⟨g,0,ae⟩)) name f v:=by
 intro s hh n;have h1:∀w,(typeInfo b).run P w=.ok i w:=λw=>by simp[typeInfo,hi]
 have h2:∀w,(underlying b).run P w=.ok (.pointer t) w:=λw=>by simp[underlying,B]
 obtain⟨p,r⟩:=dZ.cell hT hl e q A hh;have u:m.path.isEmpty=ab:=by grind
 unfold Go.method;constructor
 .simp only[bT,h1,h,o,j,cu,follow,dE,receiverAt,h2,Place.get];simp[Hz,asAddr,p]
 .intro y a;refine r y ?_;simp only[aR,bT,h1,h,o,j,cu,aV,follow,dE,Sem.events_pure,receiverAt,h2,events_typeInfo,events_underlying,Place.get]at a;simpa[Hz,asAddr,p]using a
def pX{a:aB->ai}{x:aB}{b:Array aB}{name:String}(g:o.op=.call {callee:=.invoke x name,args:=b,argTypes:=jU}){c:av}{u:ai}(i:a x=.iface c u):
  aq a o=callMethod (.iface c u) name (b.toList.map a).toArray:=by
 have e:#[a x]++b.map a=(.iface c u::b.toList.map a).toArray:=by grind
 have h:(Value.iface c u::b.toList.map a).toArray.extract 1 (Value.iface c u::b.toList.map a).toArray.size=(b.toList.map a).toArray:=by grind
 have f:aq a o=invoke (.fn (.method name) #[]) (#[a x]++b.map a):=by simp only[aq,g];rfl
 rw[f,e];show callMethod (.iface c u) name ((Value.iface c u::b.toList.map a).toArray.extract 1 (Value.iface c u::b.toList.map a).toArray.size)=_;rw[h]
def AK.lb{W:av}{name:String}{f:aH}{u r:ai}(A:ek X f cv σs res σ1)(ks:List Nat)(hm:rJ P σ W u name f r)(R:rH all φ o=ab){x:aB}{G:Array aB}(V:o.op=.call {callee:=.invoke x name,args:=G,argTypes:=jU})(hx:bS φ x=.e (.one (.c (.ifs W (.val u)))))(hr:cO r=ab)(y:m6 (.e (.one (.c (.val r)))::G.toList.map (bS φ))=fX ks cv)(Q:lP ks.length cv=ab)(O:kh ks σ=aa σs)(hp:cC σs=ab)(J:∀j,cC (σ1 j)=ab)(hn:dK ks=ab)(L:∀j,bD ks.length (σ1 j).length=ab)(hN:gm N o.dst=ab)(k:∀j,AK X N Qf (.ops all rest::K) .normal (kQ o.dst (iE (ks++ln σ.length ((σ1 j).length-ks.length)) (res j)) φ) (dY ks (σ1 j) σ)):AK X N Qf (.ops all (o::rest)::K) .normal φ σ:=by
 intro s a C hh b kk css S idx hb jO hQ;cases idx with
 |nil=>exact jO.elim
 |cons i idx =>
 have F:=dh C x;rw[hx]at F;have F:=fe F;generalize Y:a.eval x=v at F;cases F with
 |@ifs _ u' _ h1 hc =>
  have hu:=Rd.eu h1;subst hu;obtain⟨fn,H,U,I⟩:=A.1;have h:fn.name≠ "runtime.NumGoroutine":=by grind
  have g:fn.body≠ae:=by grind
  obtain⟨n,B⟩:∃n,P.types.size+Made.depth=n+1:=⟨P.types.size+Made.depth-1,by unfold Made.depth;omega⟩
  have m:∀w,(program:Sem aJ).run P w=.ok P w:=λw=>by simp[program,Sem.run]
  have E:∀w es,(program:Sem aJ).events P w es=es:=λw es=>by simp[program,Sem.events,Sem.runT]
  have l:cp σ s (r::G.toList.map a.eval) (fX ks cv):=by rw[<-y];exact pQ (σ:=σ) (s:=s) ⟨Rd.val hr,ma (dh C) G.toList⟩
  refine IW (ks:=ks) hb jO.1 (fQ R _ _ _ C) hh (vs:=r::G.toList.map a.eval) (λs1 T=>?_) A l Q O hp J hn (λj=>dr (L j)) λj v s' mT jP st=>?_
  .obtain⟨Z,m2⟩:=hm s1 T n;constructor
   .rw[pX V Y];simp[callMethod,m,B,Z,callFunc,H,h,g]
   .intro ev p;refine m2 ev ?_;rw[pX V Y]at p;simpa[callMethod,m,E,B,Z,callFunc,H,h,g]using p
  refine k j s' _ ?_ jP b kk css S idx hb jO.2 λM σ2 s2 a2 q d h2 m0=>hQ M σ2 s2 a2 q d h2 (st.trans m0);cases hd:o.dst with
  |none=>exact C.mono st hh.len
  |some t=>exact(C.mono st hh.len).put (gU hN t hd) mT
def bL.Dg{x:aB}(h:o.op=.nilCheck x){p:Addr}(f:η x=.e (.one (.c (.val (.pointer (aa p)))))):bL P o η σ (.e (.one (.c (.val (.pointer (aa p)))))) σ:=by refine .quiet λs b hh hr=>?_;have h1:=hr x;rw[f]at h1;have a:=Rd.eu (fe h1);exact⟨b x,by simp[aq,h,a],h1,by simp[aq,h,a]⟩
def bL.Dh(hT:cV P T){x:aB}(h:o.op=.load t x){cap f k:Nat}{xs:List ai}{G:TI}{e:E1}(hx:η x=.e (.one (.c (.val (.pointer (aa ⟨b,off,ae⟩))))))(U:off=i*k+f)(hl:σ[l]?=aa (.cj (gk E k (.row b cap) n xs)))(N:gE k n es xs)(hi:bJ T t=aa G)(Y:lq G ((fZ f (es i)).map A.c)=aa e)(J:i<n):bL P o η σ (.e e) σ:=by
 refine .oM λs ρ hh hr=>?_;have H:=hr x;rw[hx]at H;have H:=Rd.eu (fe H);have u:l<s.β.length:=by rw[hh.len];grind
 have R:=bn u;generalize s.β[l]=L at R;obtain⟨ch,Z,p,O,XX⟩:=hh.box l _ L hl R;obtain⟨zs,XZ,q,V⟩:=gk.lookup Z;have Q:b∈L.bs:=(O b).2 (by grind);have C:=p b _ q;let g:Nat->ai:=λj=>xs.getD (i*k+j) ah;have S:∀j c,(fZ f (es i))[j]?=aa c->xs[i*k+(f+j)]?=aa (g (f+j))/\Rd s.M (g (f+j)) c:=by intro j c hj;rw[mF,pK]at hj;obtain⟨v,v1,v2⟩:=N.at' i J (f+j) c hj;grind
 have I:=FH (σ:=σ) (s:=s) (g:=g) (ds:=fZ f (es i)) (m:=f) (λj c hj=>(S j c hj).2);have a:∀(j:Nat) (v:ai),((bc (fZ f (es i)).length).map λj=>g (f+j))[j]?=aa v->s.w.cell? ⟨b,off+j,ae⟩=aa v:=by
  intro j v hj;simp only[nA]at hj;by_cases B:j<(fZ f (es i)).length
  .simp[B]at hj;subst hj;have h2:=(S j _ (bn B)).1;simp only[aP,C];grind
  grind
 obtain⟨v,y,K⟩:=iV (s:=s) (σ:=σ) (P:=P) (hT t G hi) (b:=b) (off:=off) (e:=e) a I Y;have e1:aq ρ o=(do pure (.value (<-loadVar t ⟨b,off,ae⟩))):=by simp[aq,h,H,Instr.loadAt,bt]
 refine⟨v,by rw[e1];simp[y],K,λW r=>?_⟩;rw[e1]at r;have F:W∈(loadVar t ⟨b,off,ae⟩).events P s.w #[]:=by simpa[y]using r
 obtain⟨j,hj,rfl⟩:=gy (hT t G hi) (n:=(fZ f (es i)).length) (λj hj=>⟨_,a j (g (f+j)) (by grind)⟩) (by have:=lu Y;grind) W F;exact j9 (bP R) Q
def bL.Tm(hT:cV P T){x:aB}(h:o.op=.slice t x ae (aa y) ae){i:TI}(p:bJ T t=aa i)(C:i.desc=.slice E)(G:bJ T E=aa ie){cap:Nat}{kd:IntKind}{m:Int}(s:η x=.e (.one (.c (.val (.slice (aa ⟨b,0,ae⟩) n cap)))))(A:η y=.e (.one (.c (.int kd m))))(j:n<=cap)(F:0<=m)(h1:m<=n):bL P o η σ (.e (.one (.c (.val (.slice (aa ⟨b,0,ae⟩) m.toNat cap))))) σ:=by
 refine .quiet λst ρ hh hr=>?_;have g:=hr x;rw[s]at g;have g:=Rd.eu (fe g);have hl:sd η ae=aa ae:=rfl;have q:sd η (aa y)=aa (aa m):=by simp[sd,A]
 have r:au (gb n ae (aa m)):=⟨F,h1⟩;obtain⟨B,u,v⟩:=mv (P:=P) (isS:=ab) j (gJ hr hl) (gJ hr q) r st.w;have a:=(hT t i p).run_underlying (w:=st.w);rw[C]at a;have f:(bk ab n cap ae (aa (ρ y)) ae).run P st.w=.ok (0,m.toNat,cap) st.w:=B;have k:=nR (P:=P) (isS:=ab) j (gJ hr hl) (gJ hr q) r st.w;have l:∀es,(bk ab n cap ae (aa (ρ y)) ae).events P st.w es=es:=k;refine⟨_,?_,Rd.val rfl,?_⟩
 .simp[aq,h,g,Instr.sliceAt,a,Instr.slice,f,(hT E ie G).run_sizeOf,dw]
 .simp[aq,h,g,Instr.sliceAt,a,Instr.slice,f,l]
def HA{s:St}:∀{vs:List ai}{cs:List C},vs.length=cs.length->∀f:Nat->ai,(∀j,j<vs.length->vs[j]?=aa (f j))->(∀(j:Nat)(c:C),cs[j]?=aa c->Rd s.M (f j) c)->er σ s vs (cs.map A.c)
 |[],[],_,_,_,_=>trivial
 |[],_::_,b,_,_,_=>by grind
 |_::_,[],b,_,_,_=>by grind
 |v::vs,c::cs,b,f,e,a=>⟨by have:=e 0 (by simp);cases this;exact a 0 c rfl,HA (by grind) (λj=>f (j+1)) (λj g=>by grind) λj h g=>a (j+1) h (by grind)⟩
def bL.Bu(hT:cV P T){x:aB}{l:av}(h:o.op=.typeAssert x l t af){i:TI}(hi:bJ T t=aa i)(p:xu i.desc=af){cs:List C}(q:η x=.e (.one (.c (.J0 t cs)))):bL P o η σ (.e (.agg (cs.map A.c))) σ:=by
 refine .quiet λs u hh hr=>?_;have h1:=hr x;rw[q]at h1;replace h1:=fe h1;generalize j:u x=vx at h1;have n:=(hT t i hi).run_underlying (w:=s.w);have b:∀m,i.desc≠.interface m:=by intro m e;rw[e]at p;cases p
 cases h1 with
 |@J0 t' vs cs hl f r k =>
  have a:(Instr.typeAssert (.iface t (.agg vs.toArray)) l t af).run P s.w=.ok (.agg vs.toArray) s.w/\(Instr.typeAssert (.iface t (.agg vs.toArray)) l t af).events P s.w #[]=#[]:=by
   constructor
   .unfold Instr.typeAssert;simp only[bT,n,cu];cases g:i.desc<;>first|(exact absurd g (b _))|simp
   .unfold Instr.typeAssert;simp only[n,aR,aV,events_underlying];cases g:i.desc<;>first|(exact absurd g (b _))|simp
  exact⟨.agg vs.toArray,by simp only[aq,h,j,bT,a.1,cu,dE],⟨vs,rfl,HA hl f r k⟩,by simp only[aq,h,j,aR,a.1,a.2,aV,Sem.events_pure]⟩
def AK.Lu(hT:cV P T)(l:Nat){t g:Nat}{x:aB}{u:ai}{i:TI}(h:o.op=.store t x y)(hi:bJ T t=aa i)(F:i.size=1)(hx:bS φ x=.e (.one (.c (.val (.pointer (aa ⟨g,0,ae⟩))))))(Y:bS φ y=.e (.one (.c (.val u))))(R:u.cells=#[u])(W:cO u=ab)(hl:dF l σ=aa (.cj (dZ g E v)))(Z:o.guard=ae)(hN:gm N o.dst=ab)(kk:AK X N Qf (.ops all rest::K) .normal (kQ o.dst .any φ) (σ.set l (.cj (dZ g E u)))):AK X N Qf (.ops all (o::rest)::K) .normal φ σ:=by
 refine AK.hand (ι:=Unit) (λ_=>.any) (λ_=>σ.set l (.cj (dZ g E u))) Z hN (λs a Q hh=>?_) λ_=>kk;have H:=dh Q x;rw[hx]at H;have H:=Rd.eu (fe H);have m:=dh Q y;rw[Y]at m;have m:=Rd.eu (fe m);have hl:=b7 hl;have r:l<s.β.length:=by rw[hh.len];grind
 have I:=bn r;generalize s.β[l]=L at I;obtain⟨ch,⟨h1,h2,h3⟩,q,J,M⟩:=hh.box l _ L hl I;have A:g∈L.bs:=(J g).2 (by grind);have k:=q g _ h2;have G:∀w∈[u],w.oneCell'=ab:=λw hw=>by
  have:cO w=ab:=by grind
  exact this
 have O:=run_storeCells_at P g 0 E [u] 0 #[v] s.w k (by simp) G;have B:∀b,b≠g->(s.w.setRow g #[u]).heap[b]?=s.w.heap[b]?:=λb f=>setRow_other s.w g b _ f;have U:=setRow_heap s.w g #[v] #[u] E (0,0) k;obtain⟨t1,V⟩:=hh.jX (l:=l) (H':=dZ g E u) (L':=L) (w':=s.w.setRow g #[u]) hl I rfl (by simp)
  (λb f hn=>B b (by grind)) (λb f=>.inl f)
  ⟨λb=>if b=g then aa (.cells #[u] E (0,0))else ae,⟨h1,by simp,λb f=>by grind⟩,λb o f=>by
   grind,λb=>by grind⟩ rfl rfl rfl
 have e1:aq a.eval o=(do storeVar t ⟨g,0,ae⟩ u;pure .skip):=by simp[aq,h,H,m,Instr.storeAt,bt]
 have n:(storeCells ⟨g,0,ae⟩ [u] 0).run P s.w=.ok () (s.w.setRow g #[u]):=O;refine⟨(),.skip,_,ah,?_,.inr ⟨rfl,rfl⟩,ak,t1,V,?_⟩
 .rw[e1];simp[storeVar,(hT t i hi).run_sizeOf,R,F,n]
 .intro S p;rw[e1]at p;have C:S∈(storeCells ⟨g,0,ae⟩ [u] 0).events P s.w #[]:=by simp only[storeVar,aR,(hT t i hi).run_sizeOf,F,R,aV,events_sizeOf,dz,fx,cg,bT,cu,Sem.events_pure]at p;simpa[n]using p
  rcases dT [u] 0 #[v] s.w #[] k (by simp) G S C with Om|⟨j,_,_,rfl⟩
  .grind
  .exact j7 (bP I) A (M g A _)
def AK.Lv(t l:Nat)(A k:Nat){G:Nat}(I:look φ t=.e (.one (.ptr l 0)))(hl:dF l σ=aa (.cells E [.c (.sl ab G 0 es)]))(kk:∀g a0,AK X N Qf (.code c::K) .normal ((t,.e (.one (.v (.pointer (aa ⟨g,0,ae⟩)))))::φ) (σ.set l (.cj (dZ g E (lK (.nil a0) 0)))++[.cj (gk A k (.nil a0) 0 [])])):AK X N Qf (.code c::K) .normal φ σ:=by
 refine AW.uh (ι:=Nat×Option Addr) (φ':=λq=>(t,.e (.one (.v (.pointer (aa ⟨q.1,0,ae⟩)))))::φ) (σ':=λq=>σ.set l (.cj (dZ q.1 E (lK (.nil q.2) 0)))++[bg.cj (gk A k (.nil q.2) 0 [])]) (λs a p hh=>?_) λ(q:Nat×Option Addr)=>kk q.1 q.2;have hl:=b7 hl;have i:l<s.β.length:=by rw[hh.len];grind
 have m:=bn i;generalize s.β[l]=L at m;obtain⟨g,vs,rfl,V,r,U⟩:=hh.box l _ L hl m
 match vs,r with
 |[v],⟨R,_⟩ =>
  obtain⟨a0,cap,J,rfl,_,_,C,_,_⟩:=(show Rd s.M v (.sl ab G 0 es)from R).flat;have j:cap=0:=C rfl;subst j;obtain⟨H,q2⟩:=hh.gT (M':=s.M) (w':=s.w) (B':=.cj (dZ g E (lK (.nil a0) 0))) (L':=⟨.pointer (aa ⟨g,0,ae⟩),[g]⟩) hl m rfl (bh _) (λ_ _ _=>rfl) (λ_ _ _ _=>rfl) (λ_ _ _ h=>h) hh.mem (λb f=>⟨.inl f,hh.lt _ (bP m) b f⟩) rfl rfl rfl
   ⟨λb=>if b=g then aa (.cells #[.slice a0 0 0] E (0,0))else ae,⟨rfl,by simp[lK],λb f=>by grind⟩,λb o f=>by
    grind,λb=>by by_cases e:b=g<;>simp[e],λb f o=>by grind⟩
  obtain⟨O,Q⟩:=H.iy (B:=.cj (gk A k (.nil a0) 0 [])) (L:=⟨.nilFunc,[]⟩) (.refl _ _) rfl H ⟨λ_=>ae,⟨rfl,by simp,by simp,rfl,rfl⟩,by simp,by simp,by simp⟩ (by simp);have st:=q2.trans Q;refine⟨(g,a0),{s with β:=s.β.set l ⟨.pointer (aa ⟨g,0,ae⟩),[g]⟩++[⟨.nilFunc,[]⟩]},rfl,⟨p.size,p.defers.imp λ_ h1=>h1.mono st.ext,λu=>?_⟩,O,st⟩;simp only[look];cases f:aw t u with
  |false=>exact(p.slot u).mono st.ext hh.len
  |true =>
   have e:=bY f;subst e;have h1:=p.slot t;rw[I]at h1;obtain⟨_,S,T,n,F,y⟩:=(h1:gH σ s _ (.ptr l 0));rw[m]at n;cases n;cases F;rw[y];exact Rd.val rfl
theorem OA.xG{ι:Type}{x:D}{σ':List bg}(c:o.guard=ae)(h:eg P N o φ σ (λ_:ι=>x) λ_=>σ'):OA X N all o φ σ x σ':=λs a f hh b kk cs S i rest hb hi hK=>m9.xG c h s a f hh b kk cs S i rest hb hi λ_=>hK
section
variable {x:Nat->D}{s2:Bool->Bool->List bg}{z d:Nat}
abbrev xV(s2:Bool->Bool->List bg)(z d:Nat):(Nat->Bool)->List bg:=λD=>s2 (D z) (D d)
def en.q2(h1:aw z i=af)(h2:aw d i=af)(h:∀a b,OA X N all o (kC all φ x i) (s2 a b) (x i) (s2 a b)):en X N all φ x (xV s2 z d) i o:=by
 intro D _ _;have e1:eC i D z=D z:=by simp only[eC,h1]
 have e2:eC i D d=D d:=by simp only[eC,h2]
 grind
def en.Wi(hT:cV P T)(hC:bH X CT)(h:∀a b,xj T CT [] all (kC all φ x i) (s2 a b) o=aa (x i,ae,obs):=by intro a b;cases a<;>cases b<;>rfl)(h1:aw z i=af:=by rfl)(h2:aw d i=af:=by rfl)(c:au obs:=by simp only[au,aD];omega):en X N all φ x (xV s2 z d) i o:=.q2 h1 h2 λa b=>OA.eval hT hC (h a b) c
def en.RD(hT:cV P T)(hC:bH X CT)(h:∀a b,xj T CT [] all (kC all φ x i) (s2 a b) o=aa (x i,ae,[]):=by intro a b;cases a<;>cases b<;>rfl)(h1:aw z i=af:=by rfl)(h2:aw d i=af:=by rfl):en X N all φ x (xV s2 z d) i o:=.Wi (obs:=[]) hT hC h h1 h2 ak
def en.fw(h1:aw z i=af)(h2:aw d i=af)(c:gd all z i=ab)(a:gd all d i=ab)(h:OA X N all o (kC all φ x i) (s2 af af) (x i) (s2 af af)):en X N all φ x (xV s2 z d) i o:=by
 intro D _ b;have e1:eC i D z=D z:=by simp only[eC,h1]
 have e2:eC i D d=D d:=by simp only[eC,h2]
 grind
def en.sA(h2:aw d z=af)(a:gd all d z=ab)(h:OA X N all o (kC all φ x z) (s2 af af) (x z) (s2 ab af)):en X N all φ x (xV s2 z d) z o:=by
 intro D _ b;have e1:eC z D z=ab:=by simp only[eC,j4]
 have e2:eC z D d=D d:=by simp only[eC,h2]
 grind
def en.sB(h1:aw z d=af)(a:gd all d z=ab)(h:OA X N all o (kC all φ x d) (s2 ab af) (x d) (s2 ab ab)):en X N all φ x (xV s2 z d) d o:=by
 intro D hT hF;have e1:eC d D z=D z:=by simp only[eC,h1]
 have e2:eC d D d=ab:=by simp only[eC,j4]
 grind
end
end
section
variable {X:Cx P}
def qa{S:Type}(X:Cx P)(N:Nat)(Qf:Post)(K:List It)(I:S->Prop)(a:S->Fr)(st:S->List bg)(b:S->Nat)(c:Nat)(x:S):Post:=λe φ' σ'=>match e with
 |.normal=>∃y n,c<=n/\I y/\b y<b x/\oO φ' (a y)/\De n (a y)=ab/\∃σ1 rest,σ'=σ1++rest/\σ1.length=n/\(te n σ1=ab/\lX rest=ab)/\Fw σ1 (st y)
 |e=>AK X N Qf K e φ' σ'
def AK.RA{S:Type}(F:Nat)(I:S->Prop)(fr:S->Fr)(st:S->List bg)(w:S->Nat)(x:S){qs:List Prop}(p:n6 φ (fr x)=aa ps)(Q:au ps)(o:pE σ (st x)=aa qs)(hq:au qs)(hn:σ.length=F)(Z:I x)(round:∀x,I x->AK X N (qa X N Qf K I fr st w F x) [.code c] .normal (fr x) (st x)):AK X N Qf (.code (.loop c)::K) .normal φ σ:=by
 intro s a J hh b kk cs SS hb hQ;have g:=ic o hq;obtain⟨k,A,_⟩:=g s hh;refine tz (λm a' s'=>∃y,I y/\cx N (st y) s' (fr y) a'/\aE (st y) s'/\c6 σ s (st y) s'/\w y=m) ?_ ?_ ⟨x,Z,(J.le (db p Q)).bs g hh,k,A.nN hh,rfl⟩
 .rintro n a' s' ⟨y,B,l,j,d,e⟩;exact⟨st y,j,λs1 h1=>⟨y,B,l.rely h1 j,j.rely h1,d.trans h1.stepW,e⟩⟩
 rintro m a' s' ⟨y,B,l,j,d,rfl⟩ U;refine round y B s' a' l j b (.inLoop c::kk) cs SS hb ?_;intro e R σ2 s2 a2 q H h2 m0;cases e with
 |normal =>
  obtain⟨z,nz,M,W,u,f,T,σ1,rest,rfl,O,⟨Y,v⟩,D⟩:=q;have G:=h2.drop (by grind);obtain⟨E,i,C⟩:=D _ G;have r:=H.le f;have V:eH s2 (s2.cut σ1.length):=⟨rfl,λ_ _ _ h=>h,λ_ _ _=>rfl,h2.mem,λb hb=>hb.imp id λ⟨L,hL,hb⟩=>⟨L,fN hL,hb⟩⟩
  refine .ghost V (U a2 (s2.cut σ1.length) (w z) u ⟨z,W,⟨r.size,r.defers.imp λ_ h1=>(h1.drop v).mono i.ext,λt=>C _ _ ((r.slot t).drop (n7 (by grind)))⟩,E,?_,rfl⟩);exact((d.trans m0).drop (by omega)).trans (i.nN G)
 |_=>exact ends.cons (λ_ _=>rfl) (by simp) (hQ _ _ _ _ _ q H h2 (d.trans m0))
def AK.Bl{S:Type}{h:Nat}{I:S->Prop}{fr:S->Fr}{st:S->List bg}{b:S->Nat}{x:S}{k:List It}(n:Nat)(y:S){qs:List Prop}(i:h<=n)(d:n6 φ (fr y)=aa ps)(m:au ps)(g:De n (fr y)=ab)(f:xK n σ=ab)(c:pE (σ.take n) (st y)=aa qs)(j:au qs)(a:te n (σ.take n)=ab)(l:I y)(e:b y<b x):
  AK X N (qa X N Qf k I fr st b h x) [] .normal φ σ :=
 ⟨y,n,i,l,e,db d m,g,σ.take n,σ.drop n,(jJ n σ).symm,by grind[Nat.le_of_ble_eq_true,qZ],⟨a,(qZ f).2⟩,ic c j⟩
def AK.Bm{S:Type}{b:Nat}{I:S->Prop}{fr:S->Fr}{st:S->List bg}{c:S->Nat}{x:S}{id:Nat}{f a d:List It}(h1:ko id f=ae)(h2:ko id a=aa d)(k:AK X N Qf d .normal φ σ):
  AK X N (qa X N Qf a I fr st c b x) (.code (.exit id)::f) .normal φ σ :=
 AW.mono (AK.leave (A:=λφ' σ'=>qa X N Qf a I fr st c b x .normal φ' σ') h1 h2 k) λe φ' σ' q=>by
  have key:∀(K:List It) e,AK X N (λe φ' σ'=>match e with
    |.normal=>qa X N Qf a I fr st c b x .normal φ' σ'
    |e=>AK X N Qf a e φ' σ') K e φ' σ'->AK X N (qa X N Qf a I fr st c b x) K e φ' σ':=by
   have e:(λe φ' σ'=>match e with
    |.normal=>qa X N Qf a I fr st c b x .normal φ' σ'
    |e=>AK X N Qf a e φ' σ')=qa X N Qf a I fr st c b x:=by funext e φ' σ';cases e<;>rfl
   grind
  exact key _ _ q
end
def kp(φ:Fr)(ks:List Nat):Fr:=ks.map λk=>(k,look φ k)
section
variable {X:Cx P}
def AK.tv{S:Type}(n:Nat)(ks:List Nat)(I:S->Prop)(fr:S->Fr)(st:S->List bg)(d:S->Nat)(x:S){qs:List Prop}(b:n6 φ (kp φ ks++fr x)=aa ps)(h:au ps)(a:pE σ (st x)=aa qs)(f:au qs)(e:σ.length=n)(g:I x)(round:∀x,I x->AK X N (lQ X N Qf K I (λx=>kp φ ks++fr x) st d n x) [.code c] .normal (kp φ ks++fr x) (st x)):AK X N Qf (.code (.loop c)::K) .normal φ σ :=
 .cJ n I (λx=>kp φ ks++fr x) st d x b h a f e g round
end
inductive Tr where
 |nil
 |nd (l:Tr) (a b:Int) (r:Tr)
def nQ(E:av):Tr->ai->(Nat->Option Obj)->Prop
 |.nil,v,c=>v=.pointer ae/\∀b,c b=ae
 |.nd l a b r,v,c=>∃x e d cl cr,v=.pointer (aa ⟨x,0,ae⟩)/\(bE .i64 a/\bE .i64 b)/\nQ E l e cl/\nQ E r d cr/\c x=aa (.cells #[.int .i64 a,.int .i64 b,e,d] E (0,0))/\cl x=ae/\cr x=ae /\
   (∀y o,cl y=aa o->cr y=ae/\c y=aa o)/\(∀y o,cr y=aa o->c y=aa o)/\∀y o,c y=aa o->y=x∨cl y=aa o∨cr y=aa o
def nQ.cell{t:Tr}{ch:Nat->Option Obj}(h:nQ E t v ch):cO v=ab:=by
 cases t with
 |nil=>rw[h.1];rfl
 |nd=>obtain⟨_,_,_,_,_,rfl,_⟩:=h;rfl
section
def aE.HE{T:Nat->Prop}(hh:aE σ s)(g:s'.w=s.w)(m:s'.M=s.M)(n:s'.own=s.own)(i:s'.β.length=σ'.length)(t:σ.length<=σ'.length)(out:∀l,l<σ.length->¬T l->σ'[l]?=σ[l]?/\s'.β[l]?=s.β[l]?)(j:∀(l:Nat) (L':Loc),(T l∨σ.length<=l)->s'.β[l]?=aa L'->∀b∈L'.bs,∃(k:Nat) (L:Loc),T k/\s.β[k]?=aa L/\b∈L.bs)(eO:∀(l l':Nat) (L L':Loc),(T l∨σ.length<=l)->(T l'∨σ.length<=l')->s'.β[l]?=aa L->s'.β[l']?=aa L'->∀b∈L.bs,b∈L'.bs->l=l')(box:∀l B L,T l->σ[l]?=aa B->s.β[l]?=aa L->∃B' L',σ'[l]?=aa B'/\s'.β[l]?=aa L'/\gR B L B' L')(ok:Ext σ s σ' s'->∀l B L,(T l∨σ.length<=l)->σ'[l]?=aa B->s'.β[l]?=aa L->eG σ' s' B L):aE σ' s'/\Step σ s σ' s':=by
 have hl:=hh.len;have p:∀(l:Nat) (B:bg) (L:Loc),σ[l]?=aa B->s.β[l]?=aa L->∃B' L',σ'[l]?=aa B'/\s'.β[l]?=aa L'/\gR B L B' L':=λl B L hB hL=>by
  by_cases h:T l
  .grind
  .obtain⟨h1,h2⟩:=out l (bX.1 hB).1 h;exact⟨B,L,h1.trans hB,h2.trans hL,.refl _ _⟩
 have ex:Ext σ s σ' s':=⟨λb o v h=>m▸h,p⟩
 have cls:∀(l:Nat) (L':Loc),s'.β[l]?=aa L'->(T l∨σ.length<=l)∨(l<σ.length/\¬T l/\s.β[l]?=aa L'):=λl L' h=>by grind
 have a:∀(l:Nat) (L':Loc),s'.β[l]?=aa L'->∀b∈L'.bs,∃(k:Nat) (L:Loc),s.β[k]?=aa L/\b∈L.bs:=λl L' h b c=>by grind
 have x:∀(l l':Nat) (L L':Loc),(T l∨σ.length<=l)->¬T l'->s'.β[l]?=aa L->s.β[l']?=aa L'->∀b∈L.bs,b∈L'.bs->False:=λl l' L L' h1 h2 hL fC b c e=>by obtain⟨k,K,f,q2,q3⟩:=j l L h1 hL b c;exact h2 (hh.eO k l' K L' q2 fC b q3 e▸f)
 refine⟨⟨λb o v h=>?_,i,λl B L hB hL=>?_,λl l' L L' hL fC b c e=>?_,λL hL b c=>?_,λb c=>?_⟩,⟨?_,?_,ex.mem,?_,λL' fC b c=>?_,p,?_,?_,?_,n⟩⟩
 .rw[m]at h;rw[g];exact hh.mem b o v h
 .rcases cls l L hL with h1|⟨h1,h2,r⟩
  .grind
  .rw[(out l h1 h2).1]at hB;exact(hh.box l B L hB r).carry ex hl λb _=>⟨by rw[g],λo=>by rw[m]⟩
 .rcases cls l L hL with h1|⟨_,h1,h2⟩<;>rcases cls l' L' fC with u|⟨_,u,q⟩
  .grind
  .grind
  .grind
  .exact hh.eO l l' L L' h2 q b c e
 .obtain⟨l,d,rfl⟩:=dD hL;obtain⟨k,K,f,q2⟩:=a l _ (bn d) b c;rw[g];exact hh.lt K (bP f) b q2
 .rw[n]at c;refine⟨g▸(hh.own b c).1,λL hL OE=>?_⟩;obtain⟨l,d,rfl⟩:=dD hL;obtain⟨k,K,f,q2⟩:=a l _ (bn d) b OE;exact(hh.own b c).2 K (bP f) q2
 .grind
 .grind
 .grind
 .obtain⟨l,d,rfl⟩:=dD fC;obtain⟨k,K,f,q2⟩:=a l _ (bn d) b c;grind
 all_goals rw[g]
def aE.LC(hh:aE σ s){B B':bg}{L L':Loc}{Bs:List bg}{a:List Loc}(hB:σ[l]?=aa B)(p:s.β[l]?=aa L)(h:gR B L B' L')(c:a.length=Bs.length)(sub:∀M∈L'::a,∀b∈M.bs,b∈L.bs)(e:(L'::a).Pairwise λM N=>∀b∈M.bs,b∉N.bs)(ok:∀s':St,s'.w=s.w->s'.M=s.M->s'.β=s.β.set l L'++a->eG (σ.set l B'++Bs) s' B' L'/\∀(i:Nat) (X:bg) (Y:Loc),Bs[i]?=aa X->a[i]?=aa Y->eG (σ.set l B'++Bs) s' X Y):
  aE (σ.set l B'++Bs) {s with β:=s.β.set l L'++a}/\Step σ s (σ.set l B'++Bs) {s with β:=s.β.set l L'++a}:=by
 have hl:=hh.len;have d:l<σ.length:=(bX.1 hB).1;have j:=jL.1 e;have at':∀(k:Nat) (K:Loc),(k=l∨σ.length<=k)->(s.β.set l L'++a)[k]?=aa K->(k=l/\K=L')∨(σ.length<=k/\a[k-σ.length]?=aa K):=λk K hk hK=>by grind
 refine aE.HE (T:=λk=>k=l) hh rfl rfl rfl (by grind) (by simp) (λk hk hkl=>?_) (λk K hk hK y m=>?_) (λk k' K n hk VD hK ZK y m f=>?_) (λk X K hk hX hK=>?_) (λex k X K hk hX hK=>?_)
 .grind
 .grind
 .rcases at' k K hk hK with⟨h1,rfl⟩|⟨h1,h2⟩<;>rcases at' k' n VD ZK with⟨o,rfl⟩|⟨o,g⟩
  .omega
  .grind
  .grind
  .obtain⟨a1,a2⟩:=bX.1 h2;obtain⟨c1,c2⟩:=bX.1 g;grind[List.pairwise_iff_getElem]
 .grind
 grind
def zN:Tr->Nat->A
 |.nil,_=>.c .iD
 |.nd ..,n=>.ref n
def wJ(E:av):Tr->List bg
 |.nil=>[]
 |.nd l a b r=>[.cj (nQ E (.nd l a b r))]
def J8(bs:List Nat):Tr->ai->(Nat->Option Obj)->List Loc
 |.nil,_,_=>[]
 |.nd ..,v,c=>[⟨v,bs.filter λy=>(c y).isSome⟩]
def Cv:Tr->Nat->List bg->List bg
 |.nil,_,σ=>σ
 |.nd ..,i,σ=>σ.set i .dead
def aE.LD(hh:aE σ s){lt rt:Tr}{a b:Int}(hB:σ[l]?=aa (.cj (nQ E (.nd lt a b rt)))):
  ∃s',s'.w=s.w/\(∃x L,s.β[l]?=aa L/\L.v=.pointer (aa ⟨x,0,ae⟩)/\s'.β[l]?=aa ⟨L.v,[x]⟩)/\aE (σ.set l (.cells E [.c (.int .i64 a),.c (.int .i64 b),zN lt σ.length,zN rt (σ.length+(wJ E lt).length)])++(wJ E lt++wJ E rt)) s' /\
   Step σ s (σ.set l (.cells E [.c (.int .i64 a),.c (.int .i64 b),zN lt σ.length,zN rt (σ.length+(wJ E lt).length)])++(wJ E lt++wJ E rt)) s':=by
 have q:l<σ.length:=(bX.1 hB).1;have e:l<s.β.length:=by rw[hh.len];grind
 have n:=bn e;generalize s.β[l]=L at n;obtain⟨ch,⟨x,g,j,cl,m,e1,⟨z,H⟩,h1,h2,N,T,S,F,V,R⟩,C,d,Q⟩:=hh.box l _ L hB n;have r:=hh.len;have I:x∈L.bs:=(d x).2 (by grind);refine⟨{s with β:=s.β.set l ⟨.pointer (aa ⟨x,0,ae⟩),[x]⟩++(J8 L.bs lt g cl++J8 L.bs rt j m)},rfl,⟨x,L,n,e1,?_⟩,hh.LC hB n (show _=_ from e1.symm) ?_ ?_ ?_ λs' hw zj hβ=>?_⟩
 .grind
 .cases lt<;>cases rt<;>rfl
 .intro M zj y f;rcases eb.1 zj with rfl|zj
  .grind
  .rcases fz.1 zj with zj|zj
   .cases lt with
    |nil=>cases zj
    |nd=>rw[J8,fO]at zj;grind
   .cases rt with
    |nil=>cases zj
    |nd=>rw[J8,fO]at zj;grind
 .refine jL.2 ⟨λM zj y f K=>?_,?_⟩
  .rw[fO]at f;subst f;rcases fz.1 zj with zj|zj
   .cases lt with
    |nil=>cases zj
    |nd=>rw[J8,fO]at zj;grind
   .cases rt with
    |nil=>cases zj
    |nd=>rw[J8,fO]at zj;grind
  .cases lt<;>cases rt<;>simp only[J8,mV,iw,sS,jL,List.Pairwise.nil,fO,forall_eq,oF,false_implies,implies_true,aD]
   grind[Option.isSome_iff_exists]
 .have G:∀y o,cl y=aa o->ch y=aa o:=λy o h=>(F y o h).2;have U:eG (σ.set l (.cells E [.c (.int .i64 a),.c (.int .i64 b),zN lt σ.length,zN rt (σ.length+(wJ E lt).length)])++(wJ E lt++wJ E rt)) s' (.cj (nQ E lt)) ⟨g,L.bs.filter λy=>(cl y).isSome⟩ :=
   ⟨cl,h1,λy o h=>by grind,λy=>⟨λh=>(gN.1 h).2,λh=>gN.2 ⟨(d y).2 (by grind[Option.isSome_iff_exists]),h⟩⟩,λy f o=>by rw[zj];grind⟩
  have O:eG (σ.set l (.cells E [.c (.int .i64 a),.c (.int .i64 b),zN lt σ.length,zN rt (σ.length+(wJ E lt).length)])++(wJ E lt++wJ E rt)) s' (.cj (nQ E rt)) ⟨j,L.bs.filter λy=>(m y).isSome⟩ :=
   ⟨m,h2,λy o h=>by grind,λy=>⟨λh=>(gN.1 h).2,λh=>gN.2 ⟨(d y).2 (by grind[Option.isSome_iff_exists]),h⟩⟩,λy f o=>by rw[zj];grind⟩
  have c1:=h1.cell;have c2:=h2.cell;have u:s'.w.heap[x]?=aa (.cells (List.toArray [.int .i64 a,.int .i64 b,g,j]) E (0,0)):=by grind
  have D:∀o,s'.M x o=ae:=λo=>by rw[zj];grind
  have p:∀k,(s.β.set l ⟨.pointer (aa ⟨x,0,ae⟩),[x]⟩++(J8 L.bs lt g cl++J8 L.bs rt j m))[σ.length+k]?=(J8 L.bs lt g cl++J8 L.bs rt j m)[k]?:=λk=>by grind
  have e2:∀k,(σ.set l (.cells E [.c (.int .i64 a),.c (.int .i64 b),zN lt σ.length,zN rt (σ.length+(wJ E lt).length)])++(wJ E lt++wJ E rt))[σ.length+k]?=(wJ E lt++wJ E rt)[k]?:=λk=>by grind
  refine⟨⟨x,_,rfl,u,⟨Rd.int z,Rd.int H,?_,?_,ak⟩,D⟩,?_⟩
  .cases lt with
   |nil=>rw[h1.1];exact Rd.iD
   |nd=>exact⟨λB hB=>by have A:=(e2 0).symm.trans hB;cases A;rfl,_,by rw[hβ];exact p 0,rfl,c1⟩
  .cases rt with
   |nil=>rw[h2.1];exact Rd.iD
   |nd =>
    cases lt with
    |nil=>exact⟨λB hB=>by rw[e2]at hB;cases hB;rfl,_,by rw[hβ];exact p 0,rfl,c2⟩
    |nd=>exact⟨λB hB=>by rw[e2]at hB;cases hB;rfl,_,by rw[hβ];exact p 1,rfl,c2⟩
  .intro i X Y t J;cases lt<;>cases rt<;>simp only[wJ,J8,mV,iw,sS,List.getElem?_nil]at t J
   .cases t
   .grind
   .grind
   grind
def zO(b:aE σ s){t:Tr}(r:gH σ s v (zN t i))(hi:t≠.nil->σ[i]?=aa (.cj (nQ E t))):
  ∃c bs,nQ E t v c/\(∀y o,c y=aa o->s.w.heap[y]?=aa o)/\(∀y,y∈bs↔(c y).isSome=ab)/\(∀y∈bs,∀o,s.M y o=ae)/\(match t with|.nil=>bs=[]|.nd ..=>s.β[i]?=aa ⟨v,bs⟩):=by
 cases t with
 |nil =>
  have r:Rd s.M v .iD:=r;cases r;exact⟨λ_=>ae,[],⟨rfl,λ_=>rfl⟩,by simp,by simp,by simp,rfl⟩
 |nd =>
  obtain⟨_,L,a,rfl,_⟩:=r;obtain⟨c,e,f,q2,d⟩:=b.box i _ L (hi nofun) a;exact⟨c,L.bs,e,f,q2,d,a⟩
def Tv:Tr->Nat->ai->List Loc->List Loc
 |.nil,_,_,a=>a
 |.nd ..,i,v,a=>a.set i ⟨v,[]⟩
def aE.jR(hh:aE σ s){lt rt:Tr}{a b:Int}(hB:σ[l]?=aa (.cells E [.c (.int .i64 a),.c (.int .i64 b),zN lt i,zN rt j]))(hi:lt≠.nil->σ[i]?=aa (.cj (nQ E lt)))(hj:rt≠.nil->σ[j]?=aa (.cj (nQ E rt)))(G:lt≠.nil->rt≠.nil->i≠j):
  ∃s',s'.w=s.w/\(∃L,s.β[l]?=aa L/\∃L',s'.β[l]?=aa L'/\L'.v=L.v)/\aE (Cv rt j (Cv lt i (σ.set l (.cj (nQ E (.nd lt a b rt)))))) s'/\Step σ s (Cv rt j (Cv lt i (σ.set l (.cj (nQ E (.nd lt a b rt)))))) s':=by
 have N:l<σ.length:=(bX.1 hB).1;have O:=hh.len;have u:l<s.β.length:=by omega
 have C:=bn u;generalize s.β[l]=L at C;obtain⟨x,vs,rfl,h1,h2,Y⟩:=hh.box l _ L hB C
 match vs,h2 with
 |[S,R,p,q],⟨F,I,W,U,_⟩ =>
 obtain⟨cl,g,a1,a2,a3,a4,a5⟩:=zO hh W hi;obtain⟨r,m,d1,d2,d3,d4,d5⟩:=zO hh U hj;have F:Rd s.M S (.int .i64 a):=F;have I:Rd s.M R (.int .i64 b):=I;cases F with|int ra =>
 cases I with|int rb =>
 have xl:x∉g:=λh=>by
  cases lt with
  |nil=>grind
  |nd=>have:=hh.eO l i _ _ C a5 x (by simp) h;grind
 have xr:x∉m:=λh=>by
  cases rt with
  |nil=>grind
  |nd=>have:=hh.eO l j _ _ C d5 x (by simp) h;grind
 have lr:∀y∈g,y∉m:=λy h V=>by
  cases lt with
  |nil=>grind
  |nd =>
   cases rt with
   |nil=>grind
   |nd=>exact G nofun nofun (hh.eO i j _ _ a5 d5 y h V)
 have A:cl x=ae:=by cases h:cl x with|none=>rfl|some o=>grind
 have z:r x=ae:=by cases h:r x with|none=>rfl|some o=>grind
 have J:∀y o,cl y=aa o->r y=ae:=λy o h=>by
  cases h2:r y with
  |none=>rfl
  |some o2=>grind
 have ok:∀(σ':List bg) (s':St),s'.w=s.w->s'.M=s.M->eG σ' s' (.cj (nQ E (.nd lt a b rt))) ⟨.pointer (aa ⟨x,0,ae⟩),x::(g++m)⟩:=λσ' s' hw hM=>by
  refine⟨λy=>if y=x then aa (.cells #[.int .i64 a,.int .i64 b,p,q] E (0,0))else(cl y).or (r y),⟨x,p,q,cl,r,rfl,⟨ra,rb⟩,a1,d1,bo rfl,A,z,λy o h=>⟨J y o h,?_⟩,λy o h=>?_,λy o h=>?_⟩,λy o h=>?_,λy=>?_,λy f o=>?_⟩
  .grind
  .have:y≠x:=by grind
   dsimp only;rw[aY this,h];cases h2:cl y with
   |none=>rfl
   |some o2=>grind
  .by_cases e:y=x
   .grind
   .dsimp only at h;rw[aY e]at h;cases h2:cl y with
    |none=>grind
    |some o2=>grind
  .rw[hw];by_cases e:y=x
   .grind
   .dsimp only at h;rw[aY e]at h;cases h2:cl y with
    |none=>grind
    |some o2=>grind
  .grind
  .rw[hM];grind
 refine⟨{s with β:=Tv rt j q (Tv lt i p (s.β.set l ⟨.pointer (aa ⟨x,0,ae⟩),x::(g++m)⟩))},rfl,?_⟩
 classical
 have il:lt≠.nil->i<σ.length/\i≠l:=λh=>⟨(bX.1 (hi h)).1,λe=>by grind⟩
 have Z:rt≠.nil->j<σ.length/\j≠l:=λh=>⟨(bX.1 (hj h)).1,λe=>by grind⟩
 have n:s.β[l]?=aa ⟨.pointer (aa ⟨x,0,ae⟩),[x]⟩:=C;let T:Nat->Prop:=λk=>k=l∨(lt≠.nil/\k=i)∨(rt≠.nil/\k=j);have D:∀k,(Cv rt j (Cv lt i (σ.set l (.cj (nQ E (.nd lt a b rt))))))[k]?=if k=l then aa (.cj (nQ E (.nd lt a b rt)))else if(lt≠.nil/\k=i)∨(rt≠.nil/\k=j)then aa .dead else σ[k]?:=λk=>by cases lt<;>cases rt<;>simp only[Cv,List.getElem?_set,List.length_set]<;>grind
 have d:∀k,(Tv rt j q (Tv lt i p (s.β.set l ⟨.pointer (aa ⟨x,0,ae⟩),x::(g++m)⟩)))[k]?=if k=l then aa ⟨.pointer (aa ⟨x,0,ae⟩),x::(g++m)⟩else if rt≠.nil/\k=j then aa ⟨q,[]⟩else if lt≠.nil/\k=i then aa ⟨p,[]⟩else s.β[k]?:=λk=>by cases lt<;>cases rt<;>simp only[Tv,List.getElem?_set,List.length_set]<;>grind
 have kV:∀(t:Tr) (i:Nat) (l:List bg),(Cv t i l).length=l.length:=λt i l=>by cases t<;>simp[Cv]
 have xY:∀(t:Tr) (i:Nat) (v:ai) (l:List Loc),(Tv t i v l).length=l.length:=λt i v l=>by cases t<;>simp[Tv]
 have eL:∀y∈g,lt≠.nil/\s.β[i]?=aa ⟨p,g⟩:=λy f=>by grind
 have eR:∀y∈m,rt≠.nil/\s.β[j]?=aa ⟨q,m⟩:=λy f=>by grind
 refine⟨⟨_,n,_,(d l).trans (bo rfl),rfl⟩,aE.HE (T:=T) hh rfl rfl rfl (by grind) (by grind) (λk hk hT=>?_) (λk K hk hK y f=>?_) (λk k' K K' hk VD hK ZK y f Q=>?_) (λk B K hk kG hK=>?_) (λ_ k B K hk kG hK=>?_)⟩
 .grind
 .rw[d]at hK;split at hK
  .cases hK;rcases eb.1 f with rfl|f
   .grind
   .rcases fz.1 f with f|f
    .grind
    grind
  .have:k<s.β.length∨s.β.length<=k:=cN _ _;grind
 .rw[d]at hK ZK;grind
 .rw[D,d];rcases hk with rfl|⟨h,rfl⟩|⟨h,rfl⟩
  .rw[n]at hK;cases hK;rw[hB]at kG;cases kG;exact⟨_,_,bo rfl,bo rfl,rfl⟩
  .have H:s.β[k]?=aa ⟨p,g⟩:=by grind
   rw[hi h]at kG;rw[H]at hK;cases kG;cases hK;grind[gR]
  .have H:s.β[k]?=aa ⟨q,m⟩:=by grind
   rw[hj h]at kG;rw[H]at hK;cases kG;cases hK;grind[gR]
 .rw[D]at kG;rw[d]at hK;split at kG
  .grind
  .split at kG
   .cases kG;trivial
   grind
def tC:Tr->C
 |.nil=>.iD
 |.nd l a b r=>.rp [.int .i64 a,.int .i64 b,tC l,tC r]
def nQ.rd{E:av}{M:Mem}:∀{t:Tr}{v:ai}{ch:Nat->Option Obj},nQ E t v ch->(∀y vs E' z,ch y=aa (.cells vs E' z)->∀o u,vs[o]?=aa u->M y o=aa u)->Rd M v (tC t)
 |.nil,_,_,h,_=>by rw[h.1];exact .iD
 |.nd l a b r,_,ch,⟨x,f,p,cl,q,e,⟨m,n⟩,h1,h2,i,_,_,k,g,_⟩,d=>by
  subst e;have A:=h1.rd (M:=M) λy vs E' z h=>d y vs E' z (k y _ h).2;have w:=h2.rd (M:=M) λy vs E' z h=>d y vs E' z (g y _ h);have s:=d x _ _ _ i;refine Rd.rp x 0 (λj=>[Value.int .i64 a,.int .i64 b,f,p].getD j ah) (λj c hj=>?_) (λj c hj=>?_)
  .match j,hj with
   |0,_|1,_|2,_|3,_=>grind
  .match j,hj with
   |0,hj=>cases hj;exact Rd.int m
   |1,hj=>cases hj;exact Rd.int n
   |2,hj=>grind
   |3,hj=>grind
def aE.Bv(hh:aE σ s){t:Tr}(hB:σ[l]?=aa (.cj (nQ E t))):
  ∃s',s'.w=s.w/\s'.β=s.β/\(∀L,s.β[l]?=aa L->Rd s'.M L.v (tC t))/\aE (σ.set l .dead) s'/\Step σ s (σ.set l .dead) s':=by
 have i:l<σ.length:=(bX.1 hB).1;have g:=hh.len;have j:=bn (show l<s.β.length by omega);generalize s.β[l]=L at j;obtain⟨ch,x,h1,h2,A⟩:=hh.box l _ L hB j;let M':Mem:=λy o=>match ch y with|some (.cells vs _ _)=>vs[o]?|_=>s.M y o
 have d:∀y,y∉L.bs->∀o,M' y o=s.M y o:=λy f o=>by grind
 have m:∀y o v,s.M y o=aa v->M' y o=aa v:=λy o v c=>by grind
 have st:Step σ s (σ.set l .dead) {s with M:=M'}:=by
  refine⟨bh _,λ_ _ _=>rfl,m,λy _ p o=>d y (p L (bP j)) o,λK b y f=>.inr ⟨K,b,f⟩,λk B K a b=>?_,rfl,rfl,rfl,rfl⟩;by_cases e:l=k
  .subst e;rw[hB]at a;cases a;exact⟨.dead,K,by grind,b,rfl⟩
  .exact⟨B,K,by grind,b,.refl _ _⟩
 refine⟨{s with M:=M'},rfl,rfl,λK b=>?_,⟨λy o v c=>?_,by grind,λk B K a b=>?_,hh.eO,hh.lt,hh.own⟩,st⟩
 .rw[j]at b;cases b;exact x.rd λy vs E' z f o u C=>by grind
 .by_cases f:y∈L.bs
  .have c:M' y o=aa v:=c;cases n:ch y with
   |none=>grind
   |some q =>
    have r:=h1 y q n;simp only[M',n]at c;split at c
    .rename_i vs E' z e;cases e;show s.w.cell? _=_;simp[aP,r,c]
    grind
  .exact hh.mem y o v ((d y f o).symm.trans c)
 .by_cases e:l=k
  .subst e;rw[gu i]at a;cases a;trivial
  .rw[kL e]at a;exact(hh.box k B K a b).carry st.ext g λy f=>⟨rfl,λo=>d y (λh=>e (hh.eO l k L K j b y h f)) o⟩
end
section
variable {X:Cx P}
def cx.Tw{a:Act}{t:Nat}{d:D}(f:cx N σ s φ a)(hl:s.β.length=σ.length)(st:Step σ s σ' s')(h:du σ' s' (a.tmps.getD t ah) d):cx N σ' s' ((t,d)::φ) a :=
 ⟨f.size,f.defers.imp λ_ h1=>h1.mono st.ext,λu=>by
  simp only[look];cases b:aw t u with
  |false=>exact(f.slot u).mono st.ext hl
  |true=>grind[Nat.eq_of_beq_eq_true]⟩
def AK.LD(t l:Nat){E:av}{lt rt:Tr}{a b:Int}(o:look φ t=.e (.one (.ref l)))(hl:dF l σ=aa (.cj (nQ E (.nd lt a b rt))))(kk:AK X N Qf (.code c::K) .normal ((t,.e (.one (.ptr l 0)))::φ) (σ.set l (.cells E [.c (.int .i64 a),.c (.int .i64 b),zN lt σ.length,zN rt (σ.length+(wJ E lt).length)])++(wJ E lt++wJ E rt))):AK X N Qf (.code c::K) .normal φ σ:=by refine AK.ghost (λs q f hh=>?_) kk;have i:=f.slot t;rw[o]at i;obtain⟨_,L,n,m,_⟩:=i;obtain⟨s',h1,⟨x,p,h2,g,j⟩,k,h⟩:=hh.LD (b7 hl);rw[n]at h2;cases h2;have d:l<σ.length:=(bX.1 (b7 hl)).1;refine⟨s',h1,f.Tw hh.len h ⟨λB hB=>?_,_,x,j,g,m.trans g⟩,k,h⟩;rw[jH (by grind),gu d]at hB;cases hB;rfl
def AK.jR(t l i j:Nat){E:av}{lt rt:Tr}{a b:Int}(z:look φ t=.e (.one (.ptr l 0)))(hl:dF l σ=aa (.cells E [.c (.int .i64 a),.c (.int .i64 b),zN lt i,zN rt j]))(hi:lt≠.nil->dF i σ=aa (.cj (nQ E lt)))(hj:rt≠.nil->dF j σ=aa (.cj (nQ E rt)))(g:lt≠.nil->rt≠.nil->i≠j)(kk:AK X N Qf (.code c::K) .normal ((t,.e (.one (.ref l)))::φ) (Cv rt j (Cv lt i (σ.set l (.cj (nQ E (.nd lt a b rt))))))):AK X N Qf (.code c::K) .normal φ σ:=by
 refine AK.ghost (λs q m hh=>?_) kk;have o:=m.slot t;rw[z]at o;obtain⟨_,L,x,y,F,p⟩:=o;obtain⟨s',h1,⟨D,h2,L',v,C⟩,w,n⟩:=hh.jR (b7 hl) (λh=>b7 (hi h)) (λh=>b7 (hj h)) g;rw[y]at h2;cases h2;have d:l<σ.length:=(bX.1 (b7 hl)).1;have e:(Cv rt j (Cv lt i (σ.set l (.cj (nQ E (.nd lt a b rt))))))[l]?=aa (.cj (nQ E (.nd lt a b rt)))∨(Cv rt j (Cv lt i (σ.set l (.cj (nQ E (.nd lt a b rt))))))[l]?=aa .dead:=by
  have r:(σ.set l (.cj (nQ E (.nd lt a b rt))))[l]?=aa (.cj (nQ E (.nd lt a b rt))):=gu d;have A:∀(u:Tr) (k:Nat) (f:List bg),f[l]?=aa (.cj (nQ E (.nd lt a b rt)))∨f[l]?=aa .dead->(Cv u k f)[l]?=aa (.cj (nQ E (.nd lt a b rt)))∨(Cv u k f)[l]?=aa .dead:=λu k f h=>by
   cases u with
   |nil=>exact h
   |nd=>simp only[Cv,List.getElem?_set];grind
  grind
 refine⟨s',h1,m.Tw hh.len n ⟨λB hB=>?_,L',v,?_,?_⟩,w,n⟩
 .rcases e with e|e<;>(rw[e]at hB;cases hB;rfl)
 .grind
 .rw[p];rfl
def AK.Bv(t l:Nat){E:av}{u:Tr}(j:look φ t=.e (.one (.ref l)))(hl:dF l σ=aa (.cj (nQ E u)))(kk:AK X N Qf (.code c::K) .normal ((t,.e (.one (.c (tC u))))::φ) (dY.rA l .dead σ)):AK X N Qf (.code c::K) .normal φ σ:=by rw[jA]at kk;refine AK.ghost (λs q a hh=>?_) kk;have b:=a.slot t;rw[j]at b;obtain⟨_,L,i,h,_⟩:=b;obtain⟨s',h1,_,g,f,d⟩:=hh.Bv (b7 hl);exact⟨s',h1,a.Tw hh.len d (show Rd _ _ _ from h▸g L i),f,d⟩
end
section
variable {X:Cx P}
def Yields.uv{e:Nat}{ds:List D}{res:Bool}{rest:ι->List bg}(h:Yields X e ds σ res λi=>σ1 i++rest i)(hl:∀i,(σ1 i).length=σ.length)(g:∀i (l:Nat)(B:bg),(σ1 i)[l]?=aa B->Fe (σ1 i).length σ l B):Yields X e ds σ res σ1:=by
 intro s vs l k hh ES;obtain⟨fn,tmps,a,b,h1,h2,j⟩:=h s vs l k hh ES;refine⟨fn,tmps,a,b,h1,h2,λS c cs hS=>j S c cs λi s' jP st=>?_⟩;have f:eH s' (s'.cut (σ1 i).length):=⟨rfl,λ_ _ _ h=>h,λ_ _ _=>rfl,jP.mem,λb d=>d.imp id λ⟨L,m,d⟩=>⟨L,fN m,d⟩⟩
 exact .ghost f (hS i _ (hh.Rj (hl i).symm (g i) jP) (st.drop (Nat.le_of_eq (hl i).symm)))
end
section
variable {X:Cx P}
def AK.wG(t l:Nat){cs:List A}{cc:List C}(b:look φ t=.e (.one (.ptr l 0)))(hl:dF l σ=aa (.cells E cs))(a:gX cs=aa cc)(kk:AK X N Qf (.ops all rest::K) .normal ((t,.e (.one (.c (.rp cc))))::φ) (dY.rA l .dead σ)):AK X N Qf (.ops all rest::K) .normal φ σ:=by grind[jA,AK.Lg,cx.freeze]
def oO.cons{φ':Fr}{t:Nat}{d:D}(h:look φ t=d)(r:oO φ φ'):oO φ ((t,d)::φ'):=by
 intro σ s v u a;simp only[look];cases b:aw t u with
 |false=>exact r _ _ _ _ a
 |true =>
  grind[Nat.eq_of_beq_eq_true]
end
section
variable {T:List (Nat×TI)}
def bL.Pz(hT:cV P T){w z:aB}(h:o.op=.slice t x (aa w) (aa y) (aa z)){F ie:TI}(G:bJ T t=aa F)(U:F.desc=.slice E)(X:bJ T E=aa ie){tt:Bool}{u l p:IntKind}{i j m:Int}(S:∀s v,du σ s v (η x)->Rd s.M v (.sl tt ie.size n es))(V:η w=.e (.one (.c (.int u i))))(N:η y=.e (.one (.c (.int l j))))(R:η z=.e (.one (.c (.int p m))))(K:0<=i)(Q:i<=j)(h1:j<=m)(h2:m<=n):
  bL P o η σ (.e (.one (.c (.sl af ie.size (j.toNat-i.toNat) (my i.toNat es))))) σ:=by
 refine .quiet λst ρ hh hr=>?_;have r:=S st _ (hr x);have get:∀(q:aB) (k:IntKind) (v:Int),η q=.e (.one (.c (.int k v)))->ρ q=.int k v:=λq k v D=>by have g:=hr q;rw[D]at g;replace g:=fe g;generalize ρ q=vq at g;cases g;rfl
 have C:=get w u i V;have B:=get y l j N;have A:=get z p m R;obtain⟨a,cap,vs,H,L,O,Z,hF,hm⟩:=r.flat;rw[H]at r;have d:=(hT t F G).run_underlying (w:=st.w);rw[U]at d;have em:((m.toNat:Nat):Int)=m:=sM (by omega);have Y:((j.toNat:Nat):Int)=j:=sM (by omega);have I:(bk ab n cap (aa (.int u i)) (aa (.int l j)) (aa (.int p m))).run P st.w=.ok (i.toNat,j.toNat,m.toNat) st.w:=by simp[bk,run_sliceBound (P:=P) st.w p m cap _ (by omega) (by omega),run_sliceBound (P:=P) st.w l j m.toNat _ (by omega) (by omega),run_sliceBound (P:=P) st.w u i j.toNat _ K (by omega)]
 have W:(bk ab n cap (aa (.int u i)) (aa (.int l j)) (aa (.int p m))).events P st.w #[]=#[]:=by simp[bk,run_sliceBound (P:=P) st.w p m cap _ (by omega) (by omega),run_sliceBound (P:=P) st.w l j m.toNat _ (by omega) (by omega),dW (P:=P) st.w p m cap _ (by omega) (by omega),dW (P:=P) st.w l j m.toNat _ (by omega) (by omega),dW (P:=P) st.w u i j.toNat _ K (by omega)]
 refine⟨.slice (if m.toNat=i.toNat then a else a.map (·.add (i.toNat*ie.size))) (j.toNat-i.toNat) (m.toNat-i.toNat),?_,?_,by simp[aq,h,H,C,B,A,Instr.sliceAt,d,Instr.slice,I,W]⟩
 .simp[aq,h,H,C,B,A,Instr.sliceAt,d,Instr.slice,I,(hT E ie X).run_sizeOf]
 .cases r with
  |sl b off f _ _ _ hk ha hm' Oo =>
   refine Rd.sl b (off+i.toNat*ie.size) (λq j=>f (i.toNat+q) j) (by omega) (by omega) (by simp) (λq D=>hk _ (by omega)) (λJ=>?_) (λq D j c hj=>?_) (λq D j c hj=>Oo _ (by omega) j c hj)
   .rw[aY (by omega),ha (by omega)];simp[dw]
   .have:=hm' (i.toNat+q) (by omega) j c hj;grind
end
section
variable {X:Cx P}{Q:Post}{e:Exit}
def Ou(N:Nat)(Q:Post):Post:=λe φ σ=>∃φ' σ',(∀s a,cx N σ s φ a->aE σ s->∃s':St,s'.w=s.w/\cx N σ' s' φ' a/\aE σ' s'/\Step σ s σ' s')/\Q e φ' σ'
theorem Ou.of(h:Q e φ σ):Ou N Q e φ σ:=⟨φ,σ,λs a b hh=>⟨s,rfl,b,hh,.refl _ _⟩,h⟩
def Ou.step{φ':Fr}(h:∀s a,cx N σ s φ a->aE σ s->∃s':St,s'.w=s.w/\cx N σ' s' φ' a/\aE σ' s'/\Step σ s σ' s')(k:Ou N Q e φ' σ'):Ou N Q e φ σ:=by obtain⟨c,σ2,h2,q⟩:=k;refine⟨c,σ2,λs a g hh=>?_,q⟩;obtain⟨l,e1,f,h1,b⟩:=h s a g hh;obtain⟨m,e3,j,i,d⟩:=h2 l a f h1;exact⟨m,e3.trans e1,j,i,b.trans d⟩
theorem Ou.freeze(t l:Nat){E:av}{cs:List A}{cc:List C}(f:look φ t=.e (.one (.ptr l 0)))(hl:dF l σ=aa (.cells E cs))(b:gX cs=aa cc)(k:Ou N Q e ((t,.e (.one (.c (.rp cc))))::φ) (dY.rA l .dead σ)):Ou N Q e φ σ:=by rw[jA]at k;exact .step (λs a d hh=>cx.freeze t l f hl b d hh) k
def lA.gh(h:lA X N c (Ou N Q) φ σ):lA X N c Q φ σ:=by
 intro s a n hh b k cs S o l u;refine h s a n hh b k cs S o l λe t σ2 s2 a2 q p h2 m0=>?_;obtain⟨φ',σ',r,q⟩:=q;obtain⟨s',m,j,d,st⟩:=r s2 a2 p h2;have f:=st.nN h2;have g:=u e φ' σ' s' a2 q j d (m0.trans f);have i:eH s2 s':=.of h2 d m f;cases e<;>first
  |exact g.elim
  |exact .ghost i g
  |exactλpre=>.ghost i (g pre)
  |exactλpre hp=>.ghost i (g pre hp)
def lA.norm(φ':Fr)(σ':List bg){qs:List Prop}(h1:n6 φ φ'=aa ps)(m:au ps)(h2:pE σ σ'=aa qs)(h:au qs)(k:lA X N c Q φ' σ'):lA X N c Q φ σ:=by intro s a i hh b kk cs S j f n;have d:=ic h2 h;have st:=(d s hh).2.1;exact k s a ((i.le (db h1 m)).bs d hh) (d s hh).1 b kk cs S j f λe g σ2 s2 a2 q l h2 m0=>n e g σ2 s2 a2 q l h2 ((st.nN hh).trans m0)
def lA.Ft{f:aB}{ps:Array Tmp}{assign body:Code}{F:aH}{capD:List D}{σ':ι->List bg}(d:∀s a,cx N σ s φ a->aE σ s->∃b:List ai,a.eval f=.func (.func F) #[] b.toArray/\cp σ s b capD)(c:ek X F (.e (.one (.ref σ.length))::capD) (σ++[.loop N φ {state:=.ready,pending:=ae,fn:=0,tmps:=#[],params:=ps,assign:=assign,body:=body,defers:=0}]) res σ')(hk:∀i,∃r',(σ' i)[σ.length]?=aa (.loop N φ r')/\r'.state≠.busy/\∃e,Hp r'.pending=aa e/\Q e φ ((σ' i).set σ.length .dead++[.rX])):lA X N (.rangeFunc f ps assign body) Q φ σ :=
 lA.rangeFunc (r':=λi=>(hk i).choose) d c (λi=>⟨(hk i).choose_spec.1,(hk i).choose_spec.2.1⟩) λi=>(hk i).choose_spec.2.2
def ek.Pm{f:aH}{fn:Func}{args:List D}{σ':ι->List bg}(l:P.funcs[f]?=aa fn)(d:(fn.name== "runtime.NumGoroutine")=af)(m:fn.body=aa c)(g:bD args.length fn.ntmps=ab)(h:lA X fn.ntmps c (Ou fn.ntmps λe φ σ1=>∃j,rZ P fn σ.length (res j) (σ' j) e φ σ1) (js 0 args) σ):ek X f args σ res σ' :=
 ek.Fu l d m (dr g) λs a f i b k cs S hk Pn hQ=>lA.gh h s a f i b k cs S hk Pn hQ
def rZ.cells(hT:cV P T){fn:Func}{a:Nat}{res:D}(ks:List Nat)(h:Iz T fn.results.toList ks φ res=aa ps)(f:au ps)(d:kh ks σ=aa σ')(b:kS σ'=ab)(c:dK ks=ab)(hk:∀j,j<a->ks[j]?=aa j):rZ P fn a res σ' .ret φ σ:=by refine⟨.inl rfl,ks,?_⟩;unfold Iz at h;grind[AY.VF]
end
def X9:A->Option ai
 |.c (.val v)=>aa v
 |_=>ae
def VR:List A->Option (List ai)
 |[]=>aa []
 |a::r=>match X9 a with
  |some v=>match VR r with
   |some q=>aa (v::q)
   |none=>ae
  |none=>ae
def Ya:D->Option ai
 |.e (.one a)=>X9 a
 |.e (.agg cs)=>match VR cs with
  |some l=>aa (.agg l.toArray)
  |none=>ae
 |_=>ae
def IE:List D->Option (List ai)
 |[]=>aa []
 |a::r=>match Ya a with
  |some v=>match IE r with
   |some q=>aa (v::q)
   |none=>ae
  |none=>ae
section
variable {X:Cx P}
def KQ{u:ai}:∀{a:A},gH σ s v a->X9 a=aa u->v=u
 |.c (.val x),h,e=>by cases e;exact Rd.eu h
theorem KR:∀{cs:List A}{vs us:List ai},er σ s vs cs->VR cs=aa us->vs=us
 |[],[],us,_,e=>by cases e;rfl
 |[],_::_,_,h,_=>h.elim
 |_::_,[],_,h,_=>h.elim
 |a::r,v::vs,us,h,e=>by
  simp only[VR]at e;cases b:X9 a with
  |none=>grind
  |some x =>
   cases c:VR r with
   |none=>grind
   |some q =>
    simp[b,c]at e;subst e;rw[KQ h.1 b,KR h.2 c]
def SY{u:ai}:∀{d:D},du σ s v d->Ya d=aa u->v=u
 |.e (.one a),h,e=>KQ h e
 |.e (.agg cs),⟨vs,b,h⟩,e=>by simp only[Ya]at e;grind[KR]
def Bb:∀{ds:List D}{vs us:List ai},cp σ s vs ds->IE ds=aa us->vs=us
 |[],[],us,_,e=>by cases e;rfl
 |[],_::_,_,h,_=>h.elim
 |_::_,[],_,h,_=>h.elim
 |a::r,v::vs,us,h,e=>by
  simp only[IE]at e;cases b:Ya a with
  |none=>grind
  |some x =>
   cases c:IE r with
   |none=>grind
   |some q =>
    simp[b,c]at e;subst e;rw[SY h.1 b,Bb h.2 c]
def gA(P:aJ)(N:Nat)(o:aC)(φ:Fr)(σ:List bg)(f:aH)(args:List ai):Prop:=∀s a,cx N σ s φ a->∀w,(aq a.eval o).run P w=(callFunc f args.toArray).run P w/\(aq a.eval o).events P w #[]=(callFunc f args.toArray).events P w #[]
def gA.direct{f:aH}{args:List ai}(b:o.op=.call {callee:=.value (.func f),args:=xs,argTypes:=jU})(g:IE (xs.toList.map (bS φ))=aa args):gA P N o φ σ f args:=by
 intro s a d w;have h1:=Bb (ma (dh d) xs.toList) g;have h2:xs.map a.eval=args.toArray:=by grind
 have c:a.eval (.func f)=.func (.func f) #[] #[]:=rfl;have e:aq a.eval o=callFunc f args.toArray:=by simp[aq,b,resolve,c,Deferred.ofValue,invoke,h2]
 grind
def gA.invoke{f:aH}{h:Array aB}{name:String}{j:av}{u r:ai}{args:List ai}(n:o.op=.call {callee:=.invoke x name,args:=h,argTypes:=jU})(l:bS φ x=.e (.one (.c (.val (.iface j u)))))(m:IE (h.toList.map (bS φ))=aa args)(i:∀w,(Go.method (P.types.size+Made.depth) j u name).run P w=.ok (f,r) w/\∀es,(Go.method (P.types.size+Made.depth) j u name).events P w es=es):gA P N o φ σ f (r::args):=by
 intro s a k w;have g:=dh k x;rw[l]at g;have g:=Rd.eu (fe g);have h1:=Bb (ma (dh k) h.toList) m;have b:∀w,(program:Sem aJ).run P w=.ok P w:=λw=>by simp[program,Sem.run]
 have d:∀w es,(program:Sem aJ).events P w es=es:=λw es=>by simp[program,Sem.events,Sem.runT]
 rw[pX n g,h1];constructor
 .simp[callMethod,b,(i w).1]
 .simp[callMethod,b,d,(i w).1,(i w).2]
structure ly(P:aJ)(f:aH)(e:Array ai->Sem ai):Prop where
 fn:∃fn,P.funcs[f]?=aa fn/\(fn.name== "runtime.NumGoroutine")=af/\fn.body.isNone=ab/\Extern.findNext fn=ae/\Extern.find fn=aa e
def ly.run{f:aH}{e:Array ai->Sem ai}(h:ly P f e){args:Array ai}(g:(e args).run P w=.ok v w'):(callFunc f args).run P w=.ok (.value v) w'/\∀es,(callFunc f args).events P w es=(e args).events P w (es.push ⟨.mark (.extern f),af,ab⟩):=by
 obtain⟨fn,c,a,i,b,d⟩:=h.fn;have h1:fn.name≠ "runtime.NumGoroutine":=by grind
 have h2:fn.body=ae:=by simpa using i
 constructor
 .rw[run_callFunc_extern c a i b d,g];rfl
 .intro es;simp[callFunc,c,h1,h2,b,d,g]
def eg.ext{x:ι->D}{σ':ι->List bg}{f:aH}{e:Array ai->Sem ai}{args:List ai}(n:gA P N o φ σ f args)(m:ly P f e)(h:∀s,aE σ s->∃i s' v,(e args.toArray).run P s.w=.ok v s'.w/\du (σ' i) s' v (x i)/\aE (σ' i) s'/\Step σ s (σ' i) s'/\∀es,∀c∈(e args.toArray).events P s.w es,c∈es∨oJ s c):eg P N o φ σ x σ':=by
 intro s a j hh;obtain⟨h1,h2⟩:=n s a j s.w;obtain⟨i,s',v,l,q2,q3,q4,d⟩:=h s hh;obtain⟨k,g⟩:=m.run l;refine⟨i,.value v,s',v,h1.trans k,.inl rfl,q2,q3,q4,λc b=>?_⟩;rw[h2,g]at b;rcases d _ c b with h|h
 .simp at h;subst h;exact .inr ⟨f,rfl⟩
 grind
def eg.Fl{f:aH}{e:Array ai->Sem ai}{args:List ai}{x:D}(d:gA P N o φ σ f args)(b:ly P f e)(c:∀w,(e args.toArray).run P w=.ok v w)(g:∀w es,(e args.toArray).events P w es=es)(a:∀s,du σ s v x):eg P N o φ σ (λ_:Unit=>x) λ_=>σ :=
 .ext d b λs hh=>⟨(),s,v,c s.w,a s,hh,.refl _ _,λes ev h=>.inl (by grind)⟩
def eg.KS{f:aH}{e:Array ai->Sem ai}{args:List ai}{v:Nat->ai}{x:Nat->D}{u:ai}(m:gA P N o φ σ f args)(j:ly P f e)(k:∀w,(e args.toArray).run P w=.ok (v w.heap.size) (w.alloc (.cells #[u] E)))(r:∀w es,(e args.toArray).events P w es=es)(d:∀g σ s,du σ s (v g) (x g)):
  eg P N o φ σ x λg=>σ++[.cj (dZ g E u)] :=
 .ext m j λs hh=>by
  have st:Step σ s σ {s with w:=s.w.alloc (.cells #[u] E)}:=⟨by show _<=(s.w.heap.push _).size;simp,λb a _=>cT _ _ a,λ_ _ _ h=>h,λ_ _ _ _=>rfl,λL p b a=>.inr ⟨L,p,a⟩,λl B L h1 h2=>⟨B,L,h1,h2,.refl _ _⟩,rfl,rfl,rfl,rfl⟩
  have q:∀o,s.M s.w.heap.size o=ae:=λo=>by
   cases c:s.M s.w.heap.size o with
   |none=>rfl
   |some v=>exact absurd (hh.block c) (Nat.lt_irrefl _)
  have h1:=(hh.grow (w':=s.w.alloc (.cells #[u] E)) (M':=s.M) (by simp) (λb a=>cT s.w _ a) (λb a o=>rfl) (λb a o v c=>by have:=hh.block c;omega) rfl rfl rfl).1;obtain⟨n,i⟩:=h1.iy (B:=.cj (dZ s.w.heap.size E u)) (L:=⟨.pointer (aa ⟨s.w.heap.size,0,ae⟩),[s.w.heap.size]⟩) st rfl hh
   ⟨λb=>if b=s.w.heap.size then aa (.cells #[u] E (0,0))else ae,⟨rfl,by simp,λb a=>by grind⟩,λb o a=>by
    by_cases e:b=s.w.heap.size
    .subst e;simp only[b6]at a;grind[dX]
    grind,λb=>by by_cases e:b=s.w.heap.size<;>simp[e],λb a o=>by grind⟩
   (λb a=>by simp at a;subst a;exact⟨bh _,by show _<(s.w.heap.push _).size;simp⟩)
  exact⟨s.w.heap.size,_,_,k s.w,d _ _ _,n,i,λes ev h=>.inl (by grind)⟩
def dZ.own{g:Nat}(hl:dF l σ=aa (.cj (dZ g E v)))(hh:aE σ s):s.w.heap[g]?=aa (.cells #[v] E (0,0))/\s.w.cell? ⟨g,0,ae⟩=aa v/\(∀j,oJ s ⟨.cell ⟨g,j,ae⟩,af,af⟩)/\∀j,oJ s ⟨.cell ⟨g,j,ae⟩,ab,af⟩:=by
 have hB:=b7 hl;have c:l<s.β.length:=by rw[hh.len];grind
 have a:=bn c;generalize s.β[l]=L at a;obtain⟨ch,⟨h1,h2,i⟩,e,h,f⟩:=hh.box l _ L hB a;have d:=e g _ h2;have b:g∈L.bs:=(h g).2 (by grind);exact⟨d,by simp[aP,d],λj=>j9 (bP a) b,λj=>j7 (bP a) b (f g b _)⟩
def dZ.jX{l g:Nat}{E:av}{v u:ai}(hl:dF l σ=aa (.cj (dZ g E v)))(hh:aE σ s):aE (σ.set l (.cj (dZ g E u))) {s with w:=s.w.setRow g #[u]}/\Step σ s (σ.set l (.cj (dZ g E u))) {s with w:=s.w.setRow g #[u]}:=by
 have hl:=b7 hl;have e:l<s.β.length:=by rw[hh.len];grind
 have i:=bn e;generalize s.β[l]=L at i;obtain⟨ch,⟨h1,h2,r⟩,c,h,m⟩:=hh.box l _ L hl i;have n:g∈L.bs:=(h g).2 (by grind);have d:=c g _ h2;have f:∀a,a≠g->(s.w.setRow g #[u]).heap[a]?=s.w.heap[a]?:=λa b=>setRow_other s.w g a _ b;have k:=setRow_heap s.w g #[v] #[u] E (0,0) d;have j:s.β.set l L=s.β:=by apply ji;grind
 have q:=hh.jX (l:=l) (H':=dZ g E u) (L':=L) (w':=s.w.setRow g #[u]) hl i rfl (by simp)
  (λa b p=>f a (by grind)) (λa b=>.inl b)
  ⟨λa=>if a=g then aa (.cells #[u] E (0,0))else ae,⟨h1,by simp,λa b=>by grind⟩,λa o b=>by
   grind,λa=>by grind⟩ rfl rfl rfl
 grind
def eg.Ro{f:aH}{e:Array ai->Sem ai}{args:List ai}{u:ai}{x:D}(l:Nat){g:Nat}(hl:dF l σ=aa (.cj (dZ g E u)))(m:gA P N o φ σ f args)(i:ly P f e)(k:∀w,w.cell? ⟨g,0,ae⟩=aa u->(e args.toArray).run P w=.ok v w/\∀es,∀a∈(e args.toArray).events P w es,a∈es∨a=⟨.cell ⟨g,0,ae⟩,af,af⟩)(c:∀s,du σ s v x):eg P N o φ σ (λ_:Unit=>x) λ_=>σ :=
 .ext m i λs hh=>by obtain⟨_,j,q2,_⟩:=dZ.own hl hh;obtain⟨d,b⟩:=k s.w j;exact⟨(),s,v,d,c s,hh,.refl _ _,λes a h=>(b es a h).imp id λn=>by grind⟩
def eg.SZ{f:aH}{e:Array ai->Sem ai}{args:List ai}{u w0:ai}{x:D}(l j:Nat){g c:Nat}{E2:av}(hl:dF l σ=aa (.cj (dZ g E w0)))(b:dF j σ=aa (.cj (dZ c E2 u)))(t:gA P N o φ σ f args)(m:ly P f e)(q:∀w,w.heap[g]?=aa (.cells #[w0] E (0,0))->w.cell? ⟨c,0,ae⟩=aa u->(e args.toArray).run P w=.ok v (w.setRow g #[u])/\∀es,∀a∈(e args.toArray).events P w es,a∈es∨a=⟨.cell ⟨c,0,ae⟩,af,af⟩∨a=⟨.cell ⟨g,0,ae⟩,ab,af⟩)(i:∀σ s,du σ s v x):eg P N o φ σ (λ_:Unit=>x) λ_=>σ.set l (.cj (dZ g E u)) :=
 .ext t m λs hh=>by obtain⟨n,_,_,p4⟩:=dZ.own hl hh;obtain⟨_,p,q2,_⟩:=dZ.own b hh;obtain⟨k,y⟩:=q s.w n p;obtain⟨r,d⟩:=dZ.jX (u:=u) hl hh;refine⟨(),_,v,k,i _ _,r,d,λes a h=>?_⟩;grind
def AK.pr{x:ι->D}{σ':ι->List bg}(g:rH all φ o=ab)(B:gm N o.dst=ab)(h:eg P N o φ σ x σ')(k:∀i,AK X N Qf (.ops all rest::K) .normal (kQ o.dst (x i) φ) (σ' i)):AK X N Qf (.ops all (o::rest)::K) .normal φ σ:=by
 intro s a f hh b kk cs S idx hb jO hQ;cases idx with
 |nil=>exact jO.elim
 |cons j idx =>
 refine se hb jO.1 (fQ g _ _ _ f) λy d=>?_;have c:=hh.rely d;have e:=f.rely d hh;obtain⟨i,r,s',v,h1,h2,u,p,n,w⟩:=h y a e c;have l:=n.nN c;refine⟨r,s',v,h1,h2,⟨⟨σ,σ' i,c,p,n⟩,w⟩,?_⟩;refine k i s' _ ?_ p b kk cs S idx hb jO.2 λm σ2 s2 a2 q z h2 st=>hQ m σ2 s2 a2 q z h2 ((d.stepW.trans l).trans st);cases A:o.dst with
 |none=>exact e.mono l c.len
 |some t=>exact(e.mono l c.len).put (gU B t A) u
def AK.S0(t:Nat){T:av}{cs:List C}(i:look φ t=.e (.one (.c (.ifs T (.rp cs)))))(kk:∀p:Addr,AK X N Qf (.code c::K) .normal ((t,.e (.one (.v (.iface T (.pointer (aa p))))))::φ) σ):AK X N Qf (.code c::K) .normal φ σ:=by
 refine AW.uh (ι:=Addr) (φ':=λp=>(t,.e (.one (.v (.iface T (.pointer (aa p))))))::φ) (σ':=λ_=>σ) (λs a d hh=>?_) kk;have h1:=d.slot t;rw[i]at h1;have h1:=fe h1;generalize h:a.tmps.getD t ah=v at h1;cases h1 with
 |@ifs _ u _ h2 hc =>
  cases h2 with
  |rp b off f j k =>
   refine⟨⟨b,off,ae⟩,s,rfl,⟨d.size,d.defers,λu=>?_⟩,hh,.refl _ _⟩;simp only[look];cases g:aw t u with
   |false=>exact d.slot u
   |true =>
    have e:=bY g;subst e;rw[h];exact Rd.val rfl
def AK.Rp(t:Nat){T:av}{x:ai}(d:look φ t=.e (.one (.c (.ifs T (.val x)))))(kk:AK X N Qf (.ops all rest::K) .normal ((t,.e (.one (.v (.iface T x))))::φ) σ):AK X N Qf (.ops all rest::K) .normal φ σ:=by
 refine iG.le kk λσ s v u a=>?_;simp only[look];cases b:aw t u with
 |false=>exact a
 |true =>
  have e:=bY b;subst e;rw[d]at a;have h1:Rd s.M v (.ifs T (.val x)):=a;cases h1 with
  |@ifs _ f _ h2 hc =>
   obtain rfl:=Rd.eu h2;exact Rd.val rfl
def AK.Hh(t l:Nat)(x:look φ t=.e (.one (.ptr l 0)))(hl:dF l σ=aa (.cells E [.c .iD]))(kk:∀g,AK X N Qf (.code c::K) .normal ((t,.e (.one (.v (.pointer (aa ⟨g,0,ae⟩)))))::φ) (σ.set l (.cj (dZ g E (.pointer ae))))):AK X N Qf (.code c::K) .normal φ σ:=by
 refine AW.uh (ι:=Nat) (φ':=λg=>(t,.e (.one (.v (.pointer (aa ⟨g,0,ae⟩)))))::φ) (σ':=λg=>σ.set l (.cj (dZ g E (.pointer ae)))) (λs a k hh=>?_) kk;have hl:=b7 hl;have i:l<s.β.length:=by rw[hh.len];grind
 have j:=bn i;generalize s.β[l]=L at j;obtain⟨g,vs,rfl,z,n,y⟩:=hh.box l _ L hl j
 match vs,n with
 |[v],⟨p,_⟩ =>
  have p:Rd s.M v .iD:=p;cases p;obtain⟨r,q2⟩:=hh.gT (M':=s.M) (w':=s.w) (B':=.cj (dZ g E (.pointer ae))) (L':=⟨.pointer (aa ⟨g,0,ae⟩),[g]⟩) hl j rfl (bh _) (λ_ _ _=>rfl) (λ_ _ _ _=>rfl) (λ_ _ _ h=>h) hh.mem (λb d=>⟨.inl d,hh.lt _ (bP j) b d⟩) rfl rfl rfl
   ⟨λb=>if b=g then aa (.cells #[.pointer ae] E (0,0))else ae,⟨rfl,by simp,λb d=>by grind⟩,λb o d=>by
    grind,λb=>by by_cases e:b=g<;>simp[e],λb d o=>by grind⟩
  refine⟨g,{s with β:=s.β.set l ⟨.pointer (aa ⟨g,0,ae⟩),[g]⟩},rfl,⟨k.size,k.defers.imp λ_ h1=>h1.mono q2.ext,λu=>?_⟩,r,q2⟩;simp only[look];cases d:aw t u with
  |false=>exact(k.slot u).mono q2.ext hh.len
  |true =>
   have e:=bY d;subst e;have h1:=k.slot t;rw[x]at h1;obtain⟨_,A,B,f,m,q⟩:=(h1:gH σ s _ (.ptr l 0));rw[j]at f;cases f;cases m;rw[q];exact Rd.val rfl
end
def aE.CU{σ1:List bg}{k:Nat}{bf:nL}{xs:List ai}(hh:aE (σ1++[.cj (gk E k bf n xs)]) s)(d:gE k n es xs)(l:te σ1.length σ1=ab):
  ∃s2:St,aE σ1 s2/\eH s s2/\Rd s2.M (lK bf n) (.sl af k n es)/\∀{σ0:List bg} {s0:St},c6 σ0 s0 (σ1++[.cj (gk E k bf n xs)]) s->σ0.length<=σ1.length->c6 σ0 s0 σ1 s2:=by
 have hB:(σ1++[bg.cj (gk E k bf n xs)])[σ1.length]?=aa (.cj (gk E k bf n xs)):=by simp
 obtain⟨L,M',r,t,p,m,z,u⟩:=gk.CL hB es (λi hi=>⟨d.wid i hi,λM j c x hj hx=>by
  obtain⟨y,A,B⟩:=d.at' i hi j c hj
  grind⟩) s hh
 obtain⟨q,q2⟩:=hh.gT (M':=M') (w':=s.w) (B':=.dead) (L':=⟨L.v,[]⟩) hB r rfl (bh _) (λ_ _ _=>rfl) (λb _ a o=>p b a o) t m (by simp) rfl rfl rfl ak;have e:(σ1++[bg.cj (gk E k bf n xs)]).set σ1.length .dead=σ1++[.dead]:=by simp
 rw[e]at q q2;refine⟨_,q.drop (rest:=[.dead]) l,⟨rfl,t,λb a o=>p b (a L (bP r)) o,m,λb a=>?_⟩,u,λ{σ0 s0} h g=>(h.trans (q2.nN hh)).drop (rest:=[.dead]) g⟩;rcases a with a|⟨L',f,a⟩
 .exact .inl a
 .have h1:=fN f;grind
def ek.CU{P:aJ}{ι:Type}{X:Cx P}{f:aH}{args:List D}{σ:List bg}{σ1:ι->List bg}{E k:Nat}{n:ι->Nat}{bf:ι->nL}{xs:ι->List ai}{es:ι->Nat->List C}(h:ek X f args σ (λi=>.e (.one (.v (lK (bf i) (n i))))) (λi=>σ1 i++[.cj (gk E k (bf i) (n i) (xs i))]))(b:∀i,gE k (n i) (es i) (xs i))(d:∀i,te (σ1 i).length (σ1 i)=ab)(a:∀i,σ.length<=(σ1 i).length):ek X f args σ (λi=>.e (.one (.c (.sl af k (n i) (es i))))) σ1:=by refine⟨h.1,λs vs hr hh S cs hS=>h.2 s vs hr hh S cs λi fr v s' hl mT jP st=>?_⟩;obtain⟨s2,c1,c2,c3,c4⟩:=jP.CU (b i) (d i);have g:v=lK (bf i) (n i):=Rd.eu mT;exact .ghost c2 (hS i fr v s2 (hl.mono c2.mem) (by rw[g];exact c3) c1 (c4 st (a i)))
section
open Go.Conc
def hI(s:St):Prop:=∀b o v,s.M b o=aa v->s.w.cell? ⟨b,o,ae⟩=aa v
def mr(c:Nat->Prop):Go.Loc->Prop
  | .cell a=>c a.block
  | .obj r=>c r
  | _=>False
structure Clear(c:Nat->Prop)(s:St):Prop where
  own:∀b,c b->¬s.own b
  β:∀b,c b->∀L∈s.β,b∉L.bs
  M:∀b,c b->∀o,s.M b o=ae
  lt:∀b,c b->b<s.w.heap.size
section
variable {c:Nat->Prop}
def Clear.step(h:Clear c s)(st:Step σ s σ' s'):Clear c s':=by
  refine⟨λb a=>by rw[st.own];exact h.own b a,λb a L g d=>?_,λb a o=>by rw[st.jo b (h.lt b a) (h.β b a)];exact h.M b a o,λb a=>c9 (h.lt b a) st.size⟩;rcases st.wu L g b d with h1|⟨f,e,h1⟩
  · exact absurd (h.lt b a) (mX.2 h1)
  · exact h.β b a f e h1
theorem Clear.ghost(h:Clear c s)(k:eH s s'):Clear c s':=by
  have f:∀b,c b->¬(s'.own b∨∃L∈s'.β,b∈L.bs):=λb a e=>by
    rcases k.blk b e with e|⟨L,d,e⟩
    · exact h.own b a e
    · exact h.β b a L d e
  exact⟨λb a e=>f b a (.inl e),λb a L d e=>f b a (.inr ⟨L,d,e⟩),λb a o=>by rw[k.jo b (h.β b a)];exact h.M b a o,λb a=>by rw[k.w];exact h.lt b a⟩
def Clear.forget(h:Clear c s)(k:nB s s'):Clear c s':=by
  refine⟨λb a=>by rw[k.own];exact h.own b a,λb a=>by rw[k.β];exact h.β b a,λb a o=>?_,λb a=>by rw[k.w];exact h.lt b a⟩;cases e:s'.M b o with
  | none=>rfl
  | some v=>rw[<-k.less b o v e,h.M b a o]
def Clear.at(h:Clear c s)(d:Nat):Clear c {s with w:=s.w.at d}:=⟨h.own,h.β,h.M,h.lt⟩
def hI.at(h:hI s)(d:Nat):hI {s with w:=s.w.at d}:=h
theorem hI.ghost(k:eH s s'):hI s':=λb o v a=>by rw[k.w];exact k.cell b o v a
def hI.forget(h:hI s)(k:nB s s'):hI s':=λb o v a=>by rw[k.w];exact h b o v (k.less b o v a)
def hI.lt(h:hI s){o:Nat}(a:s.M b o=aa v):b<s.w.heap.size:=by
  have:=h b o v a;rcases cN b s.w.heap.size with h1|h1
  · exact h1
  · simp[aP,AF h1]at this
def cw.at(h:hI s)(d:Nat):cw s {s with w:=s.w.at d}:=⟨rfl,rfl,rfl,bh _,λ_ _=>rfl,h,rfl,rfl,rfl⟩
def Sq{e:Event}(k:aE σ s)(n:Clear c s)(g:oJ s e){B:Nat}(hB:s.w.heap.size<=B):EvL (mr c) B e:=by
  obtain⟨l,wr,p⟩:=e;cases l with
  | cell a =>
    obtain⟨i,j,b⟩:=g;simp only at i j b;subst i;have key:¬c a.block/\a.block<s.w.heap.size:=by
      rcases b with b|⟨⟨L,h,b⟩,_⟩|⟨_,v,b⟩
      · exact b.elim
      · exact⟨λx=>n.β _ x L h b,k.lt L h _ b⟩
      · refine⟨λx=>?_,hI.lt k.mem b⟩
        rw[n.M _ x]at b;cases b
    exact evL_cell a wr key.1 (c9 key.2 hB)
  | obj r =>
    obtain⟨i,j⟩:=g;simp only at i j;subst i;obtain⟨L,h,b⟩:=j.resolve_left id;refine⟨λx d o=>?_,by simp,by simp,?_⟩
    · simp[aM,MemAct.touch?]at d
      subst d;exact absurd b (n.β _ o L h)
    · simp[aM,MemAct.low,Loc.low]
      exact c9 (k.lt L h _ b) hB
  | mark m =>
    simp only[oJ]at g;rcases g with rfl|⟨f,rfl⟩
    · exact⟨λx d=>by simp[aM,MemAct.touch?]at d,by simp,by simp,by simp[aM,MemAct.low]⟩
    · exact⟨λx d=>by simp[aM,MemAct.touch?]at d,by simp,by simp,by simp[aM,MemAct.low]⟩
  | _=>exact g.elim
end
def s9(t:Trace):Prop:=∀a,NoRelease a t
def s9.app{t:Trace}(h:s9 t){g:Nat}{fn:aH}{pos:String}{es:Array Event}(b:∀e∈es,∀a,e.loc≠.mark (.release a)):s9 (t++MemOp.ofEvents g fn pos es) :=
  λa=>(h a).app λop mY hx=>by grind[Go.Conc.mem_ofEvents,Go.ConcR.loc_of_ofEvent]
def E5{e:Event}(d:oJ s e)(a:Addr):e.loc≠.mark (.release a):=by intro b;obtain⟨loc,wr,g⟩:=e;simp only at b;subst b;rcases d with h|⟨f,h⟩<;>cases h
def wV{e:Event}(d:e.mute=ab)(a:Addr):e.loc≠.mark (.release a):=by intro b;obtain⟨loc,wr,f⟩:=e;simp only at b;subst b;simp[Event.mute]at d
def Vr(P:aJ)(g:ar)(s:St)(T:ar->St->Prop):Prop :=
  ∀(c:Nat->Prop) (gs:Array ar) (sl:Option (Nat×Nat)) (t:Trace) (q:Nat->Nat),hI s->gs[0]?=aa g->Leavers P t gs q->Past (mr c) s.w.heap.size t->Clear c s->s9 t ->
    ∃(N:Nat) (b:Nat->Prop) (a:Array ar) (g':ar) (s':St) (e:Option (Nat×Nat)) (d:Trace) (f:Nat->Nat),
      runNT P N (crowd gs s.w sl) t=(.next (crowd a s'.w e),d)/\hI s'/\a[0]?=aa g'/\Leavers P d a f/\Past (mr b) s'.w.heap.size d/\Clear b s'/\s9 d/\T g' s'
def Cx.beside(P:aJ):Cx P:={main:=ab,rely:=λs s'=>cw s s'/\∃d,s'={s with w:=s.w.at d},y9:=Vr P,iS:=λh=>h.1,CC:=True}
instance (P:aJ):(Cx.beside P).ik:=⟨ak⟩
theorem runNT_add{P:aJ}:∀(N M:Nat) {m a:Machine} {t b:Trace},runNT P N m t=(.next a,b)->runNT P (N+M) m t=runNT P M a b
  | 0,M,m,a,t,b,h=>by simp[runNT]at h;grind
  | N+1,M,m,a,t,b,h=>by
    rw[show N+1+M=(N+M)+1 by omega];simp only[runNT]at h⊢;cases d:stepT P m with
    | mk r ops =>
      rw[d]at h;cases r with
      | next m1=>exact runNT_add N M h
      | ended o w=>grind
def fL.beside{P:aJ}{S:ar->St->Prop}{g:ar}{s:St}(h:fL (Cx.beside P) S g s):Vr P g s S:=by
  induction h with
  | stop h=>intro c gs sl t q A r m u p F;exact⟨0,c,gs,_,_,sl,t,q,rfl,A,r,m,u,p,F,h⟩
  | ghost hg _ H =>
    intro c gs sl t q A r m u p F;have:=H c gs sl t q (.ghost hg) r m (by rw[hg.w];exact u) (p.ghost hg) F
    rwa [hg.w]at this
  | forget _ hg _ H =>
    intro c gs sl t q A r m u p F;have:=H c gs sl t q (A.forget hg) r m (by rw[hg.w];exact u) (p.forget hg) F
    rwa [hg.w]at this
  | y9 hj _ H =>
    intro c gs sl t q A r m u p F;obtain⟨N,l,b,g',s',f,D,I,h1,h2,h3,h4,h5,h6,h6n,h7⟩:=hj c gs sl t q A r m u p F;obtain⟨M,Sh2,gs2,g2,s2,sl2,t2,q2,k1,O⟩:=H g' s' h7 l b f D I h2 h3 h4 h5 h6 h6n;exact⟨N+M,Sh2,gs2,g2,s2,sl2,t2,q2,by grind[runNT_add],O⟩
  | @step g s Y ns ne hr h1 h2 _ H =>
    intro c gs sl t q;have key:∀(n:Nat) (gs:Array ar) (d:Nat) (sl:Option (Nat×Nat)) (t:Trace) (q:Nat->Nat),Go.ConcN.sumTo gs.size q<=n->hI s->gs[0]?=aa g->Leavers P t gs q->Past (mr c) s.w.heap.size t->Clear c s->s9 t ->
        ∃(N:Nat) (l:Nat->Prop) (b:Array ar) (g':ar) (s':St) (f:Option (Nat×Nat)) (D:Trace) (I:Nat->Nat),
          runNT P N (crowd gs (s.w.at d) sl) t=(.next (crowd b s'.w f),D)/\hI s'/\b[0]?=aa g'/\Leavers P D b I/\Past (mr l) s'.w.heap.size D/\Clear l s'/\s9 D/\S g' s':=by
      intro n;induction n with
      | zero=>?_
      | succ n ihn=>?_
      all_goals
        intro gs d sl t q F A r m u p E;have haw:∀g∈gs,awake g:=by
          intro x hx;obtain⟨i,hi,rfl⟩:=Array.mem_iff_getElem.1 hx;rcases ny i with rfl|v
          · grind[awake_of]
          · exact awake_of ((m.old i _ v (gq hi)).status.elim .inl λx=>.inr (.inr x))
        obtain⟨i,x,d2,f,hi,hg,L⟩:=crowd_pick (P:=P) (w:=s.w.at d) (sl:=sl) haw ⟨0,g,r,hr⟩;rw[show(s.w.at d).at d2=s.w.at d2 from rfl]at L;rcases ny i with rfl|v
        · obtain rfl:x=g:=by grind
          have B:(Cx.beside P).rely s {s with w:=s.w.at d2}:=⟨cw.at A d2,d2,rfl⟩;have hgo:=h1 _ B;obtain⟨⟨σ,σ',hh,Z,st⟩,Q⟩:=h2 _ B;have o:=runT_crowd_go (P:=P) (sl:=f) (i:=0) hi (show aG P (0==0) x (s.w.at d2)=_ from hgo)
          have JX:((gs.map (woken P x (Y {s with w:=s.w.at d2}) (ns {s with w:=s.w.at d2}).w)).setIfInBounds 0 (Y {s with w:=s.w.at d2})).size=gs.size:=by simp
          have U:0<gs.size:=(iJ.1 r).1;have R:Clear c {s with w:=s.w.at d2}:=p.at d2;obtain⟨N,l,b,g',s',C,D,I,k1,O⟩:=H _ B c ((gs.map (woken P x (Y {s with w:=s.w.at d2}) (ns {s with w:=s.w.at d2}).w)).setIfInBounds 0 (Y {s with w:=s.w.at d2})) f
            (t++MemOp.ofEvents 0 x.frame.fn x.frame.place (ne {s with w:=s.w.at d2})) q Z.mem (by grind)
            ⟨λj y hj hy=>by
              have CE:0≠j:=by omega
              rw[wT CE,Array.getElem?_map]at hy;obtain⟨z,hz,rfl⟩:=rU.1 hy;have J:=m.old j z hj hz;rw[woken_quitsD J,Deaf_other t (by omega) _ (λop mY=>by grind[Go.Conc.mem_ofEvents])];exact J,λj hj=>by
              rw[Deaf_other t (g':=0) (by grind) _ (λop mY=>by grind[Go.Conc.mem_ofEvents])]
              exact m.above j (by grind)⟩
            ((u.mono st.size).own λe W=>Sq hh R (Q e W) st.size) (R.step st) (E.app λe W a=>E5 (Q e W) a)
          exact⟨N+1,l,b,g',s',C,D,I,by simp only[runNT,L,o];exact k1,O⟩
        · have J:=m.old i x v hi
          have Yy:(i==0)=af:=by grind
          have U:i<gs.size:=(iJ.1 hi).1;cases K:q i with
          | zero=>rw[K]at J;rw[J.1]at hg;cases hg
          | succ k =>
            rw[K]at J;rcases J with⟨hf,_⟩|⟨_,g',es,T,X,hq'⟩
            · grind
            have acL:Go.ConcN.sumTo gs.size (Go.ConcN.upd q i k)+(k+1)=Go.ConcN.sumTo gs.size q+k:=by have:=Go.ConcN.sumTo_upd q k id U;simpa[K]using this
            first
            | (exfalso;omega)
            | (have o:=runT_crowd_go (P:=P) (sl:=f) (i:=i) hi (by rw[Yy];exact X (s.w.at d2))
               have JX:((gs.map (woken P x g' (s.w.at d2))).setIfInBounds i g').size=gs.size:=by simp
               obtain⟨N,l,b,g2,s',C,D,I,k1,O⟩:=ihn ((gs.map (woken P x g' (s.w.at d2))).setIfInBounds i g') d2 f (t++MemOp.ofEvents i x.frame.fn x.frame.place es) (Go.ConcN.upd q i k) (by grind) A
                (by grind[woken_run])
                ⟨λj y hj hy=>by
                  by_cases G:i=j
                  · grind[Go.ConcN.upd_same,Deaf_own]
                  · rw[wT G,Array.getElem?_map]at hy
                    obtain⟨z,hz,rfl⟩:=rU.1 hy;have V:=m.old j z hj hz;rw[woken_quitsD V,Go.ConcN.upd_ne q k (Ne.symm G),Deaf_other t G _ (λop mY=>by grind[Go.Conc.mem_ofEvents])];exact V,λj hj=>by
                  rw[Deaf_other t (g':=i) (by grind) _ (λop mY=>by grind[Go.Conc.mem_ofEvents])]
                  exact m.above j (by grind)⟩
                (u.mute (by omega) T) p (E.app λe W a=>wV (T e W) a)
               exact⟨N+1,l,b,g2,s',C,D,I,by simp only[runNT,L,o];exact k1,O⟩)
    intro A r m u p E;have:=key _ gs s.w.drawn sl t q (bh _) A r m u p E
    rwa [show s.w.at s.w.drawn=s.w from rfl]at this
inductive Rk where
 |leaf
 |node (f:St->Rk)
def Rk.lt:Rk->Rk->Prop
 |_,.leaf=>False
 |x,.node f=>∃s,x=f s∨Rk.lt x (f s)
def Rk.acc:∀r:Rk,Acc Rk.lt r
 |.leaf=>⟨_,λ_ h=>h.elim⟩
 |.node f=>⟨_,λ_ ⟨s,e⟩=>e.elim (λe=>e▸Rk.acc (f s)) λh=>(Rk.acc (f s)).inv h⟩
def Rk.nat:Nat->Rk
 |0=>.leaf
 |n+1=>.node λ_=>Rk.nat n
def Rk.Fo(n:Nat)(s:St):Rk.lt (Rk.nat n) (Rk.nat (n+1)):=⟨s,.inl rfl⟩
def Vec(j:Nat)(a D:Nat->Rk):Prop:=∃i,i<j/\Rk.lt (a i) (D i)/\∀k,k≠i->a k=D k
def KV:∀j,WellFounded (Vec j)
 |0=>⟨λ_=>⟨_,λ_ ⟨i,h,_⟩=>absurd h (fy i)⟩⟩
 |j+1=>by
  have k:=KV j;have key:∀a:Rk,∀D:Nat->Rk,D j=a->Acc (Vec (j+1)) D:=by
   intro a;induction Rk.acc a with
   |intro a _ f =>
    intro D;induction k.apply D with
    |intro D _ d =>
     intro l;refine⟨_,λg h=>?_⟩;obtain⟨i,hi,b,hk⟩:=h;rcases cN i j with e|e
     .exact d g ⟨i,e,b,hk⟩ (by grind)
     grind
  exact⟨λD=>key _ D rfl⟩
section
def kT(X:Cx P)(E:St->St->Array Event->Prop)(S:ar->St->Prop):Rk->ar->St->Prop
 |.leaf,g,s=>S g s
 |.node f,g,s=>S g s∨(∃s',(eH s s'∨(X.CC/\nB s s'))/\kT X E S (f s) g s') ∨
   (g.status=.running/\∀a,X.rely s a->∃g' s' es,aG P X.main g a.w=.go g' s'.w es/\(rW a s' es∨E a s' es)/\kT X E S (f a) g' s')
variable {X:Cx P}{E:St->St->Array Event->Prop}{c:ar->St->Prop}
def eE(X:Cx P)(E:St->St->Array Event->Prop)(S:ar->St->Prop)(g:ar)(s:St):Prop:=∃r,kT X E S r g s
theorem eE.ghost(h:eH s s')(k:eE X E S g s'):eE X E S g s:=by obtain⟨r,k⟩:=k;exact⟨.node λ_=>r,.inr (.inl ⟨s',.inl h,k⟩)⟩
def eE.forget(hl:X.CC)(h:nB s s')(k:eE X E S g s'):eE X E S g s:=by obtain⟨r,k⟩:=k;exact⟨.node λ_=>r,.inr (.inl ⟨s',.inr ⟨hl,h⟩,k⟩)⟩
def eE.step(d:g.status=.running)(h:∀a,X.rely s a->∃g' s' es,aG P X.main g a.w=.go g' s'.w es/\(rW a s' es∨E a s' es)/\eE X E S g' s'):eE X E S g s:=by
 classical
 have hh:∀a,∃r:Rk,X.rely s a->∃g' s' es,aG P X.main g a.w=.go g' s'.w es/\(rW a s' es∨E a s' es)/\kT X E S r g' s':=by
  intro a;by_cases b:X.rely s a
  .obtain⟨g',s',es,h1,h2,r,e⟩:=h a b;exact⟨r,λ_=>⟨g',s',es,h1,h2,e⟩⟩
  .exact⟨.leaf,λh=>absurd h b⟩
 exact⟨.node λa=>Classical.choose (hh a),.inr (.inr ⟨d,λa b=>Classical.choose_spec (hh a) b⟩)⟩
def eE.bind(h:eE X E S g s)(k:∀g s,S g s->eE X E c g s):eE X E c g s:=by
 obtain⟨r,h⟩:=h;induction r generalizing g s with
 |leaf=>exact k g s h
 |node f a =>
  rcases h with h|⟨s',h1,h2⟩|⟨b,h⟩
  .grind
  .rcases h1 with h1|⟨hl,h1⟩
   .exact .ghost h1 (a _ h2)
   .exact .forget hl h1 (a _ h2)
  .exact .step b λe d=>by grind
def fL.toE(hj:∀g s T,¬X.y9 g s T)(h:fL X S g s):eE X E S g s:=by
 induction h with
 |stop h=>exact⟨.leaf,h⟩
 |step ng ns ne hr h1 h2 _ a=>exact .step hr λd b=>⟨_,_,_,h1 d b,.inl (h2 d b),a d b⟩
 |ghost hg _ a=>exact .ghost hg a
 |forget hl hg _ a=>exact .forget hl hg a
 |y9 hjj _ _=>grind
def kT.norm(I:St->Prop)(m:∀s s',eH s s'->I s->I s')(k:X.CC->∀s s',nB s s'->I s->I s'):∀{r:Rk}{g:ar}{s:St},kT X E S r g s->I s ->
  (∃s',I s'/\S g s')∨(g.status=.running/\∃s',I s'/\∀a,X.rely s' a->∃g' s2 es r',aG P X.main g a.w=.go g' s2.w es/\(rW a s2 es∨E a s2 es)/\kT X E S r' g' s2/\Rk.lt r' r)
 |.leaf,_,s,h,hi=>.inl ⟨s,hi,h⟩
 |.node f,g,s,h,hi=>by
  rcases h with h|⟨s',h1,h2⟩|⟨o,h⟩
  .grind
  .have j:I s':=h1.elim (λx=>m s s' x hi) λx=>k x.1 s s' x.2 hi;rcases kT.norm I m k h2 j with l|⟨l,s2,q,p⟩
   .grind
   .refine .inr ⟨l,s2,q,λa i=>?_⟩;obtain⟨g',d,es,r',k1,b,e,n⟩:=p a i;exact⟨g',d,es,r',k1,b,e,s,.inr n⟩
  .refine .inr ⟨o,s,hi,λa i=>?_⟩;obtain⟨g',d,es,k1,b,e⟩:=h a i;exact⟨g',d,es,f a,k1,b,e,a,.inl rfl⟩
def eE.goes{R:ay->ay->Prop}{D:ay->ay->Array Event->Prop}{Stop:ar->ay->Prop}(I:St->Prop)(j:∀s a,I s->X.rely s a->I a)(e:∀s a,I s->X.rely s a->R s.w a.w)(m:∀s es,I s->∀w',D s.w w' es->w'=s.w/\(rW s s es∨E s s es))(i:∀s,I s->X.rely s s)(k:∀g s,I s->Stop g s.w->eE X E S g s):
  ∀(n:Nat) (g:ar) (s:St),I s->Goes P X.main R D Stop n g s.w->eE X E S g s
 |0,g,s,hi,h=>k g s hi (h s.w (e s s hi (i s hi)))
 |n+1,g,s,hi,h=>by
  rcases h with h|⟨o,h⟩
  .grind
  .refine .step o λa l=>?_;have h1:=h a.w (e s a hi l);have d:=j s a hi l;cases b:aG P X.main g a.w with
   |go g' w' es =>
    rw[b,goes_go]at h1;obtain⟨p,q⟩:=h1;obtain⟨rfl,f⟩:=m a es d w' p;exact⟨g',a,es,rfl,f,eE.goes I j e m i k n g' a d q⟩
   |_=>rw[b]at h1;exact h1.elim
end
theorem cw.ghost(h:cw s {s with w:=w})(k:eH s s'):cw s' {s' with w:=w}:=by
 refine⟨rfl,rfl,rfl,by rw[k.w];exact h.size,λb a=>by rw[k.w];exact h.fA b (k.blk b a),λb o v e=>?_,by rw[k.w];exact h.os,by rw[k.w];exact h.tape,by rw[k.w];exact h.output⟩;have f:=k.cell b o v e;by_cases a:∃L∈s.β,b∈L.bs
 .have:=h.fA b (.inr a);simp only[aP]at f⊢;grind
 .have:s.M b o=aa v:=by rw[<-k.jo b (λL g d=>a ⟨L,g,d⟩)];exact e
  exact h.mem b o v this
def cw.forget(h:cw s {s with w:=w})(k:nB s s'):cw s' {s' with w:=w} :=
 ⟨rfl,rfl,rfl,by rw[k.w];exact h.size,λb a=>by rw[k.w];exact h.fA b (by rw[<-k.own,<-k.β];exact a),λb o v d=>h.mem b o v (k.less b o v d),by rw[k.w];exact h.os,by rw[k.w];exact h.tape,by rw[k.w];exact h.output⟩
def cw.xB(h:hI s):cw s s:=⟨rfl,rfl,rfl,bh _,λ_ _=>rfl,h,rfl,rfl,rfl⟩
def cw.trans'(h:cw s {s with w:=w}):cw {s with w:=w} {s with w:=w}:=cw.xB h.mem
def cw.trans{s d s2:St}(h:cw s d)(k:cw d s2):cw s s2 :=
 ⟨k.β.trans h.β,k.M.trans h.M,k.own.trans h.own,iN h.size k.size,λb a=>by rw[k.fA b (by rw[h.own,h.β];exact a),h.fA b a],λb o v e=>k.mem b o v (by rw[h.M];exact e),k.os.trans h.os,k.tape.trans h.tape,k.output.trans h.output⟩
end
section
open Go.Conc
open Go.ConcN (fork_knows RelBy)
open Go.ConcR (stA smA)
def mz:Go.Loc->Option Nat
 |.cell a=>aa a.block
 |.obj r=>aa r
 |_=>ae
def C2{l:Go.Loc}(h:l.isMemory=ab):∃b,mz l=aa b:=by cases l<;>simp[Go.Loc.isMemory]at h<;>exact⟨_,rfl⟩
def IF{x:MemAct}{a:Touch}{B:Nat}(h:x.touch?=aa a)(g:x.low B)(c:mz a.loc=aa b):b<B:=by
 cases x with
 |access e =>
  simp[MemAct.touch?]at h;subst h;simp only at c;obtain⟨loc,wr,i⟩:=e;cases loc<;>simp[mz]at c<;>subst c<;>exact g
 |mark m =>
  cases m<;>simp[MemAct.touch?]at h<;>subst h<;>simp[mz]at c<;>subst c<;>exact g
 |_=>simp[MemAct.touch?]at h
structure Lay where
 Sh:Nat->Prop
 T0:Nat
 Wg:Nat
 C:Nat
 base:Nat
 kc:Nat
def tq(Y:Lay)(d:Nat->Nat)(a:Touch):Prop :=
 (∃ad,a.loc=.cell ad/\ad.block=Y.Wg/\a.kind≠.plain)∨(∃b,mz a.loc=aa b/\d b=0/\b≠Y.Wg/\b≠Y.C/\¬Y.Sh b/\a.kind=.plain)
def rI(Y:Lay)(d:Nat->Nat)(f:Mem)(x:Nat)(a:Touch):Prop :=
 (∃ad,a.loc=.cell ad/\ad.block=Y.Wg/\a.kind=.atomic) ∨
 (a.kind=.plain/\((∃b,mz a.loc=aa b/\d b=Y.base+x)∨(∃o,a.loc=.cell ⟨Y.C,o,ae⟩/\Y.kc*x<=o/\o<Y.kc*x+Y.kc)∨(a.write=af/\∃b o v,a.loc=.cell ⟨b,o,ae⟩/\f b o=aa v)))
structure TL(Y:Lay)(d:Nat->Nat)(f:Nat->Mem)(t:Trace)(j B:Nat):Prop where
 base:1<=Y.base
 J4:d Y.Wg=0
 hC:d Y.C=0
 ne:Y.C≠Y.Wg
 Rq:¬Y.Sh Y.Wg
 S5:¬Y.Sh Y.C
 J5:∀b,Y.Sh b->d b=0
 ms:∀x,x<j->∀b o v,f x b o=aa v->d b=0/\b≠Y.C/\b≠Y.Wg/\¬Y.Sh b
 T0:Y.T0<=t.size
 nr:∀said,¬Race said t
 seen:∀op∈t,op.act.low B
 old:∀i a,i<Y.T0->touchAt t i=aa a->a.loc.isMemory=ab->Knows t 0 i∨(mr Y.Sh a.loc/\a.kind=.atomic)
 S6:∀x,x<j->∀i a,i<Y.T0->touchAt t i=aa a->a.loc.isMemory=ab->Knows t (Y.base+x) i∨(mr Y.Sh a.loc/\a.kind=.atomic)
 IG:∀i a b,i<Y.T0->touchAt t i=aa a->mz a.loc=aa b->d b=0
 new:∀i a,Y.T0<=i->touchAt t i=aa a->a.loc.isMemory=ab->(t.g? i=aa 0/\tq Y d a)∨(∃x,x<j/\t.g? i=aa (Y.base+x)/\rI Y d (f x) x a)
 mw:∀x,x<j->∀i a,Y.T0<=i->touchAt t i=aa a->t.g? i=aa 0->a.write=ab->∀b o v,a.loc=.cell ⟨b,o,ae⟩->f x b o=aa v->Knows t (Y.base+x) i
 over:∀i g,i<Y.T0->t.g? i=aa g->g≠0->t.counts i->∃k,t.g? k=aa 0/\HappensBefore t i k
section
variable {Y:Lay}{d hm':Nat->Nat}{f:Nat->Mem}{t u:Trace}{B B':Nat}
theorem wF{a:Touch}{g:Nat}(h:touchAt t i=aa a)(b:t.g? i=aa g):Knows t g i:=by
 obtain⟨x,c,_⟩:=touch_of h;have:x.g=g:=by simpa[Trace.g?,c]using b
 grind[knows_own]
def TL.low(h:TL Y d f t j B){a:Touch}(e:touchAt t i=aa a)(g:mz a.loc=aa b):b<B:=by obtain⟨x,k,c⟩:=touch_of e;exact IF c (h.seen x (qy k)) g
def TL.uw(h:TL Y d f t j B)(hh:∀b,b<B->hm' b=d b)(hB:B<=B')(s:Y.Wg<B)(hC:Y.C<B)(r:∀b,Y.Sh b->b<B)(q:∀x,x<j->∀b o v,f x b o=aa v->b<B):TL Y hm' f t j B':=by
 have g:∀i a,touchAt t i=aa a->tq Y d a->tq Y hm' a:=λi a c h1=>by
  rcases h1 with h1|⟨b,h1,h2,n⟩
  .exact .inl h1
  .exact .inr ⟨b,h1,by rw[hh b (h.low c h1)];exact h2,n⟩
 have k:∀x i a,touchAt t i=aa a->rI Y d (f x) x a->rI Y hm' (f x) x a:=λx i a c h1=>by
  rcases h1 with h1|⟨p,⟨b,h1,h2⟩|h1⟩
  .exact .inl h1
  .exact .inr ⟨p,.inl ⟨b,h1,by rw[hh b (h.low c h1)];exact h2⟩⟩
  .exact .inr ⟨p,.inr h1⟩
 refine⟨h.base,by rw[hh _ s];exact h.J4,by rw[hh _ hC];exact h.hC,h.ne,h.Rq,h.S5,λb e=>by rw[hh b (r b e)];exact h.J5 b e,λx l b o v m=>by rw[hh b (q x l b o v m)];exact h.ms x l b o v m,
  h.T0,h.nr,λop mY=>MemAct.low_mono hB (h.seen op mY),h.old,h.S6,λi a b hi c e=>by rw[hh b (h.low c e)];exact h.IG i a b hi c e,λi a hi c d=>?_,h.mw,h.over⟩
 rcases h.new i a hi c d with⟨h1,h2⟩|⟨x,h1,h2,n⟩
 .grind
 grind
def TL.Pd(h:TL Y d f t j B):Y.T0<=(t++u).size:=iN h.T0 (by simp)
theorem la(h:i<t.size):(t++u).g? i=t.g? i:=by simp[Trace.g?,getElem?_append_old h]
def TL.tu(h:TL Y d f t j B)(u:Trace):∀i g,i<Y.T0->(t++u).g? i=aa g->g≠0->(t++u).counts i->∃k,(t++u).g? k=aa 0/\HappensBefore (t++u) i k:=by
 intro i g hi hg CE hc;have a:=c9 hi h.T0;rw[la a]at hg;obtain⟨k,hk,b⟩:=h.over i g hi hg CE ((counts_old a).1 hc);have c:k<t.size:=by unfold Trace.g? at hk;grind
 exact⟨k,by grind[la],hb_app u b⟩
def C3{c:Nat->Prop}{l:Go.Loc}(h:mr c l)(a:mz l=aa b):c b:=by cases l<;>simp[mz]at a<;>subst a<;>exact h
def TL.apart(h:TL Y d f t j B){x:Nat}(p:x<j){a b:Touch}{said:Bool}(hT:tq Y d b)(m:rI Y d (f x) x a)(hl:a.loc=b.loc)(hk:a.kind=.plain∨b.kind=.plain∨(said=ab/\a.kind=.said/\b.kind=.said))(y:b.kind=.plain->b.write=ab->∀l o v,b.loc=.cell ⟨l,o,ae⟩->f x l o≠aa v)(s:a.write=ab∨b.write=ab):False:=by
 have q:=h.base;rcases m with⟨ad,e1,e2,e3⟩|⟨D,⟨c,e1,e2⟩|⟨o,e1,_⟩|⟨e1,l,o,v,e2,e3⟩⟩
 .rcases hT with⟨i,e,g,k⟩|⟨c,e,g,k,_⟩
  .grind
  .rw[<-hl,e1]at e;simp only[mz,dn]at e;grind
 .rcases hT with⟨i,e,g,k⟩|⟨n,e,g,k,_⟩
  .rw[hl,e]at e1;simp only[mz,dn]at e1;rw[<-e1,g,h.J4]at e2;omega
  grind
 .rcases hT with⟨i,e,g,k⟩|⟨n,e,g,k,r,_⟩
  .rw[<-hl,e1]at e;cases e;exact h.ne g
  .rw[<-hl,e1]at e;simp only[mz,dn]at e;grind
 .obtain⟨E,A,w,C⟩:=h.ms x p l o v e3;rcases hT with⟨i,e,g,k⟩|⟨n,e,g,k,r,_,z⟩
  .grind
  grind
def TL.app0(h:TL Y d f t j B)(F:∀op∈u,op.g=0)(hl:∀op∈u,op.act.low B)(G:∀op∈u,∀a,op.act.touch?=aa a->a.loc.isMemory=ab->tq Y d a)(L:∀op∈u,∀a,op.act.touch?=aa a->a.kind=.plain->a.write=ab->∀x,x<j->∀b o v,a.loc=.cell ⟨b,o,ae⟩->f x b o≠aa v):TL Y d f (t++u) j B:=by
 have k:∀{i:Nat} {a:Touch},touchAt (t++u) i=aa a->(i<t.size/\touchAt t i=aa a)∨(t.size<=i/\(t++u).g? i=aa 0/\∃op∈u,op.act.touch?=aa a):=by
  intro i a e;obtain⟨x,q,A⟩:=touch_of e;rcases getElem?_append_cases q with⟨hi,J⟩|⟨hi,s⟩
  .grind [touchAt_of]
  .exact .inr ⟨hi,by simp[Trace.g?,q,F x s],x,s,A⟩
 refine⟨h.base,h.J4,h.hC,h.ne,h.Rq,h.S5,h.J5,h.ms,h.Pd,λsaid=>?_,seen_app h.seen hl,λi a hi e d=>?_,λx q i a hi e d=>?_,λi a b hi e y=>?_,λi a hi e d=>?_,λx q i a hi e z C b o v n H=>?_,h.tu u⟩
 .refine noRace_append (h.nr said) F λi a e op mY b y p=>?_;have D:b.loc.isMemory=ab:=by rw[<-p.1];exact p.2.1
  have hT:=G op mY b y D;rcases cN i Y.T0 with hi|hi
  .rcases h.old i a hi e p.2.1 with hk|⟨M,K⟩
   .exact hk
   .exfalso;obtain⟨c,m⟩:=C2 p.2.1;have w:=C3 M m;rcases hT with⟨ad,e1,e2,e3⟩|⟨I,e1,e2,e3,O,P,N⟩
    .rw[p.1,e1]at m;simp only[mz,dn]at m;rw[<-m,e2]at w;exact h.Rq w
    .rw[p.1,e1]at m;grind
  .rcases h.new i a hi e p.2.1 with⟨z,_⟩|⟨x,q,z,E⟩
   .grind [wF]
   .exact(h.apart q hT E p.1 p.2.2.2 (λh1 h2=>L op mY b y h1 h2 x q) p.2.2.1).elim
 .have l:touchAt t i=aa a:=by rw[<-touchAt_old (u:=u) (c9 hi h.T0)];exact e
  exact(h.old i a hi l d).imp (·.app u) id
 .have l:touchAt t i=aa a:=by rw[<-touchAt_old (u:=u) (c9 hi h.T0)];exact e
  exact(h.S6 x q i a hi l d).imp (·.app u) id
 .have l:touchAt t i=aa a:=by rw[<-touchAt_old (u:=u) (c9 hi h.T0)];exact e
  exact h.IG i a b hi l y
 .rcases k e with⟨h1,h2⟩|⟨_,h2,op,mY,r⟩
  .rw[la h1];exact h.new i a hi h2 d
  grind
 .rcases k e with⟨h1,h2⟩|⟨_,h2,op,mY,r⟩
  .rw[la h1]at z;exact(h.mw x q i a hi h2 z C b o v n H).app u
  .exfalso;rcases G op mY a r (by rw[n];rfl)with⟨ad,e1,e2,e3⟩|⟨I,_,_,_,_,_,N⟩
   .rw[n]at e1;cases e1;exact(h.ms x q b o v H).2.2.1 e2
   grind
def TL.appW(h:TL Y d f t j B){x:Nat}(C:x<j)(X:∀op∈u,op.g=Y.base+x)(hl:∀op∈u,op.act.low B)(ht:∀op∈u,∀a,op.act.touch?=aa a->a.loc.isMemory=ab->rI Y d (f x) x a):TL Y d f (t++u) j B:=by
 have Z:=h.base;have r:∀{i:Nat} {a:Touch},touchAt (t++u) i=aa a->(i<t.size/\touchAt t i=aa a)∨(t.size<=i/\(t++u).g? i=aa (Y.base+x)/\∃op∈u,op.act.touch?=aa a):=by
  intro i a q;obtain⟨y,w,S⟩:=touch_of q;rcases getElem?_append_cases w with⟨hi,hy'⟩|⟨hi,E⟩
  .grind [touchAt_of]
  .exact .inr ⟨hi,by simp[Trace.g?,w,X y E],y,E,S⟩
 refine⟨h.base,h.J4,h.hC,h.ne,h.Rq,h.S5,h.J5,h.ms,h.Pd,λsaid=>?_,seen_app h.seen hl,λi a hi q d=>?_,λy w i a hi q d=>?_,λi a b hi q K=>?_,λi a hi q d=>?_,λy w i a hi q F I b o v H U=>?_,h.tu u⟩
 .refine noRace_append (h.nr said) X λi a q op mY b K z=>?_;have Q:b.loc.isMemory=ab:=by rw[<-z.1];exact z.2.1
  have hT:=ht op mY b K Q;obtain⟨c,l⟩:=C2 z.2.1;rcases cN i Y.T0 with hi|hi
  .rcases h.S6 x C i a hi q z.2.1 with hk|⟨hs,hka⟩
   .exact hk
   .exfalso;have n:=C3 hs l;rw[z.1]at l;rcases hT with⟨ad,e1,e2,e3⟩|⟨e0,⟨c',e1,e2⟩|⟨o,e1,_⟩|⟨e1,p,o,v,e2,e3⟩⟩
    .rw[e1]at l;simp only[mz,dn]at l;rw[<-l,e2]at n;exact h.Rq n
    .rw[e1]at l;simp only[dn]at l;rw[<-l]at n;rw[h.J5 _ n]at e2;omega
    .rw[e1]at l;simp only[mz,dn]at l;rw[<-l]at n;exact h.S5 n
    .rw[e2]at l;simp only[mz,dn]at l;rw[<-l]at n;exact(h.ms x C p o v e3).2.2.2 n
  .rcases h.new i a hi q z.2.1 with⟨F,O⟩|⟨y,w,F,R⟩
   ·
    by_cases G:a.write=ab/\∃p o v,a.loc=.cell ⟨p,o,ae⟩/\f x p o=aa v
    .obtain⟨h1,p,o,v,h2,V⟩:=G;exact h.mw x C i a hi q F h1 p o v h2 V
    .exfalso;refine h.apart (said:=said) C O hT z.1.symm ?_ (λ_ M p o v k U=>G ⟨M,p,o,v,k,U⟩) z.2.2.1.symm;rcases z.2.2.2 with hk|hk|⟨h1,h2,V⟩
     .grind
     .grind
     grind
   .by_cases T:y=x
    .grind [wF]
    .exfalso;obtain⟨k,_,I,J⟩:=z;rcases R with⟨ad,e1,e2,e3⟩|⟨e0,⟨c1,e1,e2⟩|⟨o,e1,e1l,e1u⟩|⟨e1,p,o,v,e2,e3⟩⟩
     .rcases hT with⟨D,e,m,A⟩|⟨f0,⟨c2,e,m⟩|⟨o,e,_⟩|⟨e,p,o,v,m,A⟩⟩
      .grind
      .rw[<-k,e1]at e;simp only[mz,dn]at e;rw[<-e,e2,h.J4]at m;omega
      .rw[<-k,e1]at e;cases e;exact h.ne e2
      .rw[<-k,e1]at m;cases m;exact(h.ms x C p o v A).2.2.1 e2
     .rcases hT with⟨D,e,m,A⟩|⟨f0,⟨c2,e,m⟩|⟨o,e,_⟩|⟨e,p,o,v,m,A⟩⟩
      .rw[k,e]at e1;simp only[mz,dn]at e1;rw[<-e1,m,h.J4]at e2;omega
      .grind
      .rw[k,e]at e1;simp only[mz,dn]at e1;rw[<-e1,h.hC]at e2;omega
      .rw[k,m]at e1;simp only[mz,dn]at e1;rw[<-e1,(h.ms x C p o v A).1]at e2;omega
     .rcases hT with⟨D,e,m,A⟩|⟨f0,⟨c2,e,m⟩|⟨L,e,P,N⟩|⟨e,p,L,v,m,A⟩⟩
      .rw[<-k,e1]at e;cases e;exact h.ne m
      .rw[<-k,e1]at e;simp only[mz,dn]at e;rw[<-e,h.hC]at m;omega
      .rw[<-k,e1]at e;cases e;rcases Nat.lt_or_gt_of_ne T with h1|h1
       .have:=wi Y.kc (show y+1<=x from h1);grind
       .have:=wi Y.kc (show x+1<=y from h1);grind
      .rw[<-k,e1]at m;cases m;exact(h.ms x C _ _ v A).2.1 rfl
     .rcases hT with⟨D,e,m,A⟩|⟨f0,⟨c2,e,m⟩|⟨L,e,P,N⟩|⟨e,b2,L,v',m,A⟩⟩
      .rw[<-k,e2]at e;cases e;exact(h.ms y w p o v e3).2.2.1 m
      .rw[<-k,e2]at e;simp only[mz,dn]at e;rw[<-e,(h.ms y w p o v e3).1]at m;omega
      .rw[<-k,e2]at e;cases e;exact(h.ms y w _ _ v e3).2.1 rfl
      grind
 .have s:touchAt t i=aa a:=by rw[<-touchAt_old (u:=u) (c9 hi h.T0)];exact q
  exact(h.old i a hi s d).imp (·.app u) id
 .have s:touchAt t i=aa a:=by rw[<-touchAt_old (u:=u) (c9 hi h.T0)];exact q
  exact(h.S6 y w i a hi s d).imp (·.app u) id
 .have s:touchAt t i=aa a:=by rw[<-touchAt_old (u:=u) (c9 hi h.T0)];exact q
  exact h.IG i a b hi s K
 .rcases r q with⟨h1,h2⟩|⟨_,h2,op,mY,W⟩
  .rw[la h1];exact h.new i a hi h2 d
  grind
 .rcases r q with⟨h1,h2⟩|⟨_,h2,_⟩
  .rw[la h1]at F;exact(h.mw y w i a hi h2 F I b o v H U).app u
  grind
def TL.mute(h:TL Y d f t j B){g:Nat}(q:∀op∈u,op.g=g)(hl:∀op∈u,op.act.low B)(s:∀op∈u,op.act.touch?=ae):TL Y d f (t++u) j B:=by
 have old:∀{i:Nat} {a:Touch},touchAt (t++u) i=aa a->i<t.size/\touchAt t i=aa a:=by intro i a c;obtain⟨y,w,p⟩:=touch_of c;grind[touchAt_of]
 refine⟨h.base,h.J4,h.hC,h.ne,h.Rq,h.S5,h.J5,h.ms,h.Pd,λsaid=>noRace_append (h.nr said) q λi a _ op mY b m _=>(by grind),seen_app h.seen hl,λi a hi c d=>(h.old i a hi (old c).2 d).imp (·.app u) id,
  λx k i a hi c d=>(h.S6 x k i a hi (old c).2 d).imp (·.app u) id,λi a b hi c m=>h.IG i a b hi (old c).2 m,λi a hi c d=>?_,λx k i a hi c n l b o v e r=>?_,h.tu u⟩
 .rw[la (old c).1];exact h.new i a hi (old c).2 d
 .rw[la (old c).1]at n;exact(h.mw x k i a hi (old c).2 n l b o v e r).app u
def TL.fork(h:TL Y d f t j B){x y:MemOp}(m:x.g=0/\x.act=.go (Y.base+j))(n:y.g=Y.base+j/\y.act=.start)(D:Deaf t 0=0)(hk:Deaf t (Y.base+j)=0)(G:∀b o v,f j b o=aa v->d b=0/\b≠Y.C/\b≠Y.Wg/\¬Y.Sh b):TL Y d f (t++#[x,y]) (j+1) B:=by
 have F:∀op∈#[x,y],op.act.touch?=ae:=by
  intro op mY;simp only[List.mem_toArray,eb,oF,jy]at mY;rcases mY with rfl|rfl
  .rw[m.2];rfl
  .rw[n.2];rfl
 have l:∀op∈#[x,y],op.act.low B:=by
  intro op mY;simp only[List.mem_toArray,eb,oF,jy]at mY;rcases mY with rfl|rfl
  .rw[m.2];trivial
  .rw[n.2];trivial
 have old:∀{i:Nat} {a:Touch},touchAt (t++#[x,y]) i=aa a->i<t.size/\touchAt t i=aa a:=by intro i a c;obtain⟨z,p,E⟩:=touch_of c;grind[touchAt_of]
 have q:∀z,z<j+1->∀b o v,f z b o=aa v->d b=0/\b≠Y.C/\b≠Y.Wg/\¬Y.Sh b:=λz p b o v r=>by
  rcases cN z j with h1|h1
  .exact h.ms z h1 b o v r
  grind
 refine⟨h.base,h.J4,h.hC,h.ne,h.Rq,h.S5,h.J5,q,h.Pd,λsaid=>?_,seen_app h.seen l,λi a hi c d=>(h.old i a hi (old c).2 d).imp (·.app _) id,
  λz p i a hi c d=>?_,λi a b hi c s=>h.IG i a b hi (old c).2 s,λi a hi c d=>?_,λz p i a hi c w A b o v k r=>?_,h.tu _⟩
 .have e:t++#[x,y]=(t++#[x])++#[y]:=by grind
  rw[e];refine noRace_append (g:=Y.base+j) (noRace_append (g:=0) (h.nr said) (λop mY=>by grind) (λi a _ op mY b s _=>?_)) (λop mY=>by grind) (λi a _ op mY b s _=>?_)
  .grind
  grind
 .rcases cN z j with h1|h1
  .exact(h.S6 z h1 i a hi (old c).2 d).imp (·.app _) id
  .obtain rfl:z=j:=by omega
   exact(h.old i a hi (old c).2 d).imp (fork_knows m n D hk) id
 .rw[la (old c).1];rcases h.new i a hi (old c).2 d with h1|⟨z,h1,h2⟩
  .grind
  grind
 .rw[la (old c).1]at w;rcases cN z j with h1|h1
  .exact(h.mw z h1 i a hi (old c).2 w A b o v k r).app _
  .obtain rfl:z=j:=by omega
   exact fork_knows m n D hk (wF (old c).2 w)
def TL.Y4(h:TL Y d f t j B)(K:Deaf t 0=0)(G:NoRelease (stA Y.Wg) t){q:Nat}(L:t.act? q=aa (.mark (.acquire (stA Y.Wg))))(w:t.g? q=aa 0)(A:t.heard q)(M:∀x,x<j->∃r,RelBy (stA Y.Wg) t (Y.base+x) r/\r<q):Past (mr λb=>Y.Sh b∨b=Y.Wg) B t:=by
 have m:∀x,x<j->∀i,t.g? i=aa (Y.base+x)->t.counts i->HappensBefore t i q:=by
  intro x y i p s;obtain⟨r,c,C⟩:=M x y;have e:HappensBefore t r q:=.single (.inr ⟨.marked C (.inr c.act) L (λk _ _=>G k),c.heard,A⟩);have J:i<=r:=Nat.le_of_not_lt λo=>c.after i o p s;rcases cN i r with o|H
  .exact .trans (.single (.inl ⟨o,_,p,c.g⟩)) e
  grind
 have n:∀{l:Go.Loc},mr Y.Sh l->mr (λb=>Y.Sh b∨b=Y.Wg) l:=λ{l} hl=>by cases l<;>first|exact .inl hl|exact hl
 refine⟨h.nr,λi a v d=>?_,λi g p F s=>?_,K,h.seen⟩
 .rcases cN i Y.T0 with hi|hi
  .exact(h.old i a hi v d).imp id λ⟨h1,h2⟩=>⟨n h1,h2⟩
  .rcases h.new i a hi v d with⟨h1,_⟩|⟨x,y,p,hT⟩
   .grind [wF]
   .rcases hT with⟨ad,e1,e2,e3⟩|⟨N,_⟩
    .exact .inr ⟨by rw[e1];exact .inr e2,e3⟩
    .left;have s:t.counts i:=⟨a,v,d,.inl (by grind)⟩
     obtain⟨z,I,D⟩:=rU.1 w;exact⟨q,z,I,D,.inr (m x y i p s)⟩
 .rcases cN i Y.T0 with hi|hi
  .exact h.over i g hi p F s
  .obtain⟨a,v,d,hk⟩:=s;rcases h.new i a hi v d with⟨h1,_⟩|⟨x,y,E,hT⟩
   .grind
   .exact⟨q,w,m x y i E ⟨a,v,d,hk⟩⟩
def TL.start{Y:Lay}{t:Trace}{B:Nat}{f:Nat->Mem}(e:Past (mr Y.Sh) B t)(hT:Y.T0=t.size)(l:1<=Y.base)(b:Y.C≠Y.Wg)(j:¬Y.Sh Y.Wg)(h:¬Y.Sh Y.C):TL Y (λ_=>0) f t 0 B :=
 ⟨l,rfl,rfl,b,j,h,λ_ _=>rfl,λx c=>absurd c (fy x),by omega,e.clean,e.seen,λi a _ k d=>e.known i a k d,λx c=>absurd c (fy x),λ_ _ _ _ _ _=>rfl,
  λi a hi k _=>by
   obtain⟨x,c,_⟩:=touch_of k
   grind,λx c=>absurd c (fy x),λi g _ m b n=>e.over i g m b n⟩
end
end
section
open Go.Conc
open Go.ConcN (WD CTag Mode Vc Ssum pend phi cnt WgLive PayAt Has RW DWs WSit RelBy sumTo upd upd_same upd_ne AtR0 get_map_set get_map_set_same norel_of Deaf_still)
open Go.ConcR (KK WgAt stA smA rd wr mk Payload g_of_ofEvents)
def Cx.work(P:aJ):Cx P:={main:=af,rely:=cw,y9:=λ_ _ _=>False,iS:=id,CC:=True}
def Cx.lead(P:aJ)(ty:av)(Wg:Nat):Cx P:={main:=ab,rely:=λs s'=>cw s s'/\(WgLive ty Wg s.w->WgLive ty Wg s'.w),y9:=λ_ _ _=>False,iS:=λh=>h.1,CC:=False}
instance (P:aJ):(Cx.work P).ik:=⟨ak⟩
def E0:St->St->Array Event->Prop:=λ_ _ _=>False
def Es(Wg:Nat):St->St->Array Event->Prop:=λs s' es=>s'=s/\∃a:Addr,a.block=Wg/\(es=#[mk (.read a)]∨es=#[mk (.write a)])
def Rr:Nat->Go.Loc->Prop:=λ_ _=>False
variable [Payload]
structure VS(C N lo k:Nat)(vs:Nat->ai)(w w':ay):Prop where
 tape:w'.tape=w.tape
 os:w'.os=w.os
 output:w'.output=w.output
 size:w'.heap.size=w.heap.size
 block:∀b,b≠C->w'.heap[b]?=w.heap[b]?
 pay:PayAt C N w'
 out:∀o,(o<lo∨lo+k<=o)->w'.cell? ⟨C,o,ae⟩=w.cell? ⟨C,o,ae⟩
 new:∀i,i<k->w'.cell? ⟨C,lo+i,ae⟩=aa (vs i)
section
variable (P:aJ)(ty:av)(Y:Lay)(N:Nat)(val:Nat->Nat->ai)
def KW(x:Nat)(g:ar)(s:St):Prop :=
 g.status=.running/\∀w1,cw s {s with w:=w1}->PayAt Y.C N w1->WgLive ty Y.Wg w1 ->
  ∃g' w2 es,aG P af g w1=.go g' w2 es/\VS Y.C N (Y.kc*x) Y.kc (val x) w1 w2/\(∀e∈es,∃o,e=⟨.cell ⟨Y.C,o,ae⟩,ab,af⟩/\Y.kc*x<=o/\o<Y.kc*x+Y.kc) /\
   ∃m,Goes P af (RW ty Y.Wg Y.C N 0 (Y.kc*x)) Go.ConcR.DC0 (AtR0 P ty Y.Wg Y.C N 0 (Y.kc*x+1) (val x 0)) m g' w2
end
structure mD(f:Nat->Nat)(r:Mem)(g:Nat)(s:St):Prop where
 blk:∀b,(s.own b∨∃L∈s.β,b∈L.bs)->f b=g/\b<s.w.heap.size
 M:∀b o v,s.M b o=aa v->(f b=g∨r b o=aa v)/\b<s.w.heap.size
structure kl(Y:Lay)(f:Nat->Nat)(E:Nat->Mem)(j:Nat)(s:St):Prop where
 blk:∀b,(s.own b∨∃L∈s.β,b∈L.bs)->f b=0/\b≠Y.C/\b≠Y.Wg/\¬Y.Sh b/\b<s.w.heap.size
 M:∀b o v,s.M b o=aa v->f b=0/\b≠Y.C/\b≠Y.Wg/\¬Y.Sh b/\b<s.w.heap.size
 ms:∀x,x<j->∀b o v,E x b o=aa v->s.M b o=aa v
structure IH(Y:Lay)(f:Nat->Nat)(r:Mem)(y:Nat)(w w':ay):Prop where
 size:w.heap.size<=w'.heap.size
 blk:∀b,b<w.heap.size->f b=Y.base+y->w'.heap[b]?=w.heap[b]?
 cell:∀b o v,r b o=aa v->w.cell? ⟨b,o,ae⟩=aa v->w'.cell? ⟨b,o,ae⟩=aa v
 pay:∀o,Y.kc*y<=o->o<Y.kc*y+Y.kc->w'.cell? ⟨Y.C,o,ae⟩=w.cell? ⟨Y.C,o,ae⟩
 os:w'.os=w.os
 tape:w'.tape=w.tape
 output:w'.output=w.output
omit [Payload]in
def IH.refl(Y:Lay)(f:Nat->Nat)(r:Mem)(y:Nat)(w:ay):IH Y f r y w w:=⟨bh _,λ_ _ _=>rfl,λ_ _ _ _ h=>h,λ_ _ _=>rfl,rfl,rfl,rfl⟩
omit [Payload]in
def IH.at(Y:Lay)(f:Nat->Nat)(r:Mem)(y:Nat)(w:ay)(d:Nat):IH Y f r y w (w.at d):=⟨bh _,λ_ _ _=>rfl,λ_ _ _ _ h=>h,λ_ _ _=>rfl,rfl,rfl,rfl⟩
structure Fp(Y:Lay)(f:Nat->Nat)(w w':ay):Prop where
 size:w.heap.size<=w'.heap.size
 blk:∀b,b<w.heap.size->f b=0->b≠Y.C->b≠Y.Wg->w'.heap[b]?=w.heap[b]?
 os:w'.os=w.os
 tape:w'.tape=w.tape
 output:w'.output=w.output
omit [Payload]in
def km(h:w'.heap[b]?=w.heap[b]?)(o:Nat):w'.cell? ⟨b,o,ae⟩=w.cell? ⟨b,o,ae⟩:=by simp[aP,h]
omit [Payload]in
def cw.more(h:cw s {s with w:=w})(z:w.heap.size<=w'.heap.size)(c:∀b,(s.own b∨∃L∈s.β,b∈L.bs)->w'.heap[b]?=w.heap[b]?)(X:∀b o v,s.M b o=aa v->w.cell? ⟨b,o,ae⟩=aa v->w'.cell? ⟨b,o,ae⟩=aa v)(l:w'.os=w.os)(p:w'.tape=w.tape)(t:w'.output=w.output):cw s {s with w:=w'} :=
 ⟨rfl,rfl,rfl,iN h.size z,λb J=>by show w'.heap[b]?=_;rw[c b J];exact h.fA b J,λb o v q=>X b o v q (h.mem b o v q),l.trans h.os,p.trans h.tape,t.trans h.output⟩
section
variable {Y:Lay}{f hm':Nat->Nat}{E:Nat->Mem}{y:Nat}
omit [Payload]in
def mD.KX(n:mD f (E y) (Y.base+y) s)(h:cw s {s with w:=w})(k:IH Y f (E y) y w w'):cw s {s with w:=w'}:=by
 have z:=h.size;refine h.more k.size (λb c=>?_) (λb o v q K=>?_) k.os k.tape k.output
 .obtain⟨l,p⟩:=n.blk b c;exact k.blk b (c9 p z) l
 .obtain⟨l,p⟩:=n.M b o v q;rcases l with l|l
  .rw[km (k.blk b (c9 p z) l) o];exact K
  .exact k.cell b o v l K
omit [Payload]in
def mD.uw{r:Mem}{g:Nat}(n:mD f r g s)(h:s.w.heap.size<=w.heap.size)(W:∀b,b<w.heap.size->hm' b=f b):mD hm' r g s :=
 ⟨λb c=>let ⟨l,p⟩:=n.blk b c;⟨by grind,p⟩,λb o v q=>let ⟨l,p⟩:=n.M b o v q;⟨by grind,p⟩⟩
omit [Payload]in
def kl.KX(n:kl Y f E j s)(h:cw s {s with w:=w})(k:Fp Y f w w'):cw s {s with w:=w'}:=by
 have z:=h.size;refine h.more k.size (λb c=>?_) (λb o v q K=>?_) k.os k.tape k.output
 .obtain⟨l,p,t,F,A⟩:=n.blk b c;exact k.blk b (c9 A z) l p t
 .obtain⟨l,p,t,F,A⟩:=n.M b o v q;rw[km (k.blk b (c9 A z) l p t) o];exact K
omit [Payload]in
def kl.uw(n:kl Y f E j s)(h:s.w.heap.size<=w.heap.size)(W:∀b,b<w.heap.size->hm' b=f b):kl Y hm' E j s :=
 ⟨λb c=>let ⟨l,p,t,F,A⟩:=n.blk b c;⟨by grind,p,t,F,A⟩,
  λb o v q=>let ⟨l,p,t,F,A⟩:=n.M b o v q;⟨by grind,p,t,F,A⟩,n.ms⟩
omit [Payload]in
def mD.rely{r:Mem}{g:Nat}(n:mD f r g s)(h:s.w.heap.size<=w.heap.size):mD f r g {s with w:=w} :=
 ⟨λb c=>let ⟨l,p⟩:=n.blk b c;⟨l,c9 p h⟩,λb o v q=>let ⟨l,p⟩:=n.M b o v q;⟨l,c9 p h⟩⟩
omit [Payload]in
def kl.rely(n:kl Y f E j s)(h:s.w.heap.size<=w.heap.size):kl Y f E j {s with w:=w} :=
 ⟨λb c=>let ⟨l,p,t,F,A⟩:=n.blk b c;⟨l,p,t,F,c9 A h⟩,λb o v q=>let ⟨l,p,t,F,A⟩:=n.M b o v q;⟨l,p,t,F,c9 A h⟩,n.ms⟩
omit [Payload]in
theorem mD.ghost{r:Mem}{g:Nat}(n:mD f r g s)(k:eH s s'):mD f r g s':=by
 refine⟨λb c=>by rw[k.w];exact n.blk b (k.blk b c),λb o v q=>?_⟩;rw[k.w];by_cases c:∃L∈s.β,b∈L.bs
 .obtain⟨l,p⟩:=n.blk b (.inr c);grind
 .exact n.M b o v (by rw[<-k.jo b (λL D u=>c ⟨L,D,u⟩)];exact q)
omit [Payload]in
def mD.forget{r:Mem}{g:Nat}(n:mD f r g s)(k:nB s s'):mD f r g s' :=
 ⟨λb c=>by rw[k.w];exact n.blk b (by rw[<-k.own,<-k.β];exact c),λb o v q=>by rw[k.w];exact n.M b o v (k.less b o v q)⟩
omit [Payload]in
theorem kl.ghost(n:kl Y f E j s)(k:eH s s'):kl Y f E j s':=by
 refine⟨λb c=>by rw[k.w];exact n.blk b (k.blk b c),λb o v q=>?_,λx Q b o v q=>k.mem _ _ _ (n.ms x Q b o v q)⟩;rw[k.w];by_cases c:∃L∈s.β,b∈L.bs
 .exact n.blk b (.inr c)
 .exact n.M b o v (by rw[<-k.jo b (λL D u=>c ⟨L,D,u⟩)];exact q)
def n5(f:Nat->Nat)(B g:Nat):Nat->Nat:=λb=>if b<B then f b else g
omit [Payload]in
theorem fp{f:Nat->Nat}{B g:Nat}(h:b<B):n5 f B g b=f b:=by simp[n5,h]
omit [Payload]in
theorem ux{f:Nat->Nat}{B g:Nat}(h:B<=b):n5 f B g b=g:=by simp[n5,mX.2 h]
omit [Payload]in
def mD.step{r:Mem}{g:Nat}(n:mD f r g s)(H:aE σ' s')(st:Step σ s σ' s'):mD (n5 f s.w.heap.size g) r g s':=by
 refine⟨λb c=>?_,λb o v q=>?_⟩
 .rcases c with c|⟨L,D,c⟩
  .rw[st.own]at c;obtain⟨l,p⟩:=n.blk b (.inl c);exact⟨by grind[fp],c9 p st.size⟩
  .have G:=H.lt L D b c;rcases st.wu L D b c with l|⟨R,I,l⟩
   .grind [ux]
   .obtain⟨k1,O⟩:=n.blk b (.inr ⟨R,I,l⟩);grind[fp]
 .have G:=hI.lt H.mem q;rcases cN b s.w.heap.size with l|l
  .rw[fp l];by_cases c:∃L∈s.β,b∈L.bs
   .exact⟨.inl (n.blk b (.inr c)).1,G⟩
   .rw[st.jo b l (λL D u=>c ⟨L,D,u⟩)]at q;exact⟨(n.M b o v q).1,G⟩
  grind[ux]
omit [Payload]in
def kl.step(n:kl Y f E j s)(H:aE σ' s')(st:Step σ s σ' s')(hW:Y.Wg<s.w.heap.size)(hC:Y.C<s.w.heap.size)(Z:∀b,Y.Sh b->b<s.w.heap.size):kl Y (n5 f s.w.heap.size 0) E j s':=by
 have S:∀b,s.w.heap.size<=b->b<s'.w.heap.size->n5 f s.w.heap.size 0 b=0/\b≠Y.C/\b≠Y.Wg/\¬Y.Sh b/\b<s'.w.heap.size:=λb l p =>
  ⟨ux l,by omega,by omega,λh=>by grind,p⟩
 refine⟨λb c=>?_,λb o v q=>?_,λx Q b o v q=>st.mem _ _ _ (n.ms x Q b o v q)⟩
 .rcases c with c|⟨L,D,c⟩
  .rw[st.own]at c;obtain⟨l,p,t,F,A⟩:=n.blk b (.inl c);exact⟨by grind[fp],p,t,F,c9 A st.size⟩
  .have G:=H.lt L D b c;rcases st.wu L D b c with l|⟨R,I,l⟩
   .grind
   .obtain⟨k1,O,T,V,U⟩:=n.blk b (.inr ⟨R,I,l⟩);grind[fp]
 .have G:=hI.lt H.mem q;rcases cN b s.w.heap.size with l|l
  .by_cases c:∃L∈s.β,b∈L.bs
   .obtain⟨k1,O,T,V,U⟩:=n.blk b (.inr c);grind[fp]
   .rw[st.jo b l (λL D u=>c ⟨L,D,u⟩)]at q;obtain⟨k1,O,T,V,U⟩:=n.M b o v q;grind[fp]
  grind
end
end
section
open Go.Conc
open Go.ConcN (WD CTag Mode Vc Ssum pend phi cnt WgLive PayAt Has RW DWs WSit RelBy sumTo upd upd_same upd_ne AtR0 get_map_set get_map_set_same norel_of Deaf_still)
open Go.ConcR (KK WgAt stA smA rd wr mk Payload g_of_ofEvents)
variable [Payload]
section
variable (P:aJ)(ty:av)(Y:Lay)(N:Nat)(val:Nat->Nat->ai)(l:Nat->Nat)(c:Nat->Mem)
inductive WS (x:Nat):Nat->Nat->Rk->Nat->ar->ay->Prop
 |am {r:Rk} {g:ar} {s:St} {w:ay}:kT (Cx.work P) E0 (KW P ty Y N val x) r g s->cw s {s with w:=w}->mD l (c x) (Y.base+x) s->WS x 1 7 r 0 g w
 |rel {m:Nat} {g:ar} {w:ay}:Goes P af (RW ty Y.Wg Y.C N 0 (Y.kc*x)) Go.ConcR.DC0 (AtR0 P ty Y.Wg Y.C N 0 (Y.kc*x+1) (val x 0)) m g w->WS x 0 7 (Rk.nat m) 0 g w
 |tail {st m d:Nat} {g:ar} {w:ay}:st<=6->WSit P ty Y.Wg Y.C N Rr Rr 0 (Y.kc*x+1) (val x 0) st m d g w->WS x 0 st (Rk.nat m) d g w
structure Com(j:Nat)(gs:Array ar)(w:ay)(t:Trace)(D:Nat->WD)(A:Nat->Nat)(K:Nat->Rk)(n:Nat):Prop where
 size:gs.size=Y.base+j
 lv:∀i g,0<i->i<Y.base->gs[i]?=aa g->∃m,K i=Rk.nat m/\QuitsD P m (Deaf t i) g
 above:∀i,Y.base+j<=i->Deaf t i=0
 wk:∀x,x<j->∃g,gs[Y.base+x]?=aa g/\WS P ty Y N val l c x (A x) (D x).stage (K (Y.base+x)) (D x).deaf g w
 tl:TL Y l c t j w.heap.size
 norel:s9 t
 deaf0:Deaf t 0=n
 deafW:∀x,x<j->Deaf t (Y.base+x)=(D x).deaf
 rel:∀x,x<j->(D x).stage<=6->∃r,RelBy (stA Y.Wg) t (Y.base+x) r
 zg:∀x,x<j->A x=0->∀i,1<=i->i<Y.kc->w.cell? ⟨Y.C,Y.kc*x+i,ae⟩=aa (val x i)
 C4:∀x,x<j->(D x).stage<=6->Has Y.C (Y.kc*x) (val x 0) w
 pay:PayAt Y.C N w
 live:WgLive ty Y.Wg w
 Ct:Y.Wg<w.heap.size
 EV:Y.C<w.heap.size
 Ot:∀b,Y.Sh b->b<w.heap.size
 kc:0<Y.kc
 Pe:∀y,y<j->∀b o v,c y b o=aa v->b<w.heap.size
end
section
variable {P:aJ}{ty:av}{Y:Lay}{N:Nat}{val:Nat->Nat->ai}{l hm':Nat->Nat}{c:Nat->Mem}{x:Nat}{gs:Array ar}{t:Trace}{D:Nat->WD}{A:Nat->Nat}{K:Nat->Rk}{n:Nat}
def RW.KX(k:IH Y l (c x) x w w')(hl:WgLive ty Y.Wg w')(a:PayAt Y.C N w')(hk:0<Y.kc):RW ty Y.Wg Y.C N 0 (Y.kc*x+1-1) w w' :=
 ⟨λb d=>absurd d (fy b),λ_=>hl,λ_=>a,k.pay _ (bh _) (by grind)⟩
def WS.KX{a st d:Nat}{r:Rk}{g:ar}(h:WS P ty Y N val l c x a st r d g w)(k:IH Y l (c x) x w w')(hl:WgLive ty Y.Wg w')(e:PayAt Y.C N w')(hk:0<Y.kc)(hh:∀b,b<w.heap.size->hm' b=l b):
  WS P ty Y N val hm' c x a st r d g w':=by
 cases h with
 |am h1 h2 h3=>exact .am h1 (h3.KX h2 k) (h3.uw h2.size hh)
 |rel h1=>exact .rel (Goes.rely (λ_ _ _ h1 h2=>h1.trans h2) h1 (RW.KX k hl e hk))
 |tail h0 h1=>exact .tail h0 (h1.rely (RW.KX k hl e hk))
omit [Payload]in
def kT.run{X:Cx P}{E:St->St->Array Event->Prop}{S:ar->St->Prop}(p:∀g s,S g s->g.status=.running):∀{r:Rk}{g:ar}{s:St},kT X E S r g s->g.status=.running
 |.leaf,_,_,h=>p _ _ h
 |.node f,g,s,h=>by
  rcases h with h|⟨s',_,h⟩|⟨h,_⟩
  .grind
  .exact kT.run p (r:=f s) h
  grind
def WS.status{a st d:Nat}{r:Rk}{g:ar}(h:WS P ty Y N val l c x a st r d g w):g.status=.running∨g.status=.finished:=by
 cases h with
 |am h1 _ _=>exact .inl (h1.run λg s h=>h.1)
 |rel h1=>exact .inl (Goes.running (λ_ _ x=>x.1) w (Go.ConcN.RW.refl w) h1)
 |tail _ h1=>exact h1.status
def WS.woken{a st d:Nat}{r:Rk}{g:ar}(h:WS P ty Y N val l c x a st r d g w)(b e:ar)(w':ay):woken P b e w' g=g:=by
 unfold Go.Conc.woken;split
 .exact again_running _ h.status
 .rfl
def Com.at(h:Com P ty Y N val l c j gs w t D A K n)(d:Nat):Com P ty Y N val l c j gs (w.at d) t D A K n :=
 ⟨h.size,h.lv,h.above,λx a=>let ⟨g,h1,h2⟩:=h.wk x a;⟨g,h1,h2.KX (.at ..) h.live h.pay h.kc λ_ _=>rfl⟩,h.tl,h.norel,h.deaf0,h.deafW,h.rel,h.zg,h.C4,h.pay,h.live,h.Ct,h.EV,h.Ot,h.kc,h.Pe⟩
def Com.stepW(h:Com P ty Y N val l c j gs w t D A K n)(hx:x<j){g':ar}{fn:aH}{pos:String}{es:Array Event}{a' rB d':Nat}{r':Rk}(hh:∀b,b<w.heap.size->hm' b=l b)(B:w.heap.size<=w'.heap.size)(u:∀y,y<j->y≠x->IH Y l (c y) y w w')(U:WS P ty Y N val hm' c x a' rB r' d' g' w')(VT:∀e∈es,(aM e).low w'.heap.size)(Yc:∀e∈es,∀a,(aM e).touch?=aa a->a.loc.isMemory=ab->rI Y hm' (c x) x a)(M:∀e∈es,∀a,e.loc≠.mark (.release a))(I:deafBehind (D x).deaf es=d')(ads:rB<=6->∃r,RelBy (stA Y.Wg) (t++MemOp.ofEvents (Y.base+x) fn pos es) (Y.base+x) r)(h1:a'=0->∀i,1<=i->i<Y.kc->w'.cell? ⟨Y.C,Y.kc*x+i,ae⟩=aa (val x i))(h0:rB<=6->Has Y.C (Y.kc*x) (val x 0) w')(H:PayAt Y.C N w')(q:WgLive ty Y.Wg w'):
  Com P ty Y N val hm' c j ((gs.map (woken P g g' w')).setIfInBounds (Y.base+x) g') w' (t++MemOp.ofEvents (Y.base+x) fn pos es) (upd D x ⟨rB,0,d'⟩) (upd A x a') (upd K (Y.base+x) r') n:=by
 have Z:=h.tl.base;have F:∀y,y≠x->Y.base+x≠Y.base+y:=λy d e=>d (by omega);have T:∀i G,0<i->i<Y.base->((gs.map (Go.Conc.woken P g g' w')).setIfInBounds (Y.base+x) g')[i]?=aa G->gs[i]?=aa G:=by intro i G hi Rs zh;rw[get_map_set _ _ _ _ (by omega)]at zh;obtain⟨z,hz,rfl⟩:=rU.1 zh;obtain⟨m,_,hq⟩:=h.lv i z hi Rs hz;grind[woken_quitsD]
 refine⟨by simp[h.size],λi G hi Rs zh=>?_,λi hi=>?_,λy d=>?_,?_,h.norel.app M,by rw[Deaf_other t (by omega) _ g_of_ofEvents,h.deaf0],λy d=>?_,λy d k=>?_,λy d L i O W=>?_,λy d k=>?_,H,q,c9 h.Ct B,c9 h.EV B,λb Z=>c9 (h.Ot b Z) B,h.kc,λy d b o v R=>c9 (h.Pe y d b o v R) B⟩
 .obtain⟨m,V,Q⟩:=h.lv i G hi Rs (T i G hi Rs zh);refine⟨m,by rw[upd_ne K _ (by omega)];exact V,?_⟩;rw[Deaf_other t (by omega) _ g_of_ofEvents];exact Q
 .rw[Deaf_other t (by omega) _ g_of_ofEvents];exact h.above i hi
 .by_cases e:y=x
  .subst e;exact⟨g',get_map_set_same _ _ _ (by rw[h.size];omega),by rw[upd_same,upd_same,upd_same];exact U⟩
  .obtain⟨G,zh,J⟩:=h.wk y d;refine⟨G,by rw[get_map_set _ _ _ _ (F y e),zh,l5,J.woken],?_⟩;rw[upd_ne A _ e,upd_ne D _ e,upd_ne K _ (F y e).symm];exact J.KX (u y d e) q H h.kc hh
 .refine(h.tl.uw hh B h.Ct h.EV h.Ot λy d b o v R=>?_).appW hx (λop mY=>by grind[Go.Conc.mem_ofEvents]) (λop mY=>?_) (λop mY a L hma=>?_)
  .exact h.Pe y d b o v R
  .grind [Go.Conc.mem_ofEvents]
  grind[Go.Conc.mem_ofEvents]
 .by_cases e:y=x
  .subst e;rw[Deaf_own,h.deafW y d,upd_same];exact I
  .rw[Deaf_other t (F y e) _ g_of_ofEvents,h.deafW y d,upd_ne D _ e]
 .by_cases e:y=x
  .subst e;rw[upd_same]at k;grind
  .rw[upd_ne D _ e]at k;obtain⟨r,hr⟩:=h.rel y d k;exact⟨r,hr.appOther g_of_ofEvents (F y e)⟩
 .by_cases e:y=x
  .subst e;rw[upd_same]at L;grind
  .rw[upd_ne A _ e]at L;rw[(u y d e).pay _ (by omega) (by omega)];exact h.zg y d L i O W
 .by_cases e:y=x
  .subst e;rw[upd_same]at k;grind
  .rw[upd_ne D _ e]at k;have:=h.C4 y d k;have hk:=h.kc;simp only[Has]at this⊢;rw[(u y d e).pay _ (by omega) (by omega)];exact this
def Com.step0(h:Com P ty Y N val l c j gs w t D A K n){g':ar}{fn:aH}{pos:String}{es:Array Event}(hh:∀b,b<w.heap.size->hm' b=l b)(u:w.heap.size<=w'.heap.size)(q:∀y,y<j->IH Y l (c y) y w w')(T:∀e∈es,(aM e).low w'.heap.size)(W:∀e∈es,∀a,(aM e).touch?=aa a->a.loc.isMemory=ab->tq Y hm' a)(V:∀e∈es,∀a,(aM e).touch?=aa a->a.kind=.plain->a.write=ab->∀x,x<j->∀b o v,a.loc=.cell ⟨b,o,ae⟩->c x b o≠aa v)(I:∀e∈es,∀a,e.loc≠.mark (.release a))(B:PayAt Y.C N w')(k:WgLive ty Y.Wg w'):
  Com P ty Y N val hm' c j ((gs.map (woken P g g' w')).setIfInBounds 0 g') w' (t++MemOp.ofEvents 0 fn pos es) D A K (deafBehind n es):=by
 have R:=h.tl.base;have hk:=h.kc;refine⟨by simp[h.size],λi Q hi Rs zh=>?_,λi hi=>?_,λy d=>?_,?_,h.norel.app I,by rw[Deaf_own,h.deaf0],λy d=>by rw[Deaf_other t (by omega) _ g_of_ofEvents,h.deafW y d],λy d F=>?_,λy d M i J O=>?_,λy d F=>?_,B,k,c9 h.Ct u,c9 h.EV u,λb R=>c9 (h.Ot b R) u,h.kc,λy d b o v hv=>c9 (h.Pe y d b o v hv) u⟩
 .rw[get_map_set _ _ _ _ (by omega)]at zh;obtain⟨z,U,rfl⟩:=rU.1 zh;obtain⟨m,L,G⟩:=h.lv i z hi Rs U;exact⟨m,L,by rw[woken_quitsD G,Deaf_other t (by omega) _ g_of_ofEvents];exact G⟩
 .rw[Deaf_other t (by omega) _ g_of_ofEvents];exact h.above i hi
 .obtain⟨Q,zh,H⟩:=h.wk y d;exact⟨Q,by rw[get_map_set _ _ _ _ (by omega),zh,l5,H.woken],H.KX (q y d) k B h.kc hh⟩
 .refine(h.tl.uw hh u h.Ct h.EV h.Ot h.Pe).app0 (λop mY=>by grind[Go.Conc.mem_ofEvents]) (λop mY=>?_) (λop mY a M hma=>?_) (λop mY a M=>?_)
  .grind [Go.Conc.mem_ofEvents]
  .grind [Go.Conc.mem_ofEvents]
  grind[Go.Conc.mem_ofEvents]
 .obtain⟨r,Z⟩:=h.rel y d F;exact⟨r,Z.appOther g_of_ofEvents (by omega)⟩
 .rw[(q y d).pay _ (by omega) (by omega)];exact h.zg y d M i J O
 .have:=h.C4 y d F;simp only[Has]at this⊢;rw[(q y d).pay _ (by omega) (by omega)];exact this
def Com.leave(h:Com P ty Y N val l c j gs w t D A K n){m:Nat}(hi:0<i)(F:i<Y.base){g':ar}{fn:aH}{pos:String}{es:Array Event}(u:∀e∈es,e.mute=ab)(L:QuitsD P m (deafBehind (Deaf t i) es) g'):
  Com P ty Y N val l c j ((gs.map (woken P g g' w)).setIfInBounds i g') w (t++MemOp.ofEvents i fn pos es) D A (upd K i (Rk.nat m)) n:=by
 have M:=h.tl.base;have q:∀e∈es,∀a,e.loc≠.mark (.release a):=λe I a=>wV (u e I) a;refine⟨by simp[h.size],λk C hk hkb zh=>?_,λk hk=>?_,λy o=>?_,?_,h.norel.app q,by rw[Deaf_other t (by omega) _ g_of_ofEvents,h.deaf0],λy o=>by rw[Deaf_other t (by omega) _ g_of_ofEvents,h.deafW y o],λy o B=>?_,h.zg,h.C4,h.pay,h.live,h.Ct,h.EV,h.Ot,h.kc,h.Pe⟩
 .by_cases e:k=i
  .subst e;rw[get_map_set_same _ _ _ (by grind)]at zh;cases zh;exact⟨m,by rw[upd_same],by grind[Deaf_own]⟩
  .rw[get_map_set _ _ _ _ (Ne.symm e)]at zh;obtain⟨z,G,rfl⟩:=rU.1 zh;obtain⟨H,v,d⟩:=h.lv k z hk hkb G;exact⟨H,by rw[upd_ne K _ e];exact v,by rw[woken_quitsD d,Deaf_other t (Ne.symm e) _ g_of_ofEvents];exact d⟩
 .rw[Deaf_other t (by omega) _ g_of_ofEvents];exact h.above k hk
 .obtain⟨C,zh,b⟩:=h.wk y o;exact⟨C,by rw[get_map_set _ _ _ _ (by omega),zh,l5,b.woken],by rw[upd_ne K _ (by omega)];exact b⟩
 .exact h.tl.mute (g:=i) (λop mY=>by grind[Go.Conc.mem_ofEvents]) (λop mY=>by grind[Go.Conc.mem_ofEvents,low_mute]) (λop mY=>by grind[Go.Conc.mem_ofEvents,touch_mute])
 .obtain⟨r,J⟩:=h.rel y o B;exact⟨r,J.appOther g_of_ofEvents (by omega)⟩
def Com.spawn(h:Com P ty Y N val l c j gs w t D A K 0){a' child:ar}{x y:MemOp}{r:Rk}(J:x.g=0/\x.act=.go (Y.base+j))(O:y.g=Y.base+j/\y.act=.start)(H:∀b o v,c j b o=aa v->l b=0/\b≠Y.C/\b≠Y.Wg/\¬Y.Sh b/\b<w.heap.size)(Q:kT (Cx.work P) E0 (KW P ty Y N val j) r child s)(B:cw s {s with w:=w})(L:mD l (c j) (Y.base+j) s):
  Com P ty Y N val l c (j+1) ((gs.setIfInBounds 0 a').push child) w (t++#[x,y]) (upd D j ⟨7,0,0⟩) (upd A j 1) (upd K (Y.base+j) r) 0:=by
 have T:=h.tl.base;have I:∀op∈#[x,y],op=x∨op=y:=by grind
 have d:∀op∈#[x,y],op.act≠.mark .disable/\op.act≠.mark .enable:=by grind
 have q:∀i,0<i->i<Y.base+j->((gs.setIfInBounds 0 a').push child)[i]?=gs[i]?:=λi hi ug=>by rw[Array.getElem?_push_lt (by simp[h.size];omega),<-gq,wT (by omega)]
 refine⟨by simp[h.size];omega,λi g hi Rs hg=>?_,λi hi=>?_,λz k=>?_,h.tl.fork J O h.deaf0 (h.above _ (bh _)) λb o v G=>let ⟨h1,h2,M,R,_⟩:=H b o v G;⟨h1,h2,M,R⟩,λad=>(h.norel ad).app λop mY=>?_,by rw[Deaf_still t 0 _ d,h.deaf0],λz k=>?_,λz k e=>?_,λz k F=>?_,λz k e=>?_,h.pay,h.live,h.Ct,h.EV,h.Ot,h.kc,λz k b o v G=>?_⟩
 .rw[q i hi (by omega)]at hg;obtain⟨m,h1,h2⟩:=h.lv i g hi Rs hg;exact⟨m,by rw[upd_ne K _ (by omega)];exact h1,by rw[Deaf_still t _ _ d];exact h2⟩
 .rw[Deaf_still t _ _ d];exact h.above i (by omega)
 .rcases cN z j with ug|a
  .obtain⟨g,hg,u⟩:=h.wk z ug;exact⟨g,by grind,by rw[upd_ne D _ (by omega),upd_ne A _ (by omega),upd_ne K _ (by omega)];exact u⟩
  .obtain rfl:z=j:=by omega
   refine⟨child,?_,by rw[upd_same,upd_same,upd_same];exact .am Q B L⟩;rw[show Y.base+z=(gs.setIfInBounds 0 a').size by simp[h.size],Array.getElem?_push_size]
 .grind
 .rw[Deaf_still t _ _ d];rcases cN z j with ug|a
  .rw[h.deafW z ug,upd_ne D _ (by omega)]
  .obtain rfl:z=j:=by omega
   rw[upd_same];exact h.above _ (bh _)
 .rcases cN z j with ug|a
  .rw[upd_ne D _ (by omega)]at e;obtain⟨r,B⟩:=h.rel z ug e;refine⟨r,B.appNot λop mY=>?_⟩;grind
  .obtain rfl:z=j:=by omega
   rw[upd_same]at e;grind
 .rcases cN z j with ug|a
  .rw[upd_ne A _ (by omega)]at F;exact h.zg z ug F
  .obtain rfl:z=j:=by omega
   rw[upd_same]at F;grind
 .rcases cN z j with ug|a
  .rw[upd_ne D _ (by omega)]at e;exact h.C4 z ug e
  .obtain rfl:z=j:=by omega
   rw[upd_same]at e;grind
 .rcases cN z j with ug|a
  .exact h.Pe z ug b o v G
  grind
end
end
section
open Go.Conc
open Go.ConcN (WD CTag Mode Vc Ssum pend phi cnt WgLive PayAt Has RW DWs WSit RelBy sumTo upd upd_same upd_ne AtR0)
open Go.ConcR (KK WgAt stA smA rd wr mk Payload g_of_ofEvents again_blocked)
variable [Payload]
section
variable (P:aJ)(ty:av)(Y:Lay)(N:Nat)(val:Nat->Nat->ai)(n:Nat)(T l:ar->St->Prop)
def AtAcq(g:ar)(s:St):Prop:=g.status=.running/\∃g',(∀w,aG P ab g w=.go g' w #[mk (.acquire (stA Y.Wg))])/\∀c,(Cx.lead P ty Y.Wg).rely s c->T g' c
def AtKe(g:ar)(s:St):Prop:=g.status=.running/\∃g',(∀w,aG P ab g w=.go g' w #[mk .enable])/\∀c,(Cx.lead P ty Y.Wg).rely s c->(eE (Cx.lead P ty Y.Wg) (Es Y.Wg)) (AtAcq P ty Y T) g' c
def AtW4(g:ar)(s:St):Prop:=g.status=.running/\∀c,(Cx.lead P ty Y.Wg).rely s c->WgAt ty Y.Wg c.w 0 0->∃g',aG P ab g c.w=.go g' c.w #[rd (stA Y.Wg)]/\(eE (Cx.lead P ty Y.Wg) (Es Y.Wg)) (AtKe P ty Y T) g' c
def AtW3(g:ar)(s:St):Prop:=g.status=.running/\g.offers=ae/\∀c,(Cx.lead P ty Y.Wg).rely s c ->
 ((∃st,WgAt ty Y.Wg c.w st 0)->aG P ab g c.w=.go {g with status:=.blocked} c.w #[]) /\
 (WgAt ty Y.Wg c.w 0 1->∃g',aG P ab g c.w=.go g' (c.w.setCell (smA Y.Wg) (.int .u32 0)) (semEvents (smA Y.Wg))/\(eE (Cx.lead P ty Y.Wg) (Es Y.Wg)) (AtW4 P ty Y T) g' {c with w:=c.w.setCell (smA Y.Wg) (.int .u32 0)})
def AtW2(vs:Nat)(g:ar)(s:St):Prop:=g.status=.running/\∀c,(Cx.lead P ty Y.Wg).rely s c->∀v:Nat,v<2147483648->WgAt ty Y.Wg c.w (v*KK) 0 ->
 (v=vs->∃g',aG P ab g c.w=.go g' (c.w.setCell (stA Y.Wg) (.int .u64 (v*KK+1))) #[rd (stA Y.Wg),wr (stA Y.Wg)]/\(eE (Cx.lead P ty Y.Wg) (Es Y.Wg)) (AtW3 P ty Y T) g' {c with w:=c.w.setCell (stA Y.Wg) (.int .u64 (v*KK+1))}) /\
 (v≠vs->∃g',aG P ab g c.w=.go g' c.w #[rd (stA Y.Wg)]/\l g' c)
def AtW1(g:ar)(s:St):Prop:=g.status=.running/\∀c,(Cx.lead P ty Y.Wg).rely s c->∀v:Nat,v<2147483648->WgAt ty Y.Wg c.w (v*KK) 0 ->
 ∃g',aG P ab g c.w=.go g' c.w #[rd (stA Y.Wg)]/\(v=0->(eE (Cx.lead P ty Y.Wg) (Es Y.Wg)) (AtKe P ty Y T) g' c)/\(v≠0->(eE (Cx.lead P ty Y.Wg) (Es Y.Wg)) (AtW2 P ty Y T l v) g' c)
def AtKd(g:ar)(s:St):Prop:=g.status=.running/\∃g',(∀w,aG P ab g w=.go g' w #[mk .disable])/\∀c,(Cx.lead P ty Y.Wg).rely s c->l g' c
def St.child(s:St):St:={β:=[],M:=s.M,w:=s.w,own:=λ_=>False}
def AtGo(j:Nat)(Next:ar->St->Prop)(g:ar)(s:St):Prop:=g.status=.running/\∀c,(Cx.lead P ty Y.Wg).rely s c ->
 ∃g' child,aG P ab g c.w=.spawn g' child c.w #[]/\child.status=.running/\eE (Cx.work P) E0 (KW P ty Y N val j) child c.child/\Next g' c
def AtKeS(j:Nat)(Next:ar->St->Prop)(g:ar)(s:St):Prop:=g.status=.running/\∃g',(∀w,aG P ab g w=.go g' w #[mk .enable])/\∀c,(Cx.lead P ty Y.Wg).rely s c->(eE (Cx.lead P ty Y.Wg) (Es Y.Wg)) (AtGo P ty Y N val j Next) g' c
def AtA1(j:Nat)(Next:ar->St->Prop)(g:ar)(s:St):Prop:=g.status=.running/\∀c,(Cx.lead P ty Y.Wg).rely s c->∀v:Nat,v<2147483647->WgAt ty Y.Wg c.w (v*KK) 0 ->
 ∃g',aG P ab g c.w=.go g' (c.w.setCell (stA Y.Wg) (.int .u64 ((v+1)*KK))) #[rd (stA Y.Wg),wr (stA Y.Wg)]/\(eE (Cx.lead P ty Y.Wg) (Es Y.Wg)) (AtKeS P ty Y N val j Next) g' {c with w:=c.w.setCell (stA Y.Wg) (.int .u64 ((v+1)*KK))}
def AtKdS(j:Nat)(Next:ar->St->Prop)(g:ar)(s:St):Prop:=g.status=.running/\∃g',(∀w,aG P ab g w=.go g' w #[mk .disable])/\∀c,(Cx.lead P ty Y.Wg).rely s c->(eE (Cx.lead P ty Y.Wg) (Es Y.Wg)) (AtA1 P ty Y N val j Next) g' c
def Spawns:Nat->ar->St->Prop
 |0,g,s=>(eE (Cx.lead P ty Y.Wg) (Es Y.Wg)) (AtKd P ty Y l) g s
 |r+1,g,s=>(eE (Cx.lead P ty Y.Wg) (Es Y.Wg)) (AtKdS P ty Y N val (n-(r+1)) (Spawns r)) g s
def Rk.lift:Rk->Rk
 |.leaf=>.node λ_=>.leaf
 |.node f=>.node λs=>Rk.lift (f s)
omit [Payload]in
def Rk.Hj:∀{x r:Rk},Rk.lt x r->Rk.lt x.lift r.lift
 |_,.leaf,h=>h.elim
 |_,.node _,⟨s,h⟩=>⟨s,h.elim (λe=>.inl (by rw[e])) λh=>.inr (Rk.Hj h)⟩
omit [Payload]in
def Rk.KY(s:St):∀r:Rk,∃x,Rk.lt x r.lift
 |.leaf=>⟨.leaf,s,.inl rfl⟩
 |.node f=>⟨(f s).lift,s,.inl rfl⟩
inductive CS:CTag->Nat->Rk->Nat->ar->St->Prop
 |skd {r:Nat} {rk:Rk} {g:ar} {s:St}:r<n->(kT (Cx.lead P ty Y.Wg) (Es Y.Wg)) (AtKdS P ty Y N val (n-(r+1)) (Spawns P ty Y N val n l r)) rk g s->CS (.sp r 5) (n-(r+1)) rk 0 g s
 |sa1 {r:Nat} {rk:Rk} {g:ar} {s:St}:r<n->(kT (Cx.lead P ty Y.Wg) (Es Y.Wg)) (AtA1 P ty Y N val (n-(r+1)) (Spawns P ty Y N val n l r)) rk g s->CS (.sp r 4) (n-(r+1)) rk 1 g s
 |ske {r:Nat} {rk:Rk} {g:ar} {s:St}:r<n->(kT (Cx.lead P ty Y.Wg) (Es Y.Wg)) (AtKeS P ty Y N val (n-(r+1)) (Spawns P ty Y N val n l r)) rk g s->CS (.sp r 3) (n-(r+1)) rk 1 g s
 |sgo {r:Nat} {rk:Rk} {g:ar} {s:St}:r<n->(kT (Cx.lead P ty Y.Wg) (Es Y.Wg)) (AtGo P ty Y N val (n-(r+1)) (Spawns P ty Y N val n l r)) rk g s->CS (.sp r 2) (n-(r+1)) rk 0 g s
 |kd {rk:Rk} {g:ar} {s:St}:(kT (Cx.lead P ty Y.Wg) (Es Y.Wg)) (AtKd P ty Y l) rk g s->CS .kd n rk 0 g s
 |w1 {rk:Rk} {g:ar} {s:St}:(kT (Cx.lead P ty Y.Wg) (Es Y.Wg)) (AtW1 P ty Y T l) rk g s->CS .w1 n rk 1 g s
 |w2 {vs:Nat} {rk:Rk} {g:ar} {s:St}:(kT (Cx.lead P ty Y.Wg) (Es Y.Wg)) (AtW2 P ty Y T l vs) rk g s->CS (.w2 vs) n rk 1 g s
 |w3 {rk:Rk} {g:ar} {s:St}:(kT (Cx.lead P ty Y.Wg) (Es Y.Wg)) (AtW3 P ty Y T) rk g s->CS .w3 n rk.lift 1 g s
 |blk {rk:Rk} {g:ar} {s:St}:AtW3 P ty Y T g s->CS .blk n rk 1 {g with status:=.blocked} s
 |w4 {rk:Rk} {g:ar} {s:St}:(kT (Cx.lead P ty Y.Wg) (Es Y.Wg)) (AtW4 P ty Y T) rk g s->CS .w4 n rk 1 g s
 |ke {rk:Rk} {g:ar} {s:St}:(kT (Cx.lead P ty Y.Wg) (Es Y.Wg)) (AtKe P ty Y T) rk g s->CS .ke n rk 1 g s
 |acq {rk:Rk} {g:ar} {s:St}:(kT (Cx.lead P ty Y.Wg) (Es Y.Wg)) (AtAcq P ty Y T) rk g s->CS .acq n rk 0 g s
structure Pf(p:Nat->Nat)(o:Nat->Mem)(m:Machine)(t:Trace):Prop where
 out:∃(gs:Array ar) (w:ay) (sl:Option (Nat×Nat)) (a:ar) (s:St) (q:Nat->Nat),m=crowd gs w sl/\gs[0]?=aa a/\gs.size=Y.base+n/\T a {s with w:=w}/\cw s {s with w:=w}/\kl Y p o n s /\
  Leavers P t gs q/\Past (mr λb=>Y.Sh b∨b=Y.Wg) w.heap.size t/\s9 t/\PayAt Y.C N w/\(∀x,x<n->∀i,i<Y.kc->w.cell? ⟨Y.C,Y.kc*x+i,ae⟩=aa (val x i))/\Y.C<w.heap.size/\Y.Wg<w.heap.size/\∀b,Y.Sh b->b<w.heap.size
abbrev Mu:=Nat×((Nat->Rk)×Rk)
def Hk(M:Nat):Mu->Mu->Prop:=Prod.Lex (· < ·) (Prod.Lex (Vec M) Rk.lt)
omit [Payload]in
def S7(M:Nat):WellFounded (Hk M):=(Prod.lex Nat.lt_wfRel ⟨_,(Prod.lex ⟨Vec M,KV M⟩ ⟨Rk.lt,⟨Rk.acc⟩⟩).wf⟩).wf
structure uy(μ:Mu)(gs:Array ar)(w:ay)(t:Trace)(p:Nat->Nat)(o:Nat->Mem)(j:Nat)(D:Nat->WD)(A:Nat->Nat)(K:Nat->Rk)(d0:Nat)(tag:CTag)(rk:Rk)(a:ar)(s:St)(st sm:Int):Prop where
 a0:gs[0]?=aa a
 cs:CS P ty Y N val n T l tag j rk d0 a s
 rely:cw s {s with w:=w}
 lead:kl Y p o j s
 gG:Com P ty Y N val p o j gs w t D A K d0
 wg:WgAt ty Y.Wg w st sm
 mode:Go.ConcN.Mode j D tag st sm
 mu:μ=(phi n (Vc j D) tag+Ssum j D+sumTo j A,(K,rk))
def Inv(b:Mu)(m:Machine)(t:Trace):Prop :=
 ∃(gs:Array ar) (w:ay) (sl:Option (Nat×Nat)) (p:Nat->Nat) (o:Nat->Mem) (j:Nat) (D:Nat->WD) (A:Nat->Nat) (K:Nat->Rk) (i:Nat) (tag:CTag) (rk:Rk) (a:ar) (s:St) (st sm:Int),
  m=crowd gs w sl/\uy P ty Y N val n T l b gs w t p o j D A K i tag rk a s st sm
end
section
variable {P:aJ}{ty:av}{Y:Lay}{N:Nat}{val:Nat->Nat->ai}{n:Nat}{T l:ar->St->Prop}{p hm':Nat->Nat}{o:Nat->Mem}{tag:CTag}{rk:Rk}{d:Nat}{a:ar}
omit [Payload]in
def gi(h:cw s {s with w:=w})(B:WgLive ty Y.Wg w):(Cx.lead P ty Y.Wg).rely s {s with w:=w}:=⟨h,λ_=>B⟩
omit [Payload]in
def AtW3.rely{c:St}(h:AtW3 P ty Y T g s)(z:(Cx.lead P ty Y.Wg).rely s c):AtW3 P ty Y T g c :=
 ⟨h.1,h.2.1,λs2 u=>h.2.2 s2 ⟨z.1.trans u.1,λx=>u.2 (z.2 x)⟩⟩
def CS.status(h:CS P ty Y N val n T l tag j rk d a s):(a.status=.running/\tag≠.blk)∨(a.status=.blocked/\tag=.blk):=by
 cases h with
 |skd _ h=>exact .inl ⟨h.run λ_ _ x=>x.1,by simp⟩
 |sa1 _ h=>exact .inl ⟨h.run λ_ _ x=>x.1,by simp⟩
 |ske _ h=>exact .inl ⟨h.run λ_ _ x=>x.1,by simp⟩
 |sgo _ h=>exact .inl ⟨h.run λ_ _ x=>x.1,by simp⟩
 |kd h=>exact .inl ⟨h.run λ_ _ x=>x.1,by simp⟩
 |w1 h=>exact .inl ⟨h.run λ_ _ x=>x.1,by simp⟩
 |w2 h=>exact .inl ⟨h.run λ_ _ x=>x.1,by simp⟩
 |w3 h=>exact .inl ⟨h.run λ_ _ x=>x.1,by simp⟩
 |blk h=>grind
 |w4 h=>exact .inl ⟨h.run λ_ _ x=>x.1,by simp⟩
 |ke h=>exact .inl ⟨h.run λ_ _ x=>x.1,by simp⟩
 |acq h=>exact .inl ⟨h.run λ_ _ x=>x.1,by simp⟩
def CS.wokenBy(h:CS P ty Y N val n T l tag j rk d a s)(g g':ar)(w':ay):
  ∃tag' rk',CS P ty Y N val n T l tag' j rk' d (woken P g g' w' a) s/\(tag'=tag∨(tag=.blk/\tag'=.w3))/\(mayWake P g=ab->g'.status=.running->tag'≠.blk):=by
 unfold Go.Conc.woken;split
 .rcases h.status with⟨i,b⟩|⟨_,rfl⟩
  .grind [again_running]
  .cases h with
   |blk hb=>exact⟨.w3,Rk.lift .leaf,by rw[again_blocked hb.1 hb.2.1];exact .w3 (show kT _ _ _ .leaf _ _ from hb),.inr ⟨rfl,rfl⟩,λ_ _=>by simp⟩
 grind
def lz{μ:Mu}{gs:Array ar}{sl:Option (Nat×Nat)}{t:Trace}{D:Nat->WD}{A:Nat->Nat}{K:Nat->Rk}{st sm:Int}(I:uy P ty Y N val n T l μ gs w t p o j D A K d tag rk a s st sm){x:Nat}(W:x<j){g':ar}{es:Array Event}{a' s' d':Nat}{r':Rk}{F E:Int}(hg:gs[Y.base+x]?=aa g)(hgo:aG P af g w=.go g' w' es)(hh:∀b,b<w.heap.size->hm' b=p b)(JX:w.heap.size<=w'.heap.size)(O:∀y,y<j->y≠x->IH Y p (o y) y w w')(G:Fp Y p w w')(hws:WS P ty Y N val hm' o x a' s' r' d' g' w')(R:∀e∈es,(aM e).low w'.heap.size)(Yc:∀e∈es,∀a,(aM e).touch?=aa a->a.loc.isMemory=ab->rI Y hm' (o x) x a)(X:∀e∈es,∀a,e.loc≠.mark (.release a))(J:deafBehind (D x).deaf es=d')(Q:s'<=6->∃r,RelBy (stA Y.Wg) (t++MemOp.ofEvents (Y.base+x) g.frame.fn g.frame.place es) (Y.base+x) r)(h1:a'=0->∀i,1<=i->i<Y.kc->w'.cell? ⟨Y.C,Y.kc*x+i,ae⟩=aa (val x i))(h0:s'<=6->Has Y.C (Y.kc*x) (val x 0) w')(S:PayAt Y.C N w')(U:WgAt ty Y.Wg w' F E)(H:∀tag',(tag'=tag∨(tag=.blk/\tag'=.w3))->(mayWake P g=ab->g'.status=.running->tag'≠.blk)->Go.ConcN.Mode j (upd D x ⟨s',0,d'⟩) tag' F E)(ug:(s'+a'<(D x).stage+A x/\cnt ⟨s',0,d'⟩<=cnt (D x))∨(s'=(D x).stage/\a'=A x/\Rk.lt r' (K (Y.base+x))))(hjn:Y.base+j<=Y.base+n):
  ∃q ops μ',runT P (crowd gs w sl) (Y.base+x)=(.next q,ops)/\Hk (Y.base+n) μ' μ/\Inv P ty Y N val n T l μ' q (t++ops):=by
 have hb:=I.gG.tl.base;obtain⟨tag',rk',L,m,Z⟩:=I.cs.wokenBy g g' w';have Yy:(Y.base+x==0)=af:=by grind
 have V:=runT_crowd_go (P:=P) (sl:=sl) (i:=Y.base+x) hg (by rw[Yy];exact hgo)
 have e1:=Go.ConcN.sumTo_upd D (⟨s',0,d'⟩:WD) cnt W;have e2:=Go.ConcN.sumTo_upd D (⟨s',0,d'⟩:WD) WD.stage W;have e3:sumTo j (upd A x a')+A x=sumTo j A+a':=Go.ConcN.sumTo_upd A a' id W;refine⟨_,_,(phi n (Vc j (upd D x ⟨s',0,d'⟩)) tag'+Ssum j (upd D x ⟨s',0,d'⟩)+sumTo j (upd A x a'),(upd K (Y.base+x) r',rk')),V,?_,
  _,w',sl,hm',o,j,_,_,_,d,tag',rk',woken P g g' w' a,s,F,E,rfl,⟨by rw[Go.ConcN.get_map_set _ _ _ _ (by omega),I.a0];rfl,L,I.lead.KX I.rely G,I.lead.uw I.rely.size hh,
   I.gG.stepW W hh JX O hws R Yc X J Q h1 h0 S ⟨_,_,U⟩,U,H tag' m Z,rfl⟩⟩
 rw[I.mu,Go.ConcN.phi_retag n _ m];simp only[Vc,Ssum]at *;rcases ug with⟨q1,q2⟩|⟨q1,q2,q3⟩
 .refine Prod.Lex.left _ _ ?_;have:=Go.ConcN.phi_mono n (v':=sumTo j λa=>cnt (upd D x ⟨s',0,d'⟩ a)) (v:=sumTo j λa=>cnt (D a)) (by omega) tag;omega
 .have ec:cnt (⟨s',0,d'⟩:WD)=cnt (D x):=by simp only[cnt,q1]
  have ev:(sumTo j λa=>cnt (upd D x ⟨s',0,d'⟩ a))=sumTo j λa=>cnt (D a):=by omega
  have es':(sumTo j λa=>(upd D x ⟨s',0,d'⟩ a).stage)=sumTo j λa=>(D a).stage:=by omega
  have ea:sumTo j (upd A x a')=sumTo j A:=by omega
  rw[ev,es',ea];exact Prod.Lex.right _ (Prod.Lex.left _ _ ⟨Y.base+x,by omega,by rw[upd_same];exact q3,λk hk=>upd_ne K _ hk⟩)
end
end
section
open Go.Conc
open Go.ConcN (WD CTag Vc Ssum pend phi cnt WgLive PayAt Has RW DWs WSit RelBy sumTo upd upd_same upd_ne AtR0 isW3 isOpen OpenSt deafBehind_idle bk_cell okW_none Vc_upd Vc_le le_sumTo others_uncounted)
open Go.ConcR (KK WgAt stA smA rd wr mk Payload g_of_ofEvents Bk bk_of_mute ofEvent_loc_mark ofEvent_cell)
variable [Payload]
section
variable {Y:Lay}{T G:ar->St->Prop}{E hm':Nat->Nat}{O:Nat->Mem}{tag:CTag}{rk:Rk}{d:Nat}{a:ar}
omit [Payload]in
def IH.wg(h:Aside Y.Wg w w')(F:E Y.Wg=0)(k:1<=Y.base)(hM:∀b o v,O j b o=aa v->b≠Y.Wg)(hC:Y.C≠Y.Wg):IH Y E (O j) j w w' :=
 ⟨by rw[h.size];grind,λb _ JY=>h.block b (λe=>by grind),λb o v H U=>by rw[km (h.block b (hM b o v H))];exact U,λo _ _=>km (h.block _ hC) o,h.os,h.tape,h.output⟩
omit [Payload]in
def Fp.wg(h:Aside Y.Wg w w'):Fp Y E w w':=⟨by rw[h.size];grind,λb _ _ _ z=>h.block b z,h.os,h.tape,h.output⟩
omit [Payload]in
def Fp.refl(w:ay):Fp Y E w w:=⟨bh _,λ_ _ _ _ _=>rfl,rfl,rfl,rfl⟩
omit [Payload]in
def KZ{B:Nat}{es:Array Event}(h:∀e∈es,Bk Y.Wg e)(F:Y.Wg<B):∀e∈es,(aM e).low B:=by
 intro e c;rcases h e c with p|p|⟨ad,wr,rfl,J⟩
 .rw[ofEvent_loc_mark p];trivial
 .rw[ofEvent_loc_mark p];trivial
 .rw[ofEvent_cell];show ad.block<B;grind
omit [Payload]in
def Pg{x:Nat}{es:Array Event}(h:∀e∈es,Bk Y.Wg e):∀e∈es,∀a,(aM e).touch?=aa a->a.loc.isMemory=ab->rI Y E (O x) x a:=by
 intro e c b k _;rcases h e c with p|p|⟨ad,wr,rfl,J⟩
 .rw[ofEvent_loc_mark p]at k;cases k
 .rw[ofEvent_loc_mark p]at k;cases k
 .rw[ofEvent_cell]at k;simp only[MemAct.touch?,dn]at k;subst k;exact .inl ⟨ad,rfl,J,rfl⟩
omit [Payload]in
def C5{es:Array Event}(h:∀e∈es,Bk Y.Wg e):∀e∈es,∀a,e.loc≠.mark (.release a):=by
 intro e c a Z;rcases h e c with p|p|⟨ad,wr,rfl,_⟩
 .grind
 .grind
 grind
omit [Payload]in
def Ph{x:Nat}{s2:St}{es:Array Event}(V:mD E (O x) (Y.base+x) s)(S:aE σ s)(R:fj s es)(st:Step σ s σ' s2):
  (∀e∈es,(aM e).low s2.w.heap.size)/\(∀e∈es,∀a,(aM e).touch?=aa a->a.loc.isMemory=ab->rI Y (n5 E s.w.heap.size (Y.base+x)) (O x) x a) /\
  (∀e∈es,e.loc≠.mark .disable/\e.loc≠.mark .enable)/\∀e∈es,∀a,e.loc≠.mark (.release a):=by
 have key:∀e∈es,(aM e).low s2.w.heap.size/\(∀a,(aM e).touch?=aa a->a.loc.isMemory=ab->rI Y (n5 E s.w.heap.size (Y.base+x)) (O x) x a)/\(e.loc≠.mark .disable/\e.loc≠.mark .enable)/\∀a,e.loc≠.mark (.release a):=by
  intro e c;have h:=R e c;obtain⟨loc,wr,sy⟩:=e;cases loc with
  |cell ad =>
   obtain⟨p,z,l⟩:=h;simp only at p z l;subst p;have u:ad.block<s.w.heap.size:=by
    rcases l with l|⟨⟨L,Q,l⟩,_⟩|⟨_,v,l⟩
    .exact l.elim
    .exact S.lt L Q _ l
    .exact hI.lt S.mem l
   refine⟨by rw[ofEvent_cell];exact c9 u st.size,λb k _=>?_,⟨by simp,by simp⟩,by simp⟩;rw[ofEvent_cell]at k;simp only[MemAct.touch?,dn]at k;subst k;refine .inr ⟨rfl,?_⟩;rcases l with l|⟨⟨L,Q,l⟩,_⟩|⟨X,v,l⟩
   .exact l.elim
   .exact .inl ⟨ad.block,rfl,by rw[fp u];exact(V.blk _ (.inr ⟨L,Q,l⟩)).1⟩
   .rcases(V.M _ _ _ l).1 with W|W
    .exact .inl ⟨ad.block,rfl,by grind[fp]⟩
    .refine .inr (.inr ⟨X,ad.block,ad.off,v,?_,W⟩);obtain⟨b,o,sp⟩:=ad;grind
  |obj r =>
   obtain⟨p,z⟩:=h;simp only at p z;subst p;obtain⟨L,Q,l⟩:=z.resolve_left id;have u:=S.lt L Q _ l;refine⟨?_,λb k _=>?_,⟨by simp,by simp⟩,by simp⟩
   .simp[aM,MemAct.low,Loc.low];exact c9 u st.size
   .simp[aM,MemAct.touch?]at k;subst k;exact .inr ⟨rfl,.inl ⟨r,rfl,by rw[fp u];exact(V.blk _ (.inr ⟨L,Q,l⟩)).1⟩⟩
  |mark m =>
   simp only[oJ]at h;rcases h with rfl|⟨f,rfl⟩
   .exact⟨by simp[aM,MemAct.low],λb k=>by simp[aM,MemAct.touch?]at k,⟨by simp,by simp⟩,by simp⟩
   .exact⟨by simp[aM,MemAct.low],λb k=>by simp[aM,MemAct.touch?]at k,⟨by simp,by simp⟩,by simp⟩
  |_=>exact h.elim
 grind
def stepWorker{μ:Mu}{gs:Array ar}{sl:Option (Nat×Nat)}{t:Trace}{D:Nat->WD}{A:Nat->Nat}{K:Nat->Rk}{st sm:Int}(I:uy P ty Y N val n T G μ gs w t E O j D A K d tag rk a s st sm)(hn:n<2147483648)(hj:j<=n)(hpd:j+pend tag<=n){x:Nat}(hx:x<j)(hg:gs[Y.base+x]?=aa g)(xn:g.status=.running):
  ∃m₁ ops μ',runT P (crowd gs w sl) (Y.base+x)=(.next m₁,ops)/\Hk (Y.base+n) μ' μ/\Inv P ty Y N val n T G μ' m₁ (t++ops):=by
 have K1:=I.gG.tl.base;obtain⟨g₁,hg₁,hs⟩:=I.gG.wk x hx;obtain rfl:g=g₁:=by grind
 generalize Hl:(D x).stage=sg at hs;generalize hfu:K (Y.base+x)=r at hs;generalize VU:(D x).deaf=dd at hs;generalize hA:A x=ax at hs;have hdk:Deaf t (Y.base+x)=dd:=by rw[I.gG.deafW x hx,VU]
 have hVj:=Vc_le j D;have same:∀m' Hm,Go.ConcN.Mode j (upd D x ⟨sg,m',Hm⟩) tag st sm:=λm' Hm=>by have:=I.mode.same (i:=x) m' Hm;grind
 cases hs with
 |@am r g s0 w p z l =>
  rcases p.norm (λs0=>cw s0 {s0 with w:=w}/\mD E (O x) (Y.base+x) s0) (λs0 s' VV hi=>⟨hi.1.ghost VV,hi.2.ghost VV⟩) (λ_ s0 s' VV hi=>⟨hi.1.forget VV,hi.2.forget VV⟩) ⟨z,l⟩with⟨s',⟨k1,k2⟩,kn⟩|⟨_,s',⟨k1,k2⟩,mE⟩
  ·
   obtain⟨g',w2,es,hgo,F,Y6,m,hk⟩:=kn.2 w k1 I.gG.pay I.gG.live;have hkc:=I.gG.kc;refine lz I hx hg hgo (hm':=E) (λ_ _=>rfl) (by rw[F.size];grind) (λy hy hyx=>⟨by rw[F.size];grind,λb _ k=>F.block b (λe=>by rw[e,I.gG.tl.hC]at k;omega),λb o v H U=>?_,λo ho1 ho2=>F.out o ?_,F.os,F.tape,F.output⟩)
    ⟨by rw[F.size];grind,λb _ _ z _=>F.block b z,F.os,F.tape,F.output⟩ (.rel hk) (λe c=>?_) (λe c b k _=>?_) (λe c=>?_) ?_ (λh=>absurd h (by decide)) (λ_ i _ hi=>F.new i hi) (λh=>absurd h (by decide)) F.pay
    (I.wg.of_block (F.block _ (Ne.symm I.gG.tl.ne))) (λ_ ht _=>(same _ _).retag ht) (.inl ⟨by omega,by simp[cnt,Hl]⟩) (by omega)
   .rw[km (F.block b (I.gG.tl.ms y hy b o v H).2.1)];exact U
   .rcases Nat.lt_or_gt_of_ne hyx with h|h
    .have:=wi Y.kc (show y+1<=x from h);grind
    .have:=wi Y.kc (show x+1<=y from h);grind
   .obtain⟨o,rfl,_⟩:=Y6 e c;rw[ofEvent_cell];show Y.C<_;rw[F.size];exact I.gG.EV
   .obtain⟨o,rfl,ho1,ho2⟩:=Y6 e c;rw[ofEvent_cell]at k;simp only[MemAct.touch?,dn]at k;subst k;exact .inr ⟨rfl,.inr (.inl ⟨o,rfl,ho1,ho2⟩)⟩
   .grind
   .rw[VU];exact deafBehind_idle (λe c=>by grind) 0
  ·
   obtain⟨g',s2,es,r',hgo,Y7,Oo,u⟩:=mE _ k1;obtain⟨⟨σ,σ',S,jP,J6⟩,R⟩:=Y7.resolve_right id;have k3:mD E (O x) (Y.base+x) {s' with w:=w}:=k2.rely k1.size;obtain⟨e1,e2,e3,e4⟩:=Ph k3 S R J6;have xC:∀b,b<w.heap.size->E b≠Y.base+x->s2.w.heap[b]?=w.heap[b]?:=λb k CE=>J6.fA b k λL Q OE=>CE (k3.blk b (.inr ⟨L,Q,OE⟩)).1;refine lz I hx hg hgo (hm':=n5 E w.heap.size (Y.base+x)) (λb k=>fp k) J6.size (λy hy hyx=>⟨J6.size,λb k hby=>xC b k (by omega),λb o v H U=>?_,λo _ _=>km (xC _ I.gG.EV (by rw[I.gG.tl.hC];omega)) o,J6.os,J6.tape,J6.output⟩)
    ⟨J6.size,λb k h0 _ _=>xC b k (by omega),J6.os,J6.tape,J6.output⟩ (.am Oo (cw.xB jP.mem) (k3.step jP J6)) e1 e2 e4 (by rw[VU];exact deafBehind_idle e3 0) (λh=>absurd h (by decide)) (λh=>absurd h (by decide)) (λh=>absurd h (by decide)) ?_
    (I.wg.of_block (xC _ I.gG.Ct (by rw[I.gG.tl.J4];omega))) (λ_ ht _=>(same _ _).retag ht) (.inr ⟨Hl.symm,hA.symm,by grind⟩) (by omega)
   .rw[km (xC b (I.gG.Pe y hy b o v H) (by rw[(I.gG.tl.ms y hy b o v H).1];omega))];exact U
   .obtain⟨cs,c1,c2⟩:=I.gG.pay;exact⟨cs,(xC _ I.gG.EV (by rw[I.gG.tl.hC];omega)).trans c1,c2⟩
 |@rel m g w h =>
  rcases Goes.cases h with kn|⟨m',rfl,mE⟩
  ·
   obtain⟨_,ady,g',hgo,m₂,hk⟩:=kn w (Go.ConcN.RW.refl w);refine lz I hx hg hgo (hm':=E) (λ_ _=>rfl) (bh _) (λy _ _=>.refl ..) (.refl w) (.tail (by decide) (.k1 hk)) (λe c=>?_) (λe c b k _=>?_) (λe c=>?_) (by rw[VU];rfl) (λ_=>⟨t.size,RelBy.new hdk _ _⟩) (λ_=>I.gG.zg x hx hA) (λ_=>by grind) I.gG.pay I.wg
    (λ_ ht _=>(I.mode.counted hx (by omega) (.inl rfl) _ _).retag ht) (.inl ⟨by omega,by simp[cnt,Hl]⟩) (by omega)
   .simp at c;subst c;exact I.gG.Ct
   .simp at c;subst c;simp[mk,aM,MemAct.touch?]at k
   .simp at c;subst c;simp[mk]
  .obtain⟨g',w',es,hgo,⟨rfl,rfl⟩,Hn⟩:=mE w (Go.ConcN.RW.refl w);exact lz I hx hg hgo (hm':=E) (λ_ _=>rfl) (bh _) (λy _ _=>.refl ..) (.refl w') (.rel Hn) (by simp) (by simp) (by simp) (by rw[VU];rfl) (λh=>absurd h (by decide)) (λ_=>I.gG.zg x hx hA) (λh=>absurd h (by decide)) I.gG.pay I.wg (λ_ ht _=>(same _ _).retag ht)
    (.inr ⟨Hl.symm,hA.symm,by rw[hfu];exact Rk.Fo _ s⟩) (by omega)
 |@tail sg m dd g w h6 h =>
  have Rt:∀{g':ar} {w':ay} {es:Array Event} {s' m' Hm:Nat} {rB II:Int},aG P af g w=.go g' w' es->Aside Y.Wg w w'->WgAt ty Y.Wg w' rB II->(∀e∈es,Bk Y.Wg e) ->
    (∀jx e,es[jx]?=aa e->(aM e).touch?=ae∨0<deafBehind dd (es.extract 0 jx))->s'<=6->WSit P ty Y.Wg Y.C N Rr Rr 0 (Y.kc*x+1) (val x 0) s' m' Hm g' w'->deafBehind dd es=Hm ->
    (∀tag',(tag'=tag∨(tag=.blk/\tag'=.w3))->(mayWake P g=ab->g'.status=.running->tag'≠.blk)->Go.ConcN.Mode j (upd D x ⟨s',0,Hm⟩) tag' rB II)->((s'<sg/\cnt ⟨s',0,Hm⟩<=cnt (D x))∨(s'=sg/\m'+1=m)) ->
    ∃m₁ ops μ',runT P (crowd gs w sl) (Y.base+x)=(.next m₁,ops)/\Hk (Y.base+n) μ' μ/\Inv P ty Y N val n T G μ' m₁ (t++ops):=by
   intro g' w' es s' m' Hm rB II hgo Fq K2 IJ hd Y8 VW hdd xE u;obtain⟨cs,Y9,Za⟩:=I.gG.pay;refine lz I hx hg hgo (hm':=E) (λ_ _=>rfl) (by rw[Fq.size];grind) (λy hy _=>.wg Fq I.gG.tl.J4 K1 (λb o v H=>(I.gG.tl.ms y hy b o v H).2.2.1) I.gG.tl.ne) (.wg Fq) (.tail Y8 VW) (KZ IJ (by rw[Fq.size];exact I.gG.Ct)) (Pg IJ) (C5 IJ) (by grind)
    (λ_=>let ⟨r,hr⟩:=I.gG.rel x hx (by omega);⟨r,hr.book hdk _ _ IJ hd⟩) (λ_ i hi1 U3=>(km (Fq.block _ I.gG.tl.ne) _).trans (I.gG.zg x hx hA i hi1 U3)) (λ_=>(km (Fq.block _ I.gG.tl.ne) _).trans (I.gG.C4 x hx (by omega))) ⟨cs,(Fq.block _ I.gG.tl.ne).trans Y9,Za⟩ K2 xE
    (u.imp (λh=>⟨by omega,h.2⟩) λh=>⟨by omega,hA.symm,by rw[hfu,<-h.2];exact Rk.Fo _ s⟩) (by omega)
  have book:∀{g':ar} {w':ay} {es:Array Event} {s' m' Hm:Nat} {rB II:Int},aG P af g w=.go g' w' es->Aside Y.Wg w w'->WgAt ty Y.Wg w' rB II->(∀e∈es,Bk Y.Wg e) ->
    (∀jx e,es[jx]?=aa e->(aM e).touch?=ae∨0<deafBehind dd (es.extract 0 jx))->s'<=6->WSit P ty Y.Wg Y.C N Rr Rr 0 (Y.kc*x+1) (val x 0) s' m' Hm g' w'->deafBehind dd es=Hm ->
    Go.ConcN.Mode j (upd D x ⟨s',0,Hm⟩) tag rB II->((s'<sg/\cnt ⟨s',0,Hm⟩<=cnt (D x))∨(s'=sg/\m'+1=m)) ->
    ∃m₁ ops μ',runT P (crowd gs w sl) (Y.base+x)=(.next m₁,ops)/\Hk (Y.base+n) μ' μ/\Inv P ty Y N val n T G μ' m₁ (t++ops) :=
   λhgo Fq K2 IJ hd Y8 VW hdd xE u=>Rt hgo Fq K2 IJ hd Y8 VW hdd (λ_ ht _=>xE.retag ht) u
  have idle:∀{g':ar} {m':Nat},aG P af g w=.go g' w #[]->WSit P ty Y.Wg Y.C N Rr Rr 0 (Y.kc*x+1) (val x 0) sg m' dd g' w->m'+1=m ->
    ∃m₁ ops μ',runT P (crowd gs w sl) (Y.base+x)=(.next m₁,ops)/\Hk (Y.base+n) μ' μ/\Inv P ty Y N val n T G μ' m₁ (t++ops):=by intro g' m' hgo VW E;exact book hgo (.refl Y.Wg w) I.wg (by simp) (by simp) h6 VW rfl (same _ _) (.inr ⟨rfl,E⟩)
  cases h with
  |r0 h=>omega
  |k1 h =>
   rcases Goes.cases h with kn|⟨m',rfl,mE⟩
   .obtain⟨_,g',hgo,m₂,hk⟩:=kn w (Go.ConcN.RW.refl w);exact book hgo (.refl Y.Wg w) I.wg (by intro e c;simp at c;subst c;exact .inl rfl) (by intro jx e c;exact .inl (by have:=qy c;simp at this;subst this;rfl)) (by decide) (.d1 hk) rfl (I.mode.counted hx (by omega) (.inr rfl) _ _) (.inl ⟨by omega,by simp[cnt,Hl]⟩)
   .obtain⟨g',w',es,hgo,⟨rfl,rfl⟩,Hn⟩:=mE w (Go.ConcN.RW.refl w);exact idle hgo (.k1 Hn) rfl
  |d1 h =>
   rcases Goes.cases h with kn|⟨m',rfl,mE⟩
   .obtain⟨_,SF⟩:=kn w (Go.ConcN.RW.refl w);have Bd:=I.wg;have K3:=I.mode;have X0:cnt (D x)=1:=by simp[cnt,Hl]
    have hV1:1<=Vc j D:=by have:=le_sumTo (f:=λx=>cnt (D x)) hx;simp only[Vc];omega
    have bk2:∀e∈#[rd (stA Y.Wg),wr (stA Y.Wg)],Bk Y.Wg e:=by intro e c;simp at c;rcases c with rfl|rfl<;>exact bk_cell _ _ rfl
    have Yd:∀jx e,(#[rd (stA Y.Wg),wr (stA Y.Wg)]:Array Event)[jx]?=aa e->(aM e).touch?=ae∨0<deafBehind 1 ((#[rd (stA Y.Wg),wr (stA Y.Wg)]:Array Event).extract 0 jx):=by
     intro jx e c
     match jx,c with
     |0,_=>exact .inr (by simp[deafBehind])
     |1,_=>exact .inr (by simp[deafBehind,rd])
     |jx+2,c=>simp at c
    have hq0:∀q,cnt (⟨1,q,1⟩:WD)=0:=λ_=>rfl;have cj:∀q,OpenSt j D->OpenSt j (upd D x ⟨1,q,1⟩):=λq h a J=>by
     by_cases e:a=x
     .subst e;rw[upd_same];simp
     .rw[upd_ne D _ e];exact h a J
    generalize adA:st=Zb at K3 Bd;generalize adB:sm=sm0 at K3 Bd;cases K3 with
    |opn p z l =>
     obtain⟨v,H⟩:∃v,Vc j D+pend tag=v+1:=⟨Vc j D+pend tag-1,by omega⟩
     rw[H]at Bd;have Sw:WgAt ty Y.Wg w (((v:Nat)+1)*KK+((0:Nat):Int)) 0:=by grind
     obtain⟨g',hgo,_,hq⟩:=SF v 0 (by omega) (by omega) Sw;obtain⟨q,hq⟩:=hq (by omega);have XR:Vc j (upd D x ⟨1,0,1⟩)+pend tag=v:=by have:=Vc_upd D (⟨1,0,1⟩:WD) hx;grind
     refine book hgo (aside_setCell w (stA Y.Wg) _) (Bd.setSt _) bk2 Yd (by decide) (.quit hq) rfl ?_ (.inl ⟨by omega,by grind⟩);have e:((v:Nat):Int)*KK+((0:Nat):Int)=((Vc j (upd D x ⟨1,0,1⟩)+pend tag:Nat):Int)*KK:=by grind
     rw[e];exact .opn p (cj 0 z) (λvs ev=>by grind)
    |reg p z l =>
     obtain⟨v,H⟩:∃v,Vc j D=v+1:=⟨Vc j D-1,by omega⟩
     rw[H]at Bd;have hp:pend tag=0:=by cases tag<;>first|rfl|exact p.elim
     have Sw:WgAt ty Y.Wg w (((v:Nat)+1)*KK+((1:Nat):Int)) 0:=by grind
     obtain⟨g',hgo,Z,hq⟩:=SF v 1 (by omega) (by omega) Sw;by_cases Sp:v=0
     .subst Sp;obtain⟨m₂,hk⟩:=Z ⟨rfl,rfl⟩;refine book hgo (aside_setCell w (stA Y.Wg) _) (Bd.setSt _) bk2 Yd (by decide) (.d2 hk) rfl ?_ (.inl ⟨by omega,by simp[cnt]⟩);have E7:∀a,a<j->a≠x->(D a).stage=1:=λa J e=>by have c0:=others_uncounted hx H X0 a J e;have:=z a J;simp only[cnt]at c0;split at c0<;>omega
      have:=Go.ConcN.Mode.last (j:=j) (D:=upd D x ⟨4,0,1⟩) (tag:=tag) x p hx (by rw[upd_same];simp) (λa J e=>by rw[upd_ne D _ e];grind);rw[upd_same]at this;grind
     .obtain⟨q,hq⟩:=hq (by omega);have XR:Vc j (upd D x ⟨1,0,1⟩)=v:=by have:=Vc_upd D (⟨1,0,1⟩:WD) hx;grind
      refine book hgo (aside_setCell w (stA Y.Wg) _) (Bd.setSt _) bk2 Yd (by decide) (.quit hq) rfl ?_ (.inl ⟨by omega,by grind⟩);have e:((v:Nat):Int)*KK+((1:Nat):Int)=((Vc j (upd D x ⟨1,0,1⟩):Nat):Int)*KK+1:=by grind
      rw[e];exact .reg p (cj 0 z) (by omega)
    |last L _ z l X =>
     grind
    |sema z=>have:=z x hx;omega
    |fin _ z=>have:=z x hx;omega
   .obtain⟨g',w',es,hgo,⟨rfl,rfl⟩,Hn⟩:=mE w (Go.ConcN.RW.refl w);exact idle hgo (.d1 Hn) rfl
  |d2 h =>
   rcases Goes.cases h with kn|⟨m',rfl,mE⟩
   .obtain⟨_,Ru⟩:=kn w (Go.ConcN.RW.refl w);obtain⟨VX,E7,e1,e2⟩:=I.mode.isLast hx (by omega);have Bd:=I.wg;rw[e1,e2,Hl]at Bd;obtain⟨g',hgo,m₂,hk⟩:=Ru (by grind);refine book hgo (.refl Y.Wg w) Bd (by intro e c;simp at c;subst c;exact bk_cell _ _ rfl) (by intro jx e c;match jx,c with|0,_=>exact .inr (by simp[deafBehind])|jx+1,c=>grind) (by decide) (.d3 hk) rfl ?_ (.inl ⟨by omega,by simp[cnt]⟩);have:=Go.ConcN.Mode.last (j:=j) (D:=upd D x ⟨3,0,1⟩) (tag:=tag) x VX hx (by rw[upd_same];simp) (λa J e=>by rw[upd_ne D _ e];grind);rw[upd_same]at this;grind
   .obtain⟨g',w',es,hgo,⟨rfl,rfl⟩,Hn⟩:=mE w (Go.ConcN.RW.refl w);exact idle hgo (.d2 Hn) rfl
  |d3 h =>
   rcases Goes.cases h with kn|⟨m',rfl,mE⟩
   .obtain⟨_,Ru⟩:=kn w (Go.ConcN.RW.refl w);obtain⟨VX,E7,e1,e2⟩:=I.mode.isLast hx (by omega);have Bd:=I.wg;rw[e1,e2,Hl]at Bd;obtain⟨g',hgo,m₂,hk⟩:=Ru (by grind);refine book hgo (aside_setCell w (stA Y.Wg) _) (Bd.setSt 0) (by intro e c;simp at c;subst c;exact bk_cell _ _ rfl) (by intro jx e c;match jx,c with|0,_=>exact .inr (by simp[deafBehind])|jx+1,c=>grind) (by decide) (.d4 hk) rfl ?_ (.inl ⟨by omega,by simp[cnt]⟩);have:=Go.ConcN.Mode.last (j:=j) (D:=upd D x ⟨2,0,1⟩) (tag:=tag) x VX hx (by rw[upd_same];simp) (λa J e=>by rw[upd_ne D _ e];grind);rw[upd_same]at this;grind
   .obtain⟨g',w',es,hgo,⟨rfl,rfl⟩,Hn⟩:=mE w (Go.ConcN.RW.refl w);exact idle hgo (.d3 Hn) rfl
  |d4 h =>
   rcases Goes.cases h with kn|⟨m',rfl,mE⟩
   .obtain⟨_,hmw,Ru⟩:=kn w (Go.ConcN.RW.refl w);obtain⟨VX,E7,e1,e2⟩:=I.mode.isLast hx (by omega);have Bd:=I.wg;rw[e1,e2,Hl]at Bd;obtain⟨g',hgo,q,hq⟩:=Ru (by grind);have xF:g'.status=.running:=by
     cases q with
     |zero=>exact absurd hq.2 (by decide)
     |succ q=>exact hq.elim (λx=>absurd x.2 (by decide)) (λx=>x.1)
    refine Rt hgo (aside_setCell w (smA Y.Wg) _) (Bd.setSm 1) (es:=semEvents (smA Y.Wg)) ?_ ?_ (by decide) (.quit hq) (by simp[deafBehind,semEvents]) ?_ (.inl ⟨by omega,by simp[cnt]⟩)
    .intro e c;simp[semEvents]at c;rcases c with rfl|rfl|rfl|rfl
     .exact .inl rfl
     .exact bk_cell _ _ rfl
     .exact bk_cell _ _ rfl
     .exact .inr (.inl rfl)
    .intro jx e c
     match jx,c with
     |0,c=>simp[semEvents]at c;subst c;exact .inl rfl
     |1,_=>exact .inr (by simp[deafBehind,semEvents])
     |2,_=>exact .inr (by simp[deafBehind,semEvents])
     |3,c=>simp[semEvents]at c;subst c;exact .inl rfl
     |jx+4,c=>simp[semEvents]at c
    .intro tag' ht V;have hnb:=V hmw xF;have e3:tag'=.w3:=by
      rcases ht with rfl|⟨_,rfl⟩
      .cases tag'<;>first|rfl|exact VX.elim|grind
      .rfl
     subst e3;simp only[b6];exact .sema λa J=>by
      by_cases e:a=x
      .subst e;rw[upd_same]
      .rw[upd_ne D _ e];grind
   .obtain⟨g',w',es,hgo,⟨rfl,rfl⟩,Hn⟩:=mE w (Go.ConcN.RW.refl w);exact idle hgo (.d4 Hn) rfl
  |quit h =>
   cases m with
   |zero=>rw[h.1]at xn;cases xn
   |succ q =>
    rcases h with⟨hf,_⟩|⟨_,g',es,Rv,mE,hq⟩
    .grind
    .have IJ:∀e∈es,Bk Y.Wg e:=λe c=>bk_of_mute (Rv e c);have hno:∀jx e,es[jx]?=aa e->(aM e).touch?=ae∨0<deafBehind dd (es.extract 0 jx):=λjx e c=>.inl (touch_mute (Rv e (qy c)));exact book (mE w) (.refl Y.Wg w) I.wg IJ hno (by decide) (.quit hq) rfl (same _ _) (.inr ⟨rfl,rfl⟩)
end
end
section
open Go.Conc
open Go.ConcN (WD CTag Vc Ssum pend phi cnt WgLive PayAt Has RW DWs WSit RelBy sumTo upd upd_same upd_ne AtR0 isW3 isOpen OpenSt deafBehind_idle bk_cell okW_none Vc_upd Vc_le le_sumTo others_uncounted sumTo_upd_out bk_dis bk_en bk_rd bk_rw bk_sem allQuit_of exists_counted)
open Go.ConcR (KK WgAt stA smA rd wr mk Payload g_of_ofEvents Bk bk_of_mute ofEvent_loc_mark ofEvent_cell ofEvent_mk)
variable [Payload]
section
variable {Y:Lay}{T k:ar->St->Prop}{l hm':Nat->Nat}{z G:Nat->Mem}{tag:CTag}{rk:Rk}{d:Nat}{a:ar}{R:Mu}{gs:Array ar}{sl:Option (Nat×Nat)}{t:Trace}{D:Nat->WD}{A:Nat->Nat}{K:Nat->Rk}{st sm:Int}
omit [Payload]in
def TL.congr{B:Nat}(h:TL Y l z t j B)(e:∀y,y<j->G y=z y):TL Y l G t j B :=
 ⟨h.base,h.J4,h.hC,h.ne,h.Rq,h.S5,h.J5,λx H=>by rw[e x H];exact h.ms x H,h.T0,h.nr,h.seen,h.old,h.S6,h.IG,λi a hi X l=>(h.new i a hi X l).imp id λ⟨x,H,u,F⟩=>⟨x,H,u,by grind⟩,
  λx H=>by rw[e x H];exact h.mw x H,h.over⟩
def WS.congr{x a st d:Nat}{r:Rk}(h:WS P ty Y N val l z x a st r d g w)(e:G x=z x):WS P ty Y N val l G x a st r d g w:=by
 cases h with
 |am u F J=>exact .am u F (by grind)
 |rel u=>exact .rel u
 |tail h0 u=>exact .tail h0 u
def Com.congr{q:Nat}(h:Com P ty Y N val l z j gs w t D A K q)(e:∀y,y<j->G y=z y):Com P ty Y N val l G j gs w t D A K q :=
 ⟨h.size,h.lv,h.above,λx H=>let ⟨g,u,F⟩:=h.wk x H;⟨g,u,F.congr (e x H)⟩,h.tl.congr e,h.norel,h.deaf0,h.deafW,h.rel,h.zg,h.C4,h.pay,h.live,h.Ct,h.EV,h.Ot,h.kc,λy n=>by rw[e y n];exact h.Pe y n⟩
omit [Payload]in
def Pj{s2:St}{es:Array Event}(W:kl Y l z j s)(V:aE σ s)(Q:fj s es)(st:Step σ s σ' s2):
  (∀e∈es,(aM e).low s2.w.heap.size)/\(∀e∈es,∀a,(aM e).touch?=aa a->a.loc.isMemory=ab->tq Y (n5 l s.w.heap.size 0) a) /\
  (∀e∈es,∀a,(aM e).touch?=aa a->a.kind=.plain->a.write=ab->∀x,x<j->∀b o v,a.loc=.cell ⟨b,o,ae⟩->z x b o≠aa v) /\
  (∀e∈es,e.loc≠.mark .disable/\e.loc≠.mark .enable)/\∀e∈es,∀a,e.loc≠.mark (.release a):=by
 have key:∀e∈es,(aM e).low s2.w.heap.size/\(∀a,(aM e).touch?=aa a->a.loc.isMemory=ab->tq Y (n5 l s.w.heap.size 0) a) /\
   (∀a,(aM e).touch?=aa a->a.kind=.plain->a.write=ab->∀x,x<j->∀b o v,a.loc=.cell ⟨b,o,ae⟩->z x b o≠aa v)/\(e.loc≠.mark .disable/\e.loc≠.mark .enable)/\∀a,e.loc≠.mark (.release a):=by
  intro e E;have h:=Q e E;obtain⟨loc,wr,sy⟩:=e;cases loc with
  |cell ad =>
   obtain⟨u,F,J⟩:=h;simp only at u F J;subst u;have p:ad.block<s.w.heap.size/\l ad.block=0/\ad.block≠Y.C/\ad.block≠Y.Wg/\¬Y.Sh ad.block:=by
    rcases J with J|⟨⟨L,S,J⟩,_⟩|⟨_,v,J⟩
    .exact J.elim
    .obtain⟨k1,Z,O,k4,k5⟩:=W.blk _ (.inr ⟨L,S,J⟩);grind
    .obtain⟨k1,Z,O,k4,k5⟩:=W.M _ _ _ J;grind
   refine⟨by rw[ofEvent_cell];exact c9 p.1 st.size,λb c _=>?_,λb c _ hbw x H b' o v hl U=>?_,⟨by simp,by simp⟩,by simp⟩
   .rw[ofEvent_cell]at c;simp only[MemAct.touch?,dn]at c;subst c;exact .inr ⟨ad.block,rfl,by grind[fp],p.2.2.2.1,p.2.2.1,p.2.2.2.2,rfl⟩
   .rw[ofEvent_cell]at c;simp only[MemAct.touch?,dn]at c;subst c;simp only at hbw hl;have hM:=W.ms x H b' o v U;grind
  |obj r =>
   obtain⟨u,F⟩:=h;simp only at u F;subst u;obtain⟨L,S,J⟩:=F.resolve_left id;obtain⟨k1,Z,O,k4,k5⟩:=W.blk _ (.inr ⟨L,S,J⟩);refine⟨?_,λb c _=>?_,λb c _ _ x _ b' o v hl=>?_,⟨by simp,by simp⟩,by simp⟩
   .simp[aM,MemAct.low,Loc.low];exact c9 k5 st.size
   .simp[aM,MemAct.touch?]at c;subst c;exact .inr ⟨r,rfl,by grind[fp],O,Z,k4,rfl⟩
   .simp[aM,MemAct.touch?]at c;grind
  |mark m =>
   simp only[oJ]at h;rcases h with rfl|⟨f,rfl⟩
   .exact⟨by simp[aM,MemAct.low],λb c=>by simp[aM,MemAct.touch?]at c,λb c=>by simp[aM,MemAct.touch?]at c,⟨by simp,by simp⟩,by simp⟩
   .exact⟨by simp[aM,MemAct.low],λb c=>by simp[aM,MemAct.touch?]at c,λb c=>by simp[aM,MemAct.touch?]at c,⟨by simp,by simp⟩,by simp⟩
  |_=>exact h.elim
 grind
def uz(I:uy P ty Y N val n T k R gs w t l z j D A K d tag rk a s st sm){a':ar}{es:Array Event}{tag':CTag}{rk':Rk}{rB II:Int}(hgo:aG P ab a w=.go a' w' es)(V:∀b,b<w.heap.size->hm' b=l b)(JX:w.heap.size<=w'.heap.size)(Zc:∀y,y<j->IH Y l (z y) y w w')(VT:∀e∈es,(aM e).low w'.heap.size)(htm:∀e∈es,∀a,(aM e).touch?=aa a->a.loc.isMemory=ab->tq Y hm' a)(Yc:∀e∈es,∀a,(aM e).touch?=aa a->a.kind=.plain->a.write=ab->∀x,x<j->∀b o v,a.loc=.cell ⟨b,o,ae⟩->z x b o≠aa v)(Zd:∀e∈es,∀a,e.loc≠.mark (.release a))(K4:PayAt Y.C N w')(Bd:WgAt ty Y.Wg w' rB II)(IK:CS P ty Y N val n T k tag' j rk' (deafBehind d es) a' s')(VY:cw s' {s' with w:=w'})(q:kl Y hm' z j s')(g:Go.ConcN.Mode j D tag' rB II)(p:phi n (Vc j D) tag'<phi n (Vc j D) tag∨(phi n (Vc j D) tag'=phi n (Vc j D) tag/\Rk.lt rk' rk)):
  ∃m₁ ops μ',runT P (crowd gs w sl) 0=(.next m₁,ops)/\Hk (Y.base+n) μ' R/\Inv P ty Y N val n T k μ' m₁ (t++ops):=by
 have c:=I.gG.tl.base;have xn:=runT_crowd_go (P:=P) (sl:=sl) (i:=0) I.a0 (by simpa using hgo)
 refine⟨_,_,(phi n (Vc j D) tag'+Ssum j D+sumTo j A,(K,rk')),xn,?_,_,w',sl,hm',z,j,D,A,K,deafBehind d es,tag',rk',a',s',rB,II,rfl,
  ⟨Go.ConcN.get_map_set_same _ _ _ (by rw[I.gG.size];omega),IK,VY,q,I.gG.step0 V JX Zc VT htm Yc Zd K4 ⟨_,_,Bd⟩,Bd,g,rfl⟩⟩
 rw[I.mu];rcases p with h|⟨u,F⟩
 .exact Prod.Lex.left _ _ (by omega)
 .rw[u];exact Prod.Lex.right _ (Prod.Lex.right _ F)
def iT(I:uy P ty Y N val n T k R gs w t l z j D A K d tag rk a s st sm){a':ar}{es:Array Event}{rk':Rk}{s1:St}(u:cw s1 {s1 with w:=w})(q:kl Y l z j s1)(hgo:aG P ab a w=.go a' s'.w es)(Y7:rW {s1 with w:=w} s' es∨Es Y.Wg {s1 with w:=w} s' es)(IK:CS P ty Y N val n T k tag j rk' d a' s')(p:Rk.lt rk' rk):
  ∃m₁ ops μ',runT P (crowd gs w sl) 0=(.next m₁,ops)/\Hk (Y.base+n) μ' R/\Inv P ty Y N val n T k μ' m₁ (t++ops):=by
 rcases Y7 with⟨⟨σ,σ',V,jP,g⟩,Q⟩|⟨rfl,ad,had,Y6⟩
 .have O:kl Y l z j {s1 with w:=w}:=q.rely u.size;obtain⟨e1,e2,e3,e4,e5⟩:=Pj O V Q g;have xC:∀b,b<w.heap.size->(l b≠0∨b=Y.C∨b=Y.Wg)->s'.w.heap[b]?=w.heap[b]?:=λb c CE=>g.fA b c λL S OE=>by obtain⟨q1,q2,q3,_⟩:=O.blk b (.inr ⟨L,S,OE⟩);grind
  have K1:=I.gG.tl.base;refine uz I hgo (hm':=n5 l w.heap.size 0) (λb c=>fp c) g.size (λy hy=>⟨g.size,λb c hby=>xC b c (.inl (by omega)),λb o v U _=>jP.mem b o v (g.mem _ _ _ (q.ms y hy b o v U)),λo _ _=>km (xC _ I.gG.EV (.inr (.inl rfl))) o,g.os,g.tape,g.output⟩) e1 e2 e3 e5 ?_
   (I.wg.of_block (xC _ I.gG.Ct (.inr (.inr rfl)))) (s':=s') (tag':=tag) (rk':=rk') (by rw[deafBehind_idle e4];exact IK) (cw.xB jP.mem) (O.step jP g I.gG.Ct I.gG.EV I.gG.Ot) I.mode (.inr ⟨rfl,p⟩)
  obtain⟨cs,c1,c2⟩:=I.gG.pay;exact⟨cs,(xC _ I.gG.EV (.inr (.inl rfl))).trans c1,c2⟩
 .have U4:∀e∈es,e=mk (.read ad)∨e=mk (.write ad):=by grind
  refine uz I hgo (hm':=l) (λb c=>rfl) (bh _) (λy hy=>.refl ..) (λe E=>?_) (λe E b c _=>?_) (λe E b c hk=>?_) (λe E=>?_) I.gG.pay I.wg (s':={s1 with w:=w}) (tag':=tag) (rk':=rk') ?_ (u.trans' ) (q.rely u.size) I.mode (.inr ⟨rfl,p⟩)
  .have hW:=I.gG.Ct;rcases U4 e E with rfl|rfl<;>(rw[ofEvent_mk];show ad.block<_;grind)
  .rcases U4 e E with rfl|rfl<;>(rw[ofEvent_mk]at c;simp[MemAct.touch?]at c;subst c;exact .inl ⟨ad,rfl,had,by simp⟩)
  .rcases U4 e E with rfl|rfl<;>(rw[ofEvent_mk]at c;simp[MemAct.touch?]at c;grind)
  .rcases U4 e E with rfl|rfl<;>simp[mk]
  .rw[deafBehind_idle (λe E=>by rcases U4 e E with rfl|rfl<;>simp[mk])];exact IK
def gY(I:uy P ty Y N val n T k R gs w t l z j D A K d tag rk a s st sm){a':ar}{es:Array Event}{tag':CTag}{rk':Rk}{rB II:Int}{s1:St}(u:cw s1 {s1 with w:=w})(g:kl Y l z j s1)(hgo:aG P ab a w=.go a' w' es)(Fq:Aside Y.Wg w w')(K2:WgAt ty Y.Wg w' rB II)(IJ:∀e∈es,Bk Y.Wg e)(IK:CS P ty Y N val n T k tag' j rk' (deafBehind d es) a' {s1 with w:=w'})(xE:Go.ConcN.Mode j D tag' rB II)(p:phi n (Vc j D) tag'<phi n (Vc j D) tag∨(phi n (Vc j D) tag'=phi n (Vc j D) tag/\Rk.lt rk' rk)):
  ∃m₁ ops μ',runT P (crowd gs w sl) 0=(.next m₁,ops)/\Hk (Y.base+n) μ' R/\Inv P ty Y N val n T k μ' m₁ (t++ops):=by
 obtain⟨cs,X0,Vm⟩:=I.gG.pay;have F:cw s1 {s1 with w:=w'}:=g.KX u (Fp.wg Fq);refine uz I hgo (hm':=l) (λb c=>rfl) (by rw[Fq.size];grind) (λy hy=>.wg Fq I.gG.tl.J4 I.gG.tl.base (λb o v U=>(I.gG.tl.ms y hy b o v U).2.2.1) I.gG.tl.ne) (KZ IJ (by rw[Fq.size];exact I.gG.Ct)) (λe E b c l=>?_) (λe E b c hk=>?_) (C5 IJ)
  ⟨cs,(Fq.block _ I.gG.tl.ne).trans X0,Vm⟩ K2 IK F.trans' (g.rely F.size) xE p
 .rcases IJ e E with q|q|⟨ad,wr,rfl,X⟩
  .rw[ofEvent_loc_mark q]at c;cases c
  .rw[ofEvent_loc_mark q]at c;cases c
  .rw[ofEvent_cell]at c;simp only[MemAct.touch?,dn]at c;subst c;exact .inl ⟨ad,rfl,X,by simp⟩
 .rcases IJ e E with q|q|⟨ad,wr,rfl,X⟩
  .rw[ofEvent_loc_mark q]at c;cases c
  .rw[ofEvent_loc_mark q]at c;cases c
  .rw[ofEvent_cell]at c;simp only[MemAct.touch?,dn]at c;grind
end
section
variable {Y:Lay}{T f:ar->St->Prop}{l hm':Nat->Nat}{u k:Nat->Mem}{tag:CTag}{rk:Rk}{d:Nat}{a:ar}{C:Mu}{gs:Array ar}{sl:Option (Nat×Nat)}{t:Trace}{D:Nat->WD}{A:Nat->Nat}{K:Nat->Rk}{st E:Int}
def CS.bound(h:CS P ty Y N val n T f tag j rk d a s):j+pend tag<=n:=by cases h<;>simp only[pend]<;>(try simp)<;>omega
omit [Payload]in
def iU(h:kT (Cx.lead P ty Y.Wg) (Es Y.Wg) S rk a s)(p:cw s {s with w:=w})(G:kl Y l u j s)(live:WgLive ty Y.Wg w):
  (∃s',cw s' {s' with w:=w}/\kl Y l u j s'/\S a s')∨∃s',cw s' {s' with w:=w}/\kl Y l u j s'/\∃g' s2 es r',aG P ab a w=.go g' s2.w es/\(rW {s' with w:=w} s2 es∨Es Y.Wg {s' with w:=w} s2 es)/\kT (Cx.lead P ty Y.Wg) (Es Y.Wg) S r' g' s2/\Rk.lt r' rk:=by
 rcases h.norm (λs0=>cw s0 {s0 with w:=w}/\kl Y l u j s0) (λs0 s' B hi=>⟨hi.1.ghost B,hi.2.ghost B⟩) (λF=>False.elim F) ⟨p,G⟩with⟨s',⟨k1,c⟩,z⟩|⟨_,s',⟨k1,c⟩,z⟩
 .grind
 .exact .inr ⟨s',k1,c,z _ ⟨k1,λ_=>live⟩⟩
def WS.quits{x a st d:Nat}{r:Rk}{g:ar}(h:WS P ty Y N val l u x a st r d g w)(b:st=1):∃m,QuitsD P m d g:=by
 cases h with
 |am _ _ _=>cases b
 |rel _=>cases b
 |tail _ h=>exact⟨_,h.quits b⟩
def WS.small{x a st d:Nat}{r:Rk}(h:WS P ty Y N val l u x a st r d g w)(b:st=1):a=0:=by
 cases h with
 |am _ _ _=>cases b
 |rel _=>rfl
 |tail _ h=>rfl
def K5(I:uy P ty Y N val n T f C gs w t l u j D A K d tag rk a s st E)(hn:n<2147483648)(Ye:∀g s,f g s->eE (Cx.lead P ty Y.Wg) (Es Y.Wg) (AtW1 P ty Y T f) g s)(xn:a.status=.running):
  ∃U ops,runT P (crowd gs w sl) 0=(.next U,ops)/\((∃hm' k,Pf P Y N val n T hm' k U (t++ops))∨∃μ',Hk (Y.base+n) μ' C/\Inv P ty Y N val n T f μ' U (t++ops)):=by
 have hVj:=Vc_le j D;have K1:=I.gG.tl.base;have live:=I.gG.live;have fin:∀{X:Prop},(∃U ops μ',runT P (crowd gs w sl) 0=(.next U,ops)/\Hk (Y.base+n) μ' C/\Inv P ty Y N val n T f μ' U (t++ops)) ->
   ∃U ops,runT P (crowd gs w sl) 0=(.next U,ops)/\((∃hm' k,Pf P Y N val n T hm' k U (t++ops))∨∃μ',Hk (Y.base+n) μ' C/\Inv P ty Y N val n T f μ' U (t++ops)) :=
  λ{_} ⟨U,ops,μ',p,h2,h3⟩=>⟨U,ops,p,.inr ⟨μ',h2,h3⟩⟩
 have hbound:=I.cs.bound;have cs:=I.cs;have O:=I.wg;have J:=I.mode;cases cs with
 |@skd r rk g s hr h =>
  rcases iU h I.rely I.lead live with⟨s',k1,c,_,g',H,hk⟩|⟨s',k1,c,g',s2,es,r',H,R,hk,Q⟩
  .obtain⟨r2,hk⟩:=hk {s' with w:=w} (gi k1 live);exact fin (X:=True) (gY I k1 c (H w) (.refl Y.Wg w) O bk_dis (.sa1 hr hk) (J.reopen ak ak rfl (by simp)) (.inl (by simp only[phi];omega)))
  .exact fin (X:=True) (iT I k1 c H R (.skd hr hk) Q)
 |@sa1 r rk g s hr h =>
  rcases iU h I.rely I.lead live with⟨s',k1,c,_,V⟩|⟨s',k1,c,g',s2,es,r',H,R,hk,Q⟩
  .obtain⟨ho,e1,e2,_⟩:=J.open_inv ak;rw[e1,e2]at O;obtain⟨a',H,r2,hk⟩:=V {s' with w:=w} (gi k1 live) (Vc (n-(r+1)) D) (by omega) (by simpa[pend]using O);refine fin (X:=True) (gY I k1 c H (aside_setCell w (stA Y.Wg) _) (O.setSt _) bk_rw (.ske hr hk) ?_ (.inl (by simp only[phi];omega)));have e:(((Vc (n-(r+1)) D:Nat):Int)+1)*KK=((Vc (n-(r+1)) D+pend (.sp r 3):Nat):Int)*KK:=by simp[pend]
   rw[e];exact .opn ak ho (by simp)
  .exact fin (X:=True) (iT I k1 c H R (.sa1 hr hk) Q)
 |@ske r rk g s hr h =>
  rcases iU h I.rely I.lead live with⟨s',k1,c,_,g',H,hk⟩|⟨s',k1,c,g',s2,es,r',H,R,hk,Q⟩
  .obtain⟨r2,hk⟩:=hk {s' with w:=w} (gi k1 live);exact fin (X:=True) (gY I k1 c (H w) (.refl Y.Wg w) O bk_en (.sgo hr hk) (J.reopen ak ak rfl (by simp)) (.inl (by simp only[phi];omega)))
  .exact fin (X:=True) (iT I k1 c H R (.ske hr hk) Q)
 |@sgo r rk g s hr h =>
  rcases iU h I.rely I.lead live with⟨s',k1,c,_,V⟩|⟨s',k1,c,g',s2,es,r',H,R,hk,Q⟩
  .obtain⟨a',child,hsp,_,⟨rc,hwk⟩,Rw⟩:=V {s' with w:=w} (gi k1 live);obtain⟨ho,e1,e2,_⟩:=J.open_inv ak;rw[e1,e2]at O;have xF:=runT_crowd_spawn (P:=P) (sl:=sl) (i:=0) I.a0 (by simpa using hsp);rw[I.gG.size]at xF;have z:kl Y l u (n-(r+1)) {s' with w:=w}:=c.rely k1.size;let k:=upd u (n-(r+1)) s'.M;have hMe:∀y,y<n-(r+1)->k y=u y:=λy hy=>upd_ne u _ (by omega);have Ze:k (n-(r+1))=s'.M:=upd_same u _ _;have S8:cw (St.child {s' with w:=w}) {St.child {s' with w:=w}with w:=w}:=cw.xB k1.mem;have VZ:mD l (k (n-(r+1))) (Y.base+(n-(r+1))) (St.child {s' with w:=w}):=by
    refine⟨λb hb=>?_,λb o v hv=>⟨.inr (by rw[Ze];exact hv),(z.M b o v hv).2.2.2.2⟩⟩;rcases hb with hb|⟨L,hL,_⟩
    .exact hb.elim
    .simp[St.child]at hL
   have Ho:=(I.gG.congr hMe).spawn (a':=a') (x:={g:=0,fn:=a.frame.fn,pos:=a.frame.place,act:=.go (Y.base+(n-(r+1)))}) (y:={g:=Y.base+(n-(r+1)),fn:=child.frame.fn,pos:=a.frame.place,act:=.start}) ⟨rfl,rfl⟩ ⟨rfl,rfl⟩
    (λb o v hv=>by rw[Ze]at hv;exact z.M b o v hv) hwk S8 VZ
   have eV:Vc (n-(r+1)+1) (upd D (n-(r+1)) ⟨7,0,0⟩)=Vc (n-(r+1)) D+1:=by simp only[Vc,sumTo,upd_same];rw[sumTo_upd_out D _ cnt (bh _)];rfl
   have eS:Ssum (n-(r+1)+1) (upd D (n-(r+1)) ⟨7,0,0⟩)=Ssum (n-(r+1)) D+7:=by simp only[Ssum,sumTo,upd_same];rw[sumTo_upd_out D _ WD.stage (bh _)]
   have eA:sumTo (n-(r+1)+1) (upd A (n-(r+1)) 1)=sumTo (n-(r+1)) A+1:=by have:sumTo (n-(r+1)) (upd A (n-(r+1)) 1)=sumTo (n-(r+1)) A:=sumTo_upd_out A 1 id (i:=n-(r+1)) (j:=n-(r+1)) (bh _);show sumTo (n-(r+1)) (upd A (n-(r+1)) 1)+upd A (n-(r+1)) 1 (n-(r+1))=_;rw[upd_same];grind
   have Yf:OpenSt (n-(r+1)+1) (upd D (n-(r+1)) ⟨7,0,0⟩):=λi hi=>by
    by_cases e:i=n-(r+1)
    .subst e;rw[upd_same];simp
    .rw[upd_ne D _ e];exact ho i (by omega)
   have Zf:((gs.setIfInBounds 0 a').push child)[0]?=aa a':=by
    have h0:0<gs.size:=by rw[I.gG.size];omega
    grind
   have Z:kl Y l k (n-(r+1)+1) {s' with w:=w}:=⟨z.blk,z.M,λy hy b o v hv=>by
    rcases cN y (n-(r+1))with p|p
    .rw[hMe y p]at hv;exact z.ms y p b o v hv
    .obtain rfl:y=n-(r+1):=by omega
     rw[Ze]at hv;exact hv⟩
   have ej:n-(r+1)+1=n-r:=by omega
   rw[ej]at Ho eV eS eA Yf Z;have Zg:∀tag',pend tag'=0->((Vc (n-(r+1)) D+pend (.sp r 2):Nat):Int)*KK=((Vc (n-r) (upd D (n-(r+1)) ⟨7,0,0⟩)+pend tag':Nat):Int)*KK:=λtag' hp=>by rw[eV,hp];simp[pend]
   cases r with
   |zero =>
    obtain⟨r3,hk⟩:=Rw;simp only[l7]at Ho eV eS eA Yf Zg Z;refine⟨_,_,xF,.inr ⟨(phi n (Vc n (upd D (n-(0+1)) ⟨7,0,0⟩)) .kd+Ssum n (upd D (n-(0+1)) ⟨7,0,0⟩)+sumTo n (upd A (n-(0+1)) 1),(upd K (Y.base+(n-(0+1))) rc,r3)),by rw[I.mu];exact Prod.Lex.left _ _ (by simp only[phi];omega),
     _,w,sl,l,k,n,_,_,_,0,.kd,r3,a',{s' with w:=w},_,_,rfl,⟨Zf,.kd hk,k1.trans',Z,Ho,O,?_,rfl⟩⟩⟩
    rw[Zg .kd rfl];exact .opn ak Yf (by simp)
   |succ r' =>
    obtain⟨r3,hk⟩:=Rw;refine⟨_,_,xF,.inr ⟨(phi n (Vc (n-(r'+1)) (upd D (n-(r'+1+1)) ⟨7,0,0⟩)) (.sp r' 5)+Ssum (n-(r'+1)) (upd D (n-(r'+1+1)) ⟨7,0,0⟩)+sumTo (n-(r'+1)) (upd A (n-(r'+1+1)) 1),(upd K (Y.base+(n-(r'+1+1))) rc,r3)),by rw[I.mu];exact Prod.Lex.left _ _ (by simp only[phi];omega),
     _,w,sl,l,k,n-(r'+1),_,_,_,0,.sp r' 5,r3,a',{s' with w:=w},_,_,rfl,⟨Zf,.skd (by omega) hk,k1.trans',Z,Ho,O,?_,rfl⟩⟩⟩
    rw[Zg (.sp r' 5) rfl];exact .opn ak Yf (by simp)
  .exact fin (X:=True) (iT I k1 c H R (.sgo hr hk) Q)
 |kd h =>
  rcases iU h I.rely I.lead live with⟨s',k1,c,_,g',H,hk⟩|⟨s',k1,c,g',s2,es,r',H,R,hk,Q⟩
  .obtain⟨r2,hk⟩:=Ye _ _ (hk {s' with w:=w} (gi k1 live));exact fin (X:=True) (gY I k1 c (H w) (.refl Y.Wg w) O bk_dis (.w1 hk) (J.reopen ak ak rfl (by simp)) (.inl (by simp only[phi];omega)))
  .exact fin (X:=True) (iT I k1 c H R (.kd hk) Q)
 |w1 h =>
  rcases iU h I.rely I.lead live with⟨s',k1,c,_,V⟩|⟨s',k1,c,g',s2,es,r',H,R,hk,Q⟩
  .obtain⟨ho,e1,e2,_⟩:=J.open_inv ak;rw[e1,e2]at O;have hV:=Vc_le n D;obtain⟨a',H,h0,CE⟩:=V {s' with w:=w} (gi k1 live) (Vc n D) (by omega) (by grind);by_cases hv:Vc n D=0
   .obtain⟨r2,hk⟩:=h0 hv;refine fin (X:=True) (gY I k1 c H (.refl Y.Wg w) O bk_rd (.ke hk) ?_ (.inl (by simp only[phi];omega)));have e:((Vc n D+pend .w1:Nat):Int)*KK=0:=by grind
    rw[e];exact .fin ak (allQuit_of ho hv)
   .obtain⟨r2,hk⟩:=CE hv;refine fin (X:=True) (gY I k1 c H (.refl Y.Wg w) O bk_rd (.w2 hk) ?_ (.inl (by simp only[phi];omega)));have:=J.reopen (tag':=.w2 (Vc n D)) ak ak rfl (λvs e=>by grind);grind
  .exact fin (X:=True) (iT I k1 c H R (.w1 hk) Q)
 |@w2 vs rk g s h =>
  rcases iU h I.rely I.lead live with⟨s',k1,c,_,V⟩|⟨s',k1,c,g',s2,es,r',H,R,hk,Q⟩
  .obtain⟨ho,e1,e2,Zh⟩:=J.open_inv ak;rw[e1,e2]at O;obtain⟨hle,p⟩:=Zh vs rfl;obtain⟨Zi,V0⟩:=V {s' with w:=w} (gi k1 live) (Vc n D) (by omega) (by grind);by_cases e:Vc n D=vs
   .obtain⟨a',H,r2,hk⟩:=Zi e;exact fin (X:=True) (gY I k1 c H (aside_setCell w (stA Y.Wg) _) (O.setSt _) bk_rw (.w3 hk) (.reg ak ho (by omega)) (.inl (by simp only[phi];omega)))
   .obtain⟨a',H,hk⟩:=V0 e;obtain⟨r2,hk⟩:=Ye _ _ hk;refine fin (X:=True) (gY I k1 c H (.refl Y.Wg w) O bk_rd (.w1 hk) ?_ (.inl (by simp only[phi];omega)));have:=J.reopen (tag':=.w1) ak ak rfl (by simp);grind
  .exact fin (X:=True) (iT I k1 c H R (.w2 hk) Q)
 |@w3 rk g s h =>
  rcases iU h I.rely I.lead live with⟨s',k1,c,kn⟩|⟨s',k1,c,g',s2,es,r',H,R,hk,Q⟩
  .obtain⟨_,VC,V⟩:=kn;obtain⟨Pk,Rx⟩:=V {s' with w:=w} (gi k1 live);obtain⟨x,hx⟩:=Rk.KY s rk;have V1:AtW3 P ty Y T a {s' with w:=w}:=AtW3.rely ⟨xn,VC,V⟩ (gi k1 live);generalize st=Zb at J O;generalize E=sm0 at J O;cases J with
   |opn p _ _=>exact p.elim
   |reg p h2 h3=>exact fin (X:=True) (gY I k1 c (Pk ⟨_,O⟩) (.refl Y.Wg w) O (by simp) (.blk (rk:=x) V1) (.reg ak h2 h3) (.inr ⟨rfl,hx⟩))
   |last L p h2 h3 h4=>exact fin (X:=True) (gY I k1 c (Pk ⟨_,O⟩) (.refl Y.Wg w) O (by simp) (.blk (rk:=x) V1) (.last L ak h2 h3 h4) (.inr ⟨rfl,hx⟩))
   |sema h2 =>
    obtain⟨a',H,r2,hk⟩:=Rx O;exact fin (X:=True) (gY I k1 c H (aside_setCell w (smA Y.Wg) _) (O.setSm 0) bk_sem (.w4 hk) (.fin ak h2) (.inl (by simp only[phi];omega)))
   |fin p _=>exact p.elim
  .exact fin (X:=True) (iT I k1 c H R (.w3 hk) (Rk.Hj Q))
 |blk h=>grind
 |w4 h =>
  rcases iU h I.rely I.lead live with⟨s',k1,c,_,V⟩|⟨s',k1,c,g',s2,es,r',H,R,hk,Q⟩
  .obtain⟨hq,e1,e2⟩:=J.fin_inv ak;rw[e1,e2]at O;obtain⟨a',H,r2,hk⟩:=V {s' with w:=w} (gi k1 live) O;exact fin (X:=True) (gY I k1 c H (.refl Y.Wg w) O bk_rd (.ke hk) (.fin ak hq) (.inl (by simp only[phi];omega)))
  .exact fin (X:=True) (iT I k1 c H R (.w4 hk) Q)
 |ke h =>
  rcases iU h I.rely I.lead live with⟨s',k1,c,_,g',H,hk⟩|⟨s',k1,c,g',s2,es,r',H,R,hk,Q⟩
  .obtain⟨r2,hk⟩:=hk {s' with w:=w} (gi k1 live);obtain⟨hq,e1,e2⟩:=J.fin_inv ak;rw[e1,e2]at O;exact fin (X:=True) (gY I k1 c (H w) (.refl Y.Wg w) O bk_en (.acq hk) (.fin ak hq) (.inl (by simp only[phi];omega)))
  .exact fin (X:=True) (iT I k1 c H R (.ke hk) Q)
 |acq h =>
  rcases iU h I.rely I.lead live with⟨s',k1,c,_,a',H,hk⟩|⟨s',k1,c,g',s2,es,r',H,R,hk,Q⟩
  .obtain⟨hq,e1,e2⟩:=J.fin_inv ak;have xF:=runT_crowd_go (P:=P) (sl:=sl) (i:=0) I.a0 (by simpa using H w);have ev:MemOp.ofEvents 0 a.frame.fn a.frame.place #[mk (.acquire (stA Y.Wg))]=#[{g:=0,fn:=a.frame.fn,pos:=a.frame.place,act:=.mark (.acquire (stA Y.Wg))}]:=by rw[ofEvents_eq];simp[ofEvent_mk]
   have W:=I.gG.step0 (g:=a) (g':=a') (fn:=a.frame.fn) (pos:=a.frame.place) (es:=#[mk (.acquire (stA Y.Wg))]) (hm':=l) (w':=w) (λ_ _=>rfl) (bh _) (λy _=>.refl ..) (by simp;exact I.gG.Ct) (by intro e he b hb;simp at he;subst he;simp[mk,aM,MemAct.touch?]at hb) (by intro e he b hb;simp at he;subst he;simp[mk,aM,MemAct.touch?]at hb) (by intro e he;simp at he;subst he;simp[mk]) I.gG.pay live;have hd0:deafBehind 0 #[mk (.acquire (stA Y.Wg))]=0:=rfl;have hy:(t++#[({g:=0,fn:=a.frame.fn,pos:=a.frame.place,act:=.mark (.acquire (stA Y.Wg))}:MemOp)])[t.size]?=aa {g:=0,fn:=a.frame.fn,pos:=a.frame.place,act:=.mark (.acquire (stA Y.Wg))}:=by simp
   have V2:=W.tl.Y4 (by rw[W.deaf0];rfl) (W.norel _) (q:=t.size) (by rw[ev,act?_of hy]) (by rw[ev];simp[Trace.g?]) (by rw[ev];exact⟨0,by simp[Trace.g?],by rw[deaf_old (bh _)];exact I.gG.deaf0⟩) (λx hx=>by
    obtain⟨r,hr⟩:=I.gG.rel x hx (by rw[hq x hx];omega)
    exact⟨r,hr.appOther g_of_ofEvents (by omega),lt_of_act? hr.act⟩)
   have Iu:∃q,Leavers P (t++MemOp.ofEvents 0 a.frame.fn a.frame.place #[mk (.acquire (stA Y.Wg))]) ((gs.map (woken P a a' w)).setIfInBounds 0 a') q:=by
    have each:∀i,∃m,∀g,0<i->((gs.map (woken P a a' w)).setIfInBounds 0 a')[i]?=aa g->QuitsD P m (Deaf (t++MemOp.ofEvents 0 a.frame.fn a.frame.place #[mk (.acquire (stA Y.Wg))]) i) g:=by
     intro i;cases SE:((gs.map (woken P a a' w)).setIfInBounds 0 a')[i]? with
     |none=>exact⟨0,λg _ B=>by cases B⟩
     |some g =>
      rcases ny i with e|K6
      .exact⟨0,λg' h=>by omega⟩
      .rcases cN i Y.base with Q|U2
       .obtain⟨m,_,Zj⟩:=W.lv i g K6 Q SE;exact⟨m,λg' _ Hn=>by grind⟩
       .obtain⟨x,rfl⟩:∃x,i=Y.base+x:=⟨i-Y.base,by omega⟩
        have hx:x<n:=by have:=(iJ.1 SE).1;rw[W.size]at this;omega
        obtain⟨g0,zh,Zk⟩:=W.wk x hx;rw[SE]at zh;cases zh;obtain⟨m,Zj⟩:=Zk.quits (hq x hx);refine⟨m,λg' _ Hn=>?_⟩;cases Hn;rw[W.deafW x hx];exact Zj
    exact⟨λi=>Classical.choose (each i),λi g hi B=>Classical.choose_spec (each i) g hi B,λi hi=>W.above i (by rw[W.size]at hi;exact hi)⟩
   obtain⟨q,Iu⟩:=Iu;refine⟨_,_,xF,.inl ⟨l,u,⟨_,w,sl,a',s',q,rfl,Go.ConcN.get_map_set_same _ _ _ (by rw[I.gG.size];omega),W.size,hk {s' with w:=w} (gi k1 live),k1,c,Iu,V2,W.norel,I.gG.pay,λx hx i hi=>?_,I.gG.EV,I.gG.Ct,I.gG.Ot⟩⟩⟩;obtain⟨g0,_,Zk⟩:=I.gG.wk x hx;rcases ny i with e|K6
   .subst e;exact I.gG.C4 x hx (by rw[hq x hx];omega)
   .exact I.gG.zg x hx (Zk.small (hq x hx)) i K6 hi
  .exact fin (X:=True) (iT I k1 c H R (.acq hk) Q)
end
end
section
open Go.Conc
open Go.ConcN (WD CTag Vc Ssum pend phi cnt WgLive PayAt Has WSit RelBy sumTo upd upd_same upd_ne exists_counted)
open Go.ConcR (KK WgAt stA smA Payload)
variable [Payload]
section
variable {Y:Lay}{T c:ar->St->Prop}{l:Nat->Nat}{p:Nat->Mem}{tag:CTag}{rk:Rk}{d:Nat}{a:ar}{f:Mu}{gs:Array ar}{sl:Option (Nat×Nat)}{t:Trace}{D:Nat->WD}{A:Nat->Nat}{K:Nat->Rk}{st u:Int}
def WS.running_of{x a st d:Nat}{r:Rk}{g:ar}(h:WS P ty Y N val l p x a st r d g w)(b:st≠1):g.status=.running:=by
 cases h with
 |am h1 _ _=>exact h1.run λ_ _ x=>x.1
 |rel h1=>exact Goes.running (λ_ _ x=>x.1) w (Go.ConcN.RW.refl w) h1
 |tail _ h1=>exact h1.running_of b
def someone_runs(I:uy P ty Y N val n T c f gs w t l p j D A K d tag rk a s st u):∃(i:Nat)(g:ar),gs[i]?=aa g/\g.status=.running:=by
 rcases I.cs.status with⟨e,_⟩|⟨_,rfl⟩
 .exact⟨0,a,I.a0,e⟩
 .have b:=I.mode;cases b with
  |opn h1 _ _=>exact h1.elim
  |reg _ _ k =>
   obtain⟨i,hi,o⟩:=exists_counted k;obtain⟨g,h,e⟩:=I.gG.wk i hi;exact⟨_,g,h,e.running_of (by omega)⟩
  |last L _ m k _ =>
   obtain⟨g,h,e⟩:=I.gG.wk L m;exact⟨_,g,h,e.running_of (by omega)⟩
  |fin h1 _=>exact h1.elim
def all_awake(I:uy P ty Y N val n T c f gs w t l p j D A K d tag rk a s st u):∀g∈gs,awake g:=by
 intro g v z;obtain⟨i,hi⟩:=Array.mem_iff_getElem?.1 v;rcases ny i with rfl|b
 .rw[I.a0]at hi;cases hi;rcases I.cs.status with⟨k,_⟩|⟨k,_⟩<;>rw[k]<;>simp
 .rcases cN i Y.base with o|y
  .obtain⟨m,_,q⟩:=I.gG.lv i g b o hi;rcases q.status with h|h<;>rw[h]<;>simp
  .obtain⟨x,rfl⟩:∃x,i=Y.base+x:=⟨i-Y.base,by omega⟩
   have r:x<j:=by have:=(iJ.1 hi).1;rw[I.gG.size]at this;omega
   obtain⟨g',e,k⟩:=I.gG.wk x r;rw[hi]at e;cases e;rcases k.status with h|h<;>rw[h]<;>simp
def uy.at(I:uy P ty Y N val n T c f gs w t l p j D A K d tag rk a s st u)(b:Nat):uy P ty Y N val n T c f gs (w.at b) t l p j D A K d tag rk a s st u :=
 ⟨I.a0,I.cs,I.rely.more (bh _) (λ_ _=>rfl) (λ_ _ _ _ h=>h) rfl rfl rfl,I.lead,I.gG.at b,I.wg,I.mode,I.mu⟩
def Fs(I:uy P ty Y N val n T c f gs w t l p j D A K d tag rk a s st u)(hi:0<i)(r:i<Y.base)(E:gs[i]?=aa g)(e:g.status=.running):
  ∃o ops μ',runT P (crowd gs w sl) i=(.next o,ops)/\Hk (Y.base+n) μ' f/\Inv P ty Y N val n T c μ' o (t++ops):=by
 obtain⟨m,F,C⟩:=I.gG.lv i g hi r E;cases m with
 |zero=>rw[C.1]at e;cases e
 |succ m =>
  rcases C with⟨H,_⟩|⟨_,g',es,z,v,y⟩
  .grind
  .have B:(i==0)=af:=by grind
   have q:=runT_crowd_go (P:=P) (sl:=sl) (i:=i) E (by rw[B];exact v w)
   obtain⟨tag',rk',x,h,G⟩:=I.cs.wokenBy g g' w;have b:Go.ConcN.Mode j D tag' st u:=I.mode.retag h;refine⟨_,_,(phi n (Vc j D) tag'+Ssum j D+sumTo j A,(upd K i (Rk.nat m),rk')),q,?_,_,w,sl,l,p,j,D,A,_,d,tag',rk',woken P g g' w a,s,st,u,rfl,
    ⟨by rw[Go.ConcN.get_map_set _ _ _ _ (by omega),I.a0];rfl,x,I.rely,I.lead,I.gG.leave hi r z y,I.wg,b,rfl⟩⟩
   rw[I.mu,Go.ConcN.phi_retag n _ h];exact Prod.Lex.right _ (Prod.Lex.left _ _ ⟨i,by omega,by rw[upd_same,F];exact Rk.Fo _ s,λk hk=>upd_ne K _ hk⟩)
def K7(C:n<2147483648)(y:∀g s,c g s->eE (Cx.lead P ty Y.Wg) (Es Y.Wg) (AtW1 P ty Y T c) g s){m:Machine}(h:Inv P ty Y N val n T c f m t):
  ∃b ops,stepT P m=(.next b,ops)/\((∃hm' Pl,Pf P Y N val n T hm' Pl b (t++ops))∨∃k,Hk (Y.base+n) k f/\Inv P ty Y N val n T c k b (t++ops)):=by
 obtain⟨gs,w,sl,l,p,j,D,A,K,O,tag,rk,a,s,st,u,rfl,I⟩:=h;obtain⟨i,g,G,o,v,e,q⟩:=crowd_pick (P:=P) (w:=w) (sl:=sl) (all_awake I) (someone_runs I);rw[q];have B:=I.at G;have F:j<=n:=by have:=I.cs.bound;omega
 rcases ny i with rfl|r
 .rw[I.a0]at v;cases v;exact K5 (sl:=o) B C y e
 .rcases cN i Y.base with z|H
  .obtain⟨b,ops,k,M,J,E⟩:=Fs (sl:=o) B r z v e;grind
  .obtain⟨x,rfl⟩:∃x,i=Y.base+x:=⟨i-Y.base,by omega⟩
   have L:x<j:=by have:=(iJ.1 v).1;rw[I.gG.size]at this;omega
   obtain⟨b,ops,k,M,J,E⟩:=stepWorker (sl:=o) B C F I.cs.bound L v e;grind
def IL(r:n<2147483648)(o:∀g s,c g s->eE (Cx.lead P ty Y.Wg) (Es Y.Wg) (AtW1 P ty Y T c) g s):∀(f:Mu)(m:Machine)(t:Trace),Inv P ty Y N val n T c f m t ->
  ∃M i j hm' Pl,runNT P M m t=(.next i,j)/\Pf P Y N val n T hm' Pl i j:=by
 intro f;induction(S7 (Y.base+n)).apply f with
 |intro f _ x =>
  intro m t h;obtain⟨b,ops,q,e⟩:=K7 r o h;rcases e with⟨hm',Pl,e⟩|⟨k,e,w⟩
  .exact⟨1,b,t++ops,hm',Pl,by simp[runNT,q],e⟩
  .obtain⟨M,i,j,hm',Pl,k1,v⟩:=x k e b (t++ops) w;exact⟨M+1,i,j,hm',Pl,by simp only[runNT,q];exact k1,v⟩
def Vr.fork{s0:St}{T':ar->St->Prop}(kc:Nat)(hkc:0<kc)(Wg C:Nat)(hn:n<2147483648)(CE:C≠Wg)(Z:eH s s0)(xn:g.status=.running)(hC:∃L∈s.β,C∈L.bs)(hW:∃L∈s.β,Wg∈L.bs)(B:∀b,(s.own b∨∃L∈s.β,b∈L.bs)->b<s.w.heap.size)(h0:∀b,(b=C∨b=Wg)->¬s0.own b/\(∀L∈s0.β,b∉L.bs)/\∀o,s0.M b o=ae)(U:WgAt ty Wg s.w 0 0)(K4:PayAt C N s.w)(h:∀Y:Lay,Y.Wg=Wg->Y.C=C->Y.kc=kc->∃T c,(∀g s,c g s->eE (Cx.lead P ty Y.Wg) (Es Y.Wg) (AtW1 P ty Y T c) g s)/\Spawns P ty Y N val n c n g s0 /\
   ∀g' s',T g' s'->hI s'->PayAt C N s'.w->(∀x,x<n->∀i,i<kc->s'.w.cell? ⟨C,kc*x+i,ae⟩=aa (val x i))->C<s'.w.heap.size->(∀b,(b=C∨b=Wg)->¬s'.own b/\(∀L∈s'.β,b∉L.bs)/\∀o,s'.M b o=ae) ->
    ∃s2,T' g' s2/\s2.w=s'.w/\hI s2/\∀Sh:Nat->Prop,Clear Sh s'->¬Sh C->Clear Sh s2):Vr P g s T':=by
 intro Sh gs sl t q l ha I hP hc Zd;have Zl:¬Sh C:=λhs=>let ⟨L,I,m⟩:=hC;hc.β C hs L I m
 have X:¬Sh Wg:=λhs=>let ⟨L,I,m⟩:=hW;hc.β Wg hs L I m
 have V3:=B C (.inr hC);have Zm:=B Wg (.inr hW);have K6:1<=gs.size:=(iJ.1 ha).1;let Y:Lay:={Sh:=Sh,T0:=t.size,Wg:=Wg,C:=C,base:=gs.size,kc:=kc}
 obtain⟨T,c,Ye,z,Zn⟩:=h Y rfl rfl rfl;have S:=hc.ghost Z;have V:hI s0:=.ghost Z;have G:kl Y (λ_=>0) (λ_ _ _=>ae) 0 s0:=by
  refine⟨λb m=>⟨rfl,λe=>?_,λe=>?_,λe=>?_,by rw[Z.w];exact B b (Z.blk b m)⟩,λb o v hv=>⟨rfl,λe=>?_,λe=>?_,λe=>?_,hI.lt V hv⟩,λx y=>absurd y (fy x)⟩
  .grind
  .grind
  .rcases m with m|⟨L,I,m⟩
   .exact S.own b e m
   .exact S.β b e L I m
  .grind
  .grind
  .rw[S.M b e o]at hv;cases hv
 have Q:Com P ty Y N val (λ_=>0) (λ_ _ _=>ae) 0 gs s.w t (λ_=>⟨0,0,0⟩) (λ_=>0) (λi=>Rk.nat (q i)) 0 :=
  ⟨rfl,λi g hi _ SE=>⟨q i,rfl,I.old i g hi SE⟩,I.above,λx y=>absurd y (fy x),TL.start hP rfl K6 CE X Zl,Zd,hP.hears,λx y=>absurd y (fy x),λx y=>absurd y (fy x),λx y=>absurd y (fy x),λx y=>absurd y (fy x),
   K4,⟨_,_,U⟩,Zm,V3,hc.lt,hkc,λx y=>absurd y (fy x)⟩
 have O:cw s0 {s0 with w:=s.w}:=by have:=cw.xB V;rw[<-Z.w];exact this
 have F:∃f,Inv P ty Y N val n T c f (crowd gs s.w sl) t:=by
  cases n with
  |zero =>
   obtain⟨r,z⟩:=z;exact⟨_,gs,s.w,sl,_,_,0,_,_,_,0,.kd,r,g,s0,_,_,rfl,⟨ha,.kd z,O,G,Q,U,by have:=Go.ConcN.Mode.opn (j:=0) (D:=λ_=>(⟨0,0,0⟩:WD)) (tag:=.kd) ak (λi hi=>absurd hi (fy i)) (by simp);simpa[Vc,sumTo,pend]using this,rfl⟩⟩
  |succ n =>
   obtain⟨r,z⟩:=z;have V4:CS P ty Y N val (n+1) T c (.sp n 5) (n+1-(n+1)) r 0 g s0:=.skd (Nat.lt_succ_self n) z;rw[Nat.sub_self]at V4;exact⟨_,gs,s.w,sl,_,_,0,_,_,_,0,.sp n 5,r,g,s0,_,_,rfl,⟨ha,V4,O,G,Q,U,by have:=Go.ConcN.Mode.opn (j:=0) (D:=λ_=>(⟨0,0,0⟩:WD)) (tag:=.sp n 5) ak (λi hi=>absurd hi (fy i)) (by simp);simpa[Vc,sumTo,pend]using this,rfl⟩⟩
 obtain⟨f,F⟩:=F;obtain⟨M,m',t',hm',Pl,abl,⟨gs',w',sl',a',H,q',rfl,Zf,_,hT,W,Zo,fC,hP',adJ,hp',J,hlC,hlW,hlS⟩⟩:=IL hn Ye f _ _ F;have R:kl Y hm' Pl n {H with w:=w'}:=Zo.rely W.size;have E:∀b,(b=C∨b=Wg∨Sh b)->¬H.own b/\(∀L∈H.β,b∉L.bs)/\∀o,H.M b o=ae:=by
  intro b m;have key:∀x,(hm' x=0/\x≠Y.C/\x≠Y.Wg/\¬Y.Sh x/\x<w'.heap.size)->x≠b:=by grind
  refine⟨λho=>key b (R.blk b (.inl ho)) rfl,λL I OE=>key b (R.blk b (.inr ⟨L,I,OE⟩)) rfl,λo=>?_⟩;cases hM:H.M b o with
  |none=>rfl
  |some v=>exact absurd rfl (key b (R.M b o v hM))
 obtain⟨s2,hT2,Zh,Zj,Vm⟩:=Zn a' {H with w:=w'} hT (λb o v hv=>W.mem b o v hv) hp' J hlC (λb m=>E b (m.elim .inl λe=>.inr (.inl e)));have JW:Clear (λb=>Sh b∨b=Wg) {H with w:=w'}:=by have k:∀b,(Sh b∨b=Wg)->¬H.own b/\(∀L∈H.β,b∉L.bs)/\∀o,H.M b o=ae:=λb m=>E b (m.elim (λe=>.inr (.inr e)) λe=>.inr (.inl e));exact⟨λb m=>(k b m).1,λb m=>(k b m).2.1,λb m=>(k b m).2.2,λb m=>m.elim (hlS b) λe=>by grind⟩
 grind
end
end
section
open Go.Conc Go.RowKit Go.Conc.Lib Go.ConcR.Gen
open Go.ConcN (WgLive)
open Go.ConcR (KK WgAt stA smA rd wr mk DC0)
variable {L:WgLink}
section
variable (P:aJ)(R:ay->ay->Prop)(L:WgLink)(Wg:Nat)(a:ar)
def ZN(g:ar)(_:ay):Prop:=g.status=.running/\∃g',(∀w,aG P ab g w=.go g' w #[mk .enable])/\∀w1,WgLive L.tWg Wg w1->∃m,Goes P ab R DC0 (λg _=>g=a) m g' w1
def GRd(g:ar)(_:ay):Prop:=g.status=.running/\∃g' ad,ad.block=Wg/\(∀w,aG P ab g w=.go g' w #[mk (.read ad)])/\∀w1,WgLive L.tWg Wg w1->∃m,Goes P ab R DC0 (ZN P R L Wg a) m g' w1
def GA1(g:ar)(w:ay):Prop:=g.status=.running/\∀v:Nat,v<2147483647->WgAt L.tWg Wg w (v*KK) 0 ->
 ∃g',aG P ab g w=.go g' (w.setCell (stA Wg) (.int .u64 ((v+1)*KK))) #[rd (stA Wg),wr (stA Wg)]/\∃m,Goes P ab R DC0 (λg w=>GRd P R L Wg a g w∨ZN P R L Wg a g w) m g' (w.setCell (stA Wg) (.int .u64 ((v+1)*KK)))
def GKd(g:ar)(_:ay):Prop:=g.status=.running/\∃g',(∀w,aG P ab g w=.go g' w #[mk .disable])/\∀w1,WgLive L.tWg Wg w1->∃m,Goes P ab R DC0 (GA1 P R L Wg a) m g' w1
end
set_option maxRecDepth 100000 in
def PF{P:aJ}(H:WgLib P L){R:ay->ay->Prop}{Wg:Nat}(c:∀{w w1},WgLive L.tWg Wg w->R w w1->WgLive L.tWg Wg w1){b₀:aX}{a₀:Act}{ops₀:Array aC}{i₀:Nat}{rest₀:List Nat}{k₀:List Item}(w:ay)(b:WgLive L.tWg Wg w):
  Goes P ab R DC0 (GKd P R L Wg (G (b₀.at (a₀.put ((ops₀[i₀]?).bind (·.dst)) (.tuple #[])) (.inRegion ops₀ rest₀::k₀)) cs)) 12
   (G ((base L.add).at ⟨#[.pointer (aa ⟨Wg,0,ae⟩),.int .i64 1,ah,ah,ah,ah,ah,ah,ah,ah,ah,ah,ah,ah,ah,ah,ah,ah,ah,ah,ah,ah,ah,ah,ah,ah,ah,ah,ah,ah,ah,ah,ah,ah,ah,ah,ah,ah,ah,ah,ah,ah,ah,ah,ah,ah,ah,ah,ah,ah,ah,ah,ah,ah,ah,ah,ah,ah,ah,ah,ah,ah,ah,ah,ah,ah,ah,ah,ah,ah,ah,ah,ah,ah,ah,ah,ah,ah,ah,ah,ah,ah,ah,ah,ah,ah,ah,ah,ah,ah,ah,ah,ah,ah,ah,ah,ah,ah,ah,ah,ah,ah,ah,ah,ah,ah,ah,ah,ah,ah,ah,ah,ah,ah,ah,ah,ah],[]⟩ [.code (body_add L)]) (b₀.at a₀ (.inRegion ops₀ (i₀::rest₀)::k₀)::cs)) w:=by
 lib_facts
 simp only[body_add,addFn,gv]
 repeat (u_c aA c b)
 u_cond ab c b
 repeat (u_c aA c b)
 u_reg c b
 u_op c b
 u_op c b
 u_c az c b
 repeat (u_c aA c b)
 u_cond af c b
 u_c stepG_skip c b
 repeat (u_c aA c b)
 u_reg c b
 refine Goes.stop (λm g=>?_);refine⟨rfl,_,λw=>stepG_mark0 .disable (by simp) rfl rfl (by k_ne) rfl H.f_disable (x_disable_n L) (x_disable_b L) (x_disable_x L) (x_disable_f L),λw b=>?_⟩;clear g;refine⟨40,?_⟩
 walk_nrm
 u_c az c b
 repeat (u_c aA c b)
 u_reg c b
 u_defer c b
 u_c az c b
 repeat (u_c aA c b)
 u_reg c b
 u_op c b
 u_c az c b
 repeat (u_c aA c b)
 u_reg c b
 u_bub c b
 u_c az c b
 repeat (u_c aA c b)
 u_cond af c b
 u_c stepG_skip c b
 repeat (u_c aA c b)
 u_reg c b
 u_op c b
 u_op c b
 u_op c b
 u_op c b
 u_op c b
 u_op c b
 u_call H.f_uAdd (nm_uAdd L) uAddFn c b
 repeat (u_c aA c b)
 u_reg c b
 u_op c b
 u_c az c b
 repeat (u_c aA c b)
 u_reg c b
 u_op c b
 u_op c b
 u_op c b
 u_op c b
 refine Goes.stop (λf e=>?_);replace b:=c b e;clear e;refine⟨rfl,λv x j=>?_⟩;have k:KK=4294967296:=rfl;have n:IntKind.u64.wrap ((v:Int)*KK+4294967296)=((v:Int)+1)*KK:=by rw[IntKind.wrap_u64];simp only[k];omega
 refine⟨_,(stepG_add_atomic rfl rfl (by k_ne) rfl H.f_addU64 (x_addU64_n L) (x_addU64_b L) (x_addU64_x L) .u64 (x_addU64_f L) rfl rfl j.cellSt (j.thaw 0)).trans (by rw[n];rfl),110,?_⟩;replace b:WgLive L.tWg Wg (f.setCell (stA Wg) (.int .u64 (((v:Int)+1)*KK))):=⟨_,_,j.setSt _⟩
 clear j
 walk_nrm
 u_op c b
 u_c az c b
 u_c stepG_ret' c b
 u_leave1 H.f_uAdd c b
 u_op c b
 u_c az c b
 have q:bits .and .u64 (((v:Int)+1)*4294967296) 2147483648=0:=by have:=Go.ConcN.st_flag (v+1) 0 (by omega) (by omega);grind
 have s:bits .and .u64 (((v:Int)+1)*4294967296) 2147483647=0:=by have:=Go.ConcN.st_waiters (v+1) 0 (by omega) (by omega);grind
 have t:((v:Int)+1+2147483648) % 4294967296-2147483648=(v:Int)+1:=by omega
 have u:¬((v:Int)+1<0):=by omega
 have r:(0:Int)<(v:Int)+1:=by omega
 repeat (u_c aA c b)
 u_reg c b
 u_op c b
 u_op c b
 u_op c b
 u_op c b
 u_skip c b
 u_skip c b
 u_op c b
 u_c az c b
 repeat (u_c aA c b)
 u_cond af c b
 u_c stepG_skip c b
 repeat (u_c aA c b)
 u_reg c b
 u_op c b
 u_op c b
 u_op c b
 u_op c b
 u_c az c b
 repeat (u_c aA c b)
 u_reg c b
 u_op c b
 u_op c b
 u_op c b
 u_op c b
 u_c az c b
 by_cases p:(v:Int)+1=1
 .repeat (u_c aA c b)
  u_reg c b
  u_op c b
  u_op c b
  u_op c b
  u_op c b
  u_op c b
  u_op c b
  u_op c b
  u_op c b
  u_op c b
  u_op c b
  u_c az c b
  repeat (u_c aA c b)
  u_cond ab c b
  repeat (u_c aA c b)
  u_reg c b
  u_op c b
  u_op c b
  u_op c b
  u_conv H.underlying_tPU32 H.room_tU32 (Go.ConcN.Gen.WgLive.cell1 b).choose_spec c b
  refine Goes.stop (λl h=>.inl ?_);clear h;refine⟨rfl,_,⟨Wg,1,ae⟩,rfl,λw=>stepG_markAt .read (by simp) rfl rfl (by k_ne) rfl H.f_raceRead (x_raceRead_n L) (x_raceRead_b L) (x_raceRead_x L) (x_raceRead_f L) (ad:=⟨Wg,1,ae⟩) (by simp[Act.eval]),λw b=>⟨50,?_⟩⟩
  walk_nrm
  u_c az c b
  repeat (u_c aA c b)
  u_reg c b
  u_op c b
  u_op c b
  u_c az c b
  repeat (u_c aA c b)
  u_cond af c b
  u_c stepG_skip c b
  repeat (u_c aA c b)
  u_reg c b
  u_op c b
  u_op c b
  u_op c b
  u_skip c b
  u_skip c b
  u_op c b
  u_op c b
  u_skip c b
  u_skip c b
  u_skip c b
  u_skip c b
  u_op c b
  u_c az c b
  repeat (u_c aA c b)
  u_cond af c b
  u_c stepG_skip c b
  repeat (u_c aA c b)
  u_reg c b
  u_op c b
  u_op c b
  u_op c b
  u_skip c b
  u_skip c b
  u_op c b
  u_c az c b
  repeat (u_c aA c b)
  u_cond ab c b
  u_c stepG_ret' c b
  refine Goes.stop (λi d=>?_);clear d;refine⟨rfl,_,λw=>stepG_unwind_entry (v:=.tuple #[]) (evs:=#[mk .enable]) rfl H.f_enable (x_enable_n L) (x_enable_b L) (x_enable_x L) (x_enable_f L) (by simp[Extern.Race.none_]) (by simp[mk]) (by simp[mk]),λw b=>⟨1,?_⟩⟩
  u_leave0 H.f_add c b
  grind[Goes.stop]
 .have o:((v:Int)+1==1)=af:=by grind
  repeat (u_c aA c b)
  u_reg c b
  u_op c b
  u_op c b
  u_op c b
  u_op c b
  u_op c b
  u_op c b
  u_op c b
  u_op c b
  u_op c b
  u_op c b
  u_c az c b
  repeat (u_c aA c b)
  u_cond af c b
  u_c stepG_skip c b
  repeat (u_c aA c b)
  u_reg c b
  u_op c b
  u_op c b
  u_c az c b
  repeat (u_c aA c b)
  u_cond af c b
  u_c stepG_skip c b
  repeat (u_c aA c b)
  u_reg c b
  u_op c b
  u_op c b
  u_op c b
  u_skip c b
  u_skip c b
  u_op c b
  u_op c b
  u_skip c b
  u_skip c b
  u_skip c b
  u_skip c b
  u_op c b
  u_c az c b
  repeat (u_c aA c b)
  u_cond af c b
  u_c stepG_skip c b
  repeat (u_c aA c b)
  u_reg c b
  u_op c b
  u_op c b
  u_op c b
  u_skip c b
  u_skip c b
  u_op c b
  u_c az c b
  repeat (u_c aA c b)
  u_cond ab c b
  u_c stepG_ret' c b
  refine Goes.stop (λi d=>.inr ?_);clear d;refine⟨rfl,_,λw=>stepG_unwind_entry (v:=.tuple #[]) (evs:=#[mk .enable]) rfl H.f_enable (x_enable_n L) (x_enable_b L) (x_enable_x L) (x_enable_f L) (by simp[Extern.Race.none_]) (by simp[mk]) (by simp[mk]),λw b=>⟨1,?_⟩⟩
  u_leave0 H.f_add c b
  grind[Goes.stop]
end
section
open Go.Conc Go.RowKit Go.Conc.Lib Go.ConcR.Gen
open Go.ConcN (WgLive)
open Go.ConcR (KK WgAt stA smA rd wr mk DC0)
section
variable (P:aJ)(R:ay->ay->Prop)(L:WgLink)(Wg:Nat)(a:ar)(b:ar->Prop)
def Wm(g:ar)(_:ay):Prop:=g.status=.running/\∃g',(∀w,aG P ab g w=.go g' w #[mk (.acquire (stA Wg))])/\∀w1,WgLive L.tWg Wg w1->∃m,Goes P ab R DC0 (λg _=>g=a) m g' w1
def ZO(g:ar)(_:ay):Prop:=g.status=.running/\∃g',(∀w,aG P ab g w=.go g' w #[mk .enable])/\∀w1,WgLive L.tWg Wg w1->∃m,Goes P ab R DC0 (Wm P R L Wg a) m g' w1
def HW4(g:ar)(w:ay):Prop:=g.status=.running/\(WgAt L.tWg Wg w 0 0->∃g',aG P ab g w=.go g' w #[rd (stA Wg)]/\∃m,Goes P ab R DC0 (ZO P R L Wg a) m g' w)
def HW3(g:ar)(w:ay):Prop:=g.status=.running/\g.offers=ae/\((∃st,WgAt L.tWg Wg w st 0)->aG P ab g w=.go {g with status:=.blocked} w #[]) /\
 (WgAt L.tWg Wg w 0 1->∃g',aG P ab g w=.go g' (w.setCell (smA Wg) (.int .u32 0)) (semEvents (smA Wg))/\∃m,Goes P ab R DC0 (HW4 P R L Wg a) m g' (w.setCell (smA Wg) (.int .u32 0)))
def HWr(g:ar)(_:ay):Prop:=g.status=.running/\∃g' ad,ad.block=Wg/\(∀w,aG P ab g w=.go g' w #[mk (.write ad)])/\∀w1,WgLive L.tWg Wg w1->∃m,Goes P ab R DC0 (HW3 P R L Wg a) m g' w1
def HW2(vs:Nat)(g:ar)(w:ay):Prop:=g.status=.running/\∀v:Nat,v<2147483648->WgAt L.tWg Wg w (v*KK) 0 ->
 (v=vs->∃g',aG P ab g w=.go g' (w.setCell (stA Wg) (.int .u64 (v*KK+1))) #[rd (stA Wg),wr (stA Wg)]/\∃m,Goes P ab R DC0 (HWr P R L Wg a) m g' (w.setCell (stA Wg) (.int .u64 (v*KK+1)))) /\
 (v≠vs->∃g',aG P ab g w=.go g' w #[rd (stA Wg)]/\∃m,Goes P ab R DC0 (λg _=>b g) m g' w)
def HW1(g:ar)(w:ay):Prop:=g.status=.running/\∀v:Nat,v<2147483648->WgAt L.tWg Wg w (v*KK) 0 ->
 ∃g',aG P ab g w=.go g' w #[rd (stA Wg)]/\(v=0->∃m,Goes P ab R DC0 (ZO P R L Wg a) m g' w)/\(v≠0->∃m,Goes P ab R DC0 (HW2 P R L Wg a b v) m g' w)
def HKd(g:ar)(_:ay):Prop:=g.status=.running/\∃g',(∀w,aG P ab g w=.go g' w #[mk .disable])/\∀w1,WgLive L.tWg Wg w1->∃m,Goes P ab R DC0 (λg _=>b g) m g' w1
end
def Tx(L:WgLink)(Wg:Nat)(c:aX)(cs:List aX)(g:ar):Prop :=
 ∃T:Array ai,g=G ((base L.wait).at ⟨T,[]⟩ [.code (L7 L),.inLoop (L7 L),.inBlock 0]) (c::cs)/\T.size=84/\T[0]?=aa (.pointer (aa ⟨Wg,0,ae⟩))
set_option maxRecDepth 100000 in
def FM{L:WgLink}(H:WgLib P L){R:ay->ay->Prop}{Wg:Nat}(b:∀{w w1},WgLive L.tWg Wg w->R w w1->WgLive L.tWg Wg w1){c:aX}(w:ay)(a:WgLive L.tWg Wg w):
  Goes P ab R DC0 (HKd P R L Wg (Tx L Wg c cs)) 6 (G ((base L.wait).at ⟨#[.pointer (aa ⟨Wg,0,ae⟩),ah,ah,ah,ah,ah,ah,ah,ah,ah,ah,ah,ah,ah,ah,ah,ah,ah,ah,ah,ah,ah,ah,ah,ah,ah,ah,ah,ah,ah,ah,ah,ah,ah,ah,ah,ah,ah,ah,ah,ah,ah,ah,ah,ah,ah,ah,ah,ah,ah,ah,ah,ah,ah,ah,ah,ah,ah,ah,ah,ah,ah,ah,ah,ah,ah,ah,ah,ah,ah,ah,ah,ah,ah,ah,ah,ah,ah,ah,ah,ah,ah,ah,ah],[]⟩ [.code (body_wait L)]) (c::cs)) w:=by
 lib_facts
 unfold Tx;simp only[L7,body_wait,waitFn,gv]
 repeat (u_c aA b a)
 u_cond ab b a
 repeat (u_c aA b a)
 u_reg b a
 refine Goes.stop (λe d=>?_);clear d;refine⟨rfl,_,λw=>stepG_mark0 .disable (by simp) rfl rfl (by k_ne) rfl H.f_disable (x_disable_n L) (x_disable_b L) (x_disable_x L) (x_disable_f L),λw a=>⟨6,?_⟩⟩
 walk_nrm
 u_c az b a
 repeat (u_c aA b a)
 u_c stepG_block b a
 u_c stepG_loop b a
 exact Goes.stop λ_ _=>⟨_,rfl,rfl,rfl⟩
end
end Go.AM
