/- Part 3. No condition. -/
import Derived.Test.YtacjdcdlmahinaaGreatDoorA2
import Derived.Maps.RangeRun
import Derived.Laws.Externs
import Derived.Conc.Beside
import Derived.Conc.CrowdRun
import Derived.Conc.WgGenN2
import Derived.Conc.WgGenN3
set_option linter.all false
set_option maxHeartbeats 8000000
open Go.Conc (G)
open List renaming length → V, getD_eq_getElem?_getD → aj, range → bl
open Go renaming Value → ah, TypeId → av, Frame → bd, FuncId → aO, execOp → ar, Event → bg, undef → ai, Operand → aG, World → aB, Program → aR, Oper → aJ, Goroutine → au, stepG → aU
open Option renaming some → O, none → af
open Bool renaming true → W, false → ae
open Go.Region renaming wanted → bn
open Go.World renaming cell? → a9
open Go.Sem renaming events_bind → aM, events_pure → bG
open Go.Result renaming evThen_ok → aP
open Go.Instr renaming sliceBounds → bk
open Go.MemAct renaming ofEvent → aV
open Nat renaming beq → aC, ble → bP
open Go.Conc renaming stepG_seq → aF, stepG_region_end → aD
namespace Go.AM
variable {n:Nat}{k:Int}{l b i j:Nat}{E:av}{L:Array Bool}{M:Mem}{N:Nat}{P:aR}{S:au->St->Prop}{c:Code}{g:au}{o:aJ}{s:St}{t:av}{v:ah}{w:aB}{x y:aG}{α:Type}{η:aG->D}{ι:Type}{U:List bq}{J:Fr}{all:List aJ}{lh:Array av}{cap:List C}{cR:List D}{cs:List bd}{ds:List (Nat×Bool)}{es:Nat->List C}{fo:aG}{gs:Array au}{ks:List Nat}{obs:List Prop}{off:Nat}{op:BinOp}{ops:Array aJ}{ps:List Prop}{rest:List aJ}{s':St}{tx:Bool}{ty:av}{val:Nat->Nat->ah}{vs:List ah}{w':aB}{xs:Array aG}{U' Us:List bq}{res:ι->D}{σ1:ι->List bq}
variable {CT:List (Nat×eP)}{K:List It}{Qf:Post}{T:List (Nat×TI)}{ie:TI}
section
variable {X:Cx P}
theorem oz.nB{x:ι->D}{U':ι->List bq}(n:o.guard=af)(h:∀s e,aH U s->(∀y,ey U s (e y) (ck J y))->∃(j:ι)(s':St)(v:ah),(ar e o).run P s.w=.ok (.value v) s'.w/\ey (U' j) s' v (x j)/\aH (U' j) s'/\eO U s (U' j) s'/\gA s ((ar e o).events P s.w #[])):oz X N all o J U x U':=by intro s a f hh b k cs S i rest hb hi hK;refine vH hb hi (eE n) λp c=>?_;have d:=hh.rely c;obtain⟨j,s',v,h1,h2,g,l,m⟩:=h p a.eval d (dz (f.rely c hh));exact⟨_,s',v,h1,.inl Z,⟨⟨U,U' j,d,g,l⟩,m⟩,hK j v s' h2 g (c.db.trans (l.pC d))⟩
def oz.FU{x:D}(h:OA X N all o J U x U'):oz X N all o J U (λ_:Unit=>x) (λ_=>U') :=
 λs a f hh b k cs S i rest hb hi hK=>h s a f hh b k cs S i rest hb hi λv s'=>hK () v s'
def OA.gH{x:D}(h:bU P o (ck J) U x U')(a:o.guard=af):OA X N all o J U x U':=.nB (λ_ _ _ _=>eE a) h
def OA.eval{x:D}(hT:dA P T)(hC:b5 X CT)(h:A5 T CT ds all J U o=O (x,af,obs))(ho:aA obs):OA X N all o J U x U:=gK hT hC h ho
def OA.fU{x:D}(hT:dA P T)(hC:b5 X CT)(h:A5 T CT [] all J U o=O (x,af,[])):OA X N all o J U x U:=gK hT hC h an
def ye(X:Cx P)(N:Nat)(all:List aJ)(J:Fr)(U:List bq)(x:Nat->D)(pre:Nat->Bool):List aJ->Nat->Prop
 |[],_=>True
 |o::r,i=>(match pre i with|true=>OA X N all o (od all J x i) U (x i) U|false=>True)/\ye X N all J U x pre r (i+1)
def yf(X:Cx P)(N:Nat)(all:List aJ)(J:Fr)(U:List bq)(x:Nat->D)(m:Nat):List aJ->Nat->Prop
 |[],_=>True
 |o::r,i=>(match aC i m with|true=>True|false=>OA X N all o (od all J x i) U (x i) U)/\yf X N all J U x m r (i+1)
theorem ye.get{x:Nat->D}{pre:Nat->Bool}:∀{l:List aJ}{k:Nat},ye X N all J U x pre l k->∀(i:Nat)(o:aJ),l[i]?=O o->pre (k+i)=W->OA X N all o (od all J x (k+i)) U (x (k+i)) U
 |[],_,_,i,o,h=>by grind
 |p::r,k,h,0,o,hi=>λa=>by simp at hi;subst hi;have h1:=h.1;grind
 |p::r,k,h,i+1,o,hi=>λa=>by have:=ye.get h.2 i o az az;grind
theorem yf.get{x:Nat->D}{m:Nat}:∀{l:List aJ}{k:Nat},yf X N all J U x m l k->∀(i:Nat)(o:aJ),l[i]?=O o->k+i≠m->OA X N all o (od all J x (k+i)) U (x (k+i)) U
 |[],_,_,i,o,h=>by grind
 |p::r,k,h,0,o,hi=>λa=>by simp at hi;subst hi;have h1:=h.1;simp only[iN]at a;grind[Nat.eq_of_beq_eq_true]
 |p::r,k,h,i+1,o,hi=>λa=>by have:=yf.get h.2 i o az aq;grind
def K5(pre:Nat->Bool)(x:Nat->D)(y:ι->Nat->D)(j:ι)(i:Nat):D:=match pre i with|true=>x i|false=>y j i
def No{m c:Nat}{pre:Nat->Bool}{x:Nat->D}{a:ι->Nat->D}{U':ι->List bq}{S:ι->(Nat->Bool)->List bq}(r:pre m=ae)(t:F0 pre m all 0=W)(same:∀j i,pre i=W->a j i=x i)(bX:∀i o,all[i]?=O o->pre i=W->OA X N all o (od all J x i) U (x i) U)(RY:∀j (D:Nat->Bool) i o,all[i]?=O o->i≠m->i<c->D i=ae->(∀k f,all[k]?=O f->D k=W->∀e∈cG f.after.toList,D e=W)->OA X N all o (od all J (a j) i) (S j D) (a j i) (S j (fz i D)))(Wi:∀o,all[m]?=O o->oz X N all o (od all J x m) U (λj=>a j m) U')(s:∀j (D:Nat->Bool),(∀i,D i=W->pre i=W)->U' j=S j (fz m D)):
  ∀(b:Option ι) (D:Nat->Bool) i o,(b.isSome=D m/\(b=af->∀i,D i=W->pre i=W))->all[i]?=O o->i<c->D i=ae->(∀e∈cG o.after.toList,D e=W)->(∀j f,all[j]?=O f->D j=W->∀e∈cG f.after.toList,D e=W) ->
   oz X N all o (od all J (b.elim x a) i) (b.elim U λj=>S j D) (λq:{d:Option ι // (∀j,D j=W->d.elim x a j=b.elim x a j)/\(d.isSome=fz i D m/\(d=af->∀k,fz i D k=W->pre k=W))}=>q.1.elim x a i) (λq=>q.1.elim U λj=>S j (fz i D)):=by
 intro b D i o n ho hic hDi WL aiX;have u:∀{k},fz i D k=W->k=i∨D k=W:=λ{k} hk=>by unfold fz at hk;grind[Nat.eq_of_beq_eq_true]
 have p:∀{k},k≠i->fz i D k=D k:=λ{k} hk=>by unfold fz;grind[Nat.eq_of_beq_eq_true]
 by_cases g:i=m
 .subst g;cases b with
  |some j=>grind
  |none =>
   refine(Wi o ho).to λj=>⟨⟨O j,λk hk=>same j k (n.2 Z k hk),?_,λh=>by cases h⟩,Z,s j D (n.2 Z)⟩
   unfold fz;grind[Nat.beq_refl]
 cases b with
 |none =>
  have l:pre i=W:=by grind[Nn]
  exact(bX i o ho l).uW ⟨af,λ_ _=>rfl,by grind,λ_ k hk=>by grind⟩ Z Z
 |some j=>exact(RY j D i o ho g hic hDi aiX).uW ⟨O j,λ_ _=>rfl,by grind,λh=>by cases h⟩ rfl rfl
def Bt{m c:Nat}{pre:Nat->Bool}{a:Option ι}{D:Nat->Bool}(e:a.isSome=D m/\(a=af->∀i,D i=W->pre i=W))(b:m<c)(d:∀i,i<c->D i=W):∃j,a=O j:=by
 cases a with
 |some j=>grind
 |none=>grind
def I.Wi(n:P.follows Departure.mixedOrders=W)(m:Nat)(pre:Nat->Bool)(x:Nat->D)(y:ι->Nat->D)(U':ι->List bq){id:Nat}(b:pV ops.toList=W)(c:wU ops.toList 0=W)(d:rW N ops.toList=W)(hm:Nat.blt m (V ops.toList)=W)(e:pre m=ae)(f:F0 pre m ops.toList 0=W)(bX:ye X N ops.toList J U x pre ops.toList 0)(RY:∀j,yf X N ops.toList J (U' j) (K5 pre x y j) m ops.toList 0)(Wi:oz X N ops.toList (ops.toList.getD m lV) (od ops.toList J x m) U (λj=>K5 pre x y j m) U')(k:∀j,I X N Qf K .normal (Wc ops.toList J (K5 pre x y j)) (U' j)):I X N Qf (.code (.region id ops W)::K) .normal J U:=by
 have hm:=fY hm;have:=AW.reg (X:=X) (N:=N) (J:=J) (U:=U) n (all:=ops.toList) (V ops.toList) (λa:Option ι=>a.elim x (K5 pre x y)) (λa _=>a.elim U U') (λa D=>a.isSome=D m/\(a=af->∀i,D i=W->pre i=W)) af ⟨rfl,λ_ _ h=>by cases h⟩ Z b c d (bm _)
  (λi h1 h2=>absurd h2 (pR.2 h1)) (λa D _ _ i h1 h2=>absurd h2 (pR.2 h1))
  (No (S:=λj _=>U' j) e f (λj i g=>by simp only[K5,g]) (λi o hi g=>by have:=bX.get i o hi az;grind) (λj D i o hi Hg _ _ _=>by have:=(RY j).get i o hi az;grind)
   (λo ho=>by grind) (λ_ _ _=>rfl))
  (Q:=I X N Qf K) (λa D p l=>by obtain⟨j,rfl⟩:=Bt p hm l;rw[wF];exact .nil (k j)) id
 rw[te]at this;exact this
end
def vK{B:bq}{r:List bq}(h:B≠.vr)(k:oe r=W):oe (B::r)=W:=by cases B<;>first|exact k|grind
section
variable {X:Cx P}
def I.kV{Q a:Post}(h:∀e J U,Q e J U->a e J U):∀{K:List It}{e:Exit}{J:Fr}{U:List bq},I X N Q K e J U->I X N a K e J U
 |[],e,J,U,q=>h e J U q
 |.code c::K,.normal,J,U,q=>AW.mono q λ_ _ _ q=>I.kV h q
 |.code c::K,.exit _,J,U,q=>I.kV (K:=K) h q
 |.code c::K,.ret,J,U,q=>I.kV (K:=K) h q
 |.code c::K,.panic _,J,U,q=>I.kV (K:=K) h q
 |.code c::K,.goto _,J,U,q=>I.kV (K:=K) h q
 |.code c::K,.outgrown,J,U,q=>I.kV (K:=K) h q
 |.blk id::K,.exit QB,J,U,q=>by
  simp only[I]at q⊢;split
  .rename_i e;rw[bh e]at q;exact I.kV (K:=K) h q
  rename_i e;rw[bc e]at q;exact I.kV (K:=K) h q
 |.blk id::K,.normal,J,U,q=>I.kV (K:=K) h q
 |.blk id::K,.ret,J,U,q=>I.kV (K:=K) h q
 |.blk id::K,.panic _,J,U,q=>I.kV (K:=K) h q
 |.blk id::K,.goto _,J,U,q=>I.kV (K:=K) h q
 |.blk id::K,.outgrown,J,U,q=>I.kV (K:=K) h q
 |.ops all rest::K,.normal,J,U,q=>kA.mono q λ_ _ q=>I.kV h q
 |.ops all rest::K,.exit _,J,U,q=>I.kV (K:=K) h q
 |.ops all rest::K,.ret,J,U,q=>I.kV (K:=K) h q
 |.ops all rest::K,.panic _,J,U,q=>I.kV (K:=K) h q
 |.ops all rest::K,.goto _,J,U,q=>I.kV (K:=K) h q
 |.ops all rest::K,.outgrown,J,U,q=>I.kV (K:=K) h q
def I.SR{id:Nat}{A:Fr->List bq->Prop}{c a b:List It}(h1:me id c=af)(h2:me id a=O b)(k:I X N Qf b .normal J U):
  I X N (HY A (I X N Qf a)) (.code (.exit id)::c) .normal J U :=
 I.kV (λe J' U' q=>by cases e<;>exact q) (I.gE (X:=X) (N:=N) (Qr:=Qf) (A:=A) (J:=J) (U:=U) h1 h2 k)
end
section
variable {X:Cx P}
def I.nJ{fn:Func}{h:Nat}{U':ι->List bq}(i:ι)(ks:List Nat){cs:List A}{t:Tmp}{b:TI}(p:fn.results.toList=[.cell t ty])(hi:bY T ty=O b)(o:b.agg=W)(k:look J t=cE l 0)(hl:eH l U=O (.cells E cs))(a:aC (V cs) b.size=W)(c:kz l ks=ae)(d:J8 (.e (.agg cs)) (ky ks (res i))=O ps)(m:aA ps)(g:C7 (V ks) (res i)=W)(n:l6 ks U=O (U' i))(f:mI (U' i)=W)(q:fa ks=W)(hk:∀j,j<h->ks[j]?=O j):
  I X N (λe J σ1=>∃j,Ta T fn h (res j) (U' j) e J σ1) (.code .ret::K) .normal J U :=
 I.ret ⟨i,.inl Z,ks,l,E,cs,t,ty,b,ps,af,nofun,p,hi,o,dH a,k,cD hl,Ic c,d,m,g,n,f,q,hk⟩
def I.lz{fn:Func}{k:Nat}{U':ι->List bq}(i:ι)(ks:List Nat){cs:List A}{t u:Tmp}{b:TI}{x:E1}(r:fn.results.toList=[.cell t ty,.tmp u])(hi:bY T ty=O b)(q:b.agg=W)(n:look J t=cE l 0)(m:look J u=.e x)(hl:eH l U=O (.cells E cs))(a:aC (V cs) b.size=W)(c:kz l ks=ae)(d:J8 (.gI [.agg cs,x]) (ky ks (res i))=O ps)(o:aA ps)(g:C7 (V ks) (res i)=W)(p:l6 ks U=O (U' i))(f:mI (U' i)=W)(s:fa ks=W)(hk:∀j,j<k->ks[j]?=O j):
  I X N (λe J σ1=>∃j,Ta T fn k (res j) (U' j) e J σ1) (.code .ret::K) .normal J U :=
 I.ret ⟨i,.inl Z,ks,l,E,cs,t,ty,b,ps,O (u,x),λ_ h=>by cases h;exact m,r,hi,q,dH a,n,cD hl,Ic c,d,o,g,p,f,s,hk⟩
def Ev.lA(hT:dA P T){f:aO}{fn:Func}{args:List D}{res:D}(d:P.funcs[f]?=O fn)(b:(fn.name== "runtime.NumGoroutine")=ae)(hb:fn.body=O c)(a:bP args.length fn.ntmps=W)(h:vA args U->I X fn.ntmps (λe J σ1=>∃_:Unit,Ta T fn U.length res U' e J σ1) [.code c] .normal (lu 0 args) U):Ev X f args U res U' :=
 (e9.tu (ι:=Unit) (U':=λ_=>U') (res:=λ_=>res) hT d b hb a h).KA
end
section
variable {X:Cx P}
def I.ae2{x:ι->D}{U':ι->List bq}(h:oz X N all o J U x U')(d:g7 N o.dst=W)(k:∀i,I X N Qf (.ops all rest::K) .normal (lU o.dst (x i) J) (U' i)):I X N Qf (.ops all (o::rest)::K) .normal J U:=by
  intro s a f hh b kk cs S idx hb jb hQ;cases idx with
  | nil=>exact jb.elim
  | cons j idx =>
  refine h s a f hh b kk cs S j idx hb jb.1 λi v s' h1 h2 h3=>?_;refine k i s' _ ?_ h2 b kk cs S idx hb jb.2 λc σ2 s2 a2 q e l st=>hQ c σ2 s2 a2 q e l (h3.trans st);cases g:o.dst with
  | none=>exact f.mono h3 hh.len
  | some t=>exact(f.mono h3 hh.len).put (iB d t g) h1
def oz.ri[X.ln]{f:aO}(hev:e9 X f cR [] res σ1){MU:List D}(hgd:u7 all J o=W)(ho:o.op=.call {callee:=.value fo,args:=xs,argTypes:=lh})(hf:fV (ck J fo)=O (f,cap))(hl:lD U (xs.toList.map (ck J)++iq cap) MU)(Q:zv MU (iJ [] cR)=O ps)(hps:aA ps)(hin:nV 0 cR=W)(ak:∀j,WB (res j)=W)(k6:∀j,Hy (σ1 j)=W):oz X N all o J U res (λj=>U++σ1 j):=by
  intro s a ab hh b kx cs S i idx hb hi hQ;have hfo:=dz ab fo;unfold fV at hf;split at hf
  case h_2=>cases hf
  case h_1 f' RB he =>
    cases hf;rw[he]at hfo;have E:=gG hfo;generalize z:a.eval fo=fv at E;cases E with
    | fn fs pE hlf aiP f1 f2 h1 h2 r1 r2 =>
      have hfs:fs=[]:=kB hlf;subst hfs;have T:cU U s pE (iq cap):=oS (λj c hj=>⟨f2 j,h2 j az,r2 j c hj⟩) aiP;have F:cU U s (xs.toList.map a.eval++pE) (xs.toList.map (ck J)++iq cap):=(mU (dz ab) xs.toList).append T;generalize hvs:xs.toList.map a.eval++pE=vs at F;obtain⟨⟨fn,Xj,aiR,Z⟩,AK⟩:=hev;have A9:∀w,(ar a.eval o).run P w=.ok (.enter f vs.toArray) w:=λw=>by grind[j7]
      have aiS:∀w,(ar a.eval o).events P w #[]=#[]:=λw=>(j7 ho Xj aiR Z z w).2;refine .next aK λg Z3=>?_;have hr:=X.kq Z3;have e:=hh.rely hr;have f1':=ab.rely hr hh;have R:cU U g vs (xs.toList.map (ck J)++iq cap):=F.mono hr.db.ext hh.len;obtain⟨B,M',hBL,m1,m2,m3,m4,m5⟩:=hl g vs e R;let sc:St:={g with β:=[],M:=M',own:=λb=>g.own b∨∃L∈g.β,b∈L.bs}
      have hhc:aH [] sc:=by
        refine⟨m3,aK,by simp,by grind,by grind,λb hb=>⟨?_,by grind⟩⟩;rcases hb with hb|⟨L',p,hb⟩
        · exact(e.own b hb).1
        · exact e.lt L' p b hb
      have hg1:gn g sc:=by refine⟨rfl,m1,λb hb o=>m2 b (λhB=>by grind) o,m3,λb hb=>?_⟩;grind
      have y:cU [] sc vs cR:=by have a3:=wL Q hps m5;exact(cU.sub (ks:=[]) (U:=U) (U':=[]) (s:={g with M:=M'}) (β':=[]) rfl rfl a3 hin).mono (U:=[]) (s:={g with β:=[],M:=M'}) (U':=[]) (s':=sc) ⟨λ_ _ _ h=>h,λl B L hB hL=>by grind⟩ rfl
      refine⟨_,g,_,qK hi (iC hgd _ _ _ f1') hb (A9 g.w),⟨⟨U,U,e,e,.refl _ _⟩,gA.seen (by rw[aiS];exact .nil)⟩,.c8 hg1 (AK sc vs y hhc S _ λj fr v s2 Om nj J7 pA=>?_)⟩;refine qL (cs:=cs) (c:=b.aT a (.inRegion all.toArray (i::idx)::kx)) J7 Om λt K=>?_;have q:=J7.rely K;have n:=pA.trans K.db;have ae3:=nj.mono K.db.ext J7.len
      classical
      let G:Mem:=λb o=>if B b then g.M b o else t.M b o;have r:∀b,(g.own b∨∃L∈g.β,b∈L.bs)->t.own b:=λb hb=>by rw[n.own];exact hb
      have hFg:qu t {t with M:=G}:=by
        refine⟨aK,aK,aK,λb o v z=>?_,λb o v z=>?_⟩
        · grind
        grind
      refine .jz Cx.ln.ok hFg ?_;have hM5:∀b o v,G b o=O v->t.M b o=O v:=hFg.RG;let s5:St:={t with M:=G,β:=g.β++t.β,own:=g.own}
      have hMm:∀b o v,g.M b o=O v->G b o=O v:=λb o v z=>by
        by_cases d:B b
        · grind
        · simp only[G,d,cC];exact n.mem b o v (m1 b o v z)
      have hMk:∀b,b<g.w.heap.size->∀o,G b o=g.M b o:=λb hb o=>by
        by_cases d:B b
        · grind
        · simp only[G,d,cC]
          rw[n.lJ b hb az o];grind
      have Y:V t.β=V (σ1 j):=q.len;have ex:sM U g (U++σ1 j) s5:=by
        refine⟨hMm,λl B L hB hL=>⟨B,L,?_,?_,.refl _ _⟩⟩
        · grind
        grind
      have aa:g.w.heap.size<=t.w.heap.size:=n.size;have u:∀(l:Nat) (L':Loc),(g.β++t.β)[l]?=O L'->(l<V g.β/\g.β[l]?=O L')∨(V g.β<=l/\t.β[l-V g.β]?=O L'):=λl L' h=>by grind
      have hh5:aH (U++σ1 j) s5:=by
        refine⟨λb o v z=>q.mem b o v (hM5 b o v z),by simp[s5,e.len,Y],?_,?_,?_,?_⟩
        · intro l B L' hB p
          rcases u l L' p with⟨xZ,h1⟩|⟨hge,h1⟩
          · rw[j8 (by rw[<-e.len];exact xZ)]at hB
            exact(e.box l B L' hB h1).nk ex e.len λm d=>⟨n.keep m (.inr ⟨L',b9 h1,d⟩),hMk m (e.lt L' (b9 h1) m d)⟩
          · rw[iy (by rw[<-e.len];exact hge),<-e.len]at hB
            have hbx:=q.box _ B L' hB h1;rcases Hz (k6 j) B (b9 hB)with⟨H,rfl⟩|rfl
            · obtain⟨ch,c1,c2,c3,c4⟩:=hbx
              refine⟨ch,c1,c2,c3,λm d o=>?_⟩;grind
            · trivial
        · intro l l' L1 L2 hL1 hL2 m C A
          rcases u l L1 hL1 with⟨xZ,h1⟩|⟨hge,h1⟩<;>rcases u l' L2 hL2 with⟨aou,h2⟩|⟨aov,h2⟩
          · exact e.gY l l' L1 L2 h1 h2 m C A
          · exact absurd A ((q.own m (r m (.inr ⟨L1,b9 h1,C⟩))).2 L2 (b9 h2))
          · exact absurd C ((q.own m (r m (.inr ⟨L2,b9 h2,A⟩))).2 L1 (b9 h1))
          · have:=q.gY _ _ L1 L2 h1 h2 m C A;omega
        · intro L' p m d
          rcases eZ.1 p with h|h
          · exact eb (e.lt L' h m d) aa
          · exact q.lt L' h m d
        · intro m d
          refine⟨eb (e.own m d).1 aa,λL' p=>?_⟩;rcases eZ.1 p with h|h
          · exact(e.own m d).2 L' h
          · exact(q.own m (r m (.inl d))).2 L' h
      have hg5:gn {t with M:=G} s5:=by refine⟨rfl,λ_ _ _ h=>h,λ_ _ _=>rfl,λb o v z=>q.mem b o v (hM5 b o v z),λm d=>?_⟩;grind
      have st5:dE U g (U++σ1 j) s5:=by
        refine⟨aa,λm d=>n.keep m (.inl d),hMm,λm d _ o=>hMk m d o,λL' p m d=>?_,ex.box,n.os,n.tape,n.output,aK⟩;rcases eZ.1 p with h|h
        · grind
        · rcases n.Ab L' h m d with h1|⟨L0,h1,_⟩
          · grind
          grind
      refine .c8 hg5 ?_;have x:=kN (b:=b) (a:=a) (k:=kx) all.toArray i idx v;rw[hi]at x;simp only[oP]at x;rw[x];exact hQ j v s5 (WC (ak j) ae3) hh5 (hr.db.trans st5)
def I.ri[X.ln]{ι:Type}{fo:aG}{xs:Array aG}{lh:Array av}{f:aO}{cap:List C}{cR:List D}{res:ι->D}{σ1:ι->List bq}(d:e9 X f cR [] res σ1){c:List D}(g:u7 all J o=W)(ho:o.op=.call {callee:=.value fo,args:=xs,argTypes:=lh})(l:fV (ck J fo)=O (f,cap))(hl:lD U (xs.toList.map (ck J)++iq cap) c){ps:List Prop}(b:zv c (iJ [] cR)=O ps)(h:aA ps)(i:nV 0 cR=W)(a:∀j,WB (res j)=W)(e:∀j,Hy (σ1 j)=W)(k:g7 N o.dst=W)(kk:∀j,I X N Qf (.ops all rest::K) .normal (lU o.dst (res j) J) (U++σ1 j)):I X N Qf (.ops all (o::rest)::K) .normal J U:=.ae2 (oz.ri d g ho l hl b h i a e) k kk
def I.SP[X.ln]{f:aO}(d:e9 X f cR [] res σ1)(m p:Nat){u:ah}{k:Nat}(h:u7 all J o=W)(ho:o.op=.call {callee:=.value fo,args:=xs,argTypes:=lh})(r:fV (ck J fo)=O (f,cap))(s:(xs.toList.map (ck J)++iq cap)[p]?=O (jA u))(hl:ln U m u k n es)(b:zv ((xs.toList.map (ck J)++iq cap).set p (b7 (.sl ae k n es))) (iJ [] cR)=O ps)(i:aA ps)(l:nV 0 cR=W)(a:∀j,WB (res j)=W)(g:∀j,Hy (σ1 j)=W)(q:g7 N o.dst=W)(kk:∀j,I X N Qf (.ops all rest::K) .normal (lU o.dst (res j) J) (U++σ1 j)):I X N Qf (.ops all (o::rest)::K) .normal J U :=
  I.ri d h ho r ((lD.refl _ _).step p m s hl) b i l a g q kk
end
def Hk(p:Bs):ah:=.string ⟨p.toArray⟩
def ac5{a:ByteArray}{p:Bs}(h:a.data.toList=p):Value.string a=Hk p:=by subst h;simp[Hk]
theorem GO{p:Bs}(h:Rd M v (.du p)):v=Hk p/\dK v=W:=by
 cases h with
 |du e _=>exact⟨ac5 e,rfl⟩
section
variable {X:Cx P}{x:Nat->D}{S:(Nat->Bool)->List bq}
def tE:List aJ->List (List Bool)->List (List Bool)
 |[],a=>a
 |o::r,a=>uB (Ox a (cG o.after.toList)) λc=>tE r (a++[c])
 where uB:List Bool->(List Bool->List (List Bool))->List (List Bool)
 |[],q=>q []
 |true::r,q=>uB r λr=>q (W::r)
 |false::r,q=>uB r λr=>q (ae::r)
theorem r5:∀(l:List Bool)(q:List Bool->List (List Bool)),tE.uB l q=q l
 |[],q=>rfl
 |true::r,q=>by simp only[tE.uB];rw[r5 r]
 |false::r,q=>by simp only[tE.uB];rw[r5 r]
def HQ{all:List aJ}{D:Nat->Bool}(b:∀(j:Nat)(o:aJ),all[j]?=O o->D j=W->∀e∈cG o.after.toList,D e=W):
  ∀(r:List aJ) (a:List (List Bool)),(∀k,r[k]?=all[V a+k]?)->(∀(j:Nat) (c:List Bool),a[j]?=O c->∀o,all[j]?=O o->(∀e∈cG o.after.toList,D e=W)->∀q,xQ c q=W->D q=W) ->
   ∀(j:Nat) (c:List Bool),(tE r a)[j]?=O c->∀o,all[j]?=O o->(∀e∈cG o.after.toList,D e=W)->∀q,xQ c q=W->D q=W
 |[],a,_,h=>h
 |o::r,a,d,h=>by
  simp only[tE];rw[r5];refine HQ b r _ (λk=>?_) ?_
  .have:=d (k+1);grind
  intro j c f;have i:=d 0;simp only[lH,iN]at i;rcases Nat.lt_trichotomy j (V a) with g|rfl|l
  .grind
  .rw[iy (bm _)]at f;grind[FC]
  grind
def k7(all:List aJ)(i j:Nat):Bool:=match(tE all [])[i]? with|some c=>xQ c j|none=>ae
def Bh{D:Nat->Bool}(a:∀(j:Nat)(o:aJ),all[j]?=O o->D j=W->∀e∈cG o.after.toList,D e=W):∀(i:Nat) o,all[i]?=O o->(∀e∈cG o.after.toList,D e=W)->∀j,k7 all i j=W->D j=W:=by
 intro i o ho hp j b;unfold k7 at b;split at b
 .rename_i c d;exact HQ a all [] ay ay i c d o ho hp j b
 grind
def Na{D:Nat->Bool}(c:∀(j:Nat)(o:aJ),all[j]?=O o->D j=W->∀e∈cG o.after.toList,D e=W)(h:D i=ae):∀j,(j=i∨k7 all j i=W)->D j=ae:=by
 intro j f;rcases f with rfl|f
 .exact h
 cases g:D j with
 |false=>rfl
 |true =>
  have a:∃d,all[j]?=O d:=by
   cases a:all[j]? with
   |some d=>grind
   |none =>
    exfalso;have k:V (tE all [])=V all:=by
     have:∀(r:List aJ) (b:List (List Bool)),V (tE r b)=V b+V r:=by
      intro r;induction r with
      |nil=>intro b;simp[tE]
      |cons o r l=>intro b;simp only[tE];grind[r5]
     grind
    unfold k7 at f;grind
  obtain⟨d,a⟩:=a;have:=Bh c j d a (c j d a g) i f;grind
def fE(X:Cx P)(N:Nat)(all:List aJ)(J:Fr)(x:Nat->D)(S:(Nat->Bool)->List bq)(i:Nat)(o:aJ):Prop :=
 ∀D:Nat->Bool,(∀j,k7 all i j=W->D j=W)->(∀j,(j=i∨k7 all j i=W)->D j=ae)->OA X N all o (od all J x i) (S D) (x i) (S (fz i D))
def Sr{P:aR}(X:Cx P)(N:Nat)(all:List aJ)(J:Fr)(x:Nat->D)(S:(Nat->Bool)->List bq):List aJ->Nat->Prop
 |[],_=>True
 |o::r,i=>fE X N all J x S i o/\Sr X N all J x S r (i+1)
theorem Sr.get{all:List aJ}:∀{l:List aJ}{k:Nat},Sr X N all J x S l k->∀i o,l[i]?=O o->fE X N all J x S (k+i) o
 |[],_,_,i,o,h=>by grind
 |p::r,k,h,0,o,ho=>by simp at ho;subst ho;exact h.1
 |p::r,k,h,i+1,o,ho=>by have:=Sr.get h.2 i o az;grind
def I.w8{id:Nat}(j:P.follows Departure.mixedOrders=W)(x:Nat->D)(S:(Nat->Bool)->List bq)(l:S (λ_=>ae)=U)(a:pV ops.toList=W)(b:wU ops.toList 0=W)(c:rW N ops.toList=W)(bX:Sr X N ops.toList J x S ops.toList 0)(k:∀D,(∀i,i<V ops.toList->D i=W)->I X N Qf K .normal (Wc ops.toList J x) (S D)):I X N Qf (.code (.region id ops W)::K) .normal J U:=by
 have:=AW.reg (X:=X) (N:=N) (J:=J) (U:=U) j (all:=ops.toList) (V ops.toList) (λ_:Unit=>x) (λ_=>S) (λ_ _=>True) () an l a b c (bm _)
  (λi h1 h2=>absurd h2 (pR.2 h1)) (λg D _ _ i h1 h2=>absurd h2 (pR.2 h1))
  (λg D i o _ ho _ f d e=>by have h1:=bX.get i o ho;rw[b8]at h1;exact(h1 D (Bh e i o ho d) (Na e f)).uW ⟨(),λ_ _=>rfl,an⟩ Z Z)
  (Q:=I X N Qf K) (λg D _ h=>by rw[wF];exact .nil (k D h)) id
 rw[te]at this;exact this
end
section
variable {X:Cx P}{x:Nat->D}{k:Bool->Bool->Bool->List bq}{g f b:Nat}
abbrev y5(k:Bool->Bool->Bool->List bq)(g f b:Nat):(Nat->Bool)->List bq:=λD=>k (D g) (D f) (D b)
def dL{D:Nat->Bool}(h:aC j i=ae):fz i D j=D j:=by simp only[fz,h]
def mW{D:Nat->Bool}:fz i D i=W:=MF
def fE.q3(h1:aC g i=ae)(h2:aC f i=ae)(e:aC b i=ae)(h:∀a c d,OA X N all o (od all J x i) (k a c d) (x i) (k a c d)):fE X N all J x (y5 k g f b) i o:=by intro D _ _;show OA X N all o _ (k (D g) (D f) (D b)) _ (k (fz i D g) (fz i D f) (fz i D b));rw[dL h1,dL h2,dL e];exact h _ _ _
def fE.q3o(hT:dA P T)(hC:b5 X CT)(ho:aA obs)(h:∀a c d,A5 T CT [] all (od all J x i) (k a c d) o=O (x i,af,obs):=by intro a c d;cases a<;>cases c<;>cases d<;>rfl)(h1:aC g i=ae:=by rfl)(h2:aC f i=ae:=by rfl)(e:aC b i=ae:=by rfl):fE X N all J x (y5 k g f b) i o:=.q3 h1 h2 e λa c d=>OA.eval hT hC (h a c d) ho
def fE.Qv(hT:dA P T)(hC:b5 X CT)(h:∀a c d,A5 T CT [] all (od all J x i) (k a c d) o=O (x i,af,[]):=by intro a c d;cases a<;>cases c<;>cases d<;>rfl)(h1:aC g i=ae:=by rfl)(h2:aC f i=ae:=by rfl)(e:aC b i=ae:=by rfl):fE X N all J x (y5 k g f b) i o:=.q3o (obs:=[]) hT hC an h h1 h2 e
def fE.e1(hi:aC g i=W)(h1:aC g i=W)(h2:aC f i=ae)(a:aC b i=ae)(h:∀c d,OA X N all o (od all J x i) (k ae c d) (x i) (k W c d)):fE X N all J x (y5 k g f b) i o:=by intro D _ j;have e:=dH hi;subst e;show OA X N all o _ (k (D g) (D f) (D b)) _ (k (fz g D g) (fz g D f) (fz g D b));rw[mW,dL h2,dL a,j g (.inl Z)];exact h _ _
def fE.e2(hi:aC f i=W)(h1:aC g i=ae)(d:aC b i=ae)(hb:k7 all b i=W)(j:aC f i=W)(h:∀a,OA X N all o (od all J x i) (k a ae ae) (x i) (k a W ae)):fE X N all J x (y5 k g f b) i o:=by intro D _ c;have e:=dH hi;subst e;show OA X N all o _ (k (D g) (D f) (D b)) _ (k (fz f D g) (fz f D f) (fz f D b));rw[mW,dL h1,dL d,c f (.inl Z),c b (.inr hb)];exact h _
def fE.e3(hi:aC b i=W)(h1:aC g i=ae)(h2:aC f i=ae)(hb:k7 all i f=W)(c:aC b i=W)(h:∀a,OA X N all o (od all J x i) (k a W ae) (x i) (k a W W)):fE X N all J x (y5 k g f b) i o:=by intro D hT hF;have e:=dH hi;subst e;show OA X N all o _ (k (D g) (D f) (D b)) _ (k (fz b D g) (fz b D f) (fz b D b));rw[mW,dL h1,dL h2,hF b (.inl Z),hT f hb];exact h _
end
section
variable {X:Cx P}
theorem oz.FN{x:ι->D}{U':ι->List bq}(n:o.guard=af)(h:gO P N o J U x U'):oz X N all o J U x U':=by intro s a f hh b k cs S i rest hb hi hK;refine vH hb hi (eE n) λq c=>?_;have d:=hh.rely c;obtain⟨j,p,s',v,h1,h2,l,e,g,m⟩:=h q a (f.rely c hh) d;exact⟨p,s',v,h1,h2,⟨⟨U,U' j,d,e,g⟩,m⟩,hK j v s' l e (c.db.trans (g.pC d))⟩
def oz.HF{f:aO}(l:e9 X f cR Us res σ1)(ks:List Nat)(y:o.guard=af)(ho:o.op=.call {callee:=.value fo,args:=xs,argTypes:=lh})(r:fV (ck J fo)=O (f,cap))(h:∀s vs,cU U s vs (xs.toList.map (ck J)++iq cap)->cU U s vs (iJ ks cR))(z:nV (V ks) cR=W)(u:l6 ks U=O Us)(C:dg Us=W)(v:∀j,dg (σ1 j)=W)(B:fa ks=W)(t:∀j,bP (V ks) (V (σ1 j))=W):
  oz X N all o J U (λj=>ky (ks++nw (V U) (V (σ1 j)-V ks)) (res j)) (λj=>ft ks (σ1 j) U):=by
 intro s a q hh b kk cs S i rest hb hi hK;have n:=dz q fo;unfold fV at r;split at r
 case h_2=>cases r
 case h_1 f' RB he =>
  cases r;rw[he]at n;have g:=gG n;generalize A:a.eval fo=fv at g;cases g with
  |fn fs pE hl He f1 f2 h1 h2 r1 r2 =>
   have x:fs=[]:=kB hl;subst x;have k:cU U s pE (iq cap):=oS (λj c hj=>⟨f2 j,h2 j az,r2 j c hj⟩) He;have p:cU U s (xs.toList.map a.eval++pE) (iJ ks cR):=h s _ ((mU (dz q) xs.toList).append k);obtain⟨fn,m,e,d⟩:=l.1;exact x4 hb hi (eE y) hh (λw=>(j7 ho m e d A w).1) (λw=>(j7 ho m e d A w).2) l p z u C v B (λj=>fY (t j)) hK
def oz.wT{f:aO}(c:e9 X f cR Us res σ1)(ks:List Nat)(d:o.guard=af)(ho:o.op=.call {callee:=.value fo,args:=xs,argTypes:=lh})(k:fV (ck J fo)=O (f,cap))(a:pU (xs.toList.map (ck J)++iq cap)=iJ ks cR)(e:nV (V ks) cR=W)(g:l6 ks U=O Us)(l:dg Us=W)(i:∀j,dg (σ1 j)=W)(m:fa ks=W)(b:∀j,bP (V ks) (V (σ1 j))=W):
  oz X N all o J U (λj=>ky (ks++nw (V U) (V (σ1 j)-V ks)) (res j)) (λj=>ft ks (σ1 j) U):=.HF c ks d ho k (λ_ _ h=>a▸tp h) e g l i m b
def oz.l7{f:aO}(c:e9 X f cR Us res σ1)(ks:List Nat)(e:o.guard=af)(ho:o.op=.call {callee:=.value fo,args:=xs,argTypes:=lh})(l:fV (ck J fo)=O (f,cap))(a:zv (xs.toList.map (ck J)++iq cap) (iJ ks cR)=O ps)(d:aA ps)(g:nV (V ks) cR=W)(i:l6 ks U=O Us)(m:dg Us=W)(k:∀j,dg (σ1 j)=W)(n:fa ks=W)(b:∀j,bP (V ks) (V (σ1 j))=W):
  oz X N all o J U (λj=>ky (ks++nw (V U) (V (σ1 j)-V ks)) (res j)) (λj=>ft ks (σ1 j) U):=.HF c ks e ho l (λ_ _ h=>wL a d h) g i m k n b
def I.aeX(E:av)(k:Nat)(kk:I X N Qf (.code c::K) .normal J (U++[.cJ (jS E k (.nil af) 0 [])])):I X N Qf (.code c::K) .normal J U:=by refine I.c8 (λs a b hh=>?_) kk;obtain⟨d,g2⟩:=hh.jQ (B:=.cJ (jS E k (.nil af) 0 [])) (L:=⟨.nilFunc,[]⟩) (.refl _ _) rfl hh ⟨λ_=>af,⟨rfl,by simp,by simp,rfl,rfl⟩,by simp,by simp,by simp⟩ ay;exact⟨{s with β:=s.β++[⟨.nilFunc,[]⟩]},rfl,⟨b.size,b.defers.imp λ_ h1=>h1.mono g2.ext,λu=>(b.ff u).mono g2.ext hh.len⟩,d,g2⟩
end
def Xn(p:Nat->Bool):List Nat->Bool
 |[]=>ae
 |e::r=>match p e with|true=>W|false=>Xn p r
def Np{p:Nat->Bool}:∀{l:List Nat},Xn p l=W->∃e∈l,p e=W
 |[],h=>by cases h
 |e::r,h=>by
  simp only[Xn]at h;split at h
  .grind
  obtain⟨c,b,a⟩:=Np h;grind
def Bu(all:List aJ)(k:Nat):Nat->List Nat->Bool
 |0,l=>kz k l
 |f+1,l=>match kz k l with|true=>W|false=>Xn (λe=>Bu all k f (cG (all.getD e lV).after.toList)) l
def uu{all:List aJ}{k:Nat}{L:Nat->Prop}(c:∀i,i<V all->L i->∀e∈cG (all.getD i lV).after.toList,L e):∀{f:Nat}{l:List Nat},Bu all k f l=W->(∀e∈l,L e)->L k
 |0,l,h,a=>a k (R8 h)
 |f+1,l,h,a=>by
  simp only[Bu]at h;split at h
  .grind [R8]
  obtain⟨e,j,b⟩:=Np h;rcases dy e (V all) with g|g
  .exact uu c b (c e g (a e j))
  have:all.getD e lV=lV:=az;rw[this]at b;exact uu c b (λm d=>by simp[lV,cG]at d)
def Bv(all:List aJ)(f:Nat)(l:List Nat):Nat->Bool
 |0=>W
 |n+1=>match Bu all n f l with|true=>Bv all f l n|false=>ae
def x5{all:List aJ}{f:Nat}{l:List Nat}:∀{n:Nat},Bv all f l n=W->∀k,k<n->Bu all k f l=W
 |0,_,k,hk=>by omega
 |n+1,h,k,hk=>by
  simp only[Bv]at h;split at h
  .rename_i a;by_cases e:k=n
   .grind
   exact x5 h k aq
  grind
def AX(all:List aJ)(f:Nat):Nat->Nat->Bool
 |_,0=>W
 |i,r+1=>match Bv all f (cG (all.getD i lV).after.toList) i with|true=>AX all f (i+1) r|false=>ae
def x6{all:List aJ}{f:Nat}:∀{i r:Nat},AX all f i r=W->∀q,i<=q->q<i+r->Bv all f (cG (all.getD q lV).after.toList) q=W
 |i,0,_,q,b,a=>by omega
 |i,r+1,h,q,b,a=>by
  simp only[AX]at h;split at h
  .rename_i c;by_cases e:q=i
   .grind
   exact x6 h q aq aq
  grind
section
variable {X:Cx P}
def OT(c:Nat)(pre:Nat->Bool)(x:Nat->D)(y:ι->Nat->D)(j:ι)(i:Nat):D:=match Nat.blt i c with|true=>K5 pre x y j i|false=>.any
def I.ae5(v:P.follows Departure.mixedOrders=W)(m c f:Nat)(pre:Nat->Bool)(x:Nat->D)(y:ι->Nat->D)(U':ι->List bq){id:Nat}(b:pV ops.toList=W)(d:wU ops.toList 0=W)(e:rW N ops.toList=W)(p:pre m=ae)(q:F0 pre m ops.toList 0=W)(t:Nat.blt c (V ops.toList)=W)(hm:Nat.blt m c=W)(l:∀i,pre i=W->i<c)(ZI:AX ops.toList f c (V ops.toList-c)=W)(bX:ye X N ops.toList J U x pre ops.toList 0)(RY:∀j,yf X N ops.toList J (U' j) (OT c pre x y j) m (ops.toList.take c) 0)(Wi:oz X N ops.toList (ops.toList.getD m lV) (od ops.toList J x m) U (λj=>OT c pre x y j m) U')(k:∀j,I X N Qf (.ops ops.toList (ops.toList.drop c)::K) .normal (Wc ops.toList J (OT c pre x y j)) (U' j)):I X N Qf (.code (.region id ops W)::K) .normal J U:=by
 have t:=fY t;have hm:=fY hm;have:=AW.reg (X:=X) (N:=N) (J:=J) (U:=U) v (all:=ops.toList) c (λa:Option ι=>a.elim x (OT c pre x y)) (λa _=>a.elim U U') (λa D=>a.isSome=D m/\(a=af->∀i,D i=W->pre i=W)) af ⟨rfl,λ_ _ h=>by cases h⟩ Z b d e aq
  (λi h1 h2 L u g k hk=>uu u (x5 (x6 ZI i h1 aq) k hk) g)
  (λa D s n i h1 h2=>by
   obtain⟨j,rfl⟩:=Bt s hm n;have:Nat.blt i c=ae:=by
    cases hb:Nat.blt i c with
    |false=>rfl
    |true=>have:=fY hb;omega
   simp only[Option.elim,OT,this])
  (No (S:=λj _=>U' j) p q (λj i g=>by have:Nat.blt i c=W:=wy (l i g);simp only[OT,this,K5,g])
   (λi o hi g=>by have:=bX.get i o hi az;grind)
   (λj D i o hi Hg xZ _ _=>by
    have r:(ops.toList.take c)[i]?=O o:=az
    have:=(RY j).get i o r az;grind)
   (λo ho=>by grind) (λ_ _ _=>rfl))
  (Q:=I X N Qf K) (λa D s n=>by obtain⟨j,rfl⟩:=Bt s hm n;exact k j) id
 rw[te]at this;exact this
end
def jo(a:Nat->Option Obj):Mem:=λb o=>match a b with
 |some (.cells cs _ _)=>cs[o]?
 |_=>af
def PM(K:Mem->Prop):ah->(Nat->Option Obj)->Prop:=λu a=>u=.nilFunc/\(∀b o,a b=O o->∃cs E,o=.cells cs E (0,0))/\K (jo a)
section
variable {X:Cx P}{c:List It}
def ae8(M M':Mem):Prop:=∀b o v,M b o=O v->M' b o=O v
def PM.start{k:Nat}{xs:List ah}{a:Option Addr}{K:Mem->Prop}(d:∀M,K M):∀v ch,jS E k (.nil a) n xs v ch->PM K v ch:=by rintro v ch ⟨h1,_,_,_,rfl⟩;exact⟨h1,λb o hb=>by grind,d _⟩
def PM.DN{e:Nat}{K:Mem->Prop}{u:ah}{k:Nat}(hl:U[e]?=O (.cJ (PM K)))(p:∀M,K M->Rd M u (.sl ae k n es)):ln U e u k n es:=by
 intro s hh;have d:e<V s.β:=nh;have f:=bD d;generalize s.β[e]=L at f;obtain⟨ch,⟨h1,h2,i⟩,q,l,j⟩:=hh.box e _ L hl f;have g:∀b o v,jo ch b o=O v->b∈L.bs/\s.w.cell? ⟨b,o,af⟩=O v:=λb o v a=>by
  cases h:ch b with
  |none=>simp[jo,h]at a
  |some x =>
   obtain⟨cs,E,rfl⟩:=h2 b x h;have m:=q b _ h;simp only[jo,h]at a;exact⟨(l b).2 kT,by simpa[a9,m]using a⟩
 refine⟨L,λb o=>(s.M b o).or (jo ch b o),f,λb o v a=>by grind,λb hb o=>?_,λb o v a=>?_,j,(p _ i).mono λb o v a=>?_⟩
 .cases h:jo ch b o with
  |none=>simp[h]
  |some v=>grind
 .cases h:s.M b o with
  |some v'=>simp only[h,z9]at a;cases a;exact hh.mem b o v h
  |none=>grind
 grind
end
section
variable {X:Cx P}{c:Type}{x:c->Nat->D}{S:c->(Nat->Bool)->List bq}{nD:c->(Nat->Bool)->Prop}
def sU(X:Cx P)(N:Nat)(all:List aJ)(J:Fr){c:Type}(x:c->Nat->D)(S:c->(Nat->Bool)->List bq)(nD:c->(Nat->Bool)->Prop)(i:Nat)(o:aJ):Prop :=
 ∀b (D:Nat->Bool),nD b D->(∀j,k7 all i j=W->D j=W)->(∀j,(j=i∨k7 all j i=W)->D j=ae)->oz X N all o (od all J (x b) i) (S b D) (λq:{a:c // (∀j,D j=W->x a j=x b j)/\nD a (fz i D)}=>x q.1 i) (λq=>S q.1 (fz i D))
def Sq{P:aR}(X:Cx P)(N:Nat)(all:List aJ)(J:Fr){c:Type}(x:c->Nat->D)(S:c->(Nat->Bool)->List bq)(nD:c->(Nat->Bool)->Prop):List aJ->Nat->Prop
 |[],_=>True
 |o::r,i=>sU X N all J x S nD i o/\Sq X N all J x S nD r (i+1)
theorem Sq.get{all:List aJ}:∀{l:List aJ}{k:Nat},Sq X N all J x S nD l k->∀i o,l[i]?=O o->sU X N all J x S nD (k+i) o
 |[],_,_,i,o,h=>by grind
 |p::r,k,h,0,o,ho=>by simp at ho;subst ho;exact h.1
 |p::r,k,h,i+1,o,ho=>by have:=Sq.get h.2 i o az;grind
def I.abA{id:Nat}(p:P.follows Departure.mixedOrders=W)(x:c->Nat->D)(S:c->(Nat->Bool)->List bq)(nD:c->(Nat->Bool)->Prop)(d:c)(j:nD d λ_=>ae)(q:S d (λ_=>ae)=U)(b:pV ops.toList=W)(e:wU ops.toList 0=W)(f:rW N ops.toList=W)(bX:Sq X N ops.toList J x S nD ops.toList 0)(k:∀a D,nD a D->(∀i,i<V ops.toList->D i=W)->I X N Qf K .normal (Wc ops.toList J (x a)) (S a D)):I X N Qf (.code (.region id ops W)::K) .normal J U:=by
 have:=AW.reg (X:=X) (N:=N) (J:=J) (U:=U) p (all:=ops.toList) (V ops.toList) x S nD d j q b e f (bm _)
  (λi h1 h2=>absurd h2 (pR.2 h1)) (λa D _ _ i h1 h2=>absurd h2 (pR.2 h1))
  (λa D i o m ho _ l g h=>by have h1:=bX.get i o ho;rw[b8]at h1;exact h1 a D m (Bh h i o ho g) (Na h l))
  (Q:=I X N Qf K) (λa D m n=>by rw[wF];exact .nil (k a D m n)) id
 rw[te]at this;exact this
def sU.of(h:∀d (D:Nat->Bool),nD d D->(∀j,k7 all i j=W->D j=W)->(∀j,(j=i∨k7 all j i=W)->D j=ae)->nD d (fz i D)/\OA X N all o (od all J (x d) i) (S d D) (x d i) (S d (fz i D))):sU X N all J x S nD i o:=by intro d D g h1 h2 s a f hh b k cs SS idx rest hb hi hK;obtain⟨e,q2⟩:=h d D g h1 h2;exact q2 s a f hh b k cs SS idx rest hb hi λv s' r1 r2 r3=>hK ⟨d,λ_ _=>rfl,e⟩ v s' r1 r2 r3
def sU.ofI(h:∀e (D:Nat->Bool),nD e D->(∀j,k7 all i j=W->D j=W)->(∀j,(j=i∨k7 all j i=W)->D j=ae) ->
  ∃(ι:Type) (y:ι->Go.AM.D) (U':ι->List bq),oz X N all o (od all J (x e) i) (S e D) y U'/\∀j,∃d,((∀q,D q=W->x d q=x e q)/\nD d (fz i D))/\y j=x d i/\U' j=S d (fz i D)):sU X N all J x S nD i o:=by intro e D m h1 h2 s a f hh b k cs SS idx rest hb hi hK;obtain⟨ι,y,U',g,q2⟩:=h e D m h1 h2;refine g s a f hh b k cs SS idx rest hb hi λj v s' r1 r2 r3=>?_;obtain⟨d,l,p2,p3⟩:=q2 j;rw[p2]at r1;rw[p3]at r1 r2 r3;exact hK ⟨d,l⟩ v s' r1 r2 r3
end
section
variable {X:Cx P}{x:Nat->D}{l:Bool->Bool->Bool->Bool->List bq}{g f e k:Nat}
abbrev u9(l:Bool->Bool->Bool->Bool->List bq)(g f e k:Nat):(Nat->Bool)->List bq:=λD=>l (D g) (D f) (D e) (D k)
theorem ad6{D:Nat->Bool}(h:aC j i=ae):fz i D j=D j:=by simp only[fz,h]
theorem ahK{D:Nat->Bool}:fz i D i=W:=MF
def fE.q4(h1:aC g i=ae)(h2:aC f i=ae)(j:aC e i=ae)(m:aC k i=ae)(h:∀a b c d,OA X N all o (od all J x i) (l a b c d) (x i) (l a b c d)):fE X N all J x (u9 l g f e k) i o:=by intro D _ _;grind[ad6]
def fE.q4o(hT:dA P T)(hC:b5 X CT)(ho:aA obs)(h:∀a b c d,A5 T CT [] all (od all J x i) (l a b c d) o=O (x i,af,obs):=by intro a b c d;cases a<;>cases b<;>cases c<;>cases d<;>rfl)(h1:aC g i=ae:=by rfl)(h2:aC f i=ae:=by rfl)(j:aC e i=ae:=by rfl)(m:aC k i=ae:=by rfl):fE X N all J x (u9 l g f e k) i o:=.q4 h1 h2 j m λa b c d=>OA.eval hT hC (h a b c d) ho
def fE.tD(hT:dA P T)(hC:b5 X CT)(h:∀a b c d,A5 T CT [] all (od all J x i) (l a b c d) o=O (x i,af,[]):=by intro a b c d;cases a<;>cases b<;>cases c<;>cases d<;>rfl)(h1:aC g i=ae:=by rfl)(h2:aC f i=ae:=by rfl)(j:aC e i=ae:=by rfl)(m:aC k i=ae:=by rfl):fE X N all J x (u9 l g f e k) i o:=.q4o (obs:=[]) hT hC an h h1 h2 j m
def fE.c1(h2:aC f g=ae)(a:aC e g=ae)(d:aC k g=ae)(b:k7 all f g=W)(c:k7 all e g=W)(i:k7 all k g=W)(h:OA X N all o (od all J x g) (l ae ae ae ae) (x g) (l W ae ae ae)):fE X N all J x (u9 l g f e k) g o:=MD
def fE.c2(h1:aC g f=ae)(a:aC e f=ae)(d:aC k f=ae)(b:k7 all f g=W)(c:k7 all e f=W)(i:k7 all k f=W)(h:OA X N all o (od all J x f) (l W ae ae ae) (x f) (l W W ae ae)):fE X N all J x (u9 l g f e k) f o:=MD
def fE.c3(h1:aC g e=ae)(h2:aC f e=ae)(a:aC k e=ae)(c:k7 all e g=W)(d:k7 all e f=W)(b:k7 all k e=W)(h:OA X N all o (od all J x e) (l W W ae ae) (x e) (l W W W ae)):fE X N all J x (u9 l g f e k) e o:=MD
def fE.c4(h1:aC g k=ae)(h2:aC f k=ae)(a:aC e k=ae)(c:k7 all k g=W)(d:k7 all k f=W)(b:k7 all k e=W)(h:OA X N all o (od all J x k) (l W W W ae) (x k) (l W W W W)):fE X N all J x (u9 l g f e k) k o:=MD
end
section
variable {X:Cx P}{d:List It}
def e9.S7{f:aO}{args:List D}{H:ι->ah->(Nat->Option Obj)->Prop}{k:Nat}(h:e9 X f args [] res (λi=>[.cg,.cJ (H i)]))(M:∀i v ch,H i v ch->v=.nilFunc)(K:∀i,ky [] (res i)=res i)(j:∀i,C7 0 (res i)=W)(z:nV 0 args=W)(m:iJ [] args=args):
  e9 X f args [.cJ (jS E k (.nil af) 0 [])] res (λi=>[.cJ (H i)]):=by
 refine⟨h.1,λs vs hr hh S cs hS=>?_⟩;have w:V s.β=1:=hh.len;obtain⟨e,x⟩:∃e,s.β=[e]:=by
  match G:s.β with
  |[A]=>grind
  |[]=>grind
  |_::_::_=>grind
 have u:s.β[0]?=O e:=az;obtain⟨y,c1,c2,c3,c4⟩:=hh.box 0 _ e rfl u;obtain⟨N,_,_,_,rfl⟩:=c1;have AK:∀b,b∉e.bs:=λb hb=>by grind
 let g:St:={s with β:=[]}
 have F:gn s g:=⟨rfl,λ_ _ _ h=>h,λ_ _ _=>rfl,hh.mem,λb hb=>hb.imp id λ⟨L,a,_⟩=>by grind⟩
 have p:aH [] g:=⟨hh.mem,rfl,by simp,by grind,by grind,λb hb=>⟨(hh.own b hb).1,by grind⟩⟩
 have c:cU [] g vs args:=by rw[<-m]at hr;exact cU.sub (ks:=[]) (U:=[.cJ (jS E k (.nil af) 0 [])]) (U':=[]) (s:=s) (β':=[]) Z Z hr z
 refine .c8 F (h.2 g vs c p S cs λi fr v s' hl nj lj st=>?_);have q:V s'.β=2:=lj.len;obtain⟨A,B,t⟩:∃A B,s'.β=[A,B]:=by
  match G:s'.β with
  |[A,B]=>grind
  |[]=>grind
  |[_]=>grind
  |_::_::_::_=>grind
 have J:s'.β[1]?=O B:=az;obtain⟨ch,d1,d2,d3,d4⟩:=lj.box 1 _ B rfl J;have hB:=M i _ _ d1;let s2:St:={s' with β:=[B]}
 have hm:∀L∈s2.β,L∈s'.β:=λL a=>by grind
 have r:gn s' s2:=⟨rfl,λ_ _ _ h=>h,λ_ _ _=>rfl,lj.mem,λb hb=>hb.imp id λ⟨L,a,hb⟩=>⟨L,hm L a,hb⟩⟩
 have n:ey [.cJ (H i)] s2 v (res i):=by rw[<-K i]at nj;have:=ey.sub (ks:=[]) (U:=[.cg,.cJ (H i)]) (U':=[]) (s:=s') (β':=[]) Z Z nj (j i);exact this.mono (U:=[]) (s:={s' with β:=[]}) (U':=[.cJ (H i)]) (s':=s2) ⟨λ_ _ _ h=>h,λl B L hB=>by grind⟩ rfl
 refine .c8 r (hS i fr v s2 (hl.mono λ_ _ _ h=>h) n ⟨lj.mem,Z,λl C L hC a=>?_,λl l' C D h1 h2 b hb qq=>?_,λL a b hb=>lj.lt L (hm L a) b hb,λb hb=>⟨(lj.own b hb).1,λL a=>(lj.own b hb).2 L (hm L a)⟩⟩
  ⟨st.size,st.keep,st.mem,λb hb _ o=>st.lJ b hb az o,λL a b hb=>?_,λl C L hC a=>?_,st.os,st.tape,st.output,st.own⟩)
 .match l,hC,a with
  |0,hC,a=>cases hC;cases a;exact⟨ch,d1,d2,d3,d4⟩
  |l+1,hC,_=>grind
 .match l,l',h1,h2 with
  |0,0,_,_=>rfl
  |l+1,_,h1,_=>grind
  |_,l+1,_,h2=>grind
 .rcases st.Ab L (hm L a) b hb with h1|⟨L1,h1,_⟩
  .grind
  grind
 .match l,hC,a with
  |0,hC,a =>
   cases hC;rw[u]at a;cases a;exact⟨_,B,Z,Z,by show B.v=e.v;grind⟩
  |l+1,hC,_=>grind
def I.Xr(l i j:Nat){K:Mem->Prop}{E0:av}{k:Nat}{cs:List A}{R cl:C}(hli:l≠i)(hl:eH l U=O (.cJ (PM K)))(hi:eH i U=O (.cells E0 cs))(hj:eH j cs=O (.c R))(hK:∀M M',K M->ae8 M M'->∀v,Rd M' v R->Rd M' v cl)(kk:I X N Qf (.code c::d) .normal J ((U.set l (.cJ (jS E k (.nil af) 0 []))).set i (.cells E0 (cs.set j (.c cl))))):I X N Qf (.code c::d) .normal J U:=by
 refine I.c8 (λs a aa hh=>?_) kk;have hl:=cD hl;have hi:=cD hi;have Y:=cD hj;have t:l<V s.β:=nh;have Q:=bD t;generalize s.β[l]=L at Q;obtain⟨ch,⟨h1,h2,S⟩,ab,h5,T⟩:=hh.box l _ L hl Q;let M':Mem:=λb o=>(s.M b o).or (jo ch b o);have q:∀b o v,jo ch b o=O v->b∈L.bs/\s.w.cell? ⟨b,o,af⟩=O v:=λb o v f=>by
  cases h:ch b with
  |none=>simp[jo,h]at f
  |some x =>
   obtain⟨cs,E,rfl⟩:=h2 b x h;have hw:=ab b _ h;simp only[jo,h]at f;exact⟨(h5 b).2 kT,by simpa[a9,hw]using f⟩
 have m1:∀b o v,s.M b o=O v->M' b o=O v:=λb o v f=>by grind
 have m2:∀b,b∉L.bs->∀o,M' b o=s.M b o:=λb hb o=>by
  cases h:jo ch b o with
  |none=>grind
  |some v=>grind
 have m3:∀b o v,M' b o=O v->s.w.cell? ⟨b,o,af⟩=O v:=λb o v f=>by
  cases h:s.M b o with
  |some v'=>simp only[M',h,z9]at f;cases f;exact hh.mem b o v h
  |none=>grind
 have m4:=hK _ M' S λb o v f=>by have:=T b (q b o v f).1 o;simp[M',this,f]
 obtain⟨n,q2⟩:=hh.iA (M':=M') (w':=s.w) (B':=.cJ (jS E k (.nil af) 0 [])) (L':=⟨.nilFunc,[]⟩) hl Q h1.symm (bm _) (λ_ _ _=>rfl) (λb _ hb o=>m2 b hb o) m1 m3 ay rfl rfl rfl
  ⟨λ_=>af,⟨rfl,by simp,by simp,rfl,rfl⟩,by simp,by simp,by simp⟩
 have m:(U.set l (.cJ (jS E k (.nil af) 0 [])))[i]?=O (.cells E0 cs):=az;generalize Z:(⟨s.β.set l ⟨.nilFunc,[]⟩,M',s.w,s.own⟩:St)=s1 at n q2;have y:i<V s1.β:=by rw[n.len];grind
 have g:=bD y;generalize s1.β[i]=L2 at g;obtain⟨b,vs,AK,r,G,hM⟩:=n.box i _ L2 m g;obtain⟨u,hu,hr⟩:=G.get Y;have H:s1.M=M':=az;have D:s1.β.set i L2=s1.β:=tf
 obtain⟨t1,ak⟩:=n.iA (M':=s1.M) (w':=s1.w) (B':=.cells E0 (cs.set j (.c cl))) (L':=L2) m g rfl (bm _) (λ_ _ _=>rfl) (λ_ _ _ _=>rfl) (λ_ _ _ h=>h) n.mem (λb hb=>⟨.inl hb,n.lt L2 (b9 g) b hb⟩) rfl rfl rfl (by
   rw[D];have ex:sM (U.set l (.cJ (jS E k (.nil af) 0 []))) s1 ((U.set l (.cJ (jS E k (.nil af) 0 []))).set i (.cells E0 (cs.set j (.c cl)))) s1:=by
    refine⟨λ_ _ _ h=>h,λp B L F z=>?_⟩;by_cases e:i=p
    .subst e;rw[m]at F;cases F;exact⟨_,L,js az,z,aK⟩
    exact⟨B,L,by grind,z,.refl _ _⟩
   refine⟨b,vs,AK,r,fD.set (G.mono ex n.len) hu ?_,hM⟩;show Rd s1.M u cl;rw[H];exact m4 u (H▸hr))
 have st:=q2.trans ak;exact⟨_,by grind,⟨aa.size,aa.defers.imp λ_ h1=>h1.mono st.ext,λu=>(aa.ff u).mono st.ext hh.len⟩,t1,st⟩
def I.F3(l i j:Nat){K:Mem->Prop}{E0:av}{k:Nat}{cs:List A}{cl:C}(a:l≠i)(hl:eH l U=O (.cJ (PM K)))(hi:eH i U=O (.cells E0 cs))(hj:eH j cs=O (.c (.val v)))(b:∀M,K M->Rd M v cl)(kk:I X N Qf (.code c::d) .normal J ((U.set l (.cJ (jS E k (.nil af) 0 []))).set i (.cells E0 (cs.set j (.c cl))))):I X N Qf (.code c::d) .normal J U :=
 I.Xr l i j a hl hi hj (λ_ _ h le _ r=>by rw[Rd.fM r];exact(b _ h).mono le) kk
end
def OW(v:ah)(n:Nat)(es:Nat->List C):Mem->Prop:=λM=>Rd M v (.sl ae 1 n es)/\∃a cap,v=.slice a n cap/\(n<cap->∃b off,a=O ⟨b,off,af⟩/\∀i,i<cap->(M b (off+i)).isSome=W)
def F4(n:Nat)(es:Nat->List C):Prop:=∀i,i<n->∃k z,es i=[.int k z]
def gA.afa{M':Mem}{es:Array bg}(h:gA {s with M:=M'} es){L:Loc}(g:L∈s.β)(j:∀b o v,s.M b o=O v->M' b o=O v)(c:∀b o v,M' b o=O v->b∈L.bs∨s.M b o=O v):gA s es:=by
 intro e f;have h1:=h e f;unfold pF at h1⊢;split at h1
 .obtain⟨a1,a2,a3⟩:=h1;refine⟨a1,a2,?_⟩;rcases a3 with a3|⟨a3,a4⟩|⟨a3,v,a4⟩
  .simp_all
  .refine .inr (.inl ⟨a3,λd=>?_⟩);have:=a4 d;rename_i a _;cases hm:s.M a.block a.off with
   |none=>rfl
   |some v=>grind
  rcases c _ _ _ a4 with h|h
  .refine .inr (.inl ⟨⟨L,g,h⟩,λd=>?_⟩);grind
  simp_all
 all_goals exact h1
section
variable {X:Cx P}
def e9.abV{f:aO}{args:List D}{g q m:Nat}{a b c d:C}{ok:Bool}(es':Nat->List C)(h:Ev X f args [] (.gI [.agg [.c a,.c b,.c c,.c d,.bp 0 (.sl g 1 q m)],.bX (.c (.bool ok))]) [.eX E 1 g es])(hqm:q+m<=g)(ab:∀j,j<m->es' j=es (q+j))(Z:F4 m es'):
  e9 (ι:=ah) X f args [] (λv=>.gI [.agg [.c a,.c b,.c c,.c d,.c (.val v)],.bX (.c (.bool ok))]) (λv=>[.cg,.cJ (PM (OW v m es'))]):=by
 refine⟨h.uW.1,λs vs hr hh S cs hS=>h.uW.2 s vs hr hh S cs λi fr v s' hl nj lj st=>?_⟩;have hlen:V s'.β=1:=lj.len;obtain⟨AK,Q⟩:∃AK,s'.β=[AK]:=by
  match hq:s'.β with
  |[A]=>grind
  |[]=>grind
  |_::_::_=>grind
 have g0:s'.β[0]?=O AK:=az;have b0:=lj.box 0 _ AK aK g0;obtain⟨ws,rfl,hw⟩:=nj
 match ws,hw with
 |[w0,w1],⟨K,N,_⟩ =>
 obtain⟨us,rfl,R⟩:=K
 match us,R with
 |[u0,u1,u2,u3,u4],⟨Y,U,hu2,T,hu4,_⟩ =>
 obtain⟨lv,⟨a',a0,cap,c0,rfl,k1,k2,k3,k4,k5⟩,_,hu⟩:=hu4;obtain⟨_,hu⟩:=hu E 1 g es rfl;obtain⟨L0',e0,e1⟩:=hu rfl;rw[g0]at e0;cases e0;rw[k4]at e1;obtain⟨G,q1,q2,q3,q4⟩:∃G:Nat->Option Obj,(∀x o,G x=O o->s'.w.heap[x]?=O o/\∃cs E,o=.cells cs E (0,0))/\(∀x,x∈AK.bs↔(G x).isSome=W)/\(∀x∈AK.bs,∀o,s'.M x o=af) /\
   OW (.slice a' m cap) m es' (jo G):=by
  rcases b0 with⟨rfl,rfl⟩|⟨bb,c1,xs,aa,rfl,z1,z2,z3,z4,z5,z6⟩
  .cases e1;exact⟨λ_=>af,by simp,by simp,by simp,.sl 0 0 (λ_ _=>ai) k1 aq (λh=>by cases h) (λi hi=>by omega) (λh=>by omega) (λi hi=>by omega) λi hi=>by omega,_,_,aK,λh=>by omega⟩
  cases e1;have hlc:V (xs++aa)=q+cap:=aq;have H:∀o,o<q+cap->jo (λx=>if x=bb then O (.cells (xs++aa).toArray E (0,0))else af) bb o=(xs++aa)[o]?:=λo ho=>by simp[jo]
  refine⟨λx=>if x=bb then O (.cells (xs++aa).toArray E (0,0))else af,λx o n=>by grind,λx=>by by_cases e:x=bb<;>simp[e],λx n o=>by grind,?_,_,_,aK,λJ=>?_⟩
  .refine .sl bb q (λi' j'=>(xs.getD (q+i') ai)) k1 aq (λh=>by cases h) (λj hj=>?_) (λh=>?_) (λj hj p c y=>?_) λj hj p c y=>?_
   .obtain⟨k,z,e⟩:=Z j hj;simp[e]
   .obtain⟨b',h1,h2⟩:=k5 aq;cases h1;rw[h2,ow]
   .obtain⟨k,z,e⟩:=Z j hj;rw[e]at y;have hp0:p=0:=by
     match p,y with
     |0,_=>rfl
     |p+1,y=>simp at y
    subst hp0;rw[ow,iN,H _ aq];have hxl:V xs=g:=by have:=z5.len;omega
    have J:q+j<V xs:=aq;simp[List.getElem?_append,J,aj]
   have hj':=ab j hj;obtain⟨v,v1,v2⟩:=z5.rd (q+j) aq p c (by rw[<-hj'];exact y);obtain⟨k,z,e⟩:=Z j hj;rw[e]at y
   match p,y with
   |0,y =>
    cases y;have:xs.getD (q+j) ai=v:=by rw[aj];simp at v1;simp[v1]
    rw[this];cases v2 with
    |int h=>exact .int h
   |p+1,y=>simp at y
  obtain⟨b',h1,h2⟩:=k5 aq;cases h1;refine⟨_,_,by rw[h2,ow],λi hi=>?_⟩;rw[H _ aq];have:q+i<V (xs++aa):=aq;simp[bD this]
 let s2:St:={s' with β:=[⟨AK.v,[]⟩,⟨.nilFunc,AK.bs⟩]}
 have u:∀L∈s2.β,∀x∈L.bs,∃L'∈s'.β,x∈L'.bs:=λL t x n=>by rw[Q];simp only[s2,eQ,rO,mS]at t;grind
 have hG:gn s' s2:=⟨rfl,λ_ _ _ h=>h,λ_ _ _=>rfl,lj.mem,λx n=>n.imp id λ⟨L,t,n⟩=>u L t x n⟩
 refine .c8 hG (hS (.slice a' m cap) fr _ s2 (hl.mono λ_ _ _ h=>h) ⟨_,aK,⟨_,aK,Y,U,hu2,T,Rd.val aK,an⟩,N,an⟩ ⟨lj.mem,aK,λl B L hB t=>?_,λl l' A B h1 h2 x n ZY=>?_,λL t x n=>?_,λx n=>⟨(lj.own x n).1,λL t ak=>?_⟩⟩
  ⟨st.size,st.keep,st.mem,λx n hn o=>st.lJ x n hn o,λL t x n=>?_,λl B L hB=>by grind,st.os,st.tape,st.output,st.own⟩)
 .match l,hB,t with
  |0,hB,t=>cases hB;trivial
  |1,hB,t =>
   cases hB;cases t;exact⟨G,⟨aK,λx o n=>(q1 x o n).2,q4⟩,λx o n=>(q1 x o n).1,q2,q3⟩
  |l+2,hB,t=>grind
 .match l,l',h1,h2 with
  |0,0,_,_=>rfl
  |1,1,_,_=>rfl
  |0,1,h1,_=>grind
  |1,0,_,h2=>grind
  |l+2,_,h1,_=>grind
  |_,l+2,_,h2=>grind
 .obtain⟨L',h1,h2⟩:=u L t x n;exact lj.lt L' h1 x h2
 .obtain⟨L',h1,h2⟩:=u L t x ak;exact(lj.own x n).2 L' h1 h2
 obtain⟨L',h1,h2⟩:=u L t x n;exact st.Ab L' h1 x h2
end
section
variable {r:av}{i i2:TI}
def yj(hi:eN P t i)(Q:i.desc=.slice E)(p:eN P r i2)(q:i2.desc=.slice E)(H:eN P E ie)(B:aH U s){cap m:Nat}{D:av}{c:List ah}(N:s.w.heap[b]?=O (.cells c.toArray D (0,0)))(AK:off+cap*ie.size<=V c){es':Nat->List C}{x:ah}(A:Rd s.M x (.sl tx ie.size m es'))(y:n+m<=cap){L:Loc}(ak:L∈s.β)(R:b∈L.bs)(v:∀o,s.M b o=af):
  ∃a,ku s.M ie.size m es' a/\(Builtin.append_ #[t,r] ty #[.slice (O ⟨b,off,af⟩) n cap,x]).run P s.w=.ok (.slice (O ⟨b,off,af⟩) (n+m) cap) (s.w.setRow b (c.take (off+n*ie.size)++a++c.drop (off+n*ie.size+V a)).toArray) /\
   gA s ((Builtin.append_ #[t,r] ty #[.slice (O ⟨b,off,af⟩) n cap,x]).events P s.w #[]):=by
 obtain⟨a,l,G,K⟩:=fg (P:=P) B A;have aa:=jc (P:=P) B A (w:=s.w) Z;have z:=hi.run_underlying (w:=s.w);have k:=p.run_underlying (w:=s.w);rw[Q]at z;rw[q]at k;have J:off+n*ie.size+V a<=V c:=by
  have:n*ie.size+m*ie.size<=cap*ie.size:=by rw[<-jP];exact gX _ y
  have:=l.len;omega
 have g:=run_storeCells_at P b (off+n*ie.size) D a 0 c.toArray s.w N az l.cell;simp only[iN]at g;have d:(Builtin.lenOf x).run P s.w=.ok m s.w:=fC;have f:(Builtin.lenOf x).events P s.w #[]=#[]:=fC;refine⟨a,l,?_,λe u=>?_⟩
 .unfold Builtin.append_;simp only[j9,lH,nS,cf,z,k,cA,H.b6,dN,kY,cC,d,y,cv,gm,G,eg,b8,g]
 .unfold Builtin.append_ at u;simp only[j9,lH,nS,aM,cf,z,k,aP,H.b6,dN,kY,cC,d,f,y,cv,gm,G,eg,b8,g,
   uk,Sem.events_ite,events_underlying,events_sizeOf,bG]at u
  rcases fj a 0 c.toArray s.w _ N az l.cell e u with h|⟨j,T,S,rfl⟩
  .grind [vo]
  grind[l4]
end
section
variable {X:Cx P}{F:List It}
def gO.F5(h:oc P o x y E ie)(hs:ie.size=1){v0:ah}(hx:ck J x=b7 (.val v0))(hl:U[l]?=O (.cJ (PM (OW v0 n es))))(hN:F4 n es){es':Nat->List C}(hy:ck J y=b7 (.sl tx 1 1 es'))(hb:(n+1)*ie.bytes<=140737488355328):
  gO P N o J U (λ_:Unit=>b7 (.sl ae 1 (n+1) (dv n es es'))) λ_=>U.set l .cg:=by
 intro s a hf hh;obtain⟨t,r,i,i2,ho,hi,ak,Q,R⟩:=h.op;have RF:l<V s.β:=nh;have hL:=bD RF;generalize s.β[l]=L at hL;obtain⟨ch,⟨p1,p2,r1,ad,cap,rfl,hsp⟩,h4,h5,h6⟩:=hh.box l _ L hl hL;have hLm:=b9 hL;have d:=dz hf x;rw[hx]at d;have d:=Rd.fM d;have K:=dz hf y;rw[hy]at K;have K:Rd s.M (a.eval y) (.sl tx ie.size 1 es'):=by rw[hs];exact gG K
 have m:∀b o v,jo ch b o=O v->b∈L.bs/\s.w.cell? ⟨b,o,af⟩=O v:=λb o v d=>by
  cases h:ch b with
  |none=>simp[jo,h]at d
  |some x =>
   obtain⟨cs,E,rfl⟩:=p2 b x h;have K:=h4 b _ h;simp only[jo,h]at d;exact⟨(h5 b).2 kT,by simpa[a9,K]using d⟩
 by_cases AK:n+1<=cap
 .obtain⟨b,off,rfl,hc⟩:=hsp aq;obtain⟨cs,E',q⟩:∃cs E',ch b=O (.cells cs E' (0,0)):=by
   have:=hc 0 aq;cases h:ch b with
   |none=>simp[jo,h]at this
   |some x =>
    obtain⟨cs,E',rfl⟩:=p2 b x h;simp
  have Z:b∈L.bs:=(h5 b).2 (by simp[q]);have RE:=h4 b _ q;have hMb:=h6 b Z;have Wb:off+cap<=cs.size:=by
   have:=hc (cap-1) aq;simp only[jo,q]at this;cases h:cs[off+(cap-1)]? with
   |none=>simp[h]at this
   |some v=>have:=(gN.1 h).1;omega
  have ab:s.w.heap[b]?=O (.cells cs.toList.toArray E' (0,0)):=aq;obtain⟨g,D,G,f3⟩:=yj (P:=P) (s:=s) (ty:=o.type) (n:=n) (b:=b) (off:=off) (cap:=cap) hi ak Q R h.elem hh ab (by rw[hs];exact c9) K AK hLm Z hMb;rw[hs]at D G;simp only[ow]at G;have hnl:V g=1:=by have:=D.len;omega
  generalize H:(cs.toList.take (off+n)++g++cs.toList.drop (off+n+V g))=F6 at G;have aa3:(s.w.setRow b F6.toArray).heap[b]?=O (.cells F6.toArray E' (0,0)):=setRow_heap s.w b _ _ E' _ RE;have aa:∀f,f≠b->(s.w.setRow b F6.toArray).heap[f]?=s.w.heap[f]?:=λf Y=>setRow_other s.w b f _ Y;have aep:b<s.w.heap.size:=hh.lt L hLm b Z;have hhs:(s.w.setRow b F6.toArray).heap.size=s.w.heap.size:=ay;let M':Mem:=λf o=>if f=b then F6[o]? else s.M f o
  obtain⟨t1,S⟩:=hh.iA (M':=M') (w':=s.w.setRow b F6.toArray) (B':=.cg) (L':=⟨L.v,[]⟩) hl hL rfl aq (λf _ Y=>aa f az) (λf _ Y o=>by
    have:f≠b:=az
    simp[M',this])
   (λf o v d=>by
    have:f≠b:=az
    simp[M',this,d])
   (λf o v d=>by
    by_cases e:f=b
    .subst e;simp only[M',cv]at d;simp only[a9,aa3];grind
    .simp only[M',e,cC]at d;have:=hh.mem f o v d;simp only[a9,aa f e]at this⊢;omega) ay aK aK aK an
  refine⟨(),.value (.slice (O ⟨b,off,af⟩) (n+1) cap),_,_,?_,.inl aK,?_,t1,S,?_⟩
  .rw[dT ho,d];simp only[cf,dN];exact wj
  .show Rd M' (.slice (O ⟨b,off,af⟩) (n+1) cap) (.sl ae 1 (n+1) (dv n es es'));have ai0:cap<=9223372036854775807:=by cases r1;assumption
   have xZ:∀j,j<n->F6[off+j]?=jo ch b (off+j):=λj hj=>by rw[<-H];have:off+j<off+n:=aq;simp only[jo,q];rw[lZ,j8 c6,List.getElem?_take_of_lt aq];simp
   have WE:F6[off+n]?=g[0]?:=by rw[<-H,lZ,iy c6,j8 c6];congr 1;simp;omega
   refine .sl b off (λi _=>F6.getD (off+i) ai) AK ai0 ay (λi hi=>?_) fe (λi hi j c hj=>?_) λi hi j c hj=>?_;all_goals by_cases e:i<n
   .obtain⟨k,z,hz⟩:=hN i e;simp[dv,e,hz]
   .have:dv n es es' i=es' 0:=by simp[dv,show i=n by omega]
    rw[this];exact D.jy 0 aq
   .obtain⟨k,z,hz⟩:=hN i e;simp only[dv,e,cv,hz]at hj
    match j,hj with
    |0,hj =>
     have:=hc i aq;rw[<-xZ i e]at this;simp only[M',cv,ow,iN,aj];grind
    |j+1,hj=>simp at hj
   .obtain rfl:i=n:=aq;have:dv i es es' i=es' 0:=by simp[dv]
    rw[this]at hj;have hw0:=D.jy 0 aq;have T:j=0:=Ry;subst T;have h0:g[0]?=O g[0]:=bD aq;simp only[M',cv,ow,iN,aj,WE,h0];rfl
   .obtain⟨k,z,hz⟩:=hN i e;simp only[dv,e,cv,hz]at hj
    match j,hj with
    |0,hj =>
     cases hj;have r2:=r1;cases r2 with
     |sl b2 aoL G al5 hb2 ht2 hk2 ha2 hm2 wm =>
      have e2:=ha2 aq;cases e2;have m2:=hm2 i e 0 (.int k z) wj;have r3:=wm i e 0 (.int k z) wj;simp only[ow,iN]at m2;rw[aj,xZ i e,m2];show Rd M' (G i 0) _;generalize G i 0=u at r3;cases r3 with
      |int h=>exact .int h
    |j+1,hj=>simp at hj
   obtain rfl:i=n:=aq;have:dv i es es' i=es' 0:=by simp[dv]
   rw[this]at hj;have hw0:=D.jy 0 aq;have T:j=0:=Ry;subst T;obtain⟨v,v1,v2⟩:=D.rd 0 aq 0 c hj;simp only[Nat.zero_mul,iN]at v1;rw[aj,WE,v1];exact v2.mono λf o u hu=>by have:f≠b:=az;simp[M',this,hu]
  rw[dT ho,d];exact c9
 .let M1:Mem:=λb o=>(s.M b o).or (jo ch b o);have m1:∀b o v,s.M b o=O v->M1 b o=O v:=λb o v d=>by grind
  have m2:∀b o v,M1 b o=O v->b∈L.bs∨s.M b o=O v:=λb o v d=>by
   cases h:s.M b o with
   |some v'=>grind
   |none=>grind
  have m3:∀b o v,M1 b o=O v->s.w.cell? ⟨b,o,af⟩=O v:=λb o v d=>by
   cases h:s.M b o with
   |some v'=>simp only[M1,h,z9]at d;cases d;exact hh.mem b o v h
   |none=>grind
  have hd:=hh.mV;have A:aH (U.map λ_=>.cg) {s with M:=M1}:=⟨m3,hd.len,λl B L hB hL=>by have:=b9 hB;simp at this;rw[<-this.2];trivial,hd.gY,hd.lt,hd.own⟩
  have r2:Rd ({s with M:=M1}:St).M (.slice ad n cap) (.sl ae ie.size n es):=by rw[hs];exact r1.mono λb o v d=>by have:=h6 b (m b o v d).1 o;simp[M1,this,d]
  obtain⟨vs,zs,On,D,G,f3,f4,f5⟩:=kE (P:=P) (s:={s with M:=M1}) (ty:=o.type) hi ak Q R h.elem A r2 (K.mono m1) aq hb h.bytes;have f6:=ll (P:=P) (s:={s with M:=M1}) (ty:=o.type) hi ak Q R h.elem A r2 (K.mono m1) aq hb h.bytes;have hgm:=xU A E vs zs;have hgo:=xX A vs;let w':aB:=s.w.drew.alloc (.cells (vs++zs).toArray E);have Wb:w'.heap.size=s.w.heap.size+1:=ZA
  obtain⟨t1,S⟩:=hh.iA (M':=λb o=>if b=s.w.heap.size then vs[o]? else M1 b o) (w':=w') (B':=.cg) (L':=⟨L.v,[]⟩) hl hL rfl aq (λb hb _=>dF s.w.drew _ hb) (λb hb hn o=>by
    have:b≠s.w.heap.size:=aq;simp only[this,cC];cases h:jo ch b o with
    |none=>grind
    |some v=>exact absurd (m b o v h).1 hn)
   (λb o v d=>hgo b o v (m1 b o v d)) hgm ay aK aK aK an
  refine⟨(),.value (.slice (O ⟨s.w.heap.size,0,af⟩) (n+1) On),_,_,?_,.inl aK,?_,t1,S,?_⟩
  .rw[dT ho,d];simp only[cf,dN];exact wj
  .rw[hs]at D;exact Rd.qt (D.mono hgo) (b:=s.w.heap.size) (off:=0) fe G f3 ay (λp u hp=>by exact c9)
  rw[dT ho,d];exact gD (f6.afa hLm m1 m2)
def I.F5(h:oc P o x y E ie)(j:ie.size=1){d:Nat}(m:o.dst=O d)(k:o.guard=af)(b:g7 N o.dst=W){v0:ah}(g:ck J x=b7 (.val v0))(hl:U[l]?=O (.cJ (PM (OW v0 n es))))(a:F4 n es){es':Nat->List C}(f:ck J y=b7 (.sl tx 1 1 es'))(hb:(n+1)*ie.bytes<=140737488355328)(kk:I X N Qf (.ops all rest::F) .normal ((d,b7 (.sl ae 1 (n+1) (dv n es es')))::J) (U.set l .cg)):I X N Qf (.ops all (o::rest)::F) .normal J U :=
 I.Fi (ι:=Unit) (λ_=>b7 (.sl ae 1 (n+1) (dv n es es'))) (λ_=>U.set l .cg) k b (.F5 h j g hl a f hb) λ_=>by exact wj
def oz.abW{J':Fr}{x:ι->D}{f:ι->List bq}(h:∀s a,c7 N U s J a->aH U s->∃s':St,s'.w=s.w/\c7 N U' s' J' a/\aH U' s'/\eO U s U' s')(k:oz X N all o J' U' x f):oz X N all o J U x f:=by intro s a g hh b kk cs S i rest hb hi hK;obtain⟨s',l,e,d,st⟩:=h s a g hh;have c:=st.pC hh;exact .c8 (.of hh d l c) (k s' a e d b kk cs S i rest hb hi λj v s2 r1 r2 r3=>hK j v s2 r1 r2 (c.trans r3))
def oz.F3{x:ι->D}{p:ι->List bq}(l t q:Nat){K:Mem->Prop}(E:av)(k:Nat){cs:List A}{cl:C}(hl:eH l U=O (.cJ (PM K)))(H:look J t=.e (.agg cs))(ab:eH q cs=O (.c (.val v)))(S:∀M,K M->Rd M v cl)(h:oz X N all o ((t,.e (.agg (cs.set q (.c cl))))::J) (U.set l (.cJ (jS E k (.nil af) 0 []))) x p):oz X N all o J U x p:=by
 refine oz.abW (λs a j hh=>?_) h;have hl:=cD hl;have aa:=cD ab;have g:l<V s.β:=nh;have n:=bD g;generalize s.β[l]=L at n;obtain⟨ch,⟨h1,h2,z⟩,AK,h5,B⟩:=hh.box l _ L hl n;let M':Mem:=λb o=>(s.M b o).or (jo ch b o);have f:∀b o v,jo ch b o=O v->b∈L.bs/\s.w.cell? ⟨b,o,af⟩=O v:=λb o v d=>by
  cases h:ch b with
  |none=>simp[jo,h]at d
  |some x =>
   obtain⟨cs,E,rfl⟩:=h2 b x h;have hw:=AK b _ h;simp only[jo,h]at d;exact⟨(h5 b).2 kT,by simpa[a9,hw]using d⟩
 have ak:∀b o v,s.M b o=O v->M' b o=O v:=λb o v d=>by grind
 have Q:∀b,b∉L.bs->∀o,M' b o=s.M b o:=λb hb o=>by
  cases h:jo ch b o with
  |none=>grind
  |some v=>grind
 have T:∀b o v,M' b o=O v->s.w.cell? ⟨b,o,af⟩=O v:=λb o v d=>by
  cases h:s.M b o with
  |some v'=>simp only[M',h,z9]at d;cases d;exact hh.mem b o v h
  |none=>grind
 have Z:=(S _ z).mono (M':=M') λb o v d=>by have:=B b (f b o v d).1 o;simp[M',this,d]
 obtain⟨R,q2⟩:=hh.iA (M':=M') (w':=s.w) (B':=.cJ (jS E k (.nil af) 0 [])) (L':=⟨.nilFunc,[]⟩) hl n h1.symm (bm _) (λ_ _ _=>rfl) (λb _ hb o=>Q b hb o) ak T ay rfl rfl rfl
  ⟨λ_=>af,⟨rfl,by simp,by simp,rfl,rfl⟩,by simp,by simp,by simp⟩
 refine⟨⟨s.β.set l ⟨.nilFunc,[]⟩,M',s.w,s.own⟩,aK,⟨j.size,j.defers.imp λ_ h1=>h1.mono q2.ext,λu=>?_⟩,R,q2⟩;have m:=(j.ff u).mono q2.ext hh.len;simp only[look];cases hb:aC t u with
 |false=>exact m
 |true =>
  have e:=dH hb;subst e;rw[H]at m;obtain⟨G,w1,w2⟩:=m;obtain⟨y,Y,y2⟩:=w2.get aa;refine⟨G,w1,fD.set w2 Y ?_⟩;have e:=Rd.fM y2;subst e;exact Z
end
def AY(l k n:Nat)(es:Nat->List C):A->A×List Prop
 |.bp l' (.sl g k' o m)=>match aC l' l with
  |true=>match aC k' k with
   |true=>(.c (.sl ae k m (qT o es)),[g=n,o+m<=n])
   |false=>(.bp l' (.sl g k' o m),[])
  |false=>(.bp l' (.sl g k' o m),[])
 |a=>(a,[])
def rY(l k n:Nat)(es:Nat->List C):List A->List A×List Prop
 |[]=>([],[])
 |a::r=>match AY l k n es a with
  |(a',p)=>match rY l k n es r with
   |(r',q)=>(a'::r',mH p q)
def KC(l k n:Nat)(es:Nat->List C):E1->E1×List Prop
 |.bX a=>match AY l k n es a with|(a',p)=>(.bX a',p)
 |.agg cs=>match rY l k n es cs with|(b,p)=>(.agg b,p)
def KD(l k n:Nat)(es:Nat->List C):D->D×List Prop
 |.e x=>match KC l k n es x with|(a,p)=>(.e a,p)
 |d=>(d,[])
def AZ(l k n:Nat)(es:Nat->List C):Fr->Fr×List Prop
 |[]=>([],[])
 |(t,d)::r=>match KD l k n es d with
  |(a,p)=>match AZ l k n es r with
   |(r',q)=>((t,a)::r',mH p q)
def jT(l k n:Nat)(es:Nat->List C):Nat->List bq->List bq×List Prop
 |_,[]=>([],[])
 |i,b::r=>match jT l k n es (i+1) r with
  |(r',q)=>match aC i l with
   |true=>(.cg::r',q)
   |false=>match b with
    |.cells E cs=>match rY l k n es cs with|(a,p)=>(.cells E a::r',mH p q)
    |b=>(b::r',q)
section
variable {s2:St}{E k:Nat}
structure lF(U:List bq)(s:St)(l k n:Nat)(es:Nat->List C)(U':List bq)(s2:St):Prop where
 keep:∀v a,jh U s v a->jh U' s2 v a
 RX:∀v k' o m,jh U s v (.bp l (.sl n k' o m))->k'=k->o+m<=n->Rd s2.M v (.sl ae k m (qT o es))
def lF.a(h:lF U s l k n es U' s2){v:ah}{a:A}(b:aA (AY l k n es a).2)(r:jh U s v a):jh U' s2 v (AY l k n es a).1:=by
 unfold AY at b⊢;split
 .rename_i l' g k' o m;split
  .rename_i e1;split
   .rename_i e2;simp only[e1,e2]at b;have e1:=dH e1;have e2:=dH e2;subst e1;obtain⟨rfl,h2⟩:g=n/\o+m<=n:=b;exact h.RX v _ _ _ r e2 h2
   exact h.keep v _ r
  exact h.keep v _ r
 exact h.keep v _ r
def lF.ls(h:lF U s l k n es U' s2):∀{vs:List ah}{cs:List A},aA (rY l k n es cs).2->fD U s vs cs->fD U' s2 vs (rY l k n es cs).1
 |[],[],_,_=>trivial
 |[],_::_,_,r=>r.elim
 |_::_,[],_,r=>r.elim
 |v::vs,c::cs,b,r=>by simp only[rY]at b⊢;rw[aA.eu]at b;exact⟨h.a b.1 r.1,h.ls b.2 r.2⟩
def lF.e(h:lF U s l k n es U' s2){x:E1}(b:aA (KC l k n es x).2)(r:qF U s v x):qF U' s2 v (KC l k n es x).1:=by
 cases x with
 |bX a=>exact h.a b r
 |agg cs=>obtain⟨vs,c,d⟩:=r;exact⟨vs,c,h.ls b d⟩
def lF.d(h:lF U s l k n es U' s2)(hl:V s.β=V U)(a:sM U s U' s2){v:ah}{d:D}(b:aA (KD l k n es d).2)(r:ey U s v d):ey U' s2 v (KD l k n es d).1:=by
 cases d with
 |e x=>exact h.e b r
 |gI xs=>exact r.mono a hl
 |any=>trivial
def lF.f(h:lF U s l k n es U' s2)(hl:V s.β=V U)(c:sM U s U' s2):∀{J:Fr}{t:Nat}{v:ah},aA (AZ l k n es J).2->ey U s v (look J t)->ey U' s2 v (look (AZ l k n es J).1 t)
 |[],_,_,_,_=>trivial
 |(u,d)::r,t,v,b,a=>by
  simp only[AZ]at b⊢;rw[aA.eu]at b;simp only[look]at a⊢;cases hb:aC u t with
  |true=>rw[hb]at a;exact h.d hl c b.1 a
  |false=>rw[hb]at a;exact h.f hl c b.2 a
theorem vC:∀{U:List bq}{i j:Nat},(jT l k n es i U).1[j]?=match U[j]? with
  |none=>af
  |some b=>O (match aC (i+j) l with|true=>.cg|false=>match b with|.cells E cs=>.cells E (rY l k n es cs).1|b=>b)
 |[],i,j=>by simp[jT]
 |b::r,i,0=>by simp only[jT,iN,lH];grind
 |b::r,i,j+1=>by have a:=vC (U:=r) (i:=i+1) (j:=j);have e:i+1+j=i+(j+1):=aq;rw[e]at a;simp only[jT,nS];grind
def A0:∀{U:List bq}{i j:Nat}{E:av}{cs:List A},aA (jT l k n es i U).2->U[j]?=O (.cells E cs)->i+j≠l->aA (rY l k n es cs).2
 |[],i,j,_,_,_,a,_=>by grind
 |b::r,i,0,E,cs,c,a,d=>by simp at a;subst a;simp only[jT]at c;grind[Nat.eq_of_beq_eq_true,aA.eu]
 |b::r,i,j+1,E,cs,c,a,d=>by simp at a;refine A0 (U:=r) (i:=i+1) (j:=j) ?_ a aq;simp only[jT]at c;grind[aA.eu]
theorem vD:∀{U:List bq}{i:Nat},(jT l k n es i U).1.length=V U
 |[],_=>rfl
 |b::r,i=>by simp only[jT];have a:=vD (U:=r) (i:=i+1);grind
def aH.ny(hh:aH U s)(hB:U[l]?=O (.eX E k n es))(hq:aA (jT l k n es 0 U).2):
  ∃s2:St,s2.w=s.w/\aH (jT l k n es 0 U).1 s2/\eO U s (jT l k n es 0 U).1 s2/\lF U s l k n es (jT l k n es 0 U).1 s2:=by
 have G:l<V U:=(cO.1 hB).1;have R:s.β[l]?=O (s.β[l]'(by rw[hh.len];exact G)):=bD _;generalize s.β[l]'az=L at R;have AK:=hh.box _ _ L hB R;obtain⟨M',m1,m2,m3,m4⟩:∃M':Mem,(∀b o v,s.M b o=O v->M' b o=O v)/\(∀b,b∉L.bs->∀o,M' b o=s.M b o)/\(∀b o v,M' b o=O v->s.w.cell? ⟨b,o,af⟩=O v) /\
   (∀v k' o m,jh U s v (.bp l (.sl n k' o m))->k'=k->o+m<=n->Rd M' v (.sl ae k m (qT o es))):=by
  rcases AK with⟨rfl,rfl⟩|⟨b,c0,vs,zs,rfl,hw,Kt,hnc,ZE,hF,hM⟩
  .refine⟨s.M,λ_ _ _ h=>h,λ_ _ _=>rfl,hh.mem,λv k' o m r e y=>?_⟩;obtain⟨lv,⟨a,a0,cap,c0,z,h1,h2,D,K,Q⟩,_,ab⟩:=r;grind[Rd.kF]
  let M':Mem:=λq o=>if q=b then vs[o]? else s.M q o;have Z:∀q o v,s.M q o=O v->M' q o=O v:=λq o v z=>by grind
  refine⟨M',Z,λq qq o=>az,λq o v z=>?_,λv k' o m r e y=>?_⟩
  .by_cases e:q=b
   .subst e;simp only[M',cv]at z;simp only[a9,hw];grind
   simp only[M',e,cC]at z;exact hh.mem q o v z
  subst e;obtain⟨lv,⟨a,a0,cap,c1,z,h1,h2,D,K,Q⟩,_,ab⟩:=r;obtain⟨L',f,aa⟩:=(ab _ _ _ _ hB).2 rfl;rw[R]at f;cases f;rw[K]at aa;cases aa;rw[z];have g:∀i,i<m->∀j c,(qT o es i)[j]?=O c->∃u,vs[(o+i)*k'+j]?=O u/\Rd s.M u c:=λi hi j c hj=>by rw[Ag]at hj;exact hF.rd (o+i) aq j c hj
  refine .sl b (o*k') (λi j=>(vs[(o+i)*k'+j]?).getD ai) h1 aq ay (λi hi=>by rw[Ag];exact hF.jy _ aq) (λhm=>az) (λi hi j c hj=>az) (λi hi j c hj=>?_);obtain⟨u,u1,u2⟩:=g i hi j c hj;rw[u1];exact u2.mono Z
 obtain⟨C,q2⟩:=hh.iA (M':=M') (w':=s.w) (B':=.cg) (L':=⟨L.v,[]⟩) hB R an (bm _) (λ_ _ _=>rfl) (λb _ hb o=>m2 b hb o) m1 m3 ay rfl rfl rfl an;let s2:St:=⟨s.β.set l ⟨L.v,[]⟩,M',s.w,s.own⟩
 have g:∀i B,U[i]?=O B->i≠l->(jT l k n es 0 U).1[i]?=O (match B with|.cells E cs=>.cells E (rY l k n es cs).1|b=>b):=λi B hi Hg=>by grind[vC,Nat.eq_of_beq_eq_true]
 have F:(jT l k n es 0 U).1[l]?=O .cg:=by
  rw[vC,hB];have:aC (0+l) l=W:=by rw[b8];exact AB l
  grind
 have A1:eO (U.set l .cg) s2 (jT l k n es 0 U).1 s2:=by
  refine⟨bm _,λ_ _ _=>rfl,λ_ _ _ h=>h,λ_ _ _ _=>rfl,λL' f b hb=>.inr ⟨L',f,hb⟩,λi B L' hi f=>?_,aK,aK,aK,aK⟩;by_cases e:i=l
  .subst e;rw[js G]at hi;cases hi;exact⟨.cg,L',F,f,aK⟩
  rw[mD (λh=>e h.symm)]at hi;refine⟨_,L',g i B hi e,f,?_⟩;cases B<;>first|exact ji.refl _ _|rfl
 have st:=q2.trans A1;have Y:lF U s l k n es (jT l k n es 0 U).1 s2:=⟨λv a r=>r.mono st.ext hh.len,λv k' o m r e y=>m4 v k' o m r e y⟩
 refine⟨s2,aK,⟨C.mem,by rw[vD,<-hh.len];grind,λi B L' hi f=>?_,C.gY,C.lt,C.own⟩,st,Y⟩;by_cases e:i=l
 .subst e;rw[F]at hi;cases hi;trivial
 have A:i<V U:=by grind[vD]
 have x:=bD A;have S:s.β[i]?=O L':=az;have T:=hh.box i _ L' x S;have p:=C.box i _ L' (by rw[mD (λh=>e h.symm)];exact x) f;have d:=g i _ x e;rw[hi]at d;have d:=ou d;generalize hBe:U[i]=B0 at *;cases B0 with
 |cells E0 cs =>
  subst d;obtain⟨b,vs,h1,h2,D,Q⟩:=T;obtain⟨q,vs',H,h2',_,ak⟩:=p;rw[h1]at H;cases H;exact⟨b,vs,h1,h2,Y.ls (A0 hq x aq) D,ak⟩
 |dk=>subst d;exact p
 |cJ=>subst d;exact p
 |cg=>subst d;trivial
 |loop N J r =>
  subst d;obtain⟨l1,tmps,fn,df,h1,h2,D,Q,h5⟩:=p;exact⟨l1,tmps,fn,df,h1,h2,D,λt=>(Q t).mono A1.ext C.len,h5⟩
 |vr=>subst d;exact p
 |eX=>subst d;exact p
end
section
variable {X:Cx P}{J':Fr}
def I.ny(l:Nat){E k n:Nat}{es:Nat->List C}{ps qs:List Prop}(hl:eH l U=O (.eX E k n es))(i:AZ l k n es J=(J',ps))(e:jT l k n es 0 U=(U',qs))(m:aA ps)(j:aA qs)(kk:I X N Qf (.code c::K) .normal J' U'):I X N Qf (.code c::K) .normal J U:=by refine I.c8 (λs a d hh=>?_) kk;obtain⟨s2,h1,h2,b,g⟩:=hh.ny (cD hl) az;rw[e]at h2 b g;refine⟨s2,h1,⟨d.size,d.defers.imp λ_ h=>h.mono b.ext,λt=>?_⟩,h2,b⟩;have:=g.f hh.len b.ext (J:=J) (t:=t) az (d.ff t);grind
end
section
variable {X:Cx P}{d:List It}
def I.abU(l i j:Nat)(K:ah->Mem->Prop)(Y:∀a M,K (.slice a 0 0) M){E0:av}{k k0:Nat}{cs:List A}{Q:Nat->List C}(hli:l≠i)(hl:eH l U=O (.cJ (jS E k (.nil af) 0 [])))(hi:eH i U=O (.cells E0 cs))(hj:eH j cs=O (.c (.sl W k0 0 Q)))(kk:∀v,I X N Qf (.code c::d) .normal J ((U.set l (.cJ (PM (K v)))).set i (.cells E0 (cs.set j (.c (.val v)))))):I X N Qf (.code c::d) .normal J U:=by
 refine AW.x0 (ι:=ah) (J':=λ_=>J) (U':=λv=>(U.set l (.cJ (PM (K v)))).set i (.cells E0 (cs.set j (.c (.val v))))) (λs a ab hh=>?_) kk;have hl:=cD hl;have hi:=cD hi;have hJ:=cD hj;have q:i<V s.β:=nh;have z:=bD q;generalize s.β[i]=Li at z;obtain⟨b0,vs0,hLb,R,G,_⟩:=hh.box i _ Li hi z;obtain⟨v,Ws,T⟩:=G.get hJ;obtain⟨a0,cap,vs1,rfl,n1,n2,n3,_,_⟩:=(show Rd s.M v (.sl W k0 0 Q)from T).qp;obtain rfl:=n3 rfl;have hK:=Y a0;have F:l<V s.β:=nh;have S:=bD F;generalize s.β[l]=L at S;obtain⟨ch,hs,h4,h5,h6⟩:=hh.box l _ L hl S;obtain⟨y,q2⟩:=hh.iA (M':=s.M) (w':=s.w) (B':=.cJ (PM (K (.slice a0 0 0)))) (L':=L) hl S rfl (bm _) (λ_ _ _=>rfl) (λ_ _ _ _=>rfl) (λ_ _ _ h=>h) hh.mem (λb hb=>⟨.inl hb,hh.lt L (b9 S) b hb⟩) rfl rfl rfl
  ⟨ch,PM.start hK _ _ hs,h4,h5,h6⟩
 have o:(U.set l (.cJ (PM (K (.slice a0 0 0)))))[i]?=O (.cells E0 cs):=az;generalize hs1:(⟨s.β.set l L,s.M,s.w,s.own⟩:St)=s1 at y q2;have hiβ:i<V s1.β:=az;have r:s1.β[i]?=O Li:=az;obtain⟨b,vs,ak,t,Z,hM⟩:=y.box i _ Li o r;have AK:s1.β.set i Li=s1.β:=tf;have hvv:vs[j]?=O (.slice a0 0 0):=az
 obtain⟨t1,t2⟩:=y.iA (M':=s1.M) (w':=s1.w) (B':=.cells E0 (cs.set j (.c (.val (.slice a0 0 0))))) (L':=Li) o r rfl (bm _) (λ_ _ _=>rfl) (λ_ _ _ _=>rfl) (λ_ _ _ h=>h) y.mem (λb hb=>⟨.inl hb,y.lt Li (b9 r) b hb⟩) rfl rfl rfl (by
   rw[AK];have ex:sM (U.set l (.cJ (PM (K (.slice a0 0 0))))) s1 ((U.set l (.cJ (PM (K (.slice a0 0 0))))).set i (.cells E0 (cs.set j (.c (.val (.slice a0 0 0)))))) s1:=by
    refine⟨λ_ _ _ h=>h,λp B L aa H=>?_⟩;by_cases e:i=p
    .subst e;rw[o]at aa;cases aa;exact⟨_,L,js az,H,aK⟩
    exact⟨B,L,by grind,H,.refl _ _⟩
   exact⟨b,vs,ak,t,fD.set (Z.mono ex y.len) hvv (Rd.val aK),hM⟩)
 have st:=q2.trans t2;exact⟨.slice a0 0 0,_,by grind,⟨ab.size,ab.defers.imp λ_ h1=>h1.mono st.ext,λu=>(ab.ff u).mono st.ext hh.len⟩,t1,st⟩
end
section
variable {X:Cx P}{x:Option ι->Nat->D}{s:Option ι->Bool->Bool->Bool->List bq}{m n g f:Nat}
end
def Rd.aiY{t:Bool}{k:Nat}(h:Rd M v (.sl t k n es)):∃a cap b off,v=.slice a n cap/\n<=cap/\cap<=9223372036854775807/\(0<n->a=O ⟨b,off,af⟩)/\(∀i,i<n->V (es i)=k)/\∀i,i<n->∀j c,(es i)[j]?=O c->∃u,M b (off+i*k+j)=O u/\Rd M u c:=by
 cases h with
 |@sl a _ cap _ _ _ b off f e hb ht hk ha hm hr=>exact⟨a,cap,b,off,rfl,e,hb,ha,hk,λi hi j c hj=>⟨_,hm i hi j c hj,hr i hi j c hj⟩⟩
def Rd.aiZ{a:Option Addr}{cap k:Nat}(h1:n<=cap)(h2:cap<=9223372036854775807)(e:0<n->a=O ⟨b,off,af⟩)(f:∀i,i<n->V (es i)=k)(g:∀i,i<n->∀j c,(es i)[j]?=O c->∃u,M b (off+i*k+j)=O u/\Rd M u c):Rd M (.slice a n cap) (.sl ae k n es):=by refine .sl b off (λi j=>(M b (off+i*k+j)).getD ai) h1 h2 (λh=>by cases h) f e (λi hi j c hj=>az) λi hi j c hj=>?_;grind
section
variable {X:Cx P}{d:List It}
def I.ae9{b:List It}(J':ι->Fr)(U':ι->List bq)(h:(∀(i:ι)(a:Fr)(ps:List Prop),rf a (J' i)=O ps->aA ps->I X N Qf (.code c::b) .normal a (U' i))->I X N Qf K .normal J U)(k:∀i,I X N Qf (.code c::b) .normal (J' i) (U' i)):I X N Qf K .normal J U :=
 h λi _ _ h1 h2=>AW.le (k i) (dJ h1 h2)
def lD.agg{ds:List D}(p q AK:Nat){cs:List A}{u:ah}{k:Nat}(H:ds[p]?=O (.e (.agg cs)))(E:cs[q]?=O (.c (.val u)))(hl:ln U AK u k n es):lD U ds (ds.set p (.e (.agg (cs.set q (.c (.sl ae k n es)))))):=by
 intro s vs hh hr;obtain⟨L,o,r,t,z,C,F,y⟩:=hl s hh;refine⟨λb=>b∈L.bs,o,λb hb=>⟨L,b9 r,hb⟩,t,z,C,F,?_⟩;have e1:sM U s U {s with M:=o}:=⟨t,λl B L hB r=>⟨B,L,hB,r,.refl _ _⟩⟩
 have w:=hr.mono e1 hh.len;obtain⟨G,j⟩:=cU.get w;have h:p<V vs:=az;have a:=j p;rw[H,bD h]at a;obtain⟨x,i,g⟩:=a;obtain⟨v,f,m⟩:=g.get E;rw[Rd.fM (show Rd o v (.val u)from m)]at f;refine cU.RO w (bD h) ⟨x,i,fD.set g f y⟩
end
def yB(f:ah)(l:List Int):ah->(Nat->Option Obj)->Prop:=λv a=>v=f/\∃r es c,f=.map (O r)/\(∀b,a b=if b=r then O (.map es c)else af)/\MapKept.Stamped es c /\
 (∀e∈es.toList,∃n,e.key=.int .i64 n/\e.val=.bool W/\cd .i64 n)/\∀n,n∈l↔∃e∈es.toList,e.key=.int .i64 n
structure af4(U:List bq)(s:St)(b:Nat)(f:ah)(l:List Int)(L:Loc)(r:Nat)(es:Array MapEntry)(c:Nat):Prop where
 Ae:s.β[b]?=O L
 v:L.v=f
 m:f=.map (O r)
 st:MapKept.Stamped es c
 kv:∀e∈es.toList,∃n,e.key=.int .i64 n/\e.val=.bool W/\cd .i64 n
 mem:∀n,n∈l↔∃e∈es.toList,e.key=.int .i64 n
 heap:s.w.heap[r]?=O (.map es c)
 bs:∀b,b∈L.bs↔b=r
def yB.open{f:ah}{l:List Int}(hh:aH U s)(hl:U[b]?=O (.cJ (yB f l))):∃L r es c,af4 U s b f l L r es c:=by have hb:b<V s.β:=nh;obtain⟨ch,⟨h1,r,es,c,h2,h,e,d,a⟩,g,i,_⟩:=hh.box b _ _ hl (bD hb);exact⟨_,r,es,c,bD hb,h1,h2,e,d,a,g r _ az,λb=>by grind⟩
section
variable {T p q:av}{z:aG}{f:ah}{l:List Int}{n:Int}
def af5{es:Array MapEntry}(h:∀e∈es.toList,∃n,e.key=.int .i64 n/\e.val=.bool W/\cd .i64 n):∀e∈es.toList,MapKept.IsKey (.int .i64) e.key:=λe a=>by obtain⟨n,b,_⟩:=h e a;exact wj
def Wd{f:ah}{d:D}(h:ey U s v d)(e:d=jA f):v=f:=by subst e;exact Rd.fM h
def rdI{n:Int}{d:D}(h:ey U s v d)(e:d=b7 (.int .i64 n)):v=.int .i64 n/\cd .i64 n:=by subst e;have:=gG h;generalize v=w at this;cases this;exact c9
def bU.Yc(h:o.op=.lookup T x y ae)(hT:P.underlying T=O (.map p q))(hk:P.underlying p=O (.int .i64))(G:∀w,(zeroValue q).run P w=.ok (.bool ae) w)(hl:U[b]?=O (.cJ (yB f l)))(E:η x=jA f)(C:η y=b7 (.int .i64 n)):bU P o η U (b7 (.bool (l.contains n))) U:=by
 refine bU.qv λs F hh hr=>?_;obtain⟨L,r,es,c,g⟩:=yB.open hh hl;have ex:F x=.map (O r):=(Wd (hr x) E).trans g.m;obtain⟨A,J⟩:=rdI (hr y) C;obtain⟨a,u⟩:=DX (d:=.int .i64) (k:=.int .i64 n) rfl (af5 g.kv);have H:pF s ⟨.obj r,ae,ae⟩:=o0 (b9 g.Ae) ((g.bs r).2 Z);have key:∃v:Bool,(Instr.lookup T (.map (O r)) (.int .i64 n) ae).run P s.w=.ok (.bool v) s.w/\(Instr.lookup T (.map (O r)) (.int .i64 n) ae).events P s.w #[]=#[⟨.obj r,ae,ae⟩]/\v=l.contains n:=by
  cases a with
  |none =>
   obtain⟨i,t⟩:=y7 (ok:=ae) hT hk g.heap u (λ_=>G s.w)
   exact⟨ae,i,t,by
    symm;rw[<-pL,wA,g.mem]
    rintro⟨e,D,hk⟩;exact u.no Z e D hk⟩
  |some jv =>
   obtain⟨j,v⟩:=jv;obtain⟨i,t⟩:=y7 (ok:=ae) (z:=ai) hT hk g.heap u (λh=>by cases h);obtain⟨e,h1,h2,AK⟩:=u.yes j v rfl;have hm:e∈es.toList:=az;obtain⟨_,_,K,_⟩:=g.kv e hm;exact⟨W,i.trans (show Result.ok v s.w=_ by grind),t,by symm;rw[wA,g.mem];grind⟩
 obtain⟨v,i,t,B⟩:=key;refine⟨.bool v,?_,by rw[<-B];exact Rd.bool,?_⟩
 .simp only[ar,h,ex,A,cf,i,cA,dN]
 simp only[ar,h,ex,A,aM,i,t,aP,bG];exact .bX H
def bU.acQ(h:o.op=.mapUpdate T x y z)(hT:P.underlying T=O (.map p q))(hk:P.underlying p=O (.int .i64))(hl:U[b]?=O (.cJ (yB f l)))(J:η x=jA f)(R:η y=b7 (.int .i64 n))(N:η z=b7 (.bool W)):bU P o η U .any (U.set b (.cJ (yB f (l++[n])))):=by
 intro s D hh hr;obtain⟨L,r,es,c,g⟩:=yB.open hh hl;have ex:D x=.map (O r):=(Wd (hr x) J).trans g.m;obtain⟨E,ab⟩:=rdI (hr y) R;have G:D z=.bool W:=by have:=hr z;rw[N]at this;have:=gG this;generalize D z=w at this;cases this;rfl
 obtain⟨a,B⟩:=DX (d:=.int .i64) (k:=.int .i64 n) rfl (af5 g.kv);have F:∀w,pF s ⟨.obj r,w,ae⟩:=λw=>o0 (b9 g.Ae) ((g.bs r).2 Z);have AK:r<s.w.heap.size:=(gN.1 g.heap).1;have key:∃es' c',(Instr.mapUpdate T (.map (O r)) (.int .i64 n) (.bool W)).run P s.w=.ok () {s.w with heap:=s.w.heap.setIfInBounds r (.map es' c')}/\(Instr.mapUpdate T (.map (O r)) (.int .i64 n) (.bool W)).events P s.w #[]=#[⟨.obj r,ae,ae⟩,⟨.obj r,W,ae⟩] /\
   MapKept.Stamped es' c'/\(∀e∈es'.toList,∃n,e.key=.int .i64 n/\e.val=.bool W/\cd .i64 n)/\∀m,m∈l++[n]↔∃e∈es'.toList,e.key=.int .i64 m:=by
  cases a with
  |none =>
   obtain⟨t,u⟩:=y8 (x:=.bool W) hT hk g.heap B;refine⟨_,_,t,u,MapKept.stamped_push g.st (B.no Z),λe A=>?_,λm=>?_⟩
   .rw[Array.toList_push,eZ]at A;rcases A with A|A
    .exact g.kv e A
    grind
   rw[eZ,g.mem,Array.toList_push];constructor
   .rintro(⟨e,h1,h2⟩|h1)
    .grind
    simp_all
   grind
  |some jv =>
   obtain⟨j,v⟩:=jv;obtain⟨e,h1,h2,ak⟩:=B.yes j v rfl;have hm:e∈es.toList:=az;obtain⟨_,_,K,_⟩:=g.kv e hm;have M:es.modify j (λe=>{key:=.int .i64 n,val:=.bool W,born:=e.born})=es:=by
    apply Array.ext_getElem?;intro i;rw[E3];split
    .rename_i hi;subst hi;rw[h1,<-h2,<-K];rfl
    simp
   obtain⟨t,u⟩:=y8 (x:=.bool W) hT hk g.heap B;refine⟨es,c,t.trans (show Result.ok () {s.w with heap:=s.w.heap.setIfInBounds r (.map (es.modify j λe=>{key:=.int .i64 n,val:=.bool W,born:=e.born}) c)}=_ by grind),u,g.st,g.kv,λm=>?_⟩;rw[eZ,g.mem];constructor
   .rintro(H|H)
    .exact H
    grind
   grind
 obtain⟨es',c',t,u,Q,S,aa⟩:=key;have C:=hh.kO (H':=yB f (l++[n])) (L':=L) (w':={s.w with heap:=s.w.heap.setIfInBounds r (.map es' c')}) hl g.Ae rfl ay (λb _ hb=>by show(s.w.heap.setIfInBounds r _)[b]?=_;rw[rL Rb]) (λb hb=>.inl hb)
  ⟨λb=>if b=r then O (.map es' c')else af,⟨g.v,r,es',c',g.m,λ_=>rfl,Q,S,aa⟩,λb Y hb=>by grind,λb=>by rw[g.bs];by_cases e:b=r<;>simp[e]⟩ Z Z Z
 have e1:s.β.set b L=s.β:=by
  apply tb;intro i;by_cases e:b=i
  .subst e;rw[js (cO.1 g.Ae).1,g.Ae]
  grind
 rw[e1]at C;refine⟨.skip,_,?_,Z,C.1,C.2,?_⟩
 .simp only[ar,h,ex,E,G,cf,t,cA,dN]
 simp only[ar,h,ex,E,G,aM,t,u,aP,bG];exact .RY (F _) (F _)
end
section
variable {X:Cx P}{T:av}
def I.acR(h:o.op=.makeMap T af)(i:o.guard=af)(d:g7 N o.dst=W)(k:∀f,I X N Qf (.ops all rest::K) .normal (lU o.dst (jA f) J) (U++[.cJ (yB f [])])):I X N Qf (.ops all (o::rest)::K) .normal J U:=by
 refine I.Fi (ι:=ah) (λf=>jA f) (λf=>U++[.cJ (yB f [])]) i d (λs a u hh=>?_) k;let w':aB:={s.w with heap:=s.w.heap.push (.map #[] 0)}
 have c:w'.heap[s.w.heap.size]?=O (.map #[] 0):=az;have r:w'.heap.size=s.w.heap.size+1:=az;obtain⟨g,g2⟩:=hh.C4 (M':=s.M) (w':=w') az (λb hb=>by grind) (λ_ _ _=>rfl) (λb hb o v hm=>by have:=hh.block hm;omega) rfl rfl rfl;obtain⟨m,j⟩:=g.jQ g2 rfl hh (B:=.cJ (yB (.map (O s.w.heap.size)) [])) (L:=⟨.map (O s.w.heap.size),[s.w.heap.size]⟩)
  ⟨λb=>if b=s.w.heap.size then O (.map #[] 0)else af,⟨rfl,_,#[],0,rfl,λ_=>rfl,MapKept.stamped_empty 0,λe t=>by grind,λn=>by simp⟩,λb o hb=>by
   grind,λb=>by by_cases e:b=s.w.heap.size<;>simp[e],λb hb o=>by
   simp at hb;subst hb;show s.M _ _=af;cases hm:s.M s.w.heap.size o with
   |none=>rfl
   |some v=>have:=hh.block hm;omega⟩ (λb hb=>by grind)
 refine⟨.map (O s.w.heap.size),.value (.map (O s.w.heap.size)),_,.map (O s.w.heap.size),?_,.inl Z,Rd.val Z,m,j,?_⟩
 .simp[ar,h,Instr.makeMap,run_newObj,w']
 simp[ar,h,Instr.makeMap];exact .nil
end
def fy(g:Nat)(E:av)(v:ah):ah->(Nat->Option Obj)->Prop:=λu a=>u=.pointer (O ⟨g,0,af⟩)/\a g=O (.cells #[v] E (0,0))/\∀b,b≠g->a b=af
section
variable {X:Cx P}
def OA.SI(hT:dA P T){t g:Nat}(l:Nat){i:TI}(D:u7 all J o=W)(ho:o.op=.load t (.global g))(hl:eH l U=O (.cJ (fy g E v)))(hi:bY T t=O i)(K:dK v=W)(F:nW i [.c (.val v)]=O (.bX (.c (.val v)))):
  OA X N all o J U (b7 (.val v)) U:=by
 intro s a f hh b k cs S q rest hb hq hK;refine vH hb hq (iC D _ _ _ f) λh y=>?_;have d:=hh.rely y;have hB:=cD hl;have z:l<V h.β:=by rw[d.len];grind
 have C:=bD z;generalize h.β[l]=L at C;obtain⟨ch,⟨h1,h2,Q⟩,AK,aa,R⟩:=d.box l _ L hB C;have H:=AK g _ h2;have M:g∈L.bs:=(aa g).2 az
 have m:a.eval (.global g)=.pointer (O ⟨g,0,af⟩):=rfl;have A:fD U h [v] [.c (.val v)]:=⟨Rd.val K,an⟩;obtain⟨u,p,B⟩:=lP (s:=h) (U:=U) (P:=P) (hT t i hi) (b:=g) (off:=0) (vs:=[v]) (cs:=[.c (.val v)]) (e:=.bX (.c (.val v))) (λj w hj=>by
  simp only[a9,H]
  grind) A F
 refine⟨.value u,h,u,by simp[ar,ho,m,Instr.loadAt,Instr.sureAddr,p],.inl Z,⟨⟨U,U,d,d,.refl _ _⟩,?_⟩,hK u h B d y.db⟩;intro G r;have x:G∈(loadVar t ⟨g,0,af⟩).events P h.w #[]:=by
  have e:ar a.eval o=(do pure (.value (<-loadVar t ⟨g,0,af⟩))):=by simp[ar,ho,m,Instr.loadAt,Instr.sureAddr]
  rw[e]at r;simpa[p]using r
 obtain⟨j,hj,rfl⟩:=jR (hT t i hi) (n:=1) (λj hj=>⟨v,by simp only[a9,H];grind⟩) (by have:=oZ F;grind) G x;exact nq (b9 C) M
end
section
variable {X:Cx P}
def RR{P:aR}(X:Cx P)(N:Nat)(all:List aJ)(J:Fr)(U:List bq)(x:Nat->D):List D->List aJ->Nat->Prop
 |_::r,o::l,i=>OA X N all o (od all J x i) U (x i) U/\RR X N all J U x r l (i+1)
 |[],_,_=>True
 |_::_,[],_=>False
theorem RR.get{all:List aJ}{x:Nat->D}:∀{r:List D}{l:List aJ}{k:Nat},RR X N all J U x r l k->∀i o,l[i]?=O o->i<V r->OA X N all o (od all J x (k+i)) U (x (k+i)) U
 |[],_,_,_,i,o,_,hi=>absurd hi (jO _)
 |_::r,[],_,h,i,o,_,hi=>h.elim
 |d::r,p::l,k,h,0,o,ho,_=>by cases ho;exact h.1
 |d::r,p::l,k,h,i+1,o,ho,hi=>by have:=RR.get h.2 i o ho az;grind
def I.aa9(h:P.follows Departure.mixedOrders=W)(xs:List D)(d:Nat){id:Nat}(a:pV ops.toList=W)(b:wU ops.toList 0=W)(c:rW N ops.toList=W)(e:bP (V xs) (V ops.toList)=W)(ZI:AX ops.toList d (V xs) (V ops.toList-V xs)=W)(bX:RR X N ops.toList J U (λi=>xs.getD i .any) xs ops.toList 0)(k:I X N Qf (.ops ops.toList (ops.toList.drop (V xs))::K) .normal (Wc ops.toList J λi=>xs.getD i .any) U):I X N Qf (.code (.region id ops W)::K) .normal J U:=by
 have e:=fY e;have:=AW.reg (X:=X) (N:=N) (J:=J) (U:=U) h (all:=ops.toList) (V xs) (λ_:Unit=>λi=>xs.getD i .any) (λ_ _=>U) (λ_ _=>True) () an Z a b c e
  (λi h1 h2 L g j k hk=>uu g (x5 (x6 ZI i h1 aq) k hk) j)
  (λf D _ _ i h1 h2=>by grind)
  (λf D i o _ ho hi _ _ _=>by have h1:=bX.get i o ho hi;rw[b8]at h1;exact h1.uW ⟨(),λ_ _=>rfl,an⟩ Z Z)
  (Q:=I X N Qf K) (λf D _ _=>k) id
 rw[te]at this;exact this
end
section
variable {X:Cx P}
def OX{b:bd}{k:List Item}{a:Act}{rest:List Nat}{f:aO}(hb:b.kind≠.early)(ho:ops[i]?=O o)(hw:bn o (yielded ops a.tmps)=W)(hh:aH U s)(q:∀g,aH U g->(ar a.eval o).run P g.w=.ok (.enter f vs.toArray) g.w/\gA g ((ar a.eval o).events P g.w #[]))(N:e9 X f cR Us res σ1)(y:cU U s vs (iJ ks cR))(hin:nV (V ks) cR=W)(p:l6 ks U=O Us)(hp:dg Us=W)(ak:∀j,dg (σ1 j)=W)(hn:fa ks=W)(M:∀j,V ks<=V (σ1 j))(h:∀j v s',ey (ft ks (σ1 j) U) s' v (ky (ks++nw (V U) (V (σ1 j)-V ks)) (res j))->aH (ft ks (σ1 j) U) s'->dE U s (ft ks (σ1 j) U) s'->ia X S (G (b.aT (a.put o.dst v) (.inRegion ops rest::k)) cs) s'):
  ia X S (G (b.aT a (.inRegion ops (i::rest)::k)) cs) s:=by obtain⟨_,t⟩:=N;refine .next aK λg Z3=>?_;have hr:=X.kq Z3;have e:=hh.rely hr;obtain⟨m,r⟩:=AR (l':=g.β) p e.len;obtain⟨H,K⟩:=e.sub p r hp hn;have n:cU U g vs (iJ ks cR):=y.mono hr.db.ext hh.len;have AK:cU Us {g with β:=m,own:=AV g m} vs cR:=(n.sub (s:=g) p r hin).mono (U:=Us) (s:={g with β:=m}) (U':=Us) (s':={g with β:=m,own:=AV g m}) ⟨λ_ _ _ h=>h,λl B L hB hL=>⟨B,L,hB,hL,.refl _ _⟩⟩ H.len;refine⟨_,g,_,qK ho hw hb (q g e).1,⟨⟨U,U,e,e,.refl _ _⟩,gA.seen (q g e).2⟩,.c8 K (t _ vs AK H S _ λj fr v s2 hl C A T=>?_)⟩;refine qL (cs:=cs) (c:=b.aT a (.inRegion ops (i::rest)::k)) A hl λs3 u=>?_;have J:=A.rely u;have F:=T.trans u.db;obtain⟨s4,ab,Q,aa,Y,Z,ho4,E⟩:=frame e p r hn (ak j) J F (M j) (C.mono u.db.ext A.len);refine .c8 (gn.back e J F ab Z ho4 E) ?_;have R:=kN (b:=b) (a:=a) (k:=k) ops i rest v;rw[ho]at R;simp only[oP]at R;rw[R];exact h j v s4 Q aa (hr.db.trans Y)
def fy.cell(hT:dA P T){l t g:Nat}{E:av}{v:ah}{i:TI}(hl:eH l U=O (.cJ (fy g E v)))(hi:bY T t=O i)(y:dK v=W)(p:nW i [.c (.val v)]=O (.bX (.c (.val v)))){s:St}(hh:aH U s):
  (loadVar t ⟨g,0,af⟩).run P s.w=.ok v s.w/\gA s ((loadVar t ⟨g,0,af⟩).events P s.w #[]):=by
 have hB:=cD hl;have h:l<V s.β:=nh;have f:=bD h;generalize s.β[l]=L at f;obtain⟨ch,⟨h1,h2,G⟩,C,A,H⟩:=hh.box l _ L hB f;have q:=C g _ h2;have B:g∈L.bs:=(A g).2 az
 have m:fD U s [v] [.c (.val v)]:=⟨Rd.val y,an⟩;obtain⟨u,k,o⟩:=lP (s:=s) (U:=U) (P:=P) (hT t i hi) (b:=g) (off:=0) (vs:=[v]) (cs:=[.c (.val v)]) (e:=.bX (.c (.val v))) (λj w hj=>by
  simp only[a9,q]
  grind) m p
 have r:u=v:=Rd.fM o;subst r;refine⟨k,λF a=>?_⟩;obtain⟨j,hj,rfl⟩:=jR (hT t i hi) (n:=1) (λj hj=>⟨u,by simp only[a9,q];grind⟩) (by have:=oZ p;grind) F a;exact nq (b9 f) B
def OA.D6(hT:dA P T){t g:Nat}(l:Nat){x:aG}{i:TI}(n:u7 all J o=W)(ho:o.op=.load t x)(w:ck J x=b7 (.val (.pointer (O ⟨g,0,af⟩))))(hl:eH l U=O (.cJ (fy g E v)))(hi:bY T t=O i)(p:dK v=W)(u:nW i [.c (.val v)]=O (.bX (.c (.val v)))):
  OA X N all o J U (b7 (.val v)) U:=by
 intro s a f hh b k cs S q rest hb hq hK;refine vH hb hq (iC n _ _ _ f) λr m=>?_;have j:=hh.rely m;have h:=dz f x;rw[w]at h;have h:=Rd.fM (gG h);obtain⟨h1,h2⟩:=fy.cell hT hl hi p u j;have e:ar a.eval o=(do pure (.value (<-loadVar t ⟨g,0,af⟩))):=by simp[ar,ho,h,Instr.loadAt,Instr.sureAddr]
 refine⟨.value v,r,v,by simp_all,.inl Z,⟨⟨U,U,j,j,.refl _ _⟩,?_⟩,hK v r (Rd.val p) j m.db⟩;simp_all
def Nq(t:av)(p:Addr)(a:String):Builtin.ssaWrapNilChk_ #[t] t #[.pointer (O p),strVal "",strVal a]=pure (.pointer (O p)):=rfl
def vd(P:aR)(U:List bq)(T:av)(v:ah)(name:String)(f:aO)(r:ah):Prop:=∀s,aH U s->∀n,(Go.method (n+1) T v name).run P s.w=.ok (f,r) s.w/\gA s ((Go.method (n+1) T v name).events P s.w #[])
def vd.ptr{a:av}{name:String}{f:aO}{i:TypeInfo}{m:Go.Method}{e:av}(hi:P.info? a=O i)(hm:i.methods.find? (·.name==name)=O m)(c:m.path=#[])(b:m.func=O (f,W))(g:P.underlying a=O (.pointer e)):vd P U a v name f v:=by
 intro s hh n;have h1:∀w,(typeInfo a).run P w=.ok i w:=λw=>by simp[typeInfo,hi]
 have h2:∀w,(underlying a).run P w=.ok (.pointer e) w:=λw=>by simp[underlying,g]
 unfold Go.method;constructor
 .simp only[cf,h1,hm,c,b,cA,follow,dN,receiverAt,h2];rfl
 have:∀es,((do pure (f,<-receiverAt a (.val v) W (if m.path.isEmpty then O ((name.splitOn ".").getLastD name)else af))):Sem (aO×ah)).events P s.w es=es:=λes=>by simp[receiverAt,h2,Place.get]
 simp only[aM,cf,h1,hm,c,b,cA,aP,follow,dN,bG,receiverAt,h2,events_typeInfo,events_underlying,Place.get];exact .nil
def vd.deref(hT:dA P T){g:Nat}{a:av}{name:String}{f:aO}{i:TypeInfo}{m:Go.Method}{h:TI}(hi:P.info? a=O i)(hm:i.methods.find? (·.name==name)=O m)(o:m.path=#[])(j:m.func=O (f,ae))(p:P.underlying a=O (.pointer t))(hl:eH l U=O (.cJ (fy g E v)))(e:bY T t=O h)(q:dK v=W)(r:nW h [.c (.val v)]=O (.bX (.c (.val v)))):vd P U a (.pointer (O ⟨g,0,af⟩)) name f v:=by
 intro s hh n;have h1:∀w,(typeInfo a).run P w=.ok i w:=λw=>by simp[typeInfo,hi]
 have h2:∀w,(underlying a).run P w=.ok (.pointer t) w:=λw=>by simp[underlying,p]
 obtain⟨k,g2⟩:=fy.cell hT hl e q r hh;have u:m.path.isEmpty=W:=az;unfold Go.method;constructor
 .simp only[cf,h1,hm,o,j,cA,follow,dN,receiverAt,h2,Place.get];simp[Nq,asAddr,k]
 intro y b;refine g2 y ?_;simp only[aM,cf,h1,hm,o,j,cA,aP,follow,dN,bG,receiverAt,h2,events_typeInfo,events_underlying,Place.get]at b;simpa[Nq,asAddr,k]using b
def tB{a:aG->ah}{x:aG}{b:Array aG}{name:String}(ho:o.op=.call {callee:=.invoke x name,args:=b,argTypes:=lh}){c:av}{u:ah}(h:a x=.iface c u):
  ar a o=callMethod (.iface c u) name (b.toList.map a).toArray:=by
 have g:#[a x]++b.map a=(.iface c u::b.toList.map a).toArray:=az;have f:(Value.iface c u::b.toList.map a).toArray.extract 1 (Value.iface c u::b.toList.map a).toArray.size=(b.toList.map a).toArray:=az;have e:ar a o=invoke (.fn (.method name) #[]) (#[a x]++b.map a):=by simp only[ar,ho];rfl
 rw[e,g];show callMethod (.iface c u) name ((Value.iface c u::b.toList.map a).toArray.extract 1 (Value.iface c u::b.toList.map a).toArray.size)=_;rw[f]
def I.m0{Y:av}{name:String}{f:aO}{u r:ah}(A:e9 X f cR Us res σ1)(ks:List Nat)(hm:vd P U Y u name f r)(Q:u7 all J o=W){x:aG}{C:Array aG}(ho:o.op=.call {callee:=.invoke x name,args:=C,argTypes:=lh})(hx:ck J x=b7 (.Fy Y (.val u)))(hr:dK r=W)(y:pU (b7 (.val r)::C.toList.map (ck J))=iJ ks cR)(T:nV (V ks) cR=W)(L:l6 ks U=O Us)(hp:dg Us=W)(aa:∀j,dg (σ1 j)=W)(hn:fa ks=W)(AK:∀j,bP (V ks) (V (σ1 j))=W)(hN:g7 N o.dst=W)(k:∀j,I X N Qf (.ops all rest::K) .normal (lU o.dst (ky (ks++nw (V U) (V (σ1 j)-V ks)) (res j)) J) (ft ks (σ1 j) U)):I X N Qf (.ops all (o::rest)::K) .normal J U:=by
 intro s a E hh b kk css S idx hb jb hQ;cases idx with
 |nil=>exact jb.elim
 |cons i idx =>
 have H:=dz E x;rw[hx]at H;have H:=gG H;generalize Z:a.eval x=v at H;cases H with
 |@Fy _ u' _ h1 hc =>
  have hu:=Rd.fM h1;subst hu;obtain⟨fn,F,ab,R⟩:=A.1;have h:fn.name≠ "runtime.NumGoroutine":=az;have g:fn.body≠af:=az;obtain⟨n,B⟩:∃n,P.types.size+Made.depth=n+1:=⟨P.types.size+Made.depth-1,by exact j3⟩
  have p:∀w,(program:Sem aR).run P w=.ok P w:=λw=>by simp
  have G:∀w es,(program:Sem aR).events P w es=es:=λw es=>by simp
  have l:cU U s (r::C.toList.map a.eval) (iJ ks cR):=by rw[<-y];exact tp (U:=U) (s:=s) ⟨Rd.val hr,mU (dz E) C.toList⟩
  refine OX (ks:=ks) hb jb.1 (iC Q _ _ _ E) hh (vs:=r::C.toList.map a.eval) (λs1 M=>?_) A l T L hp aa hn (λj=>fY (AK j)) λj v s' nj lj st=>?_
  .obtain⟨m1,m2⟩:=hm s1 M n;constructor
   .rw[tB ho Z];simp[callMethod,p,B,m1,callFunc,F,h,g]
   intro ev m;refine m2 ev ?_;rw[tB ho Z]at m;simpa[callMethod,p,G,B,m1,callFunc,F,h,g]using m
  refine k j s' _ ?_ lj b kk css S idx hb jb.2 λak σ2 s2 a2 q d h2 pA=>hQ ak σ2 s2 a2 q d h2 (st.trans pA);cases hd:o.dst with
  |none=>exact E.mono st hh.len
  |some t=>exact(E.mono st hh.len).put (iB hN t hd) nj
def bU.H9{x:aG}(h:o.op=.nilCheck x){p:Addr}(b:η x=b7 (.val (.pointer (O p)))):bU P o η U (b7 (.val (.pointer (O p)))) U:=by refine .dw λs f hh hr=>?_;have h1:=hr x;rw[b]at h1;have a:=Rd.fM (gG h1);exact⟨f x,by simp[ar,h,a],h1,by simp[ar,h,a]⟩
def bU.Ia(hT:dA P T){x:aG}(h:o.op=.load t x){cap f k:Nat}{xs:List ah}{G:TI}{e:E1}(hx:η x=b7 (.val (.pointer (O ⟨b,off,af⟩))))(S:off=i*k+f)(hl:U[l]?=O (.cJ (jS E k (.row b cap) n xs)))(K:kU k n es xs)(hi:bY T t=O G)(ak:nW G ((iK f (es i)).map A.c)=O e)(R:i<n):bU P o η U (.e e) U:=by
 refine .qv λs ρ hh hr=>?_;have H:=hr x;rw[hx]at H;have H:=Rd.fM (gG H);have u:l<V s.β:=nh;have Q:=bD u;generalize s.β[l]=L at Q;obtain⟨ch,hH,p,N,hM0⟩:=hh.box l _ L hl Q;obtain⟨zs,hzl,F,Z⟩:=jS.lookup hH;have aa:b∈L.bs:=(N b).2 az;have B:=p b _ F;let g:Nat->ah:=λj=>xs.getD (i*k+j) ai;have ab:∀j c,(iK f (es i))[j]?=O c->xs[i*k+(f+j)]?=O (g (f+j))/\Rd s.M (g (f+j)) c:=by intro j c hj;rw[o8,pJ]at hj;obtain⟨v,v1,v2⟩:=K.Ae i R (f+j) c hj;grind
 have AK:=K8 (U:=U) (s:=s) (g:=g) (ds:=iK f (es i)) (m:=f) (λj c hj=>(ab j c hj).2);have a:∀(j:Nat) (v:ah),((bl (V (iK f (es i)))).map λj=>g (f+j))[j]?=O v->s.w.cell? ⟨b,off+j,af⟩=O v:=by
  intro j v hj;simp only[qn]at hj;by_cases q:j<V (iK f (es i))
  .simp[q]at hj;subst hj;have h2:=(ab j _ (bD q)).1;simp only[a9,B];grind
  grind
 obtain⟨v,y,J⟩:=lP (s:=s) (U:=U) (P:=P) (hT t G hi) (b:=b) (off:=off) (e:=e) a AK ak;have e1:ar ρ o=(do pure (.value (<-loadVar t ⟨b,off,af⟩))):=by simp[ar,h,H,Instr.loadAt,Instr.sureAddr]
 refine⟨v,by rw[e1];simp[y],J,λY r=>?_⟩;rw[e1]at r;have C:Y∈(loadVar t ⟨b,off,af⟩).events P s.w #[]:=by simpa[y]using r
 obtain⟨j,hj,rfl⟩:=jR (hT t G hi) (n:=V (iK f (es i))) (λj hj=>⟨_,a j (g (f+j)) az⟩) (by have:=oZ ak;grind) Y C;exact nq (b9 Q) aa
def bU.abX(hT:dA P T){x:aG}(h:o.op=.slice t x af (O y) af){i:TI}(p:bY T t=O i)(u:i.desc=.slice E)(B:bY T E=O ie){cap:Nat}{kd:IntKind}{m:Int}(v:η x=b7 (.val (.slice (O ⟨b,0,af⟩) n cap)))(r:η y=b7 (.int kd m))(f:n<=cap)(A:0<=m)(h1:m<=n):bU P o η U (b7 (.val (.slice (O ⟨b,0,af⟩) m.toNat cap))) U:=by
 refine .dw λst ρ hh hr=>?_;have g:=hr x;rw[v]at g;have g:=Rd.fM (gG g);have hl:vF η af=O af:=rfl;have q:vF η (O y)=O (O m):=by simp[vF,r]
 have ho:aA (lK n af (O m)):=⟨A,h1⟩;obtain⟨hb,s,C⟩:=oV (P:=P) (isS:=W) f (jr hr hl) (jr hr q) ho st.w;have a:=(hT t i p).run_underlying (w:=st.w);rw[u]at a;have j:(bk W n cap af (O (ρ y)) af).run P st.w=.ok (0,m.toNat,cap) st.w:=hb;have l:=qN (P:=P) (isS:=W) f (jr hr hl) (jr hr q) ho st.w;have k:∀es,(bk W n cap af (O (ρ y)) af).events P st.w es=es:=l;refine⟨_,?_,Rd.val Z,?_⟩
 .simp[ar,h,g,Instr.sliceAt,a,Instr.slice,j,(hT E ie B).b6,eg]
 simp[ar,h,g,Instr.sliceAt,a,Instr.slice,j,k]
def Nr{s:St}:∀{vs:List ah}{cs:List C},V vs=V cs->∀f:Nat->ah,(∀j,j<V vs->vs[j]?=O (f j))->(∀(j:Nat)(c:C),cs[j]?=O c->Rd s.M (f j) c)->fD U s vs (cs.map A.c)
 |[],[],_,_,_,_=>trivial
 |[],_::_,a,_,_,_=>by grind
 |_::_,[],a,_,_,_=>by grind
 |v::vs,c::cs,a,f,g,b=>⟨by have:=g 0 ay;cases this;exact b 0 c rfl,Nr az (λj=>f (j+1)) (λj e=>by grind) λj h e=>b (j+1) h az⟩
def bU.F7(hT:dA P T){x:aG}{g:av}(h:o.op=.typeAssert x g t ae){i:TI}(hi:bY T t=O i)(n:tA i.desc=ae){cs:List C}(q:η x=b7 (.M0 t cs)):bU P o η U (.e (.agg (cs.map A.c))) U:=by
 refine .dw λs r hh hr=>?_;have h1:=hr x;rw[q]at h1;replace h1:=gG h1;generalize b:r x=vx at h1;have l:=(hT t i hi).run_underlying (w:=s.w);have p:∀m,i.desc≠.interface m:=by intro m e;rw[e]at n;cases n
 cases h1 with
 |@M0 t' vs cs hl f u k =>
  have a:(Instr.typeAssert (.iface t (.agg vs.toArray)) g t ae).run P s.w=.ok (.agg vs.toArray) s.w/\(Instr.typeAssert (.iface t (.agg vs.toArray)) g t ae).events P s.w #[]=#[]:=by
   constructor
   .unfold Instr.typeAssert;simp only[cf,l,cA];cases j:i.desc<;>first|simp|simp
   unfold Instr.typeAssert;simp only[l,aM,aP,events_underlying];cases j:i.desc<;>first|simp|simp
  exact⟨.agg vs.toArray,by simp only[ar,h,b,cf,a.1,cA,dN],⟨vs,Z,Nr hl f u k⟩,by simp only[ar,h,b,aM,a.1,a.2,aP,bG]⟩
def I.S8(hT:dA P T)(l:Nat){t g:Nat}{x:aG}{u:ah}{i:TI}(h:o.op=.store t x y)(hi:bY T t=O i)(A:i.size=1)(Y:ck J x=b7 (.val (.pointer (O ⟨g,0,af⟩))))(hy:ck J y=b7 (.val u))(ab:u.cells=#[u])(hcu:dK u=W)(hl:eH l U=O (.cJ (fy g E v)))(hg:o.guard=af)(hN:g7 N o.dst=W)(kk:I X N Qf (.ops all rest::K) .normal (lU o.dst .any J) (U.set l (.cJ (fy g E u)))):I X N Qf (.ops all (o::rest)::K) .normal J U:=by
 refine I.Fi (ι:=Unit) (λ_=>.any) (λ_=>U.set l (.cJ (fy g E u))) hg hN (λs a R hh=>?_) λ_=>kk;have H:=dz R x;rw[Y]at H;have H:=Rd.fM (gG H);have m:=dz R y;rw[hy]at m;have m:=Rd.fM (gG m);have hl:=cD hl;have r:l<V s.β:=nh;have AK:=bD r;generalize s.β[l]=L at AK;obtain⟨ch,⟨h1,h2,h3⟩,q,aa,M⟩:=hh.box l _ L hl AK;have B:g∈L.bs:=(aa g).2 az;have k:=q g _ h2;have C:∀w∈[u],w.oneCell'=W:=λw hw=>by have:dK w=W:=az;exact this
 have Q:=run_storeCells_at P g 0 E [u] 0 #[v] s.w k ay C;have G:∀f,f≠g->(s.w.setRow g #[u]).heap[f]?=s.w.heap[f]?:=λf b=>setRow_other s.w g f _ b;have S:=setRow_heap s.w g #[v] #[u] E (0,0) k;obtain⟨t1,Z⟩:=hh.kO (l:=l) (H':=fy g E u) (L':=L) (w':=s.w.setRow g #[u]) hl AK rfl ay
  (λf b hn=>G f az) (λf b=>.inl b)
  ⟨λf=>if f=g then O (.cells #[u] E (0,0))else af,⟨h1,by simp,λf b=>by grind⟩,λf o b=>by grind,λf=>by grind⟩ aK aK aK
 have e1:ar a.eval o=(do storeVar t ⟨g,0,af⟩ u;pure .skip):=by simp[ar,h,H,m,Instr.storeAt,Instr.sureAddr]
 have n:(storeCells ⟨g,0,af⟩ [u] 0).run P s.w=.ok () (s.w.setRow g #[u]):=Q;refine⟨(),.skip,_,ai,?_,.inr ⟨aK,aK⟩,an,t1,Z,?_⟩
 .rw[e1];simp[storeVar,(hT t i hi).b6,ab,A,n]
 intro ak p;rw[e1]at p;have F:ak∈(storeCells ⟨g,0,af⟩ [u] 0).events P s.w #[]:=by simp only[storeVar,aM,(hT t i hi).b6,A,ab,aP,events_sizeOf,dO,gx,cC,cf,cA,bG]at p;simpa[n]using p
 rcases fj [u] 0 #[v] s.w #[] k ay C ak F with Wa|⟨j,_,_,rfl⟩
 .grind
 exact l4 (b9 AK) B (M g B _)
def I.S9(t l:Nat)(r k:Nat){F:Nat}(H:look J t=cE l 0)(hl:eH l U=O (.cells E [.c (.sl W F 0 es)]))(kk:∀g a0,I X N Qf (.code c::K) .normal ((t,jA (.pointer (O ⟨g,0,af⟩)))::J) (U.set l (.cJ (fy g E (qw (.nil a0) 0)))++[.cJ (jS r k (.nil a0) 0 [])])):I X N Qf (.code c::K) .normal J U:=by
 refine AW.x0 (ι:=Nat×Option Addr) (J':=λq=>(t,jA (.pointer (O ⟨q.1,0,af⟩)))::J) (U':=λq=>U.set l (.cJ (fy q.1 E (qw (.nil q.2) 0)))++[bq.cJ (jS r k (.nil q.2) 0 [])]) (λs a n hh=>?_) λ(q:Nat×Option Addr)=>kk q.1 q.2;have hl:=cD hl;have f:l<V s.β:=nh;have m:=bD f;generalize s.β[l]=L at m;obtain⟨g,vs,rfl,ak,A,S⟩:=hh.box l _ L hl m
 match vs,A with
 |[v],⟨AK,_⟩ =>
  obtain⟨a0,cap,Q,rfl,_,_,p,_,_⟩:=(show Rd s.M v (.sl W F 0 es)from AK).qp;have i:cap=0:=p Z;subst i;obtain⟨G,q2⟩:=hh.iA (M':=s.M) (w':=s.w) (B':=.cJ (fy g E (qw (.nil a0) 0))) (L':=⟨.pointer (O ⟨g,0,af⟩),[g]⟩) hl m rfl (bm _) (λ_ _ _=>rfl) (λ_ _ _ _=>rfl) (λ_ _ _ h=>h) hh.mem (λb hb=>⟨.inl hb,hh.lt _ (b9 m) b hb⟩) rfl rfl rfl
   ⟨λb=>if b=g then O (.cells #[.slice a0 0 0] E (0,0))else af,⟨rfl,by simp[qw],λb hb=>by grind⟩,λb o hb=>by grind,λb=>by by_cases e:b=g<;>simp[e],λb hb o=>by grind⟩
  obtain⟨aa,g2⟩:=G.jQ (B:=.cJ (jS r k (.nil a0) 0 [])) (L:=⟨.nilFunc,[]⟩) (.refl _ _) rfl G ⟨λ_=>af,⟨rfl,by simp,by simp,rfl,rfl⟩,by simp,by simp,by simp⟩ ay;have st:=q2.trans g2;refine⟨(g,a0),{s with β:=s.β.set l ⟨.pointer (O ⟨g,0,af⟩),[g]⟩++[⟨.nilFunc,[]⟩]},rfl,⟨n.size,n.defers.imp λ_ h1=>h1.mono st.ext,λu=>?_⟩,aa,st⟩;simp only[look];cases hb:aC t u with
  |false=>exact(n.ff u).mono st.ext hh.len
  |true =>
   have e:=dH hb;subst e;have h1:=n.ff t;rw[H]at h1;obtain⟨_,R,T,j,C,y⟩:=(h1:jh U s _ (.ptr l 0));rw[m]at j;cases j;cases C;rw[y];exact Rd.val Z
theorem OA.FN{ι:Type}{x:D}{U':List bq}(c:o.guard=af)(h:gO P N o J U (λ_:ι=>x) λ_=>U'):OA X N all o J U x U':=λs a f hh b kk cs S i rest hb hi hK=>oz.FN c h s a f hh b kk cs S i rest hb hi λ_=>hK
section
variable {x:Nat->D}{s2:Bool->Bool->List bq}{z d:Nat}
abbrev ve(s2:Bool->Bool->List bq)(z d:Nat):(Nat->Bool)->List bq:=λD=>s2 (D z) (D d)
def fE.q2(h1:aC z i=ae)(h2:aC d i=ae)(h:∀a b,OA X N all o (od all J x i) (s2 a b) (x i) (s2 a b)):fE X N all J x (ve s2 z d) i o:=by intro D _ _;have e1:fz i D z=D z:=Ra;have e2:fz i D d=D d:=Q9;grind
def fE.OY(hT:dA P T)(hC:b5 X CT)(h:∀a b,A5 T CT [] all (od all J x i) (s2 a b) o=O (x i,af,obs):=by intro a b;cases a<;>cases b<;>rfl)(h1:aC z i=ae:=by rfl)(h2:aC d i=ae:=by rfl)(ho:aA obs:=by simp only[aA,aW];omega):fE X N all J x (ve s2 z d) i o:=.q2 h1 h2 λa b=>OA.eval hT hC (h a b) ho
def fE.tK(hT:dA P T)(hC:b5 X CT)(h:∀a b,A5 T CT [] all (od all J x i) (s2 a b) o=O (x i,af,[]):=by intro a b;cases a<;>cases b<;>rfl)(h1:aC z i=ae:=by rfl)(h2:aC d i=ae:=by rfl):fE X N all J x (ve s2 z d) i o:=.OY (obs:=[]) hT hC h h1 h2 an
def fE.fw(h1:aC z i=ae)(h2:aC d i=ae)(a:k7 all z i=W)(b:k7 all d i=W)(h:OA X N all o (od all J x i) (s2 ae ae) (x i) (s2 ae ae)):fE X N all J x (ve s2 z d) i o:=by intro D _ c;have e1:fz i D z=D z:=Ra;have e2:fz i D d=D d:=Q9;grind
def fE.sA(h2:aC d z=ae)(a:k7 all d z=W)(h:OA X N all o (od all J x z) (s2 ae ae) (x z) (s2 W ae)):fE X N all J x (ve s2 z d) z o:=by intro D _ b;have e1:fz z D z=W:=MF;have e2:fz z D d=D d:=Q9;grind
def fE.sB(h1:aC z d=ae)(a:k7 all d z=W)(h:OA X N all o (od all J x d) (s2 W ae) (x d) (s2 W W)):fE X N all J x (ve s2 z d) d o:=by intro D hT hF;have e1:fz d D z=D z:=Ra;have e2:fz d D d=W:=MF;grind
end
end
section
variable {T:List (Nat×TI)}
def bU.Nv(hT:dA P T){w:aG}(h:o.op=.slice t x (O w) (O y) af){F ie:TI}(AK:bY T t=O F)(X:F.desc=.slice E)(S:bY T E=O ie){g k q:Nat}{p r:IntKind}{i j:Int}(aa:η x=mE l (.sl g k q n))(hk:ie.size=k){Q k':Nat}(hl:U[l]?=O (.eX Q k' g es))(hw:η w=b7 (.int p i))(Y:η y=b7 (.int r j))(h0:0<=i)(h1:i<=j)(h2:q+j<=g):bU P o η U (mE l (.sl g k (q+i.toNat) (j.toNat-i.toNat))) U:=by
 subst hk;refine .dw λst ρ hh hr=>?_;have C:=hr x;rw[aa]at C;have s:=C;change jh U st (ρ x) (.bp l _)at s;obtain⟨lv,⟨a,a0,cap,K,M,ab,R,G,v,H⟩,D,z⟩:=s;have J:g<=K:=by
  obtain⟨L,Z,B⟩:=(z _ _ _ _ hl).2 rfl;rcases hh.box l _ L hl Z with⟨rfl,rfl⟩|⟨b,c1,vs,zs,rfl,_,_,h5,_⟩
  .exact kn _
  rw[v]at B;cases B;exact h5
 have d:=hr w;rw[hw]at d;replace d:=gG d;generalize u:ρ w=vw at d;cases d;have f:=hr y;rw[Y]at f;replace f:=gG f;generalize A:ρ y=vy at f;cases f;have m:=(hT t F AK).run_underlying (w:=st.w);rw[X]at m;have hb:(bk W n cap (O (.int p i)) (O (.int r j)) af).run P st.w=.ok (i.toNat,j.toNat,cap) st.w:=by simp[bk,run_sliceBound (P:=P) st.w r j cap _ aq aq,run_sliceBound (P:=P) st.w p i j.toNat _ aq aq]
 have ak:(bk W n cap (O (.int p i)) (O (.int r j)) af).events P st.w #[]=#[]:=by
  simp[bk,run_sliceBound (P:=P) st.w r j cap _ aq aq,run_sliceBound (P:=P) st.w p i j.toNat _ aq aq,
   eB (P:=P) st.w r j cap _ aq aq,eB (P:=P) st.w p i j.toNat _ aq aq]
 refine⟨.slice (if cap=i.toNat then a else a.map (·.add (i.toNat*ie.size))) (j.toNat-i.toNat) (cap-i.toNat),?_,⟨lv,⟨_,a0,_,K,aK,by omega,by omega,G,v,λN=>?_⟩,D,z⟩,by simp[ar,h,M,u,A,Instr.sliceAt,m,Instr.slice,hb,ak]⟩
 .simp[ar,h,M,u,A,Instr.sliceAt,m,Instr.slice,hb,(hT E ie S).b6]
 obtain⟨b,rfl,rfl⟩:=H aq;refine⟨b,aK,?_⟩;rw[bc aq];simp[eg,jP]
end
section
variable {X:Cx P}
def md.x9{d:Nat}{ds:List D}{res:Bool}{rest:ι->List bq}(h:md X d ds U res λi=>σ1 i++rest i)(hl:∀i,V (σ1 i)=V U)(g:∀i (l:Nat)(B:bq),(σ1 i)[l]?=O B->KG (V (σ1 i)) U l B):md X d ds U res σ1:=by
 intro s vs l j hh He;obtain⟨fn,tmps,a,b,h1,h2,e⟩:=h s vs l j hh He;refine⟨fn,tmps,a,b,h1,h2,λS c cs hS=>e S c cs λi s' lj st=>?_⟩;have k:gn s' (s'.cut (V (σ1 i))):=⟨rfl,λ_ _ _ h=>h,λ_ _ _=>rfl,lj.mem,λb hb=>hb.imp id λ⟨L,f,hb⟩=>⟨L,hO f,hb⟩⟩
 exact .c8 k (hS i _ (hh.ZN (hl i).symm (g i) lj) (st.drop (Nat.le_of_eq (hl i).symm)))
end
section
variable {X:Cx P}
def I.Am(t l:Nat){cs:List A}{cc:List C}(a:look J t=cE l 0)(hl:eH l U=O (.cells E cs))(b:jB cs=O cc)(kk:I X N Qf (.ops all rest::K) .normal ((t,b7 (.rp cc))::J) (ft.uV l .cg U)):I X N Qf (.ops all rest::K) .normal J U:=by grind[lE,I.SQ,c7.freeze]
def rS.cons{J':Fr}{t:Nat}{d:D}(h:look J t=d)(r:rS J J'):rS J ((t,d)::J'):=by
 intro U s v u a;simp only[look];cases hb:aC t u with
 |false=>exact r _ _ _ _ a
 |true =>
  grind[Nat.eq_of_beq_eq_true]
end
section
variable {X:Cx P}
def tH{S:Type}(X:Cx P)(N:Nat)(Qf:Post)(K:List It)(AK:S->Prop)(b:S->Fr)(st:S->List bq)(a:S->Nat)(c:Nat)(x:S):Post:=λe J' U'=>match e with
 |.normal=>∃y n,c<=n/\AK y/\a y<a x/\rS J' (b y)/\H5 n (b y)=W/\∃σ1 rest,U'=σ1++rest/\V σ1=n/\(wV n σ1=W/\oe rest=W)/\KY σ1 (st y)
 |e=>I X N Qf K e J' U'
def I.Z7{S:Type}(H:Nat)(AK:S->Prop)(fr:S->Fr)(st:S->List bq)(B:S->Nat)(x:S){qs:List Prop}(C:rf J (fr x)=O ps)(hp:aA ps)(w:sW U (st x)=O qs)(ab:aA qs)(hn:V U=H)(h0:AK x)(round:∀x,AK x->I X N (tH X N Qf K AK fr st B H x) [.code c] .normal (fr x) (st x)):I X N Qf (.code (.loop c)::K) .normal J U:=by
 intro s a T hh b kk cs SS hb hQ;have i:=jV w ab;obtain⟨E,A,_⟩:=i s hh;refine xf (λm a' s'=>∃y,AK y/\c7 N (st y) s' (fr y) a'/\aH (st y) s'/\dE U s (st y) s'/\B y=m) ?_ ?_ ⟨x,h0,(T.le (dJ C hp)).bs i hh,E,A.pC hh,aK⟩
 .rintro n a' s' ⟨y,u,D,f,d,e⟩;exact⟨st y,f,λs1 h1=>⟨y,u,D.rely h1 f,f.rely h1,d.trans h1.db,e⟩⟩
 rintro m a' s' ⟨y,u,D,f,d,rfl⟩ R;refine round y u s' a' D f b (.inLoop c::kk) cs SS hb ?_;intro e φ2 σ2 s2 a2 q G h2 pA;cases e with
 |normal =>
  obtain⟨z,nz,Q,ak,l,g,hin,σ1,rest,rfl,M,⟨Y,p⟩,k⟩:=q;have F:=h2.drop az;obtain⟨o,j,r⟩:=k _ F;have v:=G.le g;have aa:gn s2 (s2.cut (V σ1)):=⟨rfl,λ_ _ _ h=>h,λ_ _ _=>rfl,h2.mem,λb hb=>hb.imp id λ⟨L,Z,hb⟩=>⟨L,hO Z,hb⟩⟩
  refine .c8 aa (R a2 (s2.cut (V σ1)) (B z) l ⟨z,ak,⟨v.size,v.defers.imp λ_ h1=>(h1.drop p).mono j.ext,λt=>r _ _ ((v.ff t).drop (rh az))⟩,o,?_,aK⟩);exact((d.trans pA).drop aq).trans (j.pC F)
 |_=>exact vJ.cons (λ_ _=>rfl) ay (hQ _ _ _ _ _ q G h2 (d.trans pA))
def I.FW{S:Type}{h:Nat}{AK:S->Prop}{fr:S->Fr}{st:S->List bq}{b:S->Nat}{x:S}{l:List It}(n:Nat)(y:S){qs:List Prop}(k:h<=n)(c:rf J (fr y)=O ps)(j:aA ps)(f:H5 n (fr y)=W)(g:Bq n U=W)(a:sW (U.take n) (st y)=O qs)(i:aA qs)(d:wV n (U.take n)=W)(m:AK y)(e:b y<b x):
  I X N (tH X N Qf l AK fr st b h x) [] .normal J U :=
 ⟨y,n,k,m,e,dJ c j,f,U.take n,U.drop n,(Az n U).symm,by grind[Nat.le_of_ble_eq_true,uC],⟨d,(uC g).2⟩,jV a i⟩
def I.FX{S:Type}{b:Nat}{AK:S->Prop}{fr:S->Fr}{st:S->List bq}{c:S->Nat}{x:S}{id:Nat}{d a f:List It}(h1:me id d=af)(h2:me id a=O f)(k:I X N Qf f .normal J U):
  I X N (tH X N Qf a AK fr st c b x) (.code (.exit id)::d) .normal J U :=
 AW.mono (I.gE (A:=λJ' U'=>tH X N Qf a AK fr st c b x .normal J' U') h1 h2 k) λe J' U' q=>by
  have key:∀(K:List It) e,I X N (λe J' U'=>match e with
    |.normal=>tH X N Qf a AK fr st c b x .normal J' U'
    |e=>I X N Qf a e J' U') K e J' U'->I X N (tH X N Qf a AK fr st c b x) K e J' U':=by
   have e:(λe J' U'=>match e with
    |.normal=>tH X N Qf a AK fr st c b x .normal J' U'
    |e=>I X N Qf a e J' U')=tH X N Qf a AK fr st c b x:=by funext e J' U';cases e<;>rfl
   grind
  exact key _ _ q
end
def kp(J:Fr)(ks:List Nat):Fr:=ks.map λk=>(k,look J k)
section
variable {X:Cx P}
def I.xd{S:Type}(n:Nat)(ks:List Nat)(AK:S->Prop)(fr:S->Fr)(st:S->List bq)(d:S->Nat)(x:S){qs:List Prop}(b:rf J (kp J ks++fr x)=O ps)(f:aA ps)(a:sW U (st x)=O qs)(e:aA qs)(h:V U=n)(g:AK x)(round:∀x,AK x->I X N (nZ X N Qf K AK (λx=>kp J ks++fr x) st d n x) [.code c] .normal (kp J ks++fr x) (st x)):I X N Qf (.code (.loop c)::K) .normal J U :=
 .cm n AK (λx=>kp J ks++fr x) st d x b f a e h g round
end
inductive Tr where
 |nil
 |nd (l:Tr) (a b:Int) (r:Tr)
def qG(E:av):Tr->ah->(Nat->Option Obj)->Prop
 |.nil,v,c=>v=.pointer af/\∀b,c b=af
 |.nd l a b r,v,c=>∃x d e cl cr,v=.pointer (O ⟨x,0,af⟩)/\(cd .i64 a/\cd .i64 b)/\qG E l d cl/\qG E r e cr/\c x=O (.cells #[.int .i64 a,.int .i64 b,d,e] E (0,0))/\cl x=af/\cr x=af /\
   (∀y o,cl y=O o->cr y=af/\c y=O o)/\(∀y o,cr y=O o->c y=O o)/\∀y o,c y=O o->y=x∨cl y=O o∨cr y=O o
def qG.cell{t:Tr}{ch:Nat->Option Obj}(h:qG E t v ch):dK v=W:=by
 cases t with
 |nil=>rw[h.1];rfl
 |nd=>obtain⟨_,_,_,_,_,rfl,_⟩:=h;rfl
section
def aH.Nw{T:Nat->Prop}(hh:aH U s)(f:s'.w=s.w)(i:s'.M=s.M)(ho:s'.own=s.own)(e:V s'.β=V U')(p:V U<=V U')(gf:∀l,l<V U->¬T l->U'[l]?=U[l]?/\s'.β[l]?=s.β[l]?)(g:∀(l:Nat) (L':Loc),(T l∨V U<=l)->s'.β[l]?=O L'->∀b∈L'.bs,∃(k:Nat) (L:Loc),T k/\s.β[k]?=O L/\b∈L.bs)(gY:∀(l l':Nat) (L L':Loc),(T l∨V U<=l)->(T l'∨V U<=l')->s'.β[l]?=O L->s'.β[l']?=O L'->∀b∈L.bs,b∈L'.bs->l=l')(box:∀l B L,T l->U[l]?=O B->s.β[l]?=O L->∃B' L',U'[l]?=O B'/\s'.β[l]?=O L'/\ji B L B' L')(ok:sM U s U' s'->∀l B L,(T l∨V U<=l)->U'[l]?=O B->s'.β[l]?=O L->gb U' s' B L):aH U' s'/\eO U s U' s':=by
 have hl:=hh.len;have j:∀(l:Nat) (B:bq) (L:Loc),U[l]?=O B->s.β[l]?=O L->∃B' L',U'[l]?=O B'/\s'.β[l]?=O L'/\ji B L B' L':=λl B L hB hL=>by
  by_cases h:T l
  .grind
  obtain⟨h1,h2⟩:=gf l (cO.1 hB).1 h;exact⟨B,L,h1.trans hB,h2.trans hL,.refl _ _⟩
 have ex:sM U s U' s':=⟨λb o v h=>i▸h,j⟩
 have x8:∀(l:Nat) (L':Loc),s'.β[l]?=O L'->(T l∨V U<=l)∨(l<V U/\¬T l/\s.β[l]?=O L'):=λl L' h=>by grind
 have a:∀(l:Nat) (L':Loc),s'.β[l]?=O L'->∀b∈L'.bs,∃(k:Nat) (L:Loc),s.β[k]?=O L/\b∈L.bs:=λl L' h b hb=>by grind
 have q:∀(l l':Nat) (L L':Loc),(T l∨V U<=l)->¬T l'->s'.β[l]?=O L->s.β[l']?=O L'->∀b∈L.bs,b∈L'.bs->False:=λl l' L L' h1 h2 hL im b hb qq=>by obtain⟨k,K,d,q2,q3⟩:=g l L h1 hL b hb;exact h2 (hh.gY k l' K L' q2 im b q3 qq▸d)
 refine⟨⟨λb o v h=>?_,e,λl B L hB hL=>?_,λl l' L L' hL im b hb qq=>?_,λL hL b hb=>?_,λb hb=>?_⟩,⟨?_,?_,ex.mem,?_,λL' im b hb=>?_,j,?_,?_,?_,ho⟩⟩
 .rw[i]at h;rw[f];exact hh.mem b o v h
 .rcases x8 l L hL with h1|⟨h1,h2,m⟩
  .grind
  rw[(gf l h1 h2).1]at hB;exact(hh.box l B L hB m).nk ex hl λb _=>⟨by rw[f],λo=>by rw[i]⟩
 .rcases x8 l L hL with h1|⟨_,h1,h2⟩<;>rcases x8 l' L' im with n|⟨_,n,g2⟩
  .grind
  .grind
  .grind
  exact hh.gY l l' L L' h2 g2 b hb qq
 .obtain⟨l,c,rfl⟩:=gM hL;obtain⟨k,K,d,q2⟩:=a l _ (bD c) b hb;rw[f];exact hh.lt K (b9 d) b q2
 .rw[ho]at hb;refine⟨f▸(hh.own b hb).1,λL hL Wr=>?_⟩;obtain⟨l,c,rfl⟩:=gM hL;obtain⟨k,K,d,q2⟩:=a l _ (bD c) b Wr;exact(hh.own b hb).2 K (b9 d) q2
 .grind
 .grind
 .grind
 .obtain⟨l,c,rfl⟩:=gM im;obtain⟨k,K,d,q2⟩:=a l _ (bD c) b hb;grind
 all_goals rw[f]
def aH.Tg(hh:aH U s){B B':bq}{L L':Loc}{Bs:List bq}{a:List Loc}(hB:U[l]?=O B)(o:s.β[l]?=O L)(j:ji B L B' L')(c:V a=Bs.length)(sub:∀M∈L'::a,∀b∈M.bs,b∈L.bs)(e:(L'::a).Pairwise λM N=>∀b∈M.bs,b∉N.bs)(ok:∀s':St,s'.w=s.w->s'.M=s.M->s'.β=s.β.set l L'++a->gb (U.set l B'++Bs) s' B' L'/\∀(i:Nat) (X:bq) (Y:Loc),Bs[i]?=O X->a[i]?=O Y->gb (U.set l B'++Bs) s' X Y):
  aH (U.set l B'++Bs) {s with β:=s.β.set l L'++a}/\eO U s (U.set l B'++Bs) {s with β:=s.β.set l L'++a}:=by
 have hl:=hh.len;have d:l<V U:=(cO.1 hB).1;have n:=ju.1 e;have Ae:∀(k:Nat) (K:Loc),(k=l∨V U<=k)->(s.β.set l L'++a)[k]?=O K->(k=l/\K=L')∨(V U<=k/\a[k-V U]?=O K):=λk K hk hK=>by grind
 refine aH.Nw (T:=λk=>k=l) hh Z Z Z az ay (λk hk hkl=>az) (λk K hk hK y f=>az) (λk k' K m hk hk' hK hK' y f h=>?_) (λk X K hk hX hK=>?_) (λex k X K hk hX hK=>?_)
 .rcases Ae k K hk hK with⟨h1,rfl⟩|⟨h1,h2⟩<;>rcases Ae k' m hk' hK' with⟨g,rfl⟩|⟨g,g2⟩
  .omega
  .grind
  .grind
  obtain⟨a1,a2⟩:=cO.1 h2;obtain⟨c1,c2⟩:=cO.1 g2;grind[List.pairwise_iff_getElem]
 .grind
 grind
def D9:Tr->Nat->A
 |.nil,_=>.c .ki
 |.nd ..,n=>.oY n
def Ao(E:av):Tr->List bq
 |.nil=>[]
 |.nd l a b r=>[.cJ (qG E (.nd l a b r))]
def QC(bs:List Nat):Tr->ah->(Nat->Option Obj)->List Loc
 |.nil,_,_=>[]
 |.nd ..,v,c=>[⟨v,bs.filter λy=>(c y).isSome⟩]
def Hj:Tr->Nat->List bq->List bq
 |.nil,_,U=>U
 |.nd ..,i,U=>U.set i .cg
def aH.Th(hh:aH U s){lt rt:Tr}{a b:Int}(hB:U[l]?=O (.cJ (qG E (.nd lt a b rt)))):
  ∃s',s'.w=s.w/\(∃x L,s.β[l]?=O L/\L.v=.pointer (O ⟨x,0,af⟩)/\s'.β[l]?=O ⟨L.v,[x]⟩)/\aH (U.set l (.cells E [.c (.int .i64 a),.c (.int .i64 b),D9 lt (V U),D9 rt (V U+V (Ao E lt))])++(Ao E lt++Ao E rt)) s' /\
   eO U s (U.set l (.cells E [.c (.int .i64 a),.c (.int .i64 b),D9 lt (V U),D9 rt (V U+V (Ao E lt))])++(Ao E lt++Ao E rt)) s':=by
 have t:l<V U:=(cO.1 hB).1;have e:l<V s.β:=nh;have n:=bD e;generalize s.β[l]=L at n;obtain⟨ch,⟨x,f,m,cl,g,e1,⟨C,D⟩,h1,h2,J,aa,T,u,S,N⟩,G,d,Q⟩:=hh.box l _ L hB n;have r:=hh.len;have F:x∈L.bs:=(d x).2 az;refine⟨{s with β:=s.β.set l ⟨.pointer (O ⟨x,0,af⟩),[x]⟩++(QC L.bs lt f cl++QC L.bs rt m g)},rfl,⟨x,L,n,e1,az⟩,hh.Tg hB n (show _=_ from e1.symm) ?_ ?_ ?_ λs' hw Df hβ=>?_⟩
 .cases lt<;>cases rt<;>rfl
 .intro M Df y j;rcases eQ.1 Df with rfl|Df
  .grind
  rcases eZ.1 Df with Df|Df
  .cases lt with
   |nil=>cases Df
   |nd=>rw[QC,gj]at Df;grind
  cases rt with
  |nil=>cases Df
  |nd=>rw[QC,gj]at Df;grind
 .refine ju.2 ⟨λM Df y j A=>?_,?_⟩
  .rw[gj]at j;subst j;rcases eZ.1 Df with Df|Df
   .cases lt with
    |nil=>cases Df
    |nd=>rw[QC,gj]at Df;grind
   cases rt with
   |nil=>cases Df
   |nd=>rw[QC,gj]at Df;grind
  cases lt<;>cases rt<;>simp only[QC,pM,iZ,wG,ju,List.Pairwise.nil,gj,forall_eq,rO,false_implies,implies_true,aW]
  grind[Option.isSome_iff_exists]
 have H:∀y o,cl y=O o->ch y=O o:=λy o h=>(u y o h).2;have K:gb (U.set l (.cells E [.c (.int .i64 a),.c (.int .i64 b),D9 lt (V U),D9 rt (V U+V (Ao E lt))])++(Ao E lt++Ao E rt)) s' (.cJ (qG E lt)) ⟨f,L.bs.filter λy=>(cl y).isSome⟩ :=
  ⟨cl,h1,λy o h=>by grind,λy=>⟨λh=>(iz.1 h).2,λh=>iz.2 ⟨(d y).2 Rp,h⟩⟩,λy j o=>by rw[Df];grind⟩
 have R:gb (U.set l (.cells E [.c (.int .i64 a),.c (.int .i64 b),D9 lt (V U),D9 rt (V U+V (Ao E lt))])++(Ao E lt++Ao E rt)) s' (.cJ (qG E rt)) ⟨m,L.bs.filter λy=>(g y).isSome⟩ :=
  ⟨g,h2,λy o h=>by grind,λy=>⟨λh=>(iz.1 h).2,λh=>iz.2 ⟨(d y).2 Rp,h⟩⟩,λy j o=>by rw[Df];grind⟩
 have c1:=h1.cell;have c2:=h2.cell;have hb:s'.w.heap[x]?=O (.cells (List.toArray [.int .i64 a,.int .i64 b,f,m]) E (0,0)):=az;have hm:∀o,s'.M x o=af:=λo=>by rw[Df];grind
 have p:∀k,(s.β.set l ⟨.pointer (O ⟨x,0,af⟩),[x]⟩++(QC L.bs lt f cl++QC L.bs rt m g))[V U+k]?=(QC L.bs lt f cl++QC L.bs rt m g)[k]?:=λk=>by grind
 have e2:∀k,(U.set l (.cells E [.c (.int .i64 a),.c (.int .i64 b),D9 lt (V U),D9 rt (V U+V (Ao E lt))])++(Ao E lt++Ao E rt))[V U+k]?=(Ao E lt++Ao E rt)[k]?:=λk=>by grind
 refine⟨⟨x,_,Z,hb,⟨Rd.int C,Rd.int D,?_,?_,an⟩,hm⟩,?_⟩
 .cases lt with
  |nil=>rw[h1.1];exact Rd.ki
  |nd=>exact⟨λB hB=>by have AK:=(e2 0).symm.trans hB;cases AK;rfl,_,by rw[hβ];exact p 0,rfl,c1⟩
 .cases rt with
  |nil=>rw[h2.1];exact Rd.ki
  |nd =>
   cases lt with
   |nil=>exact⟨λB hB=>by rw[e2]at hB;cases hB;rfl,_,by rw[hβ];exact p 0,rfl,c2⟩
   |nd=>exact⟨λB hB=>by rw[e2]at hB;cases hB;rfl,_,by rw[hβ];exact p 1,rfl,c2⟩
 intro i X Y q z;cases lt<;>cases rt<;>simp only[Ao,QC,pM,iZ,wG,List.getElem?_nil]at q z
 .cases q
 .grind
 .grind
 grind
def Ea(f:aH U s){t:Tr}(r:jh U s v (D9 t i))(hi:t≠.nil->U[i]?=O (.cJ (qG E t))):
  ∃c bs,qG E t v c/\(∀y o,c y=O o->s.w.heap[y]?=O o)/\(∀y,y∈bs↔(c y).isSome=W)/\(∀y∈bs,∀o,s.M y o=af)/\(match t with|.nil=>bs=[]|.nd ..=>s.β[i]?=O ⟨v,bs⟩):=by
 cases t with
 |nil =>
  have r:Rd s.M v .ki:=r;cases r;exact⟨λ_=>af,[],⟨Z,λ_=>rfl⟩,by simp,by simp,by simp,Z⟩
 |nd =>
  obtain⟨_,L,a,rfl,_⟩:=r;obtain⟨c,e,b,q2,d⟩:=f.box i _ L (hi nofun) a;exact⟨c,L.bs,e,b,q2,d,a⟩
def lcK:Tr->Nat->ah->List Loc->List Loc
 |.nil,_,_,a=>a
 |.nd ..,i,v,a=>a.set i ⟨v,[]⟩
def aH.lN(hh:aH U s){lt rt:Tr}{a b:Int}(hB:U[l]?=O (.cells E [.c (.int .i64 a),.c (.int .i64 b),D9 lt i,D9 rt j]))(hi:lt≠.nil->U[i]?=O (.cJ (qG E lt)))(hj:rt≠.nil->U[j]?=O (.cJ (qG E rt)))(AK:lt≠.nil->rt≠.nil->i≠j):
  ∃s',s'.w=s.w/\(∃L,s.β[l]?=O L/\∃L',s'.β[l]?=O L'/\L'.v=L.v)/\aH (Hj rt j (Hj lt i (U.set l (.cJ (qG E (.nd lt a b rt)))))) s'/\eO U s (Hj rt j (Hj lt i (U.set l (.cJ (qG E (.nd lt a b rt)))))) s':=by
 have aa:l<V U:=(cO.1 hB).1;have N:=hh.len;have u:l<V s.β:=aq;have z:=bD u;generalize s.β[l]=L at z;obtain⟨x,vs,rfl,h1,h2,Z⟩:=hh.box l _ L hB z
 match vs,h2 with
 |[Y,Q,p,q],⟨G,F,S,ab,_⟩ =>
 obtain⟨cl,g,a1,a2,a3,a4,a5⟩:=Ea hh S hi;obtain⟨r,f,d1,d2,d3,d4,d5⟩:=Ea hh ab hj;have G:Rd s.M Y (.int .i64 a):=G;have F:Rd s.M Q (.int .i64 b):=F;cases G with|int ra =>
 cases F with|int rb =>
 have xl:x∉g:=λh=>by
  cases lt with
  |nil=>grind
  |nd=>have:=hh.gY l i _ _ z a5 x ay h;grind
 have xr:x∉f:=λh=>by
  cases rt with
  |nil=>grind
  |nd=>have:=hh.gY l j _ _ z d5 x ay h;grind
 have lr:∀y∈g,y∉f:=λy h R=>by
  cases lt with
  |nil=>grind
  |nd =>
   cases rt with
   |nil=>grind
   |nd=>exact AK nofun nofun (hh.gY i j _ _ a5 d5 y h R)
 have C:cl x=af:=by cases h:cl x with|none=>rfl|some o=>grind
 have A:r x=af:=by cases h:r x with|none=>rfl|some o=>grind
 have J:∀y o,cl y=O o->r y=af:=λy o h=>by
  cases h2:r y with
  |none=>rfl
  |some o2=>grind
 have ok:∀(U':List bq) (s':St),s'.w=s.w->s'.M=s.M->gb U' s' (.cJ (qG E (.nd lt a b rt))) ⟨.pointer (O ⟨x,0,af⟩),x::(g++f)⟩:=λU' s' hw hM=>by
  refine⟨λy=>if y=x then O (.cells #[.int .i64 a,.int .i64 b,p,q] E (0,0))else(cl y).or (r y),⟨x,p,q,cl,r,aK,⟨ra,rb⟩,a1,d1,bh aK,C,A,λy o h=>⟨J y o h,az⟩,λy o h=>?_,λy o h=>?_⟩,λy o h=>?_,λy=>?_,λy m o=>?_⟩
  .have:y≠x:=az;dsimp only;rw[bc this,h];cases h2:cl y with
   |none=>rfl
   |some o2=>grind
  .by_cases e:y=x
   .grind
   dsimp only at h;rw[bc e]at h;cases h2:cl y with
   |none=>grind
   |some o2=>grind
  .rw[hw];by_cases e:y=x
   .grind
   dsimp only at h;rw[bc e]at h;cases h2:cl y with
   |none=>grind
   |some o2=>grind
  .grind
  rw[hM];grind
 refine⟨{s with β:=lcK rt j q (lcK lt i p (s.β.set l ⟨.pointer (O ⟨x,0,af⟩),x::(g++f)⟩))},rfl,?_⟩
 classical
 have il:lt≠.nil->i<V U/\i≠l:=λh=>⟨(cO.1 (hi h)).1,λe=>by grind⟩
 have jl:rt≠.nil->j<V U/\j≠l:=λh=>⟨(cO.1 (hj h)).1,λe=>by grind⟩
 have n:s.β[l]?=O ⟨.pointer (O ⟨x,0,af⟩),[x]⟩:=z;let T:Nat->Prop:=λk=>k=l∨(lt≠.nil/\k=i)∨(rt≠.nil/\k=j);have D:∀k,(Hj rt j (Hj lt i (U.set l (.cJ (qG E (.nd lt a b rt))))))[k]?=if k=l then O (.cJ (qG E (.nd lt a b rt)))else if(lt≠.nil/\k=i)∨(rt≠.nil/\k=j)then O .cg else U[k]?:=λk=>by cases lt<;>cases rt<;>simp only[Hj,List.getElem?_set,List.length_set]<;>grind
 have d:∀k,(lcK rt j q (lcK lt i p (s.β.set l ⟨.pointer (O ⟨x,0,af⟩),x::(g++f)⟩)))[k]?=if k=l then O ⟨.pointer (O ⟨x,0,af⟩),x::(g++f)⟩else if rt≠.nil/\k=j then O ⟨q,[]⟩else if lt≠.nil/\k=i then O ⟨p,[]⟩else s.β[k]?:=λk=>by cases lt<;>cases rt<;>simp only[lcK,List.getElem?_set,List.length_set]<;>grind
 have Xx:∀(t:Tr) (i:Nat) (l:List bq),V (Hj t i l)=V l:=λt i l=>by cases t<;>simp[Hj]
 have ai7:∀(t:Tr) (i:Nat) (v:ah) (l:List Loc),V (lcK t i v l)=V l:=λt i v l=>by cases t<;>simp[lcK]
 have eL:∀y∈g,lt≠.nil/\s.β[i]?=O ⟨p,g⟩:=λy m=>by grind
 have eR:∀y∈f,rt≠.nil/\s.β[j]?=O ⟨q,f⟩:=λy m=>by grind
 refine⟨⟨_,n,_,(d l).trans (bh aK),aK⟩,aH.Nw (T:=T) hh aK aK aK az az (λk hk hT=>az) (λk K hk hK y m=>?_) (λk k' K K' hk hk' hK hK' y m ak=>?_) (λk B K hk mT hK=>?_) (λ_ k B K hk mT hK=>?_)⟩
 .rw[d]at hK;split at hK
  .cases hK;rcases eQ.1 m with rfl|m
   .grind
   rcases eZ.1 m with m|m
   .grind
   grind
  have:k<V s.β∨V s.β<=k:=dy _ _;grind
 .rw[d]at hK hK';grind
 .rw[D,d];rcases hk with rfl|⟨h,rfl⟩|⟨h,rfl⟩
  .rw[n]at hK;cases hK;rw[hB]at mT;cases mT;exact⟨_,_,bh aK,bh aK,aK⟩
  .have H:s.β[k]?=O ⟨p,g⟩:=az;rw[hi h]at mT;rw[H]at hK;cases mT;cases hK;grind[ji]
  have H:s.β[k]?=O ⟨q,f⟩:=az;rw[hj h]at mT;rw[H]at hK;cases mT;cases hK;grind[ji]
 rw[D]at mT;rw[d]at hK;split at mT
 .grind
 split at mT
 .cases mT;trivial
 grind
def tC:Tr->C
 |.nil=>.ki
 |.nd l a b r=>.rp [.int .i64 a,.int .i64 b,tC l,tC r]
def qG.rd{E:av}{M:Mem}:∀{t:Tr}{v:ah}{ch:Nat->Option Obj},qG E t v ch->(∀y vs E' z,ch y=O (.cells vs E' z)->∀o u,vs[o]?=O u->M y o=O u)->Rd M v (tC t)
 |.nil,_,_,h,_=>by rw[h.1];exact .ki
 |.nd l a b r,_,ch,⟨x,i,n,cl,w,e,⟨k,m⟩,h1,h2,f,_,_,g,p,_⟩,d=>by
  subst e;have q:=h1.rd (M:=M) λy vs E' z h=>d y vs E' z (g y _ h).2;have g2:=h2.rd (M:=M) λy vs E' z h=>d y vs E' z (p y _ h);have s:=d x _ _ _ f;refine Rd.rp x 0 (λj=>[Value.int .i64 a,.int .i64 b,i,n].getD j ai) (λj c hj=>?_) (λj c hj=>?_)
  .match j,hj with
   |0,_|1,_|2,_|3,_=>grind
  .match j,hj with
   |0,hj=>cases hj;exact Rd.int k
   |1,hj=>cases hj;exact Rd.int m
   |2,hj=>grind
   |3,hj=>grind
def aH.F9(hh:aH U s){t:Tr}(hB:U[l]?=O (.cJ (qG E t))):
  ∃s',s'.w=s.w/\s'.β=s.β/\(∀L,s.β[l]?=O L->Rd s'.M L.v (tC t))/\aH (U.set l .cg) s'/\eO U s (U.set l .cg) s':=by
 have j:l<V U:=(cO.1 hB).1;have i:=hh.len;have g:=bD (show l<V s.β by omega);generalize s.β[l]=L at g;obtain⟨ch,p,h1,h2,A⟩:=hh.box l _ L hB g;let M':Mem:=λy o=>match ch y with|some (.cells vs _ _)=>vs[o]?|_=>s.M y o
 have f:∀y,y∉L.bs->∀o,M' y o=s.M y o:=λy c o=>by grind
 have m:∀y o v,s.M y o=O v->M' y o=O v:=λy o v d=>by grind
 have st:eO U s (U.set l .cg) {s with M:=M'}:=by
  refine⟨bm _,λ_ _ _=>rfl,m,λy _ x o=>f y (x L (b9 g)) o,λK b y c=>.inr ⟨K,b,c⟩,λk B K a b=>?_,Z,Z,Z,Z⟩;by_cases e:l=k
  .subst e;rw[hB]at a;cases a;exact⟨.cg,K,by grind,b,Z⟩
  exact⟨B,K,by grind,b,.refl _ _⟩
 refine⟨{s with M:=M'},rfl,rfl,λK b=>?_,⟨λy o v d=>?_,by grind,λk B K a b=>?_,hh.gY,hh.lt,hh.own⟩,st⟩
 .rw[g]at b;cases b;exact p.rd λy vs E' z c o u C=>by grind
 .by_cases c:y∈L.bs
  .have d:M' y o=O v:=d;cases n:ch y with
   |none=>grind
   |some q =>
    have r:=h1 y q n;simp only[M',n]at d;split at d
    .rename_i vs E' z e;cases e;show s.w.cell? _=_;simp[a9,r,d]
    grind
  exact hh.mem y o v ((f y c o).symm.trans d)
 by_cases e:l=k
 .subst e;rw[js j]at a;cases a;trivial
 rw[mD e]at a;exact(hh.box k B K a b).nk st.ext i λy c=>⟨Z,λo=>f y (λh=>e (hh.gY l k L K g b y h c)) o⟩
end
section
variable {X:Cx P}
def c7.ab5{a:Act}{t:Nat}{d:D}(f:c7 N U s J a)(hl:V s.β=V U)(st:eO U s U' s')(h:ey U' s' (a.tmps.getD t ai) d):c7 N U' s' ((t,d)::J) a :=
 ⟨f.size,f.defers.imp λ_ h1=>h1.mono st.ext,λu=>by
  simp only[look];cases hb:aC t u with
  |false=>exact(f.ff u).mono st.ext hl
  |true=>grind[Nat.eq_of_beq_eq_true]⟩
def I.Th(t l:Nat){E:av}{lt rt:Tr}{a b:Int}(j:look J t=.e (.bX (.oY l)))(hl:eH l U=O (.cJ (qG E (.nd lt a b rt))))(kk:I X N Qf (.code c::K) .normal ((t,cE l 0)::J) (U.set l (.cells E [.c (.int .i64 a),.c (.int .i64 b),D9 lt (V U),D9 rt (V U+V (Ao E lt))])++(Ao E lt++Ao E rt))):I X N Qf (.code c::K) .normal J U:=by refine I.c8 (λs q h hh=>?_) kk;have i:=h.ff t;rw[j]at i;obtain⟨_,L,k,n,_⟩:=i;obtain⟨s',h1,⟨x,p,h2,f,o⟩,m,g⟩:=hh.Th (cD hl);rw[k]at h2;cases h2;have d:l<V U:=(cO.1 (cD hl)).1;refine⟨s',h1,h.ab5 hh.len g ⟨λB hB=>?_,_,x,o,f,n.trans f⟩,m,g⟩;rw[j8 az,js d]at hB;cases hB;rfl
def I.lN(t l i j:Nat){E:av}{lt rt:Tr}{a b:Int}(v:look J t=cE l 0)(hl:eH l U=O (.cells E [.c (.int .i64 a),.c (.int .i64 b),D9 lt i,D9 rt j]))(hi:lt≠.nil->eH i U=O (.cJ (qG E lt)))(hj:rt≠.nil->eH j U=O (.cJ (qG E rt)))(g:lt≠.nil->rt≠.nil->i≠j)(kk:I X N Qf (.code c::K) .normal ((t,.e (.bX (.oY l)))::J) (Hj rt j (Hj lt i (U.set l (.cJ (qG E (.nd lt a b rt))))))):I X N Qf (.code c::K) .normal J U:=by
 refine I.c8 (λs q n hh=>?_) kk;have o:=n.ff t;rw[v]at o;obtain⟨_,L,x,w,A,C⟩:=o;obtain⟨s',h1,⟨z,h2,L',p,F⟩,y,m⟩:=hh.lN (cD hl) (λh=>cD (hi h)) (λh=>cD (hj h)) g;rw[w]at h2;cases h2;have f:l<V U:=(cO.1 (cD hl)).1;have e:(Hj rt j (Hj lt i (U.set l (.cJ (qG E (.nd lt a b rt))))))[l]?=O (.cJ (qG E (.nd lt a b rt)))∨(Hj rt j (Hj lt i (U.set l (.cJ (qG E (.nd lt a b rt))))))[l]?=O .cg:=by
  have r:(U.set l (.cJ (qG E (.nd lt a b rt))))[l]?=O (.cJ (qG E (.nd lt a b rt))):=js f;have D:∀(u:Tr) (k:Nat) (d:List bq),d[l]?=O (.cJ (qG E (.nd lt a b rt)))∨d[l]?=O .cg->(Hj u k d)[l]?=O (.cJ (qG E (.nd lt a b rt)))∨(Hj u k d)[l]?=O .cg:=λu k d h=>by
   cases u with
   |nil=>exact h
   |nd=>simp only[Hj,List.getElem?_set];grind
  grind
 refine⟨s',h1,n.ab5 hh.len m ⟨λB hB=>?_,L',p,?_,?_⟩,y,m⟩
 .rcases e with e|e<;>(rw[e]at hB;cases hB;rfl)
 .grind
 exact wj
def I.F9(t l:Nat){E:av}{u:Tr}(g:look J t=.e (.bX (.oY l)))(hl:eH l U=O (.cJ (qG E u)))(kk:I X N Qf (.code c::K) .normal ((t,b7 (tC u))::J) (ft.uV l .cg U)):I X N Qf (.code c::K) .normal J U:=by rw[lE]at kk;refine I.c8 (λs q a hh=>?_) kk;have d:=a.ff t;rw[g]at d;obtain⟨_,L,h,i,_⟩:=d;obtain⟨s',h1,_,f,j,b⟩:=hh.F9 (cD hl);exact⟨s',h1,a.ab5 hh.len b (show Rd _ _ _ from i▸f L h),j,b⟩
end
section
variable {T:List (Nat×TI)}
def bU.Xt(hT:dA P T){w z:aG}(h:o.op=.slice t x (O w) (O y) (O z)){G ie:TI}(H:bY T t=O G)(S:G.desc=.slice E)(Q:bY T E=O ie){tt:Bool}{u l p:IntKind}{i j m:Int}(N:∀s v,ey U s v (η x)->Rd s.M v (.sl tt ie.size n es))(X:η w=b7 (.int u i))(ak:η y=b7 (.int l j))(aa:η z=b7 (.int p m))(K:0<=i)(ab:i<=j)(h1:j<=m)(h2:m<=n):
  bU P o η U (b7 (.sl ae ie.size (j.toNat-i.toNat) (nY i.toNat es))) U:=by
 refine .dw λst ρ hh hr=>?_;have r:=N st _ (hr x);have get:∀(q:aG) (k:IntKind) (v:Int),η q=b7 (.int k v)->ρ q=.int k v:=λq k v D=>by have d:=hr q;rw[D]at d;replace d:=gG d;generalize ρ q=vq at d;cases d;rfl
 have A:=get w u i X;have B:=get y l j ak;have C:=get z p m aa;obtain⟨a,cap,vs,F,AK,L,Y,hF,hm⟩:=r.qp;rw[F]at r;have g:=(hT t G H).run_underlying (w:=st.w);rw[S]at g;have em:((m.toNat:Nat):Int)=m:=wD aq;have Z:((j.toNat:Nat):Int)=j:=wD aq;have hb:(bk W n cap (O (.int u i)) (O (.int l j)) (O (.int p m))).run P st.w=.ok (i.toNat,j.toNat,m.toNat) st.w:=by simp[bk,run_sliceBound (P:=P) st.w p m cap _ aq aq,run_sliceBound (P:=P) st.w l j m.toNat _ aq aq,run_sliceBound (P:=P) st.w u i j.toNat _ K aq]
 have R:(bk W n cap (O (.int u i)) (O (.int l j)) (O (.int p m))).events P st.w #[]=#[]:=by simp[bk,run_sliceBound (P:=P) st.w p m cap _ aq aq,run_sliceBound (P:=P) st.w l j m.toNat _ aq aq,eB (P:=P) st.w p m cap _ aq aq,eB (P:=P) st.w l j m.toNat _ aq aq,eB (P:=P) st.w u i j.toNat _ K aq]
 refine⟨.slice (if m.toNat=i.toNat then a else a.map (·.add (i.toNat*ie.size))) (j.toNat-i.toNat) (m.toNat-i.toNat),?_,?_,by simp[ar,h,F,A,B,C,Instr.sliceAt,g,Instr.slice,hb,R]⟩
 .simp[ar,h,F,A,B,C,Instr.sliceAt,g,Instr.slice,hb,(hT E ie Q).b6]
 cases r with
 |sl b off f _ _ _ hk ha hm' Qs =>
  refine Rd.sl b (off+i.toNat*ie.size) (λq j=>f (i.toNat+q) j) aq aq ay (λq D=>hk _ aq) (λJ=>?_) (λq D j c hj=>?_) (λq D j c hj=>Qs _ aq j c hj)
  .rw[bc aq,ha aq];simp[eg]
  have:=hm' (i.toNat+q) aq j c hj;grind
end
section
variable {X:Cx P}{Q:Post}{e:Exit}
def Wh(N:Nat)(Q:Post):Post:=λe J U=>∃J' U',(∀s a,c7 N U s J a->aH U s->∃s':St,s'.w=s.w/\c7 N U' s' J' a/\aH U' s'/\eO U s U' s')/\Q e J' U'
def Wh.of(h:Q e J U):Wh N Q e J U:=⟨J,U,λs a b hh=>⟨s,rfl,b,hh,.refl _ _⟩,h⟩
def Wh.step{J':Fr}(h:∀s a,c7 N U s J a->aH U s->∃s':St,s'.w=s.w/\c7 N U' s' J' a/\aH U' s'/\eO U s U' s')(k:Wh N Q e J' U'):Wh N Q e J U:=by obtain⟨c,σ2,h2,q⟩:=k;refine⟨c,σ2,λs a i hh=>?_,q⟩;obtain⟨m,e1,j,h1,b⟩:=h s a i hh;obtain⟨l,e3,g,f,d⟩:=h2 m a j h1;exact⟨l,e3.trans e1,g,f,b.trans d⟩
theorem Wh.freeze(t l:Nat){E:av}{cs:List A}{cc:List C}(d:look J t=cE l 0)(hl:eH l U=O (.cells E cs))(f:jB cs=O cc)(k:Wh N Q e ((t,b7 (.rp cc))::J) (ft.uV l .cg U)):Wh N Q e J U:=by rw[lE]at k;exact .step (λs a b hh=>c7.freeze t l d hl f b hh) k
def nG.gh(h:nG X N c (Wh N Q) J U):nG X N c Q J U:=by
 intro s a l hh b k cs S hb Hi hQ;refine h s a l hh b k cs S hb Hi λe p σ2 s2 a2 q m h2 pA=>?_;obtain⟨J',U',n,q⟩:=q;obtain⟨s',o,i,f,st⟩:=n s2 a2 m h2;have d:=st.pC h2;have g:=hQ e J' U' s' a2 q i f (pA.trans d);have j:gn s2 s':=.of h2 f o d;cases e<;>first
  |exact g.elim
  |exact .c8 j g
  |exactλpre=>.c8 j (g pre)
  |exactλpre hp=>.c8 j (g pre hp)
def nG.kR(J':Fr)(U':List bq){qs:List Prop}(h1:rf J J'=O ps)(j:aA ps)(h2:sW U U'=O qs)(g:aA qs)(k:nG X N c Q J' U'):nG X N c Q J U:=by intro s a h hh b kk cs S hb Hi hQ;have d:=jV h2 g;have st:=(d s hh).2.1;exact k s a ((h.le (dJ h1 j)).bs d hh) (d s hh).1 b kk cs S hb Hi λe f σ2 s2 a2 q i h2 pA=>hQ e f σ2 s2 a2 q i h2 ((st.pC hh).trans pA)
def nG.KU{f:aG}{ps:Array Tmp}{assign body:Code}{F:aO}{capD:List D}{U':ι->List bq}(d:∀s a,c7 N U s J a->aH U s->∃b:List ah,a.eval f=.func (.func F) #[] b.toArray/\cU U s b capD)(c:e9 X F (.e (.bX (.oY (V U)))::capD) (U++[.loop N J {state:=.ready,pending:=af,fn:=0,tmps:=#[],params:=ps,assign:=assign,body:=body,defers:=0}]) res U')(hk:∀i,∃r',(U' i)[V U]?=O (.loop N J r')/\r'.state≠.busy/\∃e,Ni r'.pending=O e/\Q e J ((U' i).set (V U) .cg++[.vr])):nG X N (.rangeFunc f ps assign body) Q J U :=
 nG.rangeFunc (r':=λi=>(hk i).choose) d c (λi=>⟨(hk i).choose_spec.1,(hk i).choose_spec.2.1⟩) λi=>(hk i).choose_spec.2.2
def e9.Xg{f:aO}{fn:Func}{args:List D}{U':ι->List bq}(l:P.funcs[f]?=O fn)(g:(fn.name== "runtime.NumGoroutine")=ae)(hb:fn.body=O c)(d:bP args.length fn.ntmps=W)(h:nG X fn.ntmps c (Wh fn.ntmps λe J σ1=>∃j,vv P fn U.length (res j) (U' j) e J σ1) (lu 0 args) U):e9 X f args U res U' :=
 e9.KW l g hb (fY d) λs a f i b k cs S hk Hi hQ=>nG.gh h s a f i b k cs S hk Hi hQ
def vv.cells(hT:dA P T){fn:Func}{a:Nat}{res:D}(ks:List Nat)(h:Ow T fn.results.toList ks J res=O ps)(c:aA ps)(d:l6 ks U=O U')(b:mI U'=W)(f:fa ks=W)(hk:∀j,j<a->ks[j]?=O j):vv P fn a res U' .ret J U:=by refine⟨.inl Z,ks,?_⟩;unfold Ow at h;grind[Fq.ofT]
end
def exA:A->Option ah
 |.c (.val v)=>O v
 |_=>af
def exL:List A->Option (List ah)
 |[]=>O []
 |a::r=>match exA a with
  |some v=>match exL r with
   |some q=>O (v::q)
   |none=>af
  |none=>af
def exD:D->Option ah
 |.e (.bX a)=>exA a
 |.e (.agg cs)=>match exL cs with
  |some l=>O (.agg l.toArray)
  |none=>af
 |_=>af
def OD:List D->Option (List ah)
 |[]=>O []
 |a::r=>match exD a with
  |some v=>match OD r with
   |some q=>O (v::q)
   |none=>af
  |none=>af
section
variable {X:Cx P}
def Sn{u:ah}:∀{a:A},jh U s v a->exA a=O u->v=u
 |.c (.val x),h,e=>by cases e;exact Rd.fM h
theorem So:∀{cs:List A}{vs us:List ah},fD U s vs cs->exL cs=O us->vs=us
 |[],[],us,_,e=>by cases e;rfl
 |[],_::_,_,h,_=>h.elim
 |_::_,[],_,h,_=>h.elim
 |a::r,v::vs,us,h,e=>by
  simp only[exL]at e;cases c:exA a with
  |none=>grind
  |some x =>
   cases b:exL r with
   |none=>grind
   |some q =>
    simp[c,b]at e;subst e;rw[Sn h.1 c,So h.2 b]
def abx{u:ah}:∀{d:D},ey U s v d->exD d=O u->v=u
 |.e (.bX a),h,e=>Sn h e
 |.e (.agg cs),⟨vs,b,h⟩,e=>by simp only[exD]at e;grind[So]
def FJ:∀{ds:List D}{vs us:List ah},cU U s vs ds->OD ds=O us->vs=us
 |[],[],us,_,e=>by cases e;rfl
 |[],_::_,_,h,_=>h.elim
 |_::_,[],_,h,_=>h.elim
 |a::r,v::vs,us,h,e=>by
  simp only[OD]at e;cases c:exD a with
  |none=>grind
  |some x =>
   cases b:OD r with
   |none=>grind
   |some q =>
    simp[c,b]at e;subst e;rw[abx h.1 c,FJ h.2 b]
def jf(P:aR)(N:Nat)(o:aJ)(J:Fr)(U:List bq)(f:aO)(args:List ah):Prop:=∀s a,c7 N U s J a->∀w,(ar a.eval o).run P w=(callFunc f args.toArray).run P w/\(ar a.eval o).events P w #[]=(callFunc f args.toArray).events P w #[]
def jf.vG{f:aO}{args:List ah}(ho:o.op=.call {callee:=.value (.func f),args:=xs,argTypes:=lh})(c:OD (xs.toList.map (ck J))=O args):jf P N o J U f args:=by
 intro s a b w;have h1:=FJ (mU (dz b) xs.toList) c;have h2:xs.map a.eval=args.toArray:=az;have d:a.eval (.func f)=.func (.func f) #[] #[]:=rfl;have e:ar a.eval o=callFunc f args.toArray:=by simp[ar,ho,resolve,d,Deferred.ofValue,invoke,h2]
 grind
def jf.invoke{f:aO}{i:Array aG}{name:String}{h:av}{u r:ah}{args:List ah}(ho:o.op=.call {callee:=.invoke x name,args:=i,argTypes:=lh})(l:ck J x=b7 (.val (.iface h u)))(k:OD (i.toList.map (ck J))=O args)(hm:∀w,(Go.method (P.types.size+Made.depth) h u name).run P w=.ok (f,r) w/\∀es,(Go.method (P.types.size+Made.depth) h u name).events P w es=es):jf P N o J U f (r::args):=by
 intro s a j w;have g:=dz j x;rw[l]at g;have g:=Rd.fM (gG g);have h1:=FJ (mU (dz j) i.toList) k;have b:∀w,(program:Sem aR).run P w=.ok P w:=λw=>by simp
 have d:∀w es,(program:Sem aR).events P w es=es:=λw es=>by simp
 rw[tB ho g,h1];constructor
 .simp[callMethod,b,(hm w).1]
 simp[callMethod,b,d,(hm w).1,(hm w).2]
structure nC(P:aR)(f:aO)(e:Array ah->Sem ah):Prop where
 fn:∃fn,P.funcs[f]?=O fn/\(fn.name== "runtime.NumGoroutine")=ae/\fn.body.isNone=W/\Extern.findNext fn=af/\Extern.find fn=O e
def nC.run{f:aO}{e:Array ah->Sem ah}(h:nC P f e){args:Array ah}(d:(e args).run P w=.ok v w'):(callFunc f args).run P w=.ok (.value v) w'/\∀es,(callFunc f args).events P w es=(e args).events P w (es.push ⟨.mark (.extern f),ae,W⟩):=by
 obtain⟨fn,c,a,hb,g,b⟩:=h.fn;have h1:fn.name≠ "runtime.NumGoroutine":=az;have h2:fn.body=af:=fC;constructor
 .rw[run_callFunc_extern c a hb g b,d];rfl
 intro es;simp[callFunc,c,h1,h2,g,b,d]
def gO.ext{x:ι->D}{U':ι->List bq}{f:aO}{e:Array ah->Sem ah}{args:List ah}(j:jf P N o J U f args)(g:nC P f e)(h:∀s,aH U s->∃i s' v,(e args.toArray).run P s.w=.ok v s'.w/\ey (U' i) s' v (x i)/\aH (U' i) s'/\eO U s (U' i) s'/\∀es,∀c∈(e args.toArray).events P s.w es,c∈es∨pF s c):gO P N o J U x U':=by
 intro s a k hh;obtain⟨h1,h2⟩:=j s a k s.w;obtain⟨i,s',v,l,q2,q3,q4,n⟩:=h s hh;obtain⟨d,m⟩:=g.run l;refine⟨i,.value v,s',v,h1.trans d,.inl Z,q2,q3,q4,λc b=>?_⟩;rw[h2,m]at b;rcases n _ c b with h|h
 .simp at h;subst h;exact .inr ⟨f,Z⟩
 grind
def gO.KN{f:aO}{e:Array ah->Sem ah}{args:List ah}{x:D}(b:jf P N o J U f args)(a:nC P f e)(d:∀w,(e args.toArray).run P w=.ok v w)(g:∀w es,(e args.toArray).events P w es=es)(c:∀s,ey U s v x):gO P N o J U (λ_:Unit=>x) λ_=>U :=
 .ext b a λs hh=>⟨(),s,v,d s.w,c s,hh,.refl _ _,λes ev h=>.inl az⟩
def gO.Sp{f:aO}{e:Array ah->Sem ah}{args:List ah}{v:Nat->ah}{x:Nat->D}{u:ah}(c:jf P N o J U f args)(a:nC P f e)(k:∀w,(e args.toArray).run P w=.ok (v w.heap.size) (w.alloc (.cells #[u] E)))(m:∀w es,(e args.toArray).events P w es=es)(i:∀g U s,ey U s (v g) (x g)):
  gO P N o J U x λg=>U++[.cJ (fy g E u)] :=
 .ext c a λs hh=>by
  have st:eO U s U {s with w:=s.w.alloc (.cells #[u] E)}:=⟨by simp,λb hb _=>dF _ _ hb,λ_ _ _ h=>h,λ_ _ _ _=>rfl,λL d b hb=>.inr ⟨L,d,hb⟩,λl B L h1 h2=>⟨B,L,h1,h2,.refl _ _⟩,rfl,rfl,rfl,rfl⟩
  have n:∀o,s.M s.w.heap.size o=af:=λo=>by
   cases hm:s.M s.w.heap.size o with
   |none=>rfl
   |some v=>exact absurd (hh.block hm) (Nat.lt_irrefl _)
  have h1:=(hh.C4 (w':=s.w.alloc (.cells #[u] E)) (M':=s.M) ay (λb hb=>dF s.w _ hb) (λb hb o=>rfl) (λb hb o v hm=>by have:=hh.block hm;omega) Z Z Z).1;obtain⟨j,g2⟩:=h1.jQ (B:=.cJ (fy s.w.heap.size E u)) (L:=⟨.pointer (O ⟨s.w.heap.size,0,af⟩),[s.w.heap.size]⟩) st rfl hh
   ⟨λb=>if b=s.w.heap.size then O (.cells #[u] E (0,0))else af,⟨rfl,by simp,λb hb=>by grind⟩,λb o hb=>by
    by_cases e:b=s.w.heap.size
    .subst e;simp only[cv]at hb;grind[gg]
    grind,λb=>by by_cases e:b=s.w.heap.size<;>simp[e],λb hb o=>by grind⟩
   (λb hb=>by simp_all)
  exact⟨s.w.heap.size,_,_,k s.w,i _ _ _,j,g2,λes ev h=>.inl az⟩
def fy.own{g:Nat}(hl:eH l U=O (.cJ (fy g E v)))(hh:aH U s):s.w.heap[g]?=O (.cells #[v] E (0,0))/\s.w.cell? ⟨g,0,af⟩=O v/\(∀j,pF s ⟨.cell ⟨g,j,af⟩,ae,ae⟩)/\∀j,pF s ⟨.cell ⟨g,j,af⟩,W,ae⟩:=by have hB:=cD hl;have b:l<V s.β:=nh;have a:=bD b;generalize s.β[l]=L at a;obtain⟨ch,⟨h1,h2,i⟩,h,f,e⟩:=hh.box l _ L hB a;have d:=h g _ h2;have c:g∈L.bs:=(f g).2 az;exact⟨d,by simp[a9,d],λj=>nq (b9 a) c,λj=>l4 (b9 a) c (e g c _)⟩
def fy.kO{l g:Nat}{E:av}{v u:ah}(hl:eH l U=O (.cJ (fy g E v)))(hh:aH U s):aH (U.set l (.cJ (fy g E u))) {s with w:=s.w.setRow g #[u]}/\eO U s (U.set l (.cJ (fy g E u))) {s with w:=s.w.setRow g #[u]}:=by
 have hl:=cD hl;have d:l<V s.β:=nh;have h:=bD d;generalize s.β[l]=L at h;obtain⟨ch,⟨h1,h2,p⟩,c,i,n⟩:=hh.box l _ L hl h;have m:g∈L.bs:=(i g).2 az;have e:=c g _ h2;have f:∀a,a≠g->(s.w.setRow g #[u]).heap[a]?=s.w.heap[a]?:=λa b=>setRow_other s.w g a _ b;have k:=setRow_heap s.w g #[v] #[u] E (0,0) e;have j:s.β.set l L=s.β:=tf;have q:=hh.kO (l:=l) (H':=fy g E u) (L':=L) (w':=s.w.setRow g #[u]) hl h Z ay
  (λa b r=>f a az) (λa b=>.inl b)
  ⟨λa=>if a=g then O (.cells #[u] E (0,0))else af,⟨h1,by simp,λa b=>by grind⟩,λa o b=>by grind,λa=>by grind⟩ Z Z Z
 grind
def gO.ZR{f:aO}{e:Array ah->Sem ah}{args:List ah}{u:ah}{x:D}(l:Nat){g:Nat}(hl:eH l U=O (.cJ (fy g E u)))(d:jf P N o J U f args)(c:nC P f e)(m:∀w,w.cell? ⟨g,0,af⟩=O u->(e args.toArray).run P w=.ok v w/\∀es,∀a∈(e args.toArray).events P w es,a∈es∨a=⟨.cell ⟨g,0,af⟩,ae,ae⟩)(j:∀s,ey U s v x):gO P N o J U (λ_:Unit=>x) λ_=>U :=
 .ext d c λs hh=>by obtain⟨_,i,q2,_⟩:=fy.own hl hh;obtain⟨b,k⟩:=m s.w i;exact⟨(),s,v,b,j s,hh,.refl _ _,λes a h=>(k es a h).imp id λn=>by grind⟩
def gO.aby{f:aO}{e:Array ah->Sem ah}{args:List ah}{u w0:ah}{x:D}(l r:Nat){g g2:Nat}{E2:av}(hl:eH l U=O (.cJ (fy g E w0)))(b:eH r U=O (.cJ (fy g2 E2 u)))(i:jf P N o J U f args)(d:nC P f e)(m:∀w,w.heap[g]?=O (.cells #[w0] E (0,0))->w.cell? ⟨g2,0,af⟩=O u->(e args.toArray).run P w=.ok v (w.setRow g #[u])/\∀es,∀a∈(e args.toArray).events P w es,a∈es∨a=⟨.cell ⟨g2,0,af⟩,ae,ae⟩∨a=⟨.cell ⟨g,0,af⟩,W,ae⟩)(k:∀U s,ey U s v x):gO P N o J U (λ_:Unit=>x) λ_=>U.set l (.cJ (fy g E u)) :=
 .ext i d λs hh=>by obtain⟨q,_,_,p4⟩:=fy.own hl hh;obtain⟨_,j,q2,_⟩:=fy.own b hh;obtain⟨c,t⟩:=m s.w q j;obtain⟨p,n⟩:=fy.kO (u:=u) hl hh;refine⟨(),_,v,c,k _ _,p,n,λes a h=>?_⟩;grind
def I.sD{x:ι->D}{U':ι->List bq}(e:u7 all J o=W)(r:g7 N o.dst=W)(h:gO P N o J U x U')(k:∀i,I X N Qf (.ops all rest::K) .normal (lU o.dst (x i) J) (U' i)):I X N Qf (.ops all (o::rest)::K) .normal J U:=by
 intro s a f hh b kk cs S idx hb jb hQ;cases idx with
 |nil=>exact jb.elim
 |cons j idx =>
 refine vH hb jb.1 (iC e _ _ _ f) λB d=>?_;have c:=hh.rely d;have g:=f.rely d hh;obtain⟨i,A,s',v,h1,h2,u,n,p,w⟩:=h B a g c;have m:=p.pC c;refine⟨A,s',v,h1,h2,⟨⟨U,U' i,c,n,p⟩,w⟩,?_⟩;refine k i s' _ ?_ n b kk cs S idx hb jb.2 λl σ2 s2 a2 q y h2 st=>hQ l σ2 s2 a2 q y h2 ((d.db.trans m).trans st);cases z:o.dst with
 |none=>exact g.mono m c.len
 |some t=>exact(g.mono m c.len).put (iB r t z) u
def I.abz(t:Nat){T:av}{cs:List C}(h:look J t=b7 (.Fy T (.rp cs)))(kk:∀p:Addr,I X N Qf (.code c::K) .normal ((t,jA (.iface T (.pointer (O p))))::J) U):I X N Qf (.code c::K) .normal J U:=by
 refine AW.x0 (ι:=Addr) (J':=λp=>(t,jA (.iface T (.pointer (O p))))::J) (U':=λ_=>U) (λs a d hh=>?_) kk;have h1:=d.ff t;rw[h]at h1;have h1:=gG h1;generalize g:a.tmps.getD t ai=v at h1;cases h1 with
 |@Fy _ u _ h2 hc =>
  cases h2 with
  |rp b off f hm hr =>
   refine⟨⟨b,off,af⟩,s,Z,⟨d.size,d.defers,λu=>?_⟩,hh,.refl _ _⟩;simp only[look];cases hb:aC t u with
   |false=>exact d.ff u
   |true =>
    have e:=dH hb;subst e;rw[g];exact Rd.val Z
def I.ZS(t:Nat){T:av}{x:ah}(b:look J t=b7 (.Fy T (.val x)))(kk:I X N Qf (.ops all rest::K) .normal ((t,jA (.iface T x))::J) U):I X N Qf (.ops all rest::K) .normal J U:=by
 refine kA.le kk λU s v u a=>?_;simp only[look];cases hb:aC t u with
 |false=>exact a
 |true =>
  have e:=dH hb;subst e;rw[b]at a;have h1:Rd s.M v (.Fy T (.val x)):=a;cases h1 with
  |@Fy _ d _ h2 hc =>
   obtain rfl:=Rd.fM h2;exact Rd.val Z
def I.M9(t l:Nat)(q:look J t=cE l 0)(hl:eH l U=O (.cells E [.c .ki]))(kk:∀g,I X N Qf (.code c::K) .normal ((t,jA (.pointer (O ⟨g,0,af⟩)))::J) (U.set l (.cJ (fy g E (.pointer af))))):I X N Qf (.code c::K) .normal J U:=by
 refine AW.x0 (ι:=Nat) (J':=λg=>(t,jA (.pointer (O ⟨g,0,af⟩)))::J) (U':=λg=>U.set l (.cJ (fy g E (.pointer af)))) (λs a j hh=>?_) kk;have hl:=cD hl;have i:l<V s.β:=nh;have f:=bD i;generalize s.β[l]=L at f;obtain⟨g,vs,rfl,z,p,A⟩:=hh.box l _ L hl f
 match vs,p with
 |[v],⟨m,_⟩ =>
  have m:Rd s.M v .ki:=m;cases m;obtain⟨r,q2⟩:=hh.iA (M':=s.M) (w':=s.w) (B':=.cJ (fy g E (.pointer af))) (L':=⟨.pointer (O ⟨g,0,af⟩),[g]⟩) hl f rfl (bm _) (λ_ _ _=>rfl) (λ_ _ _ _=>rfl) (λ_ _ _ h=>h) hh.mem (λb hb=>⟨.inl hb,hh.lt _ (b9 f) b hb⟩) rfl rfl rfl
   ⟨λb=>if b=g then O (.cells #[.pointer af] E (0,0))else af,⟨rfl,by simp,λb hb=>by grind⟩,λb o hb=>by grind,λb=>by by_cases e:b=g<;>simp[e],λb hb o=>by grind⟩
  refine⟨g,{s with β:=s.β.set l ⟨.pointer (O ⟨g,0,af⟩),[g]⟩},rfl,⟨j.size,j.defers.imp λ_ h1=>h1.mono q2.ext,λu=>?_⟩,r,q2⟩;simp only[look];cases hb:aC t u with
  |false=>exact(j.ff u).mono q2.ext hh.len
  |true =>
   have e:=dH hb;subst e;have h1:=j.ff t;rw[q]at h1;obtain⟨_,x,y,d,k,n⟩:=(h1:jh U s _ (.ptr l 0));rw[f]at d;cases d;cases k;rw[n];exact Rd.val Z
end
def aH.HI{σ1:List bq}{k:Nat}{bf:tn}{xs:List ah}(hh:aH (σ1++[.cJ (jS E k bf n xs)]) s)(d:kU k n es xs)(h:wV (V σ1) σ1=W):
  ∃s2:St,aH σ1 s2/\gn s s2/\Rd s2.M (qw bf n) (.sl ae k n es)/\∀{U0:List bq} {s0:St},dE U0 s0 (σ1++[.cJ (jS E k bf n xs)]) s->U0.length<=V σ1->dE U0 s0 σ1 s2:=by
 have hB:(σ1++[bq.cJ (jS E k bf n xs)])[V σ1]?=O (.cJ (jS E k bf n xs)):=ay
 obtain⟨L,M',p,m,l,r,u,t⟩:=jS.DN hB es (λi hi=>⟨d.wid i hi,λM j c x hj hx=>by
  obtain⟨y,A,z⟩:=d.Ae i hi j c hj
  grind⟩) s hh
 obtain⟨q,q2⟩:=hh.iA (M':=M') (w':=s.w) (B':=.cg) (L':=⟨L.v,[]⟩) hB p rfl (bm _) (λ_ _ _=>rfl) (λb _ hb o=>l b hb o) m r ay rfl rfl rfl an;have a:(σ1++[bq.cJ (jS E k bf n xs)]).set (V σ1) .cg=σ1++[.cg]:=ay;rw[a]at q q2;refine⟨_,q.drop (rest:=[.cg]) h,⟨Z,m,λb hb o=>l b (hb L (b9 p)) o,r,λb hb=>?_⟩,t,λ{U0 s0} e g=>(e.trans (q2.pC hh)).drop (rest:=[.cg]) g⟩;rcases hb with hb|⟨L',f,hb⟩
 .exact .inl hb
 have h1:=hO f;grind
def e9.HI{P:aR}{ι:Type}{X:Cx P}{f:aO}{args:List D}{U:List bq}{σ1:ι->List bq}{E k:Nat}{n:ι->Nat}{bf:ι->tn}{xs:ι->List ah}{es:ι->Nat->List C}(h:e9 X f args U (λi=>jA (qw (bf i) (n i))) (λi=>σ1 i++[.cJ (jS E k (bf i) (n i) (xs i))]))(b:∀i,kU k (n i) (es i) (xs i))(d:∀i,wV (V (σ1 i)) (σ1 i)=W)(a:∀i,V U<=V (σ1 i)):e9 X f args U (λi=>b7 (.sl ae k (n i) (es i))) σ1:=by refine⟨h.1,λs vs hr hh S cs hS=>h.2 s vs hr hh S cs λi fr v s' hl nj lj st=>?_⟩;obtain⟨s2,c1,c2,c3,c4⟩:=lj.HI (b i) (d i);have g:v=qw (bf i) (n i):=Rd.fM nj;exact .c8 c2 (hS i fr v s2 (hl.mono c2.mem) (by rw[g];exact c3) c1 (c4 st (a i)))
section
open Go.Conc
def jk(s:St):Prop:=∀b o v,s.M b o=O v->s.w.cell? ⟨b,o,af⟩=O v
def nn(c:Nat->Prop):Go.Loc->Prop
  | .cell a=>c a.block
  | .obj r=>c r
  | _=>False
structure jI(c:Nat->Prop)(s:St):Prop where
  own:∀b,c b->¬s.own b
  β:∀b,c b->∀L∈s.β,b∉L.bs
  M:∀b,c b->∀o,s.M b o=af
  lt:∀b,c b->b<s.w.heap.size
section
variable {c:Nat->Prop}
def jI.step(h:jI c s)(st:eO U s U' s'):jI c s':=by
  refine⟨λb hb=>by rw[st.own];exact h.own b hb,λb hb L d a=>?_,λb hb o=>by rw[st.lJ b (h.lt b hb) (h.β b hb)];exact h.M b hb o,λb hb=>eb (h.lt b hb) st.size⟩;rcases st.Ab L d b a with h1|⟨f,e,h1⟩
  · exact absurd (h.lt b hb) (pR.2 h1)
  · exact h.β b hb f e h1
theorem jI.c8(h:jI c s)(k:gn s s'):jI c s':=by
  have d:∀b,c b->¬(s'.own b∨∃L∈s'.β,b∈L.bs):=λb hb e=>by
    rcases k.blk b e with e|⟨L,a,e⟩
    · exact h.own b hb e
    · exact h.β b hb L a e
  exact⟨λb hb e=>d b hb (.inl e),λb hb L a e=>d b hb (.inr ⟨L,a,e⟩),λb hb o=>by rw[k.lJ b (h.β b hb)];exact h.M b hb o,λb hb=>by rw[k.w];exact h.lt b hb⟩
def jI.jz(h:jI c s)(k:qu s s'):jI c s':=by
  refine⟨λb hb=>by rw[k.own];exact h.own b hb,λb hb=>by rw[k.β];exact h.β b hb,λb hb o=>?_,λb hb=>by rw[k.w];exact h.lt b hb⟩;cases e:s'.M b o with
  | none=>rfl
  | some v=>rw[<-k.RG b o v e,h.M b hb o]
def jI.at(h:jI c s)(d:Nat):jI c {s with w:=s.w.at d}:=⟨h.own,h.β,h.M,h.lt⟩
def jk.at(h:jk s)(d:Nat):jk {s with w:=s.w.at d}:=h
theorem jk.c8(k:gn s s'):jk s':=λb o v a=>by rw[k.w];exact k.cell b o v a
def jk.jz(h:jk s)(k:qu s s'):jk s':=λb o v a=>by rw[k.w];exact h b o v (k.RG b o v a)
def jk.lt(h:jk s){o:Nat}(a:s.M b o=O v):b<s.w.heap.size:=by
  have:=h b o v a;rcases dy b s.w.heap.size with h1|h1
  · exact h1
  · simp[a9,EZ h1]at this
def cK.at(h:jk s)(d:Nat):cK s {s with w:=s.w.at d}:=⟨rfl,rfl,rfl,bm _,λ_ _=>rfl,h,rfl,rfl,rfl⟩
def aaX{e:bg}(n:aH U s)(k:jI c s)(g:pF s e){B:Nat}(hB:s.w.heap.size<=B):EvL (nn c) B e:=by
  obtain⟨l,wr,p⟩:=e;cases l with
  | cell a =>
    obtain⟨i,j,b⟩:=g;simp only at i j b;subst i;have key:¬c a.block/\a.block<s.w.heap.size:=by
      rcases b with b|⟨⟨L,h,b⟩,_⟩|⟨_,v,b⟩
      · exact b.elim
      · exact⟨λx=>k.β _ x L h b,n.lt L h _ b⟩
      · refine⟨λx=>?_,jk.lt n.mem b⟩
        rw[k.M _ x]at b;cases b
    exact evL_cell a wr key.1 (eb key.2 hB)
  | obj r =>
    obtain⟨i,j⟩:=g;simp only at i j;subst i;obtain⟨L,h,b⟩:=j.resolve_left id;refine⟨λx d o=>?_,by simp,by simp,?_⟩
    · simp[aV,MemAct.touch?]at d
      subst d;exact absurd b (k.β _ o L h)
    · simp[aV,MemAct.low,Loc.low]
      exact eb (n.lt L h _ b) hB
  | mark m =>
    simp only[pF]at g;rcases g with rfl|⟨f,rfl⟩
    · exact⟨λx d=>by simp[aV,MemAct.touch?]at d,by simp,by simp,by simp[aV,MemAct.low]⟩
    · exact⟨λx d=>by simp[aV,MemAct.touch?]at d,by simp,by simp,by simp[aV,MemAct.low]⟩
  | _=>exact g.elim
end
def qM(t:Trace):Prop:=∀a,NoRelease a t
def qM.app{t:Trace}(h:qM t){g:Nat}{fn:aO}{pos:String}{es:Array bg}(b:∀e∈es,∀a,e.loc≠.mark (.release a)):qM (t++MemOp.ofEvents g fn pos es) :=
  λa=>(h a).app λop k6 hx=>by grind[Go.Conc.mem_ofEvents,Go.ConcR.loc_of_ofEvent]
def Kw{e:bg}(d:pF s e)(a:Addr):e.loc≠.mark (.release a):=by intro b;obtain⟨loc,wr,g⟩:=e;simp only at b;subst b;rcases d with h|⟨f,h⟩<;>cases h
def AN{e:bg}(d:e.mute=W)(a:Addr):e.loc≠.mark (.release a):=by intro b;obtain⟨loc,wr,f⟩:=e;simp only at b;subst b;simp[Event.mute]at d
def Hf(P:aR)(g:au)(s:St)(T:au->St->Prop):Prop :=
  ∀(c:Nat->Prop) (gs:Array au) (sl:Option (Nat×Nat)) (t:Trace) (q:Nat->Nat),jk s->gs[0]?=O g->Leavers P t gs q->Past (nn c) s.w.heap.size t->jI c s->qM t ->
    ∃(N:Nat) (b:Nat->Prop) (a:Array au) (g':au) (s':St) (e:Option (Nat×Nat)) (d:Trace) (q':Nat->Nat),
      runNT P N (crowd gs s.w sl) t=(.next (crowd a s'.w e),d)/\jk s'/\a[0]?=O g'/\Leavers P d a q'/\Past (nn b) s'.w.heap.size d/\jI b s'/\qM d/\T g' s'
def Cx.cx(P:aR):Cx P:={main:=W,rely:=λs s'=>cK s s'/\∃d,s'={s with w:=s.w.at d},AL:=Hf P,kq:=λh=>h.1,Hs:=True}
instance (P:aR):(Cx.cx P).ln:=⟨an⟩
theorem xY{P:aR}:∀(N M:Nat) {m b:Machine} {t a:Trace},runNT P N m t=(.next b,a)->runNT P (N+M) m t=runNT P M b a
  | 0,M,m,b,t,a,h=>by simp[runNT]at h;grind
  | N+1,M,m,b,t,a,h=>by
    rw[show N+1+M=(N+M)+1 by omega];simp only[runNT]at h⊢;cases d:stepT P m with
    | mk r ops =>
      rw[d]at h;cases r with
      | next m1=>exact xY N M h
      | ended o w=>grind
def Hf.trans{T:au->St->Prop}(h:Hf P g s T)(k:∀g' s',T g' s'->Hf P g' s' S):Hf P g s S:=by intro c gs sl t q hm h0 hL hP hc hn;obtain⟨N,i,f,g',s',j,r,q',h1,h2,l,u,o,m,d,v⟩:=h c gs sl t q hm h0 hL hP hc hn;obtain⟨M,b,e,g2,s2,a,p,q2,k1,n⟩:=k g' s' v i f j r q' h2 l u o m d;exact⟨N+M,b,e,g2,s2,a,p,q2,by grind[xY],n⟩
def Hf.aaY{T:au->St->Prop}(Z:g.status=.running)(bX:∀(c:Nat->Prop) (gs:Array au) (d:Nat) (sl:Option (Nat×Nat)) (t:Trace) (q:Nat->Nat),jk s->gs[0]?=O g->Leavers P t gs q->Past (nn c) s.w.heap.size t->jI c s->qM t ->
      ∃(f:Array au) (G:au) (r:St) (ops:Array MemOp),runT P (crowd gs (s.w.at d) sl) 0=(.next (crowd f r.w sl),ops)/\jk r/\f[0]?=O G/\Leavers P (t++ops) f q/\Past (nn c) r.w.heap.size (t++ops)/\jI c r/\qM (t++ops)/\T G r):Hf P g s T:=by
  intro c gs sl t q;have key:∀(n:Nat) (gs:Array au) (d:Nat) (sl:Option (Nat×Nat)) (t:Trace) (q:Nat->Nat),Go.ConcN.sumTo gs.size q<=n->jk s->gs[0]?=O g->Leavers P t gs q->Past (nn c) s.w.heap.size t->jI c s->qM t ->
      ∃(N:Nat) (m:Nat->Prop) (l:Array au) (g':au) (s':St) (b:Option (Nat×Nat)) (A:Trace) (q':Nat->Nat),
        runNT P N (crowd gs (s.w.at d) sl) t=(.next (crowd l s'.w b),A)/\jk s'/\l[0]?=O g'/\Leavers P A l q'/\Past (nn m) s'.w.heap.size A/\jI m s'/\qM A/\T g' s':=by
    intro n;induction n with
    | zero=>?_
    | succ n H=>?_
    all_goals
      intro gs d sl t q hn hm h0 hL hP hc Qq;have K:∀g∈gs,awake g:=by
        intro x Q;obtain⟨i,hi,rfl⟩:=Array.mem_iff_getElem.1 Q;rcases oN i with rfl|h
        · grind[awake_of]
        · exact awake_of ((hL.old i _ h (jM hi)).status.elim .inl λx=>.inr (.inr x))
      obtain⟨i,x,d2,b,hi,M,u⟩:=crowd_pick (P:=P) (w:=s.w.at d) (sl:=sl) K ⟨0,g,h0,Z⟩;rw[show(s.w.at d).at d2=s.w.at d2 from aK]at u;rcases oN i with rfl|h
      · obtain⟨f,G,r,ops,k1,L,Y,ak,ab⟩:=bX c gs d2 b t q hm h0 hL hP hc Qq
        exact⟨1,c,f,G,r,b,t++ops,q,by simp only[runNT,u,k1],L,Y,ak,ab⟩
      · have F:=hL.old i x h hi
        have J:(i==0)=ae:=az;have AK:i<gs.size:=(gN.1 hi).1;cases p:q i with
        | zero=>rw[p]at F;rw[F.1]at M;cases M
        | succ k =>
          rw[p]at F;rcases F with⟨hf,_⟩|⟨_,g',es,B,C,X⟩
          · grind
          have aa:Go.ConcN.sumTo gs.size (Go.ConcN.upd q i k)+(k+1)=Go.ConcN.sumTo gs.size q+k:=by have:=Go.ConcN.sumTo_upd q k id AK;simpa[p]using this
          first
          | (exfalso;omega)
          | (have v:=runT_crowd_go (P:=P) (sl:=b) (i:=i) hi (by rw[J];exact C (s.w.at d2))
             have S:((gs.map (woken P x g' (s.w.at d2))).setIfInBounds i g').size=gs.size:=ay;obtain⟨N,m,l,g2,s',D,A,q',k1,L⟩:=H ((gs.map (woken P x g' (s.w.at d2))).setIfInBounds i g') d2 b (t++MemOp.ofEvents i x.frame.fn x.frame.place es) (Go.ConcN.upd q i k) az hm
              (by grind[woken_run])
              ⟨λj y hj hy=>by
                by_cases o:i=j
                · grind[Go.ConcN.upd_same,Deaf_own]
                · rw[rL o,Array.getElem?_map]at hy
                  obtain⟨z,R,rfl⟩:=vm.1 hy;have E:=hL.old j z hj R;rw[woken_quitsD E,Go.ConcN.upd_ne q k (Ne.symm o),Deaf_other t o _ (λop k6=>by grind[Go.Conc.mem_ofEvents])];exact E,λj hj=>by
                rw[Deaf_other t (g':=i) az _ (λop k6=>by grind[Go.Conc.mem_ofEvents])]
                exact hL.above j az⟩
              (hP.mute aq B) hc (Qq.app λe U a=>AN (B e U) a)
             exact⟨N+1,m,l,g2,s',D,A,q',by simp only[runNT,u,v];exact k1,L⟩)
  intro hm h0 hL hP hc Qq;have:=key _ gs s.w.drawn sl t q (bm _) hm h0 hL hP hc Qq
  rwa [show s.w.at s.w.drawn=s.w from aK]at this
def _root_.Go.Conc.Leavers.own{g':au}{t:Trace}{q:Nat->Nat}(d:Leavers P t gs q){ops:Array MemOp}(ho:∀op∈ops,op.g=0)(e:0<gs.size):Leavers P (t++ops) ((gs.map (woken P g g' w)).setIfInBounds 0 g') q :=
  ⟨λj y hj hy=>by
    have a:0≠j:=aq;rw[rL a,Array.getElem?_map]at hy;obtain⟨z,f,rfl⟩:=vm.1 hy;have b:=d.old j z hj f;rw[woken_quitsD b,Deaf_other t aq _ (λop k6=>ho op k6)];exact b,λj hj=>by
    rw[Deaf_other t (g':=0) az _ (λop k6=>ho op k6)]
    exact d.above j az⟩
def ia.cx{P:aR}{S:au->St->Prop}{g:au}{s:St}(h:ia (Cx.cx P) S g s):Hf P g s S:=by
  induction h with
  | stop h=>intro c gs sl t q hm h0 hL hP hc hn;exact⟨0,c,gs,_,_,sl,t,q,Z,hm,h0,hL,hP,hc,hn,h⟩
  | c8 hg _ f =>
    intro c gs sl t q hm h0 hL hP hc hn;have:=f c gs sl t q (.c8 hg) h0 hL (by rw[hg.w];exact hP) (hc.c8 hg) hn
    rwa [hg.w]at this
  | jz _ hg _ f =>
    intro c gs sl t q hm h0 hL hP hc hn;have:=f c gs sl t q (hm.jz hg) h0 hL (by rw[hg.w];exact hP) (hc.jz hg) hn
    rwa [hg.w]at this
  | AL hj _ f=>exact Hf.trans hj f
  | @step g s r ns ne hr h1 h2 _ f =>
    refine Hf.trans (Hf.aaY (T:=λg' s'=>∃l,(Cx.cx P).rely s l/\g'=r l/\s'=ns l) hr λc gs d sl t q hm h0 hL hP hc Qq=>?_) λg' s' ⟨l,k1,p,u⟩=>by subst p u;exact f l k1
    have b:(Cx.cx P).rely s {s with w:=s.w.at d}:=⟨cK.at hm d,d,rfl⟩;obtain⟨⟨U,U',hh,o,st⟩,k⟩:=h2 _ b;have n:0<gs.size:=(gN.1 h0).1;have j:jI c {s with w:=s.w.at d}:=hc.at d;exact⟨_,_,ns {s with w:=s.w.at d},_,runT_crowd_go (P:=P) (sl:=sl) (i:=0) h0 (show aU P (0==0) g (s.w.at d)=_ from h1 _ b),o.mem,by grind,
      hL.own (λop k6=>by grind[Go.Conc.mem_ofEvents]) n,((hP.mono st.size).own λe m=>aaX hh j (k e m) st.size),j.step st,Qq.app λe m a=>Kw (k e m) a,_,b,rfl,rfl⟩
inductive Rk where
 |leaf
 |node (f:St->Rk)
def Rk.lt:Rk->Rk->Prop
 |_,.leaf=>False
 |x,.node f=>∃s,x=f s∨Rk.lt x (f s)
def Rk.ir:∀r:Rk,Acc Rk.lt r
 |.leaf=>⟨_,λ_ h=>h.elim⟩
 |.node f=>⟨_,λ_ ⟨s,e⟩=>e.elim (λe=>e▸Rk.ir (f s)) λh=>(Rk.ir (f s)).inv h⟩
def Rk.W4:Nat->Rk
 |0=>.leaf
 |n+1=>.node λ_=>Rk.W4 n
def Rk.KO(n:Nat)(s:St):Rk.lt (Rk.W4 n) (Rk.W4 (n+1)):=⟨s,.inl Z⟩
def Vec(j:Nat)(a D:Nat->Rk):Prop:=∃i,i<j/\Rk.lt (a i) (D i)/\∀k,k≠i->a k=D k
def Ss:∀j,WellFounded (Vec j)
 |0=>⟨λ_=>⟨_,λ_ ⟨i,h,_⟩=>absurd h (jO i)⟩⟩
 |j+1=>by
  have k:=Ss j;have key:∀a:Rk,∀D:Nat->Rk,D j=a->Acc (Vec (j+1)) D:=by
   intro a;induction Rk.ir a with
   |intro a _ f =>
    intro D;induction k.apply D with
    |intro D _ d =>
     intro l;refine⟨_,λg h=>?_⟩;obtain⟨i,hi,b,hk⟩:=h;rcases dy i j with e|e
     .exact d g ⟨i,e,b,hk⟩ az
     grind
  exact⟨λD=>key _ D Z⟩
section
def mJ(X:Cx P)(E:St->St->Array bg->Prop)(S:au->St->Prop):Rk->au->St->Prop
 |.leaf,g,s=>S g s
 |.node f,g,s=>S g s∨(∃s',(gn s s'∨(X.Hs/\qu s s'))/\mJ X E S (f s) g s') ∨
   (g.status=.running/\∀a,X.rely s a->∃g' s' es,aU P X.main g a.w=.go g' s'.w es/\(vp a s' es∨E a s' es)/\mJ X E S (f a) g' s')
variable {X:Cx P}{E:St->St->Array bg->Prop}{c:au->St->Prop}
def gd(X:Cx P)(E:St->St->Array bg->Prop)(S:au->St->Prop)(g:au)(s:St):Prop:=∃r,mJ X E S r g s
theorem gd.c8(h:gn s s')(k:gd X E S g s'):gd X E S g s:=by obtain⟨r,k⟩:=k;exact⟨.node λ_=>r,.inr (.inl ⟨s',.inl h,k⟩)⟩
def gd.jz(hl:X.Hs)(h:qu s s')(k:gd X E S g s'):gd X E S g s:=by obtain⟨r,k⟩:=k;exact⟨.node λ_=>r,.inr (.inl ⟨s',.inr ⟨hl,h⟩,k⟩)⟩
def gd.step(d:g.status=.running)(h:∀a,X.rely s a->∃g' s' es,aU P X.main g a.w=.go g' s'.w es/\(vp a s' es∨E a s' es)/\gd X E S g' s'):gd X E S g s:=by
 classical
 have hh:∀a,∃r:Rk,X.rely s a->∃g' s' es,aU P X.main g a.w=.go g' s'.w es/\(vp a s' es∨E a s' es)/\mJ X E S r g' s':=by
  intro a;by_cases b:X.rely s a
  .obtain⟨g',s',es,h1,h2,r,e⟩:=h a b;exact⟨r,λ_=>⟨g',s',es,h1,h2,e⟩⟩
  exact⟨.leaf,λh=>absurd h b⟩
 exact⟨.node λa=>Classical.choose (hh a),.inr (.inr ⟨d,λa b=>Classical.choose_spec (hh a) b⟩)⟩
def gd.bind(h:gd X E S g s)(k:∀g s,S g s->gd X E c g s):gd X E c g s:=by
 obtain⟨r,h⟩:=h;induction r generalizing g s with
 |leaf=>exact k g s h
 |node f a =>
  rcases h with h|⟨s',h1,h2⟩|⟨b,h⟩
  .grind
  .rcases h1 with h1|⟨hl,h1⟩
   .exact .c8 h1 (a _ h2)
   exact .jz hl h1 (a _ h2)
  exact .step b λe d=>by grind
def ia.toE(hj:∀g s T,¬X.AL g s T)(h:ia X S g s):gd X E S g s:=by
 induction h with
 |stop h=>exact⟨.leaf,h⟩
 |step ng ns ne hr h1 h2 _ a=>exact .step hr λd b=>⟨_,_,_,h1 d b,.inl (h2 d b),a d b⟩
 |c8 hg _ a=>exact .c8 hg a
 |jz hl hg _ a=>exact .jz hl hg a
 |AL hjj _ _=>grind
def mJ.kR(AK:St->Prop)(m:∀s s',gn s s'->AK s->AK s')(l:X.Hs->∀s s',qu s s'->AK s->AK s'):∀{r:Rk}{g:au}{s:St},mJ X E S r g s->AK s ->
  (∃s',AK s'/\S g s')∨(g.status=.running/\∃s',AK s'/\∀a,X.rely s' a->∃g' s2 es r',aU P X.main g a.w=.go g' s2.w es/\(vp a s2 es∨E a s2 es)/\mJ X E S r' g' s2/\Rk.lt r' r)
 |.leaf,_,s,h,hi=>.inl ⟨s,hi,h⟩
 |.node f,g,s,h,hi=>by
  rcases h with h|⟨s',h1,h2⟩|⟨o,h⟩
  .grind
  .have i:AK s':=h1.elim (λx=>m s s' x hi) λx=>l x.1 s s' x.2 hi;rcases mJ.kR AK m l h2 i with k|⟨k,s2,q,n⟩
   .grind
   refine .inr ⟨k,s2,q,λa d=>?_⟩;obtain⟨g',j,es,r',k1,b,e,p⟩:=n a d;exact⟨g',j,es,r',k1,b,e,s,.inr p⟩
  refine .inr ⟨o,s,hi,λa d=>?_⟩;obtain⟨g',j,es,k1,b,e⟩:=h a d;exact⟨g',j,es,f a,k1,b,e,a,.inl Z⟩
def gd.goes{R:aB->aB->Prop}{D:aB->aB->Array bg->Prop}{Stop:au->aB->Prop}(AK:St->Prop)(m:∀s a,AK s->X.rely s a->AK a)(e:∀s a,AK s->X.rely s a->R s.w a.w)(i:∀s es,AK s->∀w',D s.w w' es->w'=s.w/\(vp s s es∨E s s es))(l:∀s,AK s->X.rely s s)(k:∀g s,AK s->Stop g s.w->gd X E S g s):
  ∀(n:Nat) (g:au) (s:St),AK s->Goes P X.main R D Stop n g s.w->gd X E S g s
 |0,g,s,hi,h=>k g s hi (h s.w (e s s hi (l s hi)))
 |n+1,g,s,hi,h=>by
  rcases h with h|⟨p,h⟩
  .grind
  refine .step p λa j=>?_;have h1:=h a.w (e s a hi j);have d:=m s a hi j;cases b:aU P X.main g a.w with
  |go g' w' es =>
   rw[b,goes_go]at h1;obtain⟨o,q⟩:=h1;obtain⟨rfl,f⟩:=i a es d w' o;exact⟨g',a,es,Z,f,gd.goes AK m e i l k n g' a d q⟩
  |_=>rw[b]at h1;exact h1.elim
end
theorem cK.c8(h:cK s {s with w:=w})(k:gn s s'):cK s' {s' with w:=w}:=by
 refine⟨Z,Z,Z,by rw[k.w];exact h.size,λb hb=>by rw[k.w];exact h.keep b (k.blk b hb),λb o v d=>?_,by rw[k.w];exact h.os,by rw[k.w];exact h.tape,by rw[k.w];exact h.output⟩;have f:=k.cell b o v d;by_cases hb:∃L∈s.β,b∈L.bs
 .have:=h.keep b (.inr hb);simp only[a9]at f⊢;grind
 have:s.M b o=O v:=by rw[<-k.lJ b (λL e a=>hb ⟨L,e,a⟩)];exact d
 exact h.mem b o v this
def cK.jz(h:cK s {s with w:=w})(k:qu s s'):cK s' {s' with w:=w} :=
 ⟨rfl,rfl,rfl,by rw[k.w];exact h.size,λb hb=>by rw[k.w];exact h.keep b (by rw[<-k.own,<-k.β];exact hb),λb o v a=>h.mem b o v (k.RG b o v a),by rw[k.w];exact h.os,by rw[k.w];exact h.tape,by rw[k.w];exact h.output⟩
def cK.Bi(h:jk s):cK s s:=⟨rfl,rfl,rfl,bm _,λ_ _=>rfl,h,rfl,rfl,rfl⟩
def cK.FK(h:cK s {s with w:=w}):cK {s with w:=w} {s with w:=w}:=cK.Bi h.mem
def cK.trans{s a s2:St}(h:cK s a)(k:cK a s2):cK s s2 :=
 ⟨k.β.trans h.β,k.M.trans h.M,k.own.trans h.own,hZ h.size k.size,λb hb=>by rw[k.keep b (by rw[h.own,h.β];exact hb),h.keep b hb],λb o v d=>k.mem b o v (by rw[h.M];exact d),k.os.trans h.os,k.tape.trans h.tape,k.output.trans h.output⟩
end
section
open Go.Conc
open Go.ConcN (fork_knows RelBy)
open Go.ConcR (stA smA)
def o4:Go.Loc->Option Nat
 |.cell a=>O a.block
 |.obj r=>O r
 |_=>af
def HR{l:Go.Loc}(h:l.isMemory=W):∃b,o4 l=O b:=by cases l<;>simp[Go.Loc.isMemory]at h<;>exact⟨_,rfl⟩
def OE{x:MemAct}{a:Touch}{B:Nat}(h:x.touch?=O a)(g:x.low B)(c:o4 a.loc=O b):b<B:=by
 cases x with
 |access e =>
  simp[MemAct.touch?]at h;subst h;simp only at c;obtain⟨loc,wr,i⟩:=e;cases loc<;>simp[o4]at c<;>subst c<;>exact g
 |mark m =>
  cases m<;>simp[MemAct.touch?]at h<;>subst h<;>simp[o4]at c<;>subst c<;>exact g
 |_=>exact j3
structure zA where
 Sh:Nat->Prop
 T0:Nat
 Wg:Nat
 C:Nat
 base:Nat
 kc:Nat
def w9(Y:zA)(d:Nat->Nat)(a:Touch):Prop :=
 (∃ad,a.loc=.cell ad/\ad.block=Y.Wg/\a.kind≠.plain)∨(∃b,o4 a.loc=O b/\d b=0/\b≠Y.Wg/\b≠Y.C/\¬Y.Sh b/\a.kind=.plain)
def va(Y:zA)(d:Nat->Nat)(f:Mem)(x:Nat)(a:Touch):Prop :=
 (∃ad,a.loc=.cell ad/\ad.block=Y.Wg/\a.kind=.atomic) ∨
 (a.kind=.plain/\((∃b,o4 a.loc=O b/\d b=Y.base+x)∨(∃o,a.loc=.cell ⟨Y.C,o,af⟩/\Y.kc*x<=o/\o<Y.kc*x+Y.kc)∨(a.write=ae/\∃b o v,a.loc=.cell ⟨b,o,af⟩/\f b o=O v)))
structure TL(Y:zA)(d:Nat->Nat)(f:Nat->Mem)(t:Trace)(j B:Nat):Prop where
 base:1<=Y.base
 Qw:d Y.Wg=0
 hC:d Y.C=0
 ne:Y.C≠Y.Wg
 ZT:¬Y.Sh Y.Wg
 shC:¬Y.Sh Y.C
 Qx:∀b,Y.Sh b->d b=0
 ms:∀x,x<j->∀b o v,f x b o=O v->d b=0/\b≠Y.C/\b≠Y.Wg/\¬Y.Sh b
 T0:Y.T0<=t.size
 nr:∀said,¬Race said t
 seen:∀op∈t,op.act.low B
 old:∀i a,i<Y.T0->touchAt t i=O a->a.loc.isMemory=W->Knows t 0 i∨(nn Y.Sh a.loc/\a.kind=.atomic)
 inh:∀x,x<j->∀i a,i<Y.T0->touchAt t i=O a->a.loc.isMemory=W->Knows t (Y.base+x) i∨(nn Y.Sh a.loc/\a.kind=.atomic)
 OF:∀i a b,i<Y.T0->touchAt t i=O a->o4 a.loc=O b->d b=0
 new:∀i a,Y.T0<=i->touchAt t i=O a->a.loc.isMemory=W->(t.g? i=O 0/\w9 Y d a)∨(∃x,x<j/\t.g? i=O (Y.base+x)/\va Y d (f x) x a)
 mw:∀x,x<j->∀i a,Y.T0<=i->touchAt t i=O a->t.g? i=O 0->a.write=W->∀b o v,a.loc=.cell ⟨b,o,af⟩->f x b o=O v->Knows t (Y.base+x) i
 over:∀i g,i<Y.T0->t.g? i=O g->g≠0->t.counts i->∃k,t.g? k=O 0/\HappensBefore t i k
section
variable {Y:zA}{d hm':Nat->Nat}{f:Nat->Mem}{t u:Trace}{B B':Nat}
theorem Ak{a:Touch}{g:Nat}(h:touchAt t i=O a)(c:t.g? i=O g):Knows t g i:=by
 obtain⟨x,b,_⟩:=touch_of h;have:x.g=g:=by simpa[Trace.g?,b]using c
 grind[knows_own]
def TL.low(h:TL Y d f t j B){a:Touch}(g:touchAt t i=O a)(hb:o4 a.loc=O b):b<B:=by obtain⟨x,e,c⟩:=touch_of g;exact OE c (h.seen x (zO e)) hb
def TL.ya(h:TL Y d f t j B)(hh:∀b,b<B->hm' b=d b)(hB:B<=B')(r:Y.Wg<B)(hC:Y.C<B)(p:∀b,Y.Sh b->b<B)(q:∀x,x<j->∀b o v,f x b o=O v->b<B):TL Y hm' f t j B':=by
 have g:∀i a,touchAt t i=O a->w9 Y d a->w9 Y hm' a:=λi a c h1=>by
  rcases h1 with h1|⟨b,h1,h2,k⟩
  .exact .inl h1
  exact .inr ⟨b,h1,by rw[hh b (h.low c h1)];exact h2,k⟩
 have e:∀x i a,touchAt t i=O a->va Y d (f x) x a->va Y hm' (f x) x a:=λx i a c h1=>by
  rcases h1 with h1|⟨n,⟨b,h1,h2⟩|h1⟩
  .exact .inl h1
  .exact .inr ⟨n,.inl ⟨b,h1,by rw[hh b (h.low c h1)];exact h2⟩⟩
  exact .inr ⟨n,.inr h1⟩
 refine⟨h.base,by rw[hh _ r];exact h.Qw,by rw[hh _ hC];exact h.hC,h.ne,h.ZT,h.shC,λb hb=>by rw[hh b (p b hb)];exact h.Qx b hb,λx l b o v m=>by rw[hh b (q x l b o v m)];exact h.ms x l b o v m,
  h.T0,h.nr,λop k6=>MemAct.low_mono hB (h.seen op k6),h.old,h.inh,λi a b hi c hb=>by rw[hh b (h.low c hb)];exact h.OF i a b hi c hb,λi a hi c d=>?_,h.mw,h.over⟩
 rcases h.new i a hi c d with⟨h1,h2⟩|⟨x,h1,h2,k⟩
 .grind
 grind
def TL.W5(h:TL Y d f t j B):Y.T0<=(t++u).size:=hZ h.T0 ay
theorem mX(h:i<t.size):(t++u).g? i=t.g? i:=by simp[Trace.g?,getElem?_append_old h]
def TL.xa(h:TL Y d f t j B)(u:Trace):∀i g,i<Y.T0->(t++u).g? i=O g->g≠0->(t++u).counts i->∃k,(t++u).g? k=O 0/\HappensBefore (t++u) i k:=by
 intro i g hi hg Hg hc;have a:=eb hi h.T0;rw[mX a]at hg;obtain⟨k,hk,hb⟩:=h.over i g hi hg Hg ((counts_old a).1 hc);have b:k<t.size:=by unfold Trace.g? at hk;grind
 exact⟨k,by grind[mX],hb_app u hb⟩
def HS{c:Nat->Prop}{l:Go.Loc}(h:nn c l)(a:o4 l=O b):c b:=by cases l<;>simp[o4]at a<;>subst a<;>exact h
def TL.pY(h:TL Y d f t j B){x:Nat}(q:x<j){a b:Touch}{said:Bool}(hT:w9 Y d b)(m:va Y d (f x) x a)(hl:a.loc=b.loc)(hk:a.kind=.plain∨b.kind=.plain∨(said=W/\a.kind=.said/\b.kind=.said))(C:b.kind=.plain->b.write=W->∀l o v,b.loc=.cell ⟨l,o,af⟩->f x l o≠O v)(s:a.write=W∨b.write=W):False:=by
 have p:=h.base;rcases m with⟨ad,e1,e2,e3⟩|⟨A,⟨c,e1,e2⟩|⟨o,e1,_⟩|⟨e1,l,o,v,e2,e3⟩⟩
 .rcases hT with⟨i,e,g,k⟩|⟨c,e,g,k,_⟩
  .grind
  rw[<-hl,e1]at e;simp only[o4,eF]at e;grind
 .rcases hT with⟨i,e,g,k⟩|⟨n,e,g,k,_⟩
  .rw[hl,e]at e1;simp only[o4,eF]at e1;rw[<-e1,g,h.Qw]at e2;omega
  grind
 .rcases hT with⟨i,e,g,k⟩|⟨n,e,g,k,r,_⟩
  .rw[<-hl,e1]at e;cases e;exact h.ne g
  rw[<-hl,e1]at e;simp only[o4,eF]at e;grind
 obtain⟨w,y,D,z⟩:=h.ms x q l o v e3;rcases hT with⟨i,e,g,k⟩|⟨n,e,g,k,r,_,E⟩
 .grind
 grind
def TL.app0(h:TL Y d f t j B)(F:∀op∈u,op.g=0)(hl:∀op∈u,op.act.low B)(D:∀op∈u,∀a,op.act.touch?=O a->a.loc.isMemory=W->w9 Y d a)(K:∀op∈u,∀a,op.act.touch?=O a->a.kind=.plain->a.write=W->∀x,x<j->∀b o v,a.loc=.cell ⟨b,o,af⟩->f x b o≠O v):TL Y d f (t++u) j B:=by
 have k:∀{i:Nat} {a:Touch},touchAt (t++u) i=O a->(i<t.size/\touchAt t i=O a)∨(t.size<=i/\(t++u).g? i=O 0/\∃op∈u,op.act.touch?=O a):=by
  intro i a e;obtain⟨x,n,C⟩:=touch_of e;rcases getElem?_append_cases n with⟨hi,AK⟩|⟨hi,r⟩
  .grind [touchAt_of]
  exact .inr ⟨hi,by simp[Trace.g?,n,F x r],x,r,C⟩
 refine⟨h.base,h.Qw,h.hC,h.ne,h.ZT,h.shC,h.Qx,h.ms,h.W5,λsaid=>?_,seen_app h.seen hl,λi a hi e d=>?_,λx n i a hi e d=>?_,λi a b hi e hb=>?_,λi a hi e d=>?_,λx n i a hi e w A b o v q E=>?_,h.xa u⟩
 .refine noRace_append (h.nr said) F λi a e op k6 b hb hc=>?_;have y:b.loc.isMemory=W:=by rw[<-hc.1];exact hc.2.1
  have hT:=D op k6 b hb y;rcases dy i Y.T0 with hi|hi
  .rcases h.old i a hi e hc.2.1 with hk|⟨J,G⟩
   .exact hk
   exfalso;obtain⟨c,l⟩:=HR hc.2.1;have s:=HS J l;rcases hT with⟨ad,e1,e2,e3⟩|⟨H,e1,e2,e3,N,M,L⟩
   .rw[hc.1,e1]at l;simp only[o4,eF]at l;rw[<-l,e2]at s;exact h.ZT s
   rw[hc.1,e1]at l;grind
  rcases h.new i a hi e hc.2.1 with⟨w,_⟩|⟨x,n,w,z⟩
  .grind [Ak]
  exact(h.pY n hT z hc.1 hc.2.2.2 (λh1 h2=>K op k6 b hb h1 h2 x n) hc.2.2.1).elim
 .have m:touchAt t i=O a:=QS;exact(h.old i a hi m d).imp (·.app u) id
 .have m:touchAt t i=O a:=QS;exact(h.inh x n i a hi m d).imp (·.app u) id
 .have m:touchAt t i=O a:=QS;exact h.OF i a b hi m hb
 .rcases k e with⟨h1,h2⟩|⟨_,h2,op,k6,p⟩
  .rw[mX h1];exact h.new i a hi h2 d
  grind
 rcases k e with⟨h1,h2⟩|⟨_,h2,op,k6,p⟩
 .rw[mX h1]at w;exact(h.mw x n i a hi h2 w A b o v q E).app u
 exfalso;rcases D op k6 a p wj with⟨ad,e1,e2,e3⟩|⟨H,_,_,_,_,_,L⟩
 .rw[q]at e1;cases e1;exact(h.ms x n b o v E).2.2.1 e2
 grind
def TL.Sf(h:TL Y d f t j B){x:Nat}(A:x<j)(ak:∀op∈u,op.g=Y.base+x)(hl:∀op∈u,op.act.low B)(ab:∀op∈u,∀a,op.act.touch?=O a->a.loc.isMemory=W->va Y d (f x) x a):TL Y d f (t++u) j B:=by
 have hb1:=h.base;have r:∀{i:Nat} {a:Touch},touchAt (t++u) i=O a->(i<t.size/\touchAt t i=O a)∨(t.size<=i/\(t++u).g? i=O (Y.base+x)/\∃op∈u,op.act.touch?=O a):=by
  intro i a q;obtain⟨y,z,aa⟩:=touch_of q;rcases getElem?_append_cases z with⟨hi,hy'⟩|⟨hi,F⟩
  .grind [touchAt_of]
  exact .inr ⟨hi,by simp[Trace.g?,z,ak y F],y,F,aa⟩
 refine⟨h.base,h.Qw,h.hC,h.ne,h.ZT,h.shC,h.Qx,h.ms,h.W5,λsaid=>?_,seen_app h.seen hl,λi a hi q d=>?_,λy z i a hi q d=>?_,λi a b hi q hb=>?_,λi a hi q d=>?_,λy z i a hi q E H b o v D L=>?_,h.xa u⟩
 .refine noRace_append (h.nr said) ak λi a q op k6 b hb hc=>?_;have J:b.loc.isMemory=W:=by rw[<-hc.1];exact hc.2.1
  have hT:=ab op k6 b hb J;obtain⟨c,l⟩:=HR hc.2.1;rcases dy i Y.T0 with hi|hi
  .rcases h.inh x A i a hi q hc.2.1 with hk|⟨hs,X⟩
   .exact hk
   exfalso;have n:=HS hs l;rw[hc.1]at l;rcases hT with⟨ad,e1,e2,e3⟩|⟨e0,⟨c',e1,e2⟩|⟨o,e1,_⟩|⟨e1,p,o,v,e2,e3⟩⟩
   .rw[e1]at l;simp only[o4,eF]at l;rw[<-l,e2]at n;exact h.ZT n
   .rw[e1]at l;simp only[eF]at l;rw[<-l]at n;rw[h.Qx _ n]at e2;omega
   .rw[e1]at l;simp only[o4,eF]at l;rw[<-l]at n;exact h.shC n
   rw[e2]at l;simp only[o4,eF]at l;rw[<-l]at n;exact(h.ms x A p o v e3).2.2.2 n
  rcases h.new i a hi q hc.2.1 with⟨E,K⟩|⟨y,z,E,Q⟩
  ·
   by_cases G:a.write=W/\∃p o v,a.loc=.cell ⟨p,o,af⟩/\f x p o=O v
   .obtain⟨h1,p,o,v,h2,T⟩:=G;exact h.mw x A i a hi q E h1 p o v h2 T
   exfalso;refine h.pY (said:=said) A K hT hc.1.symm ?_ (λ_ N p o v k L=>G ⟨N,p,o,v,k,L⟩) hc.2.2.1.symm;rcases hc.2.2.2 with hk|hk|⟨h1,h2,T⟩
   .grind
   .grind
   grind
  by_cases S:y=x
  .grind [Ak]
  exfalso;obtain⟨k,_,H,R⟩:=hc;rcases Q with⟨ad,e1,e2,e3⟩|⟨e0,⟨c1,e1,e2⟩|⟨o,e1,e1l,Z⟩|⟨e1,p,o,v,e2,e3⟩⟩
  .rcases hT with⟨C,e,m,w⟩|⟨f0,⟨c2,e,m⟩|⟨o,e,_⟩|⟨e,p,o,v,m,w⟩⟩
   .grind
   .rw[<-k,e1]at e;simp only[o4,eF]at e;rw[<-e,e2,h.Qw]at m;omega
   .rw[<-k,e1]at e;cases e;exact h.ne e2
   rw[<-k,e1]at m;cases m;exact(h.ms x A p o v w).2.2.1 e2
  .rcases hT with⟨C,e,m,w⟩|⟨f0,⟨c2,e,m⟩|⟨o,e,_⟩|⟨e,p,o,v,m,w⟩⟩
   .rw[k,e]at e1;simp only[o4,eF]at e1;rw[<-e1,m,h.Qw]at e2;omega
   .grind
   .rw[k,e]at e1;simp only[o4,eF]at e1;rw[<-e1,h.hC]at e2;omega
   rw[k,m]at e1;simp only[o4,eF]at e1;rw[<-e1,(h.ms x A p o v w).1]at e2;omega
  .rcases hT with⟨C,e,m,w⟩|⟨f0,⟨c2,e,m⟩|⟨P,e,M,AK⟩|⟨e,p,P,v,m,w⟩⟩
   .rw[<-k,e1]at e;cases e;exact h.ne m
   .rw[<-k,e1]at e;simp only[o4,eF]at e;rw[<-e,h.hC]at m;omega
   .rw[<-k,e1]at e;cases e;rcases Nat.lt_or_gt_of_ne S with h1|h1
    .have:=zZ Y.kc (show y+1<=x from h1);grind
    have:=zZ Y.kc (show x+1<=y from h1);grind
   rw[<-k,e1]at m;cases m;exact(h.ms x A _ _ v w).2.1 aK
  rcases hT with⟨C,e,m,w⟩|⟨f0,⟨c2,e,m⟩|⟨P,e,M,AK⟩|⟨e,b2,P,v',m,w⟩⟩
  .rw[<-k,e2]at e;cases e;exact(h.ms y z p o v e3).2.2.1 m
  .rw[<-k,e2]at e;simp only[o4,eF]at e;rw[<-e,(h.ms y z p o v e3).1]at m;omega
  .rw[<-k,e2]at e;cases e;exact(h.ms y z _ _ v e3).2.1 aK
  grind
 .have s:touchAt t i=O a:=QR;exact(h.old i a hi s d).imp (·.app u) id
 .have s:touchAt t i=O a:=QR;exact(h.inh y z i a hi s d).imp (·.app u) id
 .have s:touchAt t i=O a:=QR;exact h.OF i a b hi s hb
 .rcases r q with⟨h1,h2⟩|⟨_,h2,op,k6,U⟩
  .rw[mX h1];exact h.new i a hi h2 d
  grind
 rcases r q with⟨h1,h2⟩|⟨_,h2,_⟩
 .rw[mX h1]at E;exact(h.mw y z i a hi h2 E H b o v D L).app u
 grind
def TL.mute(h:TL Y d f t j B){g:Nat}(n:∀op∈u,op.g=g)(hl:∀op∈u,op.act.low B)(s:∀op∈u,op.act.touch?=af):TL Y d f (t++u) j B:=by
 have old:∀{i:Nat} {a:Touch},touchAt (t++u) i=O a->i<t.size/\touchAt t i=O a:=by intro i a c;obtain⟨y,r,q⟩:=touch_of c;grind[touchAt_of]
 refine⟨h.base,h.Qw,h.hC,h.ne,h.ZT,h.shC,h.Qx,h.ms,h.W5,λsaid=>noRace_append (h.nr said) n λi a _ op k6 b hb _=>az,seen_app h.seen hl,λi a hi c d=>(h.old i a hi (old c).2 d).imp (·.app u) id,
  λx k i a hi c d=>(h.inh x k i a hi (old c).2 d).imp (·.app u) id,λi a b hi c hb=>h.OF i a b hi (old c).2 hb,λi a hi c d=>?_,λx k i a hi c m l b o v e p=>?_,h.xa u⟩
 .rw[mX (old c).1];exact h.new i a hi (old c).2 d
 rw[mX (old c).1]at m;exact(h.mw x k i a hi (old c).2 m l b o v e p).app u
def TL.abD(h:TL Y d f t j B){x y:MemOp}(w:x.g=0/\x.act=.go (Y.base+j))(s:y.g=Y.base+j/\y.act=.start)(A:Deaf t 0=0)(hk:Deaf t (Y.base+j)=0)(F:∀b o v,f j b o=O v->d b=0/\b≠Y.C/\b≠Y.Wg/\¬Y.Sh b):TL Y d f (t++#[x,y]) (j+1) B:=by
 have D:∀op∈#[x,y],op.act.touch?=af:=by
  intro op k6;simp only[List.mem_toArray,eQ,rO,mS]at k6;rcases k6 with rfl|rfl
  .exact wj
  exact wj
 have k:∀op∈#[x,y],op.act.low B:=by
  intro op k6;simp only[List.mem_toArray,eQ,rO,mS]at k6;rcases k6 with rfl|rfl
  .exact wj
  exact wj
 have old:∀{i:Nat} {a:Touch},touchAt (t++#[x,y]) i=O a->i<t.size/\touchAt t i=O a:=by intro i a c;obtain⟨z,n,E⟩:=touch_of c;grind[touchAt_of]
 have r:∀z,z<j+1->∀b o v,f z b o=O v->d b=0/\b≠Y.C/\b≠Y.Wg/\¬Y.Sh b:=λz n b o v m=>by
  rcases dy z j with h1|h1
  .exact h.ms z h1 b o v m
  grind
 refine⟨h.base,h.Qw,h.hC,h.ne,h.ZT,h.shC,h.Qx,r,h.W5,λsaid=>?_,seen_app h.seen k,λi a hi c d=>(h.old i a hi (old c).2 d).imp (·.app _) id,
  λz n i a hi c d=>?_,λi a b hi c hb=>h.OF i a b hi (old c).2 hb,λi a hi c d=>?_,λz n i a hi c p q b o v l m=>?_,h.xa _⟩
 .have e:t++#[x,y]=(t++#[x])++#[y]:=az;rw[e];refine noRace_append (g:=Y.base+j) (noRace_append (g:=0) (h.nr said) (λop k6=>by grind) (λi a _ op k6 b hb _=>az)) (λop k6=>by grind) (λi a _ op k6 b hb _=>?_);grind
 .rcases dy z j with h1|h1
  .exact(h.inh z h1 i a hi (old c).2 d).imp (·.app _) id
  obtain rfl:z=j:=aq;exact(h.old i a hi (old c).2 d).imp (fork_knows w s A hk) id
 .rw[mX (old c).1];rcases h.new i a hi (old c).2 d with h1|⟨z,h1,h2⟩
  .grind
  grind
 rw[mX (old c).1]at p;rcases dy z j with h1|h1
 .exact(h.mw z h1 i a hi (old c).2 p q b o v l m).app _
 obtain rfl:z=j:=aq;exact fork_knows w s A hk (Ak (old c).2 p)
def TL.aba(h:TL Y d f t j B)(L:Deaf t 0=0)(K:NoRelease (stA Y.Wg) t){q:Nat}(AK:t.act? q=O (.mark (.acquire (stA Y.Wg))))(y:t.g? q=O 0)(D:t.heard q)(M:∀x,x<j->∃r,RelBy (stA Y.Wg) t (Y.base+x) r/\r<q):Past (nn λb=>Y.Sh b∨b=Y.Wg) B t:=by
 have m:∀x,x<j->∀i,t.g? i=O (Y.base+x)->t.counts i->HappensBefore t i q:=by
  intro x w i v s;obtain⟨r,c,A⟩:=M x w;have e:HappensBefore t r q:=.single (.inr ⟨.marked A (.inr c.act) AK (λk _ _=>K k),c.heard,D⟩);have J:i<=r:=Nat.le_of_not_lt λn=>c.after i n v s;rcases dy i r with n|H
  .exact .trans (.single (.inl ⟨n,_,v,c.g⟩)) e
  grind
 have o:∀{l:Go.Loc},nn Y.Sh l->nn (λb=>Y.Sh b∨b=Y.Wg) l:=λ{l} hl=>by cases l<;>first|exact .inl hl|exact hl
 refine⟨h.nr,λi a p d=>?_,λi g v E s=>?_,L,h.seen⟩
 .rcases dy i Y.T0 with hi|hi
  .exact(h.old i a hi p d).imp id λ⟨h1,h2⟩=>⟨o h1,h2⟩
  rcases h.new i a hi p d with⟨h1,_⟩|⟨x,w,v,hT⟩
  .grind [Ak]
  rcases hT with⟨ad,e1,e2,e3⟩|⟨N,_⟩
  .exact .inr ⟨by rw[e1];exact .inr e2,e3⟩
  left;have s:t.counts i:=⟨a,p,d,.inl az⟩
  obtain⟨z,G,F⟩:=vm.1 y;exact⟨q,z,G,F,.inr (m x w i v s)⟩
 rcases dy i Y.T0 with hi|hi
 .exact h.over i g hi v E s
 obtain⟨a,p,d,hk⟩:=s;rcases h.new i a hi p d with⟨h1,_⟩|⟨x,w,C,hT⟩
 .grind
 exact⟨q,y,m x w i C ⟨a,p,d,hk⟩⟩
def TL.start{Y:zA}{t:Trace}{B:Nat}{f:Nat->Mem}(e:Past (nn Y.Sh) B t)(hT:Y.T0=t.size)(hb:1<=Y.base)(b:Y.C≠Y.Wg)(j:¬Y.Sh Y.Wg)(k:¬Y.Sh Y.C):TL Y (λ_=>0) f t 0 B :=
 ⟨hb,rfl,rfl,b,j,k,λ_ _=>rfl,λx c=>absurd c (jO x),by omega,e.clean,e.seen,λi a _ h d=>e.known i a h d,λx c=>absurd c (jO x),λ_ _ _ _ _ _=>rfl,
  λi a hi h _=>by
   obtain⟨x,c,_⟩:=touch_of h
   grind,λx c=>absurd c (jO x),λi g _ m b l=>e.over i g m b l⟩
end
end
section
open Go.Conc
open Go.ConcN (WD CTag Mode Vc Ssum pend phi cnt WgLive PayAt Has RW DWs WSit RelBy sumTo upd upd_same upd_ne AtR0 get_map_set get_map_set_same norel_of Deaf_still)
open Go.ConcR (KK WgAt stA smA rd wr mk Payload g_of_ofEvents)
def Cx.zB(P:aR):Cx P:={main:=ae,rely:=cK,AL:=λ_ _ _=>False,kq:=id,Hs:=True}
def Cx.ez(P:aR)(ty:av)(Wg:Nat):Cx P:={main:=W,rely:=λs s'=>cK s s'/\(WgLive ty Wg s.w->WgLive ty Wg s'.w),AL:=λ_ _ _=>False,kq:=λh=>h.1,Hs:=False}
instance (P:aR):(Cx.zB P).ln:=⟨an⟩
def E0:St->St->Array bg->Prop:=λ_ _ _=>False
def Es(Wg:Nat):St->St->Array bg->Prop:=λs s' es=>s'=s/\∃a:Addr,a.block=Wg/\(es=#[mk (.read a)]∨es=#[mk (.write a)])
def ZU:Nat->Go.Loc->Prop:=λ_ _=>False
variable [Payload]
structure aeJ(C N lo k:Nat)(vs:Nat->ah)(w w':aB):Prop where
 tape:w'.tape=w.tape
 os:w'.os=w.os
 output:w'.output=w.output
 size:w'.heap.size=w.heap.size
 block:∀b,b≠C->w'.heap[b]?=w.heap[b]?
 Al:PayAt C N w'
 gf:∀o,(o<lo∨lo+k<=o)->w'.cell? ⟨C,o,af⟩=w.cell? ⟨C,o,af⟩
 new:∀i,i<k->w'.cell? ⟨C,lo+i,af⟩=O (vs i)
section
variable (P:aR)(ty:av)(Y:zA)(N:Nat)(val:Nat->Nat->ah)
def Su(x:Nat)(g:au)(s:St):Prop :=
 g.status=.running/\∀w1,cK s {s with w:=w1}->PayAt Y.C N w1->WgLive ty Y.Wg w1 ->
  ∃g' w2 es,aU P ae g w1=.go g' w2 es/\aeJ Y.C N (Y.kc*x) Y.kc (val x) w1 w2/\(∀e∈es,∃o,e=⟨.cell ⟨Y.C,o,af⟩,W,ae⟩/\Y.kc*x<=o/\o<Y.kc*x+Y.kc) /\
   ∃m,Goes P ae (RW ty Y.Wg Y.C N 0 (Y.kc*x)) Go.ConcR.DC0 (AtR0 P ty Y.Wg Y.C N 0 (Y.kc*x+1) (val x 0)) m g' w2
end
structure o5(f:Nat->Nat)(r:Mem)(g:Nat)(s:St):Prop where
 blk:∀b,(s.own b∨∃L∈s.β,b∈L.bs)->f b=g/\b<s.w.heap.size
 M:∀b o v,s.M b o=O v->(f b=g∨r b o=O v)/\b<s.w.heap.size
structure ma(Y:zA)(f:Nat->Nat)(A:Nat->Mem)(j:Nat)(s:St):Prop where
 blk:∀b,(s.own b∨∃L∈s.β,b∈L.bs)->f b=0/\b≠Y.C/\b≠Y.Wg/\¬Y.Sh b/\b<s.w.heap.size
 M:∀b o v,s.M b o=O v->f b=0/\b≠Y.C/\b≠Y.Wg/\¬Y.Sh b/\b<s.w.heap.size
 ms:∀x,x<j->∀b o v,A x b o=O v->s.M b o=O v
structure OG(Y:zA)(f:Nat->Nat)(r:Mem)(y:Nat)(w w':aB):Prop where
 size:w.heap.size<=w'.heap.size
 blk:∀b,b<w.heap.size->f b=Y.base+y->w'.heap[b]?=w.heap[b]?
 cell:∀b o v,r b o=O v->w.cell? ⟨b,o,af⟩=O v->w'.cell? ⟨b,o,af⟩=O v
 Al:∀o,Y.kc*y<=o->o<Y.kc*y+Y.kc->w'.cell? ⟨Y.C,o,af⟩=w.cell? ⟨Y.C,o,af⟩
 os:w'.os=w.os
 tape:w'.tape=w.tape
 output:w'.output=w.output
omit [Payload]in
def OG.refl(Y:zA)(f:Nat->Nat)(r:Mem)(y:Nat)(w:aB):OG Y f r y w w:=⟨bm _,λ_ _ _=>rfl,λ_ _ _ _ h=>h,λ_ _ _=>rfl,rfl,rfl,rfl⟩
omit [Payload]in
def OG.at(Y:zA)(f:Nat->Nat)(r:Mem)(y:Nat)(w:aB)(d:Nat):OG Y f r y w (w.at d):=⟨bm _,λ_ _ _=>rfl,λ_ _ _ _ h=>h,λ_ _ _=>rfl,rfl,rfl,rfl⟩
structure KP(Y:zA)(f:Nat->Nat)(w w':aB):Prop where
 size:w.heap.size<=w'.heap.size
 blk:∀b,b<w.heap.size->f b=0->b≠Y.C->b≠Y.Wg->w'.heap[b]?=w.heap[b]?
 os:w'.os=w.os
 tape:w'.tape=w.tape
 output:w'.output=w.output
omit [Payload]in
def mb(h:w'.heap[b]?=w.heap[b]?)(o:Nat):w'.cell? ⟨b,o,af⟩=w.cell? ⟨b,o,af⟩:=by simp[a9,h]
omit [Payload]in
def cK.OH(h:cK s {s with w:=w})(z:w.heap.size<=w'.heap.size)(c:∀b,(s.own b∨∃L∈s.β,b∈L.bs)->w'.heap[b]?=w.heap[b]?)(Z:∀b o v,s.M b o=O v->w.cell? ⟨b,o,af⟩=O v->w'.cell? ⟨b,o,af⟩=O v)(l:w'.os=w.os)(p:w'.tape=w.tape)(u:w'.output=w.output):cK s {s with w:=w'} :=
 ⟨rfl,rfl,rfl,hZ h.size z,λb J=>by show w'.heap[b]?=_;rw[c b J];exact h.keep b J,λb o v q=>Z b o v q (h.mem b o v q),l.trans h.os,p.trans h.tape,u.trans h.output⟩
section
variable {Y:zA}{f hm':Nat->Nat}{A:Nat->Mem}{y:Nat}
omit [Payload]in
def o5.Sw(n:o5 f (A y) (Y.base+y) s)(h:cK s {s with w:=w})(k:OG Y f (A y) y w w'):cK s {s with w:=w'}:=by
 have z:=h.size;refine h.OH k.size (λb c=>?_) (λb o v q K=>?_) k.os k.tape k.output
 .obtain⟨l,p⟩:=n.blk b c;exact k.blk b (eb p z) l
 obtain⟨l,p⟩:=n.M b o v q;rcases l with l|l
 .rw[mb (k.blk b (eb p z) l) o];exact K
 exact k.cell b o v l K
omit [Payload]in
def o5.ya{r:Mem}{g:Nat}(n:o5 f r g s)(h:s.w.heap.size<=w.heap.size)(X:∀b,b<w.heap.size->hm' b=f b):o5 hm' r g s :=
 ⟨λb c=>let ⟨l,p⟩:=n.blk b c;⟨by grind,p⟩,λb o v q=>let ⟨l,p⟩:=n.M b o v q;⟨by grind,p⟩⟩
omit [Payload]in
def ma.Sw(n:ma Y f A j s)(h:cK s {s with w:=w})(k:KP Y f w w'):cK s {s with w:=w'}:=by
 have z:=h.size;refine h.OH k.size (λb c=>?_) (λb o v q K=>?_) k.os k.tape k.output
 .obtain⟨l,p,u,G,E⟩:=n.blk b c;exact k.blk b (eb E z) l p u
 obtain⟨l,p,u,G,E⟩:=n.M b o v q;rw[mb (k.blk b (eb E z) l p u) o];exact K
omit [Payload]in
def ma.ya(n:ma Y f A j s)(h:s.w.heap.size<=w.heap.size)(X:∀b,b<w.heap.size->hm' b=f b):ma Y hm' A j s :=
 ⟨λb c=>let ⟨l,p,u,G,E⟩:=n.blk b c;⟨by grind,p,u,G,E⟩,
  λb o v q=>let ⟨l,p,u,G,E⟩:=n.M b o v q;⟨by grind,p,u,G,E⟩,n.ms⟩
omit [Payload]in
def o5.rely{r:Mem}{g:Nat}(n:o5 f r g s)(h:s.w.heap.size<=w.heap.size):o5 f r g {s with w:=w} :=
 ⟨λb c=>let ⟨l,p⟩:=n.blk b c;⟨l,eb p h⟩,λb o v q=>let ⟨l,p⟩:=n.M b o v q;⟨l,eb p h⟩⟩
omit [Payload]in
def ma.rely(n:ma Y f A j s)(h:s.w.heap.size<=w.heap.size):ma Y f A j {s with w:=w} :=
 ⟨λb c=>let ⟨l,p,u,G,E⟩:=n.blk b c;⟨l,p,u,G,eb E h⟩,λb o v q=>let ⟨l,p,u,G,E⟩:=n.M b o v q;⟨l,p,u,G,eb E h⟩,n.ms⟩
omit [Payload]in
theorem o5.c8{r:Mem}{g:Nat}(n:o5 f r g s)(k:gn s s'):o5 f r g s':=by
 refine⟨λb c=>by rw[k.w];exact n.blk b (k.blk b c),λb o v q=>?_⟩;rw[k.w];by_cases c:∃L∈s.β,b∈L.bs
 .obtain⟨l,p⟩:=n.blk b (.inr c);grind
 exact n.M b o v Zq
omit [Payload]in
def o5.jz{r:Mem}{g:Nat}(n:o5 f r g s)(k:qu s s'):o5 f r g s' :=
 ⟨λb c=>by rw[k.w];exact n.blk b (by rw[<-k.own,<-k.β];exact c),λb o v q=>by rw[k.w];exact n.M b o v (k.RG b o v q)⟩
omit [Payload]in
theorem ma.c8(n:ma Y f A j s)(k:gn s s'):ma Y f A j s':=by
 refine⟨λb c=>by rw[k.w];exact n.blk b (k.blk b c),λb o v q=>?_,λx R b o v q=>k.mem _ _ _ (n.ms x R b o v q)⟩;rw[k.w];by_cases c:∃L∈s.β,b∈L.bs
 .exact n.blk b (.inr c)
 exact n.M b o v Zq
def q8(f:Nat->Nat)(B g:Nat):Nat->Nat:=λb=>if b<B then f b else g
omit [Payload]in
theorem gU{f:Nat->Nat}{B g:Nat}(h:b<B):q8 f B g b=f b:=by simp[q8,h]
omit [Payload]in
theorem yb{f:Nat->Nat}{B g:Nat}(h:B<=b):q8 f B g b=g:=by simp[q8,pR.2 h]
omit [Payload]in
def o5.step{r:Mem}{g:Nat}(n:o5 f r g s)(H:aH U' s')(st:eO U s U' s'):o5 (q8 f s.w.heap.size g) r g s':=by
 refine⟨λb c=>?_,λb o v q=>?_⟩
 .rcases c with c|⟨L,D,c⟩
  .rw[st.own]at c;obtain⟨l,p⟩:=n.blk b (.inl c);exact⟨by grind[gU],eb p st.size⟩
  have F:=H.lt L D b c;rcases st.Ab L D b c with l|⟨aa,AK,l⟩
  .grind [yb]
  obtain⟨k1,Q⟩:=n.blk b (.inr ⟨aa,AK,l⟩);grind[gU]
 have F:=jk.lt H.mem q;rcases dy b s.w.heap.size with l|l
 .rw[gU l];by_cases c:∃L∈s.β,b∈L.bs
  .exact⟨.inl (n.blk b (.inr c)).1,F⟩
  rw[st.lJ b l (λL D t=>c ⟨L,D,t⟩)]at q;exact⟨(n.M b o v q).1,F⟩
 grind[yb]
omit [Payload]in
def ma.step(n:ma Y f A j s)(H:aH U' s')(st:eO U s U' s')(hW:Y.Wg<s.w.heap.size)(hC:Y.C<s.w.heap.size)(hS:∀b,Y.Sh b->b<s.w.heap.size):ma Y (q8 f s.w.heap.size 0) A j s':=by
 have ak:∀b,s.w.heap.size<=b->b<s'.w.heap.size->q8 f s.w.heap.size 0 b=0/\b≠Y.C/\b≠Y.Wg/\¬Y.Sh b/\b<s'.w.heap.size:=λb l p =>
  ⟨yb l,by omega,by omega,λh=>by grind,p⟩
 refine⟨λb c=>?_,λb o v q=>?_,λx R b o v q=>st.mem _ _ _ (n.ms x R b o v q)⟩
 .rcases c with c|⟨L,D,c⟩
  .rw[st.own]at c;obtain⟨l,p,u,G,E⟩:=n.blk b (.inl c);exact⟨by grind[gU],p,u,G,eb E st.size⟩
  have F:=H.lt L D b c;rcases st.Ab L D b c with l|⟨aa,AK,l⟩
  .grind
  obtain⟨k1,Q,T,ab,S⟩:=n.blk b (.inr ⟨aa,AK,l⟩);grind[gU]
 have F:=jk.lt H.mem q;rcases dy b s.w.heap.size with l|l
 .by_cases c:∃L∈s.β,b∈L.bs
  .obtain⟨k1,Q,T,ab,S⟩:=n.blk b (.inr c);grind[gU]
  rw[st.lJ b l (λL D t=>c ⟨L,D,t⟩)]at q;obtain⟨k1,Q,T,ab,S⟩:=n.M b o v q;grind[gU]
 grind
end
end
section
open Go.Conc
open Go.ConcN (WD CTag Mode Vc Ssum pend phi cnt WgLive PayAt Has RW DWs WSit RelBy sumTo upd upd_same upd_ne AtR0 get_map_set get_map_set_same norel_of Deaf_still)
open Go.ConcR (KK WgAt stA smA rd wr mk Payload g_of_ofEvents)
variable [Payload]
section
variable (P:aR)(ty:av)(Y:zA)(N:Nat)(val:Nat->Nat->ah)(l:Nat->Nat)(c:Nat->Mem)
inductive WS (x:Nat):Nat->Nat->Rk->Nat->au->aB->Prop
 |am {r:Rk} {g:au} {s:St} {w:aB}:mJ (Cx.zB P) E0 (Su P ty Y N val x) r g s->cK s {s with w:=w}->o5 l (c x) (Y.base+x) s->WS x 1 7 r 0 g w
 |rel {m:Nat} {g:au} {w:aB}:Goes P ae (RW ty Y.Wg Y.C N 0 (Y.kc*x)) Go.ConcR.DC0 (AtR0 P ty Y.Wg Y.C N 0 (Y.kc*x+1) (val x 0)) m g w->WS x 0 7 (Rk.W4 m) 0 g w
 |tail {st m d:Nat} {g:au} {w:aB}:st<=6->WSit P ty Y.Wg Y.C N ZU ZU 0 (Y.kc*x+1) (val x 0) st m d g w->WS x 0 st (Rk.W4 m) d g w
structure DV(j:Nat)(gs:Array au)(w:aB)(t:Trace)(D:Nat->WD)(A:Nat->Nat)(K:Nat->Rk)(n:Nat):Prop where
 size:gs.size=Y.base+j
 lv:∀i g,0<i->i<Y.base->gs[i]?=O g->∃m,K i=Rk.W4 m/\QuitsD P m (Deaf t i) g
 above:∀i,Y.base+j<=i->Deaf t i=0
 wk:∀x,x<j->∃g,gs[Y.base+x]?=O g/\WS P ty Y N val l c x (A x) (D x).stage (K (Y.base+x)) (D x).deaf g w
 tl:TL Y l c t j w.heap.size
 u6:qM t
 xb:Deaf t 0=n
 xc:∀x,x<j->Deaf t (Y.base+x)=(D x).deaf
 rel:∀x,x<j->(D x).stage<=6->∃r,RelBy (stA Y.Wg) t (Y.base+x) r
 Db:∀x,x<j->A x=0->∀i,1<=i->i<Y.kc->w.cell? ⟨Y.C,Y.kc*x+i,af⟩=O (val x i)
 HT:∀x,x<j->(D x).stage<=6->Has Y.C (Y.kc*x) (val x 0) w
 Al:PayAt Y.C N w
 jU:WgLive ty Y.Wg w
 Hh:Y.Wg<w.heap.size
 Kb:Y.C<w.heap.size
 Wf:∀b,Y.Sh b->b<w.heap.size
 kc:0<Y.kc
 W6:∀y,y<j->∀b o v,c y b o=O v->b<w.heap.size
end
section
variable {P:aR}{ty:av}{Y:zA}{N:Nat}{val:Nat->Nat->ah}{l hm':Nat->Nat}{c:Nat->Mem}{x:Nat}{t:Trace}{D:Nat->WD}{A:Nat->Nat}{K:Nat->Rk}{n:Nat}
def RW.Sw(k:OG Y l (c x) x w w')(hl:WgLive ty Y.Wg w')(a:PayAt Y.C N w')(hk:0<Y.kc):RW ty Y.Wg Y.C N 0 (Y.kc*x+1-1) w w' :=
 ⟨λb hb=>absurd hb (jO b),λ_=>hl,λ_=>a,k.Al _ (bm _) az⟩
def WS.Sw{a st d:Nat}{r:Rk}{g:au}(h:WS P ty Y N val l c x a st r d g w)(k:OG Y l (c x) x w w')(hl:WgLive ty Y.Wg w')(e:PayAt Y.C N w')(hk:0<Y.kc)(hh:∀b,b<w.heap.size->hm' b=l b):
  WS P ty Y N val hm' c x a st r d g w':=by
 cases h with
 |am h1 h2 h3=>exact .am h1 (h3.Sw h2 k) (h3.ya h2.size hh)
 |rel h1=>exact .rel (Goes.rely (λ_ _ _ h1 h2=>h1.trans h2) h1 (RW.Sw k hl e hk))
 |tail h0 h1=>exact .tail h0 (h1.rely (RW.Sw k hl e hk))
omit [Payload]in
def mJ.run{X:Cx P}{E:St->St->Array bg->Prop}{S:au->St->Prop}(p:∀g s,S g s->g.status=.running):∀{r:Rk}{g:au}{s:St},mJ X E S r g s->g.status=.running
 |.leaf,_,_,h=>p _ _ h
 |.node f,g,s,h=>by
  rcases h with h|⟨s',_,h⟩|⟨h,_⟩
  .grind
  .exact mJ.run p (r:=f s) h
  grind
def WS.status{a st d:Nat}{r:Rk}{g:au}(h:WS P ty Y N val l c x a st r d g w):g.status=.running∨g.status=.finished:=by
 cases h with
 |am h1 _ _=>exact .inl (h1.run λg s h=>h.1)
 |rel h1=>exact .inl (Goes.running (λ_ _ x=>x.1) w (Go.ConcN.RW.refl w) h1)
 |tail _ h1=>exact h1.status
def WS.woken{a st d:Nat}{r:Rk}{g:au}(h:WS P ty Y N val l c x a st r d g w)(b e:au)(w':aB):woken P b e w' g=g:=by
 unfold Go.Conc.woken;split
 .exact again_running _ h.status
 simp
def DV.at(h:DV P ty Y N val l c j gs w t D A K n)(d:Nat):DV P ty Y N val l c j gs (w.at d) t D A K n :=
 ⟨h.size,h.lv,h.above,λx a=>let ⟨g,h1,h2⟩:=h.wk x a;⟨g,h1,h2.Sw (.at ..) h.jU h.Al h.kc λ_ _=>rfl⟩,h.tl,h.u6,h.xb,h.xc,h.rel,h.Db,h.HT,h.Al,h.jU,h.Hh,h.Kb,h.Wf,h.kc,h.W6⟩
def DV.db(h:DV P ty Y N val l c j gs w t D A K n)(ab:x<j){g':au}{fn:aO}{pos:String}{es:Array bg}{a' uX d':Nat}{r':Rk}(hh:∀b,b<w.heap.size->hm' b=l b)(q:w.heap.size<=w'.heap.size)(B:∀y,y<j->y≠x->OG Y l (c y) y w w')(hws:WS P ty Y N val hm' c x a' uX r' d' g' w')(U:∀e∈es,(aV e).low w'.heap.size)(htw:∀e∈es,∀a,(aV e).touch?=O a->a.loc.isMemory=W->va Y hm' (c x) x a)(aa:∀e∈es,∀a,e.loc≠.mark (.release a))(R:deafBehind (D x).deaf es=d')(ak:uX<=6->∃r,RelBy (stA Y.Wg) (t++MemOp.ofEvents (Y.base+x) fn pos es) (Y.base+x) r)(h1:a'=0->∀i,1<=i->i<Y.kc->w'.cell? ⟨Y.C,Y.kc*x+i,af⟩=O (val x i))(h0:uX<=6->Has Y.C (Y.kc*x) (val x 0) w')(G:PayAt Y.C N w')(u:WgLive ty Y.Wg w'):
  DV P ty Y N val hm' c j ((gs.map (woken P g g' w')).setIfInBounds (Y.base+x) g') w' (t++MemOp.ofEvents (Y.base+x) fn pos es) (upd D x ⟨uX,0,d'⟩) (upd A x a') (upd K (Y.base+x) r') n:=by
 have hb:=h.tl.base;have F:∀y,y≠x->Y.base+x≠Y.base+y:=λy d e=>d aq;have T:∀i H,0<i->i<Y.base->((gs.map (Go.Conc.woken P g g' w')).setIfInBounds (Y.base+x) g')[i]?=O H->gs[i]?=O H:=by intro i H hi ZV Dc;rw[get_map_set _ _ _ _ aq]at Dc;obtain⟨z,Z,rfl⟩:=vm.1 Dc;obtain⟨m,_,hq⟩:=h.lv i z hi ZV Z;grind[woken_quitsD]
 refine⟨by simp[h.size],λi H hi ZV Dc=>?_,λi hi=>?_,λy d=>?_,?_,h.u6.app aa,by rw[Deaf_other t aq _ g_of_ofEvents,h.xb],λy d=>?_,λy d k=>?_,λy d J i M L=>?_,λy d k=>?_,G,u,eb h.Hh q,eb h.Kb q,λb hb=>eb (h.Wf b hb) q,h.kc,λy d b o v Q=>eb (h.W6 y d b o v Q) q⟩
 .obtain⟨m,hm1,hm2⟩:=h.lv i H hi ZV (T i H hi ZV Dc);refine⟨m,by rw[upd_ne K _ aq];omega,?_⟩;rw[Deaf_other t aq _ g_of_ofEvents];omega
 .rw[Deaf_other t aq _ g_of_ofEvents];exact h.above i hi
 .by_cases e:y=x
  .subst e;exact⟨g',get_map_set_same _ _ _ (by rw[h.size];omega),by rw[upd_same,upd_same,upd_same];omega⟩
  obtain⟨H,Dc,AK⟩:=h.wk y d;refine⟨H,by rw[get_map_set _ _ _ _ (F y e),Dc,oQ,AK.woken],?_⟩;rw[upd_ne A _ e,upd_ne D _ e,upd_ne K _ (F y e).symm];exact AK.Sw (B y d e) u G h.kc hh
 .refine(h.tl.ya hh q h.Hh h.Kb h.Wf λy d b o v Q=>?_).Sf ab (λop k6=>by grind[Go.Conc.mem_ofEvents]) (λop k6=>?_) (λop k6 a J hma=>?_)
  .exact h.W6 y d b o v Q
  .grind [Go.Conc.mem_ofEvents]
  grind[Go.Conc.mem_ofEvents]
 .by_cases e:y=x
  .subst e;rw[Deaf_own,h.xc y d,upd_same];omega
  rw[Deaf_other t (F y e) _ g_of_ofEvents,h.xc y d,upd_ne D _ e]
 .by_cases e:y=x
  .subst e;rw[upd_same]at k;grind
  rw[upd_ne D _ e]at k;obtain⟨r,hr⟩:=h.rel y d k;exact⟨r,hr.appOther g_of_ofEvents (F y e)⟩
 .by_cases e:y=x
  .subst e;rw[upd_same]at J;grind
  rw[upd_ne A _ e]at J;rw[(B y d e).Al _ aq aq];exact h.Db y d J i M L
 by_cases e:y=x
 .subst e;rw[upd_same]at k;grind
 rw[upd_ne D _ e]at k;have:=h.HT y d k;have hk:=h.kc;simp only[Has]at this⊢;rw[(B y d e).Al _ aq aq];omega
def DV.ZW(h:DV P ty Y N val l c j gs w t D A K n){g':au}{fn:aO}{pos:String}{es:Array bg}(hh:∀b,b<w.heap.size->hm' b=l b)(k:w.heap.size<=w'.heap.size)(u:∀y,y<j->OG Y l (c y) y w w')(Q:∀e∈es,(aV e).low w'.heap.size)(Z:∀e∈es,∀a,(aV e).touch?=O a->a.loc.isMemory=W->w9 Y hm' a)(ab:∀e∈es,∀a,(aV e).touch?=O a->a.kind=.plain->a.write=W->∀x,x<j->∀b o v,a.loc=.cell ⟨b,o,af⟩->c x b o≠O v)(L:∀e∈es,∀a,e.loc≠.mark (.release a))(B:PayAt Y.C N w')(q:WgLive ty Y.Wg w'):
  DV P ty Y N val hm' c j ((gs.map (woken P g g' w')).setIfInBounds 0 g') w' (t++MemOp.ofEvents 0 fn pos es) D A K (deafBehind n es):=by
 have hb:=h.tl.base;have hk:=h.kc;refine⟨by simp[h.size],λi R hi ZV Dc=>?_,λi hi=>?_,λy d=>?_,?_,h.u6.app L,by rw[Deaf_own,h.xb],λy d=>by rw[Deaf_other t aq _ g_of_ofEvents,h.xc y d],λy d F=>?_,λy d J i AK H=>?_,λy d F=>?_,B,q,eb h.Hh k,eb h.Kb k,λb hb=>eb (h.Wf b hb) k,h.kc,λy d b o v T=>eb (h.W6 y d b o v T) k⟩
 .rw[get_map_set _ _ _ _ aq]at Dc;obtain⟨z,U,rfl⟩:=vm.1 Dc;obtain⟨m,aa,M⟩:=h.lv i z hi ZV U;exact⟨m,aa,by rw[woken_quitsD M,Deaf_other t aq _ g_of_ofEvents];omega⟩
 .rw[Deaf_other t aq _ g_of_ofEvents];exact h.above i hi
 .obtain⟨R,Dc,G⟩:=h.wk y d;exact⟨R,by rw[get_map_set _ _ _ _ aq,Dc,oQ,G.woken],G.Sw (u y d) q B h.kc hh⟩
 .refine(h.tl.ya hh k h.Hh h.Kb h.Wf h.W6).app0 (λop k6=>by grind[Go.Conc.mem_ofEvents]) (λop k6=>?_) (λop k6 a J ak=>?_) (λop k6 a J=>?_)
  .grind [Go.Conc.mem_ofEvents]
  .grind [Go.Conc.mem_ofEvents]
  grind[Go.Conc.mem_ofEvents]
 .obtain⟨r,hr⟩:=h.rel y d F;exact⟨r,hr.appOther g_of_ofEvents aq⟩
 .rw[(u y d).Al _ aq aq];exact h.Db y d J i AK H
 have:=h.HT y d F;simp only[Has]at this⊢;rw[(u y d).Al _ aq aq];omega
def DV.gE(h:DV P ty Y N val l c j gs w t D A K n){m:Nat}(hi:0<i)(C:i<Y.base){g':au}{fn:aO}{pos:String}{es:Array bg}(o:∀e∈es,e.mute=W)(L:QuitsD P m (deafBehind (Deaf t i) es) g'):
  DV P ty Y N val l c j ((gs.map (woken P g g' w)).setIfInBounds i g') w (t++MemOp.ofEvents i fn pos es) D A (upd K i (Rk.W4 m)) n:=by
 have hb:=h.tl.base;have q:∀e∈es,∀a,e.loc≠.mark (.release a):=λe F a=>AN (o e F) a;refine⟨by simp[h.size],λk B hk hkb Dc=>?_,λk hk=>?_,λy b=>?_,?_,h.u6.app q,by rw[Deaf_other t aq _ g_of_ofEvents,h.xb],λy b=>by rw[Deaf_other t aq _ g_of_ofEvents,h.xc y b],λy b d=>?_,h.Db,h.HT,h.Al,h.jU,h.Hh,h.Kb,h.Wf,h.kc,h.W6⟩
 .by_cases e:k=i
  .subst e;rw[get_map_set_same _ _ _ az]at Dc;cases Dc;exact⟨m,by rw[upd_same],by grind[Deaf_own]⟩
  rw[get_map_set _ _ _ _ (Ne.symm e)]at Dc;obtain⟨z,H,rfl⟩:=vm.1 Dc;obtain⟨G,J,u⟩:=h.lv k z hk hkb H;exact⟨G,by rw[upd_ne K _ e];omega,by rw[woken_quitsD u,Deaf_other t (Ne.symm e) _ g_of_ofEvents];omega⟩
 .rw[Deaf_other t aq _ g_of_ofEvents];exact h.above k hk
 .obtain⟨B,Dc,v⟩:=h.wk y b;exact⟨B,by rw[get_map_set _ _ _ _ aq,Dc,oQ,v.woken],by rw[upd_ne K _ aq];omega⟩
 .exact h.tl.mute (g:=i) (λop k6=>by grind[Go.Conc.mem_ofEvents]) (λop k6=>by grind[Go.Conc.mem_ofEvents,low_mute]) (λop k6=>by grind[Go.Conc.mem_ofEvents,touch_mute])
 obtain⟨r,AK⟩:=h.rel y b d;exact⟨r,AK.appOther g_of_ofEvents aq⟩
def DV.spawn(h:DV P ty Y N val l c j gs w t D A K 0){a' ly:au}{x y:MemOp}{r:Rk}(M:x.g=0/\x.act=.go (Y.base+j))(H:y.g=Y.base+j/\y.act=.start)(Q:∀b o v,c j b o=O v->l b=0/\b≠Y.C/\b≠Y.Wg/\¬Y.Sh b/\b<w.heap.size)(AK:mJ (Cx.zB P) E0 (Su P ty Y N val j) r ly s)(B:cK s {s with w:=w})(aa:o5 l (c j) (Y.base+j) s):
  DV P ty Y N val l c (j+1) ((gs.setIfInBounds 0 a').push ly) w (t++#[x,y]) (upd D j ⟨7,0,0⟩) (upd A j 1) (upd K (Y.base+j) r) 0:=by
 have hb:=h.tl.base;have J:∀op∈#[x,y],op=x∨op=y:=az;have d:∀op∈#[x,y],op.act≠.mark .disable/\op.act≠.mark .enable:=az;have k:∀i,0<i->i<Y.base+j->((gs.setIfInBounds 0 a').push ly)[i]?=gs[i]?:=λi hi xZ=>by rw[Array.getElem?_push_lt (by simp[h.size];omega),<-jM,rL aq]
 refine⟨by simp[h.size];omega,λi g hi ZV hg=>?_,λi hi=>?_,λz q=>?_,h.tl.abD M H h.xb (h.above _ (bm _)) λb o v u=>let ⟨h1,h2,G,R,_⟩:=Q b o v u;⟨h1,h2,G,R⟩,λad=>(h.u6 ad).app λop k6=>?_,by rw[Deaf_still t 0 _ d,h.xb],λz q=>?_,λz q e=>?_,λz q F=>?_,λz q e=>?_,h.Al,h.jU,h.Hh,h.Kb,h.Wf,h.kc,λz q b o v u=>?_⟩
 .rw[k i hi aq]at hg;obtain⟨m,h1,h2⟩:=h.lv i g hi ZV hg;exact⟨m,by rw[upd_ne K _ aq];exact h1,by rw[Deaf_still t _ _ d];exact h2⟩
 .rw[Deaf_still t _ _ d];exact h.above i aq
 .rcases dy z j with xZ|a
  .obtain⟨g,hg,L⟩:=h.wk z xZ;exact⟨g,by grind,by rw[upd_ne D _ aq,upd_ne A _ aq,upd_ne K _ aq];omega⟩
  obtain rfl:z=j:=aq;refine⟨ly,?_,by rw[upd_same,upd_same,upd_same];exact .am AK B aa⟩;rw[show Y.base+z=(gs.setIfInBounds 0 a').size by simp[h.size],Array.getElem?_push_size]
 .grind
 .rw[Deaf_still t _ _ d];rcases dy z j with xZ|a
  .rw[h.xc z xZ,upd_ne D _ aq]
  obtain rfl:z=j:=aq;rw[upd_same];exact h.above _ (bm _)
 .rcases dy z j with xZ|a
  .rw[upd_ne D _ aq]at e;obtain⟨r,B⟩:=h.rel z xZ e;refine⟨r,B.appNot λop k6=>?_⟩;grind
  obtain rfl:z=j:=aq;rw[upd_same]at e;grind
 .rcases dy z j with xZ|a
  .rw[upd_ne A _ aq]at F;exact h.Db z xZ F
  obtain rfl:z=j:=aq;rw[upd_same]at F;grind
 .rcases dy z j with xZ|a
  .rw[upd_ne D _ aq]at e;exact h.HT z xZ e
  obtain rfl:z=j:=aq;rw[upd_same]at e;grind
 rcases dy z j with xZ|a
 .exact h.W6 z xZ b o v u
 grind
end
end
section
open Go.Conc
open Go.ConcN (WD CTag Mode Vc Ssum pend phi cnt WgLive PayAt Has RW DWs WSit RelBy sumTo upd upd_same upd_ne AtR0)
open Go.ConcR (KK WgAt stA smA rd wr mk Payload g_of_ofEvents again_blocked)
variable [Payload]
section
variable (P:aR)(ty:av)(Y:zA)(N:Nat)(val:Nat->Nat->ah)(n:Nat)(T l:au->St->Prop)
def Sx(g:au)(s:St):Prop:=g.status=.running/\∃g',(∀w,aU P W g w=.go g' w #[mk (.acquire (stA Y.Wg))])/\∀c,(Cx.ez P ty Y.Wg).rely s c->T g' c
def W7(g:au)(s:St):Prop:=g.status=.running/\∃g',(∀w,aU P W g w=.go g' w #[mk .enable])/\∀c,(Cx.ez P ty Y.Wg).rely s c->(gd (Cx.ez P ty Y.Wg) (Es Y.Wg)) (Sx P ty Y T) g' c
def abE(g:au)(s:St):Prop:=g.status=.running/\∀c,(Cx.ez P ty Y.Wg).rely s c->WgAt ty Y.Wg c.w 0 0->∃g',aU P W g c.w=.go g' c.w #[rd (stA Y.Wg)]/\(gd (Cx.ez P ty Y.Wg) (Es Y.Wg)) (W7 P ty Y T) g' c
def Dd(g:au)(s:St):Prop:=g.status=.running/\g.offers=af/\∀c,(Cx.ez P ty Y.Wg).rely s c ->
 ((∃st,WgAt ty Y.Wg c.w st 0)->aU P W g c.w=.go {g with status:=.blocked} c.w #[]) /\
 (WgAt ty Y.Wg c.w 0 1->∃g',aU P W g c.w=.go g' (c.w.setCell (smA Y.Wg) (.int .u32 0)) (semEvents (smA Y.Wg))/\(gd (Cx.ez P ty Y.Wg) (Es Y.Wg)) (abE P ty Y T) g' {c with w:=c.w.setCell (smA Y.Wg) (.int .u32 0)})
def abF(vs:Nat)(g:au)(s:St):Prop:=g.status=.running/\∀c,(Cx.ez P ty Y.Wg).rely s c->∀v:Nat,v<2147483648->WgAt ty Y.Wg c.w (v*KK) 0 ->
 (v=vs->∃g',aU P W g c.w=.go g' (c.w.setCell (stA Y.Wg) (.int .u64 (v*KK+1))) #[rd (stA Y.Wg),wr (stA Y.Wg)]/\(gd (Cx.ez P ty Y.Wg) (Es Y.Wg)) (Dd P ty Y T) g' {c with w:=c.w.setCell (stA Y.Wg) (.int .u64 (v*KK+1))}) /\
 (v≠vs->∃g',aU P W g c.w=.go g' c.w #[rd (stA Y.Wg)]/\l g' c)
def KQ(g:au)(s:St):Prop:=g.status=.running/\∀c,(Cx.ez P ty Y.Wg).rely s c->∀v:Nat,v<2147483648->WgAt ty Y.Wg c.w (v*KK) 0 ->
 ∃g',aU P W g c.w=.go g' c.w #[rd (stA Y.Wg)]/\(v=0->(gd (Cx.ez P ty Y.Wg) (Es Y.Wg)) (W7 P ty Y T) g' c)/\(v≠0->(gd (Cx.ez P ty Y.Wg) (Es Y.Wg)) (abF P ty Y T l v) g' c)
def abG(g:au)(s:St):Prop:=g.status=.running/\∃g',(∀w,aU P W g w=.go g' w #[mk .disable])/\∀c,(Cx.ez P ty Y.Wg).rely s c->l g' c
def St.ly(s:St):St:={β:=[],M:=s.M,w:=s.w,own:=λ_=>False}
def W8(j:Nat)(Next:au->St->Prop)(g:au)(s:St):Prop:=g.status=.running/\∀c,(Cx.ez P ty Y.Wg).rely s c ->
 ∃g' ly,aU P W g c.w=.spawn g' ly c.w #[]/\ly.status=.running/\gd (Cx.zB P) E0 (Su P ty Y N val j) ly c.ly/\Next g' c
def Sy(j:Nat)(Next:au->St->Prop)(g:au)(s:St):Prop:=g.status=.running/\∃g',(∀w,aU P W g w=.go g' w #[mk .enable])/\∀c,(Cx.ez P ty Y.Wg).rely s c->(gd (Cx.ez P ty Y.Wg) (Es Y.Wg)) (W8 P ty Y N val j Next) g' c
def abH(j:Nat)(Next:au->St->Prop)(g:au)(s:St):Prop:=g.status=.running/\∀c,(Cx.ez P ty Y.Wg).rely s c->∀v:Nat,v<2147483647->WgAt ty Y.Wg c.w (v*KK) 0 ->
 ∃g',aU P W g c.w=.go g' (c.w.setCell (stA Y.Wg) (.int .u64 ((v+1)*KK))) #[rd (stA Y.Wg),wr (stA Y.Wg)]/\(gd (Cx.ez P ty Y.Wg) (Es Y.Wg)) (Sy P ty Y N val j Next) g' {c with w:=c.w.setCell (stA Y.Wg) (.int .u64 ((v+1)*KK))}
def Sz(j:Nat)(Next:au->St->Prop)(g:au)(s:St):Prop:=g.status=.running/\∃g',(∀w,aU P W g w=.go g' w #[mk .disable])/\∀c,(Cx.ez P ty Y.Wg).rely s c->(gd (Cx.ez P ty Y.Wg) (Es Y.Wg)) (abH P ty Y N val j Next) g' c
def r6:Nat->au->St->Prop
 |0,g,s=>(gd (Cx.ez P ty Y.Wg) (Es Y.Wg)) (abG P ty Y l) g s
 |r+1,g,s=>(gd (Cx.ez P ty Y.Wg) (Es Y.Wg)) (Sz P ty Y N val (n-(r+1)) (r6 r)) g s
def Rk.KR:Rk->Rk
 |.leaf=>.node λ_=>.leaf
 |.node f=>.node λs=>Rk.KR (f s)
omit [Payload]in
def Rk.Nb:∀{x r:Rk},Rk.lt x r->Rk.lt x.KR r.KR
 |_,.leaf,h=>h.elim
 |_,.node _,⟨s,h⟩=>⟨s,h.elim (λe=>.inl (by rw[e])) λh=>.inr (Rk.Nb h)⟩
omit [Payload]in
def Rk.SA(s:St):∀r:Rk,∃x,Rk.lt x r.KR
 |.leaf=>⟨.leaf,s,.inl rfl⟩
 |.node f=>⟨(f s).KR,s,.inl rfl⟩
inductive CS:CTag->Nat->Rk->Nat->au->St->Prop
 |skd {r:Nat} {rk:Rk} {g:au} {s:St}:r<n->(mJ (Cx.ez P ty Y.Wg) (Es Y.Wg)) (Sz P ty Y N val (n-(r+1)) (r6 P ty Y N val n l r)) rk g s->CS (.sp r 5) (n-(r+1)) rk 0 g s
 |sa1 {r:Nat} {rk:Rk} {g:au} {s:St}:r<n->(mJ (Cx.ez P ty Y.Wg) (Es Y.Wg)) (abH P ty Y N val (n-(r+1)) (r6 P ty Y N val n l r)) rk g s->CS (.sp r 4) (n-(r+1)) rk 1 g s
 |ske {r:Nat} {rk:Rk} {g:au} {s:St}:r<n->(mJ (Cx.ez P ty Y.Wg) (Es Y.Wg)) (Sy P ty Y N val (n-(r+1)) (r6 P ty Y N val n l r)) rk g s->CS (.sp r 3) (n-(r+1)) rk 1 g s
 |sgo {r:Nat} {rk:Rk} {g:au} {s:St}:r<n->(mJ (Cx.ez P ty Y.Wg) (Es Y.Wg)) (W8 P ty Y N val (n-(r+1)) (r6 P ty Y N val n l r)) rk g s->CS (.sp r 2) (n-(r+1)) rk 0 g s
 |kd {rk:Rk} {g:au} {s:St}:(mJ (Cx.ez P ty Y.Wg) (Es Y.Wg)) (abG P ty Y l) rk g s->CS .kd n rk 0 g s
 |w1 {rk:Rk} {g:au} {s:St}:(mJ (Cx.ez P ty Y.Wg) (Es Y.Wg)) (KQ P ty Y T l) rk g s->CS .w1 n rk 1 g s
 |w2 {vs:Nat} {rk:Rk} {g:au} {s:St}:(mJ (Cx.ez P ty Y.Wg) (Es Y.Wg)) (abF P ty Y T l vs) rk g s->CS (.w2 vs) n rk 1 g s
 |w3 {rk:Rk} {g:au} {s:St}:(mJ (Cx.ez P ty Y.Wg) (Es Y.Wg)) (Dd P ty Y T) rk g s->CS .w3 n rk.KR 1 g s
 |blk {rk:Rk} {g:au} {s:St}:Dd P ty Y T g s->CS .blk n rk 1 {g with status:=.blocked} s
 |w4 {rk:Rk} {g:au} {s:St}:(mJ (Cx.ez P ty Y.Wg) (Es Y.Wg)) (abE P ty Y T) rk g s->CS .w4 n rk 1 g s
 |ke {rk:Rk} {g:au} {s:St}:(mJ (Cx.ez P ty Y.Wg) (Es Y.Wg)) (W7 P ty Y T) rk g s->CS .ke n rk 1 g s
 |acq {rk:Rk} {g:au} {s:St}:(mJ (Cx.ez P ty Y.Wg) (Es Y.Wg)) (Sx P ty Y T) rk g s->CS .acq n rk 0 g s
structure W9(p:Nat->Nat)(o:Nat->Mem)(m:Machine)(t:Trace):Prop where
 gf:∃(gs:Array au) (w:aB) (sl:Option (Nat×Nat)) (a:au) (s:St) (q:Nat->Nat),m=crowd gs w sl/\gs[0]?=O a/\gs.size=Y.base+n/\T a {s with w:=w}/\cK s {s with w:=w}/\ma Y p o n s /\
  Leavers P t gs q/\Past (nn λb=>Y.Sh b∨b=Y.Wg) w.heap.size t/\qM t/\PayAt Y.C N w/\(∀x,x<n->∀i,i<Y.kc->w.cell? ⟨Y.C,Y.kc*x+i,af⟩=O (val x i))/\Y.C<w.heap.size/\Y.Wg<w.heap.size/\∀b,Y.Sh b->b<w.heap.size
abbrev Mu:=Nat×((Nat->Rk)×Rk)
def Nc(M:Nat):Mu->Mu->Prop:=Prod.Lex (· < ·) (Prod.Lex (Vec M) Rk.lt)
omit [Payload]in
def abI(M:Nat):WellFounded (Nc M):=(Prod.lex Nat.lt_wfRel ⟨_,(Prod.lex ⟨Vec M,Ss M⟩ ⟨Rk.lt,⟨Rk.ir⟩⟩).wf⟩).wf
structure yc(μ:Mu)(gs:Array au)(w:aB)(t:Trace)(p:Nat->Nat)(o:Nat->Mem)(j:Nat)(D:Nat->WD)(A:Nat->Nat)(K:Nat->Rk)(d0:Nat)(tag:CTag)(rk:Rk)(a:au)(s:St)(st sm:Int):Prop where
 a0:gs[0]?=O a
 cs:CS P ty Y N val n T l tag j rk d0 a s
 rely:cK s {s with w:=w}
 ez:ma Y p o j s
 jq:DV P ty Y N val p o j gs w t D A K d0
 wg:WgAt ty Y.Wg w st sm
 mode:Go.ConcN.Mode j D tag st sm
 mu:μ=(phi n (Vc j D) tag+Ssum j D+sumTo j A,(K,rk))
def nD(b:Mu)(m:Machine)(t:Trace):Prop :=
 ∃(gs:Array au) (w:aB) (sl:Option (Nat×Nat)) (p:Nat->Nat) (o:Nat->Mem) (j:Nat) (D:Nat->WD) (A:Nat->Nat) (K:Nat->Rk) (i:Nat) (tag:CTag) (rk:Rk) (a:au) (s:St) (st sm:Int),
  m=crowd gs w sl/\yc P ty Y N val n T l b gs w t p o j D A K i tag rk a s st sm
end
section
variable {P:aR}{ty:av}{Y:zA}{N:Nat}{val:Nat->Nat->ah}{n:Nat}{T l:au->St->Prop}{p hm':Nat->Nat}{o:Nat->Mem}{tag:CTag}{rk:Rk}{d:Nat}{a:au}
omit [Payload]in
def iR(h:cK s {s with w:=w})(B:WgLive ty Y.Wg w):(Cx.ez P ty Y.Wg).rely s {s with w:=w}:=⟨h,λ_=>B⟩
omit [Payload]in
def Dd.rely{c:St}(h:Dd P ty Y T g s)(u:(Cx.ez P ty Y.Wg).rely s c):Dd P ty Y T g c :=
 ⟨h.1,h.2.1,λs2 z=>h.2.2 s2 ⟨u.1.trans z.1,λx=>z.2 (u.2 x)⟩⟩
def CS.status(h:CS P ty Y N val n T l tag j rk d a s):(a.status=.running/\tag≠.blk)∨(a.status=.blocked/\tag=.blk):=by
 cases h with
 |skd _ h=>exact .inl ⟨h.run λ_ _ x=>x.1,by simp⟩
 |sa1 _ h=>exact .inl ⟨h.run λ_ _ x=>x.1,by simp⟩
 |ske _ h=>exact .inl ⟨h.run λ_ _ x=>x.1,by simp⟩
 |sgo _ h=>exact .inl ⟨h.run λ_ _ x=>x.1,by simp⟩
 |kd h=>exact .inl ⟨h.run λ_ _ x=>x.1,by simp⟩
 |w1 h=>exact .inl ⟨h.run λ_ _ x=>x.1,by simp⟩
 |w2 h=>exact .inl ⟨h.run λ_ _ x=>x.1,by simp⟩
 |w3 h=>exact .inl ⟨h.run λ_ _ x=>x.1,by simp⟩
 |blk h=>grind
 |w4 h=>exact .inl ⟨h.run λ_ _ x=>x.1,by simp⟩
 |ke h=>exact .inl ⟨h.run λ_ _ x=>x.1,by simp⟩
 |acq h=>exact .inl ⟨h.run λ_ _ x=>x.1,by simp⟩
def CS.Nd(h:CS P ty Y N val n T l tag j rk d a s)(g g':au)(w':aB):
  ∃tag' rk',CS P ty Y N val n T l tag' j rk' d (woken P g g' w' a) s/\(tag'=tag∨(tag=.blk/\tag'=.w3))/\(mayWake P g=W->g'.status=.running->tag'≠.blk):=by
 unfold Go.Conc.woken;split
 .rcases h.status with⟨i,b⟩|⟨_,rfl⟩
  .grind [again_running]
  cases h with
  |blk hb=>exact⟨.w3,Rk.KR .leaf,by rw[again_blocked hb.1 hb.2.1];exact .w3 (show mJ _ _ _ .leaf _ _ from hb),.inr ⟨rfl,rfl⟩,λ_ _=>by simp⟩
 grind
def nF{μ:Mu}{sl:Option (Nat×Nat)}{t:Trace}{D:Nat->WD}{A:Nat->Nat}{K:Nat->Rk}{st sm:Int}(AK:yc P ty Y N val n T l μ gs w t p o j D A K d tag rk a s st sm){x:Nat}(ab:x<j){g':au}{es:Array bg}{a' s' d':Nat}{r':Rk}{F E:Int}(hg:gs[Y.base+x]?=O g)(hgo:aU P ae g w=.go g' w' es)(hh:∀b,b<w.heap.size->hm' b=p b)(Wb:w.heap.size<=w'.heap.size)(R:∀y,y<j->y≠x->OG Y p (o y) y w w')(J:KP Y p w w')(hws:WS P ty Y N val hm' o x a' s' r' d' g' w')(L:∀e∈es,(aV e).low w'.heap.size)(htw:∀e∈es,∀a,(aV e).touch?=O a->a.loc.isMemory=W->va Y hm' (o x) x a)(Z:∀e∈es,∀a,e.loc≠.mark (.release a))(G:deafBehind (D x).deaf es=d')(S:s'<=6->∃r,RelBy (stA Y.Wg) (t++MemOp.ofEvents (Y.base+x) g.frame.fn g.frame.place es) (Y.base+x) r)(h1:a'=0->∀i,1<=i->i<Y.kc->w'.cell? ⟨Y.C,Y.kc*x+i,af⟩=O (val x i))(h0:s'<=6->Has Y.C (Y.kc*x) (val x 0) w')(aa:PayAt Y.C N w')(Q:WgAt ty Y.Wg w' F E)(H:∀tag',(tag'=tag∨(tag=.blk/\tag'=.w3))->(mayWake P g=W->g'.status=.running->tag'≠.blk)->Go.ConcN.Mode j (upd D x ⟨s',0,d'⟩) tag' F E)(X:(s'+a'<(D x).stage+A x/\cnt ⟨s',0,d'⟩<=cnt (D x))∨(s'=(D x).stage/\a'=A x/\Rk.lt r' (K (Y.base+x))))(hjn:Y.base+j<=Y.base+n):
  ∃m ops μ',runT P (crowd gs w sl) (Y.base+x)=(.next m,ops)/\Nc (Y.base+n) μ' μ/\nD P ty Y N val n T l μ' m (t++ops):=by
 have hb:=AK.jq.tl.base;obtain⟨tag',rk',U,q,hwk⟩:=AK.cs.Nd g g' w';have hi0:(Y.base+x==0)=ae:=az;have ak:=runT_crowd_go (P:=P) (sl:=sl) (i:=Y.base+x) hg (by rw[hi0];exact hgo)
 have e1:=Go.ConcN.sumTo_upd D (⟨s',0,d'⟩:WD) cnt ab;have e2:=Go.ConcN.sumTo_upd D (⟨s',0,d'⟩:WD) WD.stage ab;have e3:sumTo j (upd A x a')+A x=sumTo j A+a':=Go.ConcN.sumTo_upd A a' id ab;refine⟨_,_,(phi n (Vc j (upd D x ⟨s',0,d'⟩)) tag'+Ssum j (upd D x ⟨s',0,d'⟩)+sumTo j (upd A x a'),(upd K (Y.base+x) r',rk')),ak,?_,
  _,w',sl,hm',o,j,_,_,_,d,tag',rk',woken P g g' w' a,s,F,E,rfl,⟨by rw[Go.ConcN.get_map_set _ _ _ _ aq,AK.a0];rfl,U,AK.ez.Sw AK.rely J,AK.ez.ya AK.rely.size hh,
   AK.jq.db ab hh Wb R hws L htw Z G S h1 h0 aa ⟨_,_,Q⟩,Q,H tag' q hwk,rfl⟩⟩
 rw[AK.mu,Go.ConcN.phi_retag n _ q];simp only[Vc,Ssum]at *;rcases X with⟨q1,q2⟩|⟨q1,q2,q3⟩
 .refine Prod.Lex.left _ _ ?_;have:=Go.ConcN.phi_mono n (v':=sumTo j λa=>cnt (upd D x ⟨s',0,d'⟩ a)) (v:=sumTo j λa=>cnt (D a)) aq tag;omega
 have ec:cnt (⟨s',0,d'⟩:WD)=cnt (D x):=wj;have ev:(sumTo j λa=>cnt (upd D x ⟨s',0,d'⟩ a))=sumTo j λa=>cnt (D a):=aq;have es':(sumTo j λa=>(upd D x ⟨s',0,d'⟩ a).stage)=sumTo j λa=>(D a).stage:=aq;have ea:sumTo j (upd A x a')=sumTo j A:=aq;rw[ev,es',ea];exact Prod.Lex.right _ (Prod.Lex.left _ _ ⟨Y.base+x,by omega,by rw[upd_same];exact q3,λk hk=>upd_ne K _ hk⟩)
end
end
section
open Go.Conc
open Go.ConcN (WD CTag Vc Ssum pend phi cnt WgLive PayAt Has RW DWs WSit RelBy sumTo upd upd_same upd_ne AtR0 isW3 isOpen OpenSt deafBehind_idle bk_cell okW_none Vc_upd Vc_le le_sumTo others_uncounted)
open Go.ConcR (KK WgAt stA smA rd wr mk Payload g_of_ofEvents Bk bk_of_mute ofEvent_loc_mark ofEvent_cell)
variable [Payload]
section
variable {Y:zA}{T G:au->St->Prop}{F hm':Nat->Nat}{aa:Nat->Mem}{tag:CTag}{rk:Rk}{d:Nat}{a:au}
omit [Payload]in
def OG.wg(h:Aside Y.Wg w w')(E:F Y.Wg=0)(k:1<=Y.base)(hM:∀b o v,aa j b o=O v->b≠Y.Wg)(hC:Y.C≠Y.Wg):OG Y F (aa j) j w w' :=
 ⟨by rw[h.size];grind,λb _ qq=>h.block b (λe=>by grind),λb o v H ab=>by rw[mb (h.block b (hM b o v H))];exact ab,λo _ _=>mb (h.block _ hC) o,h.os,h.tape,h.output⟩
omit [Payload]in
def KP.wg(h:Aside Y.Wg w w'):KP Y F w w':=⟨by rw[h.size];grind,λb _ _ _ z=>h.block b z,h.os,h.tape,h.output⟩
omit [Payload]in
def KP.refl(w:aB):KP Y F w w:=⟨bm _,λ_ _ _ _ _=>rfl,rfl,rfl,rfl⟩
omit [Payload]in
def SB{B:Nat}{es:Array bg}(h:∀e∈es,Bk Y.Wg e)(E:Y.Wg<B):∀e∈es,(aV e).low B:=by
 intro e c;rcases h e c with p|p|⟨ad,wr,rfl,J⟩
 .rw[ofEvent_loc_mark p];trivial
 .rw[ofEvent_loc_mark p];trivial
 rw[ofEvent_cell];show ad.block<B;grind
omit [Payload]in
def Xa{x:Nat}{es:Array bg}(h:∀e∈es,Bk Y.Wg e):∀e∈es,∀a,(aV e).touch?=O a->a.loc.isMemory=W->va Y F (aa x) x a:=by
 intro e c b k _;rcases h e c with p|p|⟨ad,wr,rfl,J⟩
 .rw[ofEvent_loc_mark p]at k;cases k
 .rw[ofEvent_loc_mark p]at k;cases k
 rw[ofEvent_cell]at k;simp only[MemAct.touch?,eF]at k;subst k;exact .inl ⟨ad,Z,J,Z⟩
omit [Payload]in
def HU{es:Array bg}(h:∀e∈es,Bk Y.Wg e):∀e∈es,∀a,e.loc≠.mark (.release a):=by
 intro e c a Z;rcases h e c with p|p|⟨ad,wr,rfl,_⟩
 .grind
 .grind
 grind
omit [Payload]in
def Xb{x:Nat}{s2:St}{es:Array bg}(ak:o5 F (aa x) (Y.base+x) s)(S:aH U s)(R:gA s es)(st:eO U s U' s2):
  (∀e∈es,(aV e).low s2.w.heap.size)/\(∀e∈es,∀a,(aV e).touch?=O a->a.loc.isMemory=W->va Y (q8 F s.w.heap.size (Y.base+x)) (aa x) x a) /\
  (∀e∈es,e.loc≠.mark .disable/\e.loc≠.mark .enable)/\∀e∈es,∀a,e.loc≠.mark (.release a):=by
 have key:∀e∈es,(aV e).low s2.w.heap.size/\(∀a,(aV e).touch?=O a->a.loc.isMemory=W->va Y (q8 F s.w.heap.size (Y.base+x)) (aa x) x a)/\(e.loc≠.mark .disable/\e.loc≠.mark .enable)/\∀a,e.loc≠.mark (.release a):=by
  intro e c;have h:=R e c;obtain⟨loc,wr,sy⟩:=e;cases loc with
  |cell ad =>
   obtain⟨p,z,l⟩:=h;simp only at p z l;subst p;have u:ad.block<s.w.heap.size:=by
    rcases l with l|⟨⟨L,Q,l⟩,_⟩|⟨_,v,l⟩
    .exact l.elim
    .exact S.lt L Q _ l
    exact jk.lt S.mem l
   refine⟨by rw[ofEvent_cell];exact eb u st.size,λb k _=>?_,⟨by simp,by simp⟩,by simp⟩;rw[ofEvent_cell]at k;simp only[MemAct.touch?,eF]at k;subst k;refine .inr ⟨Z,?_⟩;rcases l with l|⟨⟨L,Q,l⟩,_⟩|⟨X,v,l⟩
   .exact l.elim
   .exact .inl ⟨ad.block,Z,by rw[gU u];exact(ak.blk _ (.inr ⟨L,Q,l⟩)).1⟩
   rcases(ak.M _ _ _ l).1 with h5|h5
   .exact .inl ⟨ad.block,Z,by grind[gU]⟩
   refine .inr (.inr ⟨X,ad.block,ad.off,v,?_,h5⟩);obtain⟨b,o,sp⟩:=ad;grind
  |obj r =>
   obtain⟨p,z⟩:=h;simp only at p z;subst p;obtain⟨L,Q,l⟩:=z.resolve_left id;have u:=S.lt L Q _ l;refine⟨?_,λb k _=>?_,⟨by simp,by simp⟩,by simp⟩
   .simp[aV,MemAct.low,Loc.low];exact eb u st.size
   simp[aV,MemAct.touch?]at k;subst k;exact .inr ⟨Z,.inl ⟨r,Z,by rw[gU u];exact(ak.blk _ (.inr ⟨L,Q,l⟩)).1⟩⟩
  |mark m =>
   simp only[pF]at h;rcases h with rfl|⟨f,rfl⟩
   .exact⟨by exact j3,λb k=>by exact j3,⟨by simp,by simp⟩,by simp⟩
   exact⟨by exact j3,λb k=>by exact j3,⟨by simp,by simp⟩,by simp⟩
  |_=>exact h.elim
 grind
def KS{μ:Mu}{sl:Option (Nat×Nat)}{t:Trace}{D:Nat->WD}{A:Nat->Nat}{K:Nat->Rk}{st sm:Int}(AK:yc P ty Y N val n T G μ gs w t F aa j D A K d tag rk a s st sm)(hn:n<2147483648)(hj:j<=n)(hpd:j+pend tag<=n){x:Nat}(hx:x<j)(hg:gs[Y.base+x]?=O g)(A9:g.status=.running):
  ∃m₁ ops μ',runT P (crowd gs w sl) (Y.base+x)=(.next m₁,ops)/\Nc (Y.base+n) μ' μ/\nD P ty Y N val n T G μ' m₁ (t++ops):=by
 have SC:=AK.jq.tl.base;obtain⟨g₁,hg₁,hs⟩:=AK.jq.wk x hx;obtain rfl:g=g₁:=az;generalize Qy:(D x).stage=sg at hs;generalize hfu:K (Y.base+x)=r at hs;generalize hde:(D x).deaf=dd at hs;generalize hA:A x=ax at hs;have hdk:Deaf t (Y.base+x)=dd:=by rw[AK.jq.xc x hx,hde]
 have hVj:=Vc_le j D;have same:∀m' Nf,Go.ConcN.Mode j (upd D x ⟨sg,m',Nf⟩) tag st sm:=λm' Nf=>by have:=AK.mode.same (i:=x) m' Nf;grind
 cases hs with
 |@am r g s0 w p z l =>
  rcases p.kR (λs0=>cK s0 {s0 with w:=w}/\o5 F (aa x) (Y.base+x) s0) (λs0 s' hgh hi=>⟨hi.1.c8 hgh,hi.2.c8 hgh⟩) (λ_ s0 s' hgh hi=>⟨hi.1.jz hgh,hi.2.jz hgh⟩) ⟨z,l⟩with⟨s',⟨k1,k2⟩,mc⟩|⟨_,s',⟨k1,k2⟩,o7⟩
  ·
   obtain⟨g',w2,es,hgo,E,hes,m,hk⟩:=mc.2 w k1 AK.jq.Al AK.jq.jU;have hkc:=AK.jq.kc;refine nF AK hx hg hgo (hm':=F) (λ_ _=>rfl) (by rw[E.size];grind) (λy hy hyx=>⟨by rw[E.size];grind,λb _ k=>E.block b (λe=>by rw[e,AK.jq.tl.hC]at k;omega),λb o v H ab=>?_,λo ho1 ho2=>E.gf o ?_,E.os,E.tape,E.output⟩)
    ⟨by rw[E.size];grind,λb _ _ z _=>E.block b z,E.os,E.tape,E.output⟩ (.rel hk) (λe c=>?_) (λe c b k _=>?_) (λe c=>?_) ?_ (λh=>absurd h ee) (λ_ i _ hi=>E.new i hi) (λh=>absurd h ee) E.Al
    (AK.wg.of_block (E.block _ (Ne.symm AK.jq.tl.ne))) (λ_ ht _=>(same _ _).retag ht) (.inl ⟨by omega,by simp[cnt,Qy]⟩) aq
   .rw[mb (E.block b (AK.jq.tl.ms y hy b o v H).2.1)];exact ab
   .rcases Nat.lt_or_gt_of_ne hyx with h|h
    .have:=zZ Y.kc (show y+1<=x from h);grind
    have:=zZ Y.kc (show x+1<=y from h);grind
   .obtain⟨o,rfl,_⟩:=hes e c;rw[ofEvent_cell];show Y.C<_;rw[E.size];exact AK.jq.Kb
   .obtain⟨o,rfl,ho1,ho2⟩:=hes e c;rw[ofEvent_cell]at k;simp only[MemAct.touch?,eF]at k;subst k;exact .inr ⟨aK,.inr (.inl ⟨o,aK,ho1,ho2⟩)⟩
   .grind
   rw[hde];exact deafBehind_idle (λe c=>by grind) 0
  ·
   obtain⟨g',s2,es,r',hgo,hgu,Qs,u⟩:=o7 _ k1;obtain⟨⟨U,U',S,lj,Qz⟩,R⟩:=hgu.resolve_right id;have k3:o5 F (aa x) (Y.base+x) {s' with w:=w}:=k2.rely k1.size;obtain⟨e1,e2,e3,e4⟩:=Xb k3 S R Qz;have Bj:∀b,b<w.heap.size->F b≠Y.base+x->s2.w.heap[b]?=w.heap[b]?:=λb k Hg=>Qz.keep b k λL Q Wr=>Hg (k3.blk b (.inr ⟨L,Q,Wr⟩)).1;refine nF AK hx hg hgo (hm':=q8 F w.heap.size (Y.base+x)) (λb k=>gU k) Qz.size (λy hy hyx=>⟨Qz.size,λb k hby=>Bj b k aq,λb o v H ab=>?_,λo _ _=>mb (Bj _ AK.jq.Kb (by rw[AK.jq.tl.hC];omega)) o,Qz.os,Qz.tape,Qz.output⟩)
    ⟨Qz.size,λb k h0 _ _=>Bj b k aq,Qz.os,Qz.tape,Qz.output⟩ (.am Qs (cK.Bi lj.mem) (k3.step lj Qz)) e1 e2 e4 (by rw[hde];exact deafBehind_idle e3 0) (λh=>absurd h ee) (λh=>absurd h ee) (λh=>absurd h ee) ?_
    (AK.wg.of_block (Bj _ AK.jq.Hh (by rw[AK.jq.tl.Qw];omega))) (λ_ ht _=>(same _ _).retag ht) (.inr ⟨Qy.symm,hA.symm,by grind⟩) aq
   .rw[mb (Bj b (AK.jq.W6 y hy b o v H) (by rw[(AK.jq.tl.ms y hy b o v H).1];omega))];exact ab
   obtain⟨cs,c1,c2⟩:=AK.jq.Al;exact⟨cs,(Bj _ AK.jq.Kb (by rw[AK.jq.tl.hC];omega)).trans c1,c2⟩
 |@rel m g w h =>
  rcases Goes.cases h with mc|⟨m',rfl,o7⟩
  ·
   obtain⟨_,anW,g',hgo,m₂,hk⟩:=mc w (Go.ConcN.RW.refl w);refine nF AK hx hg hgo (hm':=F) (λ_ _=>rfl) (bm _) (λy _ _=>.refl ..) (.refl w) (.tail ee (.k1 hk)) (λe c=>?_) (λe c b k _=>?_) (λe c=>?_) wj (λ_=>⟨t.size,RelBy.new hdk _ _⟩) (λ_=>AK.jq.Db x hx hA) (λ_=>by grind) AK.jq.Al AK.wg
    (λ_ ht _=>(AK.mode.counted hx aq (.inl aK) _ _).retag ht) (.inl ⟨by omega,by simp[cnt,Qy]⟩) aq
   .simp at c;subst c;exact AK.jq.Hh
   .simp at c;subst c;exact j3
   simp at c;subst c;simp[mk]
  obtain⟨g',w',es,hgo,⟨rfl,rfl⟩,Ng⟩:=o7 w (Go.ConcN.RW.refl w);exact nF AK hx hg hgo (hm':=F) (λ_ _=>rfl) (bm _) (λy _ _=>.refl ..) (.refl w') (.rel Ng) ay ay ay j3 (λh=>absurd h ee) (λ_=>AK.jq.Db x hx hA) (λh=>absurd h ee) AK.jq.Al AK.wg (λ_ ht _=>(same _ _).retag ht)
   (.inr ⟨Qy.symm,hA.symm,by rw[hfu];exact Rk.KO _ s⟩) aq
 |@tail sg m dd g w h6 h =>
  have ZX:∀{g':au} {w':aB} {es:Array bg} {s' m' Nf:Nat} {uX OI:Int},aU P ae g w=.go g' w' es->Aside Y.Wg w w'->WgAt ty Y.Wg w' uX OI->(∀e∈es,Bk Y.Wg e) ->
    (∀jx e,es[jx]?=O e->(aV e).touch?=af∨0<deafBehind dd (es.extract 0 jx))->s'<=6->WSit P ty Y.Wg Y.C N ZU ZU 0 (Y.kc*x+1) (val x 0) s' m' Nf g' w'->deafBehind dd es=Nf ->
    (∀tag',(tag'=tag∨(tag=.blk/\tag'=.w3))->(mayWake P g=W->g'.status=.running->tag'≠.blk)->Go.ConcN.Mode j (upd D x ⟨s',0,Nf⟩) tag' uX OI)->((s'<sg/\cnt ⟨s',0,Nf⟩<=cnt (D x))∨(s'=sg/\m'+1=m)) ->
    ∃m₁ ops μ',runT P (crowd gs w sl) (Y.base+x)=(.next m₁,ops)/\Nc (Y.base+n) μ' μ/\nD P ty Y N val n T G μ' m₁ (t++ops):=by
   intro g' w' es s' m' Nf uX OI hgo Xc SD OJ hd hs6 hs' hdd Bl u;obtain⟨cs,aiu,aiv⟩:=AK.jq.Al;refine nF AK hx hg hgo (hm':=F) (λ_ _=>rfl) (by rw[Xc.size];grind) (λy hy _=>.wg Xc AK.jq.tl.Qw SC (λb o v H=>(AK.jq.tl.ms y hy b o v H).2.2.1) AK.jq.tl.ne) (.wg Xc) (.tail hs6 hs') (SB OJ (by rw[Xc.size];exact AK.jq.Hh)) (Xa OJ) (HU OJ) az
    (λ_=>let ⟨r,hr⟩:=AK.jq.rel x hx aq;⟨r,hr.book hdk _ _ OJ hd⟩) (λ_ i hi1 hi2=>(mb (Xc.block _ AK.jq.tl.ne) _).trans (AK.jq.Db x hx hA i hi1 hi2)) (λ_=>(mb (Xc.block _ AK.jq.tl.ne) _).trans (AK.jq.HT x hx aq)) ⟨cs,(Xc.block _ AK.jq.tl.ne).trans aiu,aiv⟩ SD Bl
    (u.imp (λh=>⟨by omega,h.2⟩) λh=>⟨by omega,hA.symm,by rw[hfu,<-h.2];exact Rk.KO _ s⟩) aq
  have book:∀{g':au} {w':aB} {es:Array bg} {s' m' Nf:Nat} {uX OI:Int},aU P ae g w=.go g' w' es->Aside Y.Wg w w'->WgAt ty Y.Wg w' uX OI->(∀e∈es,Bk Y.Wg e) ->
    (∀jx e,es[jx]?=O e->(aV e).touch?=af∨0<deafBehind dd (es.extract 0 jx))->s'<=6->WSit P ty Y.Wg Y.C N ZU ZU 0 (Y.kc*x+1) (val x 0) s' m' Nf g' w'->deafBehind dd es=Nf ->
    Go.ConcN.Mode j (upd D x ⟨s',0,Nf⟩) tag uX OI->((s'<sg/\cnt ⟨s',0,Nf⟩<=cnt (D x))∨(s'=sg/\m'+1=m)) ->
    ∃m₁ ops μ',runT P (crowd gs w sl) (Y.base+x)=(.next m₁,ops)/\Nc (Y.base+n) μ' μ/\nD P ty Y N val n T G μ' m₁ (t++ops) :=
   λhgo Xc SD OJ hd hs6 hs' hdd Bl u=>ZX hgo Xc SD OJ hd hs6 hs' hdd (λ_ ht _=>Bl.retag ht) u
  have idle:∀{g':au} {m':Nat},aU P ae g w=.go g' w #[]->WSit P ty Y.Wg Y.C N ZU ZU 0 (Y.kc*x+1) (val x 0) sg m' dd g' w->m'+1=m ->
    ∃m₁ ops μ',runT P (crowd gs w sl) (Y.base+x)=(.next m₁,ops)/\Nc (Y.base+n) μ' μ/\nD P ty Y N val n T G μ' m₁ (t++ops):=by intro g' m' hgo hs' F;exact book hgo (.refl Y.Wg w) AK.wg ay ay h6 hs' aK (same _ _) (.inr ⟨aK,F⟩)
  cases h with
  |r0 h=>omega
  |k1 h =>
   rcases Goes.cases h with mc|⟨m',rfl,o7⟩
   .obtain⟨_,g',hgo,m₂,hk⟩:=mc w (Go.ConcN.RW.refl w);exact book hgo (.refl Y.Wg w) AK.wg (by intro e c;simp at c;subst c;exact .inl aK) (by intro jx e c;exact .inl (by have:=zO c;simp at this;exact wj)) ee (.d1 hk) aK (AK.mode.counted hx aq (.inr aK) _ _) (.inl ⟨by omega,by simp[cnt,Qy]⟩)
   obtain⟨g',w',es,hgo,⟨rfl,rfl⟩,Ng⟩:=o7 w (Go.ConcN.RW.refl w);exact idle hgo (.k1 Ng) aK
  |d1 h =>
   rcases Goes.cases h with mc|⟨m',rfl,o7⟩
   .obtain⟨_,abe⟩:=mc w (Go.ConcN.RW.refl w);have FL:=AK.wg;have SE:=AK.mode;have hc1:cnt (D x)=1:=by simp[cnt,Qy]
    have hV1:1<=Vc j D:=by have:=le_sumTo (f:=λx=>cnt (D x)) hx;simp only[Vc];omega
    have bk2:∀e∈#[rd (stA Y.Wg),wr (stA Y.Wg)],Bk Y.Wg e:=by intro e c;simp at c;rcases c with rfl|rfl<;>exact bk_cell _ _ rfl
    have df2:∀jx e,(#[rd (stA Y.Wg),wr (stA Y.Wg)]:Array bg)[jx]?=O e->(aV e).touch?=af∨0<deafBehind 1 ((#[rd (stA Y.Wg),wr (stA Y.Wg)]:Array bg).extract 0 jx):=by
     intro jx e c
     match jx,c with
     |0,_=>exact .inr aaS
     |1,_=>exact .inr (by simp[deafBehind,rd])
     |jx+2,c=>simp at c
    have hq0:∀q,cnt (⟨1,q,1⟩:WD)=0:=λ_=>rfl;have cJ:∀q,OpenSt j D->OpenSt j (upd D x ⟨1,q,1⟩):=λq h a J=>by
     by_cases e:a=x
     .subst e;rw[upd_same];simp
     rw[upd_ne D _ e];exact h a J
    generalize anY:st=st0 at SE FL;generalize anZ:sm=sm0 at SE FL;cases SE with
    |opn p z l =>
     obtain⟨v,H⟩:∃v,Vc j D+pend tag=v+1:=⟨Vc j D+pend tag-1,by omega⟩
     rw[H]at FL;have hw1:WgAt ty Y.Wg w (((v:Nat)+1)*KK+((0:Nat):Int)) 0:=az;obtain⟨g',hgo,_,hq⟩:=abe v 0 aq aq hw1;obtain⟨q,hq⟩:=hq aq;have hv':Vc j (upd D x ⟨1,0,1⟩)+pend tag=v:=Rc;refine book hgo (aside_setCell w (stA Y.Wg) _) (FL.setSt _) bk2 df2 ee (.quit hq) aK ?_ (.inl ⟨by omega,by grind⟩);have e:((v:Nat):Int)*KK+((0:Nat):Int)=((Vc j (upd D x ⟨1,0,1⟩)+pend tag:Nat):Int)*KK:=az;rw[e];exact .opn p (cJ 0 z) (λvs ev=>by grind)
    |reg p z l =>
     obtain⟨v,H⟩:∃v,Vc j D=v+1:=⟨Vc j D-1,by omega⟩
     rw[H]at FL;have hp:pend tag=0:=by cases tag<;>first|rfl|exact p.elim
     have hw1:WgAt ty Y.Wg w (((v:Nat)+1)*KK+((1:Nat):Int)) 0:=az;obtain⟨g',hgo,Z,hq⟩:=abe v 1 aq aq hw1;by_cases Ws:v=0
     .subst Ws;obtain⟨m₂,hk⟩:=Z ⟨rfl,rfl⟩;refine book hgo (aside_setCell w (stA Y.Wg) _) (FL.setSt _) bk2 df2 ee (.d2 hk) aK ?_ (.inl ⟨by omega,by simp[cnt]⟩);have Kx:∀a,a<j->a≠x->(D a).stage=1:=λa J e=>by have c0:=others_uncounted hx H hc1 a J e;have:=z a J;simp only[cnt]at c0;split at c0<;>omega
      have:=Go.ConcN.Mode.last (j:=j) (D:=upd D x ⟨4,0,1⟩) (tag:=tag) x p hx Kh (λa J e=>by rw[upd_ne D _ e];grind);rw[upd_same]at this;grind
     obtain⟨q,hq⟩:=hq aq;have hv':Vc j (upd D x ⟨1,0,1⟩)=v:=Rc;refine book hgo (aside_setCell w (stA Y.Wg) _) (FL.setSt _) bk2 df2 ee (.quit hq) aK ?_ (.inl ⟨by omega,by grind⟩);have e:((v:Nat):Int)*KK+((1:Nat):Int)=((Vc j (upd D x ⟨1,0,1⟩):Nat):Int)*KK+1:=az;rw[e];exact .reg p (cJ 0 z) aq
    |last L _ z l X =>
     grind
    |sema z=>have:=z x hx;omega
    |fin _ z=>have:=z x hx;omega
   obtain⟨g',w',es,hgo,⟨rfl,rfl⟩,Ng⟩:=o7 w (Go.ConcN.RW.refl w);exact idle hgo (.d1 Ng) aK
  |d2 h =>
   rcases Goes.cases h with mc|⟨m',rfl,o7⟩
   .obtain⟨_,ZY⟩:=mc w (Go.ConcN.RW.refl w);obtain⟨hW3,Kx,e1,e2⟩:=AK.mode.isLast hx aq;have FL:=AK.wg;rw[e1,e2,Qy]at FL;obtain⟨g',hgo,m₂,hk⟩:=ZY az;refine book hgo (.refl Y.Wg w) FL Zp Zi ee (.d3 hk) aK ?_ (.inl ⟨by omega,by simp[cnt]⟩);have:=Go.ConcN.Mode.last (j:=j) (D:=upd D x ⟨3,0,1⟩) (tag:=tag) x hW3 hx Kh (λa J e=>by rw[upd_ne D _ e];grind);rw[upd_same]at this;grind
   obtain⟨g',w',es,hgo,⟨rfl,rfl⟩,Ng⟩:=o7 w (Go.ConcN.RW.refl w);exact idle hgo (.d2 Ng) aK
  |d3 h =>
   rcases Goes.cases h with mc|⟨m',rfl,o7⟩
   .obtain⟨_,ZY⟩:=mc w (Go.ConcN.RW.refl w);obtain⟨hW3,Kx,e1,e2⟩:=AK.mode.isLast hx aq;have FL:=AK.wg;rw[e1,e2,Qy]at FL;obtain⟨g',hgo,m₂,hk⟩:=ZY az;refine book hgo (aside_setCell w (stA Y.Wg) _) (FL.setSt 0) Zp Zi ee (.d4 hk) aK ?_ (.inl ⟨by omega,by simp[cnt]⟩);have:=Go.ConcN.Mode.last (j:=j) (D:=upd D x ⟨2,0,1⟩) (tag:=tag) x hW3 hx Kh (λa J e=>by rw[upd_ne D _ e];grind);rw[upd_same]at this;grind
   obtain⟨g',w',es,hgo,⟨rfl,rfl⟩,Ng⟩:=o7 w (Go.ConcN.RW.refl w);exact idle hgo (.d3 Ng) aK
  |d4 h =>
   rcases Goes.cases h with mc|⟨m',rfl,o7⟩
   .obtain⟨_,hmw,ZY⟩:=mc w (Go.ConcN.RW.refl w);obtain⟨hW3,Kx,e1,e2⟩:=AK.mode.isLast hx aq;have FL:=AK.wg;rw[e1,e2,Qy]at FL;obtain⟨g',hgo,q,hq⟩:=ZY az;have Bm:g'.status=.running:=by
     cases q with
     |zero=>exact absurd hq.2 ee
     |succ q=>exact hq.elim (λx=>absurd x.2 ee) (λx=>x.1)
    refine ZX hgo (aside_setCell w (smA Y.Wg) _) (FL.setSm 1) (es:=semEvents (smA Y.Wg)) ?_ ?_ ee (.quit hq) j3 ?_ (.inl ⟨by omega,by simp[cnt]⟩)
    .intro e c;simp[semEvents]at c;rcases c with rfl|rfl|rfl|rfl
     .exact .inl aK
     .exact bk_cell _ _ aK
     .exact bk_cell _ _ aK
     exact .inr (.inl aK)
    .intro jx e c
     match jx,c with
     |0,c=>simp[semEvents]at c;subst c;exact .inl aK
     |1,_=>exact .inr Rx
     |2,_=>exact .inr Rx
     |3,c=>simp[semEvents]at c;subst c;exact .inl aK
     |jx+4,c=>simp[semEvents]at c
    intro tag' ht ak;have hnb:=ak hmw Bm;have e3:tag'=.w3:=by
     rcases ht with rfl|⟨_,rfl⟩
     .cases tag'<;>first|rfl|exact hW3.elim|grind
     simp
    subst e3;simp only[cv];exact .sema λa J=>by
     by_cases e:a=x
     .subst e;rw[upd_same]
     rw[upd_ne D _ e];grind
   obtain⟨g',w',es,hgo,⟨rfl,rfl⟩,Ng⟩:=o7 w (Go.ConcN.RW.refl w);exact idle hgo (.d4 Ng) aK
  |quit h =>
   cases m with
   |zero=>rw[h.1]at A9;cases A9
   |succ q =>
    rcases h with⟨hf,_⟩|⟨_,g',es,ZZ,o7,hq⟩
    .grind
    have OJ:∀e∈es,Bk Y.Wg e:=λe c=>bk_of_mute (ZZ e c);have hno:∀jx e,es[jx]?=O e->(aV e).touch?=af∨0<deafBehind dd (es.extract 0 jx):=λjx e c=>.inl (touch_mute (ZZ e (zO c)));exact book (o7 w) (.refl Y.Wg w) AK.wg OJ hno ee (.quit hq) aK (same _ _) (.inr ⟨aK,aK⟩)
end
end
section
open Go.Conc
open Go.ConcN (WD CTag Vc Ssum pend phi cnt WgLive PayAt Has RW DWs WSit RelBy sumTo upd upd_same upd_ne AtR0 isW3 isOpen OpenSt deafBehind_idle bk_cell okW_none Vc_upd Vc_le le_sumTo others_uncounted sumTo_upd_out bk_dis bk_en bk_rd bk_rw bk_sem allQuit_of exists_counted)
open Go.ConcR (KK WgAt stA smA rd wr mk Payload g_of_ofEvents Bk bk_of_mute ofEvent_loc_mark ofEvent_cell ofEvent_mk)
variable [Payload]
section
variable {Y:zA}{T k:au->St->Prop}{l hm':Nat->Nat}{z G:Nat->Mem}{tag:CTag}{rk:Rk}{d:Nat}{a:au}{R:Mu}{sl:Option (Nat×Nat)}{t:Trace}{D:Nat->WD}{A:Nat->Nat}{K:Nat->Rk}{st sm:Int}
omit [Payload]in
def TL.congr{B:Nat}(h:TL Y l z t j B)(e:∀y,y<j->G y=z y):TL Y l G t j B :=
 ⟨h.base,h.Qw,h.hC,h.ne,h.ZT,h.shC,h.Qx,λx H=>by rw[e x H];exact h.ms x H,h.T0,h.nr,h.seen,h.old,h.inh,h.OF,λi a hi ab l=>(h.new i a hi ab l).imp id λ⟨x,H,u,F⟩=>⟨x,H,u,by grind⟩,
  λx H=>by rw[e x H];exact h.mw x H,h.over⟩
def WS.congr{x a st d:Nat}{r:Rk}(h:WS P ty Y N val l z x a st r d g w)(e:G x=z x):WS P ty Y N val l G x a st r d g w:=by
 cases h with
 |am u F J=>exact .am u F az
 |rel u=>exact .rel u
 |tail h0 u=>exact .tail h0 u
def DV.congr{q:Nat}(h:DV P ty Y N val l z j gs w t D A K q)(e:∀y,y<j->G y=z y):DV P ty Y N val l G j gs w t D A K q :=
 ⟨h.size,h.lv,h.above,λx H=>let ⟨g,u,F⟩:=h.wk x H;⟨g,u,F.congr (e x H)⟩,h.tl.congr e,h.u6,h.xb,h.xc,h.rel,h.Db,h.HT,h.Al,h.jU,h.Hh,h.Kb,h.Wf,h.kc,λy n=>by rw[e y n];exact h.W6 y n⟩
omit [Payload]in
def Xd{s2:St}{es:Array bg}(Z:ma Y l z j s)(X:aH U s)(aa:gA s es)(st:eO U s U' s2):
  (∀e∈es,(aV e).low s2.w.heap.size)/\(∀e∈es,∀a,(aV e).touch?=O a->a.loc.isMemory=W->w9 Y (q8 l s.w.heap.size 0) a) /\
  (∀e∈es,∀a,(aV e).touch?=O a->a.kind=.plain->a.write=W->∀x,x<j->∀b o v,a.loc=.cell ⟨b,o,af⟩->z x b o≠O v) /\
  (∀e∈es,e.loc≠.mark .disable/\e.loc≠.mark .enable)/\∀e∈es,∀a,e.loc≠.mark (.release a):=by
 have key:∀e∈es,(aV e).low s2.w.heap.size/\(∀a,(aV e).touch?=O a->a.loc.isMemory=W->w9 Y (q8 l s.w.heap.size 0) a) /\
   (∀a,(aV e).touch?=O a->a.kind=.plain->a.write=W->∀x,x<j->∀b o v,a.loc=.cell ⟨b,o,af⟩->z x b o≠O v)/\(e.loc≠.mark .disable/\e.loc≠.mark .enable)/\∀a,e.loc≠.mark (.release a):=by
  intro e E;have h:=aa e E;obtain⟨loc,wr,sy⟩:=e;cases loc with
  |cell ad =>
   obtain⟨u,F,J⟩:=h;simp only at u F J;subst u;have p:ad.block<s.w.heap.size/\l ad.block=0/\ad.block≠Y.C/\ad.block≠Y.Wg/\¬Y.Sh ad.block:=by
    rcases J with J|⟨⟨L,ak,J⟩,_⟩|⟨_,v,J⟩
    .exact J.elim
    .obtain⟨k1,k2,Q,k4,k5⟩:=Z.blk _ (.inr ⟨L,ak,J⟩);grind
    obtain⟨k1,k2,Q,k4,k5⟩:=Z.M _ _ _ J;grind
   refine⟨by rw[ofEvent_cell];exact eb p.1 st.size,λb c _=>?_,λb c _ hbw x H b' o v hl S=>?_,⟨by simp,by simp⟩,by simp⟩
   .rw[ofEvent_cell]at c;simp only[MemAct.touch?,eF]at c;subst c;exact .inr ⟨ad.block,aK,by grind[gU],p.2.2.2.1,p.2.2.1,p.2.2.2.2,aK⟩
   rw[ofEvent_cell]at c;simp only[MemAct.touch?,eF]at c;subst c;simp only at hbw hl;have hM:=Z.ms x H b' o v S;grind
  |obj r =>
   obtain⟨u,F⟩:=h;simp only at u F;subst u;obtain⟨L,ak,J⟩:=F.resolve_left id;obtain⟨k1,k2,Q,k4,k5⟩:=Z.blk _ (.inr ⟨L,ak,J⟩);refine⟨?_,λb c _=>?_,λb c _ _ x _ b' o v hl=>?_,⟨by simp,by simp⟩,by simp⟩
   .simp[aV,MemAct.low,Loc.low];exact eb k5 st.size
   .simp[aV,MemAct.touch?]at c;subst c;exact .inr ⟨r,aK,by grind[gU],Q,k2,k4,aK⟩
   simp[aV,MemAct.touch?]at c;grind
  |mark m =>
   simp only[pF]at h;rcases h with rfl|⟨f,rfl⟩
   .exact⟨by simp[aV,MemAct.low],λb c=>by simp[aV,MemAct.touch?]at c,λb c=>by simp[aV,MemAct.touch?]at c,⟨by simp,by simp⟩,by simp⟩
   exact⟨by simp[aV,MemAct.low],λb c=>by simp[aV,MemAct.touch?]at c,λb c=>by simp[aV,MemAct.touch?]at c,⟨by simp,by simp⟩,by simp⟩
  |_=>exact h.elim
 grind
def yd(AK:yc P ty Y N val n T k R gs w t l z j D A K d tag rk a s st sm){a':au}{es:Array bg}{tag':CTag}{rk':Rk}{uX OI:Int}(hgo:aU P W a w=.go a' w' es)(X:∀b,b<w.heap.size->hm' b=l b)(Wb:w.heap.size<=w'.heap.size)(aix:∀y,y<j->OG Y l (z y) y w w')(aiy:∀e∈es,(aV e).low w'.heap.size)(htm:∀e∈es,∀a,(aV e).touch?=O a->a.loc.isMemory=W->w9 Y hm' a)(htw:∀e∈es,∀a,(aV e).touch?=O a->a.kind=.plain->a.write=W->∀x,x<j->∀b o v,a.loc=.cell ⟨b,o,af⟩->z x b o≠O v)(Qq:∀e∈es,∀a,e.loc≠.mark (.release a))(abJ:PayAt Y.C N w')(FL:WgAt ty Y.Wg w' uX OI)(OK:CS P ty Y N val n T k tag' j rk' (deafBehind d es) a' s')(aeP:cK s' {s' with w:=w'})(q:ma Y hm' z j s')(g:Go.ConcN.Mode j D tag' uX OI)(p:phi n (Vc j D) tag'<phi n (Vc j D) tag∨(phi n (Vc j D) tag'=phi n (Vc j D) tag/\Rk.lt rk' rk)):
  ∃m₁ ops μ',runT P (crowd gs w sl) 0=(.next m₁,ops)/\Nc (Y.base+n) μ' R/\nD P ty Y N val n T k μ' m₁ (t++ops):=by
 have c:=AK.jq.tl.base;have A9:=runT_crowd_go (P:=P) (sl:=sl) (i:=0) AK.a0 (by simpa using hgo)
 refine⟨_,_,(phi n (Vc j D) tag'+Ssum j D+sumTo j A,(K,rk')),A9,?_,_,w',sl,hm',z,j,D,A,K,deafBehind d es,tag',rk',a',s',uX,OI,Z,
  ⟨Go.ConcN.get_map_set_same _ _ _ Q4,OK,aeP,q,AK.jq.ZW X Wb aix aiy htm htw Qq abJ ⟨_,_,FL⟩,FL,g,rfl⟩⟩
 rw[AK.mu];rcases p with h|⟨u,F⟩
 .exact Prod.Lex.left _ _ aq
 rw[u];exact Prod.Lex.right _ (Prod.Lex.right _ F)
def kH(AK:yc P ty Y N val n T k R gs w t l z j D A K d tag rk a s st sm){a':au}{es:Array bg}{rk':Rk}{s1:St}(u:cK s1 {s1 with w:=w})(q:ma Y l z j s1)(hgo:aU P W a w=.go a' s'.w es)(hgu:vp {s1 with w:=w} s' es∨Es Y.Wg {s1 with w:=w} s' es)(OK:CS P ty Y N val n T k tag j rk' d a' s')(p:Rk.lt rk' rk):
  ∃m₁ ops μ',runT P (crowd gs w sl) 0=(.next m₁,ops)/\Nc (Y.base+n) μ' R/\nD P ty Y N val n T k μ' m₁ (t++ops):=by
 rcases hgu with⟨⟨U,U',X,lj,g⟩,aa⟩|⟨rfl,ad,had,hes⟩
 .have Q:ma Y l z j {s1 with w:=w}:=q.rely u.size;obtain⟨e1,e2,e3,e4,e5⟩:=Xd Q X aa g;have Bj:∀b,b<w.heap.size->(l b≠0∨b=Y.C∨b=Y.Wg)->s'.w.heap[b]?=w.heap[b]?:=λb c Hg=>g.keep b c λL ak Wr=>by obtain⟨q1,q2,q3,_⟩:=Q.blk b (.inr ⟨L,ak,Wr⟩);grind
  have SC:=AK.jq.tl.base;refine yd AK hgo (hm':=q8 l w.heap.size 0) (λb c=>gU c) g.size (λy hy=>⟨g.size,λb c hby=>Bj b c (.inl aq),λb o v S _=>lj.mem b o v (g.mem _ _ _ (q.ms y hy b o v S)),λo _ _=>mb (Bj _ AK.jq.Kb (.inr (.inl Z))) o,g.os,g.tape,g.output⟩) e1 e2 e3 e5 ?_
   (AK.wg.of_block (Bj _ AK.jq.Hh (.inr (.inr Z)))) (s':=s') (tag':=tag) (rk':=rk') (by rw[deafBehind_idle e4];exact OK) (cK.Bi lj.mem) (Q.step lj g AK.jq.Hh AK.jq.Kb AK.jq.Wf) AK.mode (.inr ⟨rfl,p⟩)
  obtain⟨cs,c1,c2⟩:=AK.jq.Al;exact⟨cs,(Bj _ AK.jq.Kb (.inr (.inl Z))).trans c1,c2⟩
 have Z0:∀e∈es,e=mk (.read ad)∨e=mk (.write ad):=az;refine yd AK hgo (hm':=l) (λb c=>rfl) (bm _) (λy hy=>.refl ..) (λe E=>?_) (λe E b c _=>?_) (λe E b c hk=>?_) (λe E=>?_) AK.jq.Al AK.wg (s':={s1 with w:=w}) (tag':=tag) (rk':=rk') ?_ (u.FK ) (q.rely u.size) AK.mode (.inr ⟨rfl,p⟩)
 .have hW:=AK.jq.Hh;rcases Z0 e E with rfl|rfl<;>(rw[ofEvent_mk];show ad.block<_;grind)
 .rcases Z0 e E with rfl|rfl<;>(rw[ofEvent_mk]at c;simp[MemAct.touch?]at c;subst c;exact .inl ⟨ad,rfl,had,by simp⟩)
 .rcases Z0 e E with rfl|rfl<;>(rw[ofEvent_mk]at c;simp[MemAct.touch?]at c;grind)
 .rcases Z0 e E with rfl|rfl<;>simp[mk]
 rw[deafBehind_idle (λe E=>by rcases Z0 e E with rfl|rfl<;>simp[mk])];exact OK
def jC(AK:yc P ty Y N val n T k R gs w t l z j D A K d tag rk a s st sm){a':au}{es:Array bg}{tag':CTag}{rk':Rk}{uX OI:Int}{s1:St}(u:cK s1 {s1 with w:=w})(Z1:ma Y l z j s1)(hgo:aU P W a w=.go a' w' es)(g:Aside Y.Wg w w')(SD:WgAt ty Y.Wg w' uX OI)(OJ:∀e∈es,Bk Y.Wg e)(OK:CS P ty Y N val n T k tag' j rk' (deafBehind d es) a' {s1 with w:=w'})(Bl:Go.ConcN.Mode j D tag' uX OI)(p:phi n (Vc j D) tag'<phi n (Vc j D) tag∨(phi n (Vc j D) tag'=phi n (Vc j D) tag/\Rk.lt rk' rk)):
  ∃m₁ ops μ',runT P (crowd gs w sl) 0=(.next m₁,ops)/\Nc (Y.base+n) μ' R/\nD P ty Y N val n T k μ' m₁ (t++ops):=by
 obtain⟨cs,hc1,hc2⟩:=AK.jq.Al;have F:cK s1 {s1 with w:=w'}:=Z1.Sw u (KP.wg g);refine yd AK hgo (hm':=l) (λb c=>rfl) (by rw[g.size];grind) (λy hy=>.wg g AK.jq.tl.Qw AK.jq.tl.base (λb o v S=>(AK.jq.tl.ms y hy b o v S).2.2.1) AK.jq.tl.ne) (SB OJ (by rw[g.size];exact AK.jq.Hh)) (λe E b c l=>?_) (λe E b c hk=>?_) (HU OJ)
  ⟨cs,(g.block _ AK.jq.tl.ne).trans hc1,hc2⟩ SD OK F.FK (Z1.rely F.size) Bl p
 .rcases OJ e E with q|q|⟨ad,wr,rfl,ab⟩
  .rw[ofEvent_loc_mark q]at c;cases c
  .rw[ofEvent_loc_mark q]at c;cases c
  rw[ofEvent_cell]at c;simp only[MemAct.touch?,eF]at c;subst c;exact .inl ⟨ad,Z,ab,by simp⟩
 rcases OJ e E with q|q|⟨ad,wr,rfl,ab⟩
 .rw[ofEvent_loc_mark q]at c;cases c
 .rw[ofEvent_loc_mark q]at c;cases c
 rw[ofEvent_cell]at c;simp only[MemAct.touch?,eF]at c;grind
end
section
variable {Y:zA}{T k:au->St->Prop}{l hm':Nat->Nat}{u f:Nat->Mem}{tag:CTag}{rk:Rk}{d:Nat}{a:au}{C:Mu}{sl:Option (Nat×Nat)}{t:Trace}{D:Nat->WD}{A:Nat->Nat}{K:Nat->Rk}{st E:Int}
def CS.SF(h:CS P ty Y N val n T k tag j rk d a s):j+pend tag<=n:=by cases h<;>simp only[pend]<;>(try simp)<;>omega
omit [Payload]in
def kI(h:mJ (Cx.ez P ty Y.Wg) (Es Y.Wg) S rk a s)(p:cK s {s with w:=w})(G:ma Y l u j s)(jU:WgLive ty Y.Wg w):
  (∃s',cK s' {s' with w:=w}/\ma Y l u j s'/\S a s')∨∃s',cK s' {s' with w:=w}/\ma Y l u j s'/\∃g' s2 es r',aU P W a w=.go g' s2.w es/\(vp {s' with w:=w} s2 es∨Es Y.Wg {s' with w:=w} s2 es)/\mJ (Cx.ez P ty Y.Wg) (Es Y.Wg) S r' g' s2/\Rk.lt r' rk:=by
 rcases h.kR (λs0=>cK s0 {s0 with w:=w}/\ma Y l u j s0) (λs0 s' B hi=>⟨hi.1.c8 B,hi.2.c8 B⟩) (λF=>False.elim F) ⟨p,G⟩with⟨s',⟨k1,c⟩,z⟩|⟨_,s',⟨k1,c⟩,z⟩
 .grind
 exact .inr ⟨s',k1,c,z _ ⟨k1,λ_=>jU⟩⟩
def WS.quits{x a st d:Nat}{r:Rk}{g:au}(h:WS P ty Y N val l u x a st r d g w)(b:st=1):∃m,QuitsD P m d g:=by
 cases h with
 |am _ _ _=>cases b
 |rel _=>cases b
 |tail _ h=>exact⟨_,h.quits b⟩
def WS.aeQ{x a st d:Nat}{r:Rk}(h:WS P ty Y N val l u x a st r d g w)(b:st=1):a=0:=by
 cases h with
 |am _ _ _=>cases b
 |rel _=>rfl
 |tail _ h=>rfl
def SG(AK:yc P ty Y N val n T k C gs w t l u j D A K d tag rk a s st E)(hn:n<2147483648)(hAn:∀g s,k g s->gd (Cx.ez P ty Y.Wg) (Es Y.Wg) (KQ P ty Y T k) g s)(A9:a.status=.running):
  ∃U ops,runT P (crowd gs w sl) 0=(.next U,ops)/\((∃hm' f,W9 P Y N val n T hm' f U (t++ops))∨∃μ',Nc (Y.base+n) μ' C/\nD P ty Y N val n T k μ' U (t++ops)):=by
 have hVj:=Vc_le j D;have SC:=AK.jq.tl.base;have jU:=AK.jq.jU;have fin:∀{X:Prop},(∃U ops μ',runT P (crowd gs w sl) 0=(.next U,ops)/\Nc (Y.base+n) μ' C/\nD P ty Y N val n T k μ' U (t++ops)) ->
   ∃U ops,runT P (crowd gs w sl) 0=(.next U,ops)/\((∃hm' f,W9 P Y N val n T hm' f U (t++ops))∨∃μ',Nc (Y.base+n) μ' C/\nD P ty Y N val n T k μ' U (t++ops)) :=
  λ{_} ⟨U,ops,μ',p,h2,h3⟩=>⟨U,ops,p,.inr ⟨μ',h2,h3⟩⟩
 have hbound:=AK.cs.SF;have cs:=AK.cs;have aa:=AK.wg;have J:=AK.mode;cases cs with
 |@skd r rk g s hr h =>
  rcases kI h AK.rely AK.ez jU with⟨s',k1,c,_,g',H,hk⟩|⟨s',k1,c,g',s2,es,r',H,R,hk,Q⟩
  .obtain⟨r2,hk⟩:=hk {s' with w:=w} (iR k1 jU);exact fin (X:=True) (jC AK k1 c (H w) (.refl Y.Wg w) aa bk_dis (.sa1 hr hk) (J.reopen an an aK ay) (.inl qI))
  exact fin (X:=True) (kH AK k1 c H R (.skd hr hk) Q)
 |@sa1 r rk g s hr h =>
  rcases kI h AK.rely AK.ez jU with⟨s',k1,c,_,ak⟩|⟨s',k1,c,g',s2,es,r',H,R,hk,Q⟩
  .obtain⟨ho,e1,e2,_⟩:=J.open_inv an;rw[e1,e2]at aa;obtain⟨a',H,r2,hk⟩:=ak {s' with w:=w} (iR k1 jU) (Vc (n-(r+1)) D) aq (by simpa[pend]using aa);refine fin (X:=True) (jC AK k1 c H (aside_setCell w (stA Y.Wg) _) (aa.setSt _) bk_rw (.ske hr hk) ?_ (.inl qI));have e:(((Vc (n-(r+1)) D:Nat):Int)+1)*KK=((Vc (n-(r+1)) D+pend (.sp r 3):Nat):Int)*KK:=by simp[pend]
   rw[e];exact .opn an ho ay
  exact fin (X:=True) (kH AK k1 c H R (.sa1 hr hk) Q)
 |@ske r rk g s hr h =>
  rcases kI h AK.rely AK.ez jU with⟨s',k1,c,_,g',H,hk⟩|⟨s',k1,c,g',s2,es,r',H,R,hk,Q⟩
  .obtain⟨r2,hk⟩:=hk {s' with w:=w} (iR k1 jU);exact fin (X:=True) (jC AK k1 c (H w) (.refl Y.Wg w) aa bk_en (.sgo hr hk) (J.reopen an an aK ay) (.inl qI))
  exact fin (X:=True) (kH AK k1 c H R (.ske hr hk) Q)
 |@sgo r rk g s hr h =>
  rcases kI h AK.rely AK.ez jU with⟨s',k1,c,_,ak⟩|⟨s',k1,c,g',s2,es,r',H,R,hk,Q⟩
  .obtain⟨a',ly,hsp,_,⟨rc,hwk⟩,Z2⟩:=ak {s' with w:=w} (iR k1 jU);obtain⟨ho,e1,e2,_⟩:=J.open_inv an;rw[e1,e2]at aa;have Bm:=runT_crowd_spawn (P:=P) (sl:=sl) (i:=0) AK.a0 (by simpa using hsp);rw[AK.jq.size]at Bm;have z:ma Y l u (n-(r+1)) {s' with w:=w}:=c.rely k1.size;let f:=upd u (n-(r+1)) s'.M;have hMe:∀y,y<n-(r+1)->f y=u y:=λy hy=>upd_ne u _ aq;have hMn:f (n-(r+1))=s'.M:=upd_same u _ _;have abK:cK (St.ly {s' with w:=w}) {St.ly {s' with w:=w}with w:=w}:=cK.Bi k1.mem;have aeR:o5 l (f (n-(r+1))) (Y.base+(n-(r+1))) (St.ly {s' with w:=w}):=by
    refine⟨λb hb=>?_,λb o v hv=>⟨.inr (by rw[hMn];exact hv),(z.M b o v hv).2.2.2.2⟩⟩;rcases hb with hb|⟨L,hL,_⟩
    .exact hb.elim
    simp[St.ly]at hL
   have Nh:=(AK.jq.congr hMe).spawn (a':=a') (x:={g:=0,fn:=a.frame.fn,pos:=a.frame.place,act:=.go (Y.base+(n-(r+1)))}) (y:={g:=Y.base+(n-(r+1)),fn:=ly.frame.fn,pos:=a.frame.place,act:=.start}) ⟨rfl,rfl⟩ ⟨rfl,rfl⟩
    (λb o v hv=>by rw[hMn]at hv;exact z.M b o v hv) hwk abK aeR
   have eV:Vc (n-(r+1)+1) (upd D (n-(r+1)) ⟨7,0,0⟩)=Vc (n-(r+1)) D+1:=by simp only[Vc,sumTo,upd_same];rw[sumTo_upd_out D _ cnt (bm _)];rfl
   have eS:Ssum (n-(r+1)+1) (upd D (n-(r+1)) ⟨7,0,0⟩)=Ssum (n-(r+1)) D+7:=by simp only[Ssum,sumTo,upd_same];rw[sumTo_upd_out D _ WD.stage (bm _)]
   have eA:sumTo (n-(r+1)+1) (upd A (n-(r+1)) 1)=sumTo (n-(r+1)) A+1:=by have:sumTo (n-(r+1)) (upd A (n-(r+1)) 1)=sumTo (n-(r+1)) A:=sumTo_upd_out A 1 id (i:=n-(r+1)) (j:=n-(r+1)) (bm _);show sumTo (n-(r+1)) (upd A (n-(r+1)) 1)+upd A (n-(r+1)) 1 (n-(r+1))=_;rw[upd_same];grind
   have ho':OpenSt (n-(r+1)+1) (upd D (n-(r+1)) ⟨7,0,0⟩):=λi hi=>by
    by_cases e:i=n-(r+1)
    .subst e;rw[upd_same];simp
    rw[upd_ne D _ e];exact ho i aq
   have ha':((gs.setIfInBounds 0 a').push ly)[0]?=O a':=by have h0:0<gs.size:=Q4;grind
   have Z:ma Y l f (n-(r+1)+1) {s' with w:=w}:=⟨z.blk,z.M,λy hy b o v hv=>by
    rcases dy y (n-(r+1))with p|p
    .rw[hMe y p]at hv;exact z.ms y p b o v hv
    .obtain rfl:y=n-(r+1):=aq
     rw[hMn]at hv;exact hv⟩
   have ej:n-(r+1)+1=n-r:=aq;rw[ej]at Nh eV eS eA ho' Z;have est:∀tag',pend tag'=0->((Vc (n-(r+1)) D+pend (.sp r 2):Nat):Int)*KK=((Vc (n-r) (upd D (n-(r+1)) ⟨7,0,0⟩)+pend tag':Nat):Int)*KK:=λtag' hp=>by exact wj
   cases r with
   |zero =>
    obtain⟨r3,hk⟩:=Z2;simp only[pQ]at Nh eV eS eA ho' est Z;refine⟨_,_,Bm,.inr ⟨(phi n (Vc n (upd D (n-(0+1)) ⟨7,0,0⟩)) .kd+Ssum n (upd D (n-(0+1)) ⟨7,0,0⟩)+sumTo n (upd A (n-(0+1)) 1),(upd K (Y.base+(n-(0+1))) rc,r3)),by rw[AK.mu];exact Prod.Lex.left _ _ qI,
     _,w,sl,l,f,n,_,_,_,0,.kd,r3,a',{s' with w:=w},_,_,rfl,⟨ha',.kd hk,k1.FK,Z,Nh,aa,?_,rfl⟩⟩⟩
    rw[est .kd aK];exact .opn an ho' ay
   |succ r' =>
    obtain⟨r3,hk⟩:=Z2;refine⟨_,_,Bm,.inr ⟨(phi n (Vc (n-(r'+1)) (upd D (n-(r'+1+1)) ⟨7,0,0⟩)) (.sp r' 5)+Ssum (n-(r'+1)) (upd D (n-(r'+1+1)) ⟨7,0,0⟩)+sumTo (n-(r'+1)) (upd A (n-(r'+1+1)) 1),(upd K (Y.base+(n-(r'+1+1))) rc,r3)),by rw[AK.mu];exact Prod.Lex.left _ _ qI,
     _,w,sl,l,f,n-(r'+1),_,_,_,0,.sp r' 5,r3,a',{s' with w:=w},_,_,rfl,⟨ha',.skd aq hk,k1.FK,Z,Nh,aa,?_,rfl⟩⟩⟩
    rw[est (.sp r' 5) aK];exact .opn an ho' ay
  exact fin (X:=True) (kH AK k1 c H R (.sgo hr hk) Q)
 |kd h =>
  rcases kI h AK.rely AK.ez jU with⟨s',k1,c,_,g',H,hk⟩|⟨s',k1,c,g',s2,es,r',H,R,hk,Q⟩
  .obtain⟨r2,hk⟩:=hAn _ _ (hk {s' with w:=w} (iR k1 jU));exact fin (X:=True) (jC AK k1 c (H w) (.refl Y.Wg w) aa bk_dis (.w1 hk) (J.reopen an an aK ay) (.inl qI))
  exact fin (X:=True) (kH AK k1 c H R (.kd hk) Q)
 |w1 h =>
  rcases kI h AK.rely AK.ez jU with⟨s',k1,c,_,ak⟩|⟨s',k1,c,g',s2,es,r',H,R,hk,Q⟩
  .obtain⟨ho,e1,e2,_⟩:=J.open_inv an;rw[e1,e2]at aa;have hV:=Vc_le n D;obtain⟨a',H,h0,Hg⟩:=ak {s' with w:=w} (iR k1 jU) (Vc n D) aq az;by_cases hv:Vc n D=0
   .obtain⟨r2,hk⟩:=h0 hv;refine fin (X:=True) (jC AK k1 c H (.refl Y.Wg w) aa bk_rd (.ke hk) ?_ (.inl qI));have e:((Vc n D+pend .w1:Nat):Int)*KK=0:=az;rw[e];exact .fin an (allQuit_of ho hv)
   obtain⟨r2,hk⟩:=Hg hv;refine fin (X:=True) (jC AK k1 c H (.refl Y.Wg w) aa bk_rd (.w2 hk) ?_ (.inl qI));have:=J.reopen (tag':=.w2 (Vc n D)) an an aK (λvs e=>by grind);grind
  exact fin (X:=True) (kH AK k1 c H R (.w1 hk) Q)
 |@w2 vs rk g s h =>
  rcases kI h AK.rely AK.ez jU with⟨s',k1,c,_,ak⟩|⟨s',k1,c,g',s2,es,r',H,R,hk,Q⟩
  .obtain⟨ho,e1,e2,hw2⟩:=J.open_inv an;rw[e1,e2]at aa;obtain⟨hle,p⟩:=hw2 vs rfl;obtain⟨aiE,aeS⟩:=ak {s' with w:=w} (iR k1 jU) (Vc n D) aq az;by_cases e:Vc n D=vs
   .obtain⟨a',H,r2,hk⟩:=aiE e;exact fin (X:=True) (jC AK k1 c H (aside_setCell w (stA Y.Wg) _) (aa.setSt _) bk_rw (.w3 hk) (.reg an ho aq) (.inl qI))
   obtain⟨a',H,hk⟩:=aeS e;obtain⟨r2,hk⟩:=hAn _ _ hk;refine fin (X:=True) (jC AK k1 c H (.refl Y.Wg w) aa bk_rd (.w1 hk) ?_ (.inl qI));have:=J.reopen (tag':=.w1) an an aK ay;grind
  exact fin (X:=True) (kH AK k1 c H R (.w2 hk) Q)
 |@w3 rk g s h =>
  rcases kI h AK.rely AK.ez jU with⟨s',k1,c,mc⟩|⟨s',k1,c,g',s2,es,r',H,R,hk,Q⟩
  .obtain⟨_,aeq,ak⟩:=mc;obtain⟨Xe,aeT⟩:=ak {s' with w:=w} (iR k1 jU);obtain⟨x,hx⟩:=Rk.SA s rk;have aeU:Dd P ty Y T a {s' with w:=w}:=Dd.rely ⟨A9,aeq,ak⟩ (iR k1 jU);generalize st=st0 at J aa;generalize E=sm0 at J aa;cases J with
   |opn p _ _=>exact p.elim
   |reg p h2 h3=>exact fin (X:=True) (jC AK k1 c (Xe ⟨_,aa⟩) (.refl Y.Wg w) aa ay (.blk (rk:=x) aeU) (.reg an h2 h3) (.inr ⟨rfl,hx⟩))
   |last L p h2 h3 h4=>exact fin (X:=True) (jC AK k1 c (Xe ⟨_,aa⟩) (.refl Y.Wg w) aa ay (.blk (rk:=x) aeU) (.last L an h2 h3 h4) (.inr ⟨rfl,hx⟩))
   |sema h2 =>
    obtain⟨a',H,r2,hk⟩:=aeT aa;exact fin (X:=True) (jC AK k1 c H (aside_setCell w (smA Y.Wg) _) (aa.setSm 0) bk_sem (.w4 hk) (.fin an h2) (.inl qI))
   |fin p _=>exact p.elim
  exact fin (X:=True) (kH AK k1 c H R (.w3 hk) (Rk.Nb Q))
 |blk h=>grind
 |w4 h =>
  rcases kI h AK.rely AK.ez jU with⟨s',k1,c,_,ak⟩|⟨s',k1,c,g',s2,es,r',H,R,hk,Q⟩
  .obtain⟨hq,e1,e2⟩:=J.fin_inv an;rw[e1,e2]at aa;obtain⟨a',H,r2,hk⟩:=ak {s' with w:=w} (iR k1 jU) aa;exact fin (X:=True) (jC AK k1 c H (.refl Y.Wg w) aa bk_rd (.ke hk) (.fin an hq) (.inl qI))
  exact fin (X:=True) (kH AK k1 c H R (.w4 hk) Q)
 |ke h =>
  rcases kI h AK.rely AK.ez jU with⟨s',k1,c,_,g',H,hk⟩|⟨s',k1,c,g',s2,es,r',H,R,hk,Q⟩
  .obtain⟨r2,hk⟩:=hk {s' with w:=w} (iR k1 jU);obtain⟨hq,e1,e2⟩:=J.fin_inv an;rw[e1,e2]at aa;exact fin (X:=True) (jC AK k1 c (H w) (.refl Y.Wg w) aa bk_en (.acq hk) (.fin an hq) (.inl qI))
  exact fin (X:=True) (kH AK k1 c H R (.ke hk) Q)
 |acq h =>
  rcases kI h AK.rely AK.ez jU with⟨s',k1,c,_,a',H,hk⟩|⟨s',k1,c,g',s2,es,r',H,R,hk,Q⟩
  .obtain⟨hq,e1,e2⟩:=J.fin_inv an;have Bm:=runT_crowd_go (P:=P) (sl:=sl) (i:=0) AK.a0 (by simpa using H w);have ev:MemOp.ofEvents 0 a.frame.fn a.frame.place #[mk (.acquire (stA Y.Wg))]=#[{g:=0,fn:=a.frame.fn,pos:=a.frame.place,act:=.mark (.acquire (stA Y.Wg))}]:=by rw[ofEvents_eq];simp[ofEvent_mk]
   have ab:=AK.jq.ZW (g:=a) (g':=a') (fn:=a.frame.fn) (pos:=a.frame.place) (es:=#[mk (.acquire (stA Y.Wg))]) (hm':=l) (w':=w) (λ_ _=>rfl) (bm _) (λy _=>.refl ..) (by simp;exact AK.jq.Hh) (by intro e he b hb;simp at he;subst he;exact j3) (by intro e he b hb;simp at he;subst he;simp[mk,aV,MemAct.touch?]at hb) (by intro e he;simp at he;subst he;simp[mk]) AK.jq.Al jU;have hd0:deafBehind 0 #[mk (.acquire (stA Y.Wg))]=0:=rfl;have hy:(t++#[({g:=0,fn:=a.frame.fn,pos:=a.frame.place,act:=.mark (.acquire (stA Y.Wg))}:MemOp)])[t.size]?=O {g:=0,fn:=a.frame.fn,pos:=a.frame.place,act:=.mark (.acquire (stA Y.Wg))}:=ay
   have aeV:=ab.tl.aba (by rw[ab.xb];rfl) (ab.u6 _) (q:=t.size) (by rw[ev,act?_of hy]) (by rw[ev];simp[Trace.g?]) (by rw[ev];exact⟨0,by simp[Trace.g?],by rw[deaf_old (bm _)];exact AK.jq.xb⟩) (λx hx=>by
    obtain⟨r,hr⟩:=AK.jq.rel x hx (by rw[hq x hx];omega)
    exact⟨r,hr.appOther g_of_ofEvents aq,lt_of_act? hr.act⟩)
   have Om:∃q,Leavers P (t++MemOp.ofEvents 0 a.frame.fn a.frame.place #[mk (.acquire (stA Y.Wg))]) ((gs.map (woken P a a' w)).setIfInBounds 0 a') q:=by
    have each:∀i,∃m,∀g,0<i->((gs.map (woken P a a' w)).setIfInBounds 0 a')[i]?=O g->QuitsD P m (Deaf (t++MemOp.ofEvents 0 a.frame.fn a.frame.place #[mk (.acquire (stA Y.Wg))]) i) g:=by
     intro i;cases hgi:((gs.map (woken P a a' w)).setIfInBounds 0 a')[i]? with
     |none=>simp
     |some g =>
      rcases oN i with e|abL
      .exact⟨0,λg' h=>by omega⟩
      rcases dy i Y.base with Q|hge
      .obtain⟨m,_,hm2⟩:=ab.lv i g abL Q hgi;exact⟨m,λg' _ Ng=>by grind⟩
      obtain⟨x,rfl⟩:∃x,i=Y.base+x:=⟨i-Y.base,by omega⟩
      have hx:x<n:=by have:=(gN.1 hgi).1;rw[ab.size]at this;omega
      obtain⟨g0,Dc,hs0⟩:=ab.wk x hx;rw[hgi]at Dc;cases Dc;obtain⟨m,hm2⟩:=hs0.quits (hq x hx);refine⟨m,λg' _ Ng=>?_⟩;cases Ng;rw[ab.xc x hx];omega
    exact⟨λi=>Classical.choose (each i),λi g hi B=>Classical.choose_spec (each i) g hi B,λi hi=>ab.above i (by rw[ab.size]at hi;exact hi)⟩
   obtain⟨q,Om⟩:=Om;refine⟨_,_,Bm,.inl ⟨l,u,⟨_,w,sl,a',s',q,rfl,Go.ConcN.get_map_set_same _ _ _ Q4,ab.size,hk {s' with w:=w} (iR k1 jU),k1,c,Om,aeV,ab.u6,AK.jq.Al,λx hx i hi=>?_,AK.jq.Kb,AK.jq.Hh,AK.jq.Wf⟩⟩⟩;obtain⟨g0,_,hs0⟩:=AK.jq.wk x hx;rcases oN i with e|abL
   .subst e;exact AK.jq.HT x hx (by rw[hq x hx];omega)
   exact AK.jq.Db x hx (hs0.aeQ (hq x hx)) i abL hi
  exact fin (X:=True) (kH AK k1 c H R (.acq hk) Q)
end
end
section
open Go.Conc
open Go.ConcN (WD CTag Vc Ssum pend phi cnt WgLive PayAt Has WSit RelBy sumTo upd upd_same upd_ne exists_counted)
open Go.ConcR (KK WgAt stA smA Payload)
variable [Payload]
section
variable {Y:zA}{T c:au->St->Prop}{l:Nat->Nat}{p:Nat->Mem}{tag:CTag}{rk:Rk}{d:Nat}{a:au}{f:Mu}{sl:Option (Nat×Nat)}{t:Trace}{D:Nat->WD}{A:Nat->Nat}{K:Nat->Rk}{st u:Int}
def WS.running_of{x a st d:Nat}{r:Rk}{g:au}(h:WS P ty Y N val l p x a st r d g w)(b:st≠1):g.status=.running:=by
 cases h with
 |am h1 _ _=>exact h1.run λ_ _ x=>x.1
 |rel h1=>exact Goes.running (λ_ _ x=>x.1) w (Go.ConcN.RW.refl w) h1
 |tail _ h1=>exact h1.running_of b
def FM(AK:yc P ty Y N val n T c f gs w t l p j D A K d tag rk a s st u):∃(i:Nat)(g:au),gs[i]?=O g/\g.status=.running:=by
 rcases AK.cs.status with⟨e,_⟩|⟨_,rfl⟩
 .exact⟨0,a,AK.a0,e⟩
 have b:=AK.mode;cases b with
 |opn h1 _ _=>exact h1.elim
 |reg _ _ k =>
  obtain⟨i,hi,o⟩:=exists_counted k;obtain⟨g,h,e⟩:=AK.jq.wk i hi;exact⟨_,g,h,e.running_of aq⟩
 |last L _ m k _ =>
  obtain⟨g,h,e⟩:=AK.jq.wk L m;exact⟨_,g,h,e.running_of aq⟩
 |fin h1 _=>exact h1.elim
def OL(AK:yc P ty Y N val n T c f gs w t l p j D A K d tag rk a s st u):∀g∈gs,awake g:=by
 intro g v z;obtain⟨i,hi⟩:=Array.mem_iff_getElem?.1 v;rcases oN i with rfl|b
 .rw[AK.a0]at hi;cases hi;rcases AK.cs.status with⟨k,_⟩|⟨k,_⟩<;>rw[k]<;>simp
 rcases dy i Y.base with o|y
 .obtain⟨m,_,q⟩:=AK.jq.lv i g b o hi;rcases q.status with h|h<;>rw[h]<;>simp
 obtain⟨x,rfl⟩:∃x,i=Y.base+x:=⟨i-Y.base,by omega⟩
 have r:x<j:=by have:=(gN.1 hi).1;rw[AK.jq.size]at this;omega
 obtain⟨g',e,k⟩:=AK.jq.wk x r;rw[hi]at e;cases e;rcases k.status with h|h<;>rw[h]<;>simp
def yc.at(AK:yc P ty Y N val n T c f gs w t l p j D A K d tag rk a s st u)(dr:Nat):yc P ty Y N val n T c f gs (w.at dr) t l p j D A K d tag rk a s st u :=
 ⟨AK.a0,AK.cs,AK.rely.OH (bm _) (λ_ _=>rfl) (λ_ _ _ _ h=>h) Z Z Z,AK.ez,AK.jq.at dr,AK.wg,AK.mode,AK.mu⟩
def KT(AK:yc P ty Y N val n T c f gs w t l p j D A K d tag rk a s st u)(hi:0<i)(x:i<Y.base)(E:gs[i]?=O g)(h:g.status=.running):
  ∃e ops μ',runT P (crowd gs w sl) i=(.next e,ops)/\Nc (Y.base+n) μ' f/\nD P ty Y N val n T c μ' e (t++ops):=by
 obtain⟨m,G,C⟩:=AK.jq.lv i g hi x E;cases m with
 |zero=>rw[C.1]at h;cases h
 |succ m =>
  rcases C with⟨H,_⟩|⟨_,g',es,B,r,y⟩
  .grind
  .have z:(i==0)=ae:=az;have q:=runT_crowd_go (P:=P) (sl:=sl) (i:=i) E (by rw[z];exact r w)
   obtain⟨tag',rk',v,o,F⟩:=AK.cs.Nd g g' w;have b:Go.ConcN.Mode j D tag' st u:=AK.mode.retag o;refine⟨_,_,(phi n (Vc j D) tag'+Ssum j D+sumTo j A,(upd K i (Rk.W4 m),rk')),q,?_,_,w,sl,l,p,j,D,A,_,d,tag',rk',woken P g g' w a,s,st,u,Z,
    ⟨by rw[Go.ConcN.get_map_set _ _ _ _ aq,AK.a0];rfl,v,AK.rely,AK.ez,AK.jq.gE hi x B y,AK.wg,b,rfl⟩⟩
   rw[AK.mu,Go.ConcN.phi_retag n _ o];exact Prod.Lex.right _ (Prod.Lex.left _ _ ⟨i,by omega,by rw[upd_same,G];exact Rk.KO _ s,λk hk=>upd_ne K _ hk⟩)
def SH(C:n<2147483648)(y:∀g s,c g s->gd (Cx.ez P ty Y.Wg) (Es Y.Wg) (KQ P ty Y T c) g s){m:Machine}(h:nD P ty Y N val n T c f m t):
  ∃b ops,stepT P m=(.next b,ops)/\((∃hm' Xf,W9 P Y N val n T hm' Xf b (t++ops))∨∃k,Nc (Y.base+n) k f/\nD P ty Y N val n T c k b (t++ops)):=by
 obtain⟨gs,w,sl,l,p,j,D,A,K,M,tag,rk,a,s,st,u,rfl,AK⟩:=h;obtain⟨i,g,dr,o,r,e,q⟩:=crowd_pick (P:=P) (w:=w) (sl:=sl) (OL AK) (FM AK);rw[q];have z:=AK.at dr;have G:j<=n:=by have:=AK.cs.SF;omega
 rcases oN i with rfl|v
 .rw[AK.a0]at r;cases r;exact SG (sl:=o) z C y e
 rcases dy i Y.base with B|L
 .obtain⟨b,ops,k,J,F,E⟩:=KT (sl:=o) z v B r e;grind
 obtain⟨x,rfl⟩:∃x,i=Y.base+x:=⟨i-Y.base,by omega⟩
 have H:x<j:=by have:=(gN.1 r).1;rw[AK.jq.size]at this;omega
 obtain⟨b,ops,k,J,F,E⟩:=KS (sl:=o) z C G AK.cs.SF H r e;grind
def OM(w:n<2147483648)(k:∀g s,c g s->gd (Cx.ez P ty Y.Wg) (Es Y.Wg) (KQ P ty Y T c) g s):∀(f:Mu)(m:Machine)(t:Trace),nD P ty Y N val n T c f m t ->
  ∃M i j hm' Xf,runNT P M m t=(.next i,j)/\W9 P Y N val n T hm' Xf i j:=by
 intro f;induction(abI (Y.base+n)).apply f with
 |intro f _ x =>
  intro m t h;obtain⟨b,ops,q,e⟩:=SH w k h;rcases e with⟨hm',Xf,e⟩|⟨o,e,r⟩
  .exact⟨1,b,t++ops,hm',Xf,by simp[runNT,q],e⟩
  obtain⟨M,i,j,hm',Xf,k1,v⟩:=x o e b (t++ops) r;exact⟨M+1,i,j,hm',Xf,by simp only[runNT,q];exact k1,v⟩
def Hf.abD{s0:St}{T':au->St->Prop}(kc:Nat)(hkc:0<kc)(Wg C:Nat)(hn:n<2147483648)(Hg:C≠Wg)(hg:gn s s0)(A9:g.status=.running)(hC:∃L∈s.β,C∈L.bs)(hW:∃L∈s.β,Wg∈L.bs)(z:∀b,(s.own b∨∃L∈s.β,b∈L.bs)->b<s.w.heap.size)(h0:∀b,(b=C∨b=Wg)->¬s0.own b/\(∀L∈s0.β,b∉L.bs)/\∀o,s0.M b o=af)(R:WgAt ty Wg s.w 0 0)(ak:PayAt C N s.w)(h:∀Y:zA,Y.Wg=Wg->Y.C=C->Y.kc=kc->∃T c,(∀g s,c g s->gd (Cx.ez P ty Y.Wg) (Es Y.Wg) (KQ P ty Y T c) g s)/\r6 P ty Y N val n c n g s0 /\
   ∀g' s',T g' s'->jk s'->PayAt C N s'.w->(∀x,x<n->∀i,i<kc->s'.w.cell? ⟨C,kc*x+i,af⟩=O (val x i))->C<s'.w.heap.size->(∀b,(b=C∨b=Wg)->¬s'.own b/\(∀L∈s'.β,b∉L.bs)/\∀o,s'.M b o=af) ->
    ∃s2,T' g' s2/\s2.w=s'.w/\jk s2/\∀Sh:Nat->Prop,jI Sh s'->¬Sh C->jI Sh s2):Hf P g s T':=by
 intro Sh gs sl t q l ha H hP hc Qq;have Z:¬Sh C:=λhs=>let ⟨L,H,hb⟩:=hC;hc.β C hs L H hb
 have aiG:¬Sh Wg:=λhs=>let ⟨L,H,hb⟩:=hW;hc.β Wg hs L H hb
 have aeW:=z C (.inr hC);have aiH:=z Wg (.inr hW);have X:1<=gs.size:=(gN.1 ha).1;let Y:zA:={Sh:=Sh,T0:=t.size,Wg:=Wg,C:=C,base:=gs.size,kc:=kc}
 obtain⟨T,c,hAn,y,U⟩:=h Y rfl rfl rfl;have Q:=hc.c8 hg;have Z0:jk s0:=.c8 hg;have F:ma Y (λ_=>0) (λ_ _ _=>af) 0 s0:=by
  refine⟨λb hb=>⟨aK,λe=>az,λe=>az,λe=>?_,by rw[hg.w];exact z b (hg.blk b hb)⟩,λb o v ab=>⟨aK,λe=>?_,λe=>?_,λe=>?_,jk.lt Z0 ab⟩,λx m=>absurd m (jO x)⟩
  .rcases hb with hb|⟨L,H,hb⟩
   .exact Q.own b e hb
   exact Q.β b e L H hb
  .grind
  .grind
  rw[Q.M b e o]at ab;cases ab
 have aa:DV P ty Y N val (λ_=>0) (λ_ _ _=>af) 0 gs s.w t (λ_=>⟨0,0,0⟩) (λ_=>0) (λi=>Rk.W4 (q i)) 0 :=
  ⟨rfl,λi g hi _ hgi=>⟨q i,rfl,H.old i g hi hgi⟩,H.above,λx m=>absurd m (jO x),TL.start hP aK X Hg aiG Z,Qq,hP.hears,λx m=>absurd m (jO x),λx m=>absurd m (jO x),λx m=>absurd m (jO x),λx m=>absurd m (jO x),
   ak,⟨_,_,R⟩,aiH,aeW,hc.lt,hkc,λx m=>absurd m (jO x)⟩
 have J:cK s0 {s0 with w:=s.w}:=by have:=cK.Bi Z0;rw[<-hg.w];exact this
 have E:∃f,nD P ty Y N val n T c f (crowd gs s.w sl) t:=by
  cases n with
  |zero =>
   obtain⟨r,y⟩:=y;exact⟨_,gs,s.w,sl,_,_,0,_,_,_,0,.kd,r,g,s0,_,_,aK,⟨ha,.kd y,J,F,aa,R,by have:=Go.ConcN.Mode.opn (j:=0) (D:=λ_=>(⟨0,0,0⟩:WD)) (tag:=.kd) an (λi hi=>absurd hi (jO i)) ay;simpa[Vc,sumTo,pend]using this,aK⟩⟩
  |succ n =>
   obtain⟨r,y⟩:=y;have hcs:CS P ty Y N val (n+1) T c (.sp n 5) (n+1-(n+1)) r 0 g s0:=.skd (Nat.lt_succ_self n) y;rw[Nat.sub_self]at hcs;exact⟨_,gs,s.w,sl,_,_,0,_,_,_,0,.sp n 5,r,g,s0,_,_,aK,⟨ha,hcs,J,F,aa,R,by have:=Go.ConcN.Mode.opn (j:=0) (D:=λ_=>(⟨0,0,0⟩:WD)) (tag:=.sp n 5) an (λi hi=>absurd hi (jO i)) ay;simpa[Vc,sumTo,pend]using this,aK⟩⟩
 obtain⟨f,E⟩:=E;obtain⟨M,m',t',hm',Xf,alS,⟨gs',w',sl',a',G,q',rfl,ha',_,hT,Z3,hl1,im,hP',an5,hp',AK,hlC,hlW,hlS⟩⟩:=OM hn hAn f _ _ E;have S:ma Y hm' Xf n {G with w:=w'}:=hl1.rely Z3.size;have B:∀b,(b=C∨b=Wg∨Sh b)->¬G.own b/\(∀L∈G.β,b∉L.bs)/\∀o,G.M b o=af:=by
  intro b hb;have key:∀x,(hm' x=0/\x≠Y.C/\x≠Y.Wg/\¬Y.Sh x/\x<w'.heap.size)->x≠b:=az;refine⟨λho=>key b (S.blk b (.inl ho)) aK,λL H Wr=>key b (S.blk b (.inr ⟨L,H,Wr⟩)) aK,λo=>?_⟩;cases hM:G.M b o with
  |none=>rfl
  |some v=>exact absurd rfl (key b (S.M b o v hM))
 obtain⟨s2,hT2,hw2,hm2,hc2⟩:=U a' {G with w:=w'} hT (λb o v ab=>Z3.mem b o v ab) hp' AK hlC (λb hb=>B b (hb.elim .inl λe=>.inr (.inl e)));have Kt:jI (λb=>Sh b∨b=Wg) {G with w:=w'}:=by have k:∀b,(Sh b∨b=Wg)->¬G.own b/\(∀L∈G.β,b∉L.bs)/\∀o,G.M b o=af:=λb hb=>B b (hb.elim (λe=>.inr (.inr e)) λe=>.inr (.inl e));exact⟨λb hb=>(k b hb).1,λb hb=>(k b hb).2.1,λb hb=>(k b hb).2.2,λb hb=>hb.elim (hlS b) λe=>by grind⟩
 grind
end
end
section
open Go.Conc Go.RowKit Go.Conc.Lib Go.ConcR.Gen
open Go.ConcN (WgLive)
open Go.ConcR (KK WgAt stA smA rd wr mk DC0)
variable {L:WgLink}
section
variable (P:aR)(R:aB->aB->Prop)(L:WgLink)(Wg:Nat)(a:au)
def GKe(g:au)(_:aB):Prop:=g.status=.running/\∃g',(∀w,aU P W g w=.go g' w #[mk .enable])/\∀w1,WgLive L.tWg Wg w1->∃m,Goes P W R DC0 (λg _=>g=a) m g' w1
def GRd(g:au)(_:aB):Prop:=g.status=.running/\∃g' ad,ad.block=Wg/\(∀w,aU P W g w=.go g' w #[mk (.read ad)])/\∀w1,WgLive L.tWg Wg w1->∃m,Goes P W R DC0 (GKe P R L Wg a) m g' w1
def GA1(g:au)(w:aB):Prop:=g.status=.running/\∀v:Nat,v<2147483647->WgAt L.tWg Wg w (v*KK) 0 ->
 ∃g',aU P W g w=.go g' (w.setCell (stA Wg) (.int .u64 ((v+1)*KK))) #[rd (stA Wg),wr (stA Wg)]/\∃m,Goes P W R DC0 (λg w=>GRd P R L Wg a g w∨GKe P R L Wg a g w) m g' (w.setCell (stA Wg) (.int .u64 ((v+1)*KK)))
def GKd(g:au)(_:aB):Prop:=g.status=.running/\∃g',(∀w,aU P W g w=.go g' w #[mk .disable])/\∀w1,WgLive L.tWg Wg w1->∃m,Goes P W R DC0 (GA1 P R L Wg a) m g' w1
end
set_option maxRecDepth 100000 in
def Xy{P:aR}(H:WgLib P L){R:aB->aB->Prop}{Wg:Nat}(c:∀{w w1},WgLive L.tWg Wg w->R w w1->WgLive L.tWg Wg w1){b₀:bd}{a₀:Act}{ops₀:Array aJ}{i₀:Nat}{rest₀:List Nat}{k₀:List Item}(w:aB)(b:WgLive L.tWg Wg w):
  Goes P W R DC0 (GKd P R L Wg (G (b₀.at (a₀.put ((ops₀[i₀]?).bind (·.dst)) (.tuple #[])) (.inRegion ops₀ rest₀::k₀)) cs)) 12
   (G ((base L.add).at ⟨#[.pointer (O ⟨Wg,0,af⟩),.int .i64 1,ai,ai,ai,ai,ai,ai,ai,ai,ai,ai,ai,ai,ai,ai,ai,ai,ai,ai,ai,ai,ai,ai,ai,ai,ai,ai,ai,ai,ai,ai,ai,ai,ai,ai,ai,ai,ai,ai,ai,ai,ai,ai,ai,ai,ai,ai,ai,ai,ai,ai,ai,ai,ai,ai,ai,ai,ai,ai,ai,ai,ai,ai,ai,ai,ai,ai,ai,ai,ai,ai,ai,ai,ai,ai,ai,ai,ai,ai,ai,ai,ai,ai,ai,ai,ai,ai,ai,ai,ai,ai,ai,ai,ai,ai,ai,ai,ai,ai,ai,ai,ai,ai,ai,ai,ai,ai,ai,ai,ai,ai,ai,ai,ai,ai,ai],[]⟩ [.code (body_add L)]) (b₀.at a₀ (.inRegion ops₀ (i₀::rest₀)::k₀)::cs)) w:=by
 lib_facts
 simp only[body_add,addFn,iY]
 repeat (u_c aF c b)
 u_cond W c b
 repeat (u_c aF c b)
 u_reg c b
 u_op c b
 u_op c b
 u_c aD c b
 repeat (u_c aF c b)
 u_cond ae c b
 u_c stepG_skip c b
 repeat (u_c aF c b)
 u_reg c b
 refine Goes.stop (λl f=>?_);refine⟨Z,_,λw=>stepG_mark0 .disable ay Z Z (by k_ne) Z H.f_disable (x_disable_n L) (x_disable_b L) (x_disable_x L) (x_disable_f L),λw b=>?_⟩;clear f;refine⟨40,?_⟩
 walk_nrm
 u_c aD c b
 repeat (u_c aF c b)
 u_reg c b
 u_defer c b
 u_c aD c b
 repeat (u_c aF c b)
 u_reg c b
 u_op c b
 u_c aD c b
 repeat (u_c aF c b)
 u_reg c b
 u_bub c b
 u_c aD c b
 repeat (u_c aF c b)
 u_cond ae c b
 u_c stepG_skip c b
 repeat (u_c aF c b)
 u_reg c b
 u_op c b
 u_op c b
 u_op c b
 u_op c b
 u_op c b
 u_op c b
 u_call H.f_uAdd (nm_uAdd L) uAddFn c b
 repeat (u_c aF c b)
 u_reg c b
 u_op c b
 u_c aD c b
 repeat (u_c aF c b)
 u_reg c b
 u_op c b
 u_op c b
 u_op c b
 u_op c b
 refine Goes.stop (λh e=>?_);replace b:=c b e;clear e;refine⟨Z,λv s j=>?_⟩;have k:KK=4294967296:=rfl;have p:IntKind.u64.wrap ((v:Int)*KK+4294967296)=((v:Int)+1)*KK:=by rw[IntKind.wrap_u64];simp only[k];omega
 refine⟨_,(stepG_add_atomic Z Z (by k_ne) Z H.f_addU64 (x_addU64_n L) (x_addU64_b L) (x_addU64_x L) .u64 (x_addU64_f L) Z Z j.cellSt (j.thaw 0)).trans (by rw[p];rfl),110,?_⟩;replace b:WgLive L.tWg Wg (h.setCell (stA Wg) (.int .u64 (((v:Int)+1)*KK))):=⟨_,_,j.setSt _⟩
 clear j
 walk_nrm
 u_op c b
 u_c aD c b
 u_c stepG_ret' c b
 u_leave1 H.f_uAdd c b
 u_op c b
 u_c aD c b
 have x:bits .and .u64 (((v:Int)+1)*4294967296) 2147483648=0:=by have:=Go.ConcN.st_flag (v+1) 0 aq aq;grind
 have r:bits .and .u64 (((v:Int)+1)*4294967296) 2147483647=0:=by have:=Go.ConcN.st_waiters (v+1) 0 aq aq;grind
 have t:((v:Int)+1+2147483648) % 4294967296-2147483648=(v:Int)+1:=aq;have q:¬((v:Int)+1<0):=aq;have u:(0:Int)<(v:Int)+1:=aq
 repeat (u_c aF c b)
 u_reg c b
 u_op c b
 u_op c b
 u_op c b
 u_op c b
 u_skip c b
 u_skip c b
 u_op c b
 u_c aD c b
 repeat (u_c aF c b)
 u_cond ae c b
 u_c stepG_skip c b
 repeat (u_c aF c b)
 u_reg c b
 u_op c b
 u_op c b
 u_op c b
 u_op c b
 u_c aD c b
 repeat (u_c aF c b)
 u_reg c b
 u_op c b
 u_op c b
 u_op c b
 u_op c b
 u_c aD c b
 by_cases n:(v:Int)+1=1
 .repeat (u_c aF c b)
  u_reg c b
  u_op c b
  u_op c b
  u_op c b
  u_op c b
  u_op c b
  u_op c b
  u_op c b
  u_op c b
  u_op c b
  u_op c b
  u_c aD c b
  repeat (u_c aF c b)
  u_cond W c b
  repeat (u_c aF c b)
  u_reg c b
  u_op c b
  u_op c b
  u_op c b
  u_conv H.underlying_tPU32 H.room_tU32 (Go.ConcN.Gen.WgLive.cell1 b).choose_spec c b
  refine Goes.stop (λm i=>.inl ?_);clear i;refine⟨Z,_,⟨Wg,1,af⟩,Z,λw=>stepG_markAt .read ay Z Z (by k_ne) Z H.f_raceRead (x_raceRead_n L) (x_raceRead_b L) (x_raceRead_x L) (x_raceRead_f L) (ad:=⟨Wg,1,af⟩) (by simp[Act.eval]),λw b=>⟨50,?_⟩⟩
  walk_nrm
  u_c aD c b
  repeat (u_c aF c b)
  u_reg c b
  u_op c b
  u_op c b
  u_c aD c b
  repeat (u_c aF c b)
  u_cond ae c b
  u_c stepG_skip c b
  repeat (u_c aF c b)
  u_reg c b
  u_op c b
  u_op c b
  u_op c b
  u_skip c b
  u_skip c b
  u_op c b
  u_op c b
  u_skip c b
  u_skip c b
  u_skip c b
  u_skip c b
  u_op c b
  u_c aD c b
  repeat (u_c aF c b)
  u_cond ae c b
  u_c stepG_skip c b
  repeat (u_c aF c b)
  u_reg c b
  u_op c b
  u_op c b
  u_op c b
  u_skip c b
  u_skip c b
  u_op c b
  u_c aD c b
  repeat (u_c aF c b)
  u_cond W c b
  u_c stepG_ret' c b
  refine Goes.stop (λg d=>?_);clear d;refine⟨Z,_,λw=>stepG_unwind_entry (v:=.tuple #[]) (evs:=#[mk .enable]) Z H.f_enable (x_enable_n L) (x_enable_b L) (x_enable_x L) (x_enable_f L) (by simp[Extern.Race.none_]) AF AF,λw b=>⟨1,?_⟩⟩
  u_leave0 H.f_add c b
  grind[Goes.stop]
 have o:((v:Int)+1==1)=ae:=az
 repeat (u_c aF c b)
 u_reg c b
 u_op c b
 u_op c b
 u_op c b
 u_op c b
 u_op c b
 u_op c b
 u_op c b
 u_op c b
 u_op c b
 u_op c b
 u_c aD c b
 repeat (u_c aF c b)
 u_cond ae c b
 u_c stepG_skip c b
 repeat (u_c aF c b)
 u_reg c b
 u_op c b
 u_op c b
 u_c aD c b
 repeat (u_c aF c b)
 u_cond ae c b
 u_c stepG_skip c b
 repeat (u_c aF c b)
 u_reg c b
 u_op c b
 u_op c b
 u_op c b
 u_skip c b
 u_skip c b
 u_op c b
 u_op c b
 u_skip c b
 u_skip c b
 u_skip c b
 u_skip c b
 u_op c b
 u_c aD c b
 repeat (u_c aF c b)
 u_cond ae c b
 u_c stepG_skip c b
 repeat (u_c aF c b)
 u_reg c b
 u_op c b
 u_op c b
 u_op c b
 u_skip c b
 u_skip c b
 u_op c b
 u_c aD c b
 repeat (u_c aF c b)
 u_cond W c b
 u_c stepG_ret' c b
 refine Goes.stop (λg d=>.inr ?_);clear d;refine⟨Z,_,λw=>stepG_unwind_entry (v:=.tuple #[]) (evs:=#[mk .enable]) Z H.f_enable (x_enable_n L) (x_enable_b L) (x_enable_x L) (x_enable_f L) (by simp[Extern.Race.none_]) AF AF,λw b=>⟨1,?_⟩⟩
 u_leave0 H.f_add c b
 grind[Goes.stop]
end
section
open Go.Conc Go.RowKit Go.Conc.Lib Go.ConcR.Gen
open Go.ConcN (WgLive)
open Go.ConcR (KK WgAt stA smA rd wr mk DC0)
section
variable (P:aR)(R:aB->aB->Prop)(L:WgLink)(Wg:Nat)(a:au)(b:au->Prop)
def aff(g:au)(_:aB):Prop:=g.status=.running/\∃g',(∀w,aU P W g w=.go g' w #[mk (.acquire (stA Wg))])/\∀w1,WgLive L.tWg Wg w1->∃m,Goes P W R DC0 (λg _=>g=a) m g' w1
def HKe(g:au)(_:aB):Prop:=g.status=.running/\∃g',(∀w,aU P W g w=.go g' w #[mk .enable])/\∀w1,WgLive L.tWg Wg w1->∃m,Goes P W R DC0 (aff P R L Wg a) m g' w1
def HW4(g:au)(w:aB):Prop:=g.status=.running/\(WgAt L.tWg Wg w 0 0->∃g',aU P W g w=.go g' w #[rd (stA Wg)]/\∃m,Goes P W R DC0 (HKe P R L Wg a) m g' w)
def HW3(g:au)(w:aB):Prop:=g.status=.running/\g.offers=af/\((∃st,WgAt L.tWg Wg w st 0)->aU P W g w=.go {g with status:=.blocked} w #[]) /\
 (WgAt L.tWg Wg w 0 1->∃g',aU P W g w=.go g' (w.setCell (smA Wg) (.int .u32 0)) (semEvents (smA Wg))/\∃m,Goes P W R DC0 (HW4 P R L Wg a) m g' (w.setCell (smA Wg) (.int .u32 0)))
def HWr(g:au)(_:aB):Prop:=g.status=.running/\∃g' ad,ad.block=Wg/\(∀w,aU P W g w=.go g' w #[mk (.write ad)])/\∀w1,WgLive L.tWg Wg w1->∃m,Goes P W R DC0 (HW3 P R L Wg a) m g' w1
def HW2(vs:Nat)(g:au)(w:aB):Prop:=g.status=.running/\∀v:Nat,v<2147483648->WgAt L.tWg Wg w (v*KK) 0 ->
 (v=vs->∃g',aU P W g w=.go g' (w.setCell (stA Wg) (.int .u64 (v*KK+1))) #[rd (stA Wg),wr (stA Wg)]/\∃m,Goes P W R DC0 (HWr P R L Wg a) m g' (w.setCell (stA Wg) (.int .u64 (v*KK+1)))) /\
 (v≠vs->∃g',aU P W g w=.go g' w #[rd (stA Wg)]/\∃m,Goes P W R DC0 (λg _=>b g) m g' w)
def HW1(g:au)(w:aB):Prop:=g.status=.running/\∀v:Nat,v<2147483648->WgAt L.tWg Wg w (v*KK) 0 ->
 ∃g',aU P W g w=.go g' w #[rd (stA Wg)]/\(v=0->∃m,Goes P W R DC0 (HKe P R L Wg a) m g' w)/\(v≠0->∃m,Goes P W R DC0 (HW2 P R L Wg a b v) m g' w)
def HKd(g:au)(_:aB):Prop:=g.status=.running/\∃g',(∀w,aU P W g w=.go g' w #[mk .disable])/\∀w1,WgLive L.tWg Wg w1->∃m,Goes P W R DC0 (λg _=>b g) m g' w1
end
def AnW(L:WgLink)(Wg:Nat)(c:bd)(cs:List bd)(g:au):Prop :=
 ∃T:Array ah,g=G ((base L.wait).at ⟨T,[]⟩ [.code (L7 L),.inLoop (L7 L),.inBlock 0]) (c::cs)/\T.size=84/\T[0]?=O (.pointer (O ⟨Wg,0,af⟩))
set_option maxRecDepth 100000 in
def Lc{L:WgLink}(H:WgLib P L){R:aB->aB->Prop}{Wg:Nat}(b:∀{w w1},WgLive L.tWg Wg w->R w w1->WgLive L.tWg Wg w1){c:bd}(w:aB)(a:WgLive L.tWg Wg w):
  Goes P W R DC0 (HKd P R L Wg (AnW L Wg c cs)) 6 (G ((base L.wait).at ⟨#[.pointer (O ⟨Wg,0,af⟩),ai,ai,ai,ai,ai,ai,ai,ai,ai,ai,ai,ai,ai,ai,ai,ai,ai,ai,ai,ai,ai,ai,ai,ai,ai,ai,ai,ai,ai,ai,ai,ai,ai,ai,ai,ai,ai,ai,ai,ai,ai,ai,ai,ai,ai,ai,ai,ai,ai,ai,ai,ai,ai,ai,ai,ai,ai,ai,ai,ai,ai,ai,ai,ai,ai,ai,ai,ai,ai,ai,ai,ai,ai,ai,ai,ai,ai,ai,ai,ai,ai,ai,ai],[]⟩ [.code (body_wait L)]) (c::cs)) w:=by
 lib_facts
 unfold AnW;simp only[L7,body_wait,waitFn,iY]
 repeat (u_c aF b a)
 u_cond W b a
 repeat (u_c aF b a)
 u_reg b a
 refine Goes.stop (λe d=>?_);clear d;refine⟨Z,_,λw=>stepG_mark0 .disable ay Z Z (by k_ne) Z H.f_disable (x_disable_n L) (x_disable_b L) (x_disable_x L) (x_disable_f L),λw a=>⟨6,?_⟩⟩
 walk_nrm
 u_c aD b a
 repeat (u_c aF b a)
 u_c stepG_block b a
 u_c stepG_loop b a
 exact Goes.stop λ_ _=>⟨_,Z,Z,Z⟩
end
end Go.AM
