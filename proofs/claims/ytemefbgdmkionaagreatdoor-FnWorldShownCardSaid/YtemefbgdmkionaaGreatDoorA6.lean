/- Part 6. No condition. -/
import Derived.Test.YtemefbgdmkionaaGreatDoorA5
import Derived.Conc.LeavingOf
import Derived.Below
import Derived.ProofKit
import Derived.OpenShut
import Derived.OpenVars
import Derived.LaidMore
import Derived.Lay
import Derived.SevenTiedAt
set_option linter.all false
set_option maxHeartbeats 8000000
open Go renaming Value → ak
open Option renaming some → aa
open Go renaming Program → aq
open Go renaming TypeId → ar
open Bool renaming true → ab
open Go renaming Goroutine → au
open Go renaming Frame → aO
open Go renaming Oper → aw
open Go renaming FuncId → aV
open Go renaming execOp → ay
open Go renaming Operand → an
open Option renaming none → af
open Bool renaming false → ae
open Go renaming undef → aj
open Go.World renaming cell? → aZ
open List renaming getD_eq_getElem?_getD → ai
open Go.Sem renaming events_bind → aP
open Go.Result renaming evThen_ok → aU
open Go renaming World → az
open Go renaming stepG → aK
open List renaming range → bh
open Nat renaming beq → aA
open Nat renaming ble → bq
open Go.Proofs.Tryz renaming prog → ah
namespace Go.AM
section
open Go.Conc (G)
def NI(T:List (Nat×TI))(fn:Func)(a:Nat)(res:D)(σ':List aW):Post:=λe φ σ1 =>
 (e=.ret∨e=.normal)/\∃ ks l E cs t ty it u x ps,look φ u=.e x/\fn.results.toList=[.cell t ty,.tmp u]/\bA T ty=aa it/\it.agg=ab/\cs.length=it.size/\look φ t=.e (.one (.ptr l 0))/\σ1[l]?=aa (.cells E cs)/\l∉ks /\
  Bo (.eN [.agg cs,x]) (jm ks res)=aa ps/\ag ps/\uw ks.length res=ab/\kA ks σ1=aa σ'/\ki σ'=ab/\dM ks=ab/\(∀ j,j<a->ks[j]?=aa j)
def cD.Q7{P:aq}{ι:Type}{X:Cx P}{T:List (Nat×TI)}(hT:db P T){f:aV}{fn:Func}{c:Code}{args:List D}{σ:List aW}{σ':ι->List aW}{res:ι->D}(hf:P.funcs[f]?=aa fn)(Q3:(fn.name== "runtime.NumGoroutine")=ae)(hb:fn.body=aa c)(hlen:args.length<=fn.ntmps)
  (h:∀ s a,cp fn.ntmps σ s (hU 0 args) a->aJ σ s->∀ (b:aO) (k:List Item) (cs:List aO) (S:au->St->Prop),b.kind≠.early->b.roundOf=af ->
  (∀ e H σ1 s' a',(∃ j,NI T fn σ.length (res j) (σ' j) e H σ1)->cp fn.ntmps σ1 s' H a'->aJ σ1 s'->cw σ s σ1 s'->ends X S b k cs e a' s')->eZ X S (G (b.aT a (.code c::k)) cs) s):cD X f args σ res σ':=by
 refine⟨⟨fn,hf,Q3,by rw[hb];rfl⟩,λs vs hr hh S cs hS=>?_⟩
 obtain⟨hl,hg⟩:=cv.get hr
 let b:aO:={ fn:=f,tmps:=#[],todo:=[],defers:=[],mode:=.run,kind:=.normal,roundOf:=af }
 have F:Frame.enter P f vs.toArray .normal=b.aT { tmps:=vs.toArray++Array.replicate (fn.ntmps-vs.toArray.size) aj,defers:=[] } [.code c]:=by
  simp[Frame.enter,Frame.aT,hf,hb,b]
 rw[F];refine h s { tmps:=vs.toArray++Array.replicate (fn.ntmps-vs.toArray.size) aj,defers:=[] } ⟨by simp;omega,⟨[],av⟩,λt=>?_⟩ hh b [] cs S (by simp[b]) rfl ?_
 .rw[lN];simp only[gh,cj,ll];have:=hg t;rcases cx t vs.length with ur|Pb
  .have e:(vs.toArray++Array.replicate (fn.ntmps-vs.toArray.size) aj).getD t aj=(vs[t]?).getD aj:=by
    simp only[dn]
    grind
   rw[e];exact this
  .rw[qq (by omega)]
   trivial
 .rintro e H σ0 s0 a1 ⟨jj,he,ks,l,E,Ut,t,ty,it,u,x0,ps,q0,q1,q2,q3,q4,q5,q6,q7,h3,h4,h5,X1,X2,h8,h9⟩ f0 U Ub;obtain⟨h7,X3⟩:=sZ X2;have z:=f0.slot t;rw[q5] at z;obtain⟨_,L,bb,p,X4,Q4⟩:=z;have J:=f0.slot u;rw[q0] at J;obtain⟨b2,d,Pm,Y,Uu,hM⟩:=U.box l _ L q6 p;subst Pm;cases X4
  let M':Mem:=λm o=>if m=bb then d[o]? else s0.M m o
  have Pd:∀ o v,d[o]?=aa v->s0.w.cell? ⟨bb,o,af⟩=aa v:=λo v ho=>by simpa[aZ,Y] using ho
  have Pc:∀ m o v,s0.M m o=aa v->M' m o=aa v:=λm o v hv=>by
   grind
  have Uv:∀ m o v,M' m o=aa v->s0.w.cell? ⟨m,o,af⟩=aa v:=λm o v hv=>by
   by_cases e:m=bb
   .grind
   .simp only[M',e,b5] at hv;exact U.mem m o v hv
  obtain⟨Z,A⟩:=U.im (M':=M') (w':=s0.w) (B':=.dead) (L':=⟨.pointer (aa ⟨bb,0,af⟩),[]⟩) q6 p rfl (bc _) (λ_ _ _=>rfl) (λm _ W o=>by
   grind) Pc Uv (by simp) rfl rfl rfl av
  have QO:eK s0 ⟨s0.β.set l ⟨.pointer (aa ⟨bb,0,af⟩),[]⟩,M',s0.w,s0.own⟩:=⟨rfl,Pc,λm W o=>by
   have:m≠bb:=by rintro rfl;exact W _ (bM p) (by simp)
   simp only[M',this,b5],Uv,λm W=>by
   grind⟩
  have f':cp fn.ntmps (σ0.set l .dead) ⟨s0.β.set l ⟨.pointer (aa ⟨bb,0,af⟩),[]⟩,M',s0.w,s0.own⟩ H a1:=⟨f0.size,f0.defers.imp λ_ h1=>h1.mono A.ext,λu=>(f0.slot u).mono A.ext U.len⟩
  have h6:=zY (x:=aW.dead) X1 q7;have Q5:dG (σ0.set l .dead) ⟨s0.β.set l ⟨.pointer (aa ⟨bb,0,af⟩),[]⟩,M',s0.w,s0.own⟩ d Ut:=Uu.mono A.ext U.len;have st:=Ub.trans (A.oo U);have O:∀ w,(∀ b o u,M' b o=aa u->w.cell? ⟨b,o,af⟩=aa u)->(results fn a1.tmps).run P w=.ok (.tuple #[.agg d.toArray,a1.tmps.getD u aj]) w/\∀ e∈(results fn a1.tmps).events P w #[],∃ b o u,e=⟨.cell ⟨b,o,af⟩,ae,ae⟩/\M' b o=aa u:=by
   intro w hw;have V:=hT ty it q2;have Uw:d.length=it.size:=by rw[Uu.length,q4]
   have SX:∀ j v,d[j]?=aa v->w.cell? ⟨bb,0+j,af⟩=aa v:=λj v hj=>hw _ _ _ (by grind)
   have Qn:=run_loadCells_list (P:=P) w ⟨bb,0,af⟩ d (λj v hj=>by rw[c9];exact SX j v hj)
   rw[Uw] at Qn;have GA:(loadVar ty ⟨bb,0,af⟩).run P w=.ok (.agg d.toArray) w:=by
    simp only[loadVar,bS,V.ju,b7,q3];simp[V.run_sizeOf,Qn]
   have hra:fn.results=#[.cell t ty,.tmp u]:=by apply hO;simpa using q1
   have Q:asAddr (a1.tmps[t]?.getD aj)=(pure ⟨bb,0,af⟩:Sem Addr):=by rw[<-dn,Q4];rfl
   refine⟨by simp[results,hra,Q,GA],λe he=>?_⟩
   have Tr:e∈(loadVar ty ⟨bb,0,af⟩).events P w #[]:=by
    simpa[results,hra,Q,GA] using he
   obtain⟨j,hj,rfl⟩:=jl V (w:=w) (n:=d.length) (λj hj=>⟨_,SX j d[j] (bl hj)⟩) (by rw[q3,Uw];simp) e Tr
   exact⟨bb,0+j,d[j],rfl,by grind⟩
  have fin:∀ (fr:aO) s2,b9 (⟨s0.β.set l ⟨.pointer (aa ⟨bb,0,af⟩),[]⟩,M',s0.w,s0.own⟩:St) s2->fr.fn=f->fr.tmps=a1.tmps->fr.defers=a1.defers->fr.mode=.returning->fr.kind=.normal->eZ X S (G fr cs) s2:=by
   intro fr s2 n6 e1 e2 e3 e4 e5;have f2:=f'.rely n6 Z;have r:=Z.rely n6;have g:=st.trans n6.stepW;have hx2:ma (σ0.set l .dead) s2 (a1.tmps.getD u aj) x0:=ma.mono n6.stepW.ext Z.len (ma.mono A.ext U.len J);have r2:c8 (σ0.set l .dead) s2 (.tuple #[.agg d.toArray,a1.tmps.getD u aj]) (.eN [.agg Ut,x0]):=⟨[.agg d.toArray,a1.tmps.getD u aj],rfl,⟨d,rfl,Q5.mono n6.stepW.ext Z.len⟩,hx2,av⟩;obtain⟨i,I⟩:=vv (l':=s2.β) h6 r.len;have r4:=(oU h3 h4 r2).sub h6 I h5;obtain⟨c1,c2⟩:=gE h6;obtain⟨d1,d2⟩:=gE I;have R:∀ L∈i,L∈s2.β:=u4 I;have JU:aJ (σ' jj) { s2 with β:=i }:=by
    obtain⟨g1,_⟩:=r.sub h6 I h7 h8;refine⟨g1.mem,g1.len,λj B L hB p=>?_,g1.fT,g1.lt,λb hb=>⟨(r.own b hb).1,λL p=>(r.own b hb).2 L (R L p)⟩⟩
    exact eJ.plain (σ:=σ' jj) (s:={ s2 with β:=i,own:=xy s2 i }) (s':={ s2 with β:=i }) rfl rfl (jw h7 B (bM hB)) (g1.box j B L hB p)
   have NG:cw σ s (σ' jj) { s2 with β:=i }:=by
    refine⟨g.size,g.eB,g.mem,g.jk,λL p b hb=>g.uo _ (R L p) b hb,λl B L hB p=>?_,g.os,g.tape,g.output,g.own⟩
    have hl:l<σ.length:=(cg.1 hB).1;obtain⟨B',L',p1,p2,p3⟩:=g.box l B L hB p
    grind
   obtain⟨ls,Q6⟩:=f2.defers;refine nY ls fr s2 _ r.kz (by grind) e4 (by rw[e3];exact Q6.taken r) λs3 q=>?_
   have C:b9 { s2 with β:=i } { s3 with β:=i }:=by
    refine⟨rfl,q.M,q.own,q.size,λb hb=>q.eB b (hb.imp id ?_),q.mem,q.os,q.tape,q.output⟩
    rintro⟨L,p,hb⟩;obtain⟨j,hj,rfl⟩:=dX p;have Ux:j<ks.length:=by rw[<-d1];exact hj
    obtain⟨y,y1,y2⟩:=d2 j _ (bl Ux);obtain⟨x,x1,x2⟩:=c2 j _ (bl Ux);rw[bl hj] at y1;cases y1;refine⟨_,_,y2,λhc=>?_,hb⟩
    rw[Q6.yh _ hc] at x2;cases x2;exact lD X3 _ (bM x1) rfl
   have hG:eK s3 { s3 with β:=i }:=⟨rfl,λ_ _ _ h=>h,λ_ _ _=>rfl,λb o v hv=>q.mem b o v (by rw[<-q.M];exact hv),λb hb=>hb.imp id λ⟨L,p,hb⟩=>⟨L,by rw[q.β];exact R L p,hb⟩⟩
   have Wl:s2.M=M':=n6.M;refine .ghost hG (hS jj _ (.tuple #[.agg d.toArray,a1.tmps.getD u aj]) _ ⟨e1,e4,rfl,e5,fn,by grind,λw hw=>?_⟩ (r4.mono C.stepW.ext JU.len) (JU.rely C) (NG.trans C.stepW))
   show (results fn fr.tmps).run P w=_/\∀ e∈(results fn fr.tmps).events P w #[],_;rw[e2];have Uy:∀ b o u,M' b o=aa u->w.cell? ⟨b,o,af⟩=aa u:=λb o u h=>hw b o u (by show s3.M b o=aa u;rw[q.M,Wl];exact h)
   refine⟨(O w Uy).1,λe he=>?_⟩
   obtain⟨b,o,u,q1,q2⟩:=(O w Uy).2 e he;exact⟨b,o,u,q1,by show s3.M b o=aa u;rw[q.M,Wl];exact q2⟩
  rcases he with rfl|rfl
  .intro pre;exact .ghost QO (.ctl Z rfl (λ_=>zm rfl) λs2 n6=>fin _ s2 n6 rfl rfl (ik _) rfl rfl)
  .exact .ghost QO (.ctl Z rfl (λ_=>zn rfl) λs2 n6=>fin _ s2 n6 rfl rfl (ik _) rfl rfl)
def cD.BT{P:aq}{ι:Type}{X:Cx P}{T:List (Nat×TI)}(n:db P T){f:aV}{fn:Func}{c:Code}{args:List D}{σ:List aW}{σ':ι->List aW}{res:ι->D}(i:P.funcs[f]?=aa fn)(d:(fn.name== "runtime.NumGoroutine")=ae)(hb:fn.body=aa c)(g:bq args.length fn.ntmps=ab)
  (h:Fits args σ->AK X fn.ntmps (λe φ σ1=>∃ j,NI T fn σ.length (res j) (σ' j) e φ σ1) [.code c] .normal (hU 0 args) σ):cD X f args σ res σ':=by
 refine⟨⟨fn,i,d,by rw[hb];rfl⟩,λs0 vs hr MJ=>?_⟩
 have:=cD.Q7 (X:=X) (σ':=σ') (res:=res) n i d hb (c7 g) λs a f hh b k cs S m _ l=>(show AW X fn.ntmps c _ (hU 0 args) σ from AK.of_code (h ⟨s0,vs,hr,MJ⟩)) s a f hh b k cs S m l
 exact this.2 s0 vs hr MJ
section
variable {P:aq}{X:Cx P}{N:Nat}{K:List It}{φ:Fr}{σ:List aW}
def AK.lV{ι:Type}{T:List (Nat×TI)}{fn:Func}{h:Nat}{res:ι->D}{σ':ι->List aW}(i:ι)(ks:List Nat){l:Nat}{E:ar}{cs:List A}{t u:Tmp}{ty:ar}{b:TI}{x:E1}{ps:List Prop}
  (q:fn.results.toList=[.cell t ty,.tmp u]) (hi:bA T ty=aa b) (r:b.agg=ab) (n:look φ t=.e (.one (.ptr l 0))) (k:look φ u=.e x) (hl:fA l σ=aa (.cells E cs)) (a:aA cs.length b.size=ab) (f:fI l ks=ae)
  (g:Bo (.eN [.agg cs,x]) (jm ks (res i))=aa ps) (p:ag ps) (d:uw ks.length (res i)=ab) (o:kA ks σ=aa (σ' i)) (c:ki (σ' i)=ab) (hn:dM ks=ab) (m:∀ j,j<h->ks[j]?=aa j) :
  AK X N (λe φ σ1=>∃ j,NI T fn h (res j) (σ' j) e φ σ1) (.code .ret::K) .normal φ σ :=
 AK.ret ⟨i,.inl rfl,ks,l,E,cs,t,ty,b,u,x,ps,k,q,hi,r,bT a,n,dw hl,BS f,g,p,d,o,c,hn,m⟩
def Ev.BT{T:List (Nat×TI)}(d:db P T){f:aV}{fn:Func}{c:Code}{args:List D}{σ σ':List aW}{res:D}(g:P.funcs[f]?=aa fn)(b:(fn.name== "runtime.NumGoroutine")=ae)(hb:fn.body=aa c)(a:bq args.length fn.ntmps=ab)
  (h:Fits args σ->AK X fn.ntmps (λe φ σ1=>∃ _:Unit,NI T fn σ.length res σ' e φ σ1) [.code c] .normal (hU 0 args) σ):Ev X f args σ res σ' :=
 (cD.BT (ι:=Unit) (σ':=λ_=>σ') (res:=λ_=>res) d g b hb a h).ux
end
def Du{P:aq}{T:List (Nat×TI)}(S:db P T){o:aw}{Y:an->D}{σ:List aW}{t:ar}{n:Nat}{parts:Array (Nat×an)}(h:o.op=.buildSlice t n parts){k:Nat}{es:List (List C)}
  (a:Dv T Y t n parts.toList=aa (k,es)) {i:TI} {E:ar} (hi:bA T t=aa i) (hd:i.desc=.slice E) {s:St} {ρ:an->ak} (hr:∀ y,c8 σ s (ρ y) (Y y)) :
  ∃ G:List ak,Flat s.M k n (λi=>es.getD i []) G/\n<=16777216/\0<k/\(ay ρ o).run P s.w=.ok (.value (.slice (aa ⟨s.w.heap.size,0,af⟩) n n)) (s.newRow E G).w/\(ay ρ o).events P s.w #[]=#[]:=by
 unfold Dv at a
 .simp only[hi,hd] at a
  .skip
   cases H:bA T E with
   |none=>simp[H] at a
   |some ie =>
    simp only[H] at a;cases R:aA ie.size 0 with
    |true=>simp[R] at a
    |false =>
     simp only[R] at a;cases B:bq (n*ie.size) 16777216 with
     |false=>simp[B] at a
     |true =>
      simp only[B] at a;cases l:nT Y parts.toList with
      |none=>simp[l] at a
      |some ps =>
       simp only[l] at a;cases f:vq (λk=>aa (k*ie.size,ie.size)) ps (List.replicate (n*ie.size) A.any) with
       |none=>simp[f] at a
       |some cs =>
        simp only[f] at a;cases g:gC cs with
        |none=>simp[g] at a
        |some r =>
         simp only[g] at a;cases j:qw ie.size n r with
         |none=>simp[j] at a
         |some es' =>
          simp only[j,de,kZ] at a;obtain⟨rfl,rfl⟩:=a;have Z:ie.size≠0:=λe=>by rw[e] at R;cases R
          have J:=c7 B;obtain⟨inf,z,z1,z2,z3,z4,z5,z6,z7⟩:=(S E ie H).info;have hzs:z.cells.size=ie.size:=by
           have:=di List.length z5
           grind
          have hzc:∀ v∈z.cells.toList,cX v=ab:=by
           intro v F;have b:qc v∈z.cells.toList.map qc:=mh.2 ⟨v,F,rfl⟩;rw[z5] at b;obtain⟨c,_,hc⟩:=mh.1 b;exact(Rd.qc (M:=s.M) hc.symm).cell
          have L:∀ m,(∀ v∈(bh m).map (λq=>z.cells[q % z.cells.size]!),cX v=ab):=by
           intro m v F;obtain⟨q,_,rfl⟩:=mh.1 F;have ur:q % z.cells.size<z.cells.size:=hJ _ (by omega)
           grind
          have Q:∀ vs:List ak,(∀ v∈vs,cX v=ab)->dG σ s vs (List.replicate vs.length A.any):=by
           intro vs
           induction vs with
           |nil=>intro _;trivial
           |cons v vs ih=>intro F;exact⟨F v (by simp),ih λu O=>F u (by simp[O])⟩
          obtain⟨p1,p2⟩:=pO (σ:=σ) (s:=s) hr l;have V:dG σ s ((Array.range (n*ie.size)).map (λq=>z.cells[q % z.cells.size]!)).toList (List.replicate (n*ie.size) A.any):=by
           have:=Q _ (L (n*ie.size));simpa using this
          obtain⟨G,u1,u2⟩:=rB (σ:=σ) (s:=s) (place':=λk=>aa (k*ie.size,ie.size)) (λk p hk=>hk) f p1 p2 V
          have u3:=kg g u2;obtain⟨c1,c2⟩:=sK (M:=s.M) (vs:=G.toList) j (by simpa using u3.length) u3.closed
          refine⟨G.toList,c2,ez (qS n (by omega)) J,by omega,?_,?_⟩
          rotate_left
          .simp only[ay,h];exact cK.bind cK.buildSlice (λ_=>cK.pure) _ _
          .have O:=(S t i hi).run_underlying (w:=s.w);rw[hd] at O;have U:(zeroValue E).run P s.w=.ok z s.w:=by simp[zeroValue,typeInfo,z1,z4]
           have d:Instr.fill (λk=>aa (k*ie.size,ie.size)) ((Array.range (n*ie.size)).map (λq=>z.cells[q % z.cells.size]!)) (parts.map λ(i,x)=>(i,ρ x)).toList=aa G:=by simpa using u1
           by_cases h0:n*ie.size=0
           .have W:n=0:=by rcases Nat.mul_eq_zero.1 h0 with h|h;exact h;exact absurd h Z
            subst W;have I:Array.range 0=#[]:=rfl;simp[I] at d;simp[ay,h,Instr.buildSlice,O,(S E ie H).run_sizeOf,I,d,Go.newRow,St.newRow]
           .rw[show ay ρ o=(do pure (.value (<-Instr.buildSlice t n (parts.map λ(i,x)=>(i,ρ x))))) by simp[ay,h]]
            simp only[Instr.buildSlice,bS,O,b7,(S E ie H).run_sizeOf,h0,b5,U,show ¬n*ie.size>2 ^ 24 by omega,pH,d,cW]
            simp[Go.newRow,St.newRow]
section
variable {P:aq}{X:Cx P}{N:Nat}{Qf:Post}{K:List It}{φ:Fr}{σ:List aW}{all rest:List aw}{o:aw}
def AK.I7{T:List (Nat×TI)}(x:db P T){t:ar}{n:Nat}{parts:Array (Nat×an)}(h:o.op=.buildSlice t n parts){k:Nat}{es:List (List C)}{i:TI}{E:ar}(hi:bA T t=aa i)(u:i.desc=.slice E)
  (j:Dv T (bX φ) t n parts.toList=aa (k,es)) (r:o.guard=af) (q:gv N o.dst=ab)
  (kk:AK X N Qf (.ops all rest::K) .normal (lr o.dst (.e (.one (.bp σ.length (.sl n k 0 n)))) φ) (σ++[.buf E k n (λi=>es.getD i [])])):AK X N Qf (.ops all (o::rest)::K) .normal φ σ:=by
 refine AK.hand (ι:=Unit) (λ_=>.e (.one (.bp σ.length (.sl n k 0 n)))) (λ_=>σ++[.buf E k n (λi=>es.getD i [])]) r q (λs a p hh=>?_) λ_=>kk
 obtain⟨f,g,hn,D,d,m⟩:=Du (σ:=σ) (s:=s) (ρ:=a.eval) x h j hi u (λy=>dK p y)
 have A:eJ (σ++[.buf E k n (λi=>es.getD i [])]) { s with w:=(s.newRow E f).w,β:=s.β++[⟨.slice (aa ⟨s.w.heap.size,0,af⟩) 0 n,[s.w.heap.size]⟩] } (.buf E k n (λi=>es.getD i [])) ⟨.slice (aa ⟨s.w.heap.size,0,af⟩) 0 n,[s.w.heap.size]⟩:=by
  refine .inr ⟨s.w.heap.size,n,f,[],rfl,by rw[ik];exact dt s.w _,by rw[ik];exact g.len,bc _,by omega,g,λo=>?_⟩
  cases l:s.M s.w.heap.size o with
  |none=>rfl
  |some v=>have:=hh.block l;omega
 have c:aJ σ { s with w:=(s.newRow E f).w }/\Step σ s σ { s with w:=(s.newRow E f).w } :=
  hh.grow (by simp[St.newRow]) (λb hb=>cE s.w _ hb) (λb hb o=>rfl) (λb hb o v l=>by
   have:=hh.block l;omega) rfl rfl rfl
 obtain⟨z,g2⟩:=c.1.gT c.2 rfl hh A (λb hb=>by
   simp at hb;subst hb;exact⟨bc _,by simp[St.newRow]⟩)
 refine⟨(),.value (.slice (aa ⟨s.w.heap.size,0,af⟩) n n),{ s with w:=(s.newRow E f).w,β:=s.β++[⟨.slice (aa ⟨s.w.heap.size,0,af⟩) 0 n,[s.w.heap.size]⟩] },_,d,.inl rfl,?_,z,g2,by rw[m];exact .nil⟩
 refine⟨.slice (aa ⟨s.w.heap.size,0,af⟩) 0 n,⟨_,_,n,n,rfl,bc _,by simp,by omega,rfl,λ_=>⟨_,rfl,by simp⟩⟩,by simp,λB k' n' es' j=>?_⟩
 simp at j;obtain⟨_,_,rfl,_⟩:=j;exact⟨bc _,λ_=>⟨_,by show (s.β++[_])[σ.length]?=_;rw[<-hh.len,List.getElem?_concat_length],rfl⟩⟩
end
def vE(l k n:Nat)(es:Nat->List C):A->A×List Prop
 |.bp l' (.sl g k' o m)=>match aA l' l with
  |true=>match aA k' k with
   |true=>(.c (.sl ae k m (uy o es)),[g=n,o+m<=n])
   |false=>(.bp l' (.sl g k' o m),[])
  |false=>(.bp l' (.sl g k' o m),[])
 |a=>(a,[])
def nW(l k n:Nat)(es:Nat->List C):List A->List A×List Prop
 |[]=>([],[])
 |a::r=>match vE l k n es a with
  |(a',p)=>match nW l k n es r with
   |(r',q)=>(a'::r',kh p q)
def DG(l k n:Nat)(es:Nat->List C):E1->E1×List Prop
 |.one a=>match vE l k n es a with|(a',p)=>(.one a',p)
 |.agg cs=>match nW l k n es cs with|(b,p)=>(.agg b,p)
def DH(l k n:Nat)(es:Nat->List C):D->D×List Prop
 |.e x=>match DG l k n es x with|(a,p)=>(.e a,p)
 |d=>(d,[])
def vF(l k n:Nat)(es:Nat->List C):Fr->Fr×List Prop
 |[]=>([],[])
 |(t,d)::r=>match DH l k n es d with
  |(a,p)=>match vF l k n es r with
   |(r',q)=>((t,a)::r',kh p q)
def gF(l k n:Nat)(es:Nat->List C):Nat->List aW->List aW×List Prop
 |_,[]=>([],[])
 |i,b::r=>match gF l k n es (i+1) r with
  |(r',q)=>match aA i l with
   |true=>(.dead::r',q)
   |false=>match b with
    |.cells E cs=>match nW l k n es cs with|(a,p)=>(.cells E a::r',kh p q)
    |b=>(b::r',q)
section
variable {σ σ':List aW}{s s2:St}{E l k n:Nat}{es:Nat->List C}
structure jc (σ:List aW)(s:St)(l k n:Nat)(es:Nat->List C)(σ':List aW)(s2:St):Prop where
 eB:∀ v a,gu σ s v a->gu σ' s2 v a
 Jh:∀ v k' o m,gu σ s v (.bp l (.sl n k' o m))->k'=k->o+m<=n->Rd s2.M v (.sl ae k m (uy o es))
def jc.a(h:jc σ s l k n es σ' s2){v:ak}{a:A}(b:ag (vE l k n es a).2)(r:gu σ s v a):gu σ' s2 v (vE l k n es a).1:=by
 unfold vE at b ⊢;split
 .rename_i l' g k' o m
  split
  .rename_i e1
   split
   .rename_i e2
    simp only[e1,e2] at b;have e1:=bT e1;have e2:=bT e2;subst e1;obtain⟨rfl,h2⟩:g=n/\o+m<=n:=b;exact h.Jh v _ _ _ r e2 h2
   .exact h.eB v _ r
  .exact h.eB v _ r
 .exact h.eB v _ r
def jc.ls(h:jc σ s l k n es σ' s2):∀ {vs:List ak}{cs:List A},ag (nW l k n es cs).2->dG σ s vs cs->dG σ' s2 vs (nW l k n es cs).1
 |[],[],_,_=>trivial
 |[],_::_,_,r=>r.elim
 |_::_,[],_,r=>r.elim
 |v::vs,c::cs,b,r=>by
  simp only[nW] at b ⊢;rw[ag.cat] at b;exact⟨h.a b.1 r.1,h.ls b.2 r.2⟩
def jc.e(h:jc σ s l k n es σ' s2){v:ak}{x:E1}(b:ag (DG l k n es x).2)(r:ma σ s v x):ma σ' s2 v (DG l k n es x).1:=by
 cases x with
 |one a=>exact h.a b r
 |agg cs=>obtain⟨vs,f,d⟩:=r;exact⟨vs,f,h.ls b d⟩
def jc.d(h:jc σ s l k n es σ' s2)(hl:s.β.length=σ.length)(b:Ext σ s σ' s2){v:ak}{d:D}(a:ag (DH l k n es d).2)(r:c8 σ s v d):c8 σ' s2 v (DH l k n es d).1:=by
 cases d with
 |e x=>exact h.e a r
 |eN xs=>exact r.mono b hl
 |any=>trivial
def jc.f(h:jc σ s l k n es σ' s2)(hl:s.β.length=σ.length)(e:Ext σ s σ' s2):∀ {φ:Fr}{t:Nat}{v:ak},ag (vF l k n es φ).2->c8 σ s v (look φ t)->c8 σ' s2 v (look (vF l k n es φ).1 t)
 |[],_,_,_,_=>trivial
 |(u,d)::r,t,v,b,a=>by
  simp only[vF] at b ⊢;rw[ag.cat] at b;simp only[look] at a ⊢;cases hb:aA u t with
  |true=>rw[hb] at a;exact h.d hl e b.1 a
  |false=>rw[hb] at a;exact h.f hl e b.2 a
def qx:∀ {σ:List aW}{i j:Nat},(gF l k n es i σ).1[j]?=match σ[j]? with
  |none=>af
  |some b=>aa (match aA (i+j) l with|true=>.dead|false=>match b with|.cells E cs=>.cells E (nW l k n es cs).1|b=>b)
 |[],i,j=>by simp[gF]
 |b::r,i,0=>by
  simp only[gF,iM,kV]
  grind
 |b::r,i,j+1=>by
  have a:=qx (σ:=r) (i:=i+1) (j:=j);have e:i+1+j=i+(j+1):=by omega
  rw[e] at a;simp only[gF,mN]
  grind
def vG:∀ {σ:List aW}{i j:Nat}{E:ar}{cs:List A},ag (gF l k n es i σ).2->σ[j]?=aa (.cells E cs)->i+j≠l->ag (nW l k n es cs).2
 |[],i,j,_,_,_,d,_=>by simp at d
 |b::r,i,0,E,cs,a,d,f=>by
  simp at d;subst d;simp only[gF] at a;cases e:aA i l with
  |true=>exact absurd (bT e) (by simpa using f)
  |false=>simp only[e] at a;rw[ag.cat] at a;exact a.1
 |b::r,i,j+1,E,cs,a,d,f=>by
  simp at d;refine vG (σ:=r) (i:=i+1) (j:=j) ?_ d (by omega)
  simp only[gF] at a;cases e:aA i l with
  |true=>simp only[e] at a;exact a
  |false =>
   simp only[e] at a;cases b with
   |cells=>simp only at a;rw[ag.cat] at a;exact a.2
   |_=>exact a
def qy:∀ {σ:List aW}{i:Nat},(gF l k n es i σ).1.length=σ.length
 |[],_=>rfl
 |b::r,i=>by
  simp only[gF];have a:=qy (σ:=r) (i:=i+1)
  grind
def aJ.rK(hh:aJ σ s)(J:σ[l]?=aa (.buf E k n es))(hq:ag (gF l k n es 0 σ).2) :
  ∃ s2:St,s2.w=s.w/\aJ (gF l k n es 0 σ).1 s2/\Step σ s (gF l k n es 0 σ).1 s2/\jc σ s l k n es (gF l k n es 0 σ).1 s2:=by
 have D:l<σ.length:=(cg.1 J).1;have T:s.β[l]?=aa (s.β[l]'(by rw[hh.len];exact D)):=bl _
 generalize s.β[l]'(by rw[hh.len];exact D)=L at T
 have Q:=hh.box _ _ L J T;obtain⟨M',m1,m2,m3,m4⟩:∃ M':Mem,(∀ b o v,s.M b o=aa v->M' b o=aa v)/\(∀ b,b∉L.bs->∀ o,M' b o=s.M b o)/\(∀ b o v,M' b o=aa v->s.w.cell? ⟨b,o,af⟩=aa v) /\
   (∀ v k' o m,gu σ s v (.bp l (.sl n k' o m))->k'=k->o+m<=n->Rd M' v (.sl ae k m (uy o es))):=by
  rcases Q with⟨rfl,rfl⟩|⟨b,c0,vs,zs,rfl,hw,Ds,WL,IF,hF,hM⟩
  .refine⟨s.M,λ_ _ _ h=>h,λ_ _ _=>rfl,hh.mem,λv k' o m r e G=>?_⟩
   obtain⟨lv,⟨a,a0,cap,c0,A,h1,h2,R,F,U⟩,_,V⟩:=r;obtain⟨L',d,x⟩:=(V _ _ _ _ J).2 rfl;rw[T] at d;cases d;rw[F] at x;cases x;have:cap=0:=by omega
   subst this;have:m=0:=by omega
   subst this;rw[A];exact Rd.jG
  .let M':Mem:=λq o=>if q=b then vs[o]? else s.M q o
   have mm:∀ q o v,s.M q o=aa v->M' q o=aa v:=λq o v A=>by
    grind
   refine⟨M',mm,λq rl o=>?_,λq o v A=>?_,λv k' o m r e G=>?_⟩
   .grind
   .by_cases e:q=b
    .subst e;simp only[M',cj] at A;simp only[aZ,hw]
     grind
    .simp only[M',e,b5] at A;exact hh.mem q o v A
   .subst e;obtain⟨lv,⟨a,a0,cap,c1,A,h1,h2,R,F,U⟩,_,V⟩:=r;obtain⟨L',d,x⟩:=(V _ _ _ _ J).2 rfl;rw[T] at d;cases d;rw[F] at x;cases x;rw[A];have g:∀ i,i<m->∀ j c,(uy o es i)[j]?=aa c->∃ u,vs[(o+i)*k'+j]?=aa u/\Rd s.M u c:=λi hi j c hj=>by
     rw[u6] at hj;exact hF.rd (o+i) (by omega) j c hj
    refine .sl b (o*k') (λi j=>(vs[(o+i)*k'+j]?).getD aj) h1 (by omega) (by simp) (λi hi=>by rw[u6];exact hF.width _ (by omega)) (λhm=>?_) (λi hi j c hj=>?_) (λi hi j c hj=>?_)
    .grind
    .grind
    .obtain⟨u,u1,u2⟩:=g i hi j c hj;rw[u1];exact u2.mono mm
 obtain⟨I,q2⟩:=hh.im (M':=M') (w':=s.w) (B':=.dead) (L':=⟨L.v,[]⟩) J T av (bc _) (λ_ _ _=>rfl) (λb _ hb o=>m2 b hb o) m1 m3 (by simp) rfl rfl rfl av
 let s2:St:=⟨s.β.set l ⟨L.v,[]⟩,M',s.w,s.own⟩
 have g:∀ i B,σ[i]?=aa B->i≠l->(gF l k n es 0 σ).1[i]?=aa (match B with|.cells E cs=>.cells E (nW l k n es cs).1|b=>b):=λi B hi Dg=>by
  rw[qx,hi];have:aA (0+i) l=ae:=by
   cases hb:aA (0+i) l with
   |false=>rfl
   |true=>exact absurd (bT hb) (by omega)
  simp only[this]
 have O:(gF l k n es 0 σ).1[l]?=aa .dead:=by
  rw[qx,J];have:aA (0+l) l=ab:=by rw[br];exact iL l
  simp only[this]
 have vH:Step (σ.set l .dead) s2 (gF l k n es 0 σ).1 s2:=by
  refine⟨bc _,λ_ _ _=>rfl,λ_ _ _ h=>h,λ_ _ _ _=>rfl,λL' d b hb=>.inr ⟨L',d,hb⟩,λi B L' hi d=>?_,rfl,rfl,rfl,rfl⟩
  by_cases e:i=l
  .subst e;rw[eX D] at hi;cases hi;exact⟨.dead,L',O,d,rfl⟩
  .rw[fE (λh=>e h.symm)] at hi
   refine⟨_,L',g i B hi e,d,?_⟩;cases B <;> first|exact il.refl _ _|rfl
 have st:=q2.trans vH;have hc:jc σ s l k n es (gF l k n es 0 σ).1 s2:=⟨λv a r=>r.mono st.ext hh.len,λv k' o m r e G=>m4 v k' o m r e G⟩
 refine⟨s2,rfl,⟨I.mem,by rw[qy,<-hh.len];simp[s2],λi B L' hi d=>?_,I.fT,I.lt,I.own⟩,st,hc⟩
 by_cases e:i=l
 .subst e;rw[O] at hi;cases hi;trivial
 .have H:i<σ.length:=by
   have:=(cg.1 hi).1
   rwa [qy] at this
  have z:=bl H;have Z:s.β[i]?=aa L':=by grind
  have W:=hh.box i _ L' z Z;have p:=I.box i _ L' (by rw[fE (λh=>e h.symm)];exact z) d
  have f:=g i _ z e;rw[hi] at f;have f:=ra f;generalize hBe:σ[i]=B0 at *;cases B0 with
  |cells E0 cs =>
   subst f;obtain⟨b,vs,h1,h2,R,U⟩:=W;obtain⟨q,vD,S,W0,_,Y⟩:=p;rw[h1] at S;cases S;exact⟨b,vs,h1,h2,hc.ls (vG hq z (by omega)) R,Y⟩
  |vec=>subst f;exact p
  |dz=>subst f;exact p
  |dead=>subst f;trivial
  |loop N φ r =>
   subst f;obtain⟨l1,tmps,fn,df,h1,h2,R,U,h5⟩:=p;exact⟨l1,tmps,fn,df,h1,h2,R,λt=>(U t).mono vH.ext I.len,h5⟩
  |rq=>subst f;exact p
  |buf=>subst f;exact p
end
section
variable {P:aq}{X:Cx P}{N:Nat}{Qf:Post}{K:List It}{φ y:Fr}{σ σ':List aW}{c:Code}
def AK.rK(l:Nat){E k n:Nat}{es:Nat->List C}{ps qs:List Prop}(hl:fA l σ=aa (.buf E k n es))(d:vF l k n es φ=(y,ps))(b:gF l k n es 0 σ=(σ',qs))(m:ag ps)(j:ag qs)
  (kk:AK X N Qf (.code c::K) .normal y σ'):AK X N Qf (.code c::K) .normal φ σ:=by
 refine AK.ghost (λs a g hh=>?_) kk
 obtain⟨s2,h1,h2,e,i⟩:=hh.rK (dw hl) (by rw[b];exact j)
 rw[b] at h2 e i;refine⟨s2,h1,⟨g.size,g.defers.imp λ_ h=>h.mono e.ext,λt=>?_⟩,h2,e⟩
 have:=i.f hh.len e.ext (φ:=φ) (t:=t) (by rw[d];exact m) (g.slot t)
 rw[d] at this;exact this
end
end
end Go.AM
namespace Go.AM.R1
section
open Go.Proofs
section
variable {X:Cx ah}
abbrev KpI:={ q:List Int // q.length<=5 }
def IB(m:Nat)(b:Nat->Int)(g:Bytes b)(k:Nat)(o:k<=500000)(l:m<=1048576) :
  cD (ι:=KpI) X 65 [.e (.one (.ptr 0 0))] [ny m b k] (λq=>cI.sl q.1) (λ_=>[ny m b (k+5:Nat)]):=by
 refine cD.ox Tryz.func65 rfl rfl rfl λp=>?_
 refine aX [(1000002,ab)] 100 rfl av ?_;refine AK.ix 3 3 1 rfl rfl ?_;refine bm rfl av ?_;refine AK.bJ 2 (λs:Nat×List Int=>1<=s.1/\s.1<=6/\s.2.length+1<=s.1) (λs=>[(0,.e (.one (.ptr 0 0))),(3,.e (.one (.vec 1 1 s.2.length (cI.fn s.2)))),(4,dI s.1)]) (λs=>[ny m b (k+(s.1-1):Nat),.vec 3 1 s.2.length (cI.fn s.2)]) (λs=>6-s.1) (1,[]) rfl ?_ rfl ?_ rfl ⟨by decide,by decide,by decide⟩ ?_
 .simp[ag.cat,ag,aR.nil]
 .simp[ag.cat,ag,aR.same,aR.nil]
 rintro⟨n,a⟩ ⟨f,i,j⟩;simp only at f i j
 by_cases h:n<=5
 .refine aX [(7,ab)] 100 rfl (by simp only[ag,bd];omega) ?_
  refine AK.cP (et m b g (k+(n-1)) 2 (by omega) l (by omega)) [0] rfl (λ_=>rfl) ?_
  rintro⟨v,v0,v1⟩
  by_cases c:v=0
  .have d:=cI.cm a (n:Int);refine aX [(12,ab)] 100 rfl ?_ (AK.aQ (n+1,a++[(n:Int)]) rfl ?_ ?_ ⟨by simp only;omega,by simp only;omega,by grind⟩ (by simp only;omega))
   .simp only[ag,c,bx,show i3.bytes=8 from rfl,ef,aG,aF];and_intros <;> omega
   .simp only[ag.cat,ag,bG,eh,aG,aF]
    and_intros <;> first|exact aR.same|exact d|rfl|omega
   .simp only[ag.cat,ag,bG,eh,aG,aF]
    and_intros <;> first|exact aR.same|exact d|rfl|omega
  .refine aX [(12,ae)] 100 rfl ?_ (AK.aQ (n+1,a) rfl ?_ ?_ ⟨by simp only;omega,by simp only;omega,by simp only;omega⟩ (by simp only;omega))
   .simp only[ag,bx,dv,cT,aG,aF];and_intros <;> first|exact c|omega
   .simp only[ag.cat,ag,aG,aF]
    and_intros <;> first|exact aR.same|rfl|omega
   .simp only[ag.cat,ag,aG,aF]
    and_intros <;> first|exact aR.same|rfl|omega
 obtain rfl:n=6:=by omega
 refine aX [(7,ae)] 100 rfl (by simp[ag]) (AK.leaveD rfl rfl ?_)
 refine bm rfl av ?_;refine AK.k6 ⟨a,by omega⟩ (AK.dA [0] rfl ?_ rfl rfl rfl wQ)
 simp[ag.cat,ag,aR.same]
def A7:List Bs:=[[122,122],[98,46],[104,101,108,108,111,46,46,46]]
def IC:aR 3 (λi=>([[.str [122,122]],[.str [98,46]],[.str [104,101,108,108,111,46,46,46]]]:List (List C)).getD i []) (cS.fn A7):=by
 intro i hi;have:i=0∨i=1∨i=2:=by omega
 rcases this with rfl|rfl|rfl <;> rfl
set_option maxRecDepth 20000 in
def MD(m:Nat)(b:Nat->Int)(a:Bytes b)(k:Nat)(g:k<=500000)(c:m<=1048576) :
  cD (ι:=c6) X 64 [.e (.one (.ptr 0 0))] [ny m b k] (λl=>gb l) (λ_=>[ny m b (k+4:Nat)]):=by
 refine cD.gy tok Tryz.func64 rfl rfl rfl λh=>?_
 refine bm rfl av ?_;refine AK.cP (et m b a k 5 (by omega) c (by omega)) [0] rfl (λ_=>rfl) ?_
 rintro⟨v1,_⟩;refine bm rfl av ?_;refine AK.cP (et m b a (k+1) 5 (by omega) c (by omega)) [0] rfl (λ_=>rfl) ?_
 rintro⟨f,_⟩;refine bm rfl av ?_;refine AK.cP (et m b a (k+1+1) 3 (by omega) c (by omega)) [0] rfl (λ_=>rfl) ?_
 rintro⟨d,_⟩;refine bm rfl av ?_;refine AK.mq (R3 m b a (k+1+1+1) (by omega) c A7 (by decide)).A9 [0] rfl rfl rfl rfl ?_ rfl rfl rfl (λ_=>rfl) rfl (λ_=>rfl) rfl ?_
 .simp only[ag.cat,ag,aG,aF];exact⟨rfl,IC⟩
 rintro -;generalize A7.getD (se m b (k+1+1+1) A7.length).toNat []=w;refine bm rfl av ?_;refine AK.dk (v1,f,d,w) [0] rfl rfl rfl rfl rfl rfl rfl rfl ?_ rfl rfl rfl rfl g7;simp[ag.cat,ag]
end
end
end Go.AM.R1
namespace Go.AM
section
open Go.Conc (G)
def aJ.Bq{σ1:List aW}{s:St}{E:ar}{k n:Nat}{bf:qQ}{xs:List ak}{es:Nat->List C}(hh:aJ (σ1++[.dz (ia E k bf n xs)]) s)(a:dT k n es xs)(h:rJ σ1.length σ1=ab) :
  ∃ s2:St,aJ σ1 s2/\eK s s2/\Rd s2.M (lu bf n) (.sl ae k n es)/\∀ {σ0:List aW} {s0:St},cw σ0 s0 (σ1++[.dz (ia E k bf n xs)]) s->σ0.length<=σ1.length->cw σ0 s0 σ1 s2:=by
 have z:(σ1++[aW.dz (ia E k bf n xs)])[σ1.length]?=aa (.dz (ia E k bf n xs)):=by simp
 obtain⟨L,M',p,q,u,m,D,B⟩:=ia.Fq z es (λi hi=>⟨a.wid i hi,λM j c x hj hx=>by
  obtain⟨y,t,A⟩:=a.at' i hi j c hj;rw[hx] at t;cases t;exact A M⟩) s hh
 obtain⟨r,l⟩:=hh.im (M':=M') (w':=s.w) (B':=.dead) (L':=⟨L.v,[]⟩) z p rfl (bc _) (λ_ _ _=>rfl) (λb _ hb o=>u b hb o) q m (by simp) rfl rfl rfl av
 have d:(σ1++[aW.dz (ia E k bf n xs)]).set σ1.length .dead=σ1++[.dead]:=by simp
 rw[d] at r l;refine⟨_,r.drop (rest:=[.dead]) h,⟨rfl,q,λb hb o=>u b (hb L (bM p)) o,m,λb hb=>?_⟩,B,λ{σ0 s0} g f=>(g.trans (l.oo hh)).drop (rest:=[.dead]) f⟩
 rcases hb with hb|⟨L',e,hb⟩
 .exact .inl hb
 .have h1:=iI e
  grind
def cD.Bq{P:aq}{ι:Type}{X:Cx P}{f:aV}{args:List D}{σ:List aW}{σ1:ι->List aW}{E k:Nat}{n:ι->Nat}{bf:ι->qQ}{xs:ι->List ak}{es:ι->Nat->List C}(h:cD X f args σ (λi=>.e (.one (.v (lu (bf i) (n i))))) (λi=>σ1 i++[.dz (ia E k (bf i) (n i) (xs i))]))
  (d:∀ i,dT k (n i) (es i) (xs i)) (b:∀ i,rJ (σ1 i).length (σ1 i)=ab) (a:∀ i,σ.length<=(σ1 i).length):cD X f args σ (λi=>.e (.one (.c (.sl ae k (n i) (es i))))) σ1:=by
 refine⟨h.1,λs vs hr hh S cs hS=>h.2 s vs hr hh S cs λi fr v s' hl mR ld st=>?_⟩
 obtain⟨s2,c1,c2,c3,c4⟩:=ld.Bq (d i) (b i);have g:v=lu (bf i) (n i):=Rd.fX mR;exact .ghost c2 (hS i fr v s2 (hl.mono c2.mem) (by rw[g];exact c3) c1 (c4 st (a i)))
end
end Go.AM
namespace Go.AM.R1
section
open Go.Proofs
variable {X:Cx ah} [X.jH]
abbrev iP:=Int×Int×List bE×c6×List Int
abbrev evA(e:iP):List A:=[.c (.int .i64 e.1),.c (.int .i64 e.2.1),qN cF e.2.2.1,.c (.int .i64 e.2.2.2.1.1),.c (.int .i64 e.2.2.2.1.2.1),.c (.int .i64 e.2.2.2.1.2.2.1),.c (.str e.2.2.2.1.2.2.2),qN cI e.2.2.2.2]
abbrev Wy(e:iP):D:=.e (.agg (evA e))
abbrev Zx:List A:=[.c (.int .i64 0),.c (.int .i64 0),dm,.c (.int .i64 0),.c (.int .i64 0),.c (.int .i64 0),.c (.str []),dm]
abbrev Zy:aW:=.cells 71 Zx
abbrev x4:c6:=(0,0,0,[])
structure EvP (k:Nat)(q:iP×Nat):Prop where
 t:q.1.2.2.1.length<=7
 kp:q.1.2.2.2.2.length<=5
 lo:k<=q.2
 hi:q.2<=k+500
def ME(m:Nat)(b:Nat->Int)(h:Bytes b)(k:Nat)(a:k<=50000)(l:m<=1048576) :
  cD (ι:=CX k 400) X 63 [.e (.one (.ptr 0 0))] [ny m b k] (λq=>cF.sl q.t) (λq=>[ny m b q.k1]) :=
 cD.Bq (σ1:=λq:CX k 400=>[ny m b q.k1]) (k:=2) (n:=λq:CX k 400=>q.t.length) (es:=λq:CX k 400=>cF.fn q.t) (ON m b h k a l) (λq=>q.fl) (λ_=>rfl) (λ_=>bc _)
set_option maxRecDepth 20000 in
def Fa(m:Nat)(b:Nat->Int)(n:Bytes b)(k:Nat)(a:k<=40000)(o:m<=1048576) :
  cD (ι:={ q:iP×Nat // EvP k q }) X 28 [.e (.one (.ptr 0 0))] [ny m b k] (λq=>Wy q.1.1) (λq=>[ny m b q.1.2]):=by
 refine cD.gy tok Tryz.func28 rfl rfl rfl λf=>?_
 refine bm rfl av ?_;refine AK.cP (et m b n k 9 (by omega) o (by omega)) [0] rfl (λ_=>rfl) ?_
 rintro⟨v,v0,v1⟩
 by_cases h:v<=3
 .apply AK.join [(0,.e (.one (.ptr 0 0))),(2,.e (.one (.ptr 1 0)))] [ny m b (k+1:Nat),Zy]
  .intro out;have:v=0∨v=1∨v=2∨v=3:=by omega
   rcases this with rfl|rfl|rfl|rfl
   .refine aX [(6,ab),(1000006,ab)] 100 rfl (by simp[ag]) ?_
    exact out _ _ rfl (by simp[ag.cat,ag])
   .refine aX [(6,ae),(7,ab),(1000006,ab)] 100 rfl (by simp[ag]) ?_
    exact out _ _ rfl (by simp[ag.cat,ag])
   .refine aX [(6,ae),(7,ae),(8,ab),(1000006,ab)] 100 rfl (by simp[ag]) ?_
    exact out _ _ rfl (by simp[ag.cat,ag])
   .refine aX [(6,ae),(7,ae),(8,ae),(9,ab),(1000006,ab)] 100 rfl (by simp[ag]) ?_
    exact out _ _ rfl (by simp[ag.cat,ag])
  refine bm rfl av ?_;refine AK.cP (et m b n (k+1) 2 (by omega) o (by omega)) [0] rfl (λ_=>rfl) ?_
  rintro⟨u,s,r⟩;refine bm rfl (by simp only[ag,bx];omega) ?_
  refine AK.cP (ME m b n (k+1+1) (by omega) o) [0] rfl (λ_=>rfl) ?_
  rintro⟨t,bf,xs,k1,F,B,D,G⟩;simp only;refine bm rfl av ?_;refine AK.dk ⟨((1,1+u,t,x4,[]),k1),B,by simp,by simp only;omega,by simp only;omega⟩ [0] rfl rfl rfl rfl rfl rfl rfl rfl ?_ rfl rfl rfl rfl g7
  simp[ag.cat,ag,aR.same,aR.nil]
 by_cases x:v=4
 .subst x;refine aX [(6,ae),(7,ae),(8,ae),(9,ae),(17,ab)] 100 rfl (by simp[ag]) ?_
  refine AK.cP (et m b n (k+1) 4 (by omega) o (by omega)) [0] rfl (λ_=>rfl) ?_
  rintro⟨u,s,r⟩;refine bm rfl av ?_;refine AK.dk ⟨((2,u,[],x4,[]),k+1+1),by simp,by simp,by simp only;omega,by simp only;omega⟩ [0] rfl rfl rfl rfl rfl rfl rfl rfl ?_ rfl rfl rfl rfl g7
  simp[ag.cat,ag,aR.nil]
 by_cases C:v=5
 .subst C;refine aX [(6,ae),(7,ae),(8,ae),(9,ae),(17,ae),(22,ab)] 100 rfl (by simp[ag]) ?_
  refine AK.cP (et m b n (k+1) 2 (by omega) o (by omega)) [0] rfl (λ_=>rfl) ?_
  rintro⟨u,s,r⟩
  by_cases w:u=0
  .refine aX [(25,ab)] 100 rfl (by simp[ag,w]) ?_
   refine AK.dk ⟨((3,0,[],x4,[]),k+1+1),by simp,by simp,by simp only;omega,by simp only;omega⟩ [0] rfl rfl rfl rfl rfl rfl rfl rfl ?_ rfl rfl rfl rfl g7
   simp[ag.cat,ag,aR.nil]
  .refine aX [(25,ae)] 100 rfl (by simp[ag,w]) ?_
   refine AK.cP (MD m b n (k+1+1) (by omega) o) [0] rfl (λ_=>rfl) ?_
   intro l;refine bm rfl av ?_;refine AK.dk ⟨((3,0,[],l,[]),k+1+1+4),by simp,by simp,by simp only;omega,by simp only;omega⟩ [0] rfl rfl rfl rfl rfl rfl rfl rfl ?_ rfl rfl rfl rfl g7
   simp[ag.cat,ag,aR.nil]
 by_cases y:v=6
 .subst y;refine aX [(6,ae),(7,ae),(8,ae),(9,ae),(17,ae),(22,ae),(31,ab)] 100 rfl (by simp[ag]) ?_
  refine AK.cP (IB m b n (k+1) (by omega) o) [0] rfl (λ_=>rfl) ?_
  rintro⟨z,p⟩;refine bm rfl av ?_;refine AK.dk ⟨((4,0,[],x4,z),k+1+5),by simp,p,by simp only;omega,by simp only;omega⟩ [0] rfl rfl rfl rfl rfl rfl rfl rfl ?_ rfl rfl rfl rfl g7
  simp[ag.cat,ag,aR.same,aR.nil]
 by_cases A:v=7
 .subst A;refine aX [(6,ae),(7,ae),(8,ae),(9,ae),(17,ae),(22,ae),(31,ae),(36,ab)] 100 rfl (by simp[ag]) ?_
  refine AK.dk ⟨((5,0,[],x4,[]),k+1),by simp,by simp,by simp only;omega,by simp only;omega⟩ [0] rfl rfl rfl rfl rfl rfl rfl rfl ?_ rfl rfl rfl rfl g7
  simp[ag.cat,ag,aR.nil]
 obtain rfl:v=8:=by omega
 refine aX [(6,ae),(7,ae),(8,ae),(9,ae),(17,ae),(22,ae),(31,ae),(36,ae)] 100 rfl (by simp[ag]) ?_
 refine AK.cP (et m b n (k+1) 8 (by omega) o (by omega)) [0] rfl (λ_=>rfl) ?_
 rintro⟨u,s,r⟩;refine bm rfl av ?_;refine AK.cP (et m b n (k+1+1) 4 (by omega) o (by omega)) [0] rfl (λ_=>rfl) ?_
 rintro⟨u',E,u3⟩;refine bm rfl av ?_;refine AK.dk ⟨((u,u',[],x4,[]),k+1+1+1),by simp,by simp,by simp only;omega,by simp only;omega⟩ [0] rfl rfl rfl rfl rfl rfl rfl rfl ?_ rfl rfl rfl rfl g7
 simp[ag.cat,ag,aR.nil]
abbrev Dm(k:Int)(w:cO)(l:c6)(b:Nat):List A:=.c (.int .i64 k)::(Vy w++[.c (.int .i64 l.1),.c (.int .i64 l.2.1),.c (.int .i64 l.2.2.1),.c (.str l.2.2.2),.bp b (.sl 2 2 0 2),.bp (b+1) (.sl 2 1 0 2)])
abbrev SN(b:List (Int×Int))(e:List Int):List aW:=[.buf 48 2 2 (cH.fn b),.buf 3 1 2 (cI.fn e)]
abbrev Zu:List (Int×Int):=[(0,0),(0,0)]
abbrev Zv:List Int:=[0,0]
omit [X.jH] in
def A2(k:Int)(a:cA k=ab):Ev X 26 [dI k] [] (.eN [.agg (Dm k MT x4 0),.one (.c (.bool ab))]) (SN Zu Zv):=by
 refine Ev.BT tok Tryz.func26 rfl rfl rfl λf=>?_
 have d:bD X [(57,yP)]:=.cons Cv .nil;refine aE d [(7,ae),(1000003,ab)] 100 rfl (by simp[ag,a]) ?_
 refine AK.region ?_;refine aE d [] 3 rfl av ?_;refine AK.I7 tok rfl rfl rfl rfl rfl rfl ?_;refine AK.I7 tok rfl rfl rfl rfl rfl rfl ?_;refine aE d [] 100 rfl av ?_;refine AK.norm [.cells 35 (Dm k MT x4 1),.buf 48 2 2 (cH.fn Zu),.buf 3 1 2 (cI.fn Zv),.cells 35 (Dm k MT x4 1)] rfl ?_ ?_
 .simp only[ag.cat,ag,aG,aF]
  and_intros <;> first|rfl|exact aR.nil|(intro i hi;match i,hi with|0,_=>rfl|1,_=>rfl)
 refine AK.lV () [1,2] rfl rfl rfl rfl rfl rfl rfl rfl rfl ?_ rfl rfl rfl rfl (λj g=>absurd g (by simp))
 simp[ag.cat,ag,aR.same]
end
section
open Go.Proofs
variable {X:Cx ah}
def lk:∀ j,j<2->([0,1]:List Nat)[j]?=aa j:=λj a=>by
 match j,a with
 |0,_=>rfl
 |1,_=>rfl
def lookW(by_:Int)(s:a9)(l:c6)(q:List (Int×Int)×List Int):List (Int×Int)×List Int :=
 if q.2.getD (by_-1).toNat 0=0 then (q.1.set (by_-1).toNat (xp (q.1.getD (by_-1).toNat (0,0)) (sF s l).2.2).1,q.2.set (by_-1).toNat (xp (q.1.getD (by_-1).toNat (0,0)) (sF s l).2.2).2) else q
def qb{by_:Int}{s:a9}{l:c6}{q:List (Int×Int)×List Int}(b:q.1.length=2)(a:q.2.length=2):(lookW by_ s l q).1.length=2/\(lookW by_ s l q).2.length=2:=by
 unfold lookW;split <;> simp[b,a]
abbrev zMm:aW:=.cells 48 [.c (.int .i64 0),.c (.int .i64 0)]
abbrev mmB(m:Int×Int):aW:=.cells 48 [.c (.int .i64 m.1),.c (.int .i64 m.2)]
abbrev Zz:List A:=[.c (.int .i64 0),dm,dm,dm,dm,dm,.c (.int .i64 0),.c (.int .i64 0),.c (.int .i64 0),.c (.str []),dm,dm]
abbrev oL:aW:=.cells 35 Zz
def dLk(k:Int)(w:cO)(l:c6)(a:List (Int×Int))(b:List Int)(e:Int×Int)(_ c d:Bool):List aW :=
 match c,d with
 |false,_=>SN a b++[.cells 35 (Dm k w l 0),oL]
 |true,ae=>SN a b++[.cells 35 (Dm k w l 0),oL,zMm]
 |true,ab=>SN a b++[.cells 35 (Dm k w l 0),oL,mmB e]
abbrev xLk(w:cO)(l:c6) (by_:Int)(m:Int×Int)(s':a9)(q:(Int×Int)×Int)(i:Nat):D :=
 [.e (.one (.ptr 2 10)),.e (.one (.bp 0 (.sl 2 2 0 2))),dI by_,dI (by_-1),.e (.one (.bp 0 (.el 2 2 (0+(by_-1).toNat) 0))),Wz m,.e (.one (.ptr 2 1)),.e (.one (.ptr 2 1)),ey w.1,.e (.one (.ptr 2 6)),gb l,ey s',cH.sl s'.2.2,WA q,WA q,Wz q.1,dI q.2,.e (.one (.ptr 4 0)),.any,dI q.2].getD i .any
set_option maxRecDepth 20000 in
def tE(k:Int)(w:cO)(l:c6) (by_:Int)(g:List (Int×Int))(i:List Int)(s:wX w.1)(F:1<=by_/\by_<=2)(E:g.length=2)(y:i.length=2) :
  Ev X 60 [.e (.agg (Dm k w l 0)),dI by_] (SN g i) (.e (.agg (Dm k w l 0))) (SN (lookW by_ w.1 l (g,i)).1 (lookW by_ w.1 l (g,i)).2):=by
 refine Ev.iV tok Tryz.func60 rfl rfl rfl λG=>?_
 have B:=(C9 (X:=X) s l).z.h;have A:=(C9 (X:=X) s l).b;unfold lookW;generalize sF w.1 l=s' at *;have t:(by_-1).toNat<2:=by omega
 have r:(0:Nat)+(by_-1).toNat<2:=by omega
 have v:g.getD (by_-1).toNat (0,0)=g.getD (0+(by_-1).toNat) cH.bC:=by rw[br];rfl
 have x:(g.getD (0+(by_-1).toNat) cH.bC)=(g.getD (0+(by_-1).toNat) cH.bC):=rfl;rw[v];have C:=O8 (X:=X) (g.getD (0+(by_-1).toNat) cH.bC) s'.2.2 B;generalize xp (g.getD (0+(by_-1).toNat) cH.bC) s'.2.2=q at *;have f:bD X [(23,mb [ey w.1,gb l] (ey s')),(88,mb [Wz (g.getD (0+(by_-1).toNat) cH.bC),cH.sl s'.2.2] (WA q))]:=.cons (nw A) (.cons (nw C) .nil);have o:bx .i64 (by_-1):=by simp only[bx];omega
 have u:0<=by_-1/\by_-1<((2:Nat):Int):=by omega
 have p:2=2/\0+(by_-1).toNat<2:=⟨rfl,r⟩;refine aE f [(1000001,ab)] 200 rfl av ?_;refine AK.flags en (xLk w l by_ (g.getD (0+(by_-1).toNat) cH.bC) s' q) (Ck (dLk k w l g i q.1) 19 17 18) rfl rfl rfl rfl
  ⟨er.q3 rfl rfl rfl (λa c d=>by cases a <;> cases c <;> cases d <;> exact OA.cd tok f rfl),
  er.q3 rfl rfl rfl (λa c d=>by cases a <;> cases c <;> cases d <;> exact OA.cd tok f rfl),
  er.q3 rfl rfl rfl (λa c d=>by cases a <;> cases c <;> cases d <;> exact OA.cd tok f rfl),
  er.q3 rfl rfl rfl (λa c d=>by cases a <;> cases c <;> cases d <;> exact OA.eval (ds:=[]) tok f rfl o),
  er.q3 rfl rfl rfl (λa c d=>by cases a <;> cases c <;> cases d <;> exact OA.eval (ds:=[]) tok f rfl u),
  er.q3 rfl rfl rfl (λa c d=>by cases a <;> cases c <;> cases d <;> exact OA.eval (ds:=[]) tok f rfl p),
  er.q3 rfl rfl rfl (λa c d=>by cases a <;> cases c <;> cases d <;> exact OA.cd tok f rfl),
  er.q3 rfl rfl rfl (λa c d=>by cases a <;> cases c <;> cases d <;> exact OA.cd tok f rfl),
  er.q3 rfl rfl rfl (λa c d=>by cases a <;> cases c <;> cases d <;> exact OA.cd tok f rfl),
  er.q3 rfl rfl rfl (λa c d=>by cases a <;> cases c <;> cases d <;> exact OA.cd tok f rfl),
  er.q3 rfl rfl rfl (λa c d=>by cases a <;> cases c <;> cases d <;> exact OA.cd tok f rfl),
  er.q3 rfl rfl rfl (λa c d=>by cases a <;> cases c <;> cases d <;> exact OA.eval (ds:=[]) tok f rfl rfl),
  er.q3 rfl rfl rfl (λa c d=>by cases a <;> cases c <;> cases d <;> exact OA.cd tok f rfl),
  er.q3 rfl rfl rfl (λa c d=>by cases a <;> cases c <;> cases d <;> exact OA.eval (ds:=[]) tok f rfl rfl),
  er.q3 rfl rfl rfl (λa c d=>by cases a <;> cases c <;> cases d <;> exact OA.cd tok f rfl),
  er.q3 rfl rfl rfl (λa c d=>by cases a <;> cases c <;> cases d <;> exact OA.cd tok f rfl),
  er.q3 rfl rfl rfl (λa c d=>by cases a <;> cases c <;> cases d <;> exact OA.cd tok f rfl),
  er.e2 rfl rfl rfl rfl rfl (λa=>by cases a <;> exact fW (ds:=[]) tok f (σ':=aa _) rfl av),
  er.e3 rfl rfl rfl rfl rfl (λa=>by cases a <;> exact fW (ds:=[]) tok f (σ':=aa _) rfl av),
  er.e1 rfl rfl rfl rfl (λc d=>by cases c <;> cases d <;> exact OA.cd tok f rfl),av⟩ ?_
 intro D j;show AK X _ _ _ _ _ (dLk k w l g i q.1 (D 19) (D 17) (D 18));rw[j 19 (by decide),j 17 (by decide),j 18 (by decide)]
 have m:i.getD (0+(by_-1).toNat) cI.bC=i.getD (by_-1).toNat 0:=by rw[br];rfl
 by_cases n:i.getD (by_-1).toNat 0=0
 .rw[bg n];refine aE f [(30,ab)] 200 rfl ?_ ?_
  .simp only[ag,m,n,bx,ef,aG,aF];omega
  have e1:=cH.qJ g (0+(by_-1).toNat) q.1 2 (by omega)
  have e2:=cI.qJ i (0+(by_-1).toNat) q.2 2 (by omega)
  rw[br] at e1 e2;refine AK.norm [.buf 48 2 2 (cH.fn (g.set (by_-1).toNat q.1)),.buf 3 1 2 (cI.fn (i.set (by_-1).toNat q.2)),.cells 35 (Dm k w l 0),.cells 35 (Dm k w l 0),mmB q.1] rfl ?_ ?_
  .simp only[ag.cat,ag,br,aG,aF]
   and_intros <;> first|exact aR.same|exact e1|exact e2|rfl
  refine AK.dk () [0,1] rfl rfl rfl rfl rfl rfl rfl rfl ?_ rfl rfl rfl rfl lk;simp[ag.cat,ag,aR.same]
 .rw[aY n];refine aE f [(30,ae)] 200 rfl ?_ ?_
  .simp only[ag,m,bx,dv,cT,aG,aF];and_intros <;> first|exact n|omega
  refine AK.dk () [0,1] rfl rfl rfl rfl rfl rfl rfl rfl ?_ rfl rfl rfl rfl lk;simp[ag.cat,ag,aR.same]
abbrev x3:=cO×c6×List (Int×Int)×List Int
def xq(k:Int)(s:x3) (by_:Int)(t:List bE):x3×Bool :=
 if (lookW by_ s.1.1 s.2.1 s.2.2).2.getD (by_-1).toNat 0=0/\s.2.1.1=0 then
  (if (sG k s.1 by_ t).2=ab then (((sG k s.1 by_ t).1,s.2.1,lookW by_ (sG k s.1 by_ t).1.1 s.2.1 (lookW by_ s.1.1 s.2.1 s.2.2)),ab) else ((s.1,s.2.1,lookW by_ s.1.1 s.2.1 s.2.2),ae))
 else ((s.1,s.2.1,lookW by_ s.1.1 s.2.1 s.2.2),ae)
def vl(k:Int)(s:x3)(e:iP):x3×Bool :=
 if e.1=1 then (if (1<=e.2.1/\e.2.1<=2)/\dj e.2.2.1=ab then xq k s e.2.1 e.2.2.1 else (s,ae))
 else if e.1=2 then (if 1<=e.2.1/\e.2.1<=2 then ((s.1,s.2.1,lookW e.2.1 s.1.1 s.2.1 s.2.2),ab) else (s,ae))
 else if e.1=3 then ((s.1,e.2.2.2.1,s.2.2),ab)
 else if e.1=4 then (if s.1.2.2.length=0 then (((Da k s.1.1 e.2.2.2.2).1,s.2),ab) else (s,ae))
 else if e.1=5 then ((AS s.1,s.2),VT s.1)
 else (s,ae)
structure WI (n:Nat)(s:x3):Prop where
 w:TW (6000+240*n) s.1
 k:s.2.2.1.length=2
 f:s.2.2.2.length=2
def Gv{k:Int}{n:Nat}{w:cO}{by_:Int}{t:List bE}(h:TW n w)(c:(sG k w by_ t).2=ab):TW (n+240) (sG k w by_ t).1/\(sG k w by_ t).1=Dc k w by_ t/\fx k w=ab/\(1<=by_/\by_<=2)/\dj t=ab/\jW k w.1 t=ae:=by
 unfold sG at c ⊢;split at c
 .rename_i a
  rw[bg a];simp only[SM,bO,bd] at a;split at c
  .cases c
  .rename_i b
   have b:jW k w.1 t=ae:=by simpa using b
   rw[aY (by rw[b];simp)]
   exact⟨h.save a.2 a.1.2 b,rfl,a.1.1,a.1.2,a.2,b⟩
 .cases c
def WI.save{k:Int}{n:Nat}{s:x3}{by_:Int}{t:List bE}(h:WI n s):WI (n+1) (xq k s by_ t).1:=by
 have a:=qb (by_:=by_) (s:=s.1.1) (l:=s.2.1) (q:=s.2.2) h.k h.f;unfold xq;split
 .split
  .rename_i c
   have b:=qb (by_:=by_) (s:=(sG k s.1 by_ t).1.1) (l:=s.2.1) (q:=lookW by_ s.1.1 s.2.1 s.2.2) a.1 a.2;exact⟨(Gv h.w c).1.mono (by omega),b.1,b.2⟩
  .exact⟨h.w.mono (by omega),a.1,a.2⟩
 .exact⟨h.w.mono (by omega),a.1,a.2⟩
def WI.mono{n m:Nat}{s:x3}(h:WI n s)(a:n<=m):WI m s:=⟨h.w.mono (by omega),h.k,h.f⟩
def WI.do{k:Int}{n:Nat}{s:x3}{e:iP}(h:WI n s):WI (n+1) (vl k s e).1:=by
 unfold vl;split
 .split
  .exact h.save
  .exact h.mono (by omega)
 split
 .split
  .have a:=qb (by_:=e.2.1) (s:=s.1.1) (l:=s.2.1) (q:=s.2.2) h.k h.f;exact⟨h.w.mono (by omega),a.1,a.2⟩
  .exact h.mono (by omega)
 split
 .exact⟨h.w.mono (by omega),h.k,h.f⟩
 split
 .split
  .exact⟨(TW.beg h.w.s).mono (by omega),h.k,h.f⟩
  .exact h.mono (by omega)
 split
 .exact⟨(TW.step h.w).mono (by omega),h.k,h.f⟩
 .exact h.mono (by omega)
abbrev Zo(k:Int)(s:x3):D:=.e (.agg (Dm k s.1 s.2.1 0))
abbrev Zp(k:Int)(s:x3)(b:Bool):D:=.eN [.agg (Dm k s.1 s.2.1 0),.one (.c (.bool b))]
abbrev Gt(s:x3):List aW:=SN s.2.2.1 s.2.2.2
def Is(k:Int)(s:x3) (by_:Int)(t:List bE)(n:Nat)(h:WI n s)(p:n<=1000)(j:1<=by_/\by_<=2) :
  Ev X 59 [Zo k s,dI by_,cF.sl t] (Gt s) (Zp k (xq k s by_ t).1 (xq k s by_ t).2) (Gt (xq k s by_ t).1):=by
 refine Ev.BT tok Tryz.func59 rfl rfl rfl λo=>?_
 have m:=tE (X:=X) k s.1 s.2.1 by_ s.2.2.1 s.2.2.2 h.w.s.uk j h.k h.f;have e:=x6 (X:=X) k s.1 by_ t (h.w.sz (by omega))
 have b:=qb (by_:=by_) (s:=s.1.1) (l:=s.2.1) (q:=s.2.2) h.k h.f;have g:=Gv (k:=k) (by_:=by_) (t:=t) h.w;unfold xq;rw[show ((s.2.2.1,s.2.2.2):List (Int×Int)×List Int)=s.2.2 from rfl] at m
 generalize lookW by_ s.1.1 s.2.1 s.2.2=q1 at *;have a:q1.2.getD (0+(by_-1).toNat) cI.bC=q1.2.getD (by_-1).toNat 0:=by rw[br];rfl
 refine dE rfl av ?_;refine AK.cQ m [0,1] rfl ?_
 by_cases d:q1.2.getD (by_-1).toNat 0=0
 rotate_left
 .rw[aY (λh=>d h.1)]
  refine aX [(19,ab),(25,ab)] 200 rfl ?_ ?_
  .simp only[ag,a,bx,lq,cT,aG,aF];and_intros <;> first|exact d|omega
  refine AK.lV () [0,1] rfl rfl rfl rfl rfl rfl rfl rfl rfl ?_ rfl rfl rfl rfl lk;simp[ag.cat,ag,aR.same]
 by_cases c2:s.2.1.1=0
 rotate_left
 .rw[aY (λh=>c2 h.2)]
  refine aX [(19,ae),(25,ab)] 200 rfl ?_ ?_
  .simp only[ag,a,d,bx,lq,kX,cT,aG,aF];and_intros <;> first|exact c2|omega
  refine AK.lV () [0,1] rfl rfl rfl rfl rfl rfl rfl rfl rfl ?_ rfl rfl rfl rfl lk;simp[ag.cat,ag,aR.same]
 rw[bg ⟨d,c2⟩];refine aX [(19,ae),(25,ae)] 200 rfl ?_ ?_
 .simp only[ag,a,d,c2,bx,kX,aG,aF];omega
 refine AK.cQ e [] rfl ?_;cases c3:(sG k s.1 by_ t).2 with
 |false =>
  rw[aY (by simp)]
  refine aX [(38,ab)] 200 rfl (by simp[ag,c3]) ?_
  refine AK.lV () [0,1] rfl rfl rfl rfl rfl rfl rfl rfl rfl ?_ rfl rfl rfl rfl lk;simp[ag.cat,ag,aR.same]
 |true =>
  rw[bg rfl];have i:=(g c3).1;generalize (sG k s.1 by_ t).1=w2 at *;have c:=tE (X:=X) k w2 s.2.1 by_ q1.1 q1.2 i.s.uk j b.1 b.2;rw[show ((q1.1,q1.2):List (Int×Int)×List Int)=q1 from rfl] at c
  refine aX [(38,ae)] 200 rfl (by simp[ag,c3]) ?_
  refine AK.cQ c [0,1] rfl ?_;refine dE rfl av ?_;refine AK.lV () [0,1] rfl rfl rfl rfl rfl rfl rfl rfl rfl ?_ rfl rfl rfl rfl lk;simp[ag.cat,ag,aR.same]
end
end Go.AM.R1
namespace Go.AM
section
variable {P:aq}{X:Cx P}{N:Nat}{all:List aw}{φ:Fr}{x:Nat->D}{l:Bool->Bool->Bool->Bool->List aW}{i k g f e:Nat}{o:aw}
abbrev yg(l:Bool->Bool->Bool->Bool->List aW)(k g f e:Nat):(Nat->Bool)->List aW:=λD=>l (D k) (D g) (D f) (D e)
def ib{i j:Nat}{D:Nat->Bool}(h:aA j i=ae):cM i D j=D j:=by simp only[cM,h]
def By{i:Nat}{D:Nat->Bool}:cM i D i=ab:=by simp only[cM,iL]
def er.q4(h1:aA k i=ae)(h2:aA g i=ae)(m:aA f i=ae)(j:aA e i=ae)(h:∀ a b c d,OA X N all o (m6 all φ x i) (l a b c d) (x i) (l a b c d)):er X N all φ x (yg l k g f e) i o:=by
 intro D _ _;show OA X N all o _ (l (D k) (D g) (D f) (D e)) _ (l (cM i D k) (cM i D g) (cM i D f) (cM i D e));rw[ib h1,ib h2,ib m,ib j];exact h _ _ _ _
def er.c1(h2:aA g k=ae)(j:aA f k=ae)(b:aA e k=ae)(d:ic all g k=ab)(c:ic all f k=ab)(m:ic all e k=ab)
  (h:OA X N all o (m6 all φ x k) (l ae ae ae ae) (x k) (l ab ae ae ae)):er X N all φ x (yg l k g f e) k o:=by
 intro D n a;show OA X N all o _ (l (D k) (D g) (D f) (D e)) _ (l (cM k D k) (cM k D g) (cM k D f) (cM k D e));rw[By,ib h2,ib j,ib b,a k (.inl rfl),a g (.inr d),a f (.inr c),a e (.inr m)];exact h
def er.c2(h1:aA k g=ae)(m:aA f g=ae)(b:aA e g=ae)(c:ic all g k=ab)(j:ic all f g=ab)(n:ic all e g=ab)
  (h:OA X N all o (m6 all φ x g) (l ab ae ae ae) (x g) (l ab ab ae ae)):er X N all φ x (yg l k g f e) g o:=by
 intro D d a;show OA X N all o _ (l (D k) (D g) (D f) (D e)) _ (l (cM g D k) (cM g D g) (cM g D f) (cM g D e));rw[By,ib h1,ib m,ib b,d k c,a g (.inl rfl),a f (.inr j),a e (.inr n)];exact h
def er.c3(h1:aA k f=ae)(h2:aA g f=ae)(c:aA e f=ae)(d:ic all f k=ab)(j:ic all f g=ab)(m:ic all e f=ab)
  (h:OA X N all o (m6 all φ x f) (l ab ab ae ae) (x f) (l ab ab ab ae)):er X N all φ x (yg l k g f e) f o:=by
 intro D b a;show OA X N all o _ (l (D k) (D g) (D f) (D e)) _ (l (cM f D k) (cM f D g) (cM f D f) (cM f D e));rw[By,ib h1,ib h2,ib c,b k d,b g j,a f (.inl rfl),a e (.inr m)];exact h
def er.c4(h1:aA k e=ae)(h2:aA g e=ae)(m:aA f e=ae)(c:ic all e k=ab)(j:ic all e g=ab)(d:ic all e f=ab)
  (h:OA X N all o (m6 all φ x e) (l ab ab ab ae) (x e) (l ab ab ab ab)):er X N all φ x (yg l k g f e) e o:=by
 intro D a b;show OA X N all o _ (l (D k) (D g) (D f) (D e)) _ (l (cM e D k) (cM e D g) (cM e D f) (cM e D e));rw[By,ib h1,ib h2,ib m,a k c,a g j,a f d,b e (.inl rfl)];exact h
end
end Go.AM
namespace Go.AM.R1
section
open Go.Proofs
variable {X:Cx ah}
def O4(k:Int)(s:x3)(e:iP)(n:Nat)(h:WI n s)(r:n<=1000) :
  Ev X 27 [Zo k s,Wy e] (Gt s) (Zp k (vl k s e).1 (vl k s e).2) (Gt (vl k s e).1):=by
 refine Ev.BT tok Tryz.func27 rfl rfl rfl λt=>?_
 have j:=h.w.sz (by omega)
 have a:bD X [(18,pn),(58,Te),(61,Gu)]:=.cons qf (.cons t58 (.cons O5 .nil));unfold vl
 by_cases g:e.1=1
 .rw[bg g]
  by_cases c:1<=e.2.1/\e.2.1<=2
  rotate_left
  .rw[aY (λh=>c h.1)]
   refine aE a [(13,ab),(16,ae),(21,ae)] 200 rfl ?_ ?_
   .simp only[ag,g,ef,aG,aF];rw[dY c]
   refine AK.lV () [0,1] rfl rfl rfl rfl rfl rfl rfl rfl rfl ?_ rfl rfl rfl rfl lk;simp[ag.cat,ag,aR.same]
  cases b:dj e.2.2.1 with
  |false =>
   rw[aY (by simp)]
   refine aE a [(13,ab),(16,ab),(21,ae)] 200 rfl ?_ ?_
   .simp only[ag,g,c,b,cF.list_fn,cF.aH,j7,nN,ef,aG,aF]
   refine AK.lV () [0,1] rfl rfl rfl rfl rfl rfl rfl rfl rfl ?_ rfl rfl rfl rfl lk;simp[ag.cat,ag,aR.same]
  |true =>
   rw[bg ⟨c,rfl⟩];have p:=Is (X:=X) k s e.2.1 e.2.2.1 n h r c;refine aE a [(13,ab),(16,ab),(21,ab)] 200 rfl ?_ ?_
   .simp only[ag,g,c,b,cF.list_fn,cF.aH,j7,nN,ef,aG,aF]
   refine AK.cQ p [0,1] rfl ?_;refine aE a [] 200 rfl av ?_;refine AK.lV () [0,1] rfl rfl rfl rfl rfl rfl rfl rfl rfl ?_ rfl rfl rfl rfl lk;simp[ag.cat,ag,aR.same]
 rw[aY g]
 by_cases c:e.1=2
 .rw[bg c]
  by_cases b:1<=e.2.1/\e.2.1<=2
  rotate_left
  .rw[aY b];refine aE a [(13,ae),(31,ab),(34,ae)] 200 rfl ?_ ?_
   .simp only[ag,c,ef,aG,aF];rw[dY b];decide
   refine AK.lV () [0,1] rfl rfl rfl rfl rfl rfl rfl rfl rfl ?_ rfl rfl rfl rfl lk;simp[ag.cat,ag,aR.same]
  .rw[bg b];have q:=tE (X:=X) k s.1 s.2.1 e.2.1 s.2.2.1 s.2.2.2 h.w.s.uk b h.k h.f;refine aE a [(13,ae),(31,ab),(34,ab)] 200 rfl ?_ ?_
   .simp only[ag,c,b,j7,nN,ef,aG,aF];decide
   refine AK.cQ q [0,1] rfl ?_;refine aE a [] 200 rfl av ?_;refine AK.lV () [0,1] rfl rfl rfl rfl rfl rfl rfl rfl rfl ?_ rfl rfl rfl rfl lk;simp[ag.cat,ag,aR.same]
 rw[aY c]
 by_cases b:e.1=3
 .rw[bg b];refine aE a [(13,ae),(31,ae),(40,ab)] 200 rfl ?_ ?_
  .simp only[ag,b,ef,aG,aF];decide
  refine AK.lV () [0,1] rfl rfl rfl rfl rfl rfl rfl rfl rfl ?_ rfl rfl rfl rfl lk;simp[ag.cat,ag,aR.same]
 rw[aY b]
 by_cases i:e.1=4
 .rw[bg i]
  by_cases d:s.1.2.2.length=0
  .rw[bg d];have o:(s.1.2.2.length:Int)=0:=by omega
   refine aE a [(13,ae),(31,ae),(40,ae),(46,ab),(51,ab)] 200 rfl ?_ ?_
   .simp only[ag,i,o,j.s,j.m,cP.list_fn,cP.aH,cr.list_fn,cr.aH,cH.list_fn,cH.aH,cI.list_fn,cI.aH,ef,aG,aF];decide
   refine AK.lV () [0,1] rfl rfl rfl rfl rfl rfl rfl rfl rfl ?_ rfl rfl rfl rfl lk;simp[ag.cat,ag,aR.same,cP.list_fn,cr.list_fn,cH.list_fn,cI.list_fn]
  .rw[aY d];refine aE a [(13,ae),(31,ae),(40,ae),(46,ab),(51,ae)] 200 rfl ?_ ?_
   .simp only[ag,i,ef,dv,cT,aG,aF];and_intros <;> first|decide|omega
   refine AK.lV () [0,1] rfl rfl rfl rfl rfl rfl rfl rfl rfl ?_ rfl rfl rfl rfl lk;simp[ag.cat,ag,aR.same]
 rw[aY i]
 by_cases d:e.1=5
 .rw[bg d];have p:=Iu (X:=X) s.1 j.s j.n j.l;refine aE a [(13,ae),(31,ae),(40,ae),(46,ae),(67,ab)] 200 rfl ?_ ?_
  .simp only[ag,d,ef,aG,aF];decide
  refine AK.cQ p [] rfl ?_;refine aE a [] 200 rfl av ?_;refine AK.lV () [0,1] rfl rfl rfl rfl rfl rfl rfl rfl rfl ?_ rfl rfl rfl rfl lk;simp[ag.cat,ag,aR.same]
 rw[aY d];refine aE a [(13,ae),(31,ae),(40,ae),(46,ae),(67,ae)] 200 rfl ?_ ?_
 .simp only[ag,dv,cT,aG,aF];exact⟨d,i,b,c,g⟩
 refine AK.lV () [0,1] rfl rfl rfl rfl rfl rfl rfl rfl rfl ?_ rfl rfl rfl rfl lk;simp[ag.cat,ag,aR.same]
abbrev My(l:c6):List A:=[.c (.int .i64 l.1),.c (.int .i64 l.2.1),.c (.int .i64 l.2.2.1),.c (.str l.2.2.2)]
abbrev dKf(a:List (Int×Int))(b:List Int):List aW:=[.buf 48 2 a.length (cH.fn a),.buf 3 1 b.length (cI.fn b)]
abbrev SK(w:ft)(v b:Nat):List A:=.c (.int .i64 w.1)::([qN cP w.2.1.1.1,qN cr w.2.1.1.2.1,qN cH w.2.1.1.2.2,qN cI w.2.1.2.1,.vec v 1 w.2.1.2.2.length (cI.fn w.2.1.2.2)]++My w.2.2.1++[.bp b (.sl w.2.2.2.1.length 2 0 w.2.2.2.1.length),.bp (b+1) (.sl w.2.2.2.2.length 1 0 w.2.2.2.2.length)])
abbrev Iv(w:ft):aW:=.cells 35 (Ww w)
abbrev um(w:cO):aW:=.vec 3 1 w.2.2.length (cI.fn w.2.2)
def cv4(w:ft)(a b c d:Bool):List aW :=
 match a,b,c,d with
 |true,ab,ab,ab=>[Iv w,.cells 35 (.c (.int .i64 w.1)::([qN cP w.2.1.1.1,qN cr w.2.1.1.2.1,qN cH w.2.1.1.2.2,qN cI w.2.1.2.1,.vec 2 1 w.2.1.2.2.length (cI.fn w.2.1.2.2)]++My w.2.2.1++[.bp 3 (.sl (0+w.2.2.2.1.length) 2 0 (0+w.2.2.2.1.length)),.bp 4 (.sl (0+w.2.2.2.2.length) 1 0 (0+w.2.2.2.2.length))])),um w.2.1,
   .buf 48 2 (0+w.2.2.2.1.length) (cJ 0 (λi=>([]:List (List C)).getD i []) (cH.fn w.2.2.2.1)),.buf 3 1 (0+w.2.2.2.2.length) (cJ 0 (λi=>([]:List (List C)).getD i []) (cI.fn w.2.2.2.2))]
 |true,ab,ab,ae=>[Iv w,oL,um w.2.1,.buf 48 2 (0+w.2.2.2.1.length) (cJ 0 (λi=>([]:List (List C)).getD i []) (cH.fn w.2.2.2.1)),.buf 3 1 (0+w.2.2.2.2.length) (cJ 0 (λi=>([]:List (List C)).getD i []) (cI.fn w.2.2.2.2))]
 |true,ab,ae,_=>[Iv w,oL,um w.2.1,.buf 48 2 (0+w.2.2.2.1.length) (cJ 0 (λi=>([]:List (List C)).getD i []) (cH.fn w.2.2.2.1))]
 |true,ae,_,_=>[Iv w,oL,um w.2.1]
 |false,_,_,_=>[Iv w,oL]
abbrev VQ(k:Nat):D:=.e (.one (.c (.sl ab k 0 λi=>([]:List (List C)).getD i [])))
abbrev Zq(w:cO)(v:Nat):List A:=[qN cP w.1.1,qN cr w.1.2.1,qN cH w.1.2.2,qN cI w.2.1,.vec v 1 w.2.2.length (cI.fn w.2.2)]
abbrev xCv(w:ft)(i:Nat):D :=
 [.e (.one (.ptr 0 0)),dI w.1,.e (.one (.ptr 0 1)),IT w.2.1,.e (.agg (Zq w.2.1 2)),.e (.one (.ptr 0 6)),gb w.2.2.1,VQ 2,.e (.one (.ptr 0 10)),cH.sl w.2.2.2.1,.e (.one (.bp 3 (.sl (0+w.2.2.2.1.length) 2 0 (0+w.2.2.2.1.length)))),VQ 1,.e (.one (.ptr 0 11)),cI.sl w.2.2.2.2,.e (.one (.bp 4 (.sl (0+w.2.2.2.2.length) 1 0 (0+w.2.2.2.2.length)))),
  .e (.agg (.c (.int .i64 w.1)::(Zq w.2.1 2++My w.2.2.1++[.bp 3 (.sl (0+w.2.2.2.1.length) 2 0 (0+w.2.2.2.1.length)),.bp 4 (.sl (0+w.2.2.2.2.length) 1 0 (0+w.2.2.2.2.length))]))),.any].getD i .any
set_option maxRecDepth 20000 in
def qP(w:ft)(h:Mz w.2.1)(p:w.2.2.2.1.length<=4000000)(m:w.2.2.2.2.length<=4000000):Ev X 29 [Dl w] [] (.e (.agg (SK w 0 1))) ([um w.2.1]++dKf w.2.2.2.1 w.2.2.2.2):=by
 refine Ev.iV tok Tryz.func29 rfl rfl rfl λq=>?_
 have f:bD X [(66,Ga [IT w.2.1] [] (.e (.agg (Zq w.2.1 0))) [um w.2.1])]:=.cons (Lc (xm w.2.1 h.s h.n h.l)) .nil;have k:(0+w.2.2.2.1.length)*i48.bytes<=140737488355328:=by rw[show i48.bytes=16 from rfl];omega
 have o:(0+w.2.2.2.2.length)*i3.bytes<=140737488355328:=by rw[show i3.bytes=8 from rfl];omega
 refine aE f [(1000001,ab)] 200 rfl av ?_;refine AK.flags en (xCv w) (yg (cv4 w) 4 10 14 16) rfl rfl rfl rfl
  ⟨er.q4 rfl rfl rfl rfl (λa b c d=>by cases a <;> cases b <;> cases c <;> cases d <;> exact OA.cd tok f rfl),
  er.q4 rfl rfl rfl rfl (λa b c d=>by cases a <;> cases b <;> cases c <;> cases d <;> exact OA.cd tok f rfl),
  er.q4 rfl rfl rfl rfl (λa b c d=>by cases a <;> cases b <;> cases c <;> cases d <;> exact OA.cd tok f rfl),
  er.q4 rfl rfl rfl rfl (λa b c d=>by cases a <;> cases b <;> cases c <;> cases d <;> exact OA.cd tok f rfl),
  er.c1 rfl rfl rfl rfl rfl rfl (fW (ds:=[]) tok f (σ':=aa _) rfl ⟨rfl,rfl⟩),
  er.q4 rfl rfl rfl rfl (λa b c d=>by cases a <;> cases b <;> cases c <;> cases d <;> exact OA.cd tok f rfl),
  er.q4 rfl rfl rfl rfl (λa b c d=>by cases a <;> cases b <;> cases c <;> cases d <;> exact OA.cd tok f rfl),
  er.q4 rfl rfl rfl rfl (λa b c d=>by cases a <;> cases b <;> cases c <;> cases d <;> exact OA.cd tok f rfl),
  er.q4 rfl rfl rfl rfl (λa b c d=>by cases a <;> cases b <;> cases c <;> cases d <;> exact OA.cd tok f rfl),
  er.q4 rfl rfl rfl rfl (λa b c d=>by cases a <;> cases b <;> cases c <;> cases d <;> exact OA.cd tok f rfl),
  er.c2 rfl rfl rfl rfl rfl rfl (fW (ds:=[(3000013,ab)]) tok f (σ':=aa _) rfl k),
  er.q4 rfl rfl rfl rfl (λa b c d=>by cases a <;> cases b <;> cases c <;> cases d <;> exact OA.cd tok f rfl),
  er.q4 rfl rfl rfl rfl (λa b c d=>by cases a <;> cases b <;> cases c <;> cases d <;> exact OA.cd tok f rfl),
  er.q4 rfl rfl rfl rfl (λa b c d=>by cases a <;> cases b <;> cases c <;> cases d <;> exact OA.cd tok f rfl),
  er.c3 rfl rfl rfl rfl rfl rfl (fW (ds:=[(3000017,ab)]) tok f (σ':=aa _) rfl o),
  er.q4 rfl rfl rfl rfl (λa b c d=>by cases a <;> cases b <;> cases c <;> cases d <;> exact OA.cd tok f rfl),
  er.c4 rfl rfl rfl rfl rfl rfl (fW (ds:=[]) tok f (σ':=aa _) rfl av),av⟩ ?_
 intro D g;show AK X _ _ _ _ _ (cv4 w (D 4) (D 10) (D 14) (D 16));rw[g 4 (by decide),g 10 (by decide),g 14 (by decide),g 16 (by decide)]
 refine aE f [] 1 rfl av ?_;refine AK.norm [Iv w,.cells 35 (SK w 2 3),um w.2.1,.buf 48 2 w.2.2.2.1.length (cH.fn w.2.2.2.1),.buf 3 1 w.2.2.2.2.length (cI.fn w.2.2.2.2)] rfl ?_ ?_
 .simp[ag,ag.cat,aR.same,gn]
 refine AK.dk () [2,3,4] rfl rfl rfl rfl rfl rfl rfl rfl ?_ rfl rfl rfl rfl (λj i=>absurd i (by simp))
 simp[ag,ag.cat,aR.same]
end
end Go.AM.R1
namespace Go.AM
section
open Go.Conc (G)
section
variable {P:aq}{X:Cx P}{N:Nat}{ops:Array aw}{φ:Fr}{σ:List aW}{c:Type}{x:c->Nat->D}{S:c->(Nat->Bool)->List aW}{Inv:c->(Nat->Bool)->Prop}
def iC{P:aq}(X:Cx P)(N:Nat)(all:List aw)(φ:Fr){c:Type}(x:c->Nat->D)(S:c->(Nat->Bool)->List aW)(Inv:c->(Nat->Bool)->Prop)(i:Nat)(o:aw):Prop :=
 ∀ b (D:Nat->Bool),Inv b D->(∀ j,ic all i j=ab->D j=ab)->(∀ j,(j=i∨ic all j i=ab)->D j=ae)->rU X N all o (m6 all φ (x b) i) (S b D) (λq:{ a:c // (∀ j,D j=ab->x a j=x b j)/\Inv a (cM i D) }=>x q.1 i) (λq=>S q.1 (cM i D))
def JD{P:aq}(X:Cx P)(N:Nat)(all:List aw)(φ:Fr){c:Type}(x:c->Nat->D)(S:c->(Nat->Bool)->List aW)(Inv:c->(Nat->Bool)->Prop):List aw->Nat->Prop
 |[],_=>True
 |o::r,i=>iC X N all φ x S Inv i o/\JD X N all φ x S Inv r (i+1)
def JD.get{all:List aw}:∀ {l:List aw}{k:Nat},JD X N all φ x S Inv l k->∀ i o,l[i]?=aa o->iC X N all φ x S Inv (k+i) o
 |[],_,_,i,o,h=>by simp at h
 |p::r,k,h,0,o,a=>by simp at a;subst a;exact h.1
 |p::r,k,h,i+1,o,a=>by
  have:=JD.get h.2 i o (by simpa using a)
  grind
def AK.QC{ops:Array aw}{id:Nat}{K:List It}{Qf:Post}(q:P.follows Departure.mixedOrders=ab)(x:c->Nat->D)(S:c->(Nat->Bool)->List aW)(Inv:c->(Nat->Bool)->Prop)(e:c)(m:Inv e λ_=>ae)(r:S e (λ_=>ae)=σ)
  (b:mv ops.toList=ab) (d:rV ops.toList 0=ab) (h:n3 N ops.toList=ab) (one:JD X N ops.toList φ x S Inv ops.toList 0)
  (k:∀ a D,Inv a D->(∀ i,i<ops.toList.length->D i=ab)->AK X N Qf K .normal (MK ops.toList φ (x a)) (S a D)):AK X N Qf (.code (.region id ops ab)::K) .normal φ σ:=by
 have:=AW.reg (X:=X) (N:=N) (φ:=φ) (σ:=σ) q (all:=ops.toList) ops.toList.length x S Inv e m r b d h (bc _)
  (λi h1 h2=>absurd h2 (ky.2 h1)) (λa D _ _ i h1 h2=>absurd h2 (ky.2 h1))
  (λa D i o l n _ j f g=>by
   have h1:=one.get i o n;rw[br] at h1;exact h1 a D l (vT g i o n f) (FD g j))
  (Q:=AK X N Qf K) (λa D l p=>by
   rw[q8];exact .nil (k a D l p)) id
 rw[oM] at this;exact this
def iC.of{all:List aw}{i:Nat}{o:aw}(h:∀ d (D:Nat->Bool),Inv d D->(∀ j,ic all i j=ab->D j=ab)->(∀ j,(j=i∨ic all j i=ab)->D j=ae)->Inv d (cM i D)/\OA X N all o (m6 all φ (x d) i) (S d D) (x d i) (S d (cM i D))):iC X N all φ x S Inv i o:=by
 intro d D e h1 h2 s a f hh b k cs SS idx rest hb hi hK;obtain⟨g,l⟩:=h d D e h1 h2;exact l s a f hh b k cs SS idx rest hb hi λv s' r1 r2 r3=>hK ⟨d,λ_ _=>rfl,g⟩ v s' r1 r2 r3
def iC.ofI{all:List aw}{i:Nat}{o:aw}(h:∀ e (D:Nat->Bool),Inv e D->(∀ j,ic all i j=ab->D j=ab)->(∀ j,(j=i∨ic all j i=ab)->D j=ae) ->
  ∃ (ι:Type) (y:ι->Go.AM.D) (σ':ι->List aW),rU X N all o (m6 all φ (x e) i) (S e D) y σ'/\∀ j,∃ d,((∀ q,D q=ab->x d q=x e q)/\Inv d (cM i D))/\y j=x d i/\σ' j=S d (cM i D)):iC X N all φ x S Inv i o:=by
 intro e D g h1 h2 s a f hh b k cs SS idx rest hb hi hK;obtain⟨ι,y,σ',n,m⟩:=h e D g h1 h2;refine n s a f hh b k cs SS idx rest hb hi λj v s' r1 r2 r3=>?_
 obtain⟨d,l,p2,p3⟩:=m j;rw[p2] at r1;rw[p3] at r1 r2 r3;exact hK ⟨d,l⟩ v s' r1 r2 r3
end
section
variable {P:aq}{X:Cx P}{N:Nat}{all:List aw}{φ:Fr}{ι:Type}{x:Option ι->Nat->D}{s:Option ι->Bool->Bool->Bool->List aW}{i m e f d:Nat}{o:aw}
abbrev SO(s:Option ι->Bool->Bool->Bool->List aW)(e f d:Nat):Option ι->(Nat->Bool)->List aW:=λa D=>s a (D e) (D f) (D d)
abbrev IO(ι:Type)(m:Nat):Option ι->(Nat->Bool)->Prop:=λa D=>a.isSome=D m
def iC.quiet(k:aA m i=ae)(h1:aA e i=ae)(h2:aA f i=ae)(j:aA d i=ae)(h:∀ g a b c,OA X N all o (m6 all φ (x g) i) (s g a b c) (x g i) (s g a b c)) :
  iC X N all φ x (SO s e f d) (IO ι m) i o:=by
 refine iC.of λg D l _ _=>⟨?_,?_⟩
 .show g.isSome=cM i D m;rw[ib k];exact l
 .show OA X N all o _ (s g (D e) (D f) (D d)) _ (s g (cM i D e) (cM i D f) (cM i D d));rw[ib h1,ib h2,ib j];exact h _ _ _ _
def iC.zH(r:aA m i=ae)(h1:aA e i=ae)(h2:aA f i=ae)(q:aA d i=ae)(n:ic all i m=ab)(h:∀ j a b c,OA X N all o (m6 all φ (x (aa j)) i) (s (aa j) a b c) (x (aa j) i) (s (aa j) a b c)) :
  iC X N all φ x (SO s e f d) (IO ι m) i o:=by
 refine iC.of λg D l p _=>⟨?_,?_⟩
 .show g.isSome=cM i D m;rw[ib r];exact l
 .show OA X N all o _ (s g (D e) (D f) (D d)) _ (s g (cM i D e) (cM i D f) (cM i D d));rw[ib h1,ib h2,ib q];have k:=p m n;cases g with
  |none=>grind
  |some j=>exact h _ _ _ _
def iC.fam(h1:aA e m=ae)(h2:aA f m=ae)(u:aA d m=ae)(r:ic all e m=ab)(t:ic all d m=ab)(p:∀ j q,q=m∨ic all q m=ab∨x (aa j) q=x af q)
  (h:∀ b,rU X N all o (m6 all φ (x af) m) (s af ae b ae) (λj=>x (aa j) m) (λj=>s (aa j) ae b ae)):iC X N all φ x (SO s e f d) (IO ι m) m o:=by
 refine iC.ofI λl D v y c=>?_
 have n:=c m (.inl rfl);have k:=c e (.inr r);have a:=c d (.inr t);have g:l=af:=by
  cases l with
  |none=>rfl
  |some j=>grind
 subst g;refine⟨ι,λj=>x (aa j) m,λj=>s (aa j) ae (D f) ae,?_,λj=>⟨aa j,⟨λq w=>?_,?_⟩,rfl,?_⟩⟩
 .grind
 .grind
 .show (aa j).isSome=cM m D m;rw[By];rfl
 .show s (aa j) ae (D f) ae=s (aa j) (cM m D e) (cM m D f) (cM m D d);rw[ib h1,ib h2,ib u,k,a]
def iC.Xs(r:aA m e=ae)(h2:aA f e=ae)(q:aA d e=ae)(k:ic all e m=ab)(n:ic all d e=ab)
  (h:∀ j b,OA X N all o (m6 all φ (x (aa j)) e) (s (aa j) ae b ae) (x (aa j) e) (s (aa j) ab b ae)):iC X N all φ x (SO s e f d) (IO ι m) e o:=by
 refine iC.of λp D g l a=>?_
 have c:=l m k;cases p with
 |none=>grind
 |some j =>
  refine⟨?_,?_⟩
  .show (aa j).isSome=cM e D m;rw[ib r];exact g
  .show OA X N all o _ (s (aa j) (D e) (D f) (D d)) _ (s (aa j) (cM e D e) (cM e D f) (cM e D d));rw[By,ib h2,ib q,a e (.inl rfl),a d (.inr n)];exact h _ _
def iC.Xt(l:aA m f=ae)(h1:aA e f=ae)(k:aA d f=ae)(j:ic all d f=ab)
  (h:∀ b a,OA X N all o (m6 all φ (x b) f) (s b a ae ae) (x b f) (s b a ab ae)):iC X N all φ x (SO s e f d) (IO ι m) f o:=by
 refine iC.of λb D g n c=>⟨?_,?_⟩
 .show b.isSome=cM f D m;rw[ib l];exact g
 .show OA X N all o _ (s b (D e) (D f) (D d)) _ (s b (cM f D e) (cM f D f) (cM f D d));rw[By,ib h1,ib k,c f (.inl rfl),c d (.inr j)];exact h _ _
def iC.Xu(q:aA m d=ae)(h1:aA e d=ae)(h2:aA f d=ae)(k:ic all d m=ab)(l:ic all d e=ab)(n:ic all d f=ab)
  (h:∀ j,OA X N all o (m6 all φ (x (aa j)) d) (s (aa j) ab ab ae) (x (aa j) d) (s (aa j) ab ab ab)):iC X N all φ x (SO s e f d) (IO ι m) d o:=by
 refine iC.of λp D g a b=>?_
 have c:=a m k;cases p with
 |none=>grind
 |some j =>
  refine⟨?_,?_⟩
  .show (aa j).isSome=cM d D m;rw[ib q];exact g
  .show OA X N all o _ (s (aa j) (D e) (D f) (D d)) _ (s (aa j) (cM d D e) (cM d D f) (cM d D d));rw[By,ib h1,ib h2,a e l,a f n,b d (.inl rfl)];exact h _
end
end
end Go.AM
namespace Go.AM.R1
section
open Go.Proofs
variable {X:Cx ah} [X.jH]
abbrev O6(s:x3):aW:=.cells 35 (Dm 7 s.1 s.2.1 2)
abbrev Zr(k:Nat):={ q:iP×Nat // EvP k q }
def w5B(m:Nat)(b:Nat->Int)(k:Nat)(s:x3)(a:Option (Zr k))(d3 d7 d8:Bool):List aW :=
 match a with
 |none=>match d7 with
  |false=>[ny m b k,oL]++Gt s++[O6 s]
  |true=>[ny m b k,oL]++Gt s++[O6 s,oL]
 |some q=>match d3,d7,d8 with
  |false,ae,_=>[ny m b q.1.2,oL]++Gt s++[O6 s]
  |false,ab,_=>[ny m b q.1.2,oL]++Gt s++[O6 s,oL]
  |true,ae,_=>[ny m b q.1.2,oL]++Gt (vl 7 s q.1.1).1++[O6 s]
  |true,ab,ae=>[ny m b q.1.2,oL]++Gt (vl 7 s q.1.1).1++[O6 s,oL]
  |true,ab,ab=>[ny m b q.1.2,oL]++Gt (vl 7 s q.1.1).1++[O6 s,O6 (vl 7 s q.1.1).1]
abbrev Zs(s:x3):D:=.e (.agg (Dm 7 s.1 s.2.1 2))
def x5(k:Nat)(s:x3)(a:Option (Zr k))(i:Nat):D :=
 match a with
 |none=>[Zs s,.e (.one (.ptr 0 0)),.any,.any,.any,.any,.any,.e (.one (.ptr 5 0)),.any,.any].getD i .any
 |some q=>[Zs s,.e (.one (.ptr 0 0)),Wy q.1.1,.eN [.agg (Dm 7 (vl 7 s q.1.1).1.1 (vl 7 s q.1.1).1.2.1 2),.one (.c (.bool (vl 7 s q.1.1).2))],.eN [.agg (Dm 7 (vl 7 s q.1.1).1.1 (vl 7 s q.1.1).1.2.1 2),.one (.c (.bool (vl 7 s q.1.1).2))],
   Zs (vl 7 s q.1.1).1,dB (vl 7 s q.1.1).2,.e (.one (.ptr 5 0)),.any,dB (vl 7 s q.1.1).2].getD i .any
abbrev Zt:x3:=(MT,x4,Zu,Zv)
def WI.zero:WI 0 Zt:=⟨TW.nil,rfl,rfl⟩
def MA:∀ j,j<1->([0,5,6,7]:List Nat)[j]?=aa j:=λj a=>by
 match j,a with
 |0,_=>rfl
def fO(es:List iP):x3:=es.foldl (λs e=>(vl 7 s e).1) Zt
def xo(es:List iP)(e:iP):fO (es++[e])=(vl 7 (fO es) e).1:=by unfold fO;rw[jC];rfl
def C8:∀ (r es:List iP),WI es.length (fO es)->WI (es++r).length (fO (es++r))
 |[],es,h=>by rw[ik];exact h
 |e::r,es,h=>by
  have a:WI (es++[e]).length (fO (es++[e])):=by rw[xo,bG];exact h.do
  have:=C8 r (es++[e]) a
  rwa [ij] at this
def sE(es:List iP):WI es.length (fO es):=C8 es [] WI.zero
def js(v:Int)(s:x3):ft :=
 if v=0 then (7,s.1,s.2.1,s.2.2.1,[0]) else if v=1 then (7,s.1,s.2.1,s.2.2.1.set 0 (10,(s.2.2.1.getD 0 (0,0)).2),s.2.2.2) else (7,s.1,s.2.1,s.2.2.1,s.2.2.2)
structure P2 (k:Nat) where
 es:List iP
 v:Int
 k1:Nat
 hn:es.length<=8
 lo:k<=k1
 hi:k1<=k+4002
abbrev P2.w{k:Nat}(q:P2 k):ft:=js q.v (fO q.es)
def Iw{v:Int}{es:List iP}(h:es.length<=8):Mz (js v (fO es)).2.1/\(js v (fO es)).2.2.2.1.length<=2/\(js v (fO es)).2.2.2.2.length<=2:=by
 have a:=sE es;have b:=a.w.sz (by omega)
 have d:=a.k;have c:=a.f;unfold js
 grind
set_option maxRecDepth 20000 in
def E9(m:Nat)(b:Nat->Int)(H:Bytes b)(k:Nat)(V:k<=30000)(G:m<=1048576) :
  cD (ι:=P2 k) X 14 [.e (.one (.ptr 0 0))] [ny m b k] (λq=>.e (.agg (SK q.w 1 2))) (λq=>[ny m b q.k1,um q.w.2.1]++dKf q.w.2.2.2.1 q.w.2.2.2.2):=by
 refine cD.gy tok Tryz.func14 rfl rfl rfl λW=>?_
 refine bm rfl av ?_;refine AK.cQ (A2 7 (by decide)) [] rfl ?_
 refine bm rfl av ?_;refine AK.cP (et m b H k 9 (by omega) G (by omega)) [0] rfl (λ_=>rfl) ?_
 rintro⟨u,Y,u1⟩;refine bm rfl av ?_;refine AK.bJ 5 (λq:Nat×List iP×Nat=>q.1+q.2.1.length<=8/\k<=q.2.2/\q.2.2<=k+1+500*q.2.1.length) (λq=>[(0,.e (.one (.ptr 0 0))),(2,.e (.one (.ptr 1 0))),(3,.e (.one (.ptr 4 0))),(5,dI q.1)])
  (λq=>[ny m b q.2.2,oL]++Gt (fO q.2.1)++[O6 (fO q.2.1)]) (λq=>q.1) (u.toNat,[],k+1) rfl ?_ rfl ?_ rfl ⟨by simp only[gA];omega,by simp only;omega,by simp only;omega⟩ ?_
 .simp only[ag.cat,ag,aG,aF];omega
 .have e:fO []=Zt:=rfl;simp[ag.cat,ag,aR.same,e]
 rintro⟨n,es,k1⟩ ⟨R,S,T⟩;simp only at R S T;have y:=sE es;have x:=xo es;have t:∀ v,Mz (js v (fO es)).2.1/\(js v (fO es)).2.2.2.1.length<=2/\(js v (fO es)).2.2.2.2.length<=2:=λv=>Iw (by omega)
 have l:∀ v k1,k<=k1->k1<=k+4002->∃ q:P2 k,q.w=js v (fO es)/\q.k1=k1:=λv k1 a b=>⟨⟨es,v,k1,by omega,a,b⟩,rfl,rfl⟩
 by_cases h:0<n
 .refine aX [(15,ab),(1000005,ab)] 100 rfl (by simp only[ag,bd];omega) ?_
  generalize hs:fO es=s at *;refine AK.QC en (x5 k1 s) (SO (w5B m b k1 s) 3 7 8) (IO (Zr k1) 2) af rfl rfl rfl rfl rfl
   ⟨iC.quiet rfl rfl rfl rfl (λp a b c=>by rcases p with _|q <;> cases a <;> cases b <;> cases c <;> exact OA.cd tok bD.nil rfl),
   iC.quiet rfl rfl rfl rfl (λp a b c=>by rcases p with _|q <;> cases a <;> cases b <;> cases c <;> exact OA.cd tok bD.nil rfl),
   iC.fam rfl rfl rfl rfl rfl (λj q=>by
    match q with
    |0=>exact .inr (.inr rfl)
    |1=>exact .inr (.inr rfl)
    |2=>exact .inl rfl
    |3=>exact .inr (.inl rfl)
    |4=>exact .inr (.inl rfl)
    |5=>exact .inr (.inl rfl)
    |6=>exact .inr (.inl rfl)
    |7=>exact .inr (.inr rfl)
    |8=>exact .inr (.inr rfl)
    |9=>exact .inr (.inl rfl)
    |q+10=>exact .inr (.inr rfl)) (λa=>by cases a <;> exact rU.u5 (Fa m b H k1 (by omega) G) [0] rfl rfl rfl rfl rfl rfl rfl (λ_=>rfl) rfl (λ_=>rfl)),
   iC.Xs rfl rfl rfl rfl rfl (λj a=>by
    have U:bD X [(27,Ga [Zo 7 s,Wy j.1.1] (Gt s) (Zp 7 (vl 7 s j.1.1).1 (vl 7 s j.1.1).2) (Gt (vl 7 s j.1.1).1))]:=.cons (Lc (O4 7 s j.1.1 es.length y (by omega))) .nil
    cases a <;> exact fW (ds:=[]) tok U (σ':=aa _) rfl ⟨rfl,rfl⟩),
   iC.zH rfl rfl rfl rfl rfl (λq a b c=>by cases a <;> cases b <;> cases c <;> exact OA.cd tok bD.nil rfl),
   iC.zH rfl rfl rfl rfl rfl (λq a b c=>by cases a <;> cases b <;> cases c <;> exact OA.cd tok bD.nil rfl),
   iC.zH rfl rfl rfl rfl rfl (λq a b c=>by cases a <;> cases b <;> cases c <;> exact OA.cd tok bD.nil rfl),
   iC.Xt rfl rfl rfl rfl (λp a=>by rcases p with _|q <;> cases a <;> exact fW (ds:=[]) tok bD.nil (σ':=aa _) rfl av),
   iC.Xu rfl rfl rfl rfl rfl rfl (λj=>fW (ds:=[]) tok bD.nil (σ':=aa _) rfl av),
   iC.zH rfl rfl rfl rfl rfl (λq a b c=>by cases a <;> cases b <;> cases c <;> exact OA.cd tok bD.nil rfl),av⟩ ?_
  intro p D Q C;have M:p.isSome=ab:=(show p.isSome=D 2 from Q).trans (C 2 (by decide))
  cases p with
  |none=>cases M
  |some q =>
  obtain⟨⟨e,N⟩,E⟩:=q;have L:=E.lo;have J:=E.hi;simp only at L J;show AK X _ _ _ _ _ (w5B m b k1 s (aa ⟨(e,N),E⟩) (D 3) (D 7) (D 8));rw[C 3 (by decide),C 7 (by decide),C 8 (by decide)]
  have x:=x e;refine bm rfl ?_ (AK.aQ (n-1,es++[e],N) rfl ?_ ?_ ⟨by grind,by simp only;omega,by grind⟩ (by simp only;omega))
  .simp only[ag,bx];omega
  .simp only[ag.cat,ag,aG,aF];omega
  .simp only[x];simp[ag.cat,ag,aR.same]
 refine aX [(15,ae)] 100 rfl (by simp only[ag,bR];omega) (AK.leaveD rfl rfl ?_)
 refine bm rfl av ?_;refine AK.cP (et m b H k1 40 (by omega) G (by omega)) [0] rfl (λ_=>rfl) ?_
 rintro⟨v,v0,v1⟩;have d:(fO es).2.2.1.length=2:=y.k;have g:(fO es).2.2.2.length=2:=y.f
 by_cases I:v=0
 .obtain⟨q,o,B⟩:=l 0 (k1+1) (by omega) (by omega)
  obtain⟨A,P,O⟩:=t 0;have z:=qP (X:=X) _ A (by omega) (by omega)
  refine aX [(29,ab),(1000012,ab)] 100 rfl (by simp[ag,I]) ?_
  refine AK.rK 2 rfl rfl rfl (by simp[ag.cat,ag]) (by simp[ag.cat,ag]) ?_
  refine bm rfl av ?_;refine AK.mq z.A9 [] rfl rfl rfl rfl ?_ rfl rfl rfl (λ_=>rfl) rfl (λ_=>rfl) rfl ?_
  .simp only[js,bg,ag.cat,ag,aG,aF]
   and_intros <;> first|exact aR.same|rfl|omega|exact d|exact g|exact d.symm|exact g.symm|(intro i hi;match i,hi with|0,_=>rfl)|(simp only[pE];omega)
  rintro -;refine bm rfl av ?_;rw[<-o,show (k1:Int)+1=((q.k1:Nat):Int) by omega]
  refine AK.dk q [0,5,6,7] rfl rfl rfl rfl rfl rfl rfl rfl ?_ rfl rfl rfl rfl MA;simp[ag.cat,ag,aR.same]
 by_cases r:v=1
 .obtain⟨q,o,B⟩:=l 1 (k1+1) (by omega) (by omega)
  obtain⟨A,P,O⟩:=t 1;have z:=qP (X:=X) _ A (by omega) (by omega)
  obtain⟨Z,b0,F⟩:∃ a b,(fO es).2.2.1=[a,b]:=by
   match E:(fO es).2.2.1,d with
   |[a,b],_=>exact⟨a,b,rfl⟩
  have K:aR 2 (uy 0 (ni 0 [.int .i64 10,.int .i64 ((fO es).2.2.1.getD 0 (0,0)).2] (cH.fn (fO es).2.2.1))) (cH.fn ((fO es).2.2.1.set 0 (10,((fO es).2.2.1.getD 0 (0,0)).2))):=by
   rw[F];intro i hi
   match i,hi with
   |0,_=>rfl
   |1,_=>rfl
  refine aX [(29,ae),(33,ab),(1000012,ab)] 100 rfl (by simp[ag,r]) ?_
  refine AK.rK 2 rfl rfl rfl (by simp[ag.cat,ag]) (by simp[ag.cat,ag]) ?_
  refine AK.rK 3 rfl rfl rfl (by simp[ag.cat,ag]) (by simp[ag.cat,ag]) ?_
  refine bm rfl av ?_;refine AK.mq z.A9 [] rfl rfl rfl rfl ?_ rfl rfl rfl (λ_=>rfl) rfl (λ_=>rfl) rfl ?_
  .simp only[js,aY (show ¬(1:Int)=0 by decide),bg,ag.cat,ag,aG,aF]
   and_intros <;> first|exact aR.same|exact K|rfl|omega|exact d|exact g|exact d.symm|exact g.symm|grind|(simp only[pE];omega)
  rintro -;refine bm rfl av ?_;rw[<-o,show (k1:Int)+1=((q.k1:Nat):Int) by omega]
  refine AK.dk q [0,5,6,7] rfl rfl rfl rfl rfl rfl rfl rfl ?_ rfl rfl rfl rfl MA;simp[ag.cat,ag,aR.same]
 .obtain⟨q,o,B⟩:=l v (k1+1) (by omega) (by omega)
  obtain⟨A,P,O⟩:=t v;have z:=qP (X:=X) _ A (by omega) (by omega)
  refine aX [(29,ae),(33,ae),(1000012,ab)] 100 rfl (by simp[ag,I,r]) ?_
  refine AK.rK 2 rfl rfl rfl (by simp[ag.cat,ag]) (by simp[ag.cat,ag]) ?_
  refine AK.rK 3 rfl rfl rfl (by simp[ag.cat,ag]) (by simp[ag.cat,ag]) ?_
  refine bm rfl av ?_;refine AK.mq z.A9 [] rfl rfl rfl rfl ?_ rfl rfl rfl (λ_=>rfl) rfl (λ_=>rfl) rfl ?_
  .simp only[js,aY I,aY r,ag.cat,ag,aG,aF]
   and_intros <;> first|exact aR.same|rfl|omega|exact d|exact g|exact d.symm|exact g.symm|(intro i hi;match i,hi with|0,_=>rfl)|(simp only[pE];omega)
  rintro -;refine bm rfl av ?_;rw[<-o,show (k1:Int)+1=((q.k1:Nat):Int) by omega]
  refine AK.dk q [0,5,6,7] rfl rfl rfl rfl rfl rfl rfl rfl ?_ rfl rfl rfl rfl MA;simp[ag.cat,ag,aR.same]
end
section
open Go.Proofs
abbrev cTr:List (Nat×dg):=[(98,yx)]
def EU(k:Int)(s:a9)(x:PV s):Ev (Cx.beside ah) 70 [ey s,dI k] [] (dB ((bh s.2.1.length).all (jT k s))) []:=by
 refine Ev.bQ Tryz.func70 rfl λA=>?_
 have B:=x.sN;have u:=x.sm;have o:bD (Cx.beside ah) cTr:=.cons Hg .nil;refine aE o [] 100 rfl av ?_;refine AK.bJ 1 (λi=>i<=s.2.1.length/\∀ j,j<i->jT k s j=ab) (λi:Nat=>[(1,dI k),(2,.e (.one (.ptr 0 0))),(10,cr.sl s.2.1),(11,dI s.2.1.length),(12,dI i)]) (λ_=>[IK s]) (λi=>s.2.1.length-i) 0 rfl (by simp[ag.cat,ag,aR.same]) rfl (by simp[ag.cat,ag,aR.same]) rfl ⟨by omega,by omega⟩ ?_
 rintro i ⟨hi,n⟩
 by_cases h:i<s.2.1.length
 .have t:s.2.1.getD i cr.bC=s.2.1.getD i (0,[]):=rfl;have r:s.2.1.getD (i-1) cr.bC=s.2.1.getD (i-1) (0,[]):=rfl;have c:jT k s i=(decide (1<=(s.2.1.getD i (0,[])).1/\(s.2.1.getD i (0,[])).1<=20)&&CE (·.1) (0,[]) s.2.1 i&&(cG k (s.2.1.getD i (0,[])) s.1).isSome):=rfl;have v:=mJ (f:=λp:cN=>p.1) (d:=(0,[])) (l:=s.2.1) (i:=i)
  have g:=u _ (gO (d:=(0,[])) h);generalize s.2.1.getD i (0,[])=p at *;generalize s.2.1.getD (i-1) (0,[])=p' at *
  by_cases z:1<=p.1
  rotate_left
  .refine aE o [(13,ab),(20,ab),(25,ab),(40,ab)] 100 rfl ?_ (AK.ee (bZ.zero rfl ?_))
   .simp[-ai,ag,t];omega
   .rw[dO h (by grind)];simp[ag]
  by_cases c2:p.1<=20
  rotate_left
  .refine aE o [(13,ab),(20,ae),(25,ab),(40,ab)] 100 rfl ?_ (AK.ee (bZ.zero rfl ?_))
   .simp[-ai,ag,t];omega
   .rw[dO h (by grind)];simp[ag]
  rw[ck ⟨z,c2⟩,dF] at c
  by_cases w:i=0
  .subst w;rw[show CE (·.1) (0,[]) s.2.1 0=ab from rfl,dF] at c
   cases q:(cG k p s.1).isSome with
   |false =>
    refine aE o [(13,ab),(20,ae),(25,ae),(27,ae),(40,ae),(50,ab)] 100 rfl ?_ (AK.ee (bZ.zero rfl ?_))
    .simp[-ai,ag,t,bx,cL.list_fn,cL.aH,cP.list_fn,cP.aH,q,g.1];and_intros <;> first|omega|exactλa b m=>g.2 (a,b) m
    .rw[dO h (c.trans q)];simp[ag]
   |true =>
    refine aE o [(13,ab),(20,ae),(25,ae),(27,ae),(40,ae),(50,ae)] 100 rfl ?_ (AK.aQ 1 rfl (by simp[ag.cat,ag,aR.same]) (by simp[ag.cat,ag,aR.same]) ⟨h,fe n (c.trans q)⟩ (by omega))
    simp[-ai,ag,t,bx,cL.list_fn,cL.aH,cP.list_fn,cP.aH,q,g.1];and_intros <;> first|omega|exactλa b m=>g.2 (a,b) m
  rw[v w] at c
  by_cases y:p'.1<p.1
  rotate_left
  .refine aE o [(13,ab),(20,ae),(25,ae),(28,ab),(38,ab),(40,ab)] 100 rfl ?_ (AK.ee (bZ.zero rfl ?_))
   .simp[-ai,ag,t,r,bx];omega
   .rw[dO h (by rw[c,dY y];rfl)];simp[ag]
  rw[ck y,dF] at c;cases q:(cG k p s.1).isSome with
  |false =>
   refine aE o [(13,ab),(20,ae),(25,ae),(28,ab),(38,ae),(40,ae),(50,ab)] 100 rfl ?_ (AK.ee (bZ.zero rfl ?_))
   .simp[-ai,ag,t,r,bx,cL.list_fn,cL.aH,cP.list_fn,cP.aH,q,g.1];and_intros <;> first|omega|exactλa b m=>g.2 (a,b) m
   .rw[dO h (c.trans q)];simp[ag]
  |true =>
   refine aE o [(13,ab),(20,ae),(25,ae),(28,ab),(38,ae),(40,ae),(50,ae)] 100 rfl ?_ (AK.aQ (i+1) rfl (by simp[ag.cat,ag,aR.same]) (by simp[ag.cat,ag,aR.same]) ⟨h,fe n (c.trans q)⟩ (by omega))
   simp[-ai,ag,t,r,bx,cL.list_fn,cL.aH,cP.list_fn,cP.aH,q,g.1];and_intros <;> first|omega|exactλa b m=>g.2 (a,b) m
 obtain rfl:i=s.2.1.length:=by omega
 rw[b6.2 n];refine aE o [(13,ae)] 100 rfl (by simp[ag]) (AK.leaveD rfl rfl ?_)
 exact aE o [] 100 rfl av (AK.bo rfl (by simp[ag]))
def xT(k:Int)(s:a9):gI k s=(cA k&&yT k s&&(bh s.2.1.length).all (jT k s)&&kR s.2.2):=by
 unfold gI yT;cases (bh s.1.length).all (l4 k s.1) <;> cases decide (bU s.1).Nodup <;> cases (bh s.2.1.length).all (jT k s) <;> cases cA k <;> cases kR s.2.2 <;> cases decide (s.1.length<=20) <;> rfl
abbrev Sg:dg:=ow N0 aI (λs k=>dB (yT k s)) λs k=>[cA k=ab,PV s]
abbrev Si:dg:=ow N0 aI (λs k=>dB ((bh s.2.1.length).all (jT k s))) λs _=>[PV s]
def CN(k:Int)(s:a9)(g:PV s):Ev (Cx.beside ah) 30 [dI k,ey s] [] (dB (gI k s)) []:=by
 refine Ev.bQ Tryz.func30 rfl λj=>?_
 have b:bD (Cx.beside ah) [(67,LK),(68,kN aI (λk=>dB (cA k)) λ_=>[]),(69,Sg),(70,Si),(71,ss)]:=.cons Sf (.cons t68 (.cons (.qG λs k h=>ET k s h.1 h.2) (.cons (.qG λs k h=>EU k s h) (.cons OF .nil))))
 have e:=cP.list_fn s.1;have c:=cr.list_fn s.2.1;have a:=cH.list_fn s.2.2;rw[xT];cases d:cA k
 .exact aE b [(10,ae),(15,ae),(20,ae)] 100 rfl (by simp[ag,d,e,c,a,cP.aH,cr.aH,cH.aH]) (AK.bo rfl (by simp[ag]))
 cases f:yT k s
 .exact aE b [(10,ab),(15,ae),(20,ae)] 100 rfl (by simp[ag,d,e,c,a,cP.aH,cr.aH,cH.aH,g,f]) (AK.bo rfl (by simp[ag]))
 cases i:(bh s.2.1.length).all (jT k s)
 .exact aE b [(10,ab),(15,ab),(20,ae)] 100 rfl (by simp[-List.all_eq_true,-List.all_eq_false,ag,d,e,c,a,cP.aH,cr.aH,cH.aH,g,f,i]) (AK.bo rfl (by simp[ag]))
 exact aE b [(10,ab),(15,ab),(20,ab)] 100 rfl (by simp[-List.all_eq_true,-List.all_eq_false,ag,d,e,c,a,cP.aH,cr.aH,cH.aH,g,f,i]) (AK.bo rfl (by simp[ag,a]))
abbrev yU:dg:=ow aI N0 (λk s=>dB (gI k s)) λ_ s=>[PV s]
def H7:dD (Cx.beside ah) 30 yU:=.qG λk s h=>CN k s h
end
end Go.AM.R1
namespace Go.AM
section
open Go.Conc (G)
def tm(f:ak)(l:List Int):ak->(Nat->Option Obj)->Prop:=λv a=>v=f/\∃ r es c,f=.map (aa r)/\(∀ b,a b=if b=r then aa (.map es c) else af)/\MapKept.Stamped es c /\
 (∀ e∈es.toList,∃ n,e.key=.int .i64 n/\e.val=.bool ab)/\∀ n,n∈l↔∃ e∈es.toList,e.key=.int .i64 n
structure Vw (σ:List aW)(s:St)(b:Nat)(f:ak)(l:List Int)(L:Loc)(r:Nat)(es:Array MapEntry)(c:Nat):Prop where
 at':s.β[b]?=aa L
 v:L.v=f
 m:f=.map (aa r)
 st:MapKept.Stamped es c
 kv:∀ e∈es.toList,∃ n,e.key=.int .i64 n/\e.val=.bool ab
 mem:∀ n,n∈l↔∃ e∈es.toList,e.key=.int .i64 n
 heap:s.w.heap[r]?=aa (.map es c)
 bs:∀ b,b∈L.bs↔b=r
def tm.open{σ:List aW}{s:St}{b:Nat}{f:ak}{l:List Int}(hh:aJ σ s)(hl:σ[b]?=aa (.dz (tm f l))):∃ L r es c,Vw σ s b f l L r es c:=by
 have hb:b<s.β.length:=by rw[hh.len];grind
 obtain⟨ch,⟨h1,r,es,c,h2,h,a,g,d⟩,e,i,_⟩:=hh.box b _ _ hl (bl hb);exact⟨_,r,es,c,bl hb,h1,h2,a,g,d,e r _ (by rw[h,bg rfl]),λb=>by grind⟩
section
variable {P:aq}{o:aw}{p:an->D}{σ:List aW}{T q t:ar}{x y z:an}{f:ak}{l:List Int}{n:Int}{b:Nat}
def Vx{es:Array MapEntry}(h:∀ e∈es.toList,∃ n,e.key=.int .i64 n/\e.val=.bool ab):∀ e∈es.toList,MapKept.IsKey (.int .i64) e.key:=λe a=>by
 obtain⟨n,c,_⟩:=h e a;rw[c];rfl
def rdV{σ:List aW}{s:St}{v f:ak}{d:D}(h:c8 σ s v d)(e:d=.e (.one (.v f))):v=f:=by subst e;exact Rd.fX h
def rdI{σ:List aW}{s:St}{v:ak}{n:Int}{d:D}(h:c8 σ s v d)(e:d=.e (.one (.c (.int .i64 n)))):v=.int .i64 n:=by
 subst e;have:=fC h;generalize v=w at this;cases this;rfl
def bF.Ot(h:o.op=.lookup T x y ae)(E:P.underlying T=aa (.map q t))(A:P.underlying q=aa (.int .i64))(G:∀ w,(zeroValue t).run P w=.ok (.bool ae) w)(hl:σ[b]?=aa (.dz (tm f l)))
  (I:p x=.e (.one (.v f))) (M:p y=.e (.one (.c (.int .i64 n)))):bF P o p σ (.e (.one (.c (.bool (l.contains n))))) σ:=by
 refine bF.nR λs ρ hh hr=>?_
 obtain⟨L,r,es,c,g⟩:=tm.open hh hl;have ex:ρ x=.map (aa r):=(rdV (hr x) I).trans g.m;have F:=rdI (hr y) M;obtain⟨a,B⟩:=yj (d:=.int .i64) (k:=.int .i64 n) rfl (Vx g.kv);have H:oB s ⟨.obj r,ae,ae⟩:=lO (bM g.at') ((g.bs r).2 rfl);have key:∃ v:Bool,(Instr.lookup T (.map (aa r)) (.int .i64 n) ae).run P s.w=.ok (.bool v) s.w/\(Instr.lookup T (.map (aa r)) (.int .i64 n) ae).events P s.w #[]=#[⟨.obj r,ae,ae⟩]/\v=l.contains n:=by
  cases a with
  |none =>
   obtain⟨i,u⟩:=tM (ok:=ae) E A g.heap B (λ_=>G s.w)
   exact⟨ae,i,u,by
    symm;rw[<-mc,zd,g.mem]
    rintro⟨e,J,A⟩;exact B.no rfl e J A⟩
  |some jv =>
   obtain⟨j,v⟩:=jv;obtain⟨i,u⟩:=tM (ok:=ae) (z:=aj) E A g.heap B (λh=>by cases h)
   obtain⟨e,h1,h2,R⟩:=B.yes j v rfl;have C:e∈es.toList:=by grind
   obtain⟨_,_,Q⟩:=g.kv e C;exact⟨ab,i.trans (show Result.ok v s.w=_ by grind),u,by symm;rw[zd,g.mem];exact⟨e,C,h2⟩⟩
 obtain⟨v,i,u,O⟩:=key;refine⟨.bool v,?_,by rw[<-O];exact Rd.bool,?_⟩
 .simp only[ay,h,ex,F,bS,i,b7,cW]
 .simp only[ay,h,ex,F,aP,i,u,aU,Sem.events_pure];exact .one H
def bF.Sa(h:o.op=.mapUpdate T x y z)(J:P.underlying T=aa (.map q t))(G:P.underlying q=aa (.int .i64))(hl:σ[b]?=aa (.dz (tm f l)))
  (S:p x=.e (.one (.v f))) (V:p y=.e (.one (.c (.int .i64 n)))) (Y:p z=.e (.one (.c (.bool ab)))):bF P o p σ .any (σ.set b (.dz (tm f (l++[n])))):=by
 intro s ρ hh hr;obtain⟨L,r,es,c,g⟩:=tm.open hh hl;have ex:ρ x=.map (aa r):=(rdV (hr x) S).trans g.m;have H:=rdI (hr y) V;have O:ρ z=.bool ab:=by
  have:=hr z;rw[Y] at this;have:=fC this;generalize ρ z=w at this;cases this;rfl
 obtain⟨a,C⟩:=yj (d:=.int .i64) (k:=.int .i64 n) rfl (Vx g.kv);have I:∀ w,oB s ⟨.obj r,w,ae⟩:=λw=>lO (bM g.at') ((g.bs r).2 rfl)
 have Q:r<s.w.heap.size:=(ig.1 g.heap).1;have key:∃ es' c',(Instr.mapUpdate T (.map (aa r)) (.int .i64 n) (.bool ab)).run P s.w=.ok () { s.w with heap:=s.w.heap.setIfInBounds r (.map es' c') }/\(Instr.mapUpdate T (.map (aa r)) (.int .i64 n) (.bool ab)).events P s.w #[]=#[⟨.obj r,ae,ae⟩,⟨.obj r,ab,ae⟩] /\
   MapKept.Stamped es' c'/\(∀ e∈es'.toList,∃ n,e.key=.int .i64 n/\e.val=.bool ab)/\∀ m,m∈l++[n]↔∃ e∈es'.toList,e.key=.int .i64 m:=by
  cases a with
  |none =>
   obtain⟨u,A⟩:=tN (x:=.bool ab) J G g.heap C;refine⟨_,_,u,A,MapKept.stamped_push g.st (C.no rfl),λe B=>?_,λm=>?_⟩
   .rw[Array.toList_push,fR] at B;rcases B with B|B
    .exact g.kv e B
    grind
   .rw[fR,g.mem,Array.toList_push]
    constructor
    .rintro(⟨e,h1,h2⟩|h1)
     .grind
     .simp at h1;subst h1;exact⟨_,List.mem_append_right _ (kW.2 rfl),rfl⟩
    grind
  |some jv =>
   obtain⟨j,v⟩:=jv;obtain⟨e,h1,h2,h3⟩:=C.yes j v rfl;have U:e∈es.toList:=by grind
   obtain⟨_,_,Z⟩:=g.kv e U;have F:es.modify j (λe=>{ key:=.int .i64 n,val:=.bool ab,born:=e.born })=es:=by
    apply Array.ext_getElem?
    intro i;rw[ze];split
    .rename_i hi;subst hi;rw[h1,<-h2,<-Z];rfl
    .rfl
   obtain⟨u,A⟩:=tN (x:=.bool ab) J G g.heap C;refine⟨es,c,u.trans (show Result.ok () { s.w with heap:=s.w.heap.setIfInBounds r (.map (es.modify j λe=>{ key:=.int .i64 n,val:=.bool ab,born:=e.born }) c) }=_ by rw[F]),A,g.st,g.kv,λm=>?_⟩
   rw[fR,g.mem]
   constructor
   .rintro(M|M)
    .exact M
    grind
   .exactλh=>.inl h
 obtain⟨es',c',u,A,W,R,k4⟩:=key;have E:=hh.k5 (H':=tm f (l++[n])) (L':=L) (w':={ s.w with heap:=s.w.heap.setIfInBounds r (.map es' c') }) hl g.at' rfl (by simp) (λb _ hb=>by
   show (s.w.heap.setIfInBounds r _)[b]?=_;rw[qo (by rintro rfl;exact hb ((g.bs r).2 rfl))]) (λb hb=>.inl hb)
  ⟨λb=>if b=r then aa (.map es' c') else af,⟨g.v,r,es',c',g.m,λ_=>rfl,W,R,k4⟩,λb ob hb=>by
   grind,λb=>by rw[g.bs];by_cases e:b=r <;> simp[e]⟩ rfl rfl rfl
 have e1:s.β.set b L=s.β:=by
  apply iK
  intro i
  by_cases e:b=i
  .subst e;rw[eX (cg.1 g.at').1,g.at']
  .rw[fE e]
 rw[e1] at E;refine⟨.skip,_,?_,rfl,E.1,E.2,?_⟩
 .simp only[ay,h,ex,H,O,bS,u,b7,cW]
 .simp only[ay,h,ex,H,O,aP,u,A,aU,Sem.events_pure];exact .two (I _) (I _)
end
section
variable {P:aq}{X:Cx P}{N:Nat}{Qf:Post}{K:List It}{φ:Fr}{σ:List aW}{all rest:List aw}{o:aw}{T:ar}
def AK.Sb(h:o.op=.makeMap T af)(m:o.guard=af)(j:gv N o.dst=ab)
  (k:∀ f,AK X N Qf (.ops all rest::K) .normal (lr o.dst (.e (.one (.v f))) φ) (σ++[.dz (tm f [])])):AK X N Qf (.ops all (o::rest)::K) .normal φ σ:=by
 refine AK.hand (ι:=ak) (λf=>.e (.one (.v f))) (λf=>σ++[.dz (tm f [])]) m j (λs a C hh=>?_) k
 let w':az:={ s.w with heap:=s.w.heap.push (.map #[] 0) }
 have d:w'.heap[s.w.heap.size]?=aa (.map #[] 0):=by simp[w']
 have g:w'.heap.size=s.w.heap.size+1:=by simp[w']
 obtain⟨i,g2⟩:=hh.grow (M':=s.M) (w':=w') (by simp[w']) (λb hb=>by grind) (λ_ _ _=>rfl) (λb hb o v c=>by have:=hh.block c;omega) rfl rfl rfl
 obtain⟨A,u⟩:=i.gT g2 rfl hh (B:=.dz (tm (.map (aa s.w.heap.size)) [])) (L:=⟨.map (aa s.w.heap.size),[s.w.heap.size]⟩)
  ⟨λb=>if b=s.w.heap.size then aa (.map #[] 0) else af,⟨rfl,_,#[],0,rfl,λ_=>rfl,MapKept.stamped_empty 0,λe r=>by simp at r,λn=>by simp⟩,λb o hb=>by
   grind,λb=>by by_cases e:b=s.w.heap.size <;> simp[e],λb hb o=>by
   simp at hb;subst hb;show s.M _ _=af;cases c:s.M s.w.heap.size o with
   |none=>rfl
   |some v=>have:=hh.block c;omega⟩ (λb hb=>by grind)
 refine⟨.map (aa s.w.heap.size),.value (.map (aa s.w.heap.size)),_,.map (aa s.w.heap.size),?_,.inl rfl,Rd.val rfl,A,u,?_⟩
 .simp[ay,h,Instr.makeMap,run_newObj,w']
 .simp[ay,h,Instr.makeMap];exact .nil
end
end
end Go.AM
namespace Go.AM.R1
section
open Go.Proofs
variable {X:Cx ah}
def i76:TI:=⟨1,8,ae,TypeDesc.map 3 4,[.val (.map af)],[]⟩
def g76:bH ah 76 i76:=⟨Tryz.underlying76,rfl,⟨Tryz.t76,_,bz Tryz.type76,rfl,rfl,rfl,rfl,⟨#[],rfl⟩,rfl⟩,λh=>absurd rfl h⟩
def gX:db ah ((76,i76)::tt):=db.cons g76 tok
abbrev dMv(v:ak):D:=.e (.one (.v v))
abbrev EV(a:ak)(l:List Int):aW:=.dz (tm a l)
def Sj(c:ak)(a l:List Int):Ev X 31 [dMv c,cI.sl l] [EV c a] (.eN []) [EV c (a++l)]:=by
 refine Ev.bQ Tryz.func31 rfl λe=>?_
 have d:=e.sl 1 rfl;refine AK.eT en gX bD.nil [] 100 rfl av ?_;refine AK.bJ 1 (λi=>i<=l.length) (λi:Nat=>[(0,dMv c),(6,cI.sl l),(7,dI l.length),(8,dI i)]) (λi=>[EV c (a++l.take i)]) (λi=>l.length-i) 0 rfl (by simp[ag.cat,ag,aR.same]) rfl (by simp[ag.cat,ag]) rfl (by omega) ?_
 intro i hi
 by_cases h:i<l.length
 .have f:l.getD (i:Int).toNat cI.bC=l.getD i 0:=by rw[bt];rfl
  refine AK.eT en gX bD.nil [(9,ab)] 100 rfl (by simp[ag];omega) ?_
  refine AK.law (bF.Sa rfl Tryz.underlying76 Tryz.underlying3 (b:=0) rfl rfl rfl rfl) rfl rfl ?_;refine AK.eT en gX bD.nil [] 100 rfl ?_ (AK.aQ (i+1) rfl ?_ ?_ h (by omega))
  .simp[ag,bx];omega
  .simp[ag.cat,ag,aR.same]
  .rw[bu h 0,<-ij];simp only[ag.cat,ag,f,aF]
 obtain rfl:i=l.length:=by omega
 rw[bY];refine AK.eT en gX bD.nil [(9,ae)] 100 rfl (by simp[ag]) (AK.leaveD rfl rfl ?_)
 exact bZ.s9 [0] rfl (by simp[ag]) rfl rfl rfl lX
def AN(a:ak)(l:List Int) (n:Int):Ev X 34 [dI n,.e (.one (.c (.rp [.val a])))] [EV a l] (dB (!l.contains n)) [EV a l]:=by
 refine Ev.bQ Tryz.func34 rfl λd=>?_
 refine AK.eT en gX bD.nil [] 100 rfl av ?_;refine AK.law (bF.Ot rfl Tryz.underlying76 Tryz.underlying3 (λw=>Tryz.zeroValue4 w) (b:=0) rfl rfl rfl) rfl rfl ?_
 exact AK.eT en gX bD.nil [] 100 rfl av (AK.dA [0] rfl (by simp[ag]) rfl rfl rfl lX)
def H8(p:bw) (n:Int):Ev X 36 [vf p,.e (.one (.c (.rp [.int .i64 n])))] [] (dB (p.1==n)) []:=by
 refine Ev.bQ Tryz.func36 rfl λa=>?_
 exact bm rfl av (AK.bo rfl (by simp[ag]))
def EW(x:cN)(b:x.2.length<=4000000)(a:(cf x.2).length<=4000000):Ev X 33 [Ca x] [] (cI.sl (gY x)) []:=by
 refine Ev.bQ Tryz.func33 rfl λc=>?_
 refine bm rfl av ?_;refine AK.cQ (AO x b a) [] rfl ?_;exact bm rfl av (AK.bo rfl (by simp[ag,aR.same]))
end
section
open Go.Proofs
structure Sk (w:cO):Prop extends PV w.1 where
 mrk:w.2.1.length<=4000000
 lft:w.2.2.length<=4000000
def H9{l:List cN}{i:Nat}(h:i<l.length):(cf (l.getD i (0,[])).2).length<=(jz l).length:=by
 have:=CH l (i+1);rw[qM h,bG] at this;omega
def xU(k:Int)(w:cO):fx k w=(gI k w.1&&(bh w.1.2.1.length).all (λi=>!(gY (w.1.2.1.getD i (0,[]))).any λn=>!w.2.1.contains n)&&(bh w.2.2.length).all (l6 w.1.1 w.2.2)):=by
 rw[fx,Ia];cases gI k w.1 <;> simp
def CO(k:Int)(w:cO)(s:Sk w):Ev (Cx.beside ah) 16 [dI k,IT w] [] (dB (fx k w)) []:=by
 refine Ev.bQ Tryz.func16 rfl λM=>?_
 have b:bD (Cx.beside ah) [(30,yU)]:=.cons H7 .nil;have E:=cP.list_fn w.1.1;have D:=cr.list_fn w.1.2.1;have C:=cH.list_fn w.1.2.2;have r:=s.toPV;rw[xU];cases B:gI k w.1
 .exact AK.eT en gX b [(14,ab)] 100 rfl (by simp[ag,B,E,D,C,cP.aH,cr.aH,cH.aH,r]) (AK.bo rfl (by simp[ag]))
 refine AK.eT en gX b [(14,ae)] 100 rfl (by simp[ag,B,E,D,C,cP.aH,cr.aH,cH.aH,r]) ?_
 rw[dF];refine AK.Sb rfl rfl rfl λm=>?_
 refine AK.eT en gX b [] 100 rfl av ?_;refine AK.cQ (Sj m [] w.2.1) [1] rfl ?_;rw[uU];refine AK.eT en gX b [(1000005,ab)] 100 rfl av ?_;refine AK.freeze 5 2 rfl rfl rfl ?_;refine AK.eT en gX b [] 100 rfl av ?_;refine AK.bJ 3 (λi=>i<=w.1.2.1.length/\∀ j,j<i->(!(gY (w.1.2.1.getD j (0,[]))).any λn=>!w.2.1.contains n)=ab) (λi:Nat=>[(0,dI k),(3,.e (.one (.ptr 0 0))),(5,.e (.one (.c (.rp [.val m])))),(22,cr.sl w.1.2.1),(23,dI w.1.2.1.length),(24,dI i)]) (λ_=>[MS w,EV m w.2.1,.dead]) (λi=>w.1.2.1.length-i) 0 rfl (by simp[ag.cat,ag,aR.same]) rfl (by simp[ag.cat,ag,aR.same]) rfl ⟨by omega,by omega⟩ ?_
 have H:=s.sN;rintro i ⟨hi,a⟩
 by_cases h:i<w.1.2.1.length
 .have y:w.1.2.1.getD (i:Int).toNat cr.bC=w.1.2.1.getD i (0,[]):=by rw[bt];rfl
  have z:=s.sm _ (gO (d:=(0,[])) h);have J:=H9 h;have G:=s.aN;have K:=dO (p:=λj=>!(gY (w.1.2.1.getD j (0,[]))).any λn=>!w.2.1.contains n) h
  have v:=fe (p:=λj=>!(gY (w.1.2.1.getD j (0,[]))).any λn=>!w.2.1.contains n) (i:=i)
  generalize w.1.2.1.getD i (0,[])=x at *;refine AK.eT en gX b [(25,ab)] 100 rfl (by simp[ag];omega) ?_
  rw[y];refine AK.cQ (EW x z.1 (by omega)) [] rfl ?_
  refine AK.eT en gX b [] 100 rfl av ?_;refine AK.cQ (Lu (gY x) 34 [.val m] (tm m w.2.1) (λn=>!w.2.1.contains n) λn _=>AN m w.2.1 n) [1] rfl ?_
  cases t:(gY x).any λn=>!w.2.1.contains n with
  |true =>
   refine AK.eT en gX b [] 100 rfl av (AK.ee (bZ.zero rfl ?_));rw[K (by rw[t];rfl)];simp[ag]
  |false =>
   refine AK.eT en gX b [] 100 rfl ?_ (AK.aQ (i+1) rfl (by simp[ag.cat,ag,aR.same]) (by simp[ag.cat,ag,aR.same]) ⟨h,v a (by rw[t];rfl)⟩ (by omega))
   simp[ag,bx];omega
 obtain rfl:i=w.1.2.1.length:=by omega
 rw[b6.2 a,dF];refine AK.eT en gX b [(25,ae)] 100 rfl (by simp[ag]) (AK.leaveD rfl rfl ?_)
 refine AK.eT en gX b [] 100 rfl av ?_;have F:=s.lft;refine AK.bJ 3 (λi=>i<=w.2.2.length/\∀ j,j<i->l6 w.1.1 w.2.2 j=ab) (λi:Nat=>[(0,dI k),(3,.e (.one (.ptr 0 0))),(34,cI.sl w.2.2),(35,dI w.2.2.length),(36,dI i)]) (λ_=>[MS w,EV m w.2.1,.dead]) (λi=>w.2.2.length-i) 0 rfl (by simp[ag.cat,ag,aR.same]) rfl (by simp[ag.cat,ag,aR.same]) rfl ⟨by omega,by omega⟩ ?_
 rintro i ⟨hi,a⟩
 by_cases h:i<w.2.2.length
 .have y:w.2.2.getD (i:Int).toNat cI.bC=w.2.2.getD i 0:=by rw[bt];rfl
  have o:w.2.2.getD (i-1) cI.bC=w.2.2.getD (i-1) 0:=rfl;have q:l6 w.1.1 w.2.2 i=((w.1.1.any λp=>p.1==w.2.2.getD i 0)&&CE (λx=>x) 0 w.2.2 i):=rfl
  have u:=mJ (f:=λx:Int=>x) (d:=0) (l:=w.2.2) (i:=i)
  generalize w.2.2.getD i 0=n at *;generalize w.2.2.getD (i-1) 0=n' at *;have ov:bD (Cx.beside ah) [(35,mb [cP.sl w.1.1,.e (.one (.c (.fn (.func 36) [] [.rp [.int .i64 n]])))] (dB (w.1.1.any λp=>p.1==n)))]:=.cons (nw (Ls w.1.1 36 [.int .i64 n] (λp=>p.1==n) λp _=>H8 p n)) .nil
  refine AK.eT en gX b [(37,ab),(1000014,ab)] 100 rfl (by simp[ag];omega) ?_
  rw[y];refine AK.freeze 9 3 rfl rfl rfl ?_;have fin:w.1.1.any (λp=>p.1==n)=ab->CE (λx=>x) 0 w.2.2 i=ab->l6 w.1.1 w.2.2 i=ab:=λt I=>by rw[q,t,I];rfl
  by_cases A:i=0
  .subst A;cases g:w.1.1.any (λp=>p.1==n) with
   |true =>
    refine AK.eT en gX ov [(43,ae),(60,ae)] 100 rfl ?_ (AK.aQ 1 rfl (by simp[ag.cat,ag,aR.same]) (by simp[ag.cat,ag,aR.same]) ⟨h,fe a (fin g rfl)⟩ (by omega))
    simp[ag,bx,g,hZ.sl]
   |false =>
    refine AK.eT en gX ov [(43,ae),(60,ab)] 100 rfl ?_ (AK.ee (bZ.zero rfl ?_))
    .simp[ag,g,hZ.sl]
    .rw[dO h (by rw[q,g];rfl)];simp[ag]
  by_cases L:n'<n
  rotate_left
  .refine AK.eT en gX ov [(43,ab),(51,ab),(60,ab)] 100 rfl ?_ (AK.ee (bZ.zero rfl ?_))
   .simp[-ai,ag,o,bx];omega
   .rw[dO h (by grind)];simp[ag]
  cases g:w.1.1.any (λp=>p.1==n) with
  |true =>
   refine AK.eT en gX ov [(43,ab),(51,ae),(60,ae)] 100 rfl ?_ (AK.aQ (i+1) rfl (by simp[ag.cat,ag,aR.same]) (by simp[ag.cat,ag,aR.same]) ⟨h,fe a (fin g (by rw[u A];exact ck L))⟩ (by omega))
   simp[-ai,ag,o,bx,g,hZ.sl];omega
  |false =>
   refine AK.eT en gX ov [(43,ab),(51,ae),(60,ab)] 100 rfl ?_ (AK.ee (bZ.zero rfl ?_))
   .simp[-ai,ag,o,bx,g,hZ.sl];omega
   .rw[dO h (by rw[q,g];rfl)];simp[ag]
 obtain rfl:i=w.2.2.length:=by omega
 rw[b6.2 a];refine AK.eT en gX b [(37,ae)] 100 rfl (by simp[ag]) (AK.leaveD rfl rfl ?_)
 exact AK.eT en gX b [] 100 rfl av (AK.bo rfl (by simp[ag]))
abbrev yV:dg:=ow aI (Yp YH) (λk w=>dB (fx k w)) λ_ w=>[Sk w]
def Ib:dD (Cx.beside ah) 16 yV:=.qG λk w h=>CO k w h
abbrev wdB(w:ft):aW:=.cells 35 (Ww w)
def xV(w:ft):fy w=(fx w.1 w.2.1&&decide (w.2.2.2.1.length=2)&&decide (w.2.2.2.2.length=2)&&(bh 2).all (uc w)):=by
 unfold fy;cases fx w.1 w.2.1 <;> cases decide (w.2.2.2.1.length=2) <;> cases decide (w.2.2.2.2.length=2) <;> simp
def CP(w:ft)(l:Sk w.2.1):Ev (Cx.beside ah) 6 [Dl w] [] (dB (fy w)) []:=by
 refine Ev.bQ Tryz.func6 rfl λs=>?_
 have a:bD (Cx.beside ah) [(16,yV)]:=.cons Ib .nil;have n:=cP.list_fn w.2.1.1.1;have f:=cr.list_fn w.2.1.1.2.1;have m:=cH.list_fn w.2.1.1.2.2;have o:=cI.list_fn w.2.1.2.1;have g:=cI.list_fn w.2.1.2.2;rw[xV];cases k:fx w.1 w.2.1
 .exact AK.eT en gX a [(11,ab),(17,ab),(22,ab)] 100 rfl (by simp[ag.cat,ag,k,n,f,m,o,g,cP.aH,cr.aH,cH.aH,cI.aH,l]) (AK.bo rfl (by simp[ag]))
 by_cases p:w.2.2.2.1.length=2
 rotate_left
 .exact AK.eT en gX a [(11,ae),(17,ab),(22,ab)] 100 rfl (by simp[ag.cat,ag,k,n,f,m,o,g,cP.aH,cr.aH,cH.aH,cI.aH,l];omega) (AK.bo rfl (by simp[ag,dY p]))
 by_cases q:w.2.2.2.2.length=2
 rotate_left
 .exact AK.eT en gX a [(11,ae),(17,ae),(22,ab)] 100 rfl (by simp[ag.cat,ag,k,n,f,m,o,g,cP.aH,cr.aH,cH.aH,cI.aH,l];omega) (AK.bo rfl (by simp[ag,dY q]))
 refine AK.eT en gX a [(11,ae),(17,ae),(22,ae)] 100 rfl (by simp[ag.cat,ag,k,n,f,m,o,g,cP.aH,cr.aH,cH.aH,cI.aH,l];omega) ?_
 rw[ck p,ck q,dF,dF,dF];refine AK.bJ 1 (λi=>i<=2/\∀ j,j<i->uc w j=ab) (λi:Nat=>[(1,.e (.one (.ptr 0 0))),(24,cH.sl w.2.2.2.1),(25,dI w.2.2.2.1.length),(26,dI i)]) (λ_=>[wdB w]) (λi=>2-i) 0 rfl (by simp[ag.cat,ag,aR.same]) rfl (by simp[ag.cat,ag,aR.same]) rfl ⟨by omega,by omega⟩ ?_
 rintro i ⟨hi,b⟩
 by_cases h:i<2
 .have d:w.2.2.2.1.getD i cH.bC=xR w i:=rfl;have c:w.2.2.2.2.getD i cI.bC=xS w i:=rfl;have r:uc w i=(decide (0<=(xR w i).1/\(xR w i).1<=9)&&decide (0<=(xR w i).2)&&decide (0<=xS w i/\xS w i<=2)):=rfl
  by_cases t:0<=(xR w i).1
  rotate_left
  .refine AK.eT en gX a [(27,ab),(34,ab),(39,ab),(44,ab),(52,ab),(59,ab)] 100 rfl ?_ (AK.ee (bZ.zero rfl ?_))
   .simp[-ai,ag,d];omega
   .rw[dO h (by grind)];simp[ag]
  by_cases c2:(xR w i).1<=9
  rotate_left
  .refine AK.eT en gX a [(27,ab),(34,ae),(39,ab),(44,ab),(52,ab),(59,ab)] 100 rfl ?_ (AK.ee (bZ.zero rfl ?_))
   .simp[-ai,ag,d];omega
   .rw[dO h (by grind)];simp[ag]
  by_cases c3:0<=(xR w i).2
  rotate_left
  .refine AK.eT en gX a [(27,ab),(34,ae),(39,ae),(44,ab),(52,ab),(59,ab)] 100 rfl ?_ (AK.ee (bZ.zero rfl ?_))
   .simp[-ai,ag,d];omega
   .rw[dO h (by grind)];simp[ag]
  by_cases c4:0<=xS w i
  rotate_left
  .refine AK.eT en gX a [(27,ab),(34,ae),(39,ae),(44,ae),(52,ab),(59,ab)] 100 rfl ?_ (AK.ee (bZ.zero rfl ?_))
   .simp[-ai,ag,d,c];omega
   .rw[dO h (by grind)];simp[ag]
  by_cases u:xS w i<=2
  rotate_left
  .refine AK.eT en gX a [(27,ab),(34,ae),(39,ae),(44,ae),(52,ae),(59,ab)] 100 rfl ?_ (AK.ee (bZ.zero rfl ?_))
   .simp[-ai,ag,d,c];omega
   .rw[dO h (by grind)];simp[ag]
  refine AK.eT en gX a [(27,ab),(34,ae),(39,ae),(44,ae),(52,ae),(59,ae)] 100 rfl ?_ (AK.aQ (i+1) rfl (by simp[ag.cat,ag,aR.same]) (by simp[ag.cat,ag,aR.same]) ⟨h,fe b (by grind)⟩ (by omega))
  simp[-ai,ag,d,c,bx];omega
 obtain rfl:i=2:=by omega
 rw[b6.2 b];refine AK.eT en gX a [(27,ae)] 100 rfl (by simp[ag];omega) (AK.leaveD rfl rfl ?_)
 exact AK.eT en gX a [] 100 rfl av (AK.bo rfl (by simp[ag]))
end
section
open Go.Proofs
section
variable {X:Cx ah} [X.jH]
set_option maxRecDepth 20000 in
def A3(m:Nat)(b:Nat->Int)(a:Bytes b)(g:m<=1048576) :
  cD (ι:=P2 0) X 8 [.e (.one (.c (.sl ae 1 m (RG b))))] [] (λq=>Dl q.w) (λ_=>[]):=by
 refine cD.gy tok Tryz.func8 rfl rfl rfl λh=>?_
 refine bm rfl av ?_;refine AK.cP (OK m b g) [] rfl (λ_=>rfl) ?_
 rintro⟨f,hm'⟩;refine bm rfl av ?_;refine AK.cP (E9 f b a 0 (by omega) hm') [1] rfl (λ_=>rfl) ?_
 intro q;refine bm rfl av ?_;refine AK.rK 3 rfl rfl rfl (by simp[ag.cat,ag]) (by simp[ag.cat,ag]) ?_
 refine AK.rK 4 rfl rfl rfl (by simp[ag.cat,ag]) (by simp[ag.cat,ag]) ?_
 refine AK.dk q [] rfl rfl rfl rfl rfl rfl rfl rfl ?_ rfl rfl rfl rfl (λj d=>absurd d (by simp))
 simp[ag.cat,ag,aR.same,uy]
structure VR where
 q:P2 0
 z:Bool
def VR.w(q:VR):ft:=if q.z=ab then (q.q.w.1,(q.q.w.2.1.1,q.q.w.2.1.2.1,q.q.w.2.1.2.2++[9]),q.q.w.2.2) else q.q.w
end
def tw.uk{k:Int}{s:a9}(h:tw k s):wX s:=by
 have a:=h.VA;have hl:=A4.of h.log;exact⟨a.LO,h.pa,a.OG.s,λx b=>(hl.h x b).1⟩
def kH{w:ft}(h:fy w=ab):LN w.1 w.2.1:=by
 simp only[fy,bO] at h;exact ug.1 h.2
def mZ(w:ft):a9:=if fy w=ab then sF w.2.1.1 w.2.2.1 else ([],[],[])
variable {X:Cx ah}
def Ix(w:ft)(g:OE w.2.1.1):Ev X 11 [Dl w] [] (ey (mZ w)) []:=by
 refine Ev.iV tok Tryz.func11 rfl rfl rfl λh=>?_
 have d:=ud (X:=X) w g;have e:bD X [(7,mb [Dl w] (dB (fy w)))]:=.cons (nw d) .nil;unfold mZ;cases c:fy w with
 |false =>
  refine aE e [(5,ab)] 100 rfl (by simp[ag,c]) ?_
  refine AK.dk () [] rfl rfl rfl rfl rfl rfl rfl rfl ?_ rfl rfl rfl rfl (λj a=>absurd a (by simp))
  simp[ag.cat,ag,aR.nil]
 |true =>
  have f:=(C9 (X:=X) (kH c).uk w.2.2.1).b;have ov:bD X [(7,mb [Dl w] (dB (fy w))),(23,mb [ey w.2.1.1,gb w.2.2.1] (ey (sF w.2.1.1 w.2.2.1)))]:=.cons (nw d) (.cons (nw f) .nil);rw[bg rfl];refine aE ov [(5,ae)] 100 rfl (by simp only[ag,c,fH,aG,aF];and_intros <;> rfl) ?_
  refine AK.dk () [] rfl rfl rfl rfl rfl rfl rfl rfl ?_ rfl rfl rfl rfl (λj a=>absurd a (by simp))
  simp[ag.cat,ag,aR.same]
def Iy(w:ft)(g:Sk w.2.1):Ev (Cx.beside ah) 9 [Dl w] [] (ey (mZ w)) []:=by
 refine Ev.iV tok Tryz.func9 rfl rfl rfl λh=>?_
 have d:=CP w g;have e:bD (Cx.beside ah) [(6,mb [Dl w] (dB (fy w)))]:=.cons (nw d) .nil;unfold mZ;cases c:fy w with
 |false =>
  refine aE e [(5,ab)] 100 rfl (by simp[ag,c]) ?_
  refine AK.dk () [] rfl rfl rfl rfl rfl rfl rfl rfl ?_ rfl rfl rfl rfl (λj b=>absurd b (by simp))
  simp[ag.cat,ag,aR.nil]
 |true =>
  have f:=(tF (X:=Cx.beside ah) (kH c).uk w.2.2.1).a;have ov:bD (Cx.beside ah) [(6,mb [Dl w] (dB (fy w))),(12,mb [ey w.2.1.1,gb w.2.2.1] (ey (sF w.2.1.1 w.2.2.1)))]:=.cons (nw d) (.cons (nw f) .nil);rw[bg rfl];refine aE ov [(5,ae)] 100 rfl (by simp only[ag,c,fH,aG,aF];and_intros <;> rfl) ?_
  refine AK.dk () [] rfl rfl rfl rfl rfl rfl rfl rfl ?_ rfl rfl rfl rfl (λj b=>absurd b (by simp))
  simp[ag.cat,ag,aR.same]
end
def y7(v:Int)(s:x3):(js v s).2.1=s.1/\(js v s).2.2.1=s.2.1:=by
 unfold js
 grind
def TW.VS{n:Nat}{w:cO}(h:TW n w)(hn:n<=1000000):Sk w:=⟨h.s.tolj.YJ,by have:=h.m;omega,by have:=h.l;omega⟩
def P2.VS{k:Nat}(q:P2 k):Sk q.w.2.1:=by
 have h:=q.hn;rw[(y7 q.v (fO q.es)).1];exact(sE q.es).w.VS (by omega)
def VR.VS(q:VR):Sk q.w.2.1:=by
 have h:=q.q.VS;unfold VR.w;split
 .refine⟨h.toPV,h.mrk,?_⟩;have h2:=q.q.hn;have b:=(sE q.q.es).w.l;have a:=(y7 q.q.v (fO q.q.es)).1
  grind
 .exact h
section
open Go.Proofs
variable {X:Cx ah}
def Hy(l:List Int):Ev X 40 [cI.sl l,cI.sl l] [] (dB ab) []:=by
 refine Ev.bQ Tryz.func40 rfl λa=>?_
 have b:=a.sl 0 rfl;refine aX [(10,ae)] 100 rfl (by simp[ag]) ?_
 refine AK.bJ 0 (λi=>i<=l.length) (λi:Nat=>[(0,cI.sl l),(1,cI.sl l),(5,dI i)]) (λ_=>[]) (λi=>l.length-i) 0 rfl (by simp[ag.cat,ag,aR.same]) rfl (by simp[ag]) rfl (by omega) ?_
 intro i hi
 by_cases h:i<l.length
 .refine aX [(14,ab),(25,ae)] 200 rfl ?_ (AK.aQ (i+1) rfl ?_ ?_ ?_ ?_)
  .simp only[ag,bx,ef,fH,kX,bd,aG,aF];and_intros <;> omega
  .simp[ag.cat,ag,aR.same]
  .simp[ag]
  .show i+1<=_;omega
  .omega
 .refine aX [(14,ae)] 200 rfl (by simp[ag];omega) (AK.leaveD rfl rfl ?_)
  refine dE rfl av (AK.bo rfl ?_);simp[ag]
abbrev Vm:dg:=ow (aL cI) (aL cI) (λ_ _=>dB ab) λa b=>[b=a]
def Yw:dD X 40 Vm:=.qG λa b h=>by
 have:b=a:=h;subst this;exact Hy _
def Ld(l:List (Int×Int)):Ev X 20 [cH.sl l,cH.sl l] [] (dB ab) []:=by
 refine Ev.bQ Tryz.func20 rfl λa=>?_
 have b:=a.sl 0 rfl;refine aX [(10,ae)] 100 rfl (by simp[ag]) ?_
 refine AK.bJ 0 (λi=>i<=l.length) (λi:Nat=>[(0,cH.sl l),(1,cH.sl l),(5,dI i)]) (λ_=>[]) (λi=>l.length-i) 0 rfl (by simp[ag.cat,ag,aR.same]) rfl (by simp[ag]) rfl (by omega) ?_
 intro i hi
 by_cases h:i<l.length
 .refine aX [(14,ab),(25,ae)] 200 rfl ?_ (AK.aQ (i+1) rfl ?_ ?_ ?_ ?_)
  .simp[ag,bx,h];omega
  .simp[ag.cat,ag,aR.same]
  .simp[ag]
  .show i+1<=_;omega
  .omega
 .refine aX [(14,ae)] 200 rfl (by simp[ag];omega) (AK.leaveD rfl rfl ?_)
  refine dE rfl av (AK.bo rfl ?_);simp[ag]
abbrev Vn:dg:=ow (aL cH) (aL cH) (λ_ _=>dB ab) λa b=>[b=a]
def Yx:dD X 20 Vn:=.qG λa b h=>by
 have:b=a:=h;subst this;exact Ld _
abbrev pB(p:bw):aW:=.cells 55 [.c (.int .i64 p.1),.c (.sl ae 2 p.2.length (dx.fn p.2))]
def Hz(p:bw):Ev X 21 [vf p,vf p] [] (dB ab) []:=by
 refine Ev.bQ Tryz.func21 rfl λl=>?_
 by_cases q:p.2.length<=9223372036854775807
 .refine aX [(10,ae),(18,ae)] 100 rfl (by simp[ag]) ?_
  refine AK.bJ 2 (λi=>i<=p.2.length) (λi:Nat=>[(2,.e (.one (.ptr 0 0))),(3,.e (.one (.ptr 1 0))),(5,dI i)]) (λ_=>[pB p,pB p]) (λi=>p.2.length-i) 0 rfl (by simp[ag.cat,ag]) rfl (by simp[ag.cat,ag,aR.same]) rfl (by omega) ?_
  intro i hi
  by_cases h:i<p.2.length
  .refine aX [(24,ab),(37,ae)] 200 rfl ?_ (AK.aQ (i+1) rfl ?_ ?_ ?_ ?_)
   .simp[ag,bx,h];omega
   .simp[ag.cat,ag]
   .simp[ag.cat,ag,aR.same]
   .show i+1<=_;omega
   .omega
  .refine aX [(24,ae)] 200 rfl (by simp[ag];omega) (AK.leaveD rfl rfl ?_)
   refine dE rfl av (AK.bo rfl ?_);simp[ag]
 .exfalso;obtain⟨s,vs,g,_⟩:=l;obtain⟨n,k⟩:∃ v,c8 [] s v (vf p):=by
   match vs,g with
   |[a,_],g=>exact⟨a,g.1⟩
  obtain⟨m,_,d⟩:=k
  match m,d with
  |[a,c],d =>
   have:=d.2.1;cases (show Rd s.M c (.sl ae 2 p.2.length (dx.fn p.2)) from this) with
   |sl b off f j o=>omega
abbrev Vo:dg:=ow (B7 dx) (B7 dx) (λ_ _=>dB ab) λa b=>[b=a]
def Yy:dD X 21 Vo:=.qG λa b h=>by
 have:b=a:=h;subst this;exact Hz _
abbrev sB(p:cN):aW:=.cells 59 [.c (.int .i64 p.1),.c (.sl ae 2 p.2.length (cL.fn p.2))]
def HA(x:cN)(c:x.2.length<=4000000):Ev X 22 [Ca x,Ca x] [] (dB ab) []:=by
 refine Ev.bQ Tryz.func22 rfl λb=>?_
 have a:bD X [(40,Vm)]:=.cons Yw .nil;refine aE a [(10,ae),(18,ae)] 100 rfl (by simp[ag]) ?_
 refine AK.bJ 2 (λi=>i<=x.2.length) (λi:Nat=>[(2,.e (.one (.ptr 0 0))),(3,.e (.one (.ptr 1 0))),(5,dI i)]) (λ_=>[sB x,sB x]) (λi=>x.2.length-i) 0 rfl (by simp[ag.cat,ag]) rfl (by simp[ag.cat,ag,aR.same]) rfl (by omega) ?_
 intro i hi
 by_cases h:i<x.2.length
 .refine aE a [(24,ab),(39,ae),(53,ab)] 200 rfl ?_ (AK.aQ (i+1) rfl ?_ ?_ ?_ ?_)
  .simp only[ag,bx,ef,fH,kX,bd,aG,aF];and_intros <;> first|exact cI.aH _|omega
  .simp[ag.cat,ag]
  .simp[ag.cat,ag,aR.same]
  .show i+1<=_;omega
  .omega
 .refine aE a [(24,ae)] 200 rfl (by simp[ag];omega) (AK.leaveD rfl rfl ?_)
  refine aE a [] 200 rfl av (AK.bo rfl ?_);simp[ag]
abbrev Vp:dg:=ow (B7 cL) (B7 cL) (λ_ _=>dB ab) λa b=>[b=a,b.2.length<=4000000]
def Yz:dD X 22 Vp:=.qG λa b h=>by
 obtain⟨rfl,c⟩:b=a/\_:=h;exact HA _ c
abbrev Ol(s:a9):aW:=.cells 27 [.c (.sl ae 2 s.1.length (cP.fn s.1)),.c (.sl ae 2 s.2.1.length (cr.fn s.2.1)),.c (.sl ae 2 s.2.2.length (cH.fn s.2.2))]
def EA(s:a9)(b:dL s):Ev X 10 [ey s,ey s] [] (dB ab) []:=by
 refine Ev.bQ Tryz.func10 rfl λj=>?_
 have a:bD X [(20,Vn),(21,Vo),(22,Vp)]:=.cons Yx (.cons Yy (.cons Yz .nil));have d:=b.p;have g:=b.sn;refine aE a [(13,ae),(21,ae),(28,ab)] 200 rfl ?_ ?_
 .simp only[ag,bx,ef,fH,kX,bd,aG,aF];and_intros <;> first|exact cH.aH _|omega
 refine AK.bJ 2 (λi=>i<=s.1.length) (λi:Nat=>[(2,.e (.one (.ptr 0 0))),(3,.e (.one (.ptr 1 0))),(5,dI i)]) (λ_=>[Ol s,Ol s]) (λi=>s.1.length-i) 0 rfl (by simp[ag.cat,ag]) rfl (by simp[ag.cat,ag,aR.same]) rfl (by omega) ?_
 intro i hi
 by_cases h:i<s.1.length
 .refine aE a [(35,ab),(48,ab)] 200 rfl ?_ (AK.aQ (i+1) rfl ?_ ?_ ?_ ?_)
  .simp only[ag,bx,bd,aG,aF];and_intros <;> first|exact dx.aH _|omega
  .simp[ag.cat,ag]
  .simp[ag.cat,ag,aR.same]
  .show i+1<=_;omega
  .omega
 refine aE a [(35,ae)] 200 rfl (by simp[ag];omega) (AK.leaveD rfl rfl ?_)
 refine aE a [] 200 rfl av ?_;refine AK.bJ 2 (λi=>i<=s.2.1.length) (λi:Nat=>[(2,.e (.one (.ptr 0 0))),(3,.e (.one (.ptr 1 0))),(6,dI i)]) (λ_=>[Ol s,Ol s]) (λi=>s.2.1.length-i) 0 rfl (by simp[ag.cat,ag]) rfl (by simp[ag.cat,ag,aR.same]) rfl (by omega) ?_
 intro i hi
 by_cases h:i<s.2.1.length
 .have f:=(b.s2 _ (iD h (0,[]))).1;have c:s.2.1.getD (i:Int).toNat cr.bC=s.2.1.getD i (0,[]):=by rw[bt];rfl
  refine aE a [(54,ab),(67,ab)] 200 rfl ?_ (AK.aQ (i+1) rfl ?_ ?_ ?_ ?_)
  .simp only[ag,bx,c,cL.list_fn,bd,aG,aF];and_intros <;> first|exact cL.aH _|omega
  .simp[ag.cat,ag]
  .simp[ag.cat,ag,aR.same]
  .show i+1<=_;omega
  .omega
 refine aE a [(54,ae)] 200 rfl (by simp[ag];omega) (AK.leaveD rfl rfl ?_)
 refine aE a [] 200 rfl av (AK.bo rfl ?_);simp[ag]
end
section
open Go.Proofs
abbrev XW:Cx ah:=Cx.beside ah
def ID{s:a9}{l:c6}(h:l.1=0):sF s l=s:=by
 unfold sF;rw[aY (by omega),aY (by omega),aY (by omega),aY (by omega)]
def Dd{w:ft}:dL (mZ w):=by
 unfold mZ;split
 .rename_i h;exact(tF (X:=XW) (kH h).uk w.2.2.1).z
 .exact⟨by simp,by simp,by simp,by simp[jQ],by simp⟩
def tf(m:Nat)(b:Nat->Int)(t:Bytes b)(z:m<=9223372036854775807):Ev XW 4 [.e (.one (.c (.sl ae 1 m (RG b))))] [] (dB ab) []:=by
 refine Ev.bQ Tryz.func4 rfl λy=>?_
 by_cases x:m>1048576
 .refine aX [(7,ab)] 100 rfl (by simp only[ag,bd];omega) (AK.bo rfl (by simp[ag]))
 refine aX [(7,ae)] 100 rfl (by simp only[ag,bR];omega) ?_
 refine AK.cP (A3 m b t (by omega)) [] rfl (λ_=>rfl) ?_
 intro q;have p:=q.VS;generalize q.w=w at *;have r:=Dd (w:=w);have g:fy w=ab->sF w.2.1.1 w.2.2.1=mZ w:=λh=>by unfold mZ;rw[bg h]
 have i:=Iy w p;have j:=Ix (X:=XW) w p.toOE;have l:=ud (X:=XW) w p.toOE;have f:=EA (X:=XW) (mZ w) r;generalize mZ w=s at *;cases d:fy w with
 |false =>
  have n:bD XW [(9,mb [Dl w] (ey s)),(11,mb [Dl w] (ey s)),(7,mb [Dl w] (dB (fy w))),(10,mb [ey s,ey s] (dB ab))]:=.cons (nw i) (.cons (nw j) (.cons (nw l) (.cons (nw f) .nil)));refine aE n [(17,ae),(21,ab)] 200 rfl ?_ (AK.bo rfl ?_)
  .simp only[ag,d,aG,aF]
   and_intros <;> rfl
  .simp[ag]
 |true =>
  have k:=(tF (X:=XW) (kH d).uk w.2.2.1).a;rw[g d] at k;have n:bD XW [(9,mb [Dl w] (ey s)),(11,mb [Dl w] (ey s)),(7,mb [Dl w] (dB (fy w))),(10,mb [ey s,ey s] (dB ab)),(12,mb [ey w.2.1.1,gb w.2.2.1] (ey s))]:=.cons (nw i) (.cons (nw j) (.cons (nw l) (.cons (nw f) (.cons (nw k) .nil))))
  by_cases o:w.2.2.1.1=0
  .have u:w.2.1.1=s:=by rw[<-g d,ID o]
   refine aE n [(17,ae),(21,ae),(34,ab),(39,ae)] 200 rfl ?_ (AK.bo rfl ?_)
   .have v:([ey s,ey w.2.1.1]:List D)=[ey s,ey s]:=by rw[u]
    simp only[ag,d,aG,aF]
    and_intros <;> first|rfl|exact v|(simp;exact o)
   .simp[ag]
  .refine aE n [(17,ae),(21,ae),(34,ab),(39,ab)] 200 rfl ?_ (AK.bo rfl ?_)
   .simp only[ag,d,aG,aF]
    and_intros <;> first|rfl|(simp;exact o)
   .simp[ag]
end
end Go.AM.R1
namespace Go.AM
section
open Go.RowKit
open Go.Conc (G solo crowd AtRel Past EvL Leavers)
def St.top(w:az):St:={ β:=[],M:=λb o=>w.cell? ⟨b,o,af⟩,w:=w,own:=λb=>b<w.heap.size }
def aJ.top(w:az):aJ [] (St.top w):=⟨λ_ _ _ h=>h,rfl,by simp,by simp[St.top],by simp[St.top],λb hb=>⟨hb,by simp[St.top]⟩⟩
def Rb{P:aq}{f:aV}{a:aO}{v:ak}{s:St}(h:uq P f a v s)(hi:P.inits.idxOf? f=af)(w:az)(k:∀ b o u,s.M b o=aa u->w.cell? ⟨b,o,af⟩=aa u):∃ es,aK P ab (G a []) w=.ended (.done v) w es/\∀ e∈es,∃ b o u,e=⟨.cell ⟨b,o,af⟩,ae,ae⟩/\s.M b o=aa u:=by
 obtain⟨fn,j,c⟩:=h.fn;obtain⟨g,i⟩:=c w k;refine⟨seen P a.fn ((results fn a.tmps).events P w #[]),?_,λe l=>i e (Go.Conc.mem_seen l)⟩
 have d:P.inits.idxOf? a.fn=af:=by rw[h.isF];exact hi
 simp[G,aK,unwind,doReturn,h.mode,h.defers,h.kind,j,g,d,GStep.after]
def cD.X5{P:aq}{ι:Type}{f:aV}{args:List D}{res:ι->D}{σ':ι->List aW}(h:cD (Cx.beside P) f args [] res σ')(hi:P.inits.idxOf? f=af){w:az}{vs:List ak}(I:cv [] (St.top w) vs args){Post:ak->az->Prop}
  (x:∀ i v s',c8 (σ' i) s' v (res i)->aJ (σ' i) s'->Below w.heap.size w s'.w->∀ d,Post v (s'.w.at d)) :
  ∃ M last o w' t',runNT P (M+1) (solo (G (Frame.enter P f vs.toArray .normal) []) w) #[]=(.ended o w',t')/\runN P M (solo (G (Frame.enter P f vs.toArray .normal) []) w)=.next last /\
   step P last=.ended o w'/\Go.Conc.Good P Post last o w' t':=by
 have key:=h.2 (St.top w) vs I (aJ.top w) (λg s'=>∃ i v fr,g=G fr []/\uq P f fr v s'/\c8 (σ' i) s' v (res i)/\aJ (σ' i) s'/\Below w.heap.size w s'.w) []
  (λi fr v s' h1 h2 h3 h4=>.stop ⟨i,v,fr,rfl,h1,h2,h3,⟨h4.os,h4.tape,h4.output,h4.size,λk E=>h4.eB k E⟩⟩)
 have K:AM.lL (λ_=>False)=λ_=>False:=by funext l;cases l <;> rfl
 obtain⟨N,q,r,g',s',c,t',T,h1,h2,h3,h4,R,H,S,⟨i,v,fr,rfl,k1,F,t,L⟩⟩:=key.beside (λ_=>False) #[G (Frame.enter P f vs.toArray .normal) []] af #[] (λ_=>0) (aJ.top w).mem rfl (Go.Conc.leavers_one P _)
  (by rw[K];exact Go.Conc.past_nil.mono (gh _)) ⟨λ_ h=>h.elim,λ_ h=>h.elim,λ_ h=>h.elim,λ_ h=>h.elim⟩ (λa=>by intro i hi;simp[Trace.act?] at hi)
 have j:=Go.Conc.beside_ends (P:=P) (Shun:=AM.lL q) (B:=s'.w.heap.size) (D:=λ_ _ _=>False) (Post:=Post) (λ_ _ _ h=>h.elim) (sl:=c) (n:=0) h3 h4 R (Go.Conc.Goes.stop λw1 Qh=>by
  obtain⟨d,rfl⟩:=Qh;obtain⟨es,e1,e2⟩:=Rb k1 hi (s'.w.at d) (λb o u m=>h2 b o u m)
  refine⟨rfl,v,es,e1,λe y=>?_,x i v s' F t L d⟩
  obtain⟨b,o,u,rfl,m⟩:=e2 e y;refine Go.Conc.evL_cell _ _ (λO=>?_) (gw.lt h2 m)
  have:=H.M b O o;rw[m] at this;cases this)
 obtain⟨p,last,o,w',J,z,A,Q,C⟩:=j;refine⟨N+p,last,o,w',J,?_,?_,Q,C⟩
 .rw[show N+p+1=N+(p+1) by omega]
  exact(runNT_add N (p+1) h1).trans z
 .have e:=runNT_fst P N (crowd #[G (Frame.enter P f vs.toArray .normal) []] w af) #[];have s:(runNT P N (crowd #[G (Frame.enter P f vs.toArray .normal) []] w af) #[]).1=.next (crowd r s'.w c):=by
   have:runNT P N (crowd #[G (Frame.enter P f vs.toArray .normal) []] w af) #[]=_:=h1;rw[this]
  rw[s] at e;rw[Go.Conc.solo_eq_crowd,runN_add,<-e];exact A
end
section
open Go.ChangeShapes Go.WideShapes Go.ChangeAt Go.RowKit
def Cg{H:Type}{enc:ar×ak->H}{a:Assume}{C:Checked}{os:Os}{f:aV}{fn:Func}{s:ChangeSpec}{g:List PathCond}{apart fresh handsOn again:Bool}{X:az->Array ak->Prop}
  (J:∀ (w w':az) (args:Array ak),w.heap=w'.heap->X w args->X w' args)
  (own:ownKnob C.prog.godebug=af) (h:os.Started) (r:C.prog.funcs[f]?=aa fn)
  (d:∃ (w:az) (b:Tape) (i:Input),w.os=os/\(w.forCall b i).Shaped C.prog/\i.vars=[]/\Input.okWide C.prog (w.forCall b i) .any w.heap.size f i /\
   ((s.pre enc C.prog fn g apart (w.forCall b i).memory i.args/\X (w.forCall b i).memory i.args)/\sizedMet enc C.prog fn (OpenSpec.ofChange s) apart (w.forCall b i).memory i.args)/\a.holds C.prog (lone (Frame.enter C.prog f i.args .normal) [] (w.forCall b i)))
  (l:∀ (W:az) (base:Nat) (args:Array ak) (ds gs:List (DataW H)) (c:List MemPlace),
   (∀ (j:Nat) t v,fn.params[j]?=aa t->args[j]?=aa v->Value.okWide C.prog W .any base t v) ->
   DataW.Whole enc C.prog fn.params.toList s.vars apart W args.toList ds gs c ->
   ∃ M last o w' t',runNT C.prog (M+1) (Conc.solo (Conc.G (Frame.enter C.prog f args .normal) []) W) #[]=(.ended o w',t')/\runN C.prog M (Conc.solo (Conc.G (Frame.enter C.prog f args .normal) []) W)=.next last /\
    step C.prog last=.ended o w'/\Conc.Good C.prog (λv D=>s.post enc C.prog fn apart fresh handsOn again W args v D) last o w' t') :
  ReturnsInLeavingWide a C os f .any (λw args=>(s.pre enc C.prog fn g apart w args/\X w args)/\sizedMet enc C.prog fn (OpenSpec.ofChange s) apart w args) (s.post enc C.prog fn apart fresh handsOn again):=by
 refine returnsInLeavingWide_of_good own h d ?_;intro w b i _ _ _ x m p;obtain⟨_,_,_,q,k,_,_,_,_,n⟩:=x;have e:q=fn:=ra (k.symm.trans r);subst e;obtain⟨⟨⟨ds,gs,c,B,L⟩,I⟩,K⟩:=m;have u:=DataW.Whole.of_heap (w':=w.forCall b i) (by rfl) B
 obtain⟨M,last,o,w',t',z,A,E,F⟩:=l (w.forCall b i) w.heap.size i.args ds gs c n u;exact⟨M,last,o,w',t',z,A,E,F.mono λv y=>ChangeSpec.post_blind y⟩
def Hn(l:Looks){p:Pinned}{s:OpenSpec}{c:OpenClaim}(n:List (List PathCond))(kinds:List LaidKind)(a:Bool)(b:Bool×String)(d:Bool)
  (y:c.holds p s) (m:∀ D∈n,(c.withDomain D).holds p s) (w:c.wfByText s=ab) (k:∀ D∈n,(c.withDomain D).wfByText s=ab)
  (g:c.laidByTextAt l p kinds a)
  (e:c.start=.entering) (i:c.noBlocks=ae/\c.again=ae) (v:p.checked.prog.mainIs=aa (b.1,b.2.toList)) (x:(!b.1&&b.2.isEmpty&&!d)=ae)
  (u:∀ f fn,p.checked.prog.funcNamed c.func=aa f->p.checked.prog.funcs[f]?=aa fn->d=p.checked.prog.looks []/\∀ (j:Nat) t,fn.params[j]?=aa t->p.checked.prog.wantsStandIn t=ae)
  (z:ab=c.goesBy p.checked.prog) :
  Claim7.holds p (.plain s) { stood:={ row:=c,standIns:=[],harness:=b,looks:=d },kinds:=[],alts:=n,goes:=ab,laidByText:=ab,laidKinds:=kinds,laidTests:=a,laidLooks:=l }:=by
 have q:∀ r:OpenClaim,Claim7.isSixth { stood:={ row:=r,standIns:=[],harness:=b,looks:=d },kinds:=[] }=ae:=λr=>by simpa[Claim7.isSixth] using x
 refine⟨Claim7.tied_new_at l kinds a (Claim7.new_of_sixth y b d e i v (q c) u) w,λD o=>?_,g,(λh=>by cases h),z⟩
 exact Claim7.tied_new_at l kinds a (Claim7.new_of_sixth (m D o) b d e i v (q _) u) (k D o)
end
end Go.AM
