/- Part 6. No condition. -/
import Derived.Test.YtnfgfnpbmbalmaaGreatDoorA5
import Derived.Conc.LeavingOf
import Derived.Below
import Derived.ProofKit
import Derived.OpenShut
import Derived.OpenVars
import Derived.LaidMore
import Derived.Lay
import Derived.SevenTiedAt
set_option linter.all false
set_option maxHeartbeats 8000000
open Go renaming Value → ak
open Option renaming some → aa
open Go renaming Program → aq
open Go renaming TypeId → ar
open Bool renaming true → ab
open Go renaming Frame → aR
open Go renaming Oper → aw
open Go renaming FuncId → aW
open Go renaming execOp → ay
open Go renaming Operand → an
open Option renaming none → af
open Bool renaming false → ae
open Go renaming undef → aj
open Go.World renaming cell? → a9
open List renaming getD_eq_getElem?_getD → ai
open Go.Sem renaming events_bind → aO
open Go.Result renaming evThen_ok → aU
open Go renaming World → az
open Go renaming stepG → aK
open List renaming range → bh
open Nat renaming beq → aG
open Nat renaming ble → bo
open Go.Proofs.Tryz renaming prog → ah
namespace Go.AM
section
open Go.Conc (G)
def Dw{P:aq}{T:List (Nat×TI)}(L:db P T){o:aw}{Y:an->D}{σ:List aV}{t:ar}{n:Nat}{parts:Array (Nat×an)}(h:o.op=.buildSlice t n parts){k:Nat}{es:List (List C)}
  (a:Dx T Y t n parts.toList=aa (k,es)) {i:TI} {E:ar} (hi:bE T t=aa i) (hd:i.desc=.slice E) {s:St} {ρ:an->ak} (hr:∀ y,c8 σ s (ρ y) (Y y)) :
  ∃ f:List ak,Flat s.M k n (λi=>es.getD i []) f/\n<=16777216/\0<k/\(ay ρ o).run P s.w=.ok (.value (.slice (aa ⟨s.w.heap.size,0,af⟩) n n)) (s.newRow E f).w/\(ay ρ o).events P s.w #[]=#[]:=by
 unfold Dx at a
 .simp only[hi,hd] at a
  .skip
   cases O:bE T E with
   |none=>grind
   |some ie =>
    simp only[O] at a;cases S:aG ie.size 0 with
    |true=>grind
    |false =>
     simp only[S] at a;cases H:bo (n*ie.size) 16777216 with
     |false=>grind
     |true =>
      simp only[H] at a;cases g:nL Y parts.toList with
      |none=>grind
      |some ps =>
       simp only[g] at a;cases I:vp (λk=>aa (k*ie.size,ie.size)) ps (List.replicate (n*ie.size) A.any) with
       |none=>grind
       |some cs =>
        simp only[I] at a;cases F:gk cs with
        |none=>grind
        |some r =>
         simp only[F] at a;cases J:qx ie.size n r with
         |none=>grind
         |some es' =>
          simp only[J,de,k7] at a;obtain⟨rfl,rfl⟩:=a;have hz0:ie.size≠0:=λe=>by rw[e] at S;cases S
          have G:=c7 H;obtain⟨inf,z,z1,z2,z3,z4,Z,z6,z7⟩:=(L E ie O).info;have hzs:z.cells.size=ie.size:=by
           have:=dn List.length Z
           grind
          have hzc:∀ v∈z.cells.toList,cX v=ab:=by
           intro v Q;have b:qg v∈z.cells.toList.map qg:=pJ.2 ⟨v,Q,rfl⟩;rw[Z] at b;obtain⟨c,_,hc⟩:=pJ.1 b;exact(Rd.qg (M:=s.M) hc.symm).cell
          have j:∀ m,(∀ v∈(bh m).map (λq=>z.cells[q % z.cells.size]!),cX v=ab):=by
           grind [Nat.mod_lt]
          have l:∀ vs:List ak,(∀ v∈vs,cX v=ab)->dM σ s vs (List.replicate vs.length A.any):=by
           intro vs
           induction vs with
           |nil=>intro _;trivial
           |cons v vs ih=>intro Q;exact⟨Q v (by simp),ih λu R=>Q u (by grind)⟩
          obtain⟨p1,p2⟩:=pR (σ:=σ) (s:=s) hr g;have W:dM σ s ((Array.range (n*ie.size)).map (λq=>z.cells[q % z.cells.size]!)).toList (List.replicate (n*ie.size) A.any):=by
           have:=l _ (j (n*ie.size));simpa using this
          obtain⟨f,u1,u2⟩:=rA (σ:=σ) (s:=s) (place':=λk=>aa (k*ie.size,ie.size)) (λk p hk=>hk) I p1 p2 W
          have u3:=ki F u2;obtain⟨c1,c2⟩:=sM (M:=s.M) (vs:=f.toList) J (by simpa using u3.length) u3.closed
          refine⟨f.toList,c2,eK (qV n (by omega)) G,by omega,?_,?_⟩
          rotate_left
          .simp only[ay,h];exact cN.bind cN.buildSlice (λ_=>cN.pure) _ _
          .have R:=(L t i hi).run_underlying (w:=s.w);rw[hd] at R;have V:(zeroValue E).run P s.w=.ok z s.w:=by simp[zeroValue,typeInfo,z1,z4]
           have d:Instr.fill (λk=>aa (k*ie.size,ie.size)) ((Array.range (n*ie.size)).map (λq=>z.cells[q % z.cells.size]!)) (parts.map λ(i,x)=>(i,ρ x)).toList=aa f:=by simpa using u1
           by_cases h0:n*ie.size=0
           .have U:n=0:=by grind [Nat.mul_eq_zero]
            subst U;have B:Array.range 0=#[]:=rfl;simp[B] at d;simp[ay,h,Instr.buildSlice,R,(L E ie O).run_sizeOf,B,d,Go.newRow,St.newRow]
           .rw[show ay ρ o=(do pure (.value (<-Instr.buildSlice t n (parts.map λ(i,x)=>(i,ρ x))))) by simp[ay,h]]
            simp only[Instr.buildSlice,bX,R,b8,(L E ie O).run_sizeOf,h0,b9,V,show ¬n*ie.size>2 ^ 24 by omega,pK,d,cW]
            simp[Go.newRow,St.newRow]
section
variable {P:aq}{X:Cx P}{N:Nat}{Qf:Post}{K:List It}{φ:Fr}{σ:List aV}{all rest:List aw}{o:aw}
def AK.Jc{T:List (Nat×TI)}(p:db P T){t:ar}{n:Nat}{parts:Array (Nat×an)}(h:o.op=.buildSlice t n parts){k:Nat}{es:List (List C)}{i:TI}{E:ar}(hi:bE T t=aa i)(r:i.desc=.slice E)
  (j:Dx T (bZ φ) t n parts.toList=aa (k,es)) (x:o.guard=af) (A:gw N o.dst=ab)
  (kk:AK X N Qf (.ops all rest::K) .normal (lA o.dst (.e (.one (.bp σ.length (.sl n k 0 n)))) φ) (σ++[.buf E k n (λi=>es.getD i [])])):AK X N Qf (.ops all (o::rest)::K) .normal φ σ:=by
 refine AK.hand (ι:=Unit) (λ_=>.e (.one (.bp σ.length (.sl n k 0 n)))) (λ_=>σ++[.buf E k n (λi=>es.getD i [])]) x A (λs a u hh=>?_) λ_=>kk
 obtain⟨f,c,hn,D,d,l⟩:=Dw (σ:=σ) (s:=s) (ρ:=a.eval) p h j hi r (λy=>dN u y)
 have q:eO (σ++[.buf E k n (λi=>es.getD i [])]) { s with w:=(s.newRow E f).w,β:=s.β++[⟨.slice (aa ⟨s.w.heap.size,0,af⟩) 0 n,[s.w.heap.size]⟩] } (.buf E k n (λi=>es.getD i [])) ⟨.slice (aa ⟨s.w.heap.size,0,af⟩) 0 n,[s.w.heap.size]⟩:=by
  refine .inr ⟨s.w.heap.size,n,f,[],rfl,by rw[k6];exact dt s.w _,by rw[k6];exact c.len,bg _,by omega,c,λo=>?_⟩
  cases m:s.M s.w.heap.size o with
  |none=>rfl
  |some v=>have:=hh.block m;omega
 have g:aJ σ { s with w:=(s.newRow E f).w }/\Step σ s σ { s with w:=(s.newRow E f).w } :=
  hh.grow (by simp[St.newRow]) (λb hb=>cJ s.w _ hb) (λb hb o=>rfl) (λb hb o v m=>by
   have:=hh.block m;omega) rfl rfl rfl
 obtain⟨z,g2⟩:=g.1.gR g.2 rfl hh q (λb hb=>by
   simp at hb;subst hb;exact⟨bg _,by simp[St.newRow]⟩)
 refine⟨(),.value (.slice (aa ⟨s.w.heap.size,0,af⟩) n n),{ s with w:=(s.newRow E f).w,β:=s.β++[⟨.slice (aa ⟨s.w.heap.size,0,af⟩) 0 n,[s.w.heap.size]⟩] },_,d,.inl rfl,?_,z,g2,by rw[l];exact .nil⟩
 refine⟨.slice (aa ⟨s.w.heap.size,0,af⟩) 0 n,⟨_,_,n,n,rfl,bg _,by simp,by omega,rfl,λ_=>⟨_,rfl,by simp⟩⟩,by simp,λB k' n' es' j=>?_⟩
 simp at j;obtain⟨_,_,rfl,_⟩:=j;exact⟨bg _,λ_=>⟨_,by show (s.β++[_])[σ.length]?=_;rw[<-hh.len,List.getElem?_concat_length],rfl⟩⟩
end
def vD(l k n:Nat)(es:Nat->List C):A->A×List Prop
 |.bp l' (.sl g k' o m)=>match aG l' l with
  |true=>match aG k' k with
   |true=>(.c (.sl ae k m (uw o es)),[g=n,o+m<=n])
   |false=>(.bp l' (.sl g k' o m),[])
  |false=>(.bp l' (.sl g k' o m),[])
 |a=>(a,[])
def nQ(l k n:Nat)(es:Nat->List C):List A->List A×List Prop
 |[]=>([],[])
 |a::r=>match vD l k n es a with
  |(a',p)=>match nQ l k n es r with
   |(r',q)=>(a'::r',kl p q)
def DJ(l k n:Nat)(es:Nat->List C):E1->E1×List Prop
 |.one a=>match vD l k n es a with|(a',p)=>(.one a',p)
 |.agg cs=>match nQ l k n es cs with|(b,p)=>(.agg b,p)
def DK(l k n:Nat)(es:Nat->List C):D->D×List Prop
 |.e x=>match DJ l k n es x with|(a,p)=>(.e a,p)
 |d=>(d,[])
def vE(l k n:Nat)(es:Nat->List C):Fr->Fr×List Prop
 |[]=>([],[])
 |(t,d)::r=>match DK l k n es d with
  |(a,p)=>match vE l k n es r with
   |(r',q)=>((t,a)::r',kl p q)
def gC(l k n:Nat)(es:Nat->List C):Nat->List aV->List aV×List Prop
 |_,[]=>([],[])
 |i,b::r=>match gC l k n es (i+1) r with
  |(r',q)=>match aG i l with
   |true=>(.dead::r',q)
   |false=>match b with
    |.cells E cs=>match nQ l k n es cs with|(a,p)=>(.cells E a::r',kl p q)
    |b=>(b::r',q)
section
variable {σ σ':List aV}{s s2:St}{E l k n:Nat}{es:Nat->List C}
structure je (σ:List aV)(s:St)(l k n:Nat)(es:Nat->List C)(σ':List aV)(s2:St):Prop where
 eL:∀ v a,gv σ s v a->gv σ' s2 v a
 Jm:∀ v k' o m,gv σ s v (.bp l (.sl n k' o m))->k'=k->o+m<=n->Rd s2.M v (.sl ae k m (uw o es))
def je.a(h:je σ s l k n es σ' s2){v:ak}{a:A}(b:ag (vD l k n es a).2)(r:gv σ s v a):gv σ' s2 v (vD l k n es a).1:=by
 unfold vD at b ⊢;split
 .rename_i l' g k' o m
  split
  .rename_i e1
   split
   .rename_i e2
    simp only[e1,e2] at b;have e1:=bU e1;have e2:=bU e2;subst e1;obtain⟨rfl,h2⟩:g=n/\o+m<=n:=b;exact h.Jm v _ _ _ r e2 h2
   .exact h.eL v _ r
  .exact h.eL v _ r
 .exact h.eL v _ r
def je.ls(h:je σ s l k n es σ' s2):∀ {vs:List ak}{cs:List A},ag (nQ l k n es cs).2->dM σ s vs cs->dM σ' s2 vs (nQ l k n es cs).1
 |[],[],_,_=>trivial
 |[],_::_,_,r=>r.elim
 |_::_,[],_,r=>r.elim
 |v::vs,c::cs,b,r=>by
  simp only[nQ] at b ⊢;rw[ag.cat] at b;exact⟨h.a b.1 r.1,h.ls b.2 r.2⟩
def je.e(h:je σ s l k n es σ' s2){v:ak}{x:E1}(b:ag (DJ l k n es x).2)(r:mT σ s v x):mT σ' s2 v (DJ l k n es x).1:=by
 cases x with
 |one a=>exact h.a b r
 |agg cs=>obtain⟨vs,d,f⟩:=r;exact⟨vs,d,h.ls b f⟩
def je.d(h:je σ s l k n es σ' s2)(hl:s.β.length=σ.length)(b:Ext σ s σ' s2){v:ak}{d:D}(a:ag (DK l k n es d).2)(r:c8 σ s v d):c8 σ' s2 v (DK l k n es d).1:=by
 cases d with
 |e x=>exact h.e a r
 |eJ xs=>exact r.mono b hl
 |any=>trivial
def je.f(h:je σ s l k n es σ' s2)(hl:s.β.length=σ.length)(e:Ext σ s σ' s2):∀ {φ:Fr}{t:Nat}{v:ak},ag (vE l k n es φ).2->c8 σ s v (look φ t)->c8 σ' s2 v (look (vE l k n es φ).1 t)
 |[],_,_,_,_=>trivial
 |(u,d)::r,t,v,b,a=>by
  simp only[vE] at b ⊢;rw[ag.cat] at b;simp only[look] at a ⊢;cases hb:aG u t with
  |true=>rw[hb] at a;exact h.d hl e b.1 a
  |false=>rw[hb] at a;exact h.f hl e b.2 a
theorem qz:∀ {σ:List aV}{i j:Nat},(gC l k n es i σ).1[j]?=match σ[j]? with
  |none=>af
  |some b=>aa (match aG (i+j) l with|true=>.dead|false=>match b with|.cells E cs=>.cells E (nQ l k n es cs).1|b=>b)
 |[],i,j=>by simp[gC]
 |b::r,i,0=>by
  simp only[gC,iN,kW]
  grind
 |b::r,i,j+1=>by
  have a:=qz (σ:=r) (i:=i+1) (j:=j);have e:i+1+j=i+(j+1):=by omega
  rw[e] at a;simp only[gC,mJ]
  grind
def vF:∀ {σ:List aV}{i j:Nat}{E:ar}{cs:List A},ag (gC l k n es i σ).2->σ[j]?=aa (.cells E cs)->i+j≠l->ag (nQ l k n es cs).2
 |[],i,j,_,_,_,a,_=>by grind
 |b::r,i,0,E,cs,e,a,d=>by
  simp at a;subst a;simp only[gC] at e
  grind [Nat.eq_of_beq_eq_true,ag.cat]
 |b::r,i,j+1,E,cs,e,a,d=>by
  simp at a;refine vF (σ:=r) (i:=i+1) (j:=j) ?_ a (by omega)
  simp only[gC] at e
  grind [ag.cat]
theorem qA:∀ {σ:List aV}{i:Nat},(gC l k n es i σ).1.length=σ.length
 |[],_=>rfl
 |b::r,i=>by
  simp only[gC];have a:=qA (σ:=r) (i:=i+1)
  grind
def aJ.rJ(hh:aJ σ s)(J:σ[l]?=aa (.buf E k n es))(hq:ag (gC l k n es 0 σ).2) :
  ∃ s2:St,s2.w=s.w/\aJ (gC l k n es 0 σ).1 s2/\Step σ s (gC l k n es 0 σ).1 s2/\je σ s l k n es (gC l k n es 0 σ).1 s2:=by
 have G:l<σ.length:=(cp.1 J).1;have T:s.β[l]?=aa (s.β[l]'(by rw[hh.len];exact G)):=br _
 generalize s.β[l]'(by grind)=L at T
 have S:=hh.box _ _ L J T;obtain⟨M',m1,m2,m3,m4⟩:∃ M':Mem,(∀ b o v,s.M b o=aa v->M' b o=aa v)/\(∀ b,b∉L.bs->∀ o,M' b o=s.M b o)/\(∀ b o v,M' b o=aa v->s.w.cell? ⟨b,o,af⟩=aa v) /\
   (∀ v k' o m,gv σ s v (.bp l (.sl n k' o m))->k'=k->o+m<=n->Rd M' v (.sl ae k m (uw o es))):=by
  rcases S with⟨rfl,rfl⟩|⟨b,c0,vs,zs,rfl,hw,GI,Zo,I2,hF,hM⟩
  .refine⟨s.M,λ_ _ _ h=>h,λ_ _ _=>rfl,hh.mem,λv k' o m r e z=>?_⟩
   obtain⟨lv,⟨a,a0,cap,c0,D,h1,h2,O,Q,U⟩,_,hx⟩:=r
   grind [Rd.jI]
  .let M':Mem:=λq o=>if q=b then vs[o]? else s.M q o
   have Z:∀ q o v,s.M q o=aa v->M' q o=aa v:=λq o v D=>by
    grind
   refine⟨M',Z,λq oG o=>?_,λq o v D=>?_,λv k' o m r e z=>?_⟩
   .grind
   .by_cases e:q=b
    .subst e;simp only[M',cq] at D;simp only[a9,hw]
     grind
    .simp only[M',e,b9] at D;exact hh.mem q o v D
   .subst e;obtain⟨lv,⟨a,a0,cap,c1,D,h1,h2,O,Q,U⟩,_,hx⟩:=r;obtain⟨L',f,R⟩:=(hx _ _ _ _ J).2 rfl;rw[T] at f;cases f;rw[Q] at R;cases R;rw[D];have g:∀ i,i<m->∀ j c,(uw o es i)[j]?=aa c->∃ u,vs[(o+i)*k'+j]?=aa u/\Rd s.M u c:=λi hi j c hj=>by
     rw[u7] at hj;exact hF.rd (o+i) (by omega) j c hj
    refine .sl b (o*k') (λi j=>(vs[(o+i)*k'+j]?).getD aj) h1 (by omega) (by simp) (λi hi=>by rw[u7];exact hF.width _ (by omega)) (λhm=>?_) (λi hi j c hj=>?_) (λi hi j c hj=>?_)
    .grind
    .grind
    .obtain⟨u,u1,u2⟩:=g i hi j c hj;rw[u1];exact u2.mono Z
 obtain⟨F,q2⟩:=hh.iO (M':=M') (w':=s.w) (B':=.dead) (L':=⟨L.v,[]⟩) J T av (bg _) (λ_ _ _=>rfl) (λb _ hb o=>m2 b hb o) m1 m3 (by simp) rfl rfl rfl av
 let s2:St:=⟨s.β.set l ⟨L.v,[]⟩,M',s.w,s.own⟩
 have g:∀ i B,σ[i]?=aa B->i≠l->(gC l k n es 0 σ).1[i]?=aa (match B with|.cells E cs=>.cells E (nQ l k n es cs).1|b=>b):=λi B hi Bh=>by
  grind [qz,Nat.eq_of_beq_eq_true]
 have H:(gC l k n es 0 σ).1[l]?=aa .dead:=by
  rw[qz,J];have:aG (0+l) l=ab:=by rw[bt];exact iM l
  grind
 have vG:Step (σ.set l .dead) s2 (gC l k n es 0 σ).1 s2:=by
  refine⟨bg _,λ_ _ _=>rfl,λ_ _ _ h=>h,λ_ _ _ _=>rfl,λL' f b hb=>.inr ⟨L',f,hb⟩,λi B L' hi f=>?_,rfl,rfl,rfl,rfl⟩
  by_cases e:i=l
  .subst e;rw[fH G] at hi;cases hi;exact⟨.dead,L',H,f,rfl⟩
  .rw[iK (λh=>e h.symm)] at hi
   refine⟨_,L',g i B hi e,f,?_⟩;cases B <;> first|exact ig.refl _ _|rfl
 have st:=q2.trans vG;have hc:je σ s l k n es (gC l k n es 0 σ).1 s2:=⟨λv a r=>r.mono st.ext hh.len,λv k' o m r e z=>m4 v k' o m r e z⟩
 refine⟨s2,rfl,⟨F.mem,by rw[qA,<-hh.len];grind,λi B L' hi f=>?_,F.gd,F.lt,F.own⟩,st,hc⟩
 by_cases e:i=l
 .subst e;rw[H] at hi;cases hi;trivial
 .have A:i<σ.length:=by
   grind [qA]
  have x:=br A;have V:s.β[i]?=aa L':=by grind
  have Y:=hh.box i _ L' x V;have p:=F.box i _ L' (by rw[iK (λh=>e h.symm)];exact x) f
  have d:=g i _ x e;rw[hi] at d;have d:=uS d;generalize hBe:σ[i]=B0 at *;cases B0 with
  |cells E0 cs =>
   subst d;obtain⟨b,vs,h1,h2,O,U⟩:=Y;obtain⟨q,vC,I,WG,_,W⟩:=p;rw[h1] at I;cases I;exact⟨b,vs,h1,h2,hc.ls (vF hq x (by omega)) O,W⟩
  |vec=>subst d;exact p
  |dz=>subst d;exact p
  |dead=>subst d;trivial
  |loop N φ r =>
   subst d;obtain⟨l1,tmps,fn,df,h1,h2,O,U,h5⟩:=p;exact⟨l1,tmps,fn,df,h1,h2,O,λt=>(U t).mono vG.ext F.len,h5⟩
  |qS=>subst d;exact p
  |buf=>subst d;exact p
end
section
variable {P:aq}{X:Cx P}{N:Nat}{Qf:Post}{K:List It}{φ y:Fr}{σ σ':List aV}{c:Code}
def AK.rJ(l:Nat){E k n:Nat}{es:Nat->List C}{ps qs:List Prop}(hl:fu l σ=aa (.buf E k n es))(i:vE l k n es φ=(y,ps))(e:gC l k n es 0 σ=(σ',qs))(m:ag ps)(j:ag qs)
  (kk:AK X N Qf (.code c::K) .normal y σ'):AK X N Qf (.code c::K) .normal φ σ:=by
 refine AK.ghost (λs a d hh=>?_) kk
 obtain⟨s2,h1,h2,b,g⟩:=hh.rJ (dw hl) (by grind)
 rw[e] at h2 b g;refine⟨s2,h1,⟨d.size,d.defers.imp λ_ h=>h.mono b.ext,λt=>?_⟩,h2,b⟩
 have:=g.f hh.len b.ext (φ:=φ) (t:=t) (by grind) (d.slot t)
 grind
end
end
end Go.AM
namespace Go.AM.R1
section
open Go.Proofs
section
variable {X:Cx ah}
abbrev KpI:={ q:List Int // q.length<=5 }
def IE(m:Nat)(b:Nat->Int)(f:Bytes b)(k:Nat)(p:k<=500000)(j:m<=1048576) :
  cK (ι:=KpI) X 60 [.e (.one (.ptr 0 0))] [lu m b k] (λq=>cI.sl q.1) (λ_=>[lu m b (k+5:Nat)]):=by
 refine cK.om Tryz.func60 rfl rfl rfl λo=>?_
 refine aX [(1000002,ab)] 100 rfl av ?_;refine AK.ir 3 3 1 rfl rfl ?_;refine bk rfl av ?_;refine AK.bO 2 (λs:Nat×List Int=>1<=s.1/\s.1<=6/\s.2.length+1<=s.1) (λs=>[(0,.e (.one (.ptr 0 0))),(3,.e (.one (.vec 1 1 s.2.length (cI.fn s.2)))),(4,dI s.1)]) (λs=>[lu m b (k+(s.1-1):Nat),.vec 3 1 s.2.length (cI.fn s.2)]) (λs=>6-s.1) (1,[]) rfl ?_ rfl ?_ rfl ⟨by decide,by decide,by decide⟩ ?_
 .simp[ag.cat,ag,aP.nil]
 .simp[ag.cat,ag,aP.same,aP.nil]
 rintro⟨n,a⟩ ⟨l,g,i⟩;simp only at l g i
 by_cases h:n<=5
 .refine aX [(7,ab)] 100 rfl (by simp only[ag,ba];omega) ?_
  refine AK.cP (ez m b f (k+(n-1)) 2 (by omega) j (by omega)) [0] rfl (λ_=>rfl) ?_
  rintro⟨v,v0,v1⟩
  by_cases c:v=0
  .have d:=cI.cn a (n:Int);refine aX [(12,ab)] 100 rfl ?_ (AK.aQ (n+1,a++[(n:Int)]) rfl ?_ ?_ ⟨by simp only;omega,by simp only;omega,by grind⟩ (by simp only;omega))
   .simp only[ag,c,bu,show i3.bytes=8 from rfl,dH,aF,aC];and_intros <;> omega
   .simp only[ag.cat,ag,bP,er,aF,aC]
    and_intros <;> first|exact aP.same|exact d|rfl|omega
   .simp only[ag.cat,ag,bP,er,aF,aC]
    and_intros <;> first|exact aP.same|exact d|rfl|omega
  .refine aX [(12,ae)] 100 rfl ?_ (AK.aQ (n+1,a) rfl ?_ ?_ ⟨by simp only;omega,by simp only;omega,by simp only;omega⟩ (by simp only;omega))
   .simp only[ag,bu,dm,cT,aF,aC];and_intros <;> first|exact c|omega
   .simp only[ag.cat,ag,aF,aC]
    and_intros <;> first|exact aP.same|rfl|omega
   .simp only[ag.cat,ag,aF,aC]
    and_intros <;> first|exact aP.same|rfl|omega
 obtain rfl:n=6:=by omega
 refine aX [(7,ae)] 100 rfl (by simp[ag]) (AK.leaveD rfl rfl ?_)
 refine bk rfl av ?_;refine AK.lg ⟨a,by omega⟩ (AK.dD [0] rfl ?_ rfl rfl rfl wQ)
 simp[ag.cat,ag,aP.same]
def Ba:List Bs:=[[122,122],[98,46],[104,101,108,108,111,46,46,46]]
def IF:aP 3 (λi=>([[.str [122,122]],[.str [98,46]],[.str [104,101,108,108,111,46,46,46]]]:List (List C)).getD i []) (cS.fn Ba):=by
 intro i hi;have:i=0∨i=1∨i=2:=by omega
 rcases this with rfl|rfl|rfl <;> rfl
set_option maxRecDepth 20000 in
def MK(m:Nat)(b:Nat->Int)(a:Bytes b)(k:Nat)(h:k<=500000)(c:m<=1048576) :
  cK (ι:=c6) X 59 [.e (.one (.ptr 0 0))] [lu m b k] (λl=>gf l) (λ_=>[lu m b (k+4:Nat)]):=by
 refine cK.fY tok Tryz.func59 rfl rfl rfl λg=>?_
 refine bk rfl av ?_;refine AK.cP (ez m b a k 5 (by omega) c (by omega)) [0] rfl (λ_=>rfl) ?_
 rintro⟨v1,_⟩;refine bk rfl av ?_;refine AK.cP (ez m b a (k+1) 5 (by omega) c (by omega)) [0] rfl (λ_=>rfl) ?_
 rintro⟨f,_⟩;refine bk rfl av ?_;refine AK.cP (ez m b a (k+1+1) 3 (by omega) c (by omega)) [0] rfl (λ_=>rfl) ?_
 rintro⟨d,_⟩;refine bk rfl av ?_;refine AK.mm (RY m b a (k+1+1+1) (by omega) c Ba (by decide)).Bc [0] rfl rfl rfl rfl ?_ rfl rfl rfl (λ_=>rfl) rfl (λ_=>rfl) rfl ?_
 .simp only[ag.cat,ag,aF,aC];exact⟨rfl,IF⟩
 rintro -;generalize Ba.getD (oo m b (k+1+1+1) Ba.length).toNat []=w;refine bk rfl av ?_;refine AK.dA (v1,f,d,w) [0] rfl rfl rfl rfl rfl rfl rfl rfl ?_ rfl rfl rfl rfl gZ;simp[ag.cat,ag]
end
end
end Go.AM.R1
namespace Go.AM
section
open Go.Conc (G)
def aJ.Bv{σ1:List aV}{s:St}{E:ar}{k n:Nat}{bf:qT}{xs:List ak}{es:Nat->List C}(hh:aJ (σ1++[.dz (hJ E k bf n xs)]) s)(d:dZ k n es xs)(g:rI σ1.length σ1=ab) :
  ∃ s2:St,aJ σ1 s2/\eQ s s2/\Rd s2.M (lB bf n) (.sl ae k n es)/\∀ {σ0:List aV} {s0:St},cB σ0 s0 (σ1++[.dz (hJ E k bf n xs)]) s->σ0.length<=σ1.length->cB σ0 s0 σ1 s2:=by
 have p:(σ1++[aV.dz (hJ E k bf n xs)])[σ1.length]?=aa (.dz (hJ E k bf n xs)):=by simp
 obtain⟨L,M',t,m,u,z,D,B⟩:=hJ.Fs p es (λi hi=>⟨d.wid i hi,λM j c x hj hx=>by
  obtain⟨y,r,A⟩:=d.at' i hi j c hj;rw[hx] at r;cases r;exact A M⟩) s hh
 obtain⟨l,q⟩:=hh.iO (M':=M') (w':=s.w) (B':=.dead) (L':=⟨L.v,[]⟩) p t rfl (bg _) (λ_ _ _=>rfl) (λb _ hb o=>u b hb o) m z (by simp) rfl rfl rfl av
 have a:(σ1++[aV.dz (hJ E k bf n xs)]).set σ1.length .dead=σ1++[.dead]:=by simp
 rw[a] at l q;refine⟨_,l.drop (rest:=[.dead]) g,⟨rfl,m,λb hb o=>u b (hb L (bT t)) o,z,λb hb=>?_⟩,B,λ{σ0 s0} e h=>(e.trans (q.ox hh)).drop (rest:=[.dead]) h⟩
 rcases hb with hb|⟨L',f,hb⟩
 .exact .inl hb
 .have h1:=iJ f
  grind
def cK.Bv{P:aq}{ι:Type}{X:Cx P}{f:aW}{args:List D}{σ:List aV}{σ1:ι->List aV}{E k:Nat}{n:ι->Nat}{bf:ι->qT}{xs:ι->List ak}{es:ι->Nat->List C}(h:cK X f args σ (λi=>.e (.one (.v (lB (bf i) (n i))))) (λi=>σ1 i++[.dz (hJ E k (bf i) (n i) (xs i))]))
  (b:∀ i,dZ k (n i) (es i) (xs i)) (d:∀ i,rI (σ1 i).length (σ1 i)=ab) (a:∀ i,σ.length<=(σ1 i).length):cK X f args σ (λi=>.e (.one (.c (.sl ae k (n i) (es i))))) σ1:=by
 refine⟨h.1,λs vs hr hh S cs hS=>h.2 s vs hr hh S cs λi fr v s' hl mL k9 st=>?_⟩
 obtain⟨s2,c1,c2,c3,c4⟩:=k9.Bv (b i) (d i);have g:v=lB (bf i) (n i):=Rd.fX mL;exact .ghost c2 (hS i fr v s2 (hl.mono c2.mem) (by rw[g];exact c3) c1 (c4 st (a i)))
end
end Go.AM
namespace Go.AM.R1
section
open Go.Proofs
variable {X:Cx ah} [X.js]
abbrev iT:=Int×Int×List bA×c6×List Int
abbrev evA(e:iT):List A:=[.c (.int .i64 e.1),.c (.int .i64 e.2.1),qP cF e.2.2.1,.c (.int .i64 e.2.2.2.1.1),.c (.int .i64 e.2.2.2.1.2.1),.c (.int .i64 e.2.2.2.1.2.2.1),.c (.str e.2.2.2.1.2.2.2),qP cI e.2.2.2.2]
abbrev Wj(e:iT):D:=.e (.agg (evA e))
abbrev Zf:List A:=[.c (.int .i64 0),.c (.int .i64 0),dk,.c (.int .i64 0),.c (.int .i64 0),.c (.int .i64 0),.c (.str []),dk]
abbrev Zg:aV:=.cells 79 Zf
abbrev x7:c6:=(0,0,0,[])
structure EvP (k:Nat)(q:iT×Nat):Prop where
 t:q.1.2.2.1.length<=7
 kp:q.1.2.2.2.2.length<=5
 lo:k<=q.2
 hi:q.2<=k+500
def ML(m:Nat)(b:Nat->Int)(h:Bytes b)(k:Nat)(a:k<=50000)(l:m<=1048576) :
  cK (ι:=CX k 400) X 58 [.e (.one (.ptr 0 0))] [lu m b k] (λq=>cF.sl q.t) (λq=>[lu m b q.k1]) :=
 cK.Bv (σ1:=λq:CX k 400=>[lu m b q.k1]) (k:=2) (n:=λq:CX k 400=>q.t.length) (es:=λq:CX k 400=>cF.fn q.t) (OY m b h k a l) (λq=>q.fl) (λ_=>rfl) (λ_=>bg _)
set_option maxRecDepth 20000 in
def E9(m:Nat)(b:Nat->Int)(n:Bytes b)(k:Nat)(a:k<=40000)(o:m<=1048576) :
  cK (ι:={ q:iT×Nat // EvP k q }) X 33 [.e (.one (.ptr 0 0))] [lu m b k] (λq=>Wj q.1.1) (λq=>[lu m b q.1.2]):=by
 refine cK.fY tok Tryz.func33 rfl rfl rfl λf=>?_
 refine bk rfl av ?_;refine AK.cP (ez m b n k 9 (by omega) o (by omega)) [0] rfl (λ_=>rfl) ?_
 rintro⟨v,v0,v1⟩
 by_cases h:v<=3
 .apply AK.join [(0,.e (.one (.ptr 0 0))),(2,.e (.one (.ptr 1 0)))] [lu m b (k+1:Nat),Zg]
  .intro out;have:v=0∨v=1∨v=2∨v=3:=by omega
   rcases this with rfl|rfl|rfl|rfl
   .refine aX [(6,ab),(1000006,ab)] 100 rfl (by simp[ag]) ?_
    exact out _ _ rfl (by simp[ag.cat,ag])
   .refine aX [(6,ae),(7,ab),(1000006,ab)] 100 rfl (by simp[ag]) ?_
    exact out _ _ rfl (by simp[ag.cat,ag])
   .refine aX [(6,ae),(7,ae),(8,ab),(1000006,ab)] 100 rfl (by simp[ag]) ?_
    exact out _ _ rfl (by simp[ag.cat,ag])
   .refine aX [(6,ae),(7,ae),(8,ae),(9,ab),(1000006,ab)] 100 rfl (by simp[ag]) ?_
    exact out _ _ rfl (by simp[ag.cat,ag])
  refine bk rfl av ?_;refine AK.cP (ez m b n (k+1) 2 (by omega) o (by omega)) [0] rfl (λ_=>rfl) ?_
  rintro⟨u,p,r⟩;refine bk rfl (by simp only[ag,bu];omega) ?_
  refine AK.cP (ML m b n (k+1+1) (by omega) o) [0] rfl (λ_=>rfl) ?_
  rintro⟨t,bf,xs,k1,F,y,G,E⟩;simp only;refine bk rfl av ?_;refine AK.dA ⟨((1,1+u,t,x7,[]),k1),y,by simp,by grind,by grind⟩ [0] rfl rfl rfl rfl rfl rfl rfl rfl ?_ rfl rfl rfl rfl gZ
  simp[ag.cat,ag,aP.same,aP.nil]
 by_cases A:v=4
 .subst A;refine aX [(6,ae),(7,ae),(8,ae),(9,ae),(17,ab)] 100 rfl (by simp[ag]) ?_
  refine AK.cP (ez m b n (k+1) 4 (by omega) o (by omega)) [0] rfl (λ_=>rfl) ?_
  rintro⟨u,p,r⟩;refine bk rfl av ?_;refine AK.dA ⟨((2,u,[],x7,[]),k+1+1),by simp,by simp,by grind,by grind⟩ [0] rfl rfl rfl rfl rfl rfl rfl rfl ?_ rfl rfl rfl rfl gZ
  simp[ag.cat,ag,aP.nil]
 by_cases B:v=5
 .subst B;refine aX [(6,ae),(7,ae),(8,ae),(9,ae),(17,ae),(22,ab)] 100 rfl (by simp[ag]) ?_
  refine AK.cP (ez m b n (k+1) 2 (by omega) o (by omega)) [0] rfl (λ_=>rfl) ?_
  rintro⟨u,p,r⟩
  by_cases w:u=0
  .refine aX [(25,ab)] 100 rfl (by simp[ag,w]) ?_
   refine AK.dA ⟨((3,0,[],x7,[]),k+1+1),by simp,by simp,by grind,by grind⟩ [0] rfl rfl rfl rfl rfl rfl rfl rfl ?_ rfl rfl rfl rfl gZ
   simp[ag.cat,ag,aP.nil]
  .refine aX [(25,ae)] 100 rfl (by simp[ag,w]) ?_
   refine AK.cP (MK m b n (k+1+1) (by omega) o) [0] rfl (λ_=>rfl) ?_
   intro l;refine bk rfl av ?_;refine AK.dA ⟨((3,0,[],l,[]),k+1+1+4),by simp,by simp,by grind,by grind⟩ [0] rfl rfl rfl rfl rfl rfl rfl rfl ?_ rfl rfl rfl rfl gZ
   simp[ag.cat,ag,aP.nil]
 by_cases x:v=6
 .subst x;refine aX [(6,ae),(7,ae),(8,ae),(9,ae),(17,ae),(22,ae),(31,ab)] 100 rfl (by simp[ag]) ?_
  refine AK.cP (IE m b n (k+1) (by omega) o) [0] rfl (λ_=>rfl) ?_
  rintro⟨C,s⟩;refine bk rfl av ?_;refine AK.dA ⟨((4,0,[],x7,C),k+1+5),by simp,s,by grind,by grind⟩ [0] rfl rfl rfl rfl rfl rfl rfl rfl ?_ rfl rfl rfl rfl gZ
  simp[ag.cat,ag,aP.same,aP.nil]
 by_cases z:v=7
 .subst z;refine aX [(6,ae),(7,ae),(8,ae),(9,ae),(17,ae),(22,ae),(31,ae),(36,ab)] 100 rfl (by simp[ag]) ?_
  refine AK.dA ⟨((5,0,[],x7,[]),k+1),by simp,by simp,by grind,by grind⟩ [0] rfl rfl rfl rfl rfl rfl rfl rfl ?_ rfl rfl rfl rfl gZ
  simp[ag.cat,ag,aP.nil]
 obtain rfl:v=8:=by omega
 refine aX [(6,ae),(7,ae),(8,ae),(9,ae),(17,ae),(22,ae),(31,ae),(36,ae)] 100 rfl (by simp[ag]) ?_
 refine AK.cP (ez m b n (k+1) 8 (by omega) o (by omega)) [0] rfl (λ_=>rfl) ?_
 rintro⟨u,p,r⟩;refine bk rfl av ?_;refine AK.cP (ez m b n (k+1+1) 4 (by omega) o (by omega)) [0] rfl (λ_=>rfl) ?_
 rintro⟨u',D,u3⟩;refine bk rfl av ?_;refine AK.dA ⟨((u,u',[],x7,[]),k+1+1+1),by simp,by simp,by grind,by grind⟩ [0] rfl rfl rfl rfl rfl rfl rfl rfl ?_ rfl rfl rfl rfl gZ
 simp[ag.cat,ag,aP.nil]
abbrev Dn(k:Int)(w:cM)(l:c6)(b:Nat):List A:=.c (.int .i64 k)::(Ve w++[.c (.int .i64 l.1),.c (.int .i64 l.2.1),.c (.int .i64 l.2.2.1),.c (.str l.2.2.2),.bp b (.sl 2 2 0 2),.bp (b+1) (.sl 2 1 0 2)])
abbrev SM(e:List (Int×Int))(b:List Int):List aV:=[.buf 46 2 2 (cH.fn e),.buf 3 1 2 (cI.fn b)]
abbrev Zc:List (Int×Int):=[(0,0),(0,0)]
abbrev Zd:List Int:=[0,0]
omit [X.js] in
def A7(k:Int)(a:ck k=ab):Ev X 31 [dI k] [] (.eJ [.agg (Dn k M5 x7 0),.one (.c (.bool ab))]) (SM Zc Zd):=by
 refine Ev.iu tok Tryz.func31 rfl rfl rfl λf=>?_
 have d:bC X [(35,uc)]:=.cons w6 .nil;refine aD d [(7,ae),(1000003,ab)] 100 rfl (by simp[ag,a]) ?_
 refine AK.region ?_;refine aD d [] 3 rfl av ?_;refine AK.Jc tok rfl rfl rfl rfl rfl rfl ?_;refine AK.Jc tok rfl rfl rfl rfl rfl rfl ?_;refine aD d [] 100 rfl av ?_;refine AK.norm [.cells 35 (Dn k M5 x7 1),.buf 46 2 2 (cH.fn Zc),.buf 3 1 2 (cI.fn Zd),.cells 35 (Dn k M5 x7 1)] rfl ?_ ?_
 .simp only[ag.cat,ag,aF,aC]
  and_intros <;> first|rfl|exact aP.nil|(intro i hi;match i,hi with|0,_=>rfl|1,_=>rfl)
 refine AK.lZ () [1,2] rfl rfl rfl rfl rfl rfl rfl rfl rfl ?_ rfl rfl rfl rfl (λj g=>absurd g (by simp))
 simp[ag.cat,ag,aP.same]
end
section
open Go.Proofs
variable {X:Cx ah}
def ly:∀ j,j<2->([0,1]:List Nat)[j]?=aa j:=λj a=>by
 match j,a with
 |0,_=>rfl
 |1,_=>rfl
def lookW(by_:Int)(s:aZ)(l:c6)(q:List (Int×Int)×List Int):List (Int×Int)×List Int :=
 if q.2.getD (by_-1).toNat 0=0 then (q.1.set (by_-1).toNat (iU (q.1.getD (by_-1).toNat (0,0)) (tF s l).2.2).1,q.2.set (by_-1).toNat (iU (q.1.getD (by_-1).toNat (0,0)) (tF s l).2.2).2) else q
def qf{by_:Int}{s:aZ}{l:c6}{q:List (Int×Int)×List Int}(a:q.1.length=2)(b:q.2.length=2):(lookW by_ s l q).1.length=2/\(lookW by_ s l q).2.length=2:=by
 unfold lookW;split <;> simp[a,b]
abbrev zMm:aV:=.cells 46 [.c (.int .i64 0),.c (.int .i64 0)]
abbrev Zh(m:Int×Int):aV:=.cells 46 [.c (.int .i64 m.1),.c (.int .i64 m.2)]
abbrev Zi:List A:=[.c (.int .i64 0),dk,dk,dk,dk,dk,.c (.int .i64 0),.c (.int .i64 0),.c (.int .i64 0),.c (.str []),dk,dk]
abbrev oc:aV:=.cells 35 Zi
def dLk(k:Int)(w:cM)(l:c6)(b:List (Int×Int))(a:List Int)(e:Int×Int)(_ c d:Bool):List aV :=
 match c,d with
 |false,_=>SM b a++[.cells 35 (Dn k w l 0),oc]
 |true,ae=>SM b a++[.cells 35 (Dn k w l 0),oc,zMm]
 |true,ab=>SM b a++[.cells 35 (Dn k w l 0),oc,Zh e]
abbrev xLk(w:cM)(l:c6) (by_:Int)(m:Int×Int)(s':aZ)(q:(Int×Int)×Int)(i:Nat):D :=
 [.e (.one (.ptr 2 10)),.e (.one (.bp 0 (.sl 2 2 0 2))),dI by_,dI (by_-1),.e (.one (.bp 0 (.el 2 2 (0+(by_-1).toNat) 0))),Be m,.e (.one (.ptr 2 1)),.e (.one (.ptr 2 1)),eH w.1,.e (.one (.ptr 2 6)),gf l,eH s',cH.sl s'.2.2,M7 q,M7 q,Be q.1,dI q.2,.e (.one (.ptr 4 0)),.any,dI q.2].getD i .any
set_option maxRecDepth 20000 in
def tE(k:Int)(w:cM)(l:c6) (by_:Int)(g:List (Int×Int))(i:List Int)(s:wY w.1)(G:1<=by_/\by_<=2)(x:g.length=2)(A:i.length=2) :
  Ev X 55 [.e (.agg (Dn k w l 0)),dI by_] (SM g i) (.e (.agg (Dn k w l 0))) (SM (lookW by_ w.1 l (g,i)).1 (lookW by_ w.1 l (g,i)).2):=by
 refine Ev.iu tok Tryz.func55 rfl rfl rfl λF=>?_
 have v:=(za (X:=X) s l).z.h;have y:=(za (X:=X) s l).b;unfold lookW;generalize tF w.1 l=s' at *;have t:(by_-1).toNat<2:=by omega
 have p:(0:Nat)+(by_-1).toNat<2:=by omega
 have B:g.getD (by_-1).toNat (0,0)=g.getD (0+(by_-1).toNat) cH.bD:=by rw[bt];rfl
 have C:(g.getD (0+(by_-1).toNat) cH.bD)=(g.getD (0+(by_-1).toNat) cH.bD):=rfl;rw[B];have E:=Gy (X:=X) (g.getD (0+(by_-1).toNat) cH.bD) s'.2.2 v;generalize iU (g.getD (0+(by_-1).toNat) cH.bD) s'.2.2=q at *;have f:bC X [(17,iC [eH w.1,gf l] (eH s')),(36,iC [Be (g.getD (0+(by_-1).toNat) cH.bD),cH.sl s'.2.2] (M7 q))]:=.cons (ja y) (.cons (ja E) .nil);have o:bu .i64 (by_-1):=by simp only[bu];omega
 have u:0<=by_-1/\by_-1<((2:Nat):Int):=by omega
 have r:2=2/\0+(by_-1).toNat<2:=⟨rfl,p⟩;refine aD f [(1000001,ab)] 200 rfl av ?_;refine AK.flags eh (xLk w l by_ (g.getD (0+(by_-1).toNat) cH.bD) s' q) (tU (dLk k w l g i q.1) 19 17 18) rfl rfl rfl rfl
  ⟨bS.q3 rfl rfl rfl (λa c d=>by cases a <;> cases c <;> cases d <;> exact OA.bM tok f rfl),
  bS.q3 rfl rfl rfl (λa c d=>by cases a <;> cases c <;> cases d <;> exact OA.bM tok f rfl),
  bS.q3 rfl rfl rfl (λa c d=>by cases a <;> cases c <;> cases d <;> exact OA.bM tok f rfl),
  bS.q3 rfl rfl rfl (λa c d=>by cases a <;> cases c <;> cases d <;> exact OA.eval (ds:=[]) tok f rfl o),
  bS.q3 rfl rfl rfl (λa c d=>by cases a <;> cases c <;> cases d <;> exact OA.eval (ds:=[]) tok f rfl u),
  bS.q3 rfl rfl rfl (λa c d=>by cases a <;> cases c <;> cases d <;> exact OA.eval (ds:=[]) tok f rfl r),
  bS.q3 rfl rfl rfl (λa c d=>by cases a <;> cases c <;> cases d <;> exact OA.bM tok f rfl),
  bS.q3 rfl rfl rfl (λa c d=>by cases a <;> cases c <;> cases d <;> exact OA.bM tok f rfl),
  bS.q3 rfl rfl rfl (λa c d=>by cases a <;> cases c <;> cases d <;> exact OA.bM tok f rfl),
  bS.q3 rfl rfl rfl (λa c d=>by cases a <;> cases c <;> cases d <;> exact OA.bM tok f rfl),
  bS.q3 rfl rfl rfl (λa c d=>by cases a <;> cases c <;> cases d <;> exact OA.bM tok f rfl),
  bS.q3 rfl rfl rfl (λa c d=>by cases a <;> cases c <;> cases d <;> exact OA.eval (ds:=[]) tok f rfl rfl),
  bS.q3 rfl rfl rfl (λa c d=>by cases a <;> cases c <;> cases d <;> exact OA.bM tok f rfl),
  bS.q3 rfl rfl rfl (λa c d=>by cases a <;> cases c <;> cases d <;> exact OA.eval (ds:=[]) tok f rfl rfl),
  bS.q3 rfl rfl rfl (λa c d=>by cases a <;> cases c <;> cases d <;> exact OA.bM tok f rfl),
  bS.q3 rfl rfl rfl (λa c d=>by cases a <;> cases c <;> cases d <;> exact OA.bM tok f rfl),
  bS.q3 rfl rfl rfl (λa c d=>by cases a <;> cases c <;> cases d <;> exact OA.bM tok f rfl),
  bS.e2 rfl rfl rfl rfl rfl (λa=>by cases a <;> exact dW (ds:=[]) tok f (σ':=aa _) rfl av),
  bS.e3 rfl rfl rfl rfl rfl (λa=>by cases a <;> exact dW (ds:=[]) tok f (σ':=aa _) rfl av),
  bS.e1 rfl rfl rfl rfl (λc d=>by cases c <;> cases d <;> exact OA.bM tok f rfl),av⟩ ?_
 intro D j;show AK X _ _ _ _ _ (dLk k w l g i q.1 (D 19) (D 17) (D 18));rw[j 19 (by decide),j 17 (by decide),j 18 (by decide)]
 have m:i.getD (0+(by_-1).toNat) cI.bD=i.getD (by_-1).toNat 0:=by rw[bt];rfl
 by_cases n:i.getD (by_-1).toNat 0=0
 .rw[bc n];refine aD f [(30,ab)] 200 rfl ?_ ?_
  .simp only[ag,m,n,bu,dH,aF,aC];omega
  have e1:=cH.qK g (0+(by_-1).toNat) q.1 2 (by omega)
  have e2:=cI.qK i (0+(by_-1).toNat) q.2 2 (by omega)
  rw[bt] at e1 e2;refine AK.norm [.buf 46 2 2 (cH.fn (g.set (by_-1).toNat q.1)),.buf 3 1 2 (cI.fn (i.set (by_-1).toNat q.2)),.cells 35 (Dn k w l 0),.cells 35 (Dn k w l 0),Zh q.1] rfl ?_ ?_
  .simp only[ag.cat,ag,bt,aF,aC]
   and_intros <;> first|exact aP.same|exact e1|exact e2|rfl
  refine AK.dA () [0,1] rfl rfl rfl rfl rfl rfl rfl rfl ?_ rfl rfl rfl rfl ly;simp[ag.cat,ag,aP.same]
 .rw[aY n];refine aD f [(30,ae)] 200 rfl ?_ ?_
  .simp only[ag,m,bu,dm,cT,aF,aC];and_intros <;> first|exact n|omega
  refine AK.dA () [0,1] rfl rfl rfl rfl rfl rfl rfl rfl ?_ rfl rfl rfl rfl ly;simp[ag.cat,ag,aP.same]
abbrev x6:=cM×c6×List (Int×Int)×List Int
def xu(k:Int)(s:x6) (by_:Int)(t:List bA):x6×Bool :=
 if (lookW by_ s.1.1 s.2.1 s.2.2).2.getD (by_-1).toNat 0=0/\s.2.1.1=0 then
  (if (sF k s.1 by_ t).2=ab then (((sF k s.1 by_ t).1,s.2.1,lookW by_ (sF k s.1 by_ t).1.1 s.2.1 (lookW by_ s.1.1 s.2.1 s.2.2)),ab) else ((s.1,s.2.1,lookW by_ s.1.1 s.2.1 s.2.2),ae))
 else ((s.1,s.2.1,lookW by_ s.1.1 s.2.1 s.2.2),ae)
def vk(k:Int)(s:x6)(e:iT):x6×Bool :=
 if e.1=1 then (if (1<=e.2.1/\e.2.1<=2)/\dj e.2.2.1=ab then xu k s e.2.1 e.2.2.1 else (s,ae))
 else if e.1=2 then (if 1<=e.2.1/\e.2.1<=2 then ((s.1,s.2.1,lookW e.2.1 s.1.1 s.2.1 s.2.2),ab) else (s,ae))
 else if e.1=3 then ((s.1,e.2.2.2.1,s.2.2),ab)
 else if e.1=4 then (if s.1.2.2.length=0 then (((Da k s.1.1 e.2.2.2.2).1,s.2),ab) else (s,ae))
 else if e.1=5 then ((AY s.1,s.2),Vx s.1)
 else (s,ae)
structure WI (n:Nat)(s:x6):Prop where
 w:TW (6000+240*n) s.1
 k:s.2.2.1.length=2
 f:s.2.2.2.length=2
def Gz{k:Int}{n:Nat}{w:cM}{by_:Int}{t:List bA}(h:TW n w)(c:(sF k w by_ t).2=ab):TW (n+240) (sF k w by_ t).1/\(sF k w by_ t).1=Db k w by_ t/\fA k w=ab/\(1<=by_/\by_<=2)/\dj t=ab/\jY k w.1 t=ae:=by
 unfold sF at c ⊢;split at c
 .rename_i a
  rw[bc a];simp only[SL,bL,ba] at a;split at c
  .cases c
  .rename_i b
   have b:jY k w.1 t=ae:=by simpa using b
   rw[aY (by rw[b];simp)]
   exact⟨h.save a.2 a.1.2 b,rfl,a.1.1,a.1.2,a.2,b⟩
 .cases c
def WI.save{k:Int}{n:Nat}{s:x6}{by_:Int}{t:List bA}(h:WI n s):WI (n+1) (xu k s by_ t).1:=by
 have a:=qf (by_:=by_) (s:=s.1.1) (l:=s.2.1) (q:=s.2.2) h.k h.f;unfold xu;split
 .split
  .rename_i c
   have b:=qf (by_:=by_) (s:=(sF k s.1 by_ t).1.1) (l:=s.2.1) (q:=lookW by_ s.1.1 s.2.1 s.2.2) a.1 a.2;exact⟨(Gz h.w c).1.mono (by omega),b.1,b.2⟩
  .exact⟨h.w.mono (by omega),a.1,a.2⟩
 .exact⟨h.w.mono (by omega),a.1,a.2⟩
def WI.mono{n m:Nat}{s:x6}(h:WI n s)(a:n<=m):WI m s:=⟨h.w.mono (by omega),h.k,h.f⟩
def WI.do{k:Int}{n:Nat}{s:x6}{e:iT}(h:WI n s):WI (n+1) (vk k s e).1:=by
 unfold vk;split
 .split
  .exact h.save
  .exact h.mono (by omega)
 split
 .split
  .have a:=qf (by_:=e.2.1) (s:=s.1.1) (l:=s.2.1) (q:=s.2.2) h.k h.f;exact⟨h.w.mono (by omega),a.1,a.2⟩
  .exact h.mono (by omega)
 split
 .exact⟨h.w.mono (by omega),h.k,h.f⟩
 split
 .split
  .exact⟨(TW.beg h.w.s).mono (by omega),h.k,h.f⟩
  .exact h.mono (by omega)
 split
 .exact⟨(TW.step h.w).mono (by omega),h.k,h.f⟩
 .exact h.mono (by omega)
abbrev Y6(k:Int)(s:x6):D:=.e (.agg (Dn k s.1 s.2.1 0))
abbrev Y7(k:Int)(s:x6)(b:Bool):D:=.eJ [.agg (Dn k s.1 s.2.1 0),.one (.c (.bool b))]
abbrev Gw(s:x6):List aV:=SM s.2.2.1 s.2.2.2
def Ix(k:Int)(s:x6) (by_:Int)(t:List bA)(n:Nat)(h:WI n s)(o:n<=1000)(i:1<=by_/\by_<=2) :
  Ev X 54 [Y6 k s,dI by_,cF.sl t] (Gw s) (Y7 k (xu k s by_ t).1 (xu k s by_ t).2) (Gw (xu k s by_ t).1):=by
 refine Ev.iu tok Tryz.func54 rfl rfl rfl λm=>?_
 have j:=tE (X:=X) k s.1 s.2.1 by_ s.2.2.1 s.2.2.2 h.w.s.xq i h.k h.f;have g:=x8 (X:=X) k s.1 by_ t (h.w.sz (by omega))
 have b:=qf (by_:=by_) (s:=s.1.1) (l:=s.2.1) (q:=s.2.2) h.k h.f;have d:=Gz (k:=k) (by_:=by_) (t:=t) h.w;unfold xu;rw[show ((s.2.2.1,s.2.2.2):List (Int×Int)×List Int)=s.2.2 from rfl] at j
 generalize lookW by_ s.1.1 s.2.1 s.2.2=q1 at *;have a:q1.2.getD (0+(by_-1).toNat) cI.bD=q1.2.getD (by_-1).toNat 0:=by rw[bt];rfl
 refine dO rfl av ?_;refine AK.cQ j [0,1] rfl ?_
 by_cases c1:q1.2.getD (by_-1).toNat 0=0
 rotate_left
 .rw[aY (λh=>c1 h.1)]
  refine aX [(19,ab),(25,ab)] 200 rfl ?_ ?_
  .simp only[ag,a,bu,ic,cT,aF,aC];and_intros <;> first|exact c1|omega
  refine AK.lZ () [0,1] rfl rfl rfl rfl rfl rfl rfl rfl rfl ?_ rfl rfl rfl rfl ly;simp[ag.cat,ag,aP.same]
 by_cases c2:s.2.1.1=0
 rotate_left
 .rw[aY (λh=>c2 h.2)]
  refine aX [(19,ae),(25,ab)] 200 rfl ?_ ?_
  .simp only[ag,a,c1,bu,ic,kY,cT,aF,aC];and_intros <;> first|exact c2|omega
  refine AK.lZ () [0,1] rfl rfl rfl rfl rfl rfl rfl rfl rfl ?_ rfl rfl rfl rfl ly;simp[ag.cat,ag,aP.same]
 rw[bc ⟨c1,c2⟩];refine aX [(19,ae),(25,ae)] 200 rfl ?_ ?_
 .simp only[ag,a,c1,c2,bu,kY,aF,aC];omega
 refine AK.cQ g [] rfl ?_;cases c3:(sF k s.1 by_ t).2 with
 |false =>
  rw[aY (by simp)]
  refine aX [(38,ab)] 200 rfl (by simp[ag,c3]) ?_
  refine AK.lZ () [0,1] rfl rfl rfl rfl rfl rfl rfl rfl rfl ?_ rfl rfl rfl rfl ly;simp[ag.cat,ag,aP.same]
 |true =>
  rw[bc rfl];have e:=(d c3).1;generalize (sF k s.1 by_ t).1=w2 at *;have c:=tE (X:=X) k w2 s.2.1 by_ q1.1 q1.2 e.s.xq i b.1 b.2;rw[show ((q1.1,q1.2):List (Int×Int)×List Int)=q1 from rfl] at c
  refine aX [(38,ae)] 200 rfl (by simp[ag,c3]) ?_
  refine AK.cQ c [0,1] rfl ?_;refine dO rfl av ?_;refine AK.lZ () [0,1] rfl rfl rfl rfl rfl rfl rfl rfl rfl ?_ rfl rfl rfl rfl ly;simp[ag.cat,ag,aP.same]
end
end Go.AM.R1
namespace Go.AM
section
variable {P:aq}{X:Cx P}{N:Nat}{all:List aw}{φ:Fr}{x:Nat->D}{l:Bool->Bool->Bool->Bool->List aV}{i g f k e:Nat}{o:aw}
abbrev vT(l:Bool->Bool->Bool->Bool->List aV)(g f k e:Nat):(Nat->Bool)->List aV:=λD=>l (D g) (D f) (D k) (D e)
theorem rT{i j:Nat}{D:Nat->Bool}(h:aG j i=ae):fb i D j=D j:=by simp only[fb,h]
theorem BD{i:Nat}{D:Nat->Bool}:fb i D i=ab:=by simp only[fb,iM]
def bS.q4(h1:aG g i=ae)(h2:aG f i=ae)(j:aG k i=ae)(m:aG e i=ae)(h:∀ a b c d,OA X N all o (mU all φ x i) (l a b c d) (x i) (l a b c d)):bS X N all φ x (vT l g f k e) i o:=by
 intro D _ _
 grind [rT]
def bS.c1(h2:aG f g=ae)(j:aG k g=ae)(n:aG e g=ae)(d:hO all f g=ab)(a:hO all k g=ab)(c:hO all e g=ab)
  (h:OA X N all o (mU all φ x g) (l ae ae ae ae) (x g) (l ab ae ae ae)):bS X N all φ x (vT l g f k e) g o:=by
 intro D b m
 grind [BD,rT]
def bS.c2(h1:aG g f=ae)(d:aG k f=ae)(m:aG e f=ae)(n:hO all f g=ab)(a:hO all k f=ab)(c:hO all e f=ab)
  (h:OA X N all o (mU all φ x f) (l ab ae ae ae) (x f) (l ab ab ae ae)):bS X N all φ x (vT l g f k e) f o:=by
 intro D b j
 grind [BD,rT]
def bS.c3(h1:aG g k=ae)(h2:aG f k=ae)(j:aG e k=ae)(m:hO all k g=ab)(c:hO all k f=ab)(b:hO all e k=ab)
  (h:OA X N all o (mU all φ x k) (l ab ab ae ae) (x k) (l ab ab ab ae)):bS X N all φ x (vT l g f k e) k o:=by
 intro D a d
 grind [BD,rT]
def bS.c4(h1:aG g e=ae)(h2:aG f e=ae)(d:aG k e=ae)(m:hO all e g=ab)(c:hO all e f=ab)(a:hO all e k=ab)
  (h:OA X N all o (mU all φ x e) (l ab ab ab ae) (x e) (l ab ab ab ab)):bS X N all φ x (vT l g f k e) e o:=by
 intro D b j
 grind [BD,rT]
end
end Go.AM
namespace Go.AM.R1
section
open Go.Proofs
variable {X:Cx ah}
def Pf(k:Int)(s:x6)(e:iT)(n:Nat)(h:WI n s)(r:n<=1000) :
  Ev X 32 [Y6 k s,Wj e] (Gw s) (Y7 k (vk k s e).1 (vk k s e).2) (Gw (vk k s e).1):=by
 refine Ev.iu tok Tryz.func32 rfl rfl rfl λt=>?_
 have g:=h.w.sz (by omega)
 have a:bC X [(15,n3),(53,Ta),(56,Gx)]:=.cons oF (.cons t53 (.cons Pg .nil));unfold vk
 by_cases i:e.1=1
 .rw[bc i]
  by_cases c:1<=e.2.1/\e.2.1<=2
  rotate_left
  .rw[aY (λh=>c h.1)]
   refine aD a [(13,ab),(16,ae),(21,ae)] 200 rfl ?_ ?_
   .simp only[ag,i,dH,aF,aC];grind
   refine AK.lZ () [0,1] rfl rfl rfl rfl rfl rfl rfl rfl rfl ?_ rfl rfl rfl rfl ly;simp[ag.cat,ag,aP.same]
  cases b:dj e.2.2.1 with
  |false =>
   rw[aY (by simp)]
   refine aD a [(13,ab),(16,ab),(21,ae)] 200 rfl ?_ ?_
   .simp only[ag,i,c,b,cF.list_fn,cF.aH,ib,nF,dH,aF,aC]
   refine AK.lZ () [0,1] rfl rfl rfl rfl rfl rfl rfl rfl rfl ?_ rfl rfl rfl rfl ly;simp[ag.cat,ag,aP.same]
  |true =>
   rw[bc ⟨c,rfl⟩];have o:=Ix (X:=X) k s e.2.1 e.2.2.1 n h r c;refine aD a [(13,ab),(16,ab),(21,ab)] 200 rfl ?_ ?_
   .simp only[ag,i,c,b,cF.list_fn,cF.aH,ib,nF,dH,aF,aC]
   refine AK.cQ o [0,1] rfl ?_;refine aD a [] 200 rfl av ?_;refine AK.lZ () [0,1] rfl rfl rfl rfl rfl rfl rfl rfl rfl ?_ rfl rfl rfl rfl ly;simp[ag.cat,ag,aP.same]
 rw[aY i]
 by_cases c:e.1=2
 .rw[bc c]
  by_cases b:1<=e.2.1/\e.2.1<=2
  rotate_left
  .rw[aY b];refine aD a [(13,ae),(31,ab),(34,ae)] 200 rfl ?_ ?_
   .simp only[ag,c,dH,aF,aC];grind
   refine AK.lZ () [0,1] rfl rfl rfl rfl rfl rfl rfl rfl rfl ?_ rfl rfl rfl rfl ly;simp[ag.cat,ag,aP.same]
  .rw[bc b];have q:=tE (X:=X) k s.1 s.2.1 e.2.1 s.2.2.1 s.2.2.2 h.w.s.xq b h.k h.f;refine aD a [(13,ae),(31,ab),(34,ab)] 200 rfl ?_ ?_
   .simp only[ag,c,b,ib,nF,dH,aF,aC];decide
   refine AK.cQ q [0,1] rfl ?_;refine aD a [] 200 rfl av ?_;refine AK.lZ () [0,1] rfl rfl rfl rfl rfl rfl rfl rfl rfl ?_ rfl rfl rfl rfl ly;simp[ag.cat,ag,aP.same]
 rw[aY c]
 by_cases b:e.1=3
 .rw[bc b];refine aD a [(13,ae),(31,ae),(40,ab)] 200 rfl ?_ ?_
  .simp only[ag,b,dH,aF,aC];decide
  refine AK.lZ () [0,1] rfl rfl rfl rfl rfl rfl rfl rfl rfl ?_ rfl rfl rfl rfl ly;simp[ag.cat,ag,aP.same]
 rw[aY b]
 by_cases j:e.1=4
 .rw[bc j]
  by_cases d:s.1.2.2.length=0
  .rw[bc d];have p:(s.1.2.2.length:Int)=0:=by omega
   refine aD a [(13,ae),(31,ae),(40,ae),(46,ab),(51,ab)] 200 rfl ?_ ?_
   .simp only[ag,j,p,g.s,g.m,cP.list_fn,cP.aH,cm.list_fn,cm.aH,cH.list_fn,cH.aH,cI.list_fn,cI.aH,dH,aF,aC];decide
   refine AK.lZ () [0,1] rfl rfl rfl rfl rfl rfl rfl rfl rfl ?_ rfl rfl rfl rfl ly;simp[ag.cat,ag,aP.same,cP.list_fn,cm.list_fn,cH.list_fn,cI.list_fn]
  .rw[aY d];refine aD a [(13,ae),(31,ae),(40,ae),(46,ab),(51,ae)] 200 rfl ?_ ?_
   .simp only[ag,j,dH,dm,cT,aF,aC];and_intros <;> first|decide|omega
   refine AK.lZ () [0,1] rfl rfl rfl rfl rfl rfl rfl rfl rfl ?_ rfl rfl rfl rfl ly;simp[ag.cat,ag,aP.same]
 rw[aY j]
 by_cases d:e.1=5
 .rw[bc d];have o:=Iy (X:=X) s.1 g.s g.n g.l;refine aD a [(13,ae),(31,ae),(40,ae),(46,ae),(67,ab)] 200 rfl ?_ ?_
  .simp only[ag,d,dH,aF,aC];decide
  refine AK.cQ o [] rfl ?_;refine aD a [] 200 rfl av ?_;refine AK.lZ () [0,1] rfl rfl rfl rfl rfl rfl rfl rfl rfl ?_ rfl rfl rfl rfl ly;simp[ag.cat,ag,aP.same]
 rw[aY d];refine aD a [(13,ae),(31,ae),(40,ae),(46,ae),(67,ae)] 200 rfl ?_ ?_
 .simp only[ag,dm,cT,aF,aC];grind
 refine AK.lZ () [0,1] rfl rfl rfl rfl rfl rfl rfl rfl rfl ?_ rfl rfl rfl rfl ly;simp[ag.cat,ag,aP.same]
abbrev MF(l:c6):List A:=[.c (.int .i64 l.1),.c (.int .i64 l.2.1),.c (.int .i64 l.2.2.1),.c (.str l.2.2.2)]
abbrev Wk(b:List (Int×Int))(a:List Int):List aV:=[.buf 46 2 b.length (cH.fn b),.buf 3 1 a.length (cI.fn a)]
abbrev E7(w:dy)(v b:Nat):List A:=.c (.int .i64 w.1)::([qP cP w.2.1.1.1,qP cm w.2.1.1.2.1,qP cH w.2.1.1.2.2,qP cI w.2.1.2.1,.vec v 1 w.2.1.2.2.length (cI.fn w.2.1.2.2)]++MF w.2.2.1++[.bp b (.sl w.2.2.2.1.length 2 0 w.2.2.2.1.length),.bp (b+1) (.sl w.2.2.2.2.length 1 0 w.2.2.2.2.length)])
abbrev Iz(w:dy):aV:=.cells 35 (M3 w)
abbrev pw(w:cM):aV:=.vec 3 1 w.2.2.length (cI.fn w.2.2)
def cv4(w:dy)(a b c d:Bool):List aV :=
 match a,b,c,d with
 |true,ab,ab,ab=>[Iz w,.cells 35 (.c (.int .i64 w.1)::([qP cP w.2.1.1.1,qP cm w.2.1.1.2.1,qP cH w.2.1.1.2.2,qP cI w.2.1.2.1,.vec 2 1 w.2.1.2.2.length (cI.fn w.2.1.2.2)]++MF w.2.2.1++[.bp 3 (.sl (0+w.2.2.2.1.length) 2 0 (0+w.2.2.2.1.length)),.bp 4 (.sl (0+w.2.2.2.2.length) 1 0 (0+w.2.2.2.2.length))])),pw w.2.1,
   .buf 46 2 (0+w.2.2.2.1.length) (cO 0 (λi=>([]:List (List C)).getD i []) (cH.fn w.2.2.2.1)),.buf 3 1 (0+w.2.2.2.2.length) (cO 0 (λi=>([]:List (List C)).getD i []) (cI.fn w.2.2.2.2))]
 |true,ab,ab,ae=>[Iz w,oc,pw w.2.1,.buf 46 2 (0+w.2.2.2.1.length) (cO 0 (λi=>([]:List (List C)).getD i []) (cH.fn w.2.2.2.1)),.buf 3 1 (0+w.2.2.2.2.length) (cO 0 (λi=>([]:List (List C)).getD i []) (cI.fn w.2.2.2.2))]
 |true,ab,ae,_=>[Iz w,oc,pw w.2.1,.buf 46 2 (0+w.2.2.2.1.length) (cO 0 (λi=>([]:List (List C)).getD i []) (cH.fn w.2.2.2.1))]
 |true,ae,_,_=>[Iz w,oc,pw w.2.1]
 |false,_,_,_=>[Iz w,oc]
abbrev Vu(k:Nat):D:=.e (.one (.c (.sl ab k 0 λi=>([]:List (List C)).getD i [])))
abbrev Y8(w:cM)(v:Nat):List A:=[qP cP w.1.1,qP cm w.1.2.1,qP cH w.1.2.2,qP cI w.2.1,.vec v 1 w.2.2.length (cI.fn w.2.2)]
abbrev xCv(w:dy)(i:Nat):D :=
 [.e (.one (.ptr 0 0)),dI w.1,.e (.one (.ptr 0 1)),IY w.2.1,.e (.agg (Y8 w.2.1 2)),.e (.one (.ptr 0 6)),gf w.2.2.1,Vu 2,.e (.one (.ptr 0 10)),cH.sl w.2.2.2.1,.e (.one (.bp 3 (.sl (0+w.2.2.2.1.length) 2 0 (0+w.2.2.2.1.length)))),Vu 1,.e (.one (.ptr 0 11)),cI.sl w.2.2.2.2,.e (.one (.bp 4 (.sl (0+w.2.2.2.2.length) 1 0 (0+w.2.2.2.2.length)))),
  .e (.agg (.c (.int .i64 w.1)::(Y8 w.2.1 2++MF w.2.2.1++[.bp 3 (.sl (0+w.2.2.2.1.length) 2 0 (0+w.2.2.2.1.length)),.bp 4 (.sl (0+w.2.2.2.2.length) 1 0 (0+w.2.2.2.2.length))]))),.any].getD i .any
set_option maxRecDepth 20000 in
def qR(w:dy)(h:MG w.2.1)(q:w.2.2.2.1.length<=4000000)(o:w.2.2.2.2.length<=4000000):Ev X 34 [CJ w] [] (.e (.agg (E7 w 0 1))) ([pw w.2.1]++Wk w.2.2.2.1 w.2.2.2.2):=by
 refine Ev.iu tok Tryz.func34 rfl rfl rfl λp=>?_
 have f:bC X [(61,wR [IY w.2.1] [] (.e (.agg (Y8 w.2.1 0))) [pw w.2.1])]:=.cons (yG (xo w.2.1 h.s h.n h.l)) .nil;have i:(0+w.2.2.2.1.length)*i46.bytes<=140737488355328:=by rw[show i46.bytes=16 from rfl];omega
 have k:(0+w.2.2.2.2.length)*i3.bytes<=140737488355328:=by rw[show i3.bytes=8 from rfl];omega
 refine aD f [(1000001,ab)] 200 rfl av ?_;refine AK.flags eh (xCv w) (vT (cv4 w) 4 10 14 16) rfl rfl rfl rfl
  ⟨bS.q4 rfl rfl rfl rfl (λa b c d=>by cases a <;> cases b <;> cases c <;> cases d <;> exact OA.bM tok f rfl),
  bS.q4 rfl rfl rfl rfl (λa b c d=>by cases a <;> cases b <;> cases c <;> cases d <;> exact OA.bM tok f rfl),
  bS.q4 rfl rfl rfl rfl (λa b c d=>by cases a <;> cases b <;> cases c <;> cases d <;> exact OA.bM tok f rfl),
  bS.q4 rfl rfl rfl rfl (λa b c d=>by cases a <;> cases b <;> cases c <;> cases d <;> exact OA.bM tok f rfl),
  bS.c1 rfl rfl rfl rfl rfl rfl (dW (ds:=[]) tok f (σ':=aa _) rfl ⟨rfl,rfl⟩),
  bS.q4 rfl rfl rfl rfl (λa b c d=>by cases a <;> cases b <;> cases c <;> cases d <;> exact OA.bM tok f rfl),
  bS.q4 rfl rfl rfl rfl (λa b c d=>by cases a <;> cases b <;> cases c <;> cases d <;> exact OA.bM tok f rfl),
  bS.q4 rfl rfl rfl rfl (λa b c d=>by cases a <;> cases b <;> cases c <;> cases d <;> exact OA.bM tok f rfl),
  bS.q4 rfl rfl rfl rfl (λa b c d=>by cases a <;> cases b <;> cases c <;> cases d <;> exact OA.bM tok f rfl),
  bS.q4 rfl rfl rfl rfl (λa b c d=>by cases a <;> cases b <;> cases c <;> cases d <;> exact OA.bM tok f rfl),
  bS.c2 rfl rfl rfl rfl rfl rfl (dW (ds:=[(3000013,ab)]) tok f (σ':=aa _) rfl i),
  bS.q4 rfl rfl rfl rfl (λa b c d=>by cases a <;> cases b <;> cases c <;> cases d <;> exact OA.bM tok f rfl),
  bS.q4 rfl rfl rfl rfl (λa b c d=>by cases a <;> cases b <;> cases c <;> cases d <;> exact OA.bM tok f rfl),
  bS.q4 rfl rfl rfl rfl (λa b c d=>by cases a <;> cases b <;> cases c <;> cases d <;> exact OA.bM tok f rfl),
  bS.c3 rfl rfl rfl rfl rfl rfl (dW (ds:=[(3000017,ab)]) tok f (σ':=aa _) rfl k),
  bS.q4 rfl rfl rfl rfl (λa b c d=>by cases a <;> cases b <;> cases c <;> cases d <;> exact OA.bM tok f rfl),
  bS.c4 rfl rfl rfl rfl rfl rfl (dW (ds:=[]) tok f (σ':=aa _) rfl av),av⟩ ?_
 intro D g;show AK X _ _ _ _ _ (cv4 w (D 4) (D 10) (D 14) (D 16));rw[g 4 (by decide),g 10 (by decide),g 14 (by decide),g 16 (by decide)]
 refine aD f [] 1 rfl av ?_;refine AK.norm [Iz w,.cells 35 (E7 w 2 3),pw w.2.1,.buf 46 2 w.2.2.2.1.length (cH.fn w.2.2.2.1),.buf 3 1 w.2.2.2.2.length (cI.fn w.2.2.2.2)] rfl ?_ ?_
 .simp[ag,ag.cat,aP.same,gn]
 refine AK.dA () [2,3,4] rfl rfl rfl rfl rfl rfl rfl rfl ?_ rfl rfl rfl rfl (λj m=>absurd m (by simp))
 simp[ag,ag.cat,aP.same]
end
end Go.AM.R1
namespace Go.AM
section
open Go.Conc (G)
section
variable {P:aq}{X:Cx P}{N:Nat}{ops:Array aw}{φ:Fr}{σ:List aV}{c:Type}{x:c->Nat->D}{S:c->(Nat->Bool)->List aV}{Inv:c->(Nat->Bool)->Prop}
def iB{P:aq}(X:Cx P)(N:Nat)(all:List aw)(φ:Fr){c:Type}(x:c->Nat->D)(S:c->(Nat->Bool)->List aV)(Inv:c->(Nat->Bool)->Prop)(i:Nat)(o:aw):Prop :=
 ∀ b (D:Nat->Bool),Inv b D->(∀ j,hO all i j=ab->D j=ab)->(∀ j,(j=i∨hO all j i=ab)->D j=ae)->rU X N all o (mU all φ (x b) i) (S b D) (λq:{ a:c // (∀ j,D j=ab->x a j=x b j)/\Inv a (fb i D) }=>x q.1 i) (λq=>S q.1 (fb i D))
def JG{P:aq}(X:Cx P)(N:Nat)(all:List aw)(φ:Fr){c:Type}(x:c->Nat->D)(S:c->(Nat->Bool)->List aV)(Inv:c->(Nat->Bool)->Prop):List aw->Nat->Prop
 |[],_=>True
 |o::r,i=>iB X N all φ x S Inv i o/\JG X N all φ x S Inv r (i+1)
theorem JG.get{all:List aw}:∀ {l:List aw}{k:Nat},JG X N all φ x S Inv l k->∀ i o,l[i]?=aa o->iB X N all φ x S Inv (k+i) o
 |[],_,_,i,o,h=>by simp at h
 |p::r,k,h,0,o,a=>by simp at a;subst a;exact h.1
 |p::r,k,h,i+1,o,a=>by
  have:=JG.get h.2 i o (by simpa using a)
  grind
def AK.QV{ops:Array aw}{id:Nat}{K:List It}{Qf:Post}(p:P.follows Departure.mixedOrders=ab)(x:c->Nat->D)(S:c->(Nat->Bool)->List aV)(Inv:c->(Nat->Bool)->Prop)(d:c)(m:Inv d λ_=>ae)(q:S d (λ_=>ae)=σ)
  (b:mo ops.toList=ab) (e:rV ops.toList 0=ab) (f:nS N ops.toList=ab) (one:JG X N ops.toList φ x S Inv ops.toList 0)
  (k:∀ a D,Inv a D->(∀ i,i<ops.toList.length->D i=ab)->AK X N Qf K .normal (MT ops.toList φ (x a)) (S a D)):AK X N Qf (.code (.region id ops ab)::K) .normal φ σ:=by
 have:=AW.reg (X:=X) (N:=N) (φ:=φ) (σ:=σ) p (all:=ops.toList) ops.toList.length x S Inv d m q b e f (bg _)
  (λi h1 h2=>absurd h2 (ky.2 h1)) (λa D _ _ i h1 h2=>absurd h2 (ky.2 h1))
  (λa D i o j n _ l h g=>by
   have h1:=one.get i o n;rw[bt] at h1;exact h1 a D j (vU g i o n h) (FE g l))
  (Q:=AK X N Qf K) (λa D j r=>by
   rw[pF];exact .nil (k a D j r)) id
 rw[oH] at this;exact this
theorem iB.of{all:List aw}{i:Nat}{o:aw}(h:∀ d (D:Nat->Bool),Inv d D->(∀ j,hO all i j=ab->D j=ab)->(∀ j,(j=i∨hO all j i=ab)->D j=ae)->Inv d (fb i D)/\OA X N all o (mU all φ (x d) i) (S d D) (x d i) (S d (fb i D))):iB X N all φ x S Inv i o:=by
 intro d D g h1 h2 s a f hh b k cs SS idx rest hb hi hK;obtain⟨l,e⟩:=h d D g h1 h2;exact e s a f hh b k cs SS idx rest hb hi λv s' r1 r2 r3=>hK ⟨d,λ_ _=>rfl,l⟩ v s' r1 r2 r3
def iB.ofI{all:List aw}{i:Nat}{o:aw}(h:∀ e (D:Nat->Bool),Inv e D->(∀ j,hO all i j=ab->D j=ab)->(∀ j,(j=i∨hO all j i=ab)->D j=ae) ->
  ∃ (ι:Type) (y:ι->Go.AM.D) (σ':ι->List aV),rU X N all o (mU all φ (x e) i) (S e D) y σ'/\∀ j,∃ d,((∀ q,D q=ab->x d q=x e q)/\Inv d (fb i D))/\y j=x d i/\σ' j=S d (fb i D)):iB X N all φ x S Inv i o:=by
 intro e D g h1 h2 s a f hh b k cs SS idx rest hb hi hK;obtain⟨ι,y,σ',l,n⟩:=h e D g h1 h2;refine l s a f hh b k cs SS idx rest hb hi λj v s' r1 r2 r3=>?_
 obtain⟨d,m,p2,p3⟩:=n j;rw[p2] at r1;rw[p3] at r1 r2 r3;exact hK ⟨d,m⟩ v s' r1 r2 r3
end
section
variable {P:aq}{X:Cx P}{N:Nat}{all:List aw}{φ:Fr}{ι:Type}{x:Option ι->Nat->D}{s:Option ι->Bool->Bool->Bool->List aV}{i m e f d:Nat}{o:aw}
abbrev SO(s:Option ι->Bool->Bool->Bool->List aV)(e f d:Nat):Option ι->(Nat->Bool)->List aV:=λa D=>s a (D e) (D f) (D d)
abbrev IO(ι:Type)(m:Nat):Option ι->(Nat->Bool)->Prop:=λa D=>a.isSome=D m
def iB.quiet(k:aG m i=ae)(h1:aG e i=ae)(h2:aG f i=ae)(j:aG d i=ae)(h:∀ g a b c,OA X N all o (mU all φ (x g) i) (s g a b c) (x g i) (s g a b c)) :
  iB X N all φ x (SO s e f d) (IO ι m) i o:=by
 grind [iB.of,rT]
def iB.zL(r:aG m i=ae)(h1:aG e i=ae)(h2:aG f i=ae)(n:aG d i=ae)(p:hO all i m=ab)(h:∀ j a b c,OA X N all o (mU all φ (x (aa j)) i) (s (aa j) a b c) (x (aa j) i) (s (aa j) a b c)) :
  iB X N all φ x (SO s e f d) (IO ι m) i o:=by
 refine iB.of λg D q l _=>⟨?_,?_⟩
 .grind [rT]
 .show OA X N all o _ (s g (D e) (D f) (D d)) _ (s g (fb i D e) (fb i D f) (fb i D d));rw[rT h1,rT h2,rT n];have k:=l m p;cases g with
  |none=>grind
  |some j=>exact h _ _ _ _
def iB.fam(h1:aG e m=ae)(h2:aG f m=ae)(w:aG d m=ae)(t:hO all e m=ab)(k:hO all d m=ab)(r:∀ j q,q=m∨hO all q m=ab∨x (aa j) q=x af q)
  (h:∀ b,rU X N all o (mU all φ (x af) m) (s af ae b ae) (λj=>x (aa j) m) (λj=>s (aa j) ae b ae)):iB X N all φ x (SO s e f d) (IO ι m) m o:=by
 refine iB.ofI λc D u v a=>?_
 have g:=a m (.inl rfl);have p:=a e (.inr t);have n:=a d (.inr k);have l:c=af:=by
  cases c with
  |none=>rfl
  |some j=>grind
 grind [BD,rT]
def iB.W8(r:aG m e=ae)(h2:aG f e=ae)(p:aG d e=ae)(g:hO all e m=ab)(l:hO all d e=ab)
  (h:∀ j b,OA X N all o (mU all φ (x (aa j)) e) (s (aa j) ae b ae) (x (aa j) e) (s (aa j) ab b ae)):iB X N all φ x (SO s e f d) (IO ι m) e o:=by
 refine iB.of λk D n c q=>?_
 have a:=c m g;cases k with
 |none=>grind
 |some j =>
  grind [rT,BD]
def iB.W9(j:aG m f=ae)(h1:aG e f=ae)(c:aG d f=ae)(g:hO all d f=ab)
  (h:∀ b a,OA X N all o (mU all φ (x b) f) (s b a ae ae) (x b f) (s b a ab ae)):iB X N all φ x (SO s e f d) (IO ι m) f o:=by
 grind [iB.of,rT,BD]
def iB.Xa(p:aG m d=ae)(h1:aG e d=ae)(h2:aG f d=ae)(c:hO all d m=ab)(q:hO all d e=ab)(l:hO all d f=ab)
  (h:∀ j,OA X N all o (mU all φ (x (aa j)) d) (s (aa j) ab ab ae) (x (aa j) d) (s (aa j) ab ab ab)):iB X N all φ x (SO s e f d) (IO ι m) d o:=by
 refine iB.of λg D k b n=>?_
 have a:=b m c;cases g with
 |none=>grind
 |some j =>
  grind [rT,BD]
end
end
end Go.AM
namespace Go.AM.R1
section
open Go.Proofs
variable {X:Cx ah} [X.js]
abbrev Ph(s:x6):aV:=.cells 35 (Dn 7 s.1 s.2.1 2)
abbrev Y9(k:Nat):={ q:iT×Nat // EvP k q }
def w5B(m:Nat)(b:Nat->Int)(k:Nat)(s:x6)(a:Option (Y9 k))(d3 d7 d8:Bool):List aV :=
 match a with
 |none=>match d7 with
  |false=>[lu m b k,oc]++Gw s++[Ph s]
  |true=>[lu m b k,oc]++Gw s++[Ph s,oc]
 |some q=>match d3,d7,d8 with
  |false,ae,_=>[lu m b q.1.2,oc]++Gw s++[Ph s]
  |false,ab,_=>[lu m b q.1.2,oc]++Gw s++[Ph s,oc]
  |true,ae,_=>[lu m b q.1.2,oc]++Gw (vk 7 s q.1.1).1++[Ph s]
  |true,ab,ae=>[lu m b q.1.2,oc]++Gw (vk 7 s q.1.1).1++[Ph s,oc]
  |true,ab,ab=>[lu m b q.1.2,oc]++Gw (vk 7 s q.1.1).1++[Ph s,Ph (vk 7 s q.1.1).1]
abbrev Za(s:x6):D:=.e (.agg (Dn 7 s.1 s.2.1 2))
def x5(k:Nat)(s:x6)(a:Option (Y9 k))(i:Nat):D :=
 match a with
 |none=>[Za s,.e (.one (.ptr 0 0)),.any,.any,.any,.any,.any,.e (.one (.ptr 5 0)),.any,.any].getD i .any
 |some q=>[Za s,.e (.one (.ptr 0 0)),Wj q.1.1,.eJ [.agg (Dn 7 (vk 7 s q.1.1).1.1 (vk 7 s q.1.1).1.2.1 2),.one (.c (.bool (vk 7 s q.1.1).2))],.eJ [.agg (Dn 7 (vk 7 s q.1.1).1.1 (vk 7 s q.1.1).1.2.1 2),.one (.c (.bool (vk 7 s q.1.1).2))],
   Za (vk 7 s q.1.1).1,dB (vk 7 s q.1.1).2,.e (.one (.ptr 5 0)),.any,dB (vk 7 s q.1.1).2].getD i .any
abbrev Zb:x6:=(M5,x7,Zc,Zd)
def WI.zero:WI 0 Zb:=⟨TW.nil,rfl,rfl⟩
def MH:∀ j,j<1->([0,5,6,7]:List Nat)[j]?=aa j:=λj a=>by
 grind
def fG(es:List iT):x6:=es.foldl (λs e=>(vk 7 s e).1) Zb
def xr(es:List iT)(e:iT):fG (es++[e])=(vk 7 (fG es) e).1:=by unfold fG;grind
def C8:∀ (r es:List iT),WI es.length (fG es)->WI (es++r).length (fG (es++r))
 |[],es,h=>by grind
 |e::r,es,h=>by
  have a:WI (es++[e]).length (fG (es++[e])):=by rw[xr,bP];exact h.do
  have:=C8 r (es++[e]) a
  grind
def px(es:List iT):WI es.length (fG es):=C8 es [] WI.zero
def jr(v:Int)(s:x6):dy :=
 if v=0 then (7,s.1,s.2.1,s.2.2.1,[0]) else if v=1 then (7,s.1,s.2.1,s.2.2.1.set 0 (10,(s.2.2.1.getD 0 (0,0)).2),s.2.2.2) else (7,s.1,s.2.1,s.2.2.1,s.2.2.2)
structure M6 (k:Nat) where
 es:List iT
 v:Int
 k1:Nat
 hn:es.length<=8
 lo:k<=k1
 hi:k1<=k+4002
abbrev M6.w{k:Nat}(q:M6 k):dy:=jr q.v (fG q.es)
def IA{v:Int}{es:List iT}(h:es.length<=8):MG (jr v (fG es)).2.1/\(jr v (fG es)).2.2.2.1.length<=2/\(jr v (fG es)).2.2.2.2.length<=2:=by
 have a:=px es;have d:=a.w.sz (by omega)
 have b:=a.k;have c:=a.f;unfold jr
 grind
set_option maxRecDepth 20000 in
def E8(m:Nat)(b:Nat->Int)(F:Bytes b)(k:Nat)(hk:k<=30000)(J:m<=1048576) :
  cK (ι:=M6 k) X 13 [.e (.one (.ptr 0 0))] [lu m b k] (λq=>.e (.agg (E7 q.w 1 2))) (λq=>[lu m b q.k1,pw q.w.2.1]++Wk q.w.2.2.2.1 q.w.2.2.2.2):=by
 refine cK.fY tok Tryz.func13 rfl rfl rfl λV=>?_
 refine bk rfl av ?_;refine AK.cQ (A7 7 (by decide)) [] rfl ?_
 refine bk rfl av ?_;refine AK.cP (ez m b F k 9 (by omega) J (by omega)) [0] rfl (λ_=>rfl) ?_
 rintro⟨u,W,Y⟩;refine bk rfl av ?_;refine AK.bO 5 (λq:Nat×List iT×Nat=>q.1+q.2.1.length<=8/\k<=q.2.2/\q.2.2<=k+1+500*q.2.1.length) (λq=>[(0,.e (.one (.ptr 0 0))),(2,.e (.one (.ptr 1 0))),(3,.e (.one (.ptr 4 0))),(5,dI q.1)])
  (λq=>[lu m b q.2.2,oc]++Gw (fG q.2.1)++[Ph (fG q.2.1)]) (λq=>q.1) (u.toNat,[],k+1) rfl ?_ rfl ?_ rfl ⟨by grind,by grind,by grind⟩ ?_
 .simp only[ag.cat,ag,aF,aC];omega
 .have e:fG []=Zb:=rfl;simp[ag.cat,ag,aP.same,e]
 rintro⟨n,es,k1⟩ ⟨U,T,R⟩;simp only at U T R;have r:=px es;have x:=xr es;have y:∀ v,MG (jr v (fG es)).2.1/\(jr v (fG es)).2.2.2.1.length<=2/\(jr v (fG es)).2.2.2.2.length<=2:=λv=>IA (by omega)
 have l:∀ v k1,k<=k1->k1<=k+4002->∃ q:M6 k,q.w=jr v (fG es)/\q.k1=k1:=λv k1 a b=>⟨⟨es,v,k1,by omega,a,b⟩,rfl,rfl⟩
 by_cases h:0<n
 .refine aX [(15,ab),(1000005,ab)] 100 rfl (by simp only[ag,ba];omega) ?_
  generalize hs:fG es=s at *;refine AK.QV eh (x5 k1 s) (SO (w5B m b k1 s) 3 7 8) (IO (Y9 k1) 2) af rfl rfl rfl rfl rfl
   ⟨iB.quiet rfl rfl rfl rfl (λp a b c=>by rcases p with _|q <;> cases a <;> cases b <;> cases c <;> exact OA.bM tok bC.nil rfl),
   iB.quiet rfl rfl rfl rfl (λp a b c=>by rcases p with _|q <;> cases a <;> cases b <;> cases c <;> exact OA.bM tok bC.nil rfl),
   iB.fam rfl rfl rfl rfl rfl (λj q=>by
    match q with
    |0=>exact .inr (.inr rfl)
    |1=>exact .inr (.inr rfl)
    |2=>grind
    |3=>exact .inr (.inl rfl)
    |4=>exact .inr (.inl rfl)
    |5=>exact .inr (.inl rfl)
    |6=>exact .inr (.inl rfl)
    |7=>exact .inr (.inr rfl)
    |8=>exact .inr (.inr rfl)
    |9=>exact .inr (.inl rfl)
    |q+10=>exact .inr (.inr rfl)) (λa=>by cases a <;> exact rU.u6 (E9 m b F k1 (by omega) J) [0] rfl rfl rfl rfl rfl rfl rfl (λ_=>rfl) rfl (λ_=>rfl)),
   iB.W8 rfl rfl rfl rfl rfl (λj a=>by
    have Q:bC X [(32,wR [Y6 7 s,Wj j.1.1] (Gw s) (Y7 7 (vk 7 s j.1.1).1 (vk 7 s j.1.1).2) (Gw (vk 7 s j.1.1).1))]:=.cons (yG (Pf 7 s j.1.1 es.length r (by omega))) .nil
    cases a <;> exact dW (ds:=[]) tok Q (σ':=aa _) rfl ⟨rfl,rfl⟩),
   iB.zL rfl rfl rfl rfl rfl (λq a b c=>by cases a <;> cases b <;> cases c <;> exact OA.bM tok bC.nil rfl),
   iB.zL rfl rfl rfl rfl rfl (λq a b c=>by cases a <;> cases b <;> cases c <;> exact OA.bM tok bC.nil rfl),
   iB.zL rfl rfl rfl rfl rfl (λq a b c=>by cases a <;> cases b <;> cases c <;> exact OA.bM tok bC.nil rfl),
   iB.W9 rfl rfl rfl rfl (λp a=>by rcases p with _|q <;> cases a <;> exact dW (ds:=[]) tok bC.nil (σ':=aa _) rfl av),
   iB.Xa rfl rfl rfl rfl rfl rfl (λj=>dW (ds:=[]) tok bC.nil (σ':=aa _) rfl av),
   iB.zL rfl rfl rfl rfl rfl (λq a b c=>by cases a <;> cases b <;> cases c <;> exact OA.bM tok bC.nil rfl),av⟩ ?_
  intro p D S E;have H:p.isSome=ab:=(show p.isSome=D 2 from S).trans (E 2 (by decide))
  cases p with
  |none=>cases H
  |some q =>
  obtain⟨⟨e,P⟩,C⟩:=q;have G:=C.lo;have K:=C.hi;simp only at G K;show AK X _ _ _ _ _ (w5B m b k1 s (aa ⟨(e,P),C⟩) (D 3) (D 7) (D 8));rw[E 3 (by decide),E 7 (by decide),E 8 (by decide)]
  have x:=x e;refine bk rfl ?_ (AK.aQ (n-1,es++[e],P) rfl ?_ ?_ ⟨by grind,by grind,by grind⟩ (by grind))
  .simp only[ag,bu];omega
  .simp only[ag.cat,ag,aF,aC];omega
  .simp only[x];simp[ag.cat,ag,aP.same]
 refine aX [(15,ae)] 100 rfl (by simp only[ag,bJ];omega) (AK.leaveD rfl rfl ?_)
 refine bk rfl av ?_;refine AK.cP (ez m b F k1 40 (by omega) J (by omega)) [0] rfl (λ_=>rfl) ?_
 rintro⟨v,v0,v1⟩;have d:(fG es).2.2.1.length=2:=r.k;have g:(fG es).2.2.2.length=2:=r.f
 by_cases L:v=0
 .obtain⟨q,o,B⟩:=l 0 (k1+1) (by omega) (by omega)
  obtain⟨A,N,O⟩:=y 0;have z:=qR (X:=X) _ A (by omega) (by omega)
  refine aX [(29,ab),(1000012,ab)] 100 rfl (by simp[ag,L]) ?_
  refine AK.rJ 2 rfl rfl rfl (by simp[ag.cat,ag]) (by simp[ag.cat,ag]) ?_
  refine bk rfl av ?_;refine AK.mm z.Bc [] rfl rfl rfl rfl ?_ rfl rfl rfl (λ_=>rfl) rfl (λ_=>rfl) rfl ?_
  .simp only[jr,bc,ag.cat,ag,aF,aC]
   and_intros <;> first|exact aP.same|rfl|omega|exact d|exact g|exact d.symm|exact g.symm|(intro i hi;match i,hi with|0,_=>rfl)|(simp only[pH];omega)
  rintro -;refine bk rfl av ?_;rw[<-o,show (k1:Int)+1=((q.k1:Nat):Int) by omega]
  refine AK.dA q [0,5,6,7] rfl rfl rfl rfl rfl rfl rfl rfl ?_ rfl rfl rfl rfl MH;simp[ag.cat,ag,aP.same]
 by_cases t:v=1
 .obtain⟨q,o,B⟩:=l 1 (k1+1) (by omega) (by omega)
  obtain⟨A,N,O⟩:=y 1;have z:=qR (X:=X) _ A (by omega) (by omega)
  obtain⟨Z,b0,M⟩:∃ a b,(fG es).2.2.1=[a,b]:=by
   match C:(fG es).2.2.1,d with
   |[a,b],_=>grind
  have I:aP 2 (uw 0 (m9 0 [.int .i64 10,.int .i64 ((fG es).2.2.1.getD 0 (0,0)).2] (cH.fn (fG es).2.2.1))) (cH.fn ((fG es).2.2.1.set 0 (10,((fG es).2.2.1.getD 0 (0,0)).2))):=by
   rw[M];intro i hi
   match i,hi with
   |0,_=>rfl
   |1,_=>rfl
  refine aX [(29,ae),(33,ab),(1000012,ab)] 100 rfl (by simp[ag,t]) ?_
  refine AK.rJ 2 rfl rfl rfl (by simp[ag.cat,ag]) (by simp[ag.cat,ag]) ?_
  refine AK.rJ 3 rfl rfl rfl (by simp[ag.cat,ag]) (by simp[ag.cat,ag]) ?_
  refine bk rfl av ?_;refine AK.mm z.Bc [] rfl rfl rfl rfl ?_ rfl rfl rfl (λ_=>rfl) rfl (λ_=>rfl) rfl ?_
  .simp only[jr,aY (show ¬(1:Int)=0 by decide),bc,ag.cat,ag,aF,aC]
   and_intros <;> first|exact aP.same|exact I|rfl|omega|exact d|exact g|exact d.symm|exact g.symm|grind|(simp only[pH];omega)
  rintro -;refine bk rfl av ?_;rw[<-o,show (k1:Int)+1=((q.k1:Nat):Int) by omega]
  refine AK.dA q [0,5,6,7] rfl rfl rfl rfl rfl rfl rfl rfl ?_ rfl rfl rfl rfl MH;simp[ag.cat,ag,aP.same]
 .obtain⟨q,o,B⟩:=l v (k1+1) (by omega) (by omega)
  obtain⟨A,N,O⟩:=y v;have z:=qR (X:=X) _ A (by omega) (by omega)
  refine aX [(29,ae),(33,ae),(1000012,ab)] 100 rfl (by simp[ag,L,t]) ?_
  refine AK.rJ 2 rfl rfl rfl (by simp[ag.cat,ag]) (by simp[ag.cat,ag]) ?_
  refine AK.rJ 3 rfl rfl rfl (by simp[ag.cat,ag]) (by simp[ag.cat,ag]) ?_
  refine bk rfl av ?_;refine AK.mm z.Bc [] rfl rfl rfl rfl ?_ rfl rfl rfl (λ_=>rfl) rfl (λ_=>rfl) rfl ?_
  .simp only[jr,aY L,aY t,ag.cat,ag,aF,aC]
   and_intros <;> first|exact aP.same|rfl|omega|exact d|exact g|exact d.symm|exact g.symm|(intro i hi;match i,hi with|0,_=>rfl)|(simp only[pH];omega)
  rintro -;refine bk rfl av ?_;rw[<-o,show (k1:Int)+1=((q.k1:Nat):Int) by omega]
  refine AK.dA q [0,5,6,7] rfl rfl rfl rfl rfl rfl rfl rfl ?_ rfl rfl rfl rfl MH;simp[ag.cat,ag,aP.same]
end
section
open Go.Proofs
abbrev cTr:List (Nat×dh):=[(24,te)]
def ES(k:Int)(s:aZ)(w:Qa s):Ev (Cx.beside ah) 107 [eH s,dI k] [] (dB ((bh s.2.1.length).all (jV k s))) []:=by
 refine Ev.bQ Tryz.func107 rfl λz=>?_
 have A:=w.sN;have v:=w.sm;have o:bC (Cx.beside ah) cTr:=.cons yz .nil;refine aD o [] 100 rfl av ?_;refine AK.bO 1 (λi=>i<=s.2.1.length/\∀ j,j<i->jV k s j=ab) (λi:Nat=>[(1,dI k),(2,.e (.one (.ptr 0 0))),(10,cm.sl s.2.1),(11,dI s.2.1.length),(12,dI i)]) (λ_=>[IS s]) (λi=>s.2.1.length-i) 0 rfl (by simp[ag.cat,ag,aP.same]) rfl (by simp[ag.cat,ag,aP.same]) rfl ⟨by omega,by omega⟩ ?_
 rintro i ⟨hi,n⟩
 by_cases h:i<s.2.1.length
 .have t:s.2.1.getD i cm.bD=s.2.1.getD i (0,[]):=rfl;have r:s.2.1.getD (i-1) cm.bD=s.2.1.getD (i-1) (0,[]):=rfl;have c:jV k s i=(decide (1<=(s.2.1.getD i (0,[])).1/\(s.2.1.getD i (0,[])).1<=20)&&CE (·.1) (0,[]) s.2.1 i&&(cx k (s.2.1.getD i (0,[])) s.1).isSome):=rfl;have u:=mF (f:=λp:cC=>p.1) (d:=(0,[])) (l:=s.2.1) (i:=i)
  have g:=v _ (iD (d:=(0,[])) h);generalize s.2.1.getD i (0,[])=p at *;generalize s.2.1.getD (i-1) (0,[])=p' at *
  by_cases c1:1<=p.1
  rotate_left
  .refine aD o [(13,ab),(20,ab),(25,ab),(40,ab)] 100 rfl ?_ (AK.ei (b5.zero rfl ?_))
   .simp[-ai,ag,t];omega
   .rw[dY h (by grind)];simp[ag]
  by_cases c2:p.1<=20
  rotate_left
  .refine aD o [(13,ab),(20,ae),(25,ab),(40,ab)] 100 rfl ?_ (AK.ei (b5.zero rfl ?_))
   .simp[-ai,ag,t];omega
   .rw[dY h (by grind)];simp[ag]
  rw[cj ⟨c1,c2⟩,dJ] at c
  by_cases x:i=0
  .subst x;rw[show CE (·.1) (0,[]) s.2.1 0=ab from rfl,dJ] at c
   cases q:(cx k p s.1).isSome with
   |false =>
    refine aD o [(13,ab),(20,ae),(25,ae),(27,ae),(40,ae),(50,ab)] 100 rfl ?_ (AK.ei (b5.zero rfl ?_))
    .simp[-ai,ag,t,bu,cL.list_fn,cL.aH,cP.list_fn,cP.aH,q,g.1];and_intros <;> first|omega|exactλa b m=>g.2 (a,b) m
    .rw[dY h (c.trans q)];simp[ag]
   |true =>
    refine aD o [(13,ab),(20,ae),(25,ae),(27,ae),(40,ae),(50,ae)] 100 rfl ?_ (AK.aQ 1 rfl (by simp[ag.cat,ag,aP.same]) (by simp[ag.cat,ag,aP.same]) ⟨h,fg n (c.trans q)⟩ (by omega))
    simp[-ai,ag,t,bu,cL.list_fn,cL.aH,cP.list_fn,cP.aH,q,g.1];and_intros <;> first|omega|exactλa b m=>g.2 (a,b) m
  rw[u x] at c
  by_cases y:p'.1<p.1
  rotate_left
  .refine aD o [(13,ab),(20,ae),(25,ae),(28,ab),(38,ab),(40,ab)] 100 rfl ?_ (AK.ei (b5.zero rfl ?_))
   .simp[-ai,ag,t,r,bu];omega
   .rw[dY h (by rw[c,eu y];rfl)];simp[ag]
  rw[cj y,dJ] at c;cases q:(cx k p s.1).isSome with
  |false =>
   refine aD o [(13,ab),(20,ae),(25,ae),(28,ab),(38,ae),(40,ae),(50,ab)] 100 rfl ?_ (AK.ei (b5.zero rfl ?_))
   .simp[-ai,ag,t,r,bu,cL.list_fn,cL.aH,cP.list_fn,cP.aH,q,g.1];and_intros <;> first|omega|exactλa b m=>g.2 (a,b) m
   .rw[dY h (c.trans q)];simp[ag]
  |true =>
   refine aD o [(13,ab),(20,ae),(25,ae),(28,ab),(38,ae),(40,ae),(50,ae)] 100 rfl ?_ (AK.aQ (i+1) rfl (by simp[ag.cat,ag,aP.same]) (by simp[ag.cat,ag,aP.same]) ⟨h,fg n (c.trans q)⟩ (by omega))
   simp[-ai,ag,t,r,bu,cL.list_fn,cL.aH,cP.list_fn,cP.aH,q,g.1];and_intros <;> first|omega|exactλa b m=>g.2 (a,b) m
 obtain rfl:i=s.2.1.length:=by omega
 rw[cd.2 n];refine aD o [(13,ae)] 100 rfl (by simp[ag]) (AK.leaveD rfl rfl ?_)
 exact aD o [] 100 rfl av (AK.bm rfl (by simp[ag]))
def xX(k:Int)(s:aZ):gF k s=(ck k&&yV k s&&(bh s.2.1.length).all (jV k s)&&jy s.2.2):=by
 unfold gF yV;cases (bh s.1.length).all (l7 k s.1) <;> cases decide (bY s.1).Nodup <;> cases (bh s.2.1.length).all (jV k s) <;> cases ck k <;> cases jy s.2.2 <;> cases decide (s.1.length<=20) <;> rfl
abbrev Sn:dh:=p0 Oe aI (λs k=>dB (yV k s)) λs k=>[ck k=ab,Qa s]
abbrev So:dh:=p0 Oe aI (λs k=>dB ((bh s.2.1.length).all (jV k s))) λs _=>[Qa s]
def CO(k:Int)(s:aZ)(f:Qa s):Ev (Cx.beside ah) 65 [dI k,eH s] [] (dB (gF k s)) []:=by
 refine Ev.bQ Tryz.func65 rfl λj=>?_
 have b:bC (Cx.beside ah) [(105,LR),(41,jX aI (λk=>dB (ck k)) λ_=>[]),(106,Sn),(107,So),(27,lH)]:=.cons Sm (.cons t41 (.cons (.tb λs k h=>ER k s h.1 h.2) (.cons (.tb λs k h=>ES k s h) (.cons su .nil))))
 have d:=cP.list_fn s.1;have c:=cm.list_fn s.2.1;have a:=cH.list_fn s.2.2;rw[xX];cases e:ck k
 .exact aD b [(10,ae),(15,ae),(20,ae)] 100 rfl (by simp[ag,e,d,c,a,cP.aH,cm.aH,cH.aH]) (AK.bm rfl (by simp[ag]))
 cases g:yV k s
 .exact aD b [(10,ab),(15,ae),(20,ae)] 100 rfl (by simp[ag,e,d,c,a,cP.aH,cm.aH,cH.aH,f,g]) (AK.bm rfl (by simp[ag]))
 cases i:(bh s.2.1.length).all (jV k s)
 .exact aD b [(10,ab),(15,ab),(20,ae)] 100 rfl (by simp[-List.all_eq_true,-List.all_eq_false,ag,e,d,c,a,cP.aH,cm.aH,cH.aH,f,g,i]) (AK.bm rfl (by simp[ag]))
 exact aD b [(10,ab),(15,ab),(20,ab)] 100 rfl (by simp[-List.all_eq_true,-List.all_eq_false,ag,e,d,c,a,cP.aH,cm.aH,cH.aH,f,g,i]) (AK.bm rfl (by simp[ag,a]))
abbrev yW:dh:=p0 aI Oe (λk s=>dB (gF k s)) λ_ s=>[Qa s]
def Ib:dG (Cx.beside ah) 65 yW:=.tb λk s h=>CO k s h
end
end Go.AM.R1
namespace Go.AM
section
open Go.Conc (G)
def tn(f:ak)(l:List Int):ak->(Nat->Option Obj)->Prop:=λv a=>v=f/\∃ r es c,f=.map (aa r)/\(∀ b,a b=if b=r then aa (.map es c) else af)/\MapKept.Stamped es c /\
 (∀ e∈es.toList,∃ n,e.key=.int .i64 n/\e.val=.bool ab)/\∀ n,n∈l↔∃ e∈es.toList,e.key=.int .i64 n
structure Vb (σ:List aV)(s:St)(b:Nat)(f:ak)(l:List Int)(L:Loc)(r:Nat)(es:Array MapEntry)(c:Nat):Prop where
 at':s.β[b]?=aa L
 v:L.v=f
 m:f=.map (aa r)
 st:MapKept.Stamped es c
 kv:∀ e∈es.toList,∃ n,e.key=.int .i64 n/\e.val=.bool ab
 mem:∀ n,n∈l↔∃ e∈es.toList,e.key=.int .i64 n
 heap:s.w.heap[r]?=aa (.map es c)
 bs:∀ b,b∈L.bs↔b=r
def tn.open{σ:List aV}{s:St}{b:Nat}{f:ak}{l:List Int}(hh:aJ σ s)(hl:σ[b]?=aa (.dz (tn f l))):∃ L r es c,Vb σ s b f l L r es c:=by
 have hb:b<s.β.length:=by rw[hh.len];grind
 obtain⟨ch,⟨h1,r,es,c,h2,i,e,g,a⟩,d,h,_⟩:=hh.box b _ _ hl (br hb);exact⟨_,r,es,c,br hb,h1,h2,e,g,a,d r _ (by grind),λb=>by grind⟩
section
variable {P:aq}{o:aw}{p:an->D}{σ:List aV}{T q t:ar}{x y z:an}{f:ak}{l:List Int}{n:Int}{b:Nat}
def Vd{es:Array MapEntry}(h:∀ e∈es.toList,∃ n,e.key=.int .i64 n/\e.val=.bool ab):∀ e∈es.toList,MapKept.IsKey (.int .i64) e.key:=λe a=>by
 obtain⟨n,c,_⟩:=h e a;rw[c];rfl
def rdV{σ:List aV}{s:St}{v f:ak}{d:D}(h:c8 σ s v d)(e:d=.e (.one (.v f))):v=f:=by subst e;exact Rd.fX h
def rdI{σ:List aV}{s:St}{v:ak}{n:Int}{d:D}(h:c8 σ s v d)(e:d=.e (.one (.c (.int .i64 n)))):v=.int .i64 n:=by
 subst e;have:=fx h;generalize v=w at this;cases this;rfl
def bF.OH(h:o.op=.lookup T x y ae)(E:P.underlying T=aa (.map q t))(B:P.underlying q=aa (.int .i64))(G:∀ w,(zeroValue t).run P w=.ok (.bool ae) w)(hl:σ[b]?=aa (.dz (tn f l)))
  (O:p x=.e (.one (.v f))) (I:p y=.e (.one (.c (.int .i64 n)))):bF P o p σ (.e (.one (.c (.bool (l.contains n))))) σ:=by
 refine bF.nJ λs ρ hh hr=>?_
 obtain⟨L,r,es,c,g⟩:=tn.open hh hl;have ex:ρ x=.map (aa r):=(rdV (hr x) O).trans g.m;have C:=rdI (hr y) I;obtain⟨a,A⟩:=yl (d:=.int .i64) (k:=.int .i64 n) rfl (Vd g.kv);have M:ov s ⟨.obj r,ae,ae⟩:=lS (bT g.at') ((g.bs r).2 rfl);have key:∃ v:Bool,(Instr.lookup T (.map (aa r)) (.int .i64 n) ae).run P s.w=.ok (.bool v) s.w/\(Instr.lookup T (.map (aa r)) (.int .i64 n) ae).events P s.w #[]=#[⟨.obj r,ae,ae⟩]/\v=l.contains n:=by
  cases a with
  |none =>
   obtain⟨i,u⟩:=tN (ok:=ae) E B g.heap A (λ_=>G s.w)
   exact⟨ae,i,u,by
    symm;rw[<-oL,zi,g.mem]
    rintro⟨e,F,B⟩;exact A.no rfl e F B⟩
  |some jv =>
   obtain⟨j,v⟩:=jv;obtain⟨i,u⟩:=tN (ok:=ae) (z:=aj) E B g.heap A (λh=>by cases h)
   obtain⟨e,h1,h2,Q⟩:=A.yes j v rfl;have H:e∈es.toList:=by grind
   obtain⟨_,_,R⟩:=g.kv e H;exact⟨ab,i.trans (show Result.ok v s.w=_ by grind),u,by symm;rw[zi,g.mem];grind⟩
 obtain⟨v,i,u,J⟩:=key;refine⟨.bool v,?_,by rw[<-J];exact Rd.bool,?_⟩
 .simp only[ay,h,ex,C,bX,i,b8,cW]
 .simp only[ay,h,ex,C,aO,i,u,aU,Sem.events_pure];exact .one M
def bF.Sg(h:o.op=.mapUpdate T x y z)(G:P.underlying T=aa (.map q t))(M:P.underlying q=aa (.int .i64))(hl:σ[b]?=aa (.dz (tn f l)))
  (U:p x=.e (.one (.v f))) (Y:p y=.e (.one (.c (.int .i64 n)))) (S:p z=.e (.one (.c (.bool ab)))):bF P o p σ .any (σ.set b (.dz (tn f (l++[n])))):=by
 intro s ρ hh hr;obtain⟨L,r,es,c,g⟩:=tn.open hh hl;have ex:ρ x=.map (aa r):=(rdV (hr x) U).trans g.m;have F:=rdI (hr y) Y;have I:ρ z=.bool ab:=by
  have:=hr z;rw[S] at this;have:=fx this;generalize ρ z=w at this;cases this;rfl
 obtain⟨a,C⟩:=yl (d:=.int .i64) (k:=.int .i64 n) rfl (Vd g.kv);have H:∀ w,ov s ⟨.obj r,w,ae⟩:=λw=>lS (bT g.at') ((g.bs r).2 rfl)
 have O:r<s.w.heap.size:=(hY.1 g.heap).1;have key:∃ es' c',(Instr.mapUpdate T (.map (aa r)) (.int .i64 n) (.bool ab)).run P s.w=.ok () { s.w with heap:=s.w.heap.setIfInBounds r (.map es' c') }/\(Instr.mapUpdate T (.map (aa r)) (.int .i64 n) (.bool ab)).events P s.w #[]=#[⟨.obj r,ae,ae⟩,⟨.obj r,ab,ae⟩] /\
   MapKept.Stamped es' c'/\(∀ e∈es'.toList,∃ n,e.key=.int .i64 n/\e.val=.bool ab)/\∀ m,m∈l++[n]↔∃ e∈es'.toList,e.key=.int .i64 m:=by
  cases a with
  |none =>
   obtain⟨u,A⟩:=tO (x:=.bool ab) G M g.heap C;refine⟨_,_,u,A,MapKept.stamped_push g.st (C.no rfl),λe B=>?_,λm=>?_⟩
   .rw[Array.toList_push,gA] at B;rcases B with B|B
    .exact g.kv e B
    grind
   .rw[gA,g.mem,Array.toList_push]
    constructor
    .rintro(⟨e,h1,h2⟩|h1)
     .grind
     .simp at h1;subst h1;exact⟨_,List.mem_append_right _ (kX.2 rfl),rfl⟩
    grind
  |some jv =>
   obtain⟨j,v⟩:=jv;obtain⟨e,h1,h2,h3⟩:=C.yes j v rfl;have W:e∈es.toList:=by grind
   obtain⟨_,_,Z⟩:=g.kv e W;have V:es.modify j (λe=>{ key:=.int .i64 n,val:=.bool ab,born:=e.born })=es:=by
    apply Array.ext_getElem?
    intro i;rw[zk];split
    .rename_i hi;subst hi;rw[h1,<-h2,<-Z];rfl
    .rfl
   obtain⟨u,A⟩:=tO (x:=.bool ab) G M g.heap C;refine⟨es,c,u.trans (show Result.ok () { s.w with heap:=s.w.heap.setIfInBounds r (.map (es.modify j λe=>{ key:=.int .i64 n,val:=.bool ab,born:=e.born }) c) }=_ by grind),A,g.st,g.kv,λm=>?_⟩
   rw[gA,g.mem]
   constructor
   .rintro(J|J)
    .exact J
    grind
   grind
 obtain⟨es',c',u,A,k2,Q,R⟩:=key;have E:=hh.lb (H':=tn f (l++[n])) (L':=L) (w':={ s.w with heap:=s.w.heap.setIfInBounds r (.map es' c') }) hl g.at' rfl (by simp) (λb _ hb=>by
   show (s.w.heap.setIfInBounds r _)[b]?=_;rw[sI (by rintro rfl;exact hb ((g.bs r).2 rfl))]) (λb hb=>.inl hb)
  ⟨λb=>if b=r then aa (.map es' c') else af,⟨g.v,r,es',c',g.m,λ_=>rfl,k2,Q,R⟩,λb ob hb=>by
   grind,λb=>by rw[g.bs];by_cases e:b=r <;> simp[e]⟩ rfl rfl rfl
 have e1:s.β.set b L=s.β:=by
  apply iL
  intro i
  by_cases e:b=i
  .subst e;rw[fH (cp.1 g.at').1,g.at']
  grind
 rw[e1] at E;refine⟨.skip,_,?_,rfl,E.1,E.2,?_⟩
 .simp only[ay,h,ex,F,I,bX,u,b8,cW]
 .simp only[ay,h,ex,F,I,aO,u,A,aU,Sem.events_pure];exact .two (H _) (H _)
end
section
variable {P:aq}{X:Cx P}{N:Nat}{Qf:Post}{K:List It}{φ:Fr}{σ:List aV}{all rest:List aw}{o:aw}{T:ar}
def AK.Si(h:o.op=.makeMap T af)(i:o.guard=af)(u:gw N o.dst=ab)
  (k:∀ f,AK X N Qf (.ops all rest::K) .normal (lA o.dst (.e (.one (.v f))) φ) (σ++[.dz (tn f [])])):AK X N Qf (.ops all (o::rest)::K) .normal φ σ:=by
 refine AK.hand (ι:=ak) (λf=>.e (.one (.v f))) (λf=>σ++[.dz (tn f [])]) i u (λs a A hh=>?_) k
 let w':az:={ s.w with heap:=s.w.heap.push (.map #[] 0) }
 have d:w'.heap[s.w.heap.size]?=aa (.map #[] 0):=by grind
 have g:w'.heap.size=s.w.heap.size+1:=by grind
 obtain⟨j,g2⟩:=hh.grow (M':=s.M) (w':=w') (by grind) (λb hb=>by grind) (λ_ _ _=>rfl) (λb hb o v c=>by have:=hh.block c;omega) rfl rfl rfl
 obtain⟨m,r⟩:=j.gR g2 rfl hh (B:=.dz (tn (.map (aa s.w.heap.size)) [])) (L:=⟨.map (aa s.w.heap.size),[s.w.heap.size]⟩)
  ⟨λb=>if b=s.w.heap.size then aa (.map #[] 0) else af,⟨rfl,_,#[],0,rfl,λ_=>rfl,MapKept.stamped_empty 0,λe C=>by grind,λn=>by simp⟩,λb o hb=>by
   grind,λb=>by by_cases e:b=s.w.heap.size <;> simp[e],λb hb o=>by
   simp at hb;subst hb;show s.M _ _=af;cases c:s.M s.w.heap.size o with
   |none=>rfl
   |some v=>have:=hh.block c;omega⟩ (λb hb=>by grind)
 refine⟨.map (aa s.w.heap.size),.value (.map (aa s.w.heap.size)),_,.map (aa s.w.heap.size),?_,.inl rfl,Rd.val rfl,m,r,?_⟩
 .simp[ay,h,Instr.makeMap,run_newObj,w']
 .simp[ay,h,Instr.makeMap];exact .nil
end
end
end Go.AM
namespace Go.AM.R1
section
open Go.Proofs
variable {X:Cx ah}
def i119:TI:=⟨1,8,ae,TypeDesc.map 3 4,[.val (.map af)],[]⟩
def Yk:bG ah 119 i119:=⟨Tryz.underlying119,rfl,⟨Tryz.t119,_,bx Tryz.type119,rfl,rfl,rfl,rfl,⟨#[],rfl⟩,rfl⟩,λh=>absurd rfl h⟩
def gV:db ah ((119,i119)::tt):=db.cons Yk tok
abbrev dMv(v:ak):D:=.e (.one (.v v))
abbrev ET(a:ak)(l:List Int):aV:=.dz (tn a l)
def Sp(c:ak)(a l:List Int):Ev X 66 [dMv c,cI.sl l] [ET c a] (.eJ []) [ET c (a++l)]:=by
 refine Ev.bQ Tryz.func66 rfl λe=>?_
 have d:=e.sl 1 rfl;refine AK.eW eh gV bC.nil [] 100 rfl av ?_;refine AK.bO 1 (λi=>i<=l.length) (λi:Nat=>[(0,dMv c),(6,cI.sl l),(7,dI l.length),(8,dI i)]) (λi=>[ET c (a++l.take i)]) (λi=>l.length-i) 0 rfl (by simp[ag.cat,ag,aP.same]) rfl (by simp[ag.cat,ag]) rfl (by omega) ?_
 intro i hi
 by_cases h:i<l.length
 .have f:l.getD (i:Int).toNat cI.bD=l.getD i 0:=by rw[bz];rfl
  refine AK.eW eh gV bC.nil [(9,ab)] 100 rfl (by simp[ag];omega) ?_
  refine AK.law (bF.Sg rfl Tryz.underlying119 Tryz.underlying3 (b:=0) rfl rfl rfl rfl) rfl rfl ?_;refine AK.eW eh gV bC.nil [] 100 rfl ?_ (AK.aQ (i+1) rfl ?_ ?_ h (by omega))
  .simp[ag,bu];omega
  .simp[ag.cat,ag,aP.same]
  .rw[bq h 0,<-j5];simp only[ag.cat,ag,f,aC]
 obtain rfl:i=l.length:=by omega
 rw[b6];refine AK.eW eh gV bC.nil [(9,ae)] 100 rfl (by simp[ag]) (AK.leaveD rfl rfl ?_)
 exact b5.s9 [0] rfl (by simp[ag]) rfl rfl rfl l3
def AS(a:ak)(l:List Int) (n:Int):Ev X 69 [dI n,.e (.one (.c (.rp [.val a])))] [ET a l] (dB (!l.contains n)) [ET a l]:=by
 refine Ev.bQ Tryz.func69 rfl λd=>?_
 refine AK.eW eh gV bC.nil [] 100 rfl av ?_;refine AK.law (bF.OH rfl Tryz.underlying119 Tryz.underlying3 (λw=>Tryz.zeroValue4 w) (b:=0) rfl rfl rfl) rfl rfl ?_
 exact AK.eW eh gV bC.nil [] 100 rfl av (AK.dD [0] rfl (by simp[ag]) rfl rfl rfl l3)
def Ic(p:bw) (n:Int):Ev X 71 [xM p,.e (.one (.c (.rp [.int .i64 n])))] [] (dB (p.1==n)) []:=by
 refine Ev.bQ Tryz.func71 rfl λa=>?_
 exact bk rfl av (AK.bm rfl (by simp[ag]))
def EU(x:cC)(a:x.2.length<=4000000)(b:(cf x.2).length<=4000000):Ev X 68 [Ek x] [] (cI.sl (gX x)) []:=by
 refine Ev.bQ Tryz.func68 rfl λc=>?_
 refine bk rfl av ?_;refine AK.cQ (AT x a b) [] rfl ?_;exact bk rfl av (AK.bm rfl (by simp[ag,aP.same]))
end
section
open Go.Proofs
structure LS (w:cM):Prop extends Qa w.1 where
 mrk:w.2.1.length<=4000000
 lft:w.2.2.length<=4000000
def Ie{l:List cC}{i:Nat}(h:i<l.length):(cf (l.getD i (0,[])).2).length<=(jz l).length:=by
 have:=CH l (i+1)
 grind [qO]
def xY(k:Int)(w:cM):fA k w=(gF k w.1&&(bh w.1.2.1.length).all (λi=>!(gX (w.1.2.1.getD i (0,[]))).any λn=>!w.2.1.contains n)&&(bh w.2.2.length).all (l9 w.1.1 w.2.2)):=by
 rw[fA,Ig];cases gF k w.1 <;> simp
def CP(k:Int)(w:cM)(r:LS w):Ev (Cx.beside ah) 40 [dI k,IY w] [] (dB (fA k w)) []:=by
 refine Ev.bQ Tryz.func40 rfl λK=>?_
 have b:bC (Cx.beside ah) [(65,yW)]:=.cons Ib .nil;have y:=cP.list_fn w.1.1;have v:=cm.list_fn w.1.2.1;have z:=cH.list_fn w.1.2.2;have q:=r.toQa;rw[xY];cases A:gF k w.1
 .exact AK.eW eh gV b [(14,ab)] 100 rfl (by simp[ag,A,y,v,z,cP.aH,cm.aH,cH.aH,q]) (AK.bm rfl (by simp[ag]))
 refine AK.eW eh gV b [(14,ae)] 100 rfl (by simp[ag,A,y,v,z,cP.aH,cm.aH,cH.aH,q]) ?_
 rw[dJ];refine AK.Si rfl rfl rfl λm=>?_
 refine AK.eW eh gV b [] 100 rfl av ?_;refine AK.cQ (Sp m [] w.2.1) [1] rfl ?_;rw[List.nil_append];refine AK.eW eh gV b [(1000005,ab)] 100 rfl av ?_;refine AK.freeze 5 2 rfl rfl rfl ?_;refine AK.eW eh gV b [] 100 rfl av ?_;refine AK.bO 3 (λi=>i<=w.1.2.1.length/\∀ j,j<i->(!(gX (w.1.2.1.getD j (0,[]))).any λn=>!w.2.1.contains n)=ab) (λi:Nat=>[(0,dI k),(3,.e (.one (.ptr 0 0))),(5,.e (.one (.c (.rp [.val m])))),(22,cm.sl w.1.2.1),(23,dI w.1.2.1.length),(24,dI i)]) (λ_=>[M4 w,ET m w.2.1,.dead]) (λi=>w.1.2.1.length-i) 0 rfl (by simp[ag.cat,ag,aP.same]) rfl (by simp[ag.cat,ag,aP.same]) rfl ⟨by omega,by omega⟩ ?_
 have C:=r.sN;rintro i ⟨hi,a⟩
 by_cases h:i<w.1.2.1.length
 .have s:w.1.2.1.getD (i:Int).toNat cm.bD=w.1.2.1.getD i (0,[]):=by grind
  have t:=r.sm _ (iD (d:=(0,[])) h);have J:=Ie h;have G:=r.aN;have H:=dY (p:=λj=>!(gX (w.1.2.1.getD j (0,[]))).any λn=>!w.2.1.contains n) h
  have u:=fg (p:=λj=>!(gX (w.1.2.1.getD j (0,[]))).any λn=>!w.2.1.contains n) (i:=i)
  generalize w.1.2.1.getD i (0,[])=x at *;refine AK.eW eh gV b [(25,ab)] 100 rfl (by simp[ag];omega) ?_
  rw[s];refine AK.cQ (EU x t.1 (by omega)) [] rfl ?_
  refine AK.eW eh gV b [] 100 rfl av ?_;refine AK.cQ (LA (gX x) 69 [.val m] (tn m w.2.1) (λn=>!w.2.1.contains n) λn _=>AS m w.2.1 n) [1] rfl ?_
  cases F:(gX x).any λn=>!w.2.1.contains n with
  |true =>
   refine AK.eW eh gV b [] 100 rfl av (AK.ei (b5.zero rfl ?_));rw[H (by grind)];simp[ag]
  |false =>
   refine AK.eW eh gV b [] 100 rfl ?_ (AK.aQ (i+1) rfl (by simp[ag.cat,ag,aP.same]) (by simp[ag.cat,ag,aP.same]) ⟨h,u a (by grind)⟩ (by omega))
   simp[ag,bu];omega
 obtain rfl:i=w.1.2.1.length:=by omega
 rw[cd.2 a,dJ];refine AK.eW eh gV b [(25,ae)] 100 rfl (by simp[ag]) (AK.leaveD rfl rfl ?_)
 refine AK.eW eh gV b [] 100 rfl av ?_;have B:=r.lft;refine AK.bO 3 (λi=>i<=w.2.2.length/\∀ j,j<i->l9 w.1.1 w.2.2 j=ab) (λi:Nat=>[(0,dI k),(3,.e (.one (.ptr 0 0))),(34,cI.sl w.2.2),(35,dI w.2.2.length),(36,dI i)]) (λ_=>[M4 w,ET m w.2.1,.dead]) (λi=>w.2.2.length-i) 0 rfl (by simp[ag.cat,ag,aP.same]) rfl (by simp[ag.cat,ag,aP.same]) rfl ⟨by omega,by omega⟩ ?_
 rintro i ⟨hi,a⟩
 by_cases h:i<w.2.2.length
 .have s:w.2.2.getD (i:Int).toNat cI.bD=w.2.2.getD i 0:=by grind
  have g:w.2.2.getD (i-1) cI.bD=w.2.2.getD (i-1) 0:=rfl;have E:l9 w.1.1 w.2.2 i=((w.1.1.any λp=>p.1==w.2.2.getD i 0)&&CE (λx=>x) 0 w.2.2 i):=rfl
  have D:=mF (f:=λx:Int=>x) (d:=0) (l:=w.2.2) (i:=i)
  generalize w.2.2.getD i 0=n at *;generalize w.2.2.getD (i-1) 0=n' at *;have nY:bC (Cx.beside ah) [(70,iC [cP.sl w.1.1,.e (.one (.c (.fn (.func 71) [] [.rp [.int .i64 n]])))] (dB (w.1.1.any λp=>p.1==n)))]:=.cons (ja (Ly w.1.1 71 [.int .i64 n] (λp=>p.1==n) λp _=>Ic p n)) .nil
  refine AK.eW eh gV b [(37,ab),(1000014,ab)] 100 rfl (by simp[ag];omega) ?_
  rw[s];refine AK.freeze 9 3 rfl rfl rfl ?_;have fin:w.1.1.any (λp=>p.1==n)=ab->CE (λx=>x) 0 w.2.2 i=ab->l9 w.1.1 w.2.2 i=ab:=λF L=>by grind
  by_cases I:i=0
  .subst I;cases o:w.1.1.any (λp=>p.1==n) with
   |true =>
    refine AK.eW eh gV nY [(43,ae),(60,ae)] 100 rfl ?_ (AK.aQ 1 rfl (by simp[ag.cat,ag,aP.same]) (by simp[ag.cat,ag,aP.same]) ⟨h,fg a (fin o rfl)⟩ (by omega))
    simp[ag,bu,o,hU.sl]
   |false =>
    refine AK.eW eh gV nY [(43,ae),(60,ab)] 100 rfl ?_ (AK.ei (b5.zero rfl ?_))
    .simp[ag,o,hU.sl]
    .rw[dY h (by grind)];simp[ag]
  by_cases M:n'<n
  rotate_left
  .refine AK.eW eh gV nY [(43,ab),(51,ab),(60,ab)] 100 rfl ?_ (AK.ei (b5.zero rfl ?_))
   .simp[-ai,ag,g,bu];omega
   .rw[dY h (by grind)];simp[ag]
  cases o:w.1.1.any (λp=>p.1==n) with
  |true =>
   refine AK.eW eh gV nY [(43,ab),(51,ae),(60,ae)] 100 rfl ?_ (AK.aQ (i+1) rfl (by simp[ag.cat,ag,aP.same]) (by simp[ag.cat,ag,aP.same]) ⟨h,fg a (fin o (by grind))⟩ (by omega))
   simp[-ai,ag,g,bu,o,hU.sl];omega
  |false =>
   refine AK.eW eh gV nY [(43,ab),(51,ae),(60,ab)] 100 rfl ?_ (AK.ei (b5.zero rfl ?_))
   .simp[-ai,ag,g,bu,o,hU.sl];omega
   .rw[dY h (by grind)];simp[ag]
 obtain rfl:i=w.2.2.length:=by omega
 rw[cd.2 a];refine AK.eW eh gV b [(37,ae)] 100 rfl (by simp[ag]) (AK.leaveD rfl rfl ?_)
 exact AK.eW eh gV b [] 100 rfl av (AK.bm rfl (by simp[ag]))
abbrev yX:dh:=p0 aI (X4 Yi) (λk w=>dB (fA k w)) λ_ w=>[LS w]
def Ih:dG (Cx.beside ah) 40 yX:=.tb λk w h=>CP k w h
abbrev wdB(w:dy):aV:=.cells 35 (M3 w)
def xZ(w:dy):ey w=(fA w.1 w.2.1&&decide (w.2.2.2.1.length=2)&&decide (w.2.2.2.2.length=2)&&(bh 2).all (ue w)):=by
 unfold ey;cases fA w.1 w.2.1 <;> cases decide (w.2.2.2.1.length=2) <;> cases decide (w.2.2.2.2.length=2) <;> simp
def ug(w:dy)(g:LS w.2.1):Ev (Cx.beside ah) 18 [CJ w] [] (dB (ey w)) []:=by
 refine Ev.bQ Tryz.func18 rfl λs=>?_
 have a:bC (Cx.beside ah) [(40,yX)]:=.cons Ih .nil;have m:=cP.list_fn w.2.1.1.1;have k:=cm.list_fn w.2.1.1.2.1;have o:=cH.list_fn w.2.1.1.2.2;have f:=cI.list_fn w.2.1.2.1;have l:=cI.list_fn w.2.1.2.2;rw[xZ];cases n:fA w.1 w.2.1
 .exact AK.eW eh gV a [(11,ab),(17,ab),(22,ab)] 100 rfl (by simp[ag.cat,ag,n,m,k,o,f,l,cP.aH,cm.aH,cH.aH,cI.aH,g]) (AK.bm rfl (by simp[ag]))
 by_cases q:w.2.2.2.1.length=2
 rotate_left
 .exact AK.eW eh gV a [(11,ae),(17,ab),(22,ab)] 100 rfl (by simp[ag.cat,ag,n,m,k,o,f,l,cP.aH,cm.aH,cH.aH,cI.aH,g];omega) (AK.bm rfl (by simp[ag,eu q]))
 by_cases p:w.2.2.2.2.length=2
 rotate_left
 .exact AK.eW eh gV a [(11,ae),(17,ae),(22,ab)] 100 rfl (by simp[ag.cat,ag,n,m,k,o,f,l,cP.aH,cm.aH,cH.aH,cI.aH,g];omega) (AK.bm rfl (by simp[ag,eu p]))
 refine AK.eW eh gV a [(11,ae),(17,ae),(22,ae)] 100 rfl (by simp[ag.cat,ag,n,m,k,o,f,l,cP.aH,cm.aH,cH.aH,cI.aH,g];omega) ?_
 rw[cj q,cj p,dJ,dJ,dJ];refine AK.bO 1 (λi=>i<=2/\∀ j,j<i->ue w j=ab) (λi:Nat=>[(1,.e (.one (.ptr 0 0))),(24,cH.sl w.2.2.2.1),(25,dI w.2.2.2.1.length),(26,dI i)]) (λ_=>[wdB w]) (λi=>2-i) 0 rfl (by simp[ag.cat,ag,aP.same]) rfl (by simp[ag.cat,ag,aP.same]) rfl ⟨by omega,by omega⟩ ?_
 rintro i ⟨hi,b⟩
 by_cases h:i<2
 .have d:w.2.2.2.1.getD i cH.bD=xU w i:=rfl;have c:w.2.2.2.2.getD i cI.bD=xV w i:=rfl;have r:ue w i=(decide (0<=(xU w i).1/\(xU w i).1<=9)&&decide (0<=(xU w i).2)&&decide (0<=xV w i/\xV w i<=2)):=rfl
  by_cases c1:0<=(xU w i).1
  rotate_left
  .refine AK.eW eh gV a [(27,ab),(34,ab),(39,ab),(44,ab),(52,ab),(59,ab)] 100 rfl ?_ (AK.ei (b5.zero rfl ?_))
   .simp[-ai,ag,d];omega
   .rw[dY h (by grind)];simp[ag]
  by_cases c2:(xU w i).1<=9
  rotate_left
  .refine AK.eW eh gV a [(27,ab),(34,ae),(39,ab),(44,ab),(52,ab),(59,ab)] 100 rfl ?_ (AK.ei (b5.zero rfl ?_))
   .simp[-ai,ag,d];omega
   .rw[dY h (by grind)];simp[ag]
  by_cases c3:0<=(xU w i).2
  rotate_left
  .refine AK.eW eh gV a [(27,ab),(34,ae),(39,ae),(44,ab),(52,ab),(59,ab)] 100 rfl ?_ (AK.ei (b5.zero rfl ?_))
   .simp[-ai,ag,d];omega
   .rw[dY h (by grind)];simp[ag]
  by_cases c4:0<=xV w i
  rotate_left
  .refine AK.eW eh gV a [(27,ab),(34,ae),(39,ae),(44,ae),(52,ab),(59,ab)] 100 rfl ?_ (AK.ei (b5.zero rfl ?_))
   .simp[-ai,ag,d,c];omega
   .rw[dY h (by grind)];simp[ag]
  by_cases t:xV w i<=2
  rotate_left
  .refine AK.eW eh gV a [(27,ab),(34,ae),(39,ae),(44,ae),(52,ae),(59,ab)] 100 rfl ?_ (AK.ei (b5.zero rfl ?_))
   .simp[-ai,ag,d,c];omega
   .rw[dY h (by grind)];simp[ag]
  refine AK.eW eh gV a [(27,ab),(34,ae),(39,ae),(44,ae),(52,ae),(59,ae)] 100 rfl ?_ (AK.aQ (i+1) rfl (by simp[ag.cat,ag,aP.same]) (by simp[ag.cat,ag,aP.same]) ⟨h,fg b (by grind)⟩ (by omega))
  simp[-ai,ag,d,c,bu];omega
 obtain rfl:i=2:=by omega
 rw[cd.2 b];refine AK.eW eh gV a [(27,ae)] 100 rfl (by simp[ag];omega) (AK.leaveD rfl rfl ?_)
 exact AK.eW eh gV a [] 100 rfl av (AK.bm rfl (by simp[ag]))
end
section
open Go.Proofs
section
variable {X:Cx ah} [X.js]
structure Vv where
 q:M6 0
 z:Bool
def Vv.w(q:Vv):dy:=if q.z=ab then (q.q.w.1,(q.q.w.2.1.1,q.q.w.2.1.2.1,q.q.w.2.1.2.2++[9]),q.q.w.2.2) else q.q.w
end
def tz.xq{k:Int}{s:aZ}(h:tz k s):wY s:=by
 have a:=h.Vf;have hl:=xt.of h.log;exact⟨a.LX,h.pa,a.OS.s,λx b=>(hl.h x b).1⟩
def kG{w:dy}(h:ey w=ab):LW w.1 w.2.1:=by
 simp only[ey,bL] at h;exact uj.1 h.2
def iz(w:dy):aZ:=if ey w=ab then tF w.2.1.1 w.2.2.1 else ([],[],[])
variable {X:Cx ah}
def IB(w:dy)(g:LS w.2.1):Ev (Cx.beside ah) 21 [CJ w] [] (eH (iz w)) []:=by
 refine Ev.iu tok Tryz.func21 rfl rfl rfl λh=>?_
 have d:=ug w g;have f:bC (Cx.beside ah) [(18,iC [CJ w] (dB (ey w)))]:=.cons (ja d) .nil;unfold iz;cases b:ey w with
 |false =>
  refine aD f [(5,ab)] 100 rfl (by simp[ag,b]) ?_
  refine AK.dA () [] rfl rfl rfl rfl rfl rfl rfl rfl ?_ rfl rfl rfl rfl (λj c=>absurd c (by simp))
  simp[ag.cat,ag,aP.nil]
 |true =>
  have e:=(IC (X:=Cx.beside ah) (kG b).xq w.2.2.1).a;have nY:bC (Cx.beside ah) [(18,iC [CJ w] (dB (ey w))),(42,iC [eH w.2.1.1,gf w.2.2.1] (eH (tF w.2.1.1 w.2.2.1)))]:=.cons (ja d) (.cons (ja e) .nil);rw[bc rfl];refine aD nY [(5,ae)] 100 rfl (by simp only[ag,b,dv,aF,aC];and_intros <;> rfl) ?_
  refine AK.dA () [] rfl rfl rfl rfl rfl rfl rfl rfl ?_ rfl rfl rfl rfl (λj c=>absurd c (by simp))
  simp[ag.cat,ag,aP.same]
def C9{w:dy}:dF (iz w):=by
 unfold iz;split
 .rename_i h;exact(za (X:=Cx.beside ah) (kG h).xq w.2.2.1).z
 .exact⟨by simp,by simp,by simp,by simp[iS],by simp⟩
end
def tG(v:Int)(s:x6):(jr v s).2.1=s.1/\(jr v s).2.2.1=s.2.1:=by
 unfold jr
 grind
def TW.Vw{n:Nat}{w:cM}(h:TW n w)(hn:n<=1000000):LS w:=⟨h.s.tolx.Yl,by have:=h.m;omega,by have:=h.l;omega⟩
def M6.Vw{k:Nat}(q:M6 k):LS q.w.2.1:=by
 have h:=q.hn;rw[(tG q.v (fG q.es)).1];exact(px q.es).w.Vw (by omega)
def Vv.Vw(q:Vv):LS q.w.2.1:=by
 have h:=q.q.Vw;unfold Vv.w;split
 .refine⟨h.toQa,h.mrk,?_⟩;have h2:=q.q.hn;have a:=(px q.q.es).w.l;have b:=(tG q.q.v (fG q.q.es)).1
  grind
 .exact h
end Go.AM.R1
namespace Go.AM
section
open Go.Conc (G)
section
variable {P:aq}{X:Cx P}
def Yields.uy{ι:Type}{d:Nat}{ds:List D}{σ:List aV}{res:Bool}{σ1 rest:ι->List aV}(h:Yields X d ds σ res λi=>σ1 i++rest i)(hl:∀ i,(σ1 i).length=σ.length)(k:∀ i (l:Nat)(B:aV),(σ1 i)[l]?=aa B->(∃ E cs,B=.cells E cs/\DH (σ1 i).length cs=ab)∨σ[l]?=aa B):Yields X d ds σ res σ1:=by
 intro s vs l j hh Bb;obtain⟨fn,tmps,a,b,h1,h2,f⟩:=h s vs l j hh Bb;refine⟨fn,tmps,a,b,h1,h2,λS c cs hS=>f S c cs λi s' k9 st=>?_⟩
 have e:eQ s' (s'.cut (σ1 i).length):=⟨rfl,λ_ _ _ h=>h,λ_ _ _=>rfl,k9.mem,λb hb=>hb.imp id λ⟨L,g,hb⟩=>⟨L,iJ g,hb⟩⟩
 exact .ghost e (hS i _ (hh.Px (hl i).symm (k i) k9) (st.drop (Nat.le_of_eq (hl i).symm)))
end
section
variable {P:aq}{X:Cx P}{N:Nat}{φ:Fr}{σ:List aV}{Qf:Post}{K:List It}{all rest:List aw}
def AK.NP(t l:Nat){E:ar}{cs:List A}{cc:List C}(d:look φ t=.e (.one (.ptr l 0)))(hl:fu l σ=aa (.cells E cs))(b:gk cs=aa cc)
  (kk:AK X N Qf (.ops all rest::K) .normal ((t,.e (.one (.c (.rp cc))))::φ) (ef.rE l .dead σ)):AK X N Qf (.ops all rest::K) .normal φ σ:=by
 rw[kz] at kk;exact AK.J1 (λs a f hh=>cv.freeze t l d hl b f hh) kk
def oZ.cons{φ a:Fr}{t:Nat}{d:D}(h:look φ t=d)(r:oZ φ a):oZ φ ((t,d)::a):=by
 intro σ s v u b;simp only[look];cases hb:aG t u with
 |false=>exact r _ _ _ _ b
 |true =>
  obtain rfl:=bU hb;subst h;exact b
end
end
end Go.AM
namespace Go.AM.R1
section
open Go.Proofs
variable {X:Cx ah}
def lk:List (Int×Int)->C
 |[]=>.kh
 |h::t=>.rp [.int .i64 h.1,.int .i64 h.2,lk t]
abbrev VD(l:List (Int×Int)):C:=.sl ae 2 l.length (cH.fn l)
def Pk(l:List (Int×Int)):Ev X 52 [cH.sl l] [] (.e (.one (.c (.fn (.func 92) [] [.rp [VD l]])))) []:=by
 refine Ev.bQ Tryz.func52 rfl λa=>?_
 refine aX [] 5 rfl av ?_;refine AK.freeze 1 0 rfl rfl rfl ?_;refine bk rfl av (AK.bm rfl ?_);rfl
def IG(l:List (Int×Int))(n:l.length<=4000000){f:Nat}{a:Fr}{d:Loop}{g:aV}(B:Nat->aV)(j:g=B l.length)(h:∀ t,B t≠.qS)
  (b:∀ i,i<l.length->Yields (ι:=Unit) X 1 [dI i,.e (.agg [.c (.int .i64 (l.getD i (0,0)).1),.c (.int .i64 (l.getD i (0,0)).2)])] [B (i+1),.loop f a d] ab (λ_=>[B i,.loop f a d])) :
  cK (ι:=Unit) X 92 [.e (.one (.ref 1)),.e (.one (.c (.rp [VD l])))] [g,.loop f a d] (λ_=>.eJ []) (λ_=>[B 0,.loop f a d]):=by
 subst j;refine cK.mQ Tryz.func92 rfl rfl rfl (AK.of_code ?_);refine bk rfl (by simp only[ag,bu,aF,aC];omega) ?_
 show AW X _ (.loop _) _ _ _;refine AW.loop (S:=Nat) (λk=>k<=l.length) (λk=>[(0,.e (.one (.ref 1))),(1,.e (.one (.c (.rp [VD l])))),(3,dI ((k:Int)-1))]) (λk=>[B k,.loop f a d]) (λk=>k) l.length (bg _) (dc rfl (by simp[ag,ag.cat,aP.same])) rfl ?_
 intro k m;rcases k with _|i
 .refine AK.of_code ?_;refine aX [(8,ae)] 100 rfl (by simp[ag]) ?_
  refine AK.J2 rfl rfl ?_;exact⟨(),.inr rfl,rfl,lY (h 0) (lY (by simp) rfl),[],.eJ [],[],rfl,rfl,rfl,av⟩
 .have e:(((i+1:Nat):Int)-1)=(i:Int):=by omega
  rw[e];refine AK.of_code ?_;refine aX [(8,ab)] 100 rfl ?_ ?_
  .simp only[ag,ba,aF,aC];omega
  refine AK.yield (b i m) rfl rfl rfl rfl rfl rfl λ_=>?_
  refine aX [(18,ae)] 100 rfl ?_ ?_
  .simp only[ag,bu,dv,aF,aC];omega
  exact⟨i,by omega,by omega,dc rfl (by simp[ag,ag.cat,aP.same]),rfl⟩
def zd{l:List (Int×Int)}{i:Nat}(h:i<l.length):l.drop i=l.getD i (0,0)::l.drop (i+1):=by
 grind [List.drop_eq_getElem_cons]
def ze(l:List (Int×Int))(f:l.length<=4000000):Ev X 28 [cH.sl l] [] (.e (.one (.c (lk l)))) []:=by
 refine(cK.zV (ι:=Unit) (σ':=λ_=>[]) (res:=λ_=>.e (.one (.c (lk l)))) Tryz.func28 rfl rfl rfl λg=>?_).uv
 have d:bC X [(52,iC [cH.sl l] (.e (.one (.c (.fn (.func 92) [] [.rp [VD l]])))))]:=.cons (ja (Pk l)) .nil;refine ny.seq (AW.top (AK.of_code ?_));refine aD d [] 100 rfl av ?_;refine ny.seq (AW.top (AK.of_code ?_));refine aD d [] 100 rfl av ?_;refine ny.seq (ny.seq (AW.top (AK.of_code ?_)));refine aD d [] 100 rfl rfl ?_;refine ny.block ?_;have b:lk (l.drop l.length)=.kh:=by rw[pF];rfl
 refine ny.rangeFunc (capD:=fW [.rp [VD l]]) (cv.callee rfl) (IG l f (λi=>.cells 70 [.c (lk (l.drop i))]) (by rw[b];rfl) (by simp) ?_) (λi=>⟨rfl,by simp⟩) λi=>⟨.normal,rfl,?_⟩
 .intro i hi;refine Yields.uy (rest:=λ_=>[.cells 90 [.c (.int .i64 (l.getD i (0,0)).1),.c (.int .i64 (l.getD i (0,0)).2)],.dead]) ?_ (λ_=>rfl) (λ_ j B a=>?_)
  .rw[zd hi];generalize l.drop (i+1)=r;cases r <;> (
    refine Yields.intro (j:=af) rfl rfl rfl rfl (AK.of_code ?_);refine bk rfl av ?_;refine⟨rfl,rfl,AK.of_code ?_⟩;refine aX [] 1 rfl av ?_;refine AK.region ?_;refine aX [] 4 rfl av ?_;refine AK.NP 13 3 rfl rfl rfl ?_;refine bk rfl av ?_;refine⟨rfl,rfl,(),lD rfl ?_⟩;simp[ag.cat,ag,lk])
  .match j,a with
   |0,a=>cases a;exact .inl ⟨_,_,rfl,rfl⟩
   |1,a=>exact .inr a
   |j+2,a=>simp at a
 .show ny X _ _ _ _ _;refine AW.top (AK.of_code ?_);rw[List.drop_zero];cases l <;> (
   refine bk rfl av ?_;refine AK.ret ⟨(),b5.zero rfl ?_⟩;simp[ag,lk])
def Qj{P:aq}{o:aw}{f:an->D}{σ:List aV}{op:BinOp}{t ty:ar}{x:an}(h:o.op=.binOp op t x (.const (.pointer af)) ty){e:ar}(i:P.underlying t=aa (.pointer e)){c:Bool}{cs:List C}
  (l:f x=.e (.one (.c (.rp cs)))) (m:f (.const (.pointer af))=.e (.one (.c .kh))) (j:lq op ae=aa c):bF P o f σ (.e (.one (.c (.bool c)))) σ:=by
 refine Ai h i (b:=ae) ?_ j;intro s u v _ a d;rw[l] at a;rw[m] at d
 replace a:=fx a
 replace d:=fx d
 cases d;cases a with|rp b off =>
 have k:(Op.equal t (.pointer (aa ⟨b,off,af⟩)) (.pointer af)).run P s.w=.ok ae s.w:=by
  show (Op.equalIn (9999+1) t _ _).run P s.w=_;unfold Op.equalIn;simp[underlying,i]
 have g:∀ es,(Op.equal t (.pointer (aa ⟨b,off,af⟩)) (.pointer af)).events P s.w es=es:=λes=>by
  show (Op.equalIn (9999+1) t _ _).events P s.w es=es;unfold Op.equalIn;simp[underlying,i]
 exact⟨_,af,rfl,rfl,rfl,by cases op <;> simp[eqGuard],λes=>by cases op <;> simp[eqGuard],k,g⟩
def MP(l:List (Int×Int))(a:xt l)(m:Nat)(k:m<=l.length):Ev X 29 [.e (.one (.c (lk l))),dI m] [] (dI (gb (l.take m))) []:=by
 refine Ev.bQ Tryz.func29 rfl λg=>?_
 have o:=a.n;refine bk rfl av ?_;refine AK.loop (λi=>i<=m) (λi:Nat=>[(0,.e (.one (.c (lk (l.drop i))))),(1,dI ((m:Int)-i)),(5,dI (gb (l.take i)))]) (λ_=>[]) (λi=>m-i) 0 (by omega) (.cons rfl (dc rfl (by simp[ag.cat,ag,gb]))) rfl ?_
 intro i hi
 by_cases h:i<m
 .have j:=zc (l:=l) (i:=i) (by omega)
  have f:=sE a.h a.n i;have d:=sE a.h a.n (i+1);have p:=a.h _ (gN (i:=i) (l:=l) (by omega) (0,0))
  rw[zd (i:=i) (by omega)]
  generalize l.getD i (0,0)=x at *;generalize b:l.drop (i+1)=r;cases r <;> (
   refine bk rfl av ?_;refine AK.law (Qj rfl Tryz.underlying70 rfl rfl rfl) rfl rfl ?_;refine aX [(8,ab),(11,ab)] 100 rfl ?_ ⟨i+1,h,by omega,.cons (by rw[b];rfl) (dc rfl ?_),rfl⟩
   .simp only[ag,bu,ba,aF,aC];and_intros <;> first|omega|rfl
   .simp only[ag.cat,ag,aF,aC];and_intros <;> omega)
 obtain rfl:i=m:=by omega
 generalize l.drop i=r;cases r with
 |nil =>
  refine bk rfl av ?_;refine AK.law (Kn rfl Tryz.underlying70 rfl rfl rfl) rfl rfl ?_;refine aX [(8,ae),(11,ae)] 100 rfl (by simp[ag]) (AK.leave rfl rfl ?_)
  exact bk rfl av (AK.bm rfl (by simp[ag]))
 |cons x r =>
  refine bk rfl av ?_;refine AK.law (Qj rfl Tryz.underlying70 rfl rfl rfl) rfl rfl ?_;refine aX [(8,ab),(11,ae)] 100 rfl (by simp[ag]) (AK.leave rfl rfl ?_)
  exact bk rfl av (AK.bm rfl (by simp[ag]))
def IH(l:List (Int×Int))(g:l.length<=4000000):Ev X 30 [cH.sl l] [] (dI (if jy l=ab then gb l else -1)) []:=by
 refine Ev.bQ Tryz.func30 rfl λh=>?_
 have b:=ze (X:=X) l g;cases d:jy l with
 |false =>
  have a:bC X [(27,lH)]:=.cons su .nil;refine aD a [(5,ab)] 200 rfl (by simp[ag,d,cH.list_fn,cH.aH]) (AK.bm rfl (by simp[ag]))
 |true =>
  have f:=MP (X:=X) l (.of d) l.length (bg _);rw[b6] at f;have a:bC X [(27,lH),(28,iC [cH.sl l] (.e (.one (.c (lk l))))),(29,iC [.e (.one (.c (lk l))),dI l.length] (dI (gb l)))]:=.cons su (.cons (ja b) (.cons (ja f) .nil));generalize gb l=n at *;cases l <;> (
   refine aD a [(5,ae)] 200 rfl ?_ (AK.bm rfl (by simp[ag]))
   simp only[ag,d,cH.list_fn,cH.aH,dv,aF,aC]
   and_intros <;> rfl)
def GB(m:Int×Int)(l:List (Int×Int))(j:l.length<=4000000):Ev X 11 [Be m,cH.sl l] [] (M7 (iU m l)) []:=by
 refine Ev.fY Tryz.func11 rfl rfl rfl λr=>?_
 have h:=ze (X:=X) l j;have b:=IH (X:=X) l j;have f:bC X [(27,lH)]:=.cons su .nil;unfold iU;cases a:jy l with
 |false =>
  rw[aY (by simp)]
  refine aD f [(9,ab),(16,ab),(21,ab)] 200 rfl (by simp[ag,a,cH.list_fn,cH.aH]) ?_
  refine AK.freeze 4 1 rfl rfl rfl ?_;exact AK.iQ tok [] rfl (by simp[ag.cat,ag]) rfl rfl rfl fN
 |true =>
 have p:=xt.of a
 by_cases o:m.1<=l.length
 rotate_left
 .rw[aY (by simp[o])]
  refine aD f [(9,ae),(16,ab),(21,ab)] 200 rfl ?_ ?_
  .simp only[ag,a,cH.list_fn,cH.aH,dv,ba,aF,aC];omega
  refine AK.freeze 4 1 rfl rfl rfl ?_;exact AK.iQ tok [] rfl (by simp[ag.cat,ag]) rfl rfl rfl fN
 by_cases g:0<=m.1
 rotate_left
 .rw[aY (by simp[g])]
  refine aD f [(9,ae),(16,ae),(21,ab)] 200 rfl ?_ ?_
  .simp only[ag,a,cH.list_fn,cH.aH,dv,ba,bJ,aF,aC];omega
  refine AK.freeze 4 1 rfl rfl rfl ?_;exact AK.iQ tok [] rfl (by simp[ag.cat,ag]) rfl rfl rfl fN
 rw[bc ⟨rfl,o,g⟩];have q:(m.1.toNat:Int)=m.1:=q8 g;have i:=MP (X:=X) l p m.1.toNat (by omega)
 rw[bc a] at b;rw[q] at i;have nY:bC X [(27,lH),(28,iC [cH.sl l] (.e (.one (.c (lk l))))),(29,iC [.e (.one (.c (lk l))),dI m.1] (dI (gb (l.take m.1.toNat)))),(30,iC [cH.sl l] (dI (gb l)))]:=.cons su (.cons (ja h) (.cons (ja i) (.cons (ja b) .nil)));generalize gb l=n at *;generalize gb (l.take m.1.toNat)=k at *
 by_cases d:k=m.2
 .rw[bc d];cases l <;> (
   refine aD nY [(9,ae),(16,ae),(21,ae),(23,ae)] 200 rfl ?_ ?_
   .simp only[ag,a,d,cH.list_fn,cH.aH,dv,ba,bJ,kY,aF,aC]
    and_intros <;> first|rfl|omega
   refine AK.freeze 4 1 rfl rfl rfl ?_;exact AK.iQ tok [] rfl (by simp[ag.cat,ag]) rfl rfl rfl fN)
 .rw[aY d];cases l <;> (
   refine aD nY [(9,ae),(16,ae),(21,ae),(23,ab)] 200 rfl ?_ ?_
   .simp only[ag,a,cH.list_fn,cH.aH,dv,ba,bJ,ic,aF,aC]
    and_intros <;> first|exact d|rfl|omega
   refine AK.freeze 4 1 rfl rfl rfl ?_;exact AK.iQ tok [] rfl (by simp[ag.cat,ag]) rfl rfl rfl fN)
def Te(n:Int):Bool:=decide (1<=n/\n<=2)
def Pl(n:Int):Ev X 19 [dI n] [] (dB (Te n)) []:=by
 refine Ev.bQ Tryz.func19 rfl λa=>?_
 unfold Te
 by_cases h:n=1
 .refine aX [(5,ab)] 100 rfl (by simp[ag,h]) (AK.bm rfl ?_)
  simp[ag,h]
 .refine aX [(5,ae)] 100 rfl (by simp[ag,h]) (AK.bm rfl ?_)
  simp only[ag,aC];rw[md];simp only[gi,ba];omega
abbrev MQ:dh:=jX aI (λn=>dB (Te n)) λ_=>[]
def Qk:dG X 19 MQ:=.oi λn _=>Pl n
def find_at{l:List cC}{no:Int}{i:Nat}(hi:i<l.length)(h:∀ j,j<i->(l.getD j (0,[])).1≠no)(a:(l.getD i (0,[])).1=no):l.find? (λx=>x.1==no)=aa (l.getD i (0,[])):=by
 rw[uI];refine⟨by simpa using a,i,hi,by simp[hi],λj b=>?_⟩
 have:=h j b;simpa[show j<l.length by omega] using this
def Pm{l:List cC}{no:Int}(h:∀ j,j<l.length->(l.getD j (0,[])).1≠no):l.find? (λx=>x.1==no)=af:=by
 rw[uQ];intro x b;obtain⟨j,a,rfl⟩:=dT b;simpa[a] using h j a
def II(k:Int)(s:aZ) (no:Int)(f:dF s):Ev X 37 [dI k,eH s,dI no] [] (F3 ((eb k s no).getD []) (eb k s no).isSome) []:=by
 refine Ev.bQ Tryz.func37 rfl λn=>?_
 have b:bC X [(64,qN)]:=.cons w7 .nil;have o:=f.sn;refine aD b [] 100 rfl av ?_;refine AK.bO 1 (λi=>i<=s.2.1.length/\∀ j,j<i->(s.2.1.getD j (0,[])).1≠no) (λi:Nat=>[(0,dI k),(2,dI no),(4,.e (.one (.ptr 0 0))),(8,dI i)]) (λ_=>[HA s]) (λi=>s.2.1.length-i) 0 rfl (by simp[ag.cat,ag]) rfl (by simp[ag.cat,ag,aP.same]) rfl ⟨by omega,by omega⟩ ?_
 rintro i ⟨hi,a⟩
 by_cases h:i<s.2.1.length
 .have d:s.2.1.getD (i:Int).toNat cm.bD=s.2.1.getD i (0,[]):=rfl
  by_cases c:(s.2.1.getD i (0,[])).1=no
  .have e:eb k s no=cx k (s.2.1.getD i (0,[])) s.1:=by simp only[eb,find_at h a c]
   obtain⟨g,l⟩:=f.s2 _ (gN h (0,[]));refine aD b [(13,ab),(23,ab)] 100 rfl ?_ (AK.ei (b5.zero rfl ?_))
   .simp only[ag,d,cL.list_fn,c]
    and_intros <;> first|exact cL.aH _|exact cP.aH _|exact g|exact l|omega|exact cj (by omega)|exact dH _
   .simp only[d,cL.list_fn,cP.list_fn,e];exact ag.cat.2 ⟨⟨av,aP.same⟩,ag.cat.2 ⟨av,av⟩⟩
  .refine aD b [(13,ab),(23,ae)] 100 rfl ?_ (AK.aQ (i+1) rfl ?_ ?_ ⟨h,?_⟩ (by omega))
   .simp only[ag,d,bu,ba,dm]
    and_intros <;> first|exact c|omega
   .simp[ag.cat,ag]
   .simp[ag.cat,ag,aP.same]
   .intro j m
    by_cases e:j=i
    .exact e▸c
    .exact a j (by omega)
 .have e:eb k s no=af:=by simp only[eb,Pm λj m=>a j (by omega)]
  refine aD b [(13,ae)] 100 rfl (by simp only[ag,bJ];omega) (AK.leaveD rfl rfl ?_)
  refine aD b [] 100 rfl av (AK.bm rfl ?_);simp[e,ag.cat,ag,aP.nil]
def Ql(k:Int)(m:Int×Int)(s:aZ) (no:Int):Option (List bA):=if ck k=ab/\(iU m s.2.2).2=0 then eb k s no else af
def IJ(k:Int)(m:Int×Int)(s:aZ):(Int×Int)×Int:=if ck k=ab then iU m s.2.2 else (m,1)
abbrev Qm(m:(Int×Int)×Int)(o:Option (List bA)):D:=.eJ [.one (.c (.sl ae 2 (o.getD []).length (cF.fn (o.getD [])))),.one (.c (.int .i64 m.2)),.agg [.c (.int .i64 m.1.1),.c (.int .i64 m.1.2)],.one (.c (.bool o.isSome))]
def IK{m:Int×Int}{l:List (Int×Int)}(h:¬(iU m l).2=0):(iU m l).1=m:=by
 unfold iU at *
 grind
def De(k:Int)(m:Int×Int)(s:aZ) (no:Int)(d:dF s):Ev X 16 [dI k,Be m,eH s,dI no] [] (Qm (IJ k m s) (Ql k m s no)) []:=by
 refine Ev.fY Tryz.func16 rfl rfl rfl λf=>?_
 have e:=II (X:=X) k s no d;have b:=Gy (X:=X) m s.2.2 d.h;unfold Ql IJ;cases c:ck k with
 |false =>
  have a:bC X [(35,uc)]:=.cons w6 .nil;refine aD a [(18,ab)] 100 rfl (by simp[ag,c]) ?_
  refine AK.freeze 10 2 rfl rfl rfl ?_;exact AK.iQ tok [] rfl (by simp[ag.cat,ag,aP.nil]) rfl rfl rfl fN
 |true =>
 generalize iU m s.2.2=q at *;generalize eb k s no=o at *;have a:bC X [(35,uc),(36,iC [Be m,cH.sl s.2.2] (M7 q)),(37,iC [dI k,eH s,dI no] (F3 (o.getD []) o.isSome))]:=.cons w6 (.cons (ja b) (.cons (ja e) .nil))
 by_cases h:q.2=0
 .refine aD a [(18,ae),(29,ae)] 100 rfl ?_ ?_
  .simp only[ag,c,h,dv,kY,aF,aC];and_intros <;> rfl
  refine AK.freeze 10 2 rfl rfl rfl ?_;exact AK.iQ tok [] rfl (by simp[ag.cat,ag,h,aP.same]) rfl rfl rfl fN
 .refine aD a [(18,ae),(29,ab)] 100 rfl ?_ ?_
  .simp only[ag,c,dv,ic,aF,aC];and_intros <;> first|rfl|exact h
  refine AK.freeze 10 2 rfl rfl rfl ?_;exact AK.iQ tok [] rfl (by simp[ag.cat,ag,h,aP.nil]) rfl rfl rfl fN
def Df(k:Int)(m:Int×Int)(s:aZ) (no:Int)(e:dF s):Ev (Cx.beside ah) 20 [dI k,Be m,eH s,dI no] [] (Qm (IJ k m s) (Ql k m s no)) []:=by
 refine Ev.fY Tryz.func20 rfl rfl rfl λg=>?_
 have f:=r8 k s no e.s2;have c:=GB (X:=Cx.beside ah) m s.2.2 e.h;have b:=IK (m:=m) (l:=s.2.2);unfold Ql IJ;cases d:ck k with
 |false =>
  have a:bC (Cx.beside ah) [(41,jX aI (λk=>dB (ck k)) λ_=>[])]:=.cons t41 .nil
  refine aD a [(18,ab)] 100 rfl (by simp[ag,d]) ?_
  refine AK.freeze 10 2 rfl rfl rfl ?_;exact AK.iQ tok [] rfl (by simp[ag.cat,ag,aP.nil]) rfl rfl rfl fN
 |true =>
 generalize iU m s.2.2=q at *;generalize eb k s no=o at *;have a:bC (Cx.beside ah) [(41,jX aI (λk=>dB (ck k)) λ_=>[]),(11,iC [Be m,cH.sl s.2.2] (M7 q)),(9,iC [dI k,eH s,dI no] (F3 (o.getD []) o.isSome))]:=.cons t41 (.cons (ja c) (.cons (ja f) .nil))
 by_cases h:q.2=0
 .refine aD a [(18,ae),(28,ae)] 100 rfl ?_ ?_
  .simp only[ag,d,h,dv,kY,aF,aC];and_intros <;> rfl
  refine AK.freeze 10 2 rfl rfl rfl ?_;exact AK.iQ tok [] rfl (by simp[ag.cat,ag,h,aP.same]) rfl rfl rfl fN
 .refine aD a [(18,ae),(28,ab)] 100 rfl ?_ ?_
  .simp only[ag,d,dv,ic,aF,aC];and_intros <;> first|rfl|exact h
  refine AK.freeze 10 2 rfl rfl rfl ?_;exact AK.iQ tok [] rfl (by simp[ag.cat,ag,h,b h,aP.nil]) rfl rfl rfl fN
abbrev Wl(w:dy) (b:Int):Int:=w.2.2.2.2.getD (b-1).toNat 0
abbrev xy(w:dy) (b:Int):Int×Int:=w.2.2.2.1.getD (b-1).toNat (0,0)
def py(w:dy) (b no:Int):Option (List bA):=if ey w=ab/\(1<=b/\b<=2)/\Wl w b=0 then Ql w.1 (xy w b) (iz w) no else af
def pz{w:dy}(h:ey w=ab):w.2.2.2.1.length=2/\w.2.2.2.2.length=2:=by
 simp only[ey,bL,ba] at h;exact h.1.1
def Tf(w:dy)(m:Int×Int)(_ c d:Bool):List aV:=match c,d with
 |false,_=>[.cells 35 (M3 w)]
 |true,ae=>[.cells 35 (M3 w),zMm]
 |true,ab=>[.cells 35 (M3 w),Zh m]
def x9(w:dy) (b no:Int)(t:OR w.2.1.1)(l:1<=b/\b<=3):Ev X 6 [CJ w,dI b,dI no] [] (F3 ((py w b no).getD []) (py w b no).isSome) []:=by
 refine Ev.bQ Tryz.func6 rfl λx=>?_
 have q:=uf (X:=X) w t;have a:bC X [(10,iC [CJ w] (dB (ey w))),(15,n3)]:=.cons (ja q) (.cons oF .nil);unfold py;cases j:ey w with
 |false =>
  refine aD a [(14,ab),(19,ab),(28,ab)] 100 rfl ?_ (AK.bm rfl (by simp[ag.cat,ag,aP.nil]))
  simp only[ag,j,ia,aF,aC];and_intros <;> rfl
 |true =>
 obtain⟨u,v⟩:=pz j
 by_cases f:1<=b/\b<=2
 rotate_left
 .rw[aY (by simp[f])]
  refine aD a [(14,ae),(19,ab),(28,ab)] 100 rfl ?_ (AK.bm rfl (by simp[ag.cat,ag,aP.nil]))
  simp only[ag,j,f,ku,dv,ia,aF,aC];and_intros <;> rfl
 by_cases g:Wl w b=0
 rotate_left
 .rw[aY λh=>g h.2.2]
  refine aD a [(14,ae),(19,ae),(28,ab)] 100 rfl ?_ (AK.bm rfl (by simp[ag.cat,ag,aP.nil]))
  simp only[ag,j,f,bu,ib,dv,ic,aF,aC];and_intros <;> first|rfl|omega|exact g
 rw[bc ⟨rfl,f,g⟩];have n:tF w.2.1.1 w.2.2.1=iz w:=by unfold iz;rw[bc j]
 have l:=(za (X:=X) (kG j).xq w.2.2.1);rw[n] at l;have m:=De (X:=X) w.1 (xy w b) (iz w) no l.z;have l:=l.b;generalize IJ w.1 (xy w b) (iz w)=M at *;generalize Ql w.1 (xy w b) (iz w) no=o at *;generalize iz w=s at *;have a:bC X [(10,iC [CJ w] (dB (ey w))),(15,n3),(17,iC [eH w.2.1.1,gf w.2.2.1] (eH s)),(16,iC [dI w.1,Be (xy w b),eH s,dI no] (Qm M o))]:=.cons (ja q) (.cons oF (.cons (ja l) (.cons (ja m) .nil)));have p:bu .i64 (b-1):=by simp only[bu];omega
 have r:0<=b-1/\b-1<(w.2.2.2.1.length:Int):=by omega
 refine aD a [(14,ae),(19,ae),(28,ae),(1000003,ab)] 200 rfl ?_ ?_
 .simp only[ag,j,f,bu,ib,dv,pB,aF,aC];and_intros <;> first|rfl|omega|exact g
 refine AK.flags eh (λi=>([.e (.one (.ptr 0 0)),dI w.1,.e (.one (.ptr 0 10)),cH.sl w.2.2.2.1,dI b,dI (b-1),.e (.one (.c (.rp [.int .i64 (xy w b).1,.int .i64 (xy w b).2]))),Be (xy w b),.e (.one (.ptr 0 1)),.e (.one (.ptr 0 1)),eH w.2.1.1,.e (.one (.ptr 0 6)),gf w.2.2.1,eH s,dI no,Qm M o,Qm M o,.e (.one (.c (.sl ae 2 (o.getD []).length (cF.fn (o.getD []))))),dI M.2,Be M.1,dB o.isSome,.e (.one (.ptr 1 0)),.e (.one (.c (.sl ae 2 (o.getD []).length (cF.fn (o.getD []))))),dI M.2,.any,dB o.isSome]:List D).getD i .any) (tU (Tf w M.1) 25 21 24) rfl rfl rfl rfl
  ⟨bS.q3 rfl rfl rfl (λ_ c d=>by cases c <;> cases d <;> exact OA.bM tok a rfl),
  bS.q3 rfl rfl rfl (λ_ c d=>by cases c <;> cases d <;> exact OA.bM tok a rfl),
  bS.q3 rfl rfl rfl (λ_ c d=>by cases c <;> cases d <;> exact OA.bM tok a rfl),
  bS.q3 rfl rfl rfl (λ_ c d=>by cases c <;> cases d <;> exact OA.bM tok a rfl),
  bS.q3 rfl rfl rfl (λ_ c d=>by cases c <;> cases d <;> exact OA.bM tok a rfl),
  bS.q3 rfl rfl rfl (λ_ c d=>by cases c <;> cases d <;> exact OA.eval (ds:=[]) tok a rfl p),
  bS.q3 rfl rfl rfl (λ_ c d=>by cases c <;> cases d <;> exact OA.eval (ds:=[]) tok a rfl r),
  bS.q3 rfl rfl rfl (λ_ c d=>by cases c <;> cases d <;> exact OA.bM tok a rfl),
  bS.q3 rfl rfl rfl (λ_ c d=>by cases c <;> cases d <;> exact OA.bM tok a rfl),
  bS.q3 rfl rfl rfl (λ_ c d=>by cases c <;> cases d <;> exact OA.bM tok a rfl),
  bS.q3 rfl rfl rfl (λ_ c d=>by cases c <;> cases d <;> exact OA.bM tok a rfl),
  bS.q3 rfl rfl rfl (λ_ c d=>by cases c <;> cases d <;> exact OA.bM tok a rfl),
  bS.q3 rfl rfl rfl (λ_ c d=>by cases c <;> cases d <;> exact OA.bM tok a rfl),
  bS.q3 rfl rfl rfl (λ_ c d=>by cases c <;> cases d <;> exact OA.eval (ds:=[]) tok a rfl rfl),
  bS.q3 rfl rfl rfl (λ_ c d=>by cases c <;> cases d <;> exact OA.bM tok a rfl),
  bS.q3 rfl rfl rfl (λ_ c d=>by cases c <;> cases d <;> exact OA.eval (ds:=[]) tok a rfl rfl),
  bS.q3 rfl rfl rfl (λ_ c d=>by cases c <;> cases d <;> exact OA.bM tok a rfl),
  bS.q3 rfl rfl rfl (λ_ c d=>by cases c <;> cases d <;> exact OA.bM tok a rfl),
  bS.q3 rfl rfl rfl (λ_ c d=>by cases c <;> cases d <;> exact OA.bM tok a rfl),
  bS.q3 rfl rfl rfl (λ_ c d=>by cases c <;> cases d <;> exact OA.bM tok a rfl),
  bS.q3 rfl rfl rfl (λ_ c d=>by cases c <;> cases d <;> exact OA.bM tok a rfl),
  bS.e2 rfl rfl rfl rfl rfl (λ_=>dW (ds:=[]) tok a (σ':=aa _) rfl av),
  bS.q3 rfl rfl rfl (λ_ c d=>by cases c <;> cases d <;> exact OA.bM tok a rfl),
  bS.q3 rfl rfl rfl (λ_ c d=>by cases c <;> cases d <;> exact OA.bM tok a rfl),
  bS.e3 rfl rfl rfl rfl rfl (λ_=>dW (ds:=[]) tok a (σ':=aa _) rfl av),
  bS.e1 rfl rfl rfl rfl (λc d=>by cases c <;> cases d <;> exact OA.bM tok a rfl),av⟩ ?_
 intro D k;show AK X _ _ _ _ _ (Tf w M.1 (D 25) (D 21) (D 24));rw[k 25 (by decide),k 21 (by decide),k 24 (by decide)]
 exact aD a [] 200 rfl av (AK.bm rfl (by simp[ag.cat,ag,aP.same]))
def ya(w:dy) (b no:Int)(p:LS w.2.1)(u:1<=b/\b<=3):Ev (Cx.beside ah) 7 [CJ w,dI b,dI no] [] (F3 ((py w b no).getD []) (py w b no).isSome) []:=by
 refine Ev.bQ Tryz.func7 rfl λy=>?_
 have q:=ug w p;have a:bC (Cx.beside ah) [(18,iC [CJ w] (dB (ey w))),(19,MQ)]:=.cons (ja q) (.cons Qk .nil);unfold py;cases k:ey w with
 |false =>
  refine aD a [(14,ab),(19,ab),(28,ab)] 100 rfl ?_ (AK.bm rfl (by simp[ag.cat,ag,aP.nil]))
  simp only[ag,k,ia,aF,aC];and_intros <;> rfl
 |true =>
 obtain⟨v,x⟩:=pz k
 by_cases f:1<=b/\b<=2
 rotate_left
 .rw[aY (by simp[f])]
  refine aD a [(14,ae),(19,ab),(28,ab)] 100 rfl ?_ (AK.bm rfl (by simp[ag.cat,ag,aP.nil]))
  simp only[ag,k,Te,f,ku,dv,ia,aF,aC];and_intros <;> rfl
 by_cases g:Wl w b=0
 rotate_left
 .rw[aY λh=>g h.2.2]
  refine aD a [(14,ae),(19,ae),(28,ab)] 100 rfl ?_ (AK.bm rfl (by simp[ag.cat,ag,aP.nil]))
  simp only[ag,k,Te,f,bu,ib,dv,ic,aF,aC];and_intros <;> first|rfl|omega|exact g
 rw[bc ⟨rfl,f,g⟩];have m:=IB w p;have t:=C9 (w:=w);have l:=Df w.1 (xy w b) (iz w) no t;generalize IJ w.1 (xy w b) (iz w)=M at *;generalize Ql w.1 (xy w b) (iz w) no=o at *;generalize iz w=s at *;have a:bC (Cx.beside ah) [(18,iC [CJ w] (dB (ey w))),(19,MQ),(21,iC [CJ w] (eH s)),(20,iC [dI w.1,Be (xy w b),eH s,dI no] (Qm M o))]:=.cons (ja q) (.cons Qk (.cons (ja m) (.cons (ja l) .nil)));have n:bu .i64 (b-1):=by simp only[bu];omega
 have r:0<=b-1/\b-1<(w.2.2.2.1.length:Int):=by omega
 refine aD a [(14,ae),(19,ae),(28,ae),(1000003,ab)] 200 rfl ?_ ?_
 .simp only[ag,k,Te,f,bu,ib,dv,pB,aF,aC];and_intros <;> first|rfl|omega|exact g
 refine AK.flags eh (λi=>([.e (.one (.ptr 0 0)),dI w.1,.e (.one (.ptr 0 10)),cH.sl w.2.2.2.1,dI b,dI (b-1),.e (.one (.c (.rp [.int .i64 (xy w b).1,.int .i64 (xy w b).2]))),Be (xy w b),CJ w,eH s,dI no,Qm M o,Qm M o,.e (.one (.c (.sl ae 2 (o.getD []).length (cF.fn (o.getD []))))),dI M.2,Be M.1,dB o.isSome,.e (.one (.ptr 1 0)),.e (.one (.c (.sl ae 2 (o.getD []).length (cF.fn (o.getD []))))),dI M.2,.any,dB o.isSome]:List D).getD i .any) (tU (Tf w M.1) 21 17 20) rfl rfl rfl rfl
  ⟨bS.q3 rfl rfl rfl (λ_ c d=>by cases c <;> cases d <;> exact OA.bM tok a rfl),
  bS.q3 rfl rfl rfl (λ_ c d=>by cases c <;> cases d <;> exact OA.bM tok a rfl),
  bS.q3 rfl rfl rfl (λ_ c d=>by cases c <;> cases d <;> exact OA.bM tok a rfl),
  bS.q3 rfl rfl rfl (λ_ c d=>by cases c <;> cases d <;> exact OA.bM tok a rfl),
  bS.q3 rfl rfl rfl (λ_ c d=>by cases c <;> cases d <;> exact OA.bM tok a rfl),
  bS.q3 rfl rfl rfl (λ_ c d=>by cases c <;> cases d <;> exact OA.eval (ds:=[]) tok a rfl n),
  bS.q3 rfl rfl rfl (λ_ c d=>by cases c <;> cases d <;> exact OA.eval (ds:=[]) tok a rfl r),
  bS.q3 rfl rfl rfl (λ_ c d=>by cases c <;> cases d <;> exact OA.bM tok a rfl),
  bS.q3 rfl rfl rfl (λ_ c d=>by cases c <;> cases d <;> exact OA.bM tok a rfl),
  bS.q3 rfl rfl rfl (λ_ c d=>by cases c <;> cases d <;> exact OA.eval (ds:=[]) tok a rfl rfl),
  bS.q3 rfl rfl rfl (λ_ c d=>by cases c <;> cases d <;> exact OA.bM tok a rfl),
  bS.q3 rfl rfl rfl (λ_ c d=>by cases c <;> cases d <;> exact OA.eval (ds:=[]) tok a rfl rfl),
  bS.q3 rfl rfl rfl (λ_ c d=>by cases c <;> cases d <;> exact OA.bM tok a rfl),
  bS.q3 rfl rfl rfl (λ_ c d=>by cases c <;> cases d <;> exact OA.bM tok a rfl),
  bS.q3 rfl rfl rfl (λ_ c d=>by cases c <;> cases d <;> exact OA.bM tok a rfl),
  bS.q3 rfl rfl rfl (λ_ c d=>by cases c <;> cases d <;> exact OA.bM tok a rfl),
  bS.q3 rfl rfl rfl (λ_ c d=>by cases c <;> cases d <;> exact OA.bM tok a rfl),
  bS.e2 rfl rfl rfl rfl rfl (λ_=>dW (ds:=[]) tok a (σ':=aa _) rfl av),
  bS.q3 rfl rfl rfl (λ_ c d=>by cases c <;> cases d <;> exact OA.bM tok a rfl),
  bS.q3 rfl rfl rfl (λ_ c d=>by cases c <;> cases d <;> exact OA.bM tok a rfl),
  bS.e3 rfl rfl rfl rfl rfl (λ_=>dW (ds:=[]) tok a (σ':=aa _) rfl av),
  bS.e1 rfl rfl rfl rfl (λc d=>by cases c <;> cases d <;> exact OA.bM tok a rfl),av⟩ ?_
 intro D j;show AK (Cx.beside ah) _ _ _ _ _ (Tf w M.1 (D 21) (D 17) (D 20));rw[j 21 (by decide),j 17 (by decide),j 20 (by decide)]
 exact aD a [] 200 rfl av (AK.bm rfl (by simp[ag.cat,ag,aP.same]))
section
variable [X.js]
def Zk(k:Nat)(a b c:Bool):Nat:=match c with
 |true=>k+3
 |false=>match b with
  |true=>k+2
  |false=>match a with
   |true=>k+1
   |false=>k
def dlB(m:Nat)(f:Nat->Int)(w:dy)(k:Nat)(a b c d:Bool):List aV:=match d with
 |false=>[oc,lu m f (Zk k a b c),pw w.2.1]++Wk w.2.2.2.1 w.2.2.2.2++[.cells 35 (E7 w 2 3)]
 |true=>[.cells 35 (E7 w 2 3),lu m f (Zk k a b c),pw w.2.1]++Wk w.2.2.2.1 w.2.2.2.2++[.cells 35 (E7 w 2 3)]
abbrev xDl(w:dy) (v1 v2 v3:Int)(i:Nat):D :=
 [.e (.agg (E7 w 2 3)),.e (.one (.ptr 1 0)),dI v1,dI (1+v1),.e (.one (.ptr 1 0)),dI v2,dI (v2 / 23),dI (1+v1+v2 / 23),.e (.one (.ptr 1 0)),.e (.one (.ptr 5 1)),.e (.one (.ptr 5 1)),.e (.one (.ptr 5 3)),cH.sl w.2.1.1.2.2,dI w.2.1.1.2.2.length,dI (w.2.1.1.2.2.length+1),dI v3,dI (1+v3),.any,dI (1+v1+v2 / 23),dI (1+v3)].getD i .any
abbrev dWl(w:dy) (b no:Int):D:=.eJ [.agg (M3 w),.one (.c (.int .i64 b)),.one (.c (.int .i64 no))]
def M6.VE{k:Nat}(q:M6 k):q.w.2.1.1.2.2.length<=9:=by
 rw[(tG q.v (fG q.es)).1];exact(px q.es).w.s.a5
set_option maxRecDepth 20000 in
def Dg(m:Nat)(f:Nat->Int)(k:Bytes f)(r:m<=1048576) :
  cK (ι:={ x:M6 0×Int×Int // 1<=x.2.1/\x.2.1<=3 }) X 5 [.e (.one (.c (.sl ae 1 m (R5 f))))] [] (λx=>dWl x.1.1.w x.1.2.1 x.1.2.2) (λ_=>[]):=by
 refine cK.Jk Tryz.func5 rfl rfl (c7 rfl) (AK.of_code ?_);refine bk rfl av ?_;refine AK.cP (OW m f r) [] rfl (λ_=>rfl) ?_
 rintro⟨i,hm'⟩;refine bk rfl av ?_;refine AK.cP (E8 i f k 0 (by omega) hm') [1] rfl (λ_=>rfl) ?_
 intro q;have p:=q.hi;have n:=q.VE;have o:=pg (X:=X) i f k q.k1 2 (by omega) hm' (by omega)
 have p2:=pg (X:=X) i f k (q.k1+1) 24 (by omega) hm' (by omega)
 have p3:=pg (X:=X) i f k (q.k1+2) (q.w.2.1.1.2.2.length+1) (by omega) hm' (by omega)
 have s:=kS i f q.k1 2 (by omega)
 have t:=kS i f (q.k1+1) 24 (by omega)
 have u:=kS i f (q.k1+2) (q.w.2.1.1.2.2.length+1) (by omega)
 generalize oo i f q.k1 2=v1 at *;generalize oo i f (q.k1+1) 24=v2 at *;generalize oo i f (q.k1+2) (q.w.2.1.1.2.2.length+1)=v3 at *;have g:bC X []:=bC.nil;have c1:bC X [(14,wR [.e (.one (.ptr 0 0)),dI 2] [lu i f q.k1] (dI v1) [lu i f (q.k1+1)])]:=.cons (yG o) .nil;have c2:bC X [(14,wR [.e (.one (.ptr 0 0)),dI 24] [lu i f (q.k1+1)] (dI v2) [lu i f (q.k1+1+1)])]:=.cons (yG p2) .nil;have c3:bC X [(14,wR [.e (.one (.ptr 0 0)),dI (q.w.2.1.1.2.2.length+1)] [lu i f (q.k1+2)] (dI v3) [lu i f (q.k1+2+1)])]:=.cons (yG p3) .nil;refine aX [(1000003,ab)] 100 rfl av ?_;refine AK.flags eh (xDl q.w v1 v2 v3) (vT (dlB i f q.w q.k1) 2 5 15 17) rfl rfl rfl rfl
  ⟨bS.q4 rfl rfl rfl rfl (λa b c d=>by cases d <;> exact OA.bM tok g rfl),
  bS.q4 rfl rfl rfl rfl (λa b c d=>by cases d <;> exact OA.bM tok g rfl),
  bS.c1 rfl rfl rfl rfl rfl rfl (dW (ds:=[]) tok c1 (σ':=aa _) rfl ⟨rfl,rfl⟩),
  bS.q4 rfl rfl rfl rfl (λa b c d=>by cases d <;> exact OA.eval (ds:=[]) tok g rfl (by simp only[ag,bu,aC];omega)),
  bS.q4 rfl rfl rfl rfl (λa b c d=>by cases d <;> exact OA.bM tok g rfl),
  bS.c2 rfl rfl rfl rfl rfl rfl (dW (ds:=[]) tok c2 (σ':=aa _) rfl ⟨rfl,rfl⟩),
  bS.q4 rfl rfl rfl rfl (λa b c d=>by cases d <;> exact OA.eval (ds:=[]) tok g rfl (by simp only[ag,aC];omega)),
  bS.q4 rfl rfl rfl rfl (λa b c d=>by cases d <;> exact OA.eval (ds:=[]) tok g rfl (by simp only[ag,bu,aC];omega)),
  bS.q4 rfl rfl rfl rfl (λa b c d=>by cases d <;> exact OA.bM tok g rfl),
  bS.q4 rfl rfl rfl rfl (λa b c d=>by cases d <;> exact OA.bM tok g rfl),
  bS.q4 rfl rfl rfl rfl (λa b c d=>by cases d <;> exact OA.bM tok g rfl),
  bS.q4 rfl rfl rfl rfl (λa b c d=>by cases d <;> exact OA.bM tok g rfl),
  bS.q4 rfl rfl rfl rfl (λa b c d=>by cases d <;> exact OA.bM tok g rfl),
  bS.q4 rfl rfl rfl rfl (λa b c d=>by cases d <;> exact OA.bM tok g rfl),
  bS.q4 rfl rfl rfl rfl (λa b c d=>by cases d <;> exact OA.eval (ds:=[]) tok g rfl (by simp only[ag,bu,aC];omega)),
  bS.c3 rfl rfl rfl rfl rfl rfl (dW (ds:=[]) tok c3 (σ':=aa _) rfl ⟨rfl,rfl⟩),
  bS.q4 rfl rfl rfl rfl (λa b c d=>by cases d <;> exact OA.eval (ds:=[]) tok g rfl (by simp only[ag,bu,aC];omega)),
  bS.c4 rfl rfl rfl rfl rfl rfl (dW (ds:=[]) tok g (σ':=aa _) rfl av),
  bS.q4 rfl rfl rfl rfl (λa b c d=>by cases d <;> exact OA.bM tok g rfl),
  bS.q4 rfl rfl rfl rfl (λa b c d=>by cases d <;> exact OA.bM tok g rfl),av⟩ ?_
 intro D j;show AK X _ _ _ _ _ (dlB i f q.w q.k1 (D 2) (D 5) (D 15) (D 17));rw[j 2 (by decide),j 5 (by decide),j 15 (by decide),j 17 (by decide)]
 refine AK.rJ 3 rfl rfl rfl (by simp[ag.cat,ag]) (by simp[ag.cat,ag]) ?_
 refine AK.rJ 4 rfl rfl rfl (by simp[ag.cat,ag]) (by simp[ag.cat,ag]) ?_
 refine AK.norm [.cells 35 (M3 q.w),lu i f (q.k1+3),pw q.w.2.1,.dead,.dead,.cells 35 (M3 q.w)] rfl (by simp[ag.cat,ag,aP.same,uw,Zk]) ?_
 refine AK.freeze 2 0 rfl rfl rfl ?_;have l:1<=1+v1+v2 / 23/\1+v1+v2 / 23<=3:=by omega
 refine AK.iE (λ_ _ _ h=>⟨⟨(q,1+v1+v2 / 23,1+v3),l⟩,h⟩) ?_
 exact AK.iQ tok [] rfl (by simp[ag.cat,ag,aP.same]) rfl rfl rfl fN
end
abbrev XB:Cx ah:=Cx.beside ah
def SN(l:List bA):Ev X 8 [cF.sl l,cF.sl l] [] (dB ab) []:=by
 refine Ev.bQ Tryz.func8 rfl λa=>?_
 have b:=a.sl 0 rfl;refine aX [(10,ae)] 100 rfl (by simp[ag]) ?_
 refine AK.bO 0 (λi=>i<=l.length) (λi:Nat=>[(0,cF.sl l),(1,cF.sl l),(5,dI i)]) (λ_=>[]) (λi=>l.length-i) 0 rfl (by simp[ag.cat,ag,aP.same]) rfl (by simp[ag]) rfl (by omega) ?_
 intro i hi
 by_cases h:i<l.length
 .refine aX [(14,ab),(25,ae)] 200 rfl ?_ (AK.aQ (i+1) rfl ?_ ?_ ?_ ?_)
  .simp[ag,bu,h];omega
  .simp[ag.cat,ag,aP.same]
  .simp[ag]
  .show i+1<=_;omega
  .omega
 .refine aX [(14,ae)] 200 rfl (by simp[ag];omega) (AK.leaveD rfl rfl ?_)
  refine dO rfl av (AK.bm rfl ?_);simp[ag]
def LS.VF{w:cM}(h:LS w):iS w.1:=h.toQa.toOR.sm
abbrev oT(o:Option (List bA)):D:=F3 (o.getD []) o.isSome
abbrev ckL(w:dy) (b no:Int)(o a:Option (List bA)):List (Nat×dh):=[(6,iC [CJ w,dI b,dI no] (oT o)),(7,iC [CJ w,dI b,dI no] (oT o)),(8,iC [cF.sl (o.getD []),cF.sl (o.getD [])] (dB ab)),(9,iC [dI w.1,eH w.2.1.1,dI no] (oT a))]
def okL(w:dy) (b no:Int)(a:LS w.2.1)(c:1<=b/\b<=3):bC XB (ckL w b no (py w b no) (eb w.1 w.2.1.1 no)) :=
 .cons (ja (x9 w b no a.toOR c)) (.cons (ja (ya w b no a c)) (.cons (ja (SN _)) (.cons (ja (r8 _ _ _ a.VF)) .nil)))
end
section
open Go.Proofs
def IL{s:aZ}{l:c6}(h:l.1=0):tF s l=s:=by
 unfold tF;rw[aY (by omega),aY (by omega),aY (by omega),aY (by omega)]
def uE(m:Nat)(b:Nat->Int)(C:Bytes b)(I:m<=9223372036854775807):Ev XB 4 [.e (.one (.c (.sl ae 1 m (R5 b))))] [] (dB ab) []:=by
 refine Ev.bQ Tryz.func4 rfl λH=>?_
 by_cases J:m>1048576
 .refine aX [(16,ab)] 100 rfl (by simp only[ag,ba];omega) (AK.bm rfl (by simp[ag]))
 refine aX [(16,ae)] 100 rfl (by simp only[ag,bJ];omega) ?_
 refine AK.cP (Dg m b C (by omega)) [] rfl (λ_=>rfl) ?_
 rintro⟨⟨q,i,no⟩,hi⟩;simp only at hi;have B:=q.Vw;have F:=q.VE;generalize q.w=w at *;have E:=uf (X:=XB) w B.toOR;have A:=okL w i no B hi;have f:py w i no=py w i no:=rfl
 conv at f=>rhs;unfold py
 have y:=GB (X:=XB) (xy w i) w.2.1.1.2.2 (by omega)
 generalize py w i no=o at *;have a:bC XB ((10,iC [CJ w] (dB (ey w)))::(11,iC [Be (xy w i),cH.sl w.2.1.1.2.2] (M7 (iU (xy w i) w.2.1.1.2.2)))::ckL w i no o (eb w.1 w.2.1.1 no)):=.cons (ja E) (.cons (ja y) A);have l:(o.isSome != o.isSome)=ae:=by simp
 cases n:ey w with
 |false =>
  refine aD a [(39,ae),(45,ae),(50,ab),(56,ab),(60,ab),(63,ab)] 200 rfl ?_ (AK.bm rfl (by simp[ag]))
  simp only[ag,n,l,dH,aF,aC]
  and_intros <;> rfl
 |true =>
 by_cases s:w.2.2.1.1=0
 rotate_left
 .refine aD a [(39,ae),(45,ae),(50,ae),(56,ab),(60,ab),(63,ab)] 200 rfl ?_ (AK.bm rfl (by simp[ag]))
  simp only[ag,n,l,dH,aF,aC]
  and_intros <;> first|rfl|exact ic.2 s
 by_cases x:i<=2
 rotate_left
 .refine aD a [(39,ae),(45,ae),(50,ae),(56,ae),(60,ab),(63,ab)] 200 rfl ?_ (AK.bm rfl (by simp[ag]))
  simp only[ag,n,l,dH,aF,aC]
  and_intros <;> first|rfl|exact pB.2 s|exact cj (by omega)
 obtain⟨G,K⟩:=pz n;have v:iz w=w.2.1.1:=by unfold iz;rw[bc n,IL s]
 have z:ck w.1=ab:=(kG n).key;rw[v,n] at f;unfold Ql at f;rw[z] at f;have u:bu .i64 (i-1):=by simp only[bu];omega
 have t:0<=i-1/\i-1<(w.2.2.2.1.length:Int):=by omega
 generalize iU (xy w i) w.2.1.1.2.2=g at *;generalize eb w.1 w.2.1.1 no=o2 at *;refine aD a [(39,ae),(45,ae),(50,ae),(56,ae),(60,ae),(1000008,ab)] 200 rfl ?_ ?_
 .simp only[ag,n,l,dH,aF,aC]
  and_intros <;> first|rfl|exact pB.2 s|exact eu (by omega)
 refine AK.flags eh (λj=>([.e (.one (.ptr 0 10)),cH.sl w.2.2.2.1,dI i,dI (i-1),.e (.one (.c (.rp [.int .i64 (xy w i).1,.int .i64 (xy w i).2]))),Be (xy w i),.e (.one (.ptr 0 1)),.e (.one (.ptr 0 1)),.e (.one (.ptr 0 3)),cH.sl w.2.1.1.2.2,M7 g,M7 g,Be g.1,dI g.2,.e (.one (.ptr 1 0)),.any,dI g.2]:List D).getD j .any) (tU (Tf w g.1) 16 14 15) rfl rfl rfl rfl
  ⟨bS.q3 rfl rfl rfl (λ_ c d=>by cases c <;> cases d <;> exact OA.bM tok a rfl),
  bS.q3 rfl rfl rfl (λ_ c d=>by cases c <;> cases d <;> exact OA.bM tok a rfl),
  bS.q3 rfl rfl rfl (λ_ c d=>by cases c <;> cases d <;> exact OA.bM tok a rfl),
  bS.q3 rfl rfl rfl (λ_ c d=>by cases c <;> cases d <;> exact OA.eval (ds:=[]) tok a rfl u),
  bS.q3 rfl rfl rfl (λ_ c d=>by cases c <;> cases d <;> exact OA.eval (ds:=[]) tok a rfl t),
  bS.q3 rfl rfl rfl (λ_ c d=>by cases c <;> cases d <;> exact OA.bM tok a rfl),
  bS.q3 rfl rfl rfl (λ_ c d=>by cases c <;> cases d <;> exact OA.bM tok a rfl),
  bS.q3 rfl rfl rfl (λ_ c d=>by cases c <;> cases d <;> exact OA.bM tok a rfl),
  bS.q3 rfl rfl rfl (λ_ c d=>by cases c <;> cases d <;> exact OA.bM tok a rfl),
  bS.q3 rfl rfl rfl (λ_ c d=>by cases c <;> cases d <;> exact OA.bM tok a rfl),
  bS.q3 rfl rfl rfl (λ_ c d=>by cases c <;> cases d <;> exact OA.eval (ds:=[]) tok a rfl rfl),
  bS.q3 rfl rfl rfl (λ_ c d=>by cases c <;> cases d <;> exact OA.bM tok a rfl),
  bS.q3 rfl rfl rfl (λ_ c d=>by cases c <;> cases d <;> exact OA.bM tok a rfl),
  bS.q3 rfl rfl rfl (λ_ c d=>by cases c <;> cases d <;> exact OA.bM tok a rfl),
  bS.e2 rfl rfl rfl rfl rfl (λ_=>dW (ds:=[]) tok a (σ':=aa _) rfl av),
  bS.e3 rfl rfl rfl rfl rfl (λ_=>dW (ds:=[]) tok a (σ':=aa _) rfl av),
  bS.e1 rfl rfl rfl rfl (λc d=>by cases c <;> cases d <;> exact OA.bM tok a rfl),av⟩ ?_
 intro D p;show AK XB _ _ _ _ _ (Tf w g.1 (D 16) (D 14) (D 15));rw[p 16 (by decide),p 14 (by decide),p 15 (by decide)]
 by_cases k:Wl w i=0
 rotate_left
 .rw[aY λh=>k h.2.2] at f
  subst f;refine aD a [(89,ab),(93,ab)] 200 rfl ?_ (AK.bm rfl (by simp[ag]))
  simp only[ag,bu,ic,aF,aC]
  and_intros <;> first|rfl|omega|exact k
 rw[bc ⟨rfl,⟨by omega,x⟩,k⟩] at f
 by_cases r:g.2=0
 .rw[bc ⟨rfl,r⟩] at f;subst f;refine aD a [(89,ae),(93,ae),(108,ab)] 200 rfl ?_ (AK.bm rfl (by simp[ag]))
  simp only[ag,bu,pB,dH,aF,aC]
  and_intros <;> first|rfl|omega|exact k|exact r
 .rw[aY λh=>r h.2] at f
  subst f;refine aD a [(89,ae),(93,ab)] 200 rfl ?_ (AK.bm rfl (by simp[ag]))
  simp only[ag,bu,pB,ic,aF,aC]
  and_intros <;> first|rfl|omega|exact k|exact r
end
end Go.AM.R1
namespace Go.AM
section
open Go.RowKit
open Go.Conc (G solo crowd AtRel Past EvL Leavers)
def St.top(w:az):St:={ β:=[],M:=λb o=>w.cell? ⟨b,o,af⟩,w:=w,own:=λb=>b<w.heap.size }
def aJ.top(w:az):aJ [] (St.top w):=⟨λ_ _ _ h=>h,rfl,by simp,by simp[St.top],by simp[St.top],λb hb=>⟨hb,by simp[St.top]⟩⟩
def Rl{P:aq}{f:aW}{a:aR}{v:ak}{s:St}(h:uq P f a v s)(hi:P.inits.idxOf? f=af)(w:az)(l:∀ b o u,s.M b o=aa u->w.cell? ⟨b,o,af⟩=aa u):∃ es,aK P ab (G a []) w=.ended (.done v) w es/\∀ e∈es,∃ b o u,e=⟨.cell ⟨b,o,af⟩,ae,ae⟩/\s.M b o=aa u:=by
 obtain⟨fn,i,c⟩:=h.fn;obtain⟨k,g⟩:=c w l;refine⟨seen P a.fn ((results fn a.tmps).events P w #[]),?_,λe j=>g e (Go.Conc.mem_seen j)⟩
 have d:P.inits.idxOf? a.fn=af:=by rw[h.isF];exact hi
 simp[G,aK,unwind,doReturn,h.mode,h.defers,h.kind,i,k,d,GStep.after]
def cK.XJ{P:aq}{ι:Type}{f:aW}{args:List D}{res:ι->D}{σ':ι->List aV}(h:cK (Cx.beside P) f args [] res σ')(hi:P.inits.idxOf? f=af){w:az}{vs:List ak}(F:cw [] (St.top w) vs args){Post:ak->az->Prop}
  (y:∀ i v s',c8 (σ' i) s' v (res i)->aJ (σ' i) s'->Below w.heap.size w s'.w->∀ d,Post v (s'.w.at d)) :
  ∃ M last o w' t',runNT P (M+1) (solo (G (Frame.enter P f vs.toArray .normal) []) w) #[]=(.ended o w',t')/\runN P M (solo (G (Frame.enter P f vs.toArray .normal) []) w)=.next last /\
   step P last=.ended o w'/\Go.Conc.Good P Post last o w' t':=by
 have key:=h.2 (St.top w) vs F (aJ.top w) (λg s'=>∃ i v fr,g=G fr []/\uq P f fr v s'/\c8 (σ' i) s' v (res i)/\aJ (σ' i) s'/\Below w.heap.size w s'.w) []
  (λi fr v s' h1 h2 h3 h4=>.stop ⟨i,v,fr,rfl,h1,h2,h3,⟨h4.os,h4.tape,h4.output,h4.size,λk L=>h4.eL k L⟩⟩)
 have J:AM.lQ (λ_=>False)=λ_=>False:=by funext l;cases l <;> rfl
 obtain⟨N,r,q,g',s',c,t',R,h1,h2,h3,h4,K,C,S,⟨i,v,fr,rfl,k1,Q,s,x⟩⟩:=key.beside (λ_=>False) #[G (Frame.enter P f vs.toArray .normal) []] af #[] (λ_=>0) (aJ.top w).mem rfl (Go.Conc.leavers_one P _)
  (by rw[J];exact Go.Conc.past_nil.mono (gB _)) ⟨λ_ h=>h.elim,λ_ h=>h.elim,λ_ h=>h.elim,λ_ h=>h.elim⟩ (λa=>by intro i hi;simp[Trace.act?] at hi)
 have j:=Go.Conc.beside_ends (P:=P) (Shun:=AM.lQ r) (B:=s'.w.heap.size) (D:=λ_ _ _=>False) (Post:=Post) (λ_ _ _ h=>h.elim) (sl:=c) (n:=0) h3 h4 K (Go.Conc.Goes.stop λw1 QA=>by
  obtain⟨d,rfl⟩:=QA;obtain⟨es,e1,e2⟩:=Rl k1 hi (s'.w.at d) (λb o u p=>h2 b o u p)
  refine⟨rfl,v,es,e1,λe E=>?_,y i v s' Q s x d⟩
  obtain⟨b,o,u,rfl,p⟩:=e2 e E;refine Go.Conc.evL_cell _ _ (λI=>?_) (gx.lt h2 p)
  have:=C.M b I o;rw[p] at this;cases this)
 obtain⟨m,last,o,w',O,z,T,H,A⟩:=j;refine⟨N+m,last,o,w',O,?_,?_,H,A⟩
 .rw[show N+m+1=N+(m+1) by omega]
  exact(runNT_add N (m+1) h1).trans z
 .have e:=runNT_fst P N (crowd #[G (Frame.enter P f vs.toArray .normal) []] w af) #[];have t:(runNT P N (crowd #[G (Frame.enter P f vs.toArray .normal) []] w af) #[]).1=.next (crowd q s'.w c):=by
   have:runNT P N (crowd #[G (Frame.enter P f vs.toArray .normal) []] w af) #[]=_:=h1;rw[this]
  grind [Go.Conc.solo_eq_crowd,runN_add]
end
section
open Go.ChangeShapes Go.WideShapes Go.ChangeAt Go.RowKit
def Cr{H:Type}{enc:ar×ak->H}{a:Assume}{C:Checked}{os:Os}{f:aW}{fn:Func}{s:ChangeSpec}{d:List PathCond}{apart fresh handsOn again:Bool}{X:az->Array ak->Prop}
  (K:∀ (w w':az) (args:Array ak),w.heap=w'.heap->X w args->X w' args)
  (own:ownKnob C.prog.godebug=af) (h:os.Started) (u:C.prog.funcs[f]?=aa fn)
  (g:∃ (w:az) (b:Tape) (i:Input),w.os=os/\(w.forCall b i).Shaped C.prog/\i.vars=[]/\Input.okWide C.prog (w.forCall b i) .any w.heap.size f i /\
   ((s.pre enc C.prog fn d apart (w.forCall b i).memory i.args/\X (w.forCall b i).memory i.args)/\sizedMet enc C.prog fn (OpenSpec.ofChange s) apart (w.forCall b i).memory i.args)/\a.holds C.prog (lone (Frame.enter C.prog f i.args .normal) [] (w.forCall b i)))
  (l:∀ (W:az) (base:Nat) (args:Array ak) (ds gs:List (DataW H)) (c:List MemPlace),
   (∀ (j:Nat) t v,fn.params[j]?=aa t->args[j]?=aa v->Value.okWide C.prog W .any base t v) ->
   DataW.Whole enc C.prog fn.params.toList s.vars apart W args.toList ds gs c ->
   ∃ M last o w' t',runNT C.prog (M+1) (Conc.solo (Conc.G (Frame.enter C.prog f args .normal) []) W) #[]=(.ended o w',t')/\runN C.prog M (Conc.solo (Conc.G (Frame.enter C.prog f args .normal) []) W)=.next last /\
    step C.prog last=.ended o w'/\Conc.Good C.prog (λv y=>s.post enc C.prog fn apart fresh handsOn again W args v y) last o w' t') :
  ReturnsInLeavingWide a C os f .any (λw args=>(s.pre enc C.prog fn d apart w args/\X w args)/\sizedMet enc C.prog fn (OpenSpec.ofChange s) apart w args) (s.post enc C.prog fn apart fresh handsOn again):=by
 refine returnsInLeavingWide_of_good own h g ?_;intro w b i _ _ _ x k p;obtain⟨_,_,_,q,n,_,_,_,_,m⟩:=x;have e:q=fn:=uS (n.symm.trans u);subst e;obtain⟨⟨⟨ds,gs,c,B,L⟩,J⟩,I⟩:=k;have r:=DataW.Whole.of_heap (w':=w.forCall b i) (by rfl) B
 obtain⟨M,last,o,w',t',E,D,A,F⟩:=l (w.forCall b i) w.heap.size i.args ds gs c m r;exact⟨M,last,o,w',t',E,D,A,F.mono λv z=>ChangeSpec.post_blind z⟩
def HS(k:Looks){p:Pinned}{s:OpenSpec}{c:OpenClaim}(l:List (List PathCond))(kinds:List LaidKind)(a:Bool)(b:Bool×String)(lk:Bool)
  (w:c.holds p s) (m:∀ D∈l,(c.withDomain D).holds p s) (y:c.wfByText s=ab) (i:∀ D∈l,(c.withDomain D).wfByText s=ab)
  (d:c.laidByTextAt k p kinds a)
  (g:c.start=.entering) (e:c.noBlocks=ae/\c.again=ae) (q:p.checked.prog.mainIs=aa (b.1,b.2.toList)) (x:(!b.1&&b.2.isEmpty&&!lk)=ae)
  (o:∀ f fn,p.checked.prog.funcNamed c.func=aa f->p.checked.prog.funcs[f]?=aa fn->lk=p.checked.prog.looks []/\∀ (j:Nat) t,fn.params[j]?=aa t->p.checked.prog.wantsStandIn t=ae)
  (v:ab=c.goesBy p.checked.prog) :
  Claim7.holds p (.plain s) { stood:={ row:=c,standIns:=[],harness:=b,looks:=lk },kinds:=[],alts:=l,goes:=ab,laidByText:=ab,laidKinds:=kinds,laidTests:=a,laidLooks:=k }:=by
 have n:∀ r:OpenClaim,Claim7.isSixth { stood:={ row:=r,standIns:=[],harness:=b,looks:=lk },kinds:=[] }=ae:=λr=>by simpa[Claim7.isSixth] using x
 refine⟨Claim7.tied_new_at k kinds a (Claim7.new_of_sixth w b lk g e q (n c) o) y,λD u=>?_,d,(λh=>by cases h),v⟩
 exact Claim7.tied_new_at k kinds a (Claim7.new_of_sixth (m D u) b lk g e q (n _) o) (i D u)
end
end Go.AM
