/- Part 6. No condition. -/
import Derived.Test.YtnfgfnpbmbalmaaGreatDoorA5
import Derived.Conc.LeavingOf
import Derived.Below
import Derived.ProofKit
import Derived.OpenShut
import Derived.OpenVars
import Derived.LaidMore
import Derived.Lay
import Derived.SevenTiedAt
set_option linter.all false
set_option maxHeartbeats 8000000
open Go renaming Value → ak
open Option renaming some → aa
open Go renaming Program → aq
open Go renaming TypeId → ar
open Bool renaming true → ab
open Go renaming Frame → aR
open Go renaming Oper → aw
open Go renaming FuncId → aW
open Go renaming execOp → ay
open Go renaming Operand → an
open Option renaming none → af
open Bool renaming false → ae
open Go renaming undef → aj
open Go.World renaming cell? → a9
open List renaming getD_eq_getElem?_getD → ai
open Go.Sem renaming events_bind → aO
open Go.Result renaming evThen_ok → aU
open Go renaming World → az
open Go renaming stepG → aK
open List renaming range → bh
open Nat renaming beq → aG
open Nat renaming ble → bo
open Go.Proofs.Tryz renaming prog → ah
open List renaming all_eq_true → bu
namespace Go.AM
section
open Go.Conc (G)
def DL{P:aq}{T:List (Nat×TI)}(O:dg P T){o:aw}{U:an->D}{σ:List aV}{t:ar}{n:Nat}{parts:Array (Nat×an)}(h:o.op=.buildSlice t n parts){k:Nat}{es:List (List C)}
  (a:DM T U t n parts.toList=aa (k,es)) {i:TI} {E:ar} (hi:bF T t=aa i) (Z:i.desc=.slice E) {s:St} {ρ:an->ak} (hr:∀ y,dc σ s (ρ y) (U y)) :
  ∃ f:List ak,Flat s.M k n (λi=>es.getD i []) f/\n<=16777216/\0<k/\(ay ρ o).run P s.w=.ok (.value (.slice (aa ⟨s.w.heap.size,0,af⟩) n n)) (s.newRow E f).w/\(ay ρ o).events P s.w #[]=#[]:=by
 unfold DM at a
 .simp only[hi,Z] at a
  .skip
   cases L:bF T E with
   |none=>grind
   |some ie =>
    simp only[L] at a;cases V:aG ie.size 0 with
    |true=>grind
    |false =>
     simp only[V] at a;cases I:bo (n*ie.size) 16777216 with
     |false=>grind
     |true =>
      simp only[I] at a;cases j:nU U parts.toList with
      |none=>grind
      |some ps =>
       simp only[j] at a;cases g:vt (λk=>aa (k*ie.size,ie.size)) ps (List.replicate (n*ie.size) A.any) with
       |none=>grind
       |some cs =>
        simp only[g] at a;cases l:gn cs with
        |none=>grind
        |some r =>
         simp only[l] at a;cases G:qz ie.size n r with
         |none=>grind
         |some es' =>
          simp only[G,di,k8] at a;obtain⟨rfl,rfl⟩:=a;have hz0:ie.size≠0:=λe=>by rw[e] at V;cases V
          have J:=db I;obtain⟨inf,z,z1,z2,z3,z4,z5,z6,z7⟩:=(O E ie L).info;have hzs:z.cells.size=ie.size:=by
           have:=du List.length z5
           grind
          have ZD:∀ v∈z.cells.toList,cZ v=ab:=by
           intro v Q;have b:qi v∈z.cells.toList.map qi:=lB.2 ⟨v,Q,rfl⟩;rw[z5] at b;obtain⟨c,_,hc⟩:=lB.1 b;exact(Rd.qi (M:=s.M) hc.symm).cell
          have F:∀ m,(∀ v∈(bh m).map (λq=>z.cells[q % z.cells.size]!),cZ v=ab):=by
           grind [Nat.mod_lt]
          have H:∀ vs:List ak,(∀ v∈vs,cZ v=ab)->dW σ s vs (List.replicate vs.length A.any):=by
           intro vs
           induction vs with
           |nil=>intro _;trivial
           |cons v vs ih=>intro Q;exact⟨Q v (by simp),ih λu R=>Q u (by grind)⟩
          obtain⟨p1,p2⟩:=pS (σ:=σ) (s:=s) hr j;have S:dW σ s ((Array.range (n*ie.size)).map (λq=>z.cells[q % z.cells.size]!)).toList (List.replicate (n*ie.size) A.any):=by
           have:=H _ (F (n*ie.size));simpa using this
          obtain⟨f,u1,u2⟩:=rF (σ:=σ) (s:=s) (place':=λk=>aa (k*ie.size,ie.size)) (λk p hk=>hk) g p1 p2 S
          have u3:=kn l u2;obtain⟨c1,c2⟩:=sW (M:=s.M) (vs:=f.toList) G (by simpa using u3.length) u3.closed
          refine⟨f.toList,c2,eL (qY n (by omega)) J,by omega,?_,?_⟩
          rotate_left
          .simp only[ay,h];exact cO.bind cO.buildSlice (λ_=>cO.pure) _ _
          .have R:=(O t i hi).run_underlying (w:=s.w);rw[Z] at R;have W:(zeroValue E).run P s.w=.ok z s.w:=by simp[zeroValue,typeInfo,z1,z4]
           have d:Instr.fill (λk=>aa (k*ie.size,ie.size)) ((Array.range (n*ie.size)).map (λq=>z.cells[q % z.cells.size]!)) (parts.map λ(i,x)=>(i,ρ x)).toList=aa f:=by simpa using u1
           by_cases h0:n*ie.size=0
           .have Y:n=0:=by grind [Nat.mul_eq_zero]
            subst Y;have B:Array.range 0=#[]:=rfl;simp[B] at d;simp[ay,h,Instr.buildSlice,R,(O E ie L).run_sizeOf,B,d,Go.newRow,St.newRow]
           .rw[show ay ρ o=(do pure (.value (<-Instr.buildSlice t n (parts.map λ(i,x)=>(i,ρ x))))) by simp[ay,h]]
            simp only[Instr.buildSlice,bY,R,b9,(O E ie L).run_sizeOf,h0,cd,W,show ¬n*ie.size>2 ^ 24 by omega,pL,d,cY]
            simp[Go.newRow,St.newRow]
section
variable {P:aq}{X:Cx P}{N:Nat}{Qf:Post}{K:List It}{φ:Fr}{σ:List aV}{all rest:List aw}{o:aw}
def AK.Jm{T:List (Nat×TI)}(x:dg P T){t:ar}{n:Nat}{parts:Array (Nat×an)}(h:o.op=.buildSlice t n parts){k:Nat}{es:List (List C)}{i:TI}{E:ar}(hi:bF T t=aa i)(p:i.desc=.slice E)
  (j:DM T (b5 φ) t n parts.toList=aa (k,es)) (A:o.guard=af) (q:gy N o.dst=ab)
  (kk:AK X N Qf (.ops all rest::K) .normal (lC o.dst (.e (.one (.bp σ.length (.sl n k 0 n)))) φ) (σ++[.buf E k n (λi=>es.getD i [])])):AK X N Qf (.ops all (o::rest)::K) .normal φ σ:=by
 refine AK.hand (ι:=Unit) (λ_=>.e (.one (.bp σ.length (.sl n k 0 n)))) (λ_=>σ++[.buf E k n (λi=>es.getD i [])]) A q (λs a r hh=>?_) λ_=>kk
 obtain⟨f,c,hn,B,g,l⟩:=DL (σ:=σ) (s:=s) (ρ:=a.eval) x h j hi p (λy=>dX r y)
 have u:eP (σ++[.buf E k n (λi=>es.getD i [])]) { s with w:=(s.newRow E f).w,β:=s.β++[⟨.slice (aa ⟨s.w.heap.size,0,af⟩) 0 n,[s.w.heap.size]⟩] } (.buf E k n (λi=>es.getD i [])) ⟨.slice (aa ⟨s.w.heap.size,0,af⟩) 0 n,[s.w.heap.size]⟩:=by
  refine .inr ⟨s.w.heap.size,n,f,[],rfl,by rw[k7];exact dx s.w _,by rw[k7];exact c.len,bg _,by omega,c,λo=>?_⟩
  cases m:s.M s.w.heap.size o with
  |none=>rfl
  |some v=>have:=hh.block m;omega
 have d:aJ σ { s with w:=(s.newRow E f).w }/\Step σ s σ { s with w:=(s.newRow E f).w } :=
  hh.grow (by simp[St.newRow]) (λb hb=>cK s.w _ hb) (λb hb o=>rfl) (λb hb o v m=>by
   have:=hh.block m;omega) rfl rfl rfl
 obtain⟨z,g2⟩:=d.1.gT d.2 rfl hh u (λb hb=>by
   simp at hb;subst hb;exact⟨bg _,by simp[St.newRow]⟩)
 refine⟨(),.value (.slice (aa ⟨s.w.heap.size,0,af⟩) n n),{ s with w:=(s.newRow E f).w,β:=s.β++[⟨.slice (aa ⟨s.w.heap.size,0,af⟩) 0 n,[s.w.heap.size]⟩] },_,g,.inl rfl,?_,z,g2,by rw[l];exact .nil⟩
 refine⟨.slice (aa ⟨s.w.heap.size,0,af⟩) 0 n,⟨_,_,n,n,rfl,bg _,by simp,by omega,rfl,λ_=>⟨_,rfl,by simp⟩⟩,by simp,λD k' n' es' j=>?_⟩
 simp at j;obtain⟨_,_,rfl,_⟩:=j;exact⟨bg _,λ_=>⟨_,by show (s.β++[_])[σ.length]?=_;rw[<-hh.len,List.getElem?_concat_length],rfl⟩⟩
end
def vG(l k n:Nat)(es:Nat->List C):A->A×List Prop
 |.bp l' (.sl g k' o m)=>match aG l' l with
  |true=>match aG k' k with
   |true=>(.c (.sl ae k m (uB o es)),[g=n,o+m<=n])
   |false=>(.bp l' (.sl g k' o m),[])
  |false=>(.bp l' (.sl g k' o m),[])
 |a=>(a,[])
def nZ(l k n:Nat)(es:Nat->List C):List A->List A×List Prop
 |[]=>([],[])
 |a::r=>match vG l k n es a with
  |(a',p)=>match nZ l k n es r with
   |(r',q)=>(a'::r',ko p q)
def DW(l k n:Nat)(es:Nat->List C):E1->E1×List Prop
 |.one a=>match vG l k n es a with|(a',p)=>(.one a',p)
 |.agg cs=>match nZ l k n es cs with|(b,p)=>(.agg b,p)
def DX(l k n:Nat)(es:Nat->List C):D->D×List Prop
 |.e x=>match DW l k n es x with|(a,p)=>(.e a,p)
 |d=>(d,[])
def vH(l k n:Nat)(es:Nat->List C):Fr->Fr×List Prop
 |[]=>([],[])
 |(t,d)::r=>match DX l k n es d with
  |(a,p)=>match vH l k n es r with
   |(r',q)=>((t,a)::r',ko p q)
def gE(l k n:Nat)(es:Nat->List C):Nat->List aV->List aV×List Prop
 |_,[]=>([],[])
 |i,b::r=>match gE l k n es (i+1) r with
  |(r',q)=>match aG i l with
   |true=>(.dead::r',q)
   |false=>match b with
    |.cells E cs=>match nZ l k n es cs with|(a,p)=>(.cells E a::r',ko p q)
    |b=>(b::r',q)
section
variable {σ σ':List aV}{s s2:St}{E l k n:Nat}{es:Nat->List C}
structure jd (σ:List aV)(s:St)(l k n:Nat)(es:Nat->List C)(σ':List aV)(s2:St):Prop where
 eN:∀ v a,gx σ s v a->gx σ' s2 v a
 Jv:∀ v k' o m,gx σ s v (.bp l (.sl n k' o m))->k'=k->o+m<=n->Rd s2.M v (.sl ae k m (uB o es))
def jd.a(h:jd σ s l k n es σ' s2){v:ak}{a:A}(b:ag (vG l k n es a).2)(r:gx σ s v a):gx σ' s2 v (vG l k n es a).1:=by
 unfold vG at b ⊢;split
 .rename_i l' g k' o m
  split
  .rename_i e1
   split
   .rename_i e2
    simp only[e1,e2] at b;have e1:=bX e1;have e2:=bX e2;subst e1;obtain⟨rfl,h2⟩:g=n/\o+m<=n:=b;exact h.Jv v _ _ _ r e2 h2
   .exact h.eN v _ r
  .exact h.eN v _ r
 .exact h.eN v _ r
def jd.ls(h:jd σ s l k n es σ' s2):∀ {vs:List ak}{cs:List A},ag (nZ l k n es cs).2->dW σ s vs cs->dW σ' s2 vs (nZ l k n es cs).1
 |[],[],_,_=>trivial
 |[],_::_,_,r=>r.elim
 |_::_,[],_,r=>r.elim
 |v::vs,c::cs,b,r=>by
  simp only[nZ] at b ⊢;rw[ag.cat] at b;exact⟨h.a b.1 r.1,h.ls b.2 r.2⟩
def jd.e(h:jd σ s l k n es σ' s2){v:ak}{x:E1}(b:ag (DW l k n es x).2)(r:mY σ s v x):mY σ' s2 v (DW l k n es x).1:=by
 cases x with
 |one a=>exact h.a b r
 |agg cs=>obtain⟨vs,f,d⟩:=r;exact⟨vs,f,h.ls b d⟩
def jd.d(h:jd σ s l k n es σ' s2)(hl:s.β.length=σ.length)(b:Ext σ s σ' s2){v:ak}{d:D}(a:ag (DX l k n es d).2)(r:dc σ s v d):dc σ' s2 v (DX l k n es d).1:=by
 cases d with
 |e x=>exact h.e a r
 |eK xs=>exact r.mono b hl
 |any=>trivial
def jd.f(h:jd σ s l k n es σ' s2)(hl:s.β.length=σ.length)(e:Ext σ s σ' s2):∀ {φ:Fr}{t:Nat}{v:ak},ag (vH l k n es φ).2->dc σ s v (look φ t)->dc σ' s2 v (look (vH l k n es φ).1 t)
 |[],_,_,_,_=>trivial
 |(u,d)::r,t,v,b,a=>by
  simp only[vH] at b ⊢;rw[ag.cat] at b;simp only[look] at a ⊢;cases hb:aG u t with
  |true=>rw[hb] at a;exact h.d hl e b.1 a
  |false=>rw[hb] at a;exact h.f hl e b.2 a
theorem qB:∀ {σ:List aV}{i j:Nat},(gE l k n es i σ).1[j]?=match σ[j]? with
  |none=>af
  |some b=>aa (match aG (i+j) l with|true=>.dead|false=>match b with|.cells E cs=>.cells E (nZ l k n es cs).1|b=>b)
 |[],i,j=>by simp[gE]
 |b::r,i,0=>by
  simp only[gE,iO,kX]
  grind
 |b::r,i,j+1=>by
  have a:=qB (σ:=r) (i:=i+1) (j:=j);have e:i+1+j=i+(j+1):=by omega
  rw[e] at a;simp only[gE,mN]
  grind
def vI:∀ {σ:List aV}{i j:Nat}{E:ar}{cs:List A},ag (gE l k n es i σ).2->σ[j]?=aa (.cells E cs)->i+j≠l->ag (nZ l k n es cs).2
 |[],i,j,_,_,_,a,_=>by grind
 |b::r,i,0,E,cs,e,a,d=>by
  simp at a;subst a;simp only[gE] at e
  grind [Nat.eq_of_beq_eq_true,ag.cat]
 |b::r,i,j+1,E,cs,e,a,d=>by
  simp at a;refine vI (σ:=r) (i:=i+1) (j:=j) ?_ a (by omega)
  simp only[gE] at e
  grind [ag.cat]
theorem qC:∀ {σ:List aV}{i:Nat},(gE l k n es i σ).1.length=σ.length
 |[],_=>rfl
 |b::r,i=>by
  simp only[gE];have a:=qC (σ:=r) (i:=i+1)
  grind
def aJ.rO(hh:aJ σ s)(R:σ[l]?=aa (.buf E k n es))(hq:ag (gE l k n es 0 σ).2) :
  ∃ s2:St,s2.w=s.w/\aJ (gE l k n es 0 σ).1 s2/\Step σ s (gE l k n es 0 σ).1 s2/\jd σ s l k n es (gE l k n es 0 σ).1 s2:=by
 have S:l<σ.length:=(cr.1 R).1;have U:s.β[l]?=aa (s.β[l]'(by rw[hh.len];exact S)):=br _
 generalize s.β[l]'(by grind)=L at U
 have G:=hh.box _ _ L R U;obtain⟨M',m1,m2,m3,m4⟩:∃ M':Mem,(∀ b o v,s.M b o=aa v->M' b o=aa v)/\(∀ b,b∉L.bs->∀ o,M' b o=s.M b o)/\(∀ b o v,M' b o=aa v->s.w.cell? ⟨b,o,af⟩=aa v) /\
   (∀ v k' o m,gx σ s v (.bp l (.sl n k' o m))->k'=k->o+m<=n->Rd M' v (.sl ae k m (uB o es))):=by
  rcases G with⟨rfl,rfl⟩|⟨b,c0,vs,zs,rfl,hw,M6,WK,No,Z,hM⟩
  .refine⟨s.M,λ_ _ _ h=>h,λ_ _ _=>rfl,hh.mem,λv k' o m r e A=>?_⟩
   obtain⟨lv,⟨a,a0,cap,c0,D,h1,h2,Q,H,T⟩,_,hx⟩:=r
   grind [Rd.jJ]
  .let M':Mem:=λq o=>if q=b then vs[o]? else s.M q o
   have mm:∀ q o v,s.M q o=aa v->M' q o=aa v:=λq o v D=>by
    grind
   refine⟨M',mm,λq oO o=>?_,λq o v D=>?_,λv k' o m r e A=>?_⟩
   .grind
   .by_cases e:q=b
    .subst e;simp only[M',cu] at D;simp only[a9,hw]
     grind
    .simp only[M',e,cd] at D;exact hh.mem q o v D
   .subst e;obtain⟨lv,⟨a,a0,cap,c1,D,h1,h2,Q,H,T⟩,_,hx⟩:=r;obtain⟨L',f,O⟩:=(hx _ _ _ _ R).2 rfl;rw[U] at f;cases f;rw[H] at O;cases O;rw[D];have g:∀ i,i<m->∀ j c,(uB o es i)[j]?=aa c->∃ u,vs[(o+i)*k'+j]?=aa u/\Rd s.M u c:=λi hi j c hj=>by
     rw[va] at hj;exact Z.rd (o+i) (by omega) j c hj
    refine .sl b (o*k') (λi j=>(vs[(o+i)*k'+j]?).getD aj) h1 (by omega) (by simp) (λi hi=>by rw[va];exact Z.width _ (by omega)) (λhm=>?_) (λi hi j c hj=>?_) (λi hi j c hj=>?_)
    .grind
    .grind
    .obtain⟨u,u1,u2⟩:=g i hi j c hj;rw[u1];exact u2.mono mm
 obtain⟨F,q2⟩:=hh.iP (M':=M') (w':=s.w) (B':=.dead) (L':=⟨L.v,[]⟩) R U av (bg _) (λ_ _ _=>rfl) (λb _ hb o=>m2 b hb o) m1 m3 (by simp) rfl rfl rfl av
 let s2:St:=⟨s.β.set l ⟨L.v,[]⟩,M',s.w,s.own⟩
 have g:∀ i B,σ[i]?=aa B->i≠l->(gE l k n es 0 σ).1[i]?=aa (match B with|.cells E cs=>.cells E (nZ l k n es cs).1|b=>b):=λi B hi Bq=>by
  grind [qB,Nat.eq_of_beq_eq_true]
 have J:(gE l k n es 0 σ).1[l]?=aa .dead:=by
  rw[qB,R];have:aG (0+l) l=ab:=by rw[bt];exact iN l
  grind
 have vJ:Step (σ.set l .dead) s2 (gE l k n es 0 σ).1 s2:=by
  refine⟨bg _,λ_ _ _=>rfl,λ_ _ _ h=>h,λ_ _ _ _=>rfl,λL' f b hb=>.inr ⟨L',f,hb⟩,λi B L' hi f=>?_,rfl,rfl,rfl,rfl⟩
  by_cases e:i=l
  .subst e;rw[fI S] at hi;cases hi;exact⟨.dead,L',J,f,rfl⟩
  .rw[iL (λh=>e h.symm)] at hi
   refine⟨_,L',g i B hi e,f,?_⟩;cases B <;> first|exact ij.refl _ _|rfl
 have st:=q2.trans vJ;have hc:jd σ s l k n es (gE l k n es 0 σ).1 s2:=⟨λv a r=>r.mono st.ext hh.len,λv k' o m r e A=>m4 v k' o m r e A⟩
 refine⟨s2,rfl,⟨F.mem,by rw[qC,<-hh.len];grind,λi B L' hi f=>?_,F.gg,F.lt,F.own⟩,st,hc⟩
 by_cases e:i=l
 .subst e;rw[J] at hi;cases hi;trivial
 .have z:i<σ.length:=by
   grind [qC]
  have x:=br z;have V:s.β[i]?=aa L':=by grind
  have Y:=hh.box i _ L' x V;have p:=F.box i _ L' (by rw[iL (λh=>e h.symm)];exact x) f
  have d:=g i _ x e;rw[hi] at d;have d:=uV d;generalize hBe:σ[i]=B0 at *;cases B0 with
  |cells E0 cs =>
   subst d;obtain⟨b,vs,h1,h2,Q,T⟩:=Y;obtain⟨q,vF,I,WW,_,W⟩:=p;rw[h1] at I;cases I;exact⟨b,vs,h1,h2,hc.ls (vI hq x (by omega)) Q,W⟩
  |vec=>subst d;exact p
  |dD=>subst d;exact p
  |dead=>subst d;trivial
  |loop N φ r =>
   subst d;obtain⟨l1,tmps,fn,df,h1,h2,Q,T,h5⟩:=p;exact⟨l1,tmps,fn,df,h1,h2,Q,λt=>(T t).mono vJ.ext F.len,h5⟩
  |qV=>subst d;exact p
  |buf=>subst d;exact p
end
section
variable {P:aq}{X:Cx P}{N:Nat}{Qf:Post}{K:List It}{φ y:Fr}{σ σ':List aV}{c:Code}
def AK.rO(l:Nat){E k n:Nat}{es:Nat->List C}{ps qs:List Prop}(hl:fw l σ=aa (.buf E k n es))(i:vH l k n es φ=(y,ps))(e:gE l k n es 0 σ=(σ',qs))(j:ag ps)(m:ag qs)
  (kk:AK X N Qf (.code c::K) .normal y σ'):AK X N Qf (.code c::K) .normal φ σ:=by
 refine AK.ghost (λs a d hh=>?_) kk
 obtain⟨s2,h1,h2,b,g⟩:=hh.rO (dz hl) (by grind)
 rw[e] at h2 b g;refine⟨s2,h1,⟨d.size,d.defers.imp λ_ h=>h.mono b.ext,λt=>?_⟩,h2,b⟩
 have:=g.f hh.len b.ext (φ:=φ) (t:=t) (by grind) (d.slot t)
 grind
end
end
end Go.AM
namespace Go.AM.R1
section
open Go.Proofs
section
variable {X:Cx ah}
abbrev KpI:={ q:List Int // q.length<=5 }
def IP(m:Nat)(b:Nat->Int)(l:Bytes b)(k:Nat)(p:k<=500000)(i:m<=1048576) :
  cM (ι:=KpI) X 60 [.e (.one (.ptr 0 0))] [lx m b k] (λq=>cI.sl q.1) (λ_=>[lx m b (k+5:Nat)]):=by
 refine cM.oy Tryz.func60 rfl rfl rfl λo=>?_
 refine aX [(1000002,ab)] 100 rfl av ?_;refine AK.iu 3 3 1 rfl rfl ?_;refine bk rfl av ?_;refine AK.bP 2 (λs:Nat×List Int=>1<=s.1/\s.1<=6/\s.2.length+1<=s.1) (λs=>[(0,.e (.one (.ptr 0 0))),(3,.e (.one (.vec 1 1 s.2.length (cI.fn s.2)))),(4,dI s.1)]) (λs=>[lx m b (k+(s.1-1):Nat),.vec 3 1 s.2.length (cI.fn s.2)]) (λs=>6-s.1) (1,[]) rfl ?_ rfl ?_ rfl ⟨by decide,by decide,by decide⟩ ?_
 .simp[ag.cat,ag,aP.nil]
 .simp[ag.cat,ag,aP.same,aP.nil]
 rintro⟨n,a⟩ ⟨g,j,f⟩;simp only at g j f
 by_cases h:n<=5
 .refine aX [(7,ab)] 100 rfl (by simp only[ag,ba];omega) ?_
  refine AK.cP (eu m b l (k+(n-1)) 2 (by omega) i (by omega)) [0] rfl (λ_=>rfl) ?_
  rintro⟨v,v0,v1⟩
  by_cases d:v=0
  .have c:=cI.cq a (n:Int);refine aX [(12,ab)] 100 rfl ?_ (AK.aQ (n+1,a++[(n:Int)]) rfl ?_ ?_ ⟨by simp only;omega,by simp only;omega,by grind⟩ (by simp only;omega))
   .simp only[ag,d,bx,show i3.bytes=8 from rfl,eB,aF,aE];and_intros <;> omega
   .simp only[ag.cat,ag,bR,er,aF,aE]
    and_intros <;> first|exact aP.same|exact c|rfl|omega
   .simp only[ag.cat,ag,bR,er,aF,aE]
    and_intros <;> first|exact aP.same|exact c|rfl|omega
  .refine aX [(12,ae)] 100 rfl ?_ (AK.aQ (n+1,a) rfl ?_ ?_ ⟨by simp only;omega,by simp only;omega,by simp only;omega⟩ (by simp only;omega))
   .simp only[ag,bx,dt,cW,aF,aE];and_intros <;> first|exact d|omega
   .simp only[ag.cat,ag,aF,aE]
    and_intros <;> first|exact aP.same|rfl|omega
   .simp only[ag.cat,ag,aF,aE]
    and_intros <;> first|exact aP.same|rfl|omega
 obtain rfl:n=6:=by omega
 refine aX [(7,ae)] 100 rfl (by simp[ag]) (AK.leaveD rfl rfl ?_)
 refine bk rfl av ?_;refine AK.lh ⟨a,by omega⟩ (AK.dJ [0] rfl ?_ rfl rfl rfl wU)
 simp[ag.cat,ag,aP.same]
def Bh:List Bs:=[[122,122],[98,46],[104,101,108,108,111,46,46,46]]
def IQ:aP 3 (λi=>([[.str [122,122]],[.str [98,46]],[.str [104,101,108,108,111,46,46,46]]]:List (List C)).getD i []) (cS.fn Bh):=by
 intro i hi;have:i=0∨i=1∨i=2:=by omega
 rcases this with rfl|rfl|rfl <;> rfl
set_option maxRecDepth 20000 in
def MV(m:Nat)(b:Nat->Int)(c:Bytes b)(k:Nat)(h:k<=500000)(a:m<=1048576) :
  cM (ι:=c8) X 59 [.e (.one (.ptr 0 0))] [lx m b k] (λl=>gh l) (λ_=>[lx m b (k+4:Nat)]):=by
 refine cM.ga tok Tryz.func59 rfl rfl rfl λg=>?_
 refine bk rfl av ?_;refine AK.cP (eu m b c k 5 (by omega) a (by omega)) [0] rfl (λ_=>rfl) ?_
 rintro⟨v1,_⟩;refine bk rfl av ?_;refine AK.cP (eu m b c (k+1) 5 (by omega) a (by omega)) [0] rfl (λ_=>rfl) ?_
 rintro⟨d,_⟩;refine bk rfl av ?_;refine AK.cP (eu m b c (k+1+1) 3 (by omega) a (by omega)) [0] rfl (λ_=>rfl) ?_
 rintro⟨f,_⟩;refine bk rfl av ?_;refine AK.mr (Sf m b c (k+1+1+1) (by omega) a Bh (by decide)).Bm [0] rfl rfl rfl rfl ?_ rfl rfl rfl (λ_=>rfl) rfl (λ_=>rfl) rfl ?_
 .simp only[ag.cat,ag,aF,aE];exact⟨rfl,IQ⟩
 rintro -;generalize Bh.getD (oz m b (k+1+1+1) Bh.length).toNat []=w;refine bk rfl av ?_;refine AK.dE (v1,d,f,w) [0] rfl rfl rfl rfl rfl rfl rfl rfl ?_ rfl rfl rfl rfl g7;simp[ag.cat,ag]
end
end
end Go.AM.R1
namespace Go.AM
section
open Go.Conc (G)
def aJ.BE{σ1:List aV}{s:St}{E:ar}{k n:Nat}{bf:qW}{xs:List ak}{es:Nat->List C}(hh:aJ (σ1++[.dD (hU E k bf n xs)]) s)(a:ee k n es xs)(h:rN σ1.length σ1=ab) :
  ∃ s2:St,aJ σ1 s2/\eR s s2/\Rd s2.M (lD bf n) (.sl ae k n es)/\∀ {σ0:List aV} {s0:St},cD σ0 s0 (σ1++[.dD (hU E k bf n xs)]) s->σ0.length<=σ1.length->cD σ0 s0 σ1 s2:=by
 have l:(σ1++[aV.dD (hU E k bf n xs)])[σ1.length]?=aa (.dD (hU E k bf n xs)):=by simp
 obtain⟨L,M',z,p,t,r,D,A⟩:=hU.FG l es (λi hi=>⟨a.wid i hi,λM j c x hj hx=>by
  obtain⟨y,u,B⟩:=a.at' i hi j c hj;rw[hx] at u;cases u;exact B M⟩) s hh
 obtain⟨m,q⟩:=hh.iP (M':=M') (w':=s.w) (B':=.dead) (L':=⟨L.v,[]⟩) l z rfl (bg _) (λ_ _ _=>rfl) (λb _ hb o=>t b hb o) p r (by simp) rfl rfl rfl av
 have d:(σ1++[aV.dD (hU E k bf n xs)]).set σ1.length .dead=σ1++[.dead]:=by simp
 rw[d] at m q;refine⟨_,m.drop (rest:=[.dead]) h,⟨rfl,p,λb hb o=>t b (hb L (bU z)) o,r,λb hb=>?_⟩,A,λ{σ0 s0} e f=>(e.trans (q.oG hh)).drop (rest:=[.dead]) f⟩
 rcases hb with hb|⟨L',g,hb⟩
 .exact .inl hb
 .have h1:=iK g
  grind
def cM.BE{P:aq}{ι:Type}{X:Cx P}{f:aW}{args:List D}{σ:List aV}{σ1:ι->List aV}{E k:Nat}{n:ι->Nat}{bf:ι->qW}{xs:ι->List ak}{es:ι->Nat->List C}(h:cM X f args σ (λi=>.e (.one (.v (lD (bf i) (n i))))) (λi=>σ1 i++[.dD (hU E k (bf i) (n i) (xs i))]))
  (b:∀ i,ee k (n i) (es i) (xs i)) (d:∀ i,rN (σ1 i).length (σ1 i)=ab) (a:∀ i,σ.length<=(σ1 i).length):cM X f args σ (λi=>.e (.one (.c (.sl ae k (n i) (es i))))) σ1:=by
 refine⟨h.1,λs vs hr hh S cs hS=>h.2 s vs hr hh S cs λi fr v s' hl mQ lb st=>?_⟩
 obtain⟨s2,c1,c2,c3,c4⟩:=lb.BE (b i) (d i);have g:v=lD (bf i) (n i):=Rd.fZ mQ;exact .ghost c2 (hS i fr v s2 (hl.mono c2.mem) (by rw[g];exact c3) c1 (c4 st (a i)))
end
end Go.AM
namespace Go.AM.R1
section
open Go.Proofs
variable {X:Cx ah} [X.jr]
abbrev iU:=Int×Int×List bC×c8×List Int
abbrev evA(e:iU):List A:=[.c (.int .i64 e.1),.c (.int .i64 e.2.1),qR cF e.2.2.1,.c (.int .i64 e.2.2.2.1.1),.c (.int .i64 e.2.2.2.1.2.1),.c (.int .i64 e.2.2.2.1.2.2.1),.c (.str e.2.2.2.1.2.2.2),qR cI e.2.2.2.2]
abbrev Wt(e:iU):D:=.e (.agg (evA e))
abbrev Zt:List A:=[.c (.int .i64 0),.c (.int .i64 0),dr,.c (.int .i64 0),.c (.int .i64 0),.c (.int .i64 0),.c (.str []),dr]
abbrev Zu:aV:=.cells 79 Zt
abbrev yb:c8:=(0,0,0,[])
structure EvP (k:Nat)(q:iU×Nat):Prop where
 t:q.1.2.2.1.length<=7
 kp:q.1.2.2.2.2.length<=5
 lo:k<=q.2
 hi:q.2<=k+500
def MW(m:Nat)(b:Nat->Int)(h:Bytes b)(k:Nat)(a:k<=50000)(l:m<=1048576) :
  cM (ι:=C6 k 400) X 58 [.e (.one (.ptr 0 0))] [lx m b k] (λq=>cF.sl q.t) (λq=>[lx m b q.k1]) :=
 cM.BE (σ1:=λq:C6 k 400=>[lx m b q.k1]) (k:=2) (n:=λq:C6 k 400=>q.t.length) (es:=λq:C6 k 400=>cF.fn q.t) (Pb m b h k a l) (λq=>q.fl) (λ_=>rfl) (λ_=>bg _)
set_option maxRecDepth 20000 in
def Fq(m:Nat)(b:Nat->Int)(o:Bytes b)(k:Nat)(a:k<=40000)(n:m<=1048576) :
  cM (ι:={ q:iU×Nat // EvP k q }) X 33 [.e (.one (.ptr 0 0))] [lx m b k] (λq=>Wt q.1.1) (λq=>[lx m b q.1.2]):=by
 refine cM.ga tok Tryz.func33 rfl rfl rfl λf=>?_
 refine bk rfl av ?_;refine AK.cP (eu m b o k 9 (by omega) n (by omega)) [0] rfl (λ_=>rfl) ?_
 rintro⟨v,v0,v1⟩
 by_cases h:v<=3
 .apply AK.join [(0,.e (.one (.ptr 0 0))),(2,.e (.one (.ptr 1 0)))] [lx m b (k+1:Nat),Zu]
  .intro out;have:v=0∨v=1∨v=2∨v=3:=by omega
   rcases this with rfl|rfl|rfl|rfl
   .refine aX [(6,ab),(1000006,ab)] 100 rfl (by simp[ag]) ?_
    exact out _ _ rfl (by simp[ag.cat,ag])
   .refine aX [(6,ae),(7,ab),(1000006,ab)] 100 rfl (by simp[ag]) ?_
    exact out _ _ rfl (by simp[ag.cat,ag])
   .refine aX [(6,ae),(7,ae),(8,ab),(1000006,ab)] 100 rfl (by simp[ag]) ?_
    exact out _ _ rfl (by simp[ag.cat,ag])
   .refine aX [(6,ae),(7,ae),(8,ae),(9,ab),(1000006,ab)] 100 rfl (by simp[ag]) ?_
    exact out _ _ rfl (by simp[ag.cat,ag])
  refine bk rfl av ?_;refine AK.cP (eu m b o (k+1) 2 (by omega) n (by omega)) [0] rfl (λ_=>rfl) ?_
  rintro⟨u,p,r⟩;refine bk rfl (by simp only[ag,bx];omega) ?_
  refine AK.cP (MW m b o (k+1+1) (by omega) n) [0] rfl (λ_=>rfl) ?_
  rintro⟨t,bf,xs,k1,D,C,E,G⟩;simp only;refine bk rfl av ?_;refine AK.dE ⟨((1,1+u,t,yb,[]),k1),C,by simp,by grind,by grind⟩ [0] rfl rfl rfl rfl rfl rfl rfl rfl ?_ rfl rfl rfl rfl g7
  simp[ag.cat,ag,aP.same,aP.nil]
 by_cases y:v=4
 .subst y;refine aX [(6,ae),(7,ae),(8,ae),(9,ae),(17,ab)] 100 rfl (by simp[ag]) ?_
  refine AK.cP (eu m b o (k+1) 4 (by omega) n (by omega)) [0] rfl (λ_=>rfl) ?_
  rintro⟨u,p,r⟩;refine bk rfl av ?_;refine AK.dE ⟨((2,u,[],yb,[]),k+1+1),by simp,by simp,by grind,by grind⟩ [0] rfl rfl rfl rfl rfl rfl rfl rfl ?_ rfl rfl rfl rfl g7
  simp[ag.cat,ag,aP.nil]
 by_cases x:v=5
 .subst x;refine aX [(6,ae),(7,ae),(8,ae),(9,ae),(17,ae),(22,ab)] 100 rfl (by simp[ag]) ?_
  refine AK.cP (eu m b o (k+1) 2 (by omega) n (by omega)) [0] rfl (λ_=>rfl) ?_
  rintro⟨u,p,r⟩
  by_cases w:u=0
  .refine aX [(25,ab)] 100 rfl (by simp[ag,w]) ?_
   refine AK.dE ⟨((3,0,[],yb,[]),k+1+1),by simp,by simp,by grind,by grind⟩ [0] rfl rfl rfl rfl rfl rfl rfl rfl ?_ rfl rfl rfl rfl g7
   simp[ag.cat,ag,aP.nil]
  .refine aX [(25,ae)] 100 rfl (by simp[ag,w]) ?_
   refine AK.cP (MV m b o (k+1+1) (by omega) n) [0] rfl (λ_=>rfl) ?_
   intro l;refine bk rfl av ?_;refine AK.dE ⟨((3,0,[],l,[]),k+1+1+4),by simp,by simp,by grind,by grind⟩ [0] rfl rfl rfl rfl rfl rfl rfl rfl ?_ rfl rfl rfl rfl g7
   simp[ag.cat,ag,aP.nil]
 by_cases A:v=6
 .subst A;refine aX [(6,ae),(7,ae),(8,ae),(9,ae),(17,ae),(22,ae),(31,ab)] 100 rfl (by simp[ag]) ?_
  refine AK.cP (IP m b o (k+1) (by omega) n) [0] rfl (λ_=>rfl) ?_
  rintro⟨z,s⟩;refine bk rfl av ?_;refine AK.dE ⟨((4,0,[],yb,z),k+1+5),by simp,s,by grind,by grind⟩ [0] rfl rfl rfl rfl rfl rfl rfl rfl ?_ rfl rfl rfl rfl g7
  simp[ag.cat,ag,aP.same,aP.nil]
 by_cases B:v=7
 .subst B;refine aX [(6,ae),(7,ae),(8,ae),(9,ae),(17,ae),(22,ae),(31,ae),(36,ab)] 100 rfl (by simp[ag]) ?_
  refine AK.dE ⟨((5,0,[],yb,[]),k+1),by simp,by simp,by grind,by grind⟩ [0] rfl rfl rfl rfl rfl rfl rfl rfl ?_ rfl rfl rfl rfl g7
  simp[ag.cat,ag,aP.nil]
 obtain rfl:v=8:=by omega
 refine aX [(6,ae),(7,ae),(8,ae),(9,ae),(17,ae),(22,ae),(31,ae),(36,ae)] 100 rfl (by simp[ag]) ?_
 refine AK.cP (eu m b o (k+1) 8 (by omega) n (by omega)) [0] rfl (λ_=>rfl) ?_
 rintro⟨u,p,r⟩;refine bk rfl av ?_;refine AK.cP (eu m b o (k+1+1) 4 (by omega) n (by omega)) [0] rfl (λ_=>rfl) ?_
 rintro⟨u',F,u3⟩;refine bk rfl av ?_;refine AK.dE ⟨((u,u',[],yb,[]),k+1+1+1),by simp,by simp,by grind,by grind⟩ [0] rfl rfl rfl rfl rfl rfl rfl rfl ?_ rfl rfl rfl rfl g7
 simp[ag.cat,ag,aP.nil]
abbrev DC(k:Int)(w:cN)(l:c8)(b:Nat):List A:=.c (.int .i64 k)::(Vr w++[.c (.int .i64 l.1),.c (.int .i64 l.2.1),.c (.int .i64 l.2.2.1),.c (.str l.2.2.2),.bp b (.sl 2 2 0 2),.bp (b+1) (.sl 2 1 0 2)])
abbrev S9(b:List (Int×Int))(e:List Int):List aV:=[.buf 46 2 2 (cH.fn b),.buf 3 1 2 (cI.fn e)]
abbrev Zq:List (Int×Int):=[(0,0),(0,0)]
abbrev Zr:List Int:=[0,0]
omit [X.jr] in
def Be(k:Int)(a:ck k=ab):Ev X 31 [dI k] [] (.eK [.agg (DC k Nj yb 0),.one (.c (.bool ab))]) (S9 Zq Zr):=by
 refine Ev.iv tok Tryz.func31 rfl rfl rfl λf=>?_
 have d:bD X [(35,ui)]:=.cons xa .nil;refine aC d [(7,ae),(1000003,ab)] 100 rfl (by simp[ag,a]) ?_
 refine AK.region ?_;refine aC d [] 3 rfl av ?_;refine AK.Jm tok rfl rfl rfl rfl rfl rfl ?_;refine AK.Jm tok rfl rfl rfl rfl rfl rfl ?_;refine aC d [] 100 rfl av ?_;refine AK.norm [.cells 35 (DC k Nj yb 1),.buf 46 2 2 (cH.fn Zq),.buf 3 1 2 (cI.fn Zr),.cells 35 (DC k Nj yb 1)] rfl ?_ ?_
 .simp only[ag.cat,ag,aF,aE]
  and_intros <;> first|rfl|exact aP.nil|(intro i hi;match i,hi with|0,_=>rfl|1,_=>rfl)
 refine AK.l3 () [1,2] rfl rfl rfl rfl rfl rfl rfl rfl rfl ?_ rfl rfl rfl rfl (λj g=>absurd g (by simp))
 simp[ag.cat,ag,aP.same]
end
section
open Go.Proofs
variable {X:Cx ah}
def lz:∀ j,j<2->([0,1]:List Nat)[j]?=aa j:=λj a=>by
 match j,a with
 |0,_=>rfl
 |1,_=>rfl
def lookW(by_:Int)(s:aZ)(l:c8)(q:List (Int×Int)×List Int):List (Int×Int)×List Int :=
 if q.2.getD (by_-1).toNat 0=0 then (q.1.set (by_-1).toNat (jX (q.1.getD (by_-1).toNat (0,0)) (tM s l).2.2).1,q.2.set (by_-1).toNat (jX (q.1.getD (by_-1).toNat (0,0)) (tM s l).2.2).2) else q
def qh{by_:Int}{s:aZ}{l:c8}{q:List (Int×Int)×List Int}(a:q.1.length=2)(b:q.2.length=2):(lookW by_ s l q).1.length=2/\(lookW by_ s l q).2.length=2:=by
 unfold lookW;split <;> simp[a,b]
abbrev zMm:aV:=.cells 46 [.c (.int .i64 0),.c (.int .i64 0)]
abbrev Zv(m:Int×Int):aV:=.cells 46 [.c (.int .i64 m.1),.c (.int .i64 m.2)]
abbrev Zw:List A:=[.c (.int .i64 0),dr,dr,dr,dr,dr,.c (.int .i64 0),.c (.int .i64 0),.c (.int .i64 0),.c (.str []),dr,dr]
abbrev oq:aV:=.cells 35 Zw
def dLk(k:Int)(w:cN)(l:c8)(a:List (Int×Int))(b:List Int)(e:Int×Int)(_ c d:Bool):List aV :=
 match c,d with
 |false,_=>S9 a b++[.cells 35 (DC k w l 0),oq]
 |true,ae=>S9 a b++[.cells 35 (DC k w l 0),oq,zMm]
 |true,ab=>S9 a b++[.cells 35 (DC k w l 0),oq,Zv e]
abbrev xLk(w:cN)(l:c8) (by_:Int)(m:Int×Int)(s':aZ)(q:(Int×Int)×Int)(i:Nat):D :=
 [.e (.one (.ptr 2 10)),.e (.one (.bp 0 (.sl 2 2 0 2))),dI by_,dI (by_-1),.e (.one (.bp 0 (.el 2 2 (0+(by_-1).toNat) 0))),Ft m,.e (.one (.ptr 2 1)),.e (.one (.ptr 2 1)),eH w.1,.e (.one (.ptr 2 6)),gh l,eH s',cH.sl s'.2.2,S7 q,S7 q,Ft q.1,dI q.2,.e (.one (.ptr 4 0)),.any,dI q.2].getD i .any
set_option maxRecDepth 20000 in
def tL(k:Int)(w:cN)(l:c8) (by_:Int)(g:List (Int×Int))(i:List Int)(s:w7 w.1)(F:1<=by_/\by_<=2)(C:g.length=2)(y:i.length=2) :
  Ev X 55 [.e (.agg (DC k w l 0)),dI by_] (S9 g i) (.e (.agg (DC k w l 0))) (S9 (lookW by_ w.1 l (g,i)).1 (lookW by_ w.1 l (g,i)).2):=by
 refine Ev.iv tok Tryz.func55 rfl rfl rfl λG=>?_
 have u:=(zg (X:=X) s l).z.h;have A:=(zg (X:=X) s l).b;unfold lookW;generalize tM w.1 l=s' at *;have E:(by_-1).toNat<2:=by omega
 have p:(0:Nat)+(by_-1).toNat<2:=by omega
 have x:g.getD (by_-1).toNat (0,0)=g.getD (0+(by_-1).toNat) cH.bE:=by rw[bt];rfl
 have B:(g.getD (0+(by_-1).toNat) cH.bE)=(g.getD (0+(by_-1).toNat) cH.bE):=rfl;rw[x];have t:=GK (X:=X) (g.getD (0+(by_-1).toNat) cH.bE) s'.2.2 u;generalize jX (g.getD (0+(by_-1).toNat) cH.bE) s'.2.2=q at *;have f:bD X [(17,iZ [eH w.1,gh l] (eH s')),(36,iZ [Ft (g.getD (0+(by_-1).toNat) cH.bE),cH.sl s'.2.2] (S7 q))]:=.cons (jC A) (.cons (jC t) .nil);have o:bx .i64 (by_-1):=by simp only[bx];omega
 have v:0<=by_-1/\by_-1<((2:Nat):Int):=by omega
 have r:2=2/\0+(by_-1).toNat<2:=⟨rfl,p⟩;refine aC f [(1000001,ab)] 200 rfl av ?_;refine AK.flags ei (xLk w l by_ (g.getD (0+(by_-1).toNat) cH.bE) s' q) (wT (dLk k w l g i q.1) 19 17 18) rfl rfl rfl rfl
  ⟨bZ.q3 rfl rfl rfl (λa c d=>by cases a <;> cases c <;> cases d <;> exact OA.bT tok f rfl),
  bZ.q3 rfl rfl rfl (λa c d=>by cases a <;> cases c <;> cases d <;> exact OA.bT tok f rfl),
  bZ.q3 rfl rfl rfl (λa c d=>by cases a <;> cases c <;> cases d <;> exact OA.bT tok f rfl),
  bZ.q3 rfl rfl rfl (λa c d=>by cases a <;> cases c <;> cases d <;> exact OA.eval (ds:=[]) tok f rfl o),
  bZ.q3 rfl rfl rfl (λa c d=>by cases a <;> cases c <;> cases d <;> exact OA.eval (ds:=[]) tok f rfl v),
  bZ.q3 rfl rfl rfl (λa c d=>by cases a <;> cases c <;> cases d <;> exact OA.eval (ds:=[]) tok f rfl r),
  bZ.q3 rfl rfl rfl (λa c d=>by cases a <;> cases c <;> cases d <;> exact OA.bT tok f rfl),
  bZ.q3 rfl rfl rfl (λa c d=>by cases a <;> cases c <;> cases d <;> exact OA.bT tok f rfl),
  bZ.q3 rfl rfl rfl (λa c d=>by cases a <;> cases c <;> cases d <;> exact OA.bT tok f rfl),
  bZ.q3 rfl rfl rfl (λa c d=>by cases a <;> cases c <;> cases d <;> exact OA.bT tok f rfl),
  bZ.q3 rfl rfl rfl (λa c d=>by cases a <;> cases c <;> cases d <;> exact OA.bT tok f rfl),
  bZ.q3 rfl rfl rfl (λa c d=>by cases a <;> cases c <;> cases d <;> exact OA.eval (ds:=[]) tok f rfl rfl),
  bZ.q3 rfl rfl rfl (λa c d=>by cases a <;> cases c <;> cases d <;> exact OA.bT tok f rfl),
  bZ.q3 rfl rfl rfl (λa c d=>by cases a <;> cases c <;> cases d <;> exact OA.eval (ds:=[]) tok f rfl rfl),
  bZ.q3 rfl rfl rfl (λa c d=>by cases a <;> cases c <;> cases d <;> exact OA.bT tok f rfl),
  bZ.q3 rfl rfl rfl (λa c d=>by cases a <;> cases c <;> cases d <;> exact OA.bT tok f rfl),
  bZ.q3 rfl rfl rfl (λa c d=>by cases a <;> cases c <;> cases d <;> exact OA.bT tok f rfl),
  bZ.e2 rfl rfl rfl rfl rfl (λa=>by cases a <;> exact en (ds:=[]) tok f (σ':=aa _) rfl av),
  bZ.e3 rfl rfl rfl rfl rfl (λa=>by cases a <;> exact en (ds:=[]) tok f (σ':=aa _) rfl av),
  bZ.e1 rfl rfl rfl rfl (λc d=>by cases c <;> cases d <;> exact OA.bT tok f rfl),av⟩ ?_
 intro D j;show AK X _ _ _ _ _ (dLk k w l g i q.1 (D 19) (D 17) (D 18));rw[j 19 (by decide),j 17 (by decide),j 18 (by decide)]
 have m:i.getD (0+(by_-1).toNat) cI.bE=i.getD (by_-1).toNat 0:=by rw[bt];rfl
 by_cases n:i.getD (by_-1).toNat 0=0
 .rw[bd n];refine aC f [(30,ab)] 200 rfl ?_ ?_
  .simp only[ag,m,n,bx,eB,aF,aE];omega
  have e1:=cH.qM g (0+(by_-1).toNat) q.1 2 (by omega)
  have e2:=cI.qM i (0+(by_-1).toNat) q.2 2 (by omega)
  rw[bt] at e1 e2;refine AK.norm [.buf 46 2 2 (cH.fn (g.set (by_-1).toNat q.1)),.buf 3 1 2 (cI.fn (i.set (by_-1).toNat q.2)),.cells 35 (DC k w l 0),.cells 35 (DC k w l 0),Zv q.1] rfl ?_ ?_
  .simp only[ag.cat,ag,bt,aF,aE]
   and_intros <;> first|exact aP.same|exact e1|exact e2|rfl
  refine AK.dE () [0,1] rfl rfl rfl rfl rfl rfl rfl rfl ?_ rfl rfl rfl rfl lz;simp[ag.cat,ag,aP.same]
 .rw[aY n];refine aC f [(30,ae)] 200 rfl ?_ ?_
  .simp only[ag,m,bx,dt,cW,aF,aE];and_intros <;> first|exact n|omega
  refine AK.dE () [0,1] rfl rfl rfl rfl rfl rfl rfl rfl ?_ rfl rfl rfl rfl lz;simp[ag.cat,ag,aP.same]
abbrev ya:=cN×c8×List (Int×Int)×List Int
def xz(k:Int)(s:ya) (by_:Int)(t:List bC):ya×Bool :=
 if (lookW by_ s.1.1 s.2.1 s.2.2).2.getD (by_-1).toNat 0=0/\s.2.1.1=0 then
  (if (sL k s.1 by_ t).2=ab then (((sL k s.1 by_ t).1,s.2.1,lookW by_ (sL k s.1 by_ t).1.1 s.2.1 (lookW by_ s.1.1 s.2.1 s.2.2)),ab) else ((s.1,s.2.1,lookW by_ s.1.1 s.2.1 s.2.2),ae))
 else ((s.1,s.2.1,lookW by_ s.1.1 s.2.1 s.2.2),ae)
def vm(k:Int)(s:ya)(e:iU):ya×Bool :=
 if e.1=1 then (if (1<=e.2.1/\e.2.1<=2)/\dq e.2.2.1=ab then xz k s e.2.1 e.2.2.1 else (s,ae))
 else if e.1=2 then (if 1<=e.2.1/\e.2.1<=2 then ((s.1,s.2.1,lookW e.2.1 s.1.1 s.2.1 s.2.2),ab) else (s,ae))
 else if e.1=3 then ((s.1,e.2.2.2.1,s.2.2),ab)
 else if e.1=4 then (if s.1.2.2.length=0 then (((Dj k s.1.1 e.2.2.2.2).1,s.2),ab) else (s,ae))
 else if e.1=5 then ((A5 s.1,s.2),VK s.1)
 else (s,ae)
structure WI (n:Nat)(s:ya):Prop where
 w:TW (6000+240*n) s.1
 k:s.2.2.1.length=2
 f:s.2.2.2.length=2
def GL{k:Int}{n:Nat}{w:cN}{by_:Int}{t:List bC}(h:TW n w)(b:(sL k w by_ t).2=ab):TW (n+240) (sL k w by_ t).1/\(sL k w by_ t).1=Dk k w by_ t/\fC k w=ab/\(1<=by_/\by_<=2)/\dq t=ab/\j0 k w.1 t=ae:=by
 unfold sL at b ⊢;split at b
 .rename_i a
  rw[bd a];simp only[S8,bL,ba] at a;split at b
  .cases b
  .rename_i c
   have c:j0 k w.1 t=ae:=by simpa using c
   rw[aY (by rw[c];simp)]
   exact⟨h.save a.2 a.1.2 c,rfl,a.1.1,a.1.2,a.2,c⟩
 .cases b
def WI.save{k:Int}{n:Nat}{s:ya}{by_:Int}{t:List bC}(h:WI n s):WI (n+1) (xz k s by_ t).1:=by
 have a:=qh (by_:=by_) (s:=s.1.1) (l:=s.2.1) (q:=s.2.2) h.k h.f;unfold xz;split
 .split
  .rename_i c
   have b:=qh (by_:=by_) (s:=(sL k s.1 by_ t).1.1) (l:=s.2.1) (q:=lookW by_ s.1.1 s.2.1 s.2.2) a.1 a.2;exact⟨(GL h.w c).1.mono (by omega),b.1,b.2⟩
  .exact⟨h.w.mono (by omega),a.1,a.2⟩
 .exact⟨h.w.mono (by omega),a.1,a.2⟩
def WI.mono{n m:Nat}{s:ya}(h:WI n s)(a:n<=m):WI m s:=⟨h.w.mono (by omega),h.k,h.f⟩
def WI.do{k:Int}{n:Nat}{s:ya}{e:iU}(h:WI n s):WI (n+1) (vm k s e).1:=by
 unfold vm;split
 .split
  .exact h.save
  .exact h.mono (by omega)
 split
 .split
  .have a:=qh (by_:=e.2.1) (s:=s.1.1) (l:=s.2.1) (q:=s.2.2) h.k h.f;exact⟨h.w.mono (by omega),a.1,a.2⟩
  .exact h.mono (by omega)
 split
 .exact⟨h.w.mono (by omega),h.k,h.f⟩
 split
 .split
  .exact⟨(TW.beg h.w.s).mono (by omega),h.k,h.f⟩
  .exact h.mono (by omega)
 split
 .exact⟨(TW.step h.w).mono (by omega),h.k,h.f⟩
 .exact h.mono (by omega)
abbrev Zk(k:Int)(s:ya):D:=.e (.agg (DC k s.1 s.2.1 0))
abbrev Zl(k:Int)(s:ya)(b:Bool):D:=.eK [.agg (DC k s.1 s.2.1 0),.one (.c (.bool b))]
abbrev GI(s:ya):List aV:=S9 s.2.2.1 s.2.2.2
def IH(k:Int)(s:ya) (by_:Int)(t:List bC)(n:Nat)(h:WI n s)(m:n<=1000)(i:1<=by_/\by_<=2) :
  Ev X 54 [Zk k s,dI by_,cF.sl t] (GI s) (Zl k (xz k s by_ t).1 (xz k s by_ t).2) (GI (xz k s by_ t).1):=by
 refine Ev.iv tok Tryz.func54 rfl rfl rfl λo=>?_
 have j:=tL (X:=X) k s.1 s.2.1 by_ s.2.2.1 s.2.2.2 h.w.s.xw i h.k h.f;have g:=yc (X:=X) k s.1 by_ t (h.w.sz (by omega))
 have b:=qh (by_:=by_) (s:=s.1.1) (l:=s.2.1) (q:=s.2.2) h.k h.f;have d:=GL (k:=k) (by_:=by_) (t:=t) h.w;unfold xz;rw[show ((s.2.2.1,s.2.2.2):List (Int×Int)×List Int)=s.2.2 from rfl] at j
 generalize lookW by_ s.1.1 s.2.1 s.2.2=q1 at *;have a:q1.2.getD (0+(by_-1).toNat) cI.bE=q1.2.getD (by_-1).toNat 0:=by rw[bt];rfl
 refine dY rfl av ?_;refine AK.cQ j [0,1] rfl ?_
 by_cases c1:q1.2.getD (by_-1).toNat 0=0
 rotate_left
 .rw[aY (λh=>c1 h.1)]
  refine aX [(19,ab),(25,ab)] 200 rfl ?_ ?_
  .simp only[ag,a,bx,jF,cW,aF,aE];and_intros <;> first|exact c1|omega
  refine AK.l3 () [0,1] rfl rfl rfl rfl rfl rfl rfl rfl rfl ?_ rfl rfl rfl rfl lz;simp[ag.cat,ag,aP.same]
 by_cases c2:s.2.1.1=0
 rotate_left
 .rw[aY (λh=>c2 h.2)]
  refine aX [(19,ae),(25,ab)] 200 rfl ?_ ?_
  .simp only[ag,a,c1,bx,jF,kZ,cW,aF,aE];and_intros <;> first|exact c2|omega
  refine AK.l3 () [0,1] rfl rfl rfl rfl rfl rfl rfl rfl rfl ?_ rfl rfl rfl rfl lz;simp[ag.cat,ag,aP.same]
 rw[bd ⟨c1,c2⟩];refine aX [(19,ae),(25,ae)] 200 rfl ?_ ?_
 .simp only[ag,a,c1,c2,bx,kZ,aF,aE];omega
 refine AK.cQ g [] rfl ?_;cases c3:(sL k s.1 by_ t).2 with
 |false =>
  rw[aY (by simp)]
  refine aX [(38,ab)] 200 rfl (by simp[ag,c3]) ?_
  refine AK.l3 () [0,1] rfl rfl rfl rfl rfl rfl rfl rfl rfl ?_ rfl rfl rfl rfl lz;simp[ag.cat,ag,aP.same]
 |true =>
  rw[bd rfl];have e:=(d c3).1;generalize (sL k s.1 by_ t).1=w2 at *;have c:=tL (X:=X) k w2 s.2.1 by_ q1.1 q1.2 e.s.xw i b.1 b.2;rw[show ((q1.1,q1.2):List (Int×Int)×List Int)=q1 from rfl] at c
  refine aX [(38,ae)] 200 rfl (by simp[ag,c3]) ?_
  refine AK.cQ c [0,1] rfl ?_;refine dY rfl av ?_;refine AK.l3 () [0,1] rfl rfl rfl rfl rfl rfl rfl rfl rfl ?_ rfl rfl rfl rfl lz;simp[ag.cat,ag,aP.same]
end
end Go.AM.R1
namespace Go.AM
section
variable {P:aq}{X:Cx P}{N:Nat}{all:List aw}{φ:Fr}{x:Nat->D}{l:Bool->Bool->Bool->Bool->List aV}{i g k e f:Nat}{o:aw}
abbrev vW(l:Bool->Bool->Bool->Bool->List aV)(g k e f:Nat):(Nat->Bool)->List aV:=λD=>l (D g) (D k) (D e) (D f)
theorem rY{i j:Nat}{D:Nat->Bool}(h:aG j i=ae):ff i D j=D j:=by simp only[ff,h]
theorem BL{i:Nat}{D:Nat->Bool}:ff i D i=ab:=by simp only[ff,iN]
def bZ.q4(h1:aG g i=ae)(h2:aG k i=ae)(j:aG e i=ae)(m:aG f i=ae)(h:∀ a b c d,OA X N all o (mZ all φ x i) (l a b c d) (x i) (l a b c d)):bZ X N all φ x (vW l g k e f) i o:=by
 intro D _ _
 grind [rY]
def bZ.c1(h2:aG k g=ae)(a:aG e g=ae)(c:aG f g=ae)(m:hX all k g=ab)(b:hX all e g=ab)(n:hX all f g=ab)
  (h:OA X N all o (mZ all φ x g) (l ae ae ae ae) (x g) (l ab ae ae ae)):bZ X N all φ x (vW l g k e f) g o:=by
 intro D j d
 grind [BL,rY]
def bZ.c2(h1:aG g k=ae)(a:aG e k=ae)(d:aG f k=ae)(b:hX all k g=ab)(c:hX all e k=ab)(n:hX all f k=ab)
  (h:OA X N all o (mZ all φ x k) (l ab ae ae ae) (x k) (l ab ab ae ae)):bZ X N all φ x (vW l g k e f) k o:=by
 intro D m j
 grind [BL,rY]
def bZ.c3(h1:aG g e=ae)(h2:aG k e=ae)(b:aG f e=ae)(a:hX all e g=ab)(j:hX all e k=ab)(m:hX all f e=ab)
  (h:OA X N all o (mZ all φ x e) (l ab ab ae ae) (x e) (l ab ab ab ae)):bZ X N all φ x (vW l g k e f) e o:=by
 intro D d c
 grind [BL,rY]
def bZ.c4(h1:aG g f=ae)(h2:aG k f=ae)(a:aG e f=ae)(b:hX all f g=ab)(m:hX all f k=ab)(c:hX all f e=ab)
  (h:OA X N all o (mZ all φ x f) (l ab ab ab ae) (x f) (l ab ab ab ab)):bZ X N all φ x (vW l g k e f) f o:=by
 intro D j d
 grind [BL,rY]
end
end Go.AM
namespace Go.AM.R1
section
open Go.Proofs
variable {X:Cx ah}
def Pt(k:Int)(s:ya)(e:iU)(n:Nat)(h:WI n s)(q:n<=1000) :
  Ev X 32 [Zk k s,Wt e] (GI s) (Zl k (vm k s e).1 (vm k s e).2) (GI (vm k s e).1):=by
 refine Ev.iv tok Tryz.func32 rfl rfl rfl λt=>?_
 have g:=h.w.sz (by omega)
 have a:bD X [(15,od),(53,Tt),(56,GJ)]:=.cons oN (.cons t53 (.cons Pu .nil));unfold vm
 by_cases i:e.1=1
 .rw[bd i]
  by_cases c:1<=e.2.1/\e.2.1<=2
  rotate_left
  .rw[aY (λh=>c h.1)]
   refine aC a [(13,ab),(16,ae),(21,ae)] 200 rfl ?_ ?_
   .simp only[ag,i,eB,aF,aE];grind
   refine AK.l3 () [0,1] rfl rfl rfl rfl rfl rfl rfl rfl rfl ?_ rfl rfl rfl rfl lz;simp[ag.cat,ag,aP.same]
  cases b:dq e.2.2.1 with
  |false =>
   rw[aY (by simp)]
   refine aC a [(13,ab),(16,ab),(21,ae)] 200 rfl ?_ ?_
   .simp only[ag,i,c,b,cF.list_fn,cF.aH,ig,nO,eB,aF,aE]
   refine AK.l3 () [0,1] rfl rfl rfl rfl rfl rfl rfl rfl rfl ?_ rfl rfl rfl rfl lz;simp[ag.cat,ag,aP.same]
  |true =>
   rw[bd ⟨c,rfl⟩];have o:=IH (X:=X) k s e.2.1 e.2.2.1 n h q c;refine aC a [(13,ab),(16,ab),(21,ab)] 200 rfl ?_ ?_
   .simp only[ag,i,c,b,cF.list_fn,cF.aH,ig,nO,eB,aF,aE]
   refine AK.cQ o [0,1] rfl ?_;refine aC a [] 200 rfl av ?_;refine AK.l3 () [0,1] rfl rfl rfl rfl rfl rfl rfl rfl rfl ?_ rfl rfl rfl rfl lz;simp[ag.cat,ag,aP.same]
 rw[aY i]
 by_cases c:e.1=2
 .rw[bd c]
  by_cases b:1<=e.2.1/\e.2.1<=2
  rotate_left
  .rw[aY b];refine aC a [(13,ae),(31,ab),(34,ae)] 200 rfl ?_ ?_
   .simp only[ag,c,eB,aF,aE];grind
   refine AK.l3 () [0,1] rfl rfl rfl rfl rfl rfl rfl rfl rfl ?_ rfl rfl rfl rfl lz;simp[ag.cat,ag,aP.same]
  .rw[bd b];have r:=tL (X:=X) k s.1 s.2.1 e.2.1 s.2.2.1 s.2.2.2 h.w.s.xw b h.k h.f;refine aC a [(13,ae),(31,ab),(34,ab)] 200 rfl ?_ ?_
   .simp only[ag,c,b,ig,nO,eB,aF,aE];decide
   refine AK.cQ r [0,1] rfl ?_;refine aC a [] 200 rfl av ?_;refine AK.l3 () [0,1] rfl rfl rfl rfl rfl rfl rfl rfl rfl ?_ rfl rfl rfl rfl lz;simp[ag.cat,ag,aP.same]
 rw[aY c]
 by_cases b:e.1=3
 .rw[bd b];refine aC a [(13,ae),(31,ae),(40,ab)] 200 rfl ?_ ?_
  .simp only[ag,b,eB,aF,aE];decide
  refine AK.l3 () [0,1] rfl rfl rfl rfl rfl rfl rfl rfl rfl ?_ rfl rfl rfl rfl lz;simp[ag.cat,ag,aP.same]
 rw[aY b]
 by_cases j:e.1=4
 .rw[bd j]
  by_cases d:s.1.2.2.length=0
  .rw[bd d];have p:(s.1.2.2.length:Int)=0:=by omega
   refine aC a [(13,ae),(31,ae),(40,ae),(46,ab),(51,ab)] 200 rfl ?_ ?_
   .simp only[ag,j,p,g.s,g.m,cP.list_fn,cP.aH,cp.list_fn,cp.aH,cH.list_fn,cH.aH,cI.list_fn,cI.aH,eB,aF,aE];decide
   refine AK.l3 () [0,1] rfl rfl rfl rfl rfl rfl rfl rfl rfl ?_ rfl rfl rfl rfl lz;simp[ag.cat,ag,aP.same,cP.list_fn,cp.list_fn,cH.list_fn,cI.list_fn]
  .rw[aY d];refine aC a [(13,ae),(31,ae),(40,ae),(46,ab),(51,ae)] 200 rfl ?_ ?_
   .simp only[ag,j,eB,dt,cW,aF,aE];and_intros <;> first|decide|omega
   refine AK.l3 () [0,1] rfl rfl rfl rfl rfl rfl rfl rfl rfl ?_ rfl rfl rfl rfl lz;simp[ag.cat,ag,aP.same]
 rw[aY j]
 by_cases d:e.1=5
 .rw[bd d];have o:=II (X:=X) s.1 g.s g.n g.l;refine aC a [(13,ae),(31,ae),(40,ae),(46,ae),(67,ab)] 200 rfl ?_ ?_
  .simp only[ag,d,eB,aF,aE];decide
  refine AK.cQ o [] rfl ?_;refine aC a [] 200 rfl av ?_;refine AK.l3 () [0,1] rfl rfl rfl rfl rfl rfl rfl rfl rfl ?_ rfl rfl rfl rfl lz;simp[ag.cat,ag,aP.same]
 rw[aY d];refine aC a [(13,ae),(31,ae),(40,ae),(46,ae),(67,ae)] 200 rfl ?_ ?_
 .simp only[ag,dt,cW,aF,aE];grind
 refine AK.l3 () [0,1] rfl rfl rfl rfl rfl rfl rfl rfl rfl ?_ rfl rfl rfl rfl lz;simp[ag.cat,ag,aP.same]
abbrev MP(l:c8):List A:=[.c (.int .i64 l.1),.c (.int .i64 l.2.1),.c (.int .i64 l.2.2.1),.c (.str l.2.2.2)]
abbrev Wu(a:List (Int×Int))(b:List Int):List aV:=[.buf 46 2 a.length (cH.fn a),.buf 3 1 b.length (cI.fn b)]
abbrev Fo(w:dC)(v b:Nat):List A:=.c (.int .i64 w.1)::([qR cP w.2.1.1.1,qR cp w.2.1.1.2.1,qR cH w.2.1.1.2.2,qR cI w.2.1.2.1,.vec v 1 w.2.1.2.2.length (cI.fn w.2.1.2.2)]++MP w.2.2.1++[.bp b (.sl w.2.2.2.1.length 2 0 w.2.2.2.1.length),.bp (b+1) (.sl w.2.2.2.2.length 1 0 w.2.2.2.2.length)])
abbrev IJ(w:dC):aV:=.cells 35 (Nh w)
abbrev pB(w:cN):aV:=.vec 3 1 w.2.2.length (cI.fn w.2.2)
def cv4(w:dC)(a b c d:Bool):List aV :=
 match a,b,c,d with
 |true,ab,ab,ab=>[IJ w,.cells 35 (.c (.int .i64 w.1)::([qR cP w.2.1.1.1,qR cp w.2.1.1.2.1,qR cH w.2.1.1.2.2,qR cI w.2.1.2.1,.vec 2 1 w.2.1.2.2.length (cI.fn w.2.1.2.2)]++MP w.2.2.1++[.bp 3 (.sl (0+w.2.2.2.1.length) 2 0 (0+w.2.2.2.1.length)),.bp 4 (.sl (0+w.2.2.2.2.length) 1 0 (0+w.2.2.2.2.length))])),pB w.2.1,
   .buf 46 2 (0+w.2.2.2.1.length) (cR 0 (λi=>([]:List (List C)).getD i []) (cH.fn w.2.2.2.1)),.buf 3 1 (0+w.2.2.2.2.length) (cR 0 (λi=>([]:List (List C)).getD i []) (cI.fn w.2.2.2.2))]
 |true,ab,ab,ae=>[IJ w,oq,pB w.2.1,.buf 46 2 (0+w.2.2.2.1.length) (cR 0 (λi=>([]:List (List C)).getD i []) (cH.fn w.2.2.2.1)),.buf 3 1 (0+w.2.2.2.2.length) (cR 0 (λi=>([]:List (List C)).getD i []) (cI.fn w.2.2.2.2))]
 |true,ab,ae,_=>[IJ w,oq,pB w.2.1,.buf 46 2 (0+w.2.2.2.1.length) (cR 0 (λi=>([]:List (List C)).getD i []) (cH.fn w.2.2.2.1))]
 |true,ae,_,_=>[IJ w,oq,pB w.2.1]
 |false,_,_,_=>[IJ w,oq]
abbrev VH(k:Nat):D:=.e (.one (.c (.sl ab k 0 λi=>([]:List (List C)).getD i [])))
abbrev Zm(w:cN)(v:Nat):List A:=[qR cP w.1.1,qR cp w.1.2.1,qR cH w.1.2.2,qR cI w.2.1,.vec v 1 w.2.2.length (cI.fn w.2.2)]
abbrev xCv(w:dC)(i:Nat):D :=
 [.e (.one (.ptr 0 0)),dI w.1,.e (.one (.ptr 0 1)),Ja w.2.1,.e (.agg (Zm w.2.1 2)),.e (.one (.ptr 0 6)),gh w.2.2.1,VH 2,.e (.one (.ptr 0 10)),cH.sl w.2.2.2.1,.e (.one (.bp 3 (.sl (0+w.2.2.2.1.length) 2 0 (0+w.2.2.2.1.length)))),VH 1,.e (.one (.ptr 0 11)),cI.sl w.2.2.2.2,.e (.one (.bp 4 (.sl (0+w.2.2.2.2.length) 1 0 (0+w.2.2.2.2.length)))),
  .e (.agg (.c (.int .i64 w.1)::(Zm w.2.1 2++MP w.2.2.1++[.bp 3 (.sl (0+w.2.2.2.1.length) 2 0 (0+w.2.2.2.1.length)),.bp 4 (.sl (0+w.2.2.2.2.length) 1 0 (0+w.2.2.2.2.length))]))),.any].getD i .any
set_option maxRecDepth 20000 in
def qU(w:dC)(h:MQ w.2.1)(q:w.2.2.2.1.length<=4000000)(i:w.2.2.2.2.length<=4000000):Ev X 34 [Dz w] [] (.e (.agg (Fo w 0 1))) ([pB w.2.1]++Wu w.2.2.2.1 w.2.2.2.2):=by
 refine Ev.iv tok Tryz.func34 rfl rfl rfl λp=>?_
 have f:bD X [(61,wV [Ja w.2.1] [] (.e (.agg (Zm w.2.1 0))) [pB w.2.1])]:=.cons (yK (xt w.2.1 h.s h.n h.l)) .nil;have o:(0+w.2.2.2.1.length)*i46.bytes<=140737488355328:=by rw[show i46.bytes=16 from rfl];omega
 have k:(0+w.2.2.2.2.length)*i3.bytes<=140737488355328:=by rw[show i3.bytes=8 from rfl];omega
 refine aC f [(1000001,ab)] 200 rfl av ?_;refine AK.flags ei (xCv w) (vW (cv4 w) 4 10 14 16) rfl rfl rfl rfl
  ⟨bZ.q4 rfl rfl rfl rfl (λa b c d=>by cases a <;> cases b <;> cases c <;> cases d <;> exact OA.bT tok f rfl),
  bZ.q4 rfl rfl rfl rfl (λa b c d=>by cases a <;> cases b <;> cases c <;> cases d <;> exact OA.bT tok f rfl),
  bZ.q4 rfl rfl rfl rfl (λa b c d=>by cases a <;> cases b <;> cases c <;> cases d <;> exact OA.bT tok f rfl),
  bZ.q4 rfl rfl rfl rfl (λa b c d=>by cases a <;> cases b <;> cases c <;> cases d <;> exact OA.bT tok f rfl),
  bZ.c1 rfl rfl rfl rfl rfl rfl (en (ds:=[]) tok f (σ':=aa _) rfl ⟨rfl,rfl⟩),
  bZ.q4 rfl rfl rfl rfl (λa b c d=>by cases a <;> cases b <;> cases c <;> cases d <;> exact OA.bT tok f rfl),
  bZ.q4 rfl rfl rfl rfl (λa b c d=>by cases a <;> cases b <;> cases c <;> cases d <;> exact OA.bT tok f rfl),
  bZ.q4 rfl rfl rfl rfl (λa b c d=>by cases a <;> cases b <;> cases c <;> cases d <;> exact OA.bT tok f rfl),
  bZ.q4 rfl rfl rfl rfl (λa b c d=>by cases a <;> cases b <;> cases c <;> cases d <;> exact OA.bT tok f rfl),
  bZ.q4 rfl rfl rfl rfl (λa b c d=>by cases a <;> cases b <;> cases c <;> cases d <;> exact OA.bT tok f rfl),
  bZ.c2 rfl rfl rfl rfl rfl rfl (en (ds:=[(3000013,ab)]) tok f (σ':=aa _) rfl o),
  bZ.q4 rfl rfl rfl rfl (λa b c d=>by cases a <;> cases b <;> cases c <;> cases d <;> exact OA.bT tok f rfl),
  bZ.q4 rfl rfl rfl rfl (λa b c d=>by cases a <;> cases b <;> cases c <;> cases d <;> exact OA.bT tok f rfl),
  bZ.q4 rfl rfl rfl rfl (λa b c d=>by cases a <;> cases b <;> cases c <;> cases d <;> exact OA.bT tok f rfl),
  bZ.c3 rfl rfl rfl rfl rfl rfl (en (ds:=[(3000017,ab)]) tok f (σ':=aa _) rfl k),
  bZ.q4 rfl rfl rfl rfl (λa b c d=>by cases a <;> cases b <;> cases c <;> cases d <;> exact OA.bT tok f rfl),
  bZ.c4 rfl rfl rfl rfl rfl rfl (en (ds:=[]) tok f (σ':=aa _) rfl av),av⟩ ?_
 intro D g;show AK X _ _ _ _ _ (cv4 w (D 4) (D 10) (D 14) (D 16));rw[g 4 (by decide),g 10 (by decide),g 14 (by decide),g 16 (by decide)]
 refine aC f [] 1 rfl av ?_;refine AK.norm [IJ w,.cells 35 (Fo w 2 3),pB w.2.1,.buf 46 2 w.2.2.2.1.length (cH.fn w.2.2.2.1),.buf 3 1 w.2.2.2.2.length (cI.fn w.2.2.2.2)] rfl ?_ ?_
 .simp[ag,ag.cat,aP.same,gq]
 refine AK.dE () [2,3,4] rfl rfl rfl rfl rfl rfl rfl rfl ?_ rfl rfl rfl rfl (λj m=>absurd m (by simp))
 simp[ag,ag.cat,aP.same]
end
end Go.AM.R1
namespace Go.AM
section
open Go.Conc (G)
section
variable {P:aq}{X:Cx P}{N:Nat}{ops:Array aw}{φ:Fr}{σ:List aV}{c:Type}{x:c->Nat->D}{S:c->(Nat->Bool)->List aV}{Inv:c->(Nat->Bool)->Prop}
def iD{P:aq}(X:Cx P)(N:Nat)(all:List aw)(φ:Fr){c:Type}(x:c->Nat->D)(S:c->(Nat->Bool)->List aV)(Inv:c->(Nat->Bool)->Prop)(i:Nat)(o:aw):Prop :=
 ∀ b (D:Nat->Bool),Inv b D->(∀ j,hX all i j=ab->D j=ab)->(∀ j,(j=i∨hX all j i=ab)->D j=ae)->rZ X N all o (mZ all φ (x b) i) (S b D) (λq:{ a:c // (∀ j,D j=ab->x a j=x b j)/\Inv a (ff i D) }=>x q.1 i) (λq=>S q.1 (ff i D))
def JP{P:aq}(X:Cx P)(N:Nat)(all:List aw)(φ:Fr){c:Type}(x:c->Nat->D)(S:c->(Nat->Bool)->List aV)(Inv:c->(Nat->Bool)->Prop):List aw->Nat->Prop
 |[],_=>True
 |o::r,i=>iD X N all φ x S Inv i o/\JP X N all φ x S Inv r (i+1)
theorem JP.get{all:List aw}:∀ {l:List aw}{k:Nat},JP X N all φ x S Inv l k->∀ i o,l[i]?=aa o->iD X N all φ x S Inv (k+i) o
 |[],_,_,i,o,h=>by simp at h
 |p::r,k,h,0,o,a=>by simp at a;subst a;exact h.1
 |p::r,k,h,i+1,o,a=>by
  have:=JP.get h.2 i o (by simpa using a)
  grind
def AK.Rc{ops:Array aw}{id:Nat}{K:List It}{Qf:Post}(p:P.follows Departure.mixedOrders=ab)(x:c->Nat->D)(S:c->(Nat->Bool)->List aV)(Inv:c->(Nat->Bool)->Prop)(e:c)(l:Inv e λ_=>ae)(r:S e (λ_=>ae)=σ)
  (d:mx ops.toList=ab) (b:r5 ops.toList 0=ab) (h:n5 N ops.toList=ab) (one:JP X N ops.toList φ x S Inv ops.toList 0)
  (k:∀ a D,Inv a D->(∀ i,i<ops.toList.length->D i=ab)->AK X N Qf K .normal (M8 ops.toList φ (x a)) (S a D)):AK X N Qf (.code (.region id ops ab)::K) .normal φ σ:=by
 have:=AW.reg (X:=X) (N:=N) (φ:=φ) (σ:=σ) p (all:=ops.toList) ops.toList.length x S Inv e l r d b h (bg _)
  (λi h1 h2=>absurd h2 (kB.2 h1)) (λa D _ _ i h1 h2=>absurd h2 (kB.2 h1))
  (λa D i o m n _ j f g=>by
   have h1:=one.get i o n;rw[bt] at h1;exact h1 a D m (vX g i o n f) (FQ g j))
  (Q:=AK X N Qf K) (λa D m q=>by
   rw[pJ];exact .nil (k a D m q)) id
 rw[oP] at this;exact this
theorem iD.of{all:List aw}{i:Nat}{o:aw}(h:∀ d (D:Nat->Bool),Inv d D->(∀ j,hX all i j=ab->D j=ab)->(∀ j,(j=i∨hX all j i=ab)->D j=ae)->Inv d (ff i D)/\OA X N all o (mZ all φ (x d) i) (S d D) (x d i) (S d (ff i D))):iD X N all φ x S Inv i o:=by
 intro d D g h1 h2 s a f hh b k cs SS idx rest hb hi hK;obtain⟨l,e⟩:=h d D g h1 h2;exact e s a f hh b k cs SS idx rest hb hi λv s' r1 r2 r3=>hK ⟨d,λ_ _=>rfl,l⟩ v s' r1 r2 r3
def iD.ofI{all:List aw}{i:Nat}{o:aw}(h:∀ e (D:Nat->Bool),Inv e D->(∀ j,hX all i j=ab->D j=ab)->(∀ j,(j=i∨hX all j i=ab)->D j=ae) ->
  ∃ (ι:Type) (y:ι->Go.AM.D) (σ':ι->List aV),rZ X N all o (mZ all φ (x e) i) (S e D) y σ'/\∀ j,∃ d,((∀ q,D q=ab->x d q=x e q)/\Inv d (ff i D))/\y j=x d i/\σ' j=S d (ff i D)):iD X N all φ x S Inv i o:=by
 intro e D l h1 h2 s a f hh b k cs SS idx rest hb hi hK;obtain⟨ι,y,σ',m,n⟩:=h e D l h1 h2;refine m s a f hh b k cs SS idx rest hb hi λj v s' r1 r2 r3=>?_
 obtain⟨d,g,p2,p3⟩:=n j;rw[p2] at r1;rw[p3] at r1 r2 r3;exact hK ⟨d,g⟩ v s' r1 r2 r3
end
section
variable {P:aq}{X:Cx P}{N:Nat}{all:List aw}{φ:Fr}{ι:Type}{x:Option ι->Nat->D}{s:Option ι->Bool->Bool->Bool->List aV}{i m e f d:Nat}{o:aw}
abbrev SO(s:Option ι->Bool->Bool->Bool->List aV)(e f d:Nat):Option ι->(Nat->Bool)->List aV:=λa D=>s a (D e) (D f) (D d)
abbrev IO(ι:Type)(m:Nat):Option ι->(Nat->Bool)->Prop:=λa D=>a.isSome=D m
def iD.quiet(k:aG m i=ae)(h1:aG e i=ae)(h2:aG f i=ae)(j:aG d i=ae)(h:∀ g a b c,OA X N all o (mZ all φ (x g) i) (s g a b c) (x g i) (s g a b c)) :
  iD X N all φ x (SO s e f d) (IO ι m) i o:=by
 grind [iD.of,rY]
def iD.zS(r:aG m i=ae)(h1:aG e i=ae)(h2:aG f i=ae)(k:aG d i=ae)(l:hX all i m=ab)(h:∀ j a b c,OA X N all o (mZ all φ (x (aa j)) i) (s (aa j) a b c) (x (aa j) i) (s (aa j) a b c)) :
  iD X N all φ x (SO s e f d) (IO ι m) i o:=by
 refine iD.of λg D q p _=>⟨?_,?_⟩
 .grind [rY]
 .show OA X N all o _ (s g (D e) (D f) (D d)) _ (s g (ff i D e) (ff i D f) (ff i D d));rw[rY h1,rY h2,rY k];have n:=p m l;cases g with
  |none=>grind
  |some j=>exact h _ _ _ _
def iD.fam(h1:aG e m=ae)(h2:aG f m=ae)(u:aG d m=ae)(g:hX all e m=ab)(l:hX all d m=ab)(t:∀ j q,q=m∨hX all q m=ab∨x (aa j) q=x af q)
  (h:∀ b,rZ X N all o (mZ all φ (x af) m) (s af ae b ae) (λj=>x (aa j) m) (λj=>s (aa j) ae b ae)):iD X N all φ x (SO s e f d) (IO ι m) m o:=by
 refine iD.ofI λc D v w a=>?_
 have n:=a m (.inl rfl);have k:=a e (.inr g);have r:=a d (.inr l);have p:c=af:=by
  cases c with
  |none=>rfl
  |some j=>grind
 grind [BL,rY]
def iD.Xn(r:aG m e=ae)(h2:aG f e=ae)(l:aG d e=ae)(a:hX all e m=ab)(n:hX all d e=ab)
  (h:∀ j b,OA X N all o (mZ all φ (x (aa j)) e) (s (aa j) ae b ae) (x (aa j) e) (s (aa j) ab b ae)):iD X N all φ x (SO s e f d) (IO ι m) e o:=by
 refine iD.of λg D p k q=>?_
 have c:=k m a;cases g with
 |none=>grind
 |some j =>
  grind [rY,BL]
def iD.Xo(j:aG m f=ae)(h1:aG e f=ae)(c:aG d f=ae)(g:hX all d f=ab)
  (h:∀ b a,OA X N all o (mZ all φ (x b) f) (s b a ae ae) (x b f) (s b a ab ae)):iD X N all φ x (SO s e f d) (IO ι m) f o:=by
 grind [iD.of,rY,BL]
def iD.Xp(p:aG m d=ae)(h1:aG e d=ae)(h2:aG f d=ae)(a:hX all d m=ab)(k:hX all d e=ab)(q:hX all d f=ab)
  (h:∀ j,OA X N all o (mZ all φ (x (aa j)) d) (s (aa j) ab ab ae) (x (aa j) d) (s (aa j) ab ab ab)):iD X N all φ x (SO s e f d) (IO ι m) d o:=by
 refine iD.of λc D l g n=>?_
 have b:=g m a;cases c with
 |none=>grind
 |some j =>
  grind [rY,BL]
end
end
end Go.AM
namespace Go.AM.R1
section
open Go.Proofs
variable {X:Cx ah} [X.jr]
abbrev Pv(s:ya):aV:=.cells 35 (DC 7 s.1 s.2.1 2)
abbrev Zn(k:Nat):={ q:iU×Nat // EvP k q }
def w5B(m:Nat)(b:Nat->Int)(k:Nat)(s:ya)(a:Option (Zn k))(d3 d7 d8:Bool):List aV :=
 match a with
 |none=>match d7 with
  |false=>[lx m b k,oq]++GI s++[Pv s]
  |true=>[lx m b k,oq]++GI s++[Pv s,oq]
 |some q=>match d3,d7,d8 with
  |false,ae,_=>[lx m b q.1.2,oq]++GI s++[Pv s]
  |false,ab,_=>[lx m b q.1.2,oq]++GI s++[Pv s,oq]
  |true,ae,_=>[lx m b q.1.2,oq]++GI (vm 7 s q.1.1).1++[Pv s]
  |true,ab,ae=>[lx m b q.1.2,oq]++GI (vm 7 s q.1.1).1++[Pv s,oq]
  |true,ab,ab=>[lx m b q.1.2,oq]++GI (vm 7 s q.1.1).1++[Pv s,Pv (vm 7 s q.1.1).1]
abbrev Zo(s:ya):D:=.e (.agg (DC 7 s.1 s.2.1 2))
def x5(k:Nat)(s:ya)(a:Option (Zn k))(i:Nat):D :=
 match a with
 |none=>[Zo s,.e (.one (.ptr 0 0)),.any,.any,.any,.any,.any,.e (.one (.ptr 5 0)),.any,.any].getD i .any
 |some q=>[Zo s,.e (.one (.ptr 0 0)),Wt q.1.1,.eK [.agg (DC 7 (vm 7 s q.1.1).1.1 (vm 7 s q.1.1).1.2.1 2),.one (.c (.bool (vm 7 s q.1.1).2))],.eK [.agg (DC 7 (vm 7 s q.1.1).1.1 (vm 7 s q.1.1).1.2.1 2),.one (.c (.bool (vm 7 s q.1.1).2))],
   Zo (vm 7 s q.1.1).1,dB (vm 7 s q.1.1).2,.e (.one (.ptr 5 0)),.any,dB (vm 7 s q.1.1).2].getD i .any
abbrev Zp:ya:=(Nj,yb,Zq,Zr)
def WI.zero:WI 0 Zp:=⟨TW.nil,rfl,rfl⟩
def MR:∀ j,j<1->([0,5,6,7]:List Nat)[j]?=aa j:=λj a=>by
 grind
def fH(es:List iU):ya:=es.foldl (λs e=>(vm 7 s e).1) Zp
def xx(es:List iU)(e:iU):fH (es++[e])=(vm 7 (fH es) e).1:=by unfold fH;grind
def Dh:∀ (r es:List iU),WI es.length (fH es)->WI (es++r).length (fH (es++r))
 |[],es,h=>by grind
 |e::r,es,h=>by
  have a:WI (es++[e]).length (fH (es++[e])):=by rw[xx,bR];exact h.do
  have:=Dh r (es++[e]) a
  grind
def pC(es:List iU):WI es.length (fH es):=Dh es [] WI.zero
def jq(v:Int)(s:ya):dC :=
 if v=0 then (7,s.1,s.2.1,s.2.2.1,[0]) else if v=1 then (7,s.1,s.2.1,s.2.2.1.set 0 (10,(s.2.2.1.getD 0 (0,0)).2),s.2.2.2) else (7,s.1,s.2.1,s.2.2.1,s.2.2.2)
structure Nk (k:Nat) where
 es:List iU
 v:Int
 k1:Nat
 hn:es.length<=8
 lo:k<=k1
 hi:k1<=k+4002
abbrev Nk.w{k:Nat}(q:Nk k):dC:=jq q.v (fH q.es)
def IK{v:Int}{es:List iU}(h:es.length<=8):MQ (jq v (fH es)).2.1/\(jq v (fH es)).2.2.2.1.length<=2/\(jq v (fH es)).2.2.2.2.length<=2:=by
 have a:=pC es;have b:=a.w.sz (by omega)
 have c:=a.k;have d:=a.f;unfold jq
 grind
set_option maxRecDepth 20000 in
def Fp(m:Nat)(b:Nat->Int)(F:Bytes b)(k:Nat)(W:k<=30000)(I:m<=1048576) :
  cM (ι:=Nk k) X 13 [.e (.one (.ptr 0 0))] [lx m b k] (λq=>.e (.agg (Fo q.w 1 2))) (λq=>[lx m b q.k1,pB q.w.2.1]++Wu q.w.2.2.2.1 q.w.2.2.2.2):=by
 refine cM.ga tok Tryz.func13 rfl rfl rfl λhf=>?_
 refine bk rfl av ?_;refine AK.cQ (Be 7 (by decide)) [] rfl ?_
 refine bk rfl av ?_;refine AK.cP (eu m b F k 9 (by omega) I (by omega)) [0] rfl (λ_=>rfl) ?_
 rintro⟨u,Z,u1⟩;refine bk rfl av ?_;refine AK.bP 5 (λq:Nat×List iU×Nat=>q.1+q.2.1.length<=8/\k<=q.2.2/\q.2.2<=k+1+500*q.2.1.length) (λq=>[(0,.e (.one (.ptr 0 0))),(2,.e (.one (.ptr 1 0))),(3,.e (.one (.ptr 4 0))),(5,dI q.1)])
  (λq=>[lx m b q.2.2,oq]++GI (fH q.2.1)++[Pv (fH q.2.1)]) (λq=>q.1) (u.toNat,[],k+1) rfl ?_ rfl ?_ rfl ⟨by grind,by grind,by grind⟩ ?_
 .simp only[ag.cat,ag,aF,aE];omega
 .have e:fH []=Zp:=rfl;simp[ag.cat,ag,aP.same,e]
 rintro⟨n,es,k1⟩ ⟨U,T,Q⟩;simp only at U T Q;have t:=pC es;have r:=xx es;have y:∀ v,MQ (jq v (fH es)).2.1/\(jq v (fH es)).2.2.2.1.length<=2/\(jq v (fH es)).2.2.2.2.length<=2:=λv=>IK (by omega)
 have o:∀ v k1,k<=k1->k1<=k+4002->∃ q:Nk k,q.w=jq v (fH es)/\q.k1=k1:=λv k1 a b=>⟨⟨es,v,k1,by omega,a,b⟩,rfl,rfl⟩
 by_cases h:0<n
 .refine aX [(15,ab),(1000005,ab)] 100 rfl (by simp only[ag,ba];omega) ?_
  generalize Y:fH es=s at *;refine AK.Rc ei (x5 k1 s) (SO (w5B m b k1 s) 3 7 8) (IO (Zn k1) 2) af rfl rfl rfl rfl rfl
   ⟨iD.quiet rfl rfl rfl rfl (λp a b c=>by rcases p with _|q <;> cases a <;> cases b <;> cases c <;> exact OA.bT tok bD.nil rfl),
   iD.quiet rfl rfl rfl rfl (λp a b c=>by rcases p with _|q <;> cases a <;> cases b <;> cases c <;> exact OA.bT tok bD.nil rfl),
   iD.fam rfl rfl rfl rfl rfl (λj q=>by
    match q with
    |0=>exact .inr (.inr rfl)
    |1=>exact .inr (.inr rfl)
    |2=>grind
    |3=>exact .inr (.inl rfl)
    |4=>exact .inr (.inl rfl)
    |5=>exact .inr (.inl rfl)
    |6=>exact .inr (.inl rfl)
    |7=>exact .inr (.inr rfl)
    |8=>exact .inr (.inr rfl)
    |9=>exact .inr (.inl rfl)
    |q+10=>exact .inr (.inr rfl)) (λa=>by cases a <;> exact rZ.u9 (Fq m b F k1 (by omega) I) [0] rfl rfl rfl rfl rfl rfl rfl (λ_=>rfl) rfl (λ_=>rfl)),
   iD.Xn rfl rfl rfl rfl rfl (λj a=>by
    have S:bD X [(32,wV [Zk 7 s,Wt j.1.1] (GI s) (Zl 7 (vm 7 s j.1.1).1 (vm 7 s j.1.1).2) (GI (vm 7 s j.1.1).1))]:=.cons (yK (Pt 7 s j.1.1 es.length t (by omega))) .nil
    cases a <;> exact en (ds:=[]) tok S (σ':=aa _) rfl ⟨rfl,rfl⟩),
   iD.zS rfl rfl rfl rfl rfl (λq a b c=>by cases a <;> cases b <;> cases c <;> exact OA.bT tok bD.nil rfl),
   iD.zS rfl rfl rfl rfl rfl (λq a b c=>by cases a <;> cases b <;> cases c <;> exact OA.bT tok bD.nil rfl),
   iD.zS rfl rfl rfl rfl rfl (λq a b c=>by cases a <;> cases b <;> cases c <;> exact OA.bT tok bD.nil rfl),
   iD.Xo rfl rfl rfl rfl (λp a=>by rcases p with _|q <;> cases a <;> exact en (ds:=[]) tok bD.nil (σ':=aa _) rfl av),
   iD.Xp rfl rfl rfl rfl rfl rfl (λj=>en (ds:=[]) tok bD.nil (σ':=aa _) rfl av),
   iD.zS rfl rfl rfl rfl rfl (λq a b c=>by cases a <;> cases b <;> cases c <;> exact OA.bT tok bD.nil rfl),av⟩ ?_
  intro p D R E;have M:p.isSome=ab:=(show p.isSome=D 2 from R).trans (E 2 (by decide))
  cases p with
  |none=>cases M
  |some q =>
  obtain⟨⟨e,O⟩,C⟩:=q;have K:=C.lo;have G:=C.hi;simp only at K G;show AK X _ _ _ _ _ (w5B m b k1 s (aa ⟨(e,O),C⟩) (D 3) (D 7) (D 8));rw[E 3 (by decide),E 7 (by decide),E 8 (by decide)]
  have r:=r e;refine bk rfl ?_ (AK.aQ (n-1,es++[e],O) rfl ?_ ?_ ⟨by grind,by grind,by grind⟩ (by grind))
  .simp only[ag,bx];omega
  .simp only[ag.cat,ag,aF,aE];omega
  .simp only[r];simp[ag.cat,ag,aP.same]
 refine aX [(15,ae)] 100 rfl (by simp only[ag,bM];omega) (AK.leaveD rfl rfl ?_)
 refine bk rfl av ?_;refine AK.cP (eu m b F k1 40 (by omega) I (by omega)) [0] rfl (λ_=>rfl) ?_
 rintro⟨v,v0,v1⟩;have d:(fH es).2.2.1.length=2:=t.k;have g:(fH es).2.2.2.length=2:=t.f
 by_cases L:v=0
 .obtain⟨q,l,A⟩:=o 0 (k1+1) (by omega) (by omega)
  obtain⟨B,N,P⟩:=y 0;have z:=qU (X:=X) _ B (by omega) (by omega)
  refine aX [(29,ab),(1000012,ab)] 100 rfl (by simp[ag,L]) ?_
  refine AK.rO 2 rfl rfl rfl (by simp[ag.cat,ag]) (by simp[ag.cat,ag]) ?_
  refine bk rfl av ?_;refine AK.mr z.Bm [] rfl rfl rfl rfl ?_ rfl rfl rfl (λ_=>rfl) rfl (λ_=>rfl) rfl ?_
  .simp only[jq,bd,ag.cat,ag,aF,aE]
   and_intros <;> first|exact aP.same|rfl|omega|exact d|exact g|exact d.symm|exact g.symm|(intro i hi;match i,hi with|0,_=>rfl)|(simp only[nL];omega)
  rintro -;refine bk rfl av ?_;rw[<-l,show (k1:Int)+1=((q.k1:Nat):Int) by omega]
  refine AK.dE q [0,5,6,7] rfl rfl rfl rfl rfl rfl rfl rfl ?_ rfl rfl rfl rfl MR;simp[ag.cat,ag,aP.same]
 by_cases x:v=1
 .obtain⟨q,l,A⟩:=o 1 (k1+1) (by omega) (by omega)
  obtain⟨B,N,P⟩:=y 1;have z:=qU (X:=X) _ B (by omega) (by omega)
  obtain⟨a0,V,H⟩:∃ a b,(fH es).2.2.1=[a,b]:=by
   match C:(fH es).2.2.1,d with
   |[a,b],_=>grind
  have J:aP 2 (uB 0 (ni 0 [.int .i64 10,.int .i64 ((fH es).2.2.1.getD 0 (0,0)).2] (cH.fn (fH es).2.2.1))) (cH.fn ((fH es).2.2.1.set 0 (10,((fH es).2.2.1.getD 0 (0,0)).2))):=by
   rw[H];intro i hi
   match i,hi with
   |0,_=>rfl
   |1,_=>rfl
  refine aX [(29,ae),(33,ab),(1000012,ab)] 100 rfl (by simp[ag,x]) ?_
  refine AK.rO 2 rfl rfl rfl (by simp[ag.cat,ag]) (by simp[ag.cat,ag]) ?_
  refine AK.rO 3 rfl rfl rfl (by simp[ag.cat,ag]) (by simp[ag.cat,ag]) ?_
  refine bk rfl av ?_;refine AK.mr z.Bm [] rfl rfl rfl rfl ?_ rfl rfl rfl (λ_=>rfl) rfl (λ_=>rfl) rfl ?_
  .simp only[jq,aY (show ¬(1:Int)=0 by decide),bd,ag.cat,ag,aF,aE]
   and_intros <;> first|exact aP.same|exact J|rfl|omega|exact d|exact g|exact d.symm|exact g.symm|grind|(simp only[nL];omega)
  rintro -;refine bk rfl av ?_;rw[<-l,show (k1:Int)+1=((q.k1:Nat):Int) by omega]
  refine AK.dE q [0,5,6,7] rfl rfl rfl rfl rfl rfl rfl rfl ?_ rfl rfl rfl rfl MR;simp[ag.cat,ag,aP.same]
 .obtain⟨q,l,A⟩:=o v (k1+1) (by omega) (by omega)
  obtain⟨B,N,P⟩:=y v;have z:=qU (X:=X) _ B (by omega) (by omega)
  refine aX [(29,ae),(33,ae),(1000012,ab)] 100 rfl (by simp[ag,L,x]) ?_
  refine AK.rO 2 rfl rfl rfl (by simp[ag.cat,ag]) (by simp[ag.cat,ag]) ?_
  refine AK.rO 3 rfl rfl rfl (by simp[ag.cat,ag]) (by simp[ag.cat,ag]) ?_
  refine bk rfl av ?_;refine AK.mr z.Bm [] rfl rfl rfl rfl ?_ rfl rfl rfl (λ_=>rfl) rfl (λ_=>rfl) rfl ?_
  .simp only[jq,aY L,aY x,ag.cat,ag,aF,aE]
   and_intros <;> first|exact aP.same|rfl|omega|exact d|exact g|exact d.symm|exact g.symm|(intro i hi;match i,hi with|0,_=>rfl)|(simp only[nL];omega)
  rintro -;refine bk rfl av ?_;rw[<-l,show (k1:Int)+1=((q.k1:Nat):Int) by omega]
  refine AK.dE q [0,5,6,7] rfl rfl rfl rfl rfl rfl rfl rfl ?_ rfl rfl rfl rfl MR;simp[ag.cat,ag,aP.same]
end
section
open Go.Proofs
abbrev cTr:List (Nat×dk):=[(24,tp)]
def E7(k:Int)(s:aZ)(y:Qs s):Ev (Cx.beside ah) 107 [eH s,dI k] [] (dB ((bh s.2.1.length).all (jW k s))) []:=by
 refine Ev.bQ Tryz.func107 rfl λz=>?_
 have A:=y.sN;have v:=y.sm;have o:bD (Cx.beside ah) cTr:=.cons yD .nil;refine aC o [] 100 rfl av ?_;refine AK.bP 1 (λi=>i<=s.2.1.length/\∀ j,j<i->jW k s j=ab) (λi:Nat=>[(1,dI k),(2,.e (.one (.ptr 0 0))),(10,cp.sl s.2.1),(11,dI s.2.1.length),(12,dI i)]) (λ_=>[I4 s]) (λi=>s.2.1.length-i) 0 rfl (by simp[ag.cat,ag,aP.same]) rfl (by simp[ag.cat,ag,aP.same]) rfl ⟨by omega,by omega⟩ ?_
 rintro i ⟨hi,n⟩
 by_cases h:i<s.2.1.length
 .have r:s.2.1.getD i cp.bE=s.2.1.getD i (0,[]):=rfl;have t:s.2.1.getD (i-1) cp.bE=s.2.1.getD (i-1) (0,[]):=rfl;have c:jW k s i=(decide (1<=(s.2.1.getD i (0,[])).1/\(s.2.1.getD i (0,[])).1<=20)&&CM (·.1) (0,[]) s.2.1 i&&(cm k (s.2.1.getD i (0,[])) s.1).isSome):=rfl;have u:=mJ (f:=λp:cy=>p.1) (d:=(0,[])) (l:=s.2.1) (i:=i)
  have g:=v _ (iE (d:=(0,[])) h);generalize s.2.1.getD i (0,[])=p at *;generalize s.2.1.getD (i-1) (0,[])=p' at *
  by_cases c1:1<=p.1
  rotate_left
  .refine aC o [(13,ab),(20,ab),(25,ab),(40,ab)] 100 rfl ?_ (AK.eh (b6.zero rfl ?_))
   .simp[-ai,ag,r];omega
   .rw[eb h (by grind)];simp[ag]
  by_cases c2:p.1<=20
  rotate_left
  .refine aC o [(13,ab),(20,ae),(25,ab),(40,ab)] 100 rfl ?_ (AK.eh (b6.zero rfl ?_))
   .simp[-ai,ag,r];omega
   .rw[eb h (by grind)];simp[ag]
  rw[cn ⟨c1,c2⟩,dN] at c
  by_cases w:i=0
  .subst w;rw[show CM (·.1) (0,[]) s.2.1 0=ab from rfl,dN] at c
   cases q:(cm k p s.1).isSome with
   |false =>
    refine aC o [(13,ab),(20,ae),(25,ae),(27,ae),(40,ae),(50,ab)] 100 rfl ?_ (AK.eh (b6.zero rfl ?_))
    .simp[-ai,ag,r,bx,cL.list_fn,cL.aH,cP.list_fn,cP.aH,q,g.1];and_intros <;> first|omega|exactλa b m=>g.2 (a,b) m
    .rw[eb h (c.trans q)];simp[ag]
   |true =>
    refine aC o [(13,ab),(20,ae),(25,ae),(27,ae),(40,ae),(50,ae)] 100 rfl ?_ (AK.aQ 1 rfl (by simp[ag.cat,ag,aP.same]) (by simp[ag.cat,ag,aP.same]) ⟨h,fh n (c.trans q)⟩ (by omega))
    simp[-ai,ag,r,bx,cL.list_fn,cL.aH,cP.list_fn,cP.aH,q,g.1];and_intros <;> first|omega|exactλa b m=>g.2 (a,b) m
  rw[u w] at c
  by_cases x:p'.1<p.1
  rotate_left
  .refine aC o [(13,ab),(20,ae),(25,ae),(28,ab),(38,ab),(40,ab)] 100 rfl ?_ (AK.eh (b6.zero rfl ?_))
   .simp[-ai,ag,r,t,bx];omega
   .rw[eb h (by rw[c,eC x];rfl)];simp[ag]
  rw[cn x,dN] at c;cases q:(cm k p s.1).isSome with
  |false =>
   refine aC o [(13,ab),(20,ae),(25,ae),(28,ab),(38,ae),(40,ae),(50,ab)] 100 rfl ?_ (AK.eh (b6.zero rfl ?_))
   .simp[-ai,ag,r,t,bx,cL.list_fn,cL.aH,cP.list_fn,cP.aH,q,g.1];and_intros <;> first|omega|exactλa b m=>g.2 (a,b) m
   .rw[eb h (c.trans q)];simp[ag]
  |true =>
   refine aC o [(13,ab),(20,ae),(25,ae),(28,ab),(38,ae),(40,ae),(50,ae)] 100 rfl ?_ (AK.aQ (i+1) rfl (by simp[ag.cat,ag,aP.same]) (by simp[ag.cat,ag,aP.same]) ⟨h,fh n (c.trans q)⟩ (by omega))
   simp[-ai,ag,r,t,bx,cL.list_fn,cL.aH,cP.list_fn,cP.aH,q,g.1];and_intros <;> first|omega|exactλa b m=>g.2 (a,b) m
 obtain rfl:i=s.2.1.length:=by omega
 rw[cf.2 n];refine aC o [(13,ae)] 100 rfl (by simp[ag]) (AK.leaveD rfl rfl ?_)
 exact aC o [] 100 rfl av (AK.bn rfl (by simp[ag]))
def x3(k:Int)(s:aZ):gG k s=(ck k&&yZ k s&&(bh s.2.1.length).all (jW k s)&&jw s.2.2):=by
 unfold gG yZ;cases (bh s.1.length).all (l9 k s.1) <;> cases decide (bO s.1).Nodup <;> cases (bh s.2.1.length).all (jW k s) <;> cases ck k <;> cases jw s.2.2 <;> cases decide (s.1.length<=20) <;> rfl
abbrev SE:dk:=p9 Ou aI (λs k=>dB (yZ k s)) λs k=>[ck k=ab,Qs s]
abbrev SF:dk:=p9 Ou aI (λs k=>dB ((bh s.2.1.length).all (jW k s))) λs _=>[Qs s]
def CY(k:Int)(s:aZ)(g:Qs s):Ev (Cx.beside ah) 65 [dI k,eH s] [] (dB (gG k s)) []:=by
 refine Ev.bQ Tryz.func65 rfl λj=>?_
 have c:bD (Cx.beside ah) [(105,L6),(41,jZ aI (λk=>dB (ck k)) λ_=>[]),(106,SE),(107,SF),(27,lJ)]:=.cons SD (.cons t41 (.cons (.tm λs k h=>E6 k s h.1 h.2) (.cons (.tm λs k h=>E7 k s h) (.cons sD .nil))))
 have d:=cP.list_fn s.1;have e:=cp.list_fn s.2.1;have a:=cH.list_fn s.2.2;rw[x3];cases b:ck k
 .exact aC c [(10,ae),(15,ae),(20,ae)] 100 rfl (by simp[ag,b,d,e,a,cP.aH,cp.aH,cH.aH]) (AK.bn rfl (by simp[ag]))
 cases f:yZ k s
 .exact aC c [(10,ab),(15,ae),(20,ae)] 100 rfl (by simp[ag,b,d,e,a,cP.aH,cp.aH,cH.aH,g,f]) (AK.bn rfl (by simp[ag]))
 cases i:(bh s.2.1.length).all (jW k s)
 .exact aC c [(10,ab),(15,ab),(20,ae)] 100 rfl (by simp[-bu,-List.all_eq_false,ag,b,d,e,a,cP.aH,cp.aH,cH.aH,g,f,i]) (AK.bn rfl (by simp[ag]))
 exact aC c [(10,ab),(15,ab),(20,ab)] 100 rfl (by simp[-bu,-List.all_eq_false,ag,b,d,e,a,cP.aH,cp.aH,cH.aH,g,f,i]) (AK.bn rfl (by simp[ag,a]))
abbrev y0:dk:=p9 aI Ou (λk s=>dB (gG k s)) λ_ s=>[Qs s]
def Im:dM (Cx.beside ah) 65 y0:=.tm λk s h=>CY k s h
end
end Go.AM.R1
namespace Go.AM
section
open Go.Conc (G)
def tA(f:ak)(l:List Int):ak->(Nat->Option Obj)->Prop:=λv a=>v=f/\∃ r es c,f=.map (aa r)/\(∀ b,a b=if b=r then aa (.map es c) else af)/\MapKept.Stamped es c /\
 (∀ e∈es.toList,∃ n,e.key=.int .i64 n/\e.val=.bool ab)/\∀ n,n∈l↔∃ e∈es.toList,e.key=.int .i64 n
structure Vp (σ:List aV)(s:St)(b:Nat)(f:ak)(l:List Int)(L:Loc)(r:Nat)(es:Array MapEntry)(c:Nat):Prop where
 at':s.β[b]?=aa L
 v:L.v=f
 m:f=.map (aa r)
 st:MapKept.Stamped es c
 kv:∀ e∈es.toList,∃ n,e.key=.int .i64 n/\e.val=.bool ab
 mem:∀ n,n∈l↔∃ e∈es.toList,e.key=.int .i64 n
 heap:s.w.heap[r]?=aa (.map es c)
 bs:∀ b,b∈L.bs↔b=r
def tA.open{σ:List aV}{s:St}{b:Nat}{f:ak}{l:List Int}(hh:aJ σ s)(hl:σ[b]?=aa (.dD (tA f l))):∃ L r es c,Vp σ s b f l L r es c:=by
 have hb:b<s.β.length:=by rw[hh.len];grind
 obtain⟨ch,⟨h1,r,es,c,h2,h,d,a,e⟩,g,i,_⟩:=hh.box b _ _ hl (br hb);exact⟨_,r,es,c,br hb,h1,h2,d,a,e,g r _ (by grind),λb=>by grind⟩
section
variable {P:aq}{o:aw}{p:an->D}{σ:List aV}{T q t:ar}{x y z:an}{f:ak}{l:List Int}{n:Int}{b:Nat}
def Vq{es:Array MapEntry}(h:∀ e∈es.toList,∃ n,e.key=.int .i64 n/\e.val=.bool ab):∀ e∈es.toList,MapKept.IsKey (.int .i64) e.key:=λe a=>by
 obtain⟨n,c,_⟩:=h e a;rw[c];rfl
def rdV{σ:List aV}{s:St}{v f:ak}{d:D}(h:dc σ s v d)(e:d=.e (.one (.v f))):v=f:=by subst e;exact Rd.fZ h
def rdI{σ:List aV}{s:St}{v:ak}{n:Int}{d:D}(h:dc σ s v d)(e:d=.e (.one (.c (.int .i64 n)))):v=.int .i64 n:=by
 subst e;have:=fy h;generalize v=w at this;cases this;rfl
def bH.OT(h:o.op=.lookup T x y ae)(C:P.underlying T=aa (.map q t))(B:P.underlying q=aa (.int .i64))(I:∀ w,(zeroValue t).run P w=.ok (.bool ae) w)(hl:σ[b]?=aa (.dD (tA f l)))
  (M:p x=.e (.one (.v f))) (G:p y=.e (.one (.c (.int .i64 n)))):bH P o p σ (.e (.one (.c (.bool (l.contains n))))) σ:=by
 refine bH.nS λs ρ hh hr=>?_
 obtain⟨L,r,es,c,g⟩:=tA.open hh hl;have ex:ρ x=.map (aa r):=(rdV (hr x) M).trans g.m;have E:=rdI (hr y) G;obtain⟨a,A⟩:=yq (d:=.int .i64) (k:=.int .i64 n) rfl (Vq g.kv);have F:oE s ⟨.obj r,ae,ae⟩:=lU (bU g.at') ((g.bs r).2 rfl);have key:∃ v:Bool,(Instr.lookup T (.map (aa r)) (.int .i64 n) ae).run P s.w=.ok (.bool v) s.w/\(Instr.lookup T (.map (aa r)) (.int .i64 n) ae).events P s.w #[]=#[⟨.obj r,ae,ae⟩]/\v=l.contains n:=by
  cases a with
  |none =>
   obtain⟨i,u⟩:=tU (ok:=ae) C B g.heap A (λ_=>I s.w)
   exact⟨ae,i,u,by
    symm;rw[<-mf,zp,g.mem]
    rintro⟨e,H,B⟩;exact A.no rfl e H B⟩
  |some jv =>
   obtain⟨j,v⟩:=jv;obtain⟨i,u⟩:=tU (ok:=ae) (z:=aj) C B g.heap A (λh=>by cases h)
   obtain⟨e,h1,h2,Q⟩:=A.yes j v rfl;have J:e∈es.toList:=by grind
   obtain⟨_,_,R⟩:=g.kv e J;exact⟨ab,i.trans (show Result.ok v s.w=_ by grind),u,by symm;rw[zp,g.mem];grind⟩
 obtain⟨v,i,u,O⟩:=key;refine⟨.bool v,?_,by rw[<-O];exact Rd.bool,?_⟩
 .simp only[ay,h,ex,E,bY,i,b9,cY]
 .simp only[ay,h,ex,E,aO,i,u,aU,Sem.events_pure];exact .one F
def bH.Sy(h:o.op=.mapUpdate T x y z)(I:P.underlying T=aa (.map q t))(H:P.underlying q=aa (.int .i64))(hl:σ[b]?=aa (.dD (tA f l)))
  (Z:p x=.e (.one (.v f))) (V:p y=.e (.one (.c (.int .i64 n)))) (R:p z=.e (.one (.c (.bool ab)))):bH P o p σ .any (σ.set b (.dD (tA f (l++[n])))):=by
 intro s ρ hh hr;obtain⟨L,r,es,c,g⟩:=tA.open hh hl;have ex:ρ x=.map (aa r):=(rdV (hr x) Z).trans g.m;have M:=rdI (hr y) V;have J:ρ z=.bool ab:=by
  have:=hr z;rw[R] at this;have:=fy this;generalize ρ z=w at this;cases this;rfl
 obtain⟨a,C⟩:=yq (d:=.int .i64) (k:=.int .i64 n) rfl (Vq g.kv);have F:∀ w,oE s ⟨.obj r,w,ae⟩:=λw=>lU (bU g.at') ((g.bs r).2 rfl)
 have sV:r<s.w.heap.size:=(ia.1 g.heap).1;have key:∃ es' c',(Instr.mapUpdate T (.map (aa r)) (.int .i64 n) (.bool ab)).run P s.w=.ok () { s.w with heap:=s.w.heap.setIfInBounds r (.map es' c') }/\(Instr.mapUpdate T (.map (aa r)) (.int .i64 n) (.bool ab)).events P s.w #[]=#[⟨.obj r,ae,ae⟩,⟨.obj r,ab,ae⟩] /\
   MapKept.Stamped es' c'/\(∀ e∈es'.toList,∃ n,e.key=.int .i64 n/\e.val=.bool ab)/\∀ m,m∈l++[n]↔∃ e∈es'.toList,e.key=.int .i64 m:=by
  cases a with
  |none =>
   obtain⟨u,B⟩:=tV (x:=.bool ab) I H g.heap C;refine⟨_,_,u,B,MapKept.stamped_push g.st (C.no rfl),λe A=>?_,λm=>?_⟩
   .rw[Array.toList_push,gC] at A;rcases A with A|A
    .exact g.kv e A
    grind
   .rw[gC,g.mem,Array.toList_push]
    constructor
    .rintro(⟨e,h1,h2⟩|h1)
     .grind
     .simp at h1;subst h1;exact⟨_,List.mem_append_right _ (kY.2 rfl),rfl⟩
    grind
  |some jv =>
   obtain⟨j,v⟩:=jv;obtain⟨e,h1,h2,h3⟩:=C.yes j v rfl;have S:e∈es.toList:=by grind
   obtain⟨_,_,Q⟩:=g.kv e S;have Y:es.modify j (λe=>{ key:=.int .i64 n,val:=.bool ab,born:=e.born })=es:=by
    apply Array.ext_getElem?
    intro i;rw[zr];split
    .rename_i hi;subst hi;rw[h1,<-h2,<-Q];rfl
    .rfl
   obtain⟨u,B⟩:=tV (x:=.bool ab) I H g.heap C;refine⟨es,c,u.trans (show Result.ok () { s.w with heap:=s.w.heap.setIfInBounds r (.map (es.modify j λe=>{ key:=.int .i64 n,val:=.bool ab,born:=e.born }) c) }=_ by grind),B,g.st,g.kv,λm=>?_⟩
   rw[gC,g.mem]
   constructor
   .rintro(G|G)
    .exact G
    grind
   grind
 obtain⟨es',c',u,B,U,O,W⟩:=key;have E:=hh.ld (H':=tA f (l++[n])) (L':=L) (w':={ s.w with heap:=s.w.heap.setIfInBounds r (.map es' c') }) hl g.at' rfl (by simp) (λb _ hb=>by
   show (s.w.heap.setIfInBounds r _)[b]?=_;rw[sR (by rintro rfl;exact hb ((g.bs r).2 rfl))]) (λb hb=>.inl hb)
  ⟨λb=>if b=r then aa (.map es' c') else af,⟨g.v,r,es',c',g.m,λ_=>rfl,U,O,W⟩,λb ob hb=>by
   grind,λb=>by rw[g.bs];by_cases e:b=r <;> simp[e]⟩ rfl rfl rfl
 have e1:s.β.set b L=s.β:=by
  apply iM
  intro i
  by_cases e:b=i
  .subst e;rw[fI (cr.1 g.at').1,g.at']
  grind
 rw[e1] at E;refine⟨.skip,_,?_,rfl,E.1,E.2,?_⟩
 .simp only[ay,h,ex,M,J,bY,u,b9,cY]
 .simp only[ay,h,ex,M,J,aO,u,B,aU,Sem.events_pure];exact .two (F _) (F _)
end
section
variable {P:aq}{X:Cx P}{N:Nat}{Qf:Post}{K:List It}{φ:Fr}{σ:List aV}{all rest:List aw}{o:aw}{T:ar}
def AK.Sz(h:o.op=.makeMap T af)(j:o.guard=af)(g:gy N o.dst=ab)
  (k:∀ f,AK X N Qf (.ops all rest::K) .normal (lC o.dst (.e (.one (.v f))) φ) (σ++[.dD (tA f [])])):AK X N Qf (.ops all (o::rest)::K) .normal φ σ:=by
 refine AK.hand (ι:=ak) (λf=>.e (.one (.v f))) (λf=>σ++[.dD (tA f [])]) j g (λs a A hh=>?_) k
 let w':az:={ s.w with heap:=s.w.heap.push (.map #[] 0) }
 have d:w'.heap[s.w.heap.size]?=aa (.map #[] 0):=by grind
 have u:w'.heap.size=s.w.heap.size+1:=by grind
 obtain⟨r,g2⟩:=hh.grow (M':=s.M) (w':=w') (by grind) (λb hb=>by grind) (λ_ _ _=>rfl) (λb hb o v c=>by have:=hh.block c;omega) rfl rfl rfl
 obtain⟨m,i⟩:=r.gT g2 rfl hh (B:=.dD (tA (.map (aa s.w.heap.size)) [])) (L:=⟨.map (aa s.w.heap.size),[s.w.heap.size]⟩)
  ⟨λb=>if b=s.w.heap.size then aa (.map #[] 0) else af,⟨rfl,_,#[],0,rfl,λ_=>rfl,MapKept.stamped_empty 0,λe C=>by grind,λn=>by simp⟩,λb o hb=>by
   grind,λb=>by by_cases e:b=s.w.heap.size <;> simp[e],λb hb o=>by
   simp at hb;subst hb;show s.M _ _=af;cases c:s.M s.w.heap.size o with
   |none=>rfl
   |some v=>have:=hh.block c;omega⟩ (λb hb=>by grind)
 refine⟨.map (aa s.w.heap.size),.value (.map (aa s.w.heap.size)),_,.map (aa s.w.heap.size),?_,.inl rfl,Rd.val rfl,m,i,?_⟩
 .simp[ay,h,Instr.makeMap,run_newObj,w']
 .simp[ay,h,Instr.makeMap];exact .nil
end
end
end Go.AM
namespace Go.AM.R1
section
open Go.Proofs
variable {X:Cx ah}
def i119:TI:=⟨1,8,ae,TypeDesc.map 3 4,[.val (.map af)],[]⟩
def Yy:bJ ah 119 i119:=⟨Tryz.underlying119,rfl,⟨Tryz.t119,_,bz Tryz.type119,rfl,rfl,rfl,rfl,⟨#[],rfl⟩,rfl⟩,λh=>absurd rfl h⟩
def gX:dg ah ((119,i119)::tt):=dg.cons Yy tok
abbrev dMv(v:ak):D:=.e (.one (.v v))
abbrev E8(a:ak)(l:List Int):aV:=.dD (tA a l)
def SG(c:ak)(a l:List Int):Ev X 66 [dMv c,cI.sl l] [E8 c a] (.eK []) [E8 c (a++l)]:=by
 refine Ev.bQ Tryz.func66 rfl λf=>?_
 have d:=f.sl 1 rfl;refine AK.eY ei gX bD.nil [] 100 rfl av ?_;refine AK.bP 1 (λi=>i<=l.length) (λi:Nat=>[(0,dMv c),(6,cI.sl l),(7,dI l.length),(8,dI i)]) (λi=>[E8 c (a++l.take i)]) (λi=>l.length-i) 0 rfl (by simp[ag.cat,ag,aP.same]) rfl (by simp[ag.cat,ag]) rfl (by omega) ?_
 intro i hi
 by_cases h:i<l.length
 .have e:l.getD (i:Int).toNat cI.bE=l.getD i 0:=by rw[bA];rfl
  refine AK.eY ei gX bD.nil [(9,ab)] 100 rfl (by simp[ag];omega) ?_
  refine AK.law (bH.Sy rfl Tryz.underlying119 Tryz.underlying3 (b:=0) rfl rfl rfl rfl) rfl rfl ?_;refine AK.eY ei gX bD.nil [] 100 rfl ?_ (AK.aQ (i+1) rfl ?_ ?_ h (by omega))
  .simp[ag,bx];omega
  .simp[ag.cat,ag,aP.same]
  .rw[bq h 0,<-j8];simp only[ag.cat,ag,e,aE]
 obtain rfl:i=l.length:=by omega
 rw[b7];refine AK.eY ei gX bD.nil [(9,ae)] 100 rfl (by simp[ag]) (AK.leaveD rfl rfl ?_)
 exact b6.tj [0] rfl (by simp[ag]) rfl rfl rfl l5
def A0(a:ak)(l:List Int) (n:Int):Ev X 69 [dI n,.e (.one (.c (.rp [.val a])))] [E8 a l] (dB (!l.contains n)) [E8 a l]:=by
 refine Ev.bQ Tryz.func69 rfl λd=>?_
 refine AK.eY ei gX bD.nil [] 100 rfl av ?_;refine AK.law (bH.OT rfl Tryz.underlying119 Tryz.underlying3 (λw=>Tryz.zeroValue4 w) (b:=0) rfl rfl rfl) rfl rfl ?_
 exact AK.eY ei gX bD.nil [] 100 rfl av (AK.dJ [0] rfl (by simp[ag]) rfl rfl rfl l5)
def Io(p:bw) (n:Int):Ev X 71 [xQ p,.e (.one (.c (.rp [.int .i64 n])))] [] (dB (p.1==n)) []:=by
 refine Ev.bQ Tryz.func71 rfl λa=>?_
 exact bk rfl av (AK.bn rfl (by simp[ag]))
def E9(x:cy)(a:x.2.length<=4000000)(b:(cg x.2).length<=4000000):Ev X 68 [Ez x] [] (cI.sl (gY x)) []:=by
 refine Ev.bQ Tryz.func68 rfl λc=>?_
 refine bk rfl av ?_;refine AK.cQ (A1 x a b) [] rfl ?_;exact bk rfl av (AK.bn rfl (by simp[ag,aP.same]))
end
section
open Go.Proofs
structure L8 (w:cN):Prop extends Qs w.1 where
 mrk:w.2.1.length<=4000000
 lft:w.2.2.length<=4000000
def Ip{l:List cy}{i:Nat}(h:i<l.length):(cg (l.getD i (0,[])).2).length<=(jy l).length:=by
 have:=CP l (i+1)
 grind [qQ]
def x4(k:Int)(w:cN):fC k w=(gG k w.1&&(bh w.1.2.1.length).all (λi=>!(gY (w.1.2.1.getD i (0,[]))).any λn=>!w.2.1.contains n)&&(bh w.2.2.length).all (mb w.1.1 w.2.2)):=by
 rw[fC,Iq];cases gG k w.1 <;> simp
def CZ(k:Int)(w:cN)(q:L8 w):Ev (Cx.beside ah) 40 [dI k,Ja w] [] (dB (fC k w)) []:=by
 refine Ev.bQ Tryz.func40 rfl λM=>?_
 have b:bD (Cx.beside ah) [(65,y0)]:=.cons Im .nil;have y:=cP.list_fn w.1.1;have z:=cp.list_fn w.1.2.1;have A:=cH.list_fn w.1.2.2;have r:=q.toQs;rw[x4];cases v:gG k w.1
 .exact AK.eY ei gX b [(14,ab)] 100 rfl (by simp[ag,v,y,z,A,cP.aH,cp.aH,cH.aH,r]) (AK.bn rfl (by simp[ag]))
 refine AK.eY ei gX b [(14,ae)] 100 rfl (by simp[ag,v,y,z,A,cP.aH,cp.aH,cH.aH,r]) ?_
 rw[dN];refine AK.Sz rfl rfl rfl λo=>?_
 refine AK.eY ei gX b [] 100 rfl av ?_;refine AK.cQ (SG o [] w.2.1) [1] rfl ?_;rw[List.nil_append];refine AK.eY ei gX b [(1000005,ab)] 100 rfl av ?_;refine AK.freeze 5 2 rfl rfl rfl ?_;refine AK.eY ei gX b [] 100 rfl av ?_;refine AK.bP 3 (λi=>i<=w.1.2.1.length/\∀ j,j<i->(!(gY (w.1.2.1.getD j (0,[]))).any λn=>!w.2.1.contains n)=ab) (λi:Nat=>[(0,dI k),(3,.e (.one (.ptr 0 0))),(5,.e (.one (.c (.rp [.val o])))),(22,cp.sl w.1.2.1),(23,dI w.1.2.1.length),(24,dI i)]) (λ_=>[Ni w,E8 o w.2.1,.dead]) (λi=>w.1.2.1.length-i) 0 rfl (by simp[ag.cat,ag,aP.same]) rfl (by simp[ag.cat,ag,aP.same]) rfl ⟨by omega,by omega⟩ ?_
 have D:=q.sN;rintro i ⟨hi,a⟩
 by_cases h:i<w.1.2.1.length
 .have s:w.1.2.1.getD (i:Int).toNat cp.bE=w.1.2.1.getD i (0,[]):=by grind
  have u:=q.sm _ (iE (d:=(0,[])) h);have I:=Ip h;have G:=q.aN;have C:=eb (p:=λj=>!(gY (w.1.2.1.getD j (0,[]))).any λn=>!w.2.1.contains n) h
  have t:=fh (p:=λj=>!(gY (w.1.2.1.getD j (0,[]))).any λn=>!w.2.1.contains n) (i:=i)
  generalize w.1.2.1.getD i (0,[])=x at *;refine AK.eY ei gX b [(25,ab)] 100 rfl (by simp[ag];omega) ?_
  rw[s];refine AK.cQ (E9 x u.1 (by omega)) [] rfl ?_
  refine AK.eY ei gX b [] 100 rfl av ?_;refine AK.cQ (LL (gY x) 69 [.val o] (tA o w.2.1) (λn=>!w.2.1.contains n) λn _=>A0 o w.2.1 n) [1] rfl ?_
  cases H:(gY x).any λn=>!w.2.1.contains n with
  |true =>
   refine AK.eY ei gX b [] 100 rfl av (AK.eh (b6.zero rfl ?_));rw[C (by grind)];simp[ag]
  |false =>
   refine AK.eY ei gX b [] 100 rfl ?_ (AK.aQ (i+1) rfl (by simp[ag.cat,ag,aP.same]) (by simp[ag.cat,ag,aP.same]) ⟨h,t a (by grind)⟩ (by omega))
   simp[ag,bx];omega
 obtain rfl:i=w.1.2.1.length:=by omega
 rw[cf.2 a,dN];refine AK.eY ei gX b [(25,ae)] 100 rfl (by simp[ag]) (AK.leaveD rfl rfl ?_)
 refine AK.eY ei gX b [] 100 rfl av ?_;have J:=q.lft;refine AK.bP 3 (λi=>i<=w.2.2.length/\∀ j,j<i->mb w.1.1 w.2.2 j=ab) (λi:Nat=>[(0,dI k),(3,.e (.one (.ptr 0 0))),(34,cI.sl w.2.2),(35,dI w.2.2.length),(36,dI i)]) (λ_=>[Ni w,E8 o w.2.1,.dead]) (λi=>w.2.2.length-i) 0 rfl (by simp[ag.cat,ag,aP.same]) rfl (by simp[ag.cat,ag,aP.same]) rfl ⟨by omega,by omega⟩ ?_
 rintro i ⟨hi,a⟩
 by_cases h:i<w.2.2.length
 .have s:w.2.2.getD (i:Int).toNat cI.bE=w.2.2.getD i 0:=by grind
  have g:w.2.2.getD (i-1) cI.bE=w.2.2.getD (i-1) 0:=rfl;have F:mb w.1.1 w.2.2 i=((w.1.1.any λp=>p.1==w.2.2.getD i 0)&&CM (λx=>x) 0 w.2.2 i):=rfl
  have B:=mJ (f:=λx:Int=>x) (d:=0) (l:=w.2.2) (i:=i)
  generalize w.2.2.getD i 0=n at *;generalize w.2.2.getD (i-1) 0=n' at *;have oa:bD (Cx.beside ah) [(70,iZ [cP.sl w.1.1,.e (.one (.c (.fn (.func 71) [] [.rp [.int .i64 n]])))] (dB (w.1.1.any λp=>p.1==n)))]:=.cons (jC (LJ w.1.1 71 [.int .i64 n] (λp=>p.1==n) λp _=>Io p n)) .nil
  refine AK.eY ei gX b [(37,ab),(1000014,ab)] 100 rfl (by simp[ag];omega) ?_
  rw[s];refine AK.freeze 9 3 rfl rfl rfl ?_;have fin:w.1.1.any (λp=>p.1==n)=ab->CM (λx=>x) 0 w.2.2 i=ab->mb w.1.1 w.2.2 i=ab:=λH L=>by grind
  by_cases E:i=0
  .subst E;cases m:w.1.1.any (λp=>p.1==n) with
   |true =>
    refine AK.eY ei gX oa [(43,ae),(60,ae)] 100 rfl ?_ (AK.aQ 1 rfl (by simp[ag.cat,ag,aP.same]) (by simp[ag.cat,ag,aP.same]) ⟨h,fh a (fin m rfl)⟩ (by omega))
    simp[ag,bx,m,hY.sl]
   |false =>
    refine AK.eY ei gX oa [(43,ae),(60,ab)] 100 rfl ?_ (AK.eh (b6.zero rfl ?_))
    .simp[ag,m,hY.sl]
    .rw[eb h (by grind)];simp[ag]
  by_cases K:n'<n
  rotate_left
  .refine AK.eY ei gX oa [(43,ab),(51,ab),(60,ab)] 100 rfl ?_ (AK.eh (b6.zero rfl ?_))
   .simp[-ai,ag,g,bx];omega
   .rw[eb h (by grind)];simp[ag]
  cases m:w.1.1.any (λp=>p.1==n) with
  |true =>
   refine AK.eY ei gX oa [(43,ab),(51,ae),(60,ae)] 100 rfl ?_ (AK.aQ (i+1) rfl (by simp[ag.cat,ag,aP.same]) (by simp[ag.cat,ag,aP.same]) ⟨h,fh a (fin m (by grind))⟩ (by omega))
   simp[-ai,ag,g,bx,m,hY.sl];omega
  |false =>
   refine AK.eY ei gX oa [(43,ab),(51,ae),(60,ab)] 100 rfl ?_ (AK.eh (b6.zero rfl ?_))
   .simp[-ai,ag,g,bx,m,hY.sl];omega
   .rw[eb h (by grind)];simp[ag]
 obtain rfl:i=w.2.2.length:=by omega
 rw[cf.2 a];refine AK.eY ei gX b [(37,ae)] 100 rfl (by simp[ag]) (AK.leaveD rfl rfl ?_)
 exact AK.eY ei gX b [] 100 rfl av (AK.bn rfl (by simp[ag]))
abbrev y3:dk:=p9 aI (Yi Yw) (λk w=>dB (fC k w)) λ_ w=>[L8 w]
def Ir:dM (Cx.beside ah) 40 y3:=.tm λk w h=>CZ k w h
abbrev wdB(w:dC):aV:=.cells 35 (Nh w)
def x6(w:dC):eJ w=(fC w.1 w.2.1&&decide (w.2.2.2.1.length=2)&&decide (w.2.2.2.2.length=2)&&(bh 2).all (uk w)):=by
 unfold eJ;cases fC w.1 w.2.1 <;> cases decide (w.2.2.2.1.length=2) <;> cases decide (w.2.2.2.2.length=2) <;> simp
def um(w:dC)(l:L8 w.2.1):Ev (Cx.beside ah) 18 [Dz w] [] (dB (eJ w)) []:=by
 refine Ev.bQ Tryz.func18 rfl λs=>?_
 have a:bD (Cx.beside ah) [(40,y3)]:=.cons Ir .nil;have k:=cP.list_fn w.2.1.1.1;have n:=cp.list_fn w.2.1.1.2.1;have o:=cH.list_fn w.2.1.1.2.2;have g:=cI.list_fn w.2.1.2.1;have m:=cI.list_fn w.2.1.2.2;rw[x6];cases f:fC w.1 w.2.1
 .exact AK.eY ei gX a [(11,ab),(17,ab),(22,ab)] 100 rfl (by simp[ag.cat,ag,f,k,n,o,g,m,cP.aH,cp.aH,cH.aH,cI.aH,l]) (AK.bn rfl (by simp[ag]))
 by_cases p:w.2.2.2.1.length=2
 rotate_left
 .exact AK.eY ei gX a [(11,ae),(17,ab),(22,ab)] 100 rfl (by simp[ag.cat,ag,f,k,n,o,g,m,cP.aH,cp.aH,cH.aH,cI.aH,l];omega) (AK.bn rfl (by simp[ag,eC p]))
 by_cases q:w.2.2.2.2.length=2
 rotate_left
 .exact AK.eY ei gX a [(11,ae),(17,ae),(22,ab)] 100 rfl (by simp[ag.cat,ag,f,k,n,o,g,m,cP.aH,cp.aH,cH.aH,cI.aH,l];omega) (AK.bn rfl (by simp[ag,eC q]))
 refine AK.eY ei gX a [(11,ae),(17,ae),(22,ae)] 100 rfl (by simp[ag.cat,ag,f,k,n,o,g,m,cP.aH,cp.aH,cH.aH,cI.aH,l];omega) ?_
 rw[cn p,cn q,dN,dN,dN];refine AK.bP 1 (λi=>i<=2/\∀ j,j<i->uk w j=ab) (λi:Nat=>[(1,.e (.one (.ptr 0 0))),(24,cH.sl w.2.2.2.1),(25,dI w.2.2.2.1.length),(26,dI i)]) (λ_=>[wdB w]) (λi=>2-i) 0 rfl (by simp[ag.cat,ag,aP.same]) rfl (by simp[ag.cat,ag,aP.same]) rfl ⟨by omega,by omega⟩ ?_
 rintro i ⟨hi,b⟩
 by_cases h:i<2
 .have d:w.2.2.2.1.getD i cH.bE=xZ w i:=rfl;have c:w.2.2.2.2.getD i cI.bE=x0 w i:=rfl;have r:uk w i=(decide (0<=(xZ w i).1/\(xZ w i).1<=9)&&decide (0<=(xZ w i).2)&&decide (0<=x0 w i/\x0 w i<=2)):=rfl
  by_cases c1:0<=(xZ w i).1
  rotate_left
  .refine AK.eY ei gX a [(27,ab),(34,ab),(39,ab),(44,ab),(52,ab),(59,ab)] 100 rfl ?_ (AK.eh (b6.zero rfl ?_))
   .simp[-ai,ag,d];omega
   .rw[eb h (by grind)];simp[ag]
  by_cases c2:(xZ w i).1<=9
  rotate_left
  .refine AK.eY ei gX a [(27,ab),(34,ae),(39,ab),(44,ab),(52,ab),(59,ab)] 100 rfl ?_ (AK.eh (b6.zero rfl ?_))
   .simp[-ai,ag,d];omega
   .rw[eb h (by grind)];simp[ag]
  by_cases c3:0<=(xZ w i).2
  rotate_left
  .refine AK.eY ei gX a [(27,ab),(34,ae),(39,ae),(44,ab),(52,ab),(59,ab)] 100 rfl ?_ (AK.eh (b6.zero rfl ?_))
   .simp[-ai,ag,d];omega
   .rw[eb h (by grind)];simp[ag]
  by_cases c4:0<=x0 w i
  rotate_left
  .refine AK.eY ei gX a [(27,ab),(34,ae),(39,ae),(44,ae),(52,ab),(59,ab)] 100 rfl ?_ (AK.eh (b6.zero rfl ?_))
   .simp[-ai,ag,d,c];omega
   .rw[eb h (by grind)];simp[ag]
  by_cases t:x0 w i<=2
  rotate_left
  .refine AK.eY ei gX a [(27,ab),(34,ae),(39,ae),(44,ae),(52,ae),(59,ab)] 100 rfl ?_ (AK.eh (b6.zero rfl ?_))
   .simp[-ai,ag,d,c];omega
   .rw[eb h (by grind)];simp[ag]
  refine AK.eY ei gX a [(27,ab),(34,ae),(39,ae),(44,ae),(52,ae),(59,ae)] 100 rfl ?_ (AK.aQ (i+1) rfl (by simp[ag.cat,ag,aP.same]) (by simp[ag.cat,ag,aP.same]) ⟨h,fh b (by grind)⟩ (by omega))
  simp[-ai,ag,d,c,bx];omega
 obtain rfl:i=2:=by omega
 rw[cf.2 b];refine AK.eY ei gX a [(27,ae)] 100 rfl (by simp[ag];omega) (AK.leaveD rfl rfl ?_)
 exact AK.eY ei gX a [] 100 rfl av (AK.bn rfl (by simp[ag]))
end
section
open Go.Proofs
section
variable {X:Cx ah} [X.jr]
structure VI where
 q:Nk 0
 z:Bool
def VI.w(q:VI):dC:=if q.z=ab then (q.q.w.1,(q.q.w.2.1.1,q.q.w.2.1.2.1,q.q.w.2.1.2.2++[9]),q.q.w.2.2) else q.q.w
end
def qS.xw{k:Int}{s:aZ}(h:qS k s):w7 s:=by
 have a:=h.Vs;have hl:=xy.of h.log;exact⟨a.Mc,h.pa,a.O5.s,λx b=>(hl.h x b).1⟩
def kJ{w:dC}(h:eJ w=ab):Mb w.1 w.2.1:=by
 simp only[eJ,bL] at h;exact ur.1 h.2
def iB(w:dC):aZ:=if eJ w=ab then tM w.2.1.1 w.2.2.1 else ([],[],[])
variable {X:Cx ah}
def IL(w:dC)(g:L8 w.2.1):Ev (Cx.beside ah) 21 [Dz w] [] (eH (iB w)) []:=by
 refine Ev.iv tok Tryz.func21 rfl rfl rfl λh=>?_
 have d:=um w g;have f:bD (Cx.beside ah) [(18,iZ [Dz w] (dB (eJ w)))]:=.cons (jC d) .nil;unfold iB;cases b:eJ w with
 |false =>
  refine aC f [(5,ab)] 100 rfl (by simp[ag,b]) ?_
  refine AK.dE () [] rfl rfl rfl rfl rfl rfl rfl rfl ?_ rfl rfl rfl rfl (λj c=>absurd c (by simp))
  simp[ag.cat,ag,aP.nil]
 |true =>
  have e:=(IM (X:=Cx.beside ah) (kJ b).xw w.2.2.1).a;have oa:bD (Cx.beside ah) [(18,iZ [Dz w] (dB (eJ w))),(42,iZ [eH w.2.1.1,gh w.2.2.1] (eH (tM w.2.1.1 w.2.2.1)))]:=.cons (jC d) (.cons (jC e) .nil);rw[bd rfl];refine aC oa [(5,ae)] 100 rfl (by simp only[ag,b,dy,aF,aE];and_intros <;> rfl) ?_
  refine AK.dE () [] rfl rfl rfl rfl rfl rfl rfl rfl ?_ rfl rfl rfl rfl (λj c=>absurd c (by simp))
  simp[ag.cat,ag,aP.same]
def Di{w:dC}:dL (iB w):=by
 unfold iB;split
 .rename_i h;exact(zg (X:=Cx.beside ah) (kJ h).xw w.2.2.1).z
 .exact⟨by simp,by simp,by simp,by simp[iT],by simp⟩
end
def tN(v:Int)(s:ya):(jq v s).2.1=s.1/\(jq v s).2.2.1=s.2.1:=by
 unfold jq
 grind
def TW.VJ{n:Nat}{w:cN}(h:TW n w)(hn:n<=1000000):L8 w:=⟨h.s.toly.Yz,by have:=h.m;omega,by have:=h.l;omega⟩
def Nk.VJ{k:Nat}(q:Nk k):L8 q.w.2.1:=by
 have h:=q.hn;rw[(tN q.v (fH q.es)).1];exact(pC q.es).w.VJ (by omega)
def VI.VJ(q:VI):L8 q.w.2.1:=by
 have h:=q.q.VJ;unfold VI.w;split
 .refine⟨h.toQs,h.mrk,?_⟩;have h2:=q.q.hn;have a:=(pC q.q.es).w.l;have b:=(tN q.q.v (fH q.q.es)).1
  grind
 .exact h
end Go.AM.R1
namespace Go.AM
section
open Go.Conc (G)
section
variable {P:aq}{X:Cx P}
def Yields.uD{ι:Type}{d:Nat}{ds:List D}{σ:List aV}{res:Bool}{σ1 rest:ι->List aV}(h:Yields X d ds σ res λi=>σ1 i++rest i)(hl:∀ i,(σ1 i).length=σ.length)(j:∀ i (l:Nat)(B:aV),(σ1 i)[l]?=aa B->(∃ E cs,B=.cells E cs/\DU (σ1 i).length cs=ab)∨σ[l]?=aa B):Yields X d ds σ res σ1:=by
 intro s vs l g hh Bl;obtain⟨fn,tmps,a,b,h1,h2,e⟩:=h s vs l g hh Bl;refine⟨fn,tmps,a,b,h1,h2,λS c cs hS=>e S c cs λi s' lb st=>?_⟩
 have f:eR s' (s'.cut (σ1 i).length):=⟨rfl,λ_ _ _ h=>h,λ_ _ _=>rfl,lb.mem,λb hb=>hb.imp id λ⟨L,k,hb⟩=>⟨L,iK k,hb⟩⟩
 exact .ghost f (hS i _ (hh.PQ (hl i).symm (j i) lb) (st.drop (Nat.le_of_eq (hl i).symm)))
end
section
variable {P:aq}{X:Cx P}{N:Nat}{φ:Fr}{σ:List aV}{Qf:Post}{K:List It}{all rest:List aw}
def AK.N2(t l:Nat){E:ar}{cs:List A}{cc:List C}(f:look φ t=.e (.one (.ptr l 0)))(hl:fw l σ=aa (.cells E cs))(d:gn cs=aa cc)
  (kk:AK X N Qf (.ops all rest::K) .normal ((t,.e (.one (.c (.rp cc))))::φ) (ef.rJ l .dead σ)):AK X N Qf (.ops all rest::K) .normal φ σ:=by
 rw[kC] at kk;exact AK.Kb (λs a b hh=>cx.freeze t l f hl d b hh) kk
def o8.cons{φ a:Fr}{t:Nat}{d:D}(h:look φ t=d)(r:o8 φ a):o8 φ ((t,d)::a):=by
 intro σ s v u b;simp only[look];cases hb:aG t u with
 |false=>exact r _ _ _ _ b
 |true =>
  obtain rfl:=bX hb;subst h;exact b
end
end
end Go.AM
namespace Go.AM.R1
section
open Go.Proofs
variable {X:Cx ah}
def lk:List (Int×Int)->C
 |[]=>.km
 |h::t=>.rp [.int .i64 h.1,.int .i64 h.2,lk t]
abbrev VP(l:List (Int×Int)):C:=.sl ae 2 l.length (cH.fn l)
def Px(l:List (Int×Int)):Ev X 52 [cH.sl l] [] (.e (.one (.c (.fn (.func 92) [] [.rp [VP l]])))) []:=by
 refine Ev.bQ Tryz.func52 rfl λa=>?_
 refine aX [] 5 rfl av ?_;refine AK.freeze 1 0 rfl rfl rfl ?_;refine bk rfl av (AK.bn rfl ?_);rfl
def IS(l:List (Int×Int))(n:l.length<=4000000){d:Nat}{a:Fr}{f:Loop}{g:aV}(B:Nat->aV)(m:g=B l.length)(h:∀ t,B t≠.qV)
  (b:∀ i,i<l.length->Yields (ι:=Unit) X 1 [dI i,.e (.agg [.c (.int .i64 (l.getD i (0,0)).1),.c (.int .i64 (l.getD i (0,0)).2)])] [B (i+1),.loop d a f] ab (λ_=>[B i,.loop d a f])) :
  cM (ι:=Unit) X 92 [.e (.one (.ref 1)),.e (.one (.c (.rp [VP l])))] [g,.loop d a f] (λ_=>.eK []) (λ_=>[B 0,.loop d a f]):=by
 subst m;refine cM.mV Tryz.func92 rfl rfl rfl (AK.of_code ?_);refine bk rfl (by simp only[ag,bx,aF,aE];omega) ?_
 show AW X _ (.loop _) _ _ _;refine AW.loop (S:=Nat) (λk=>k<=l.length) (λk=>[(0,.e (.one (.ref 1))),(1,.e (.one (.c (.rp [VP l])))),(3,dI ((k:Int)-1))]) (λk=>[B k,.loop d a f]) (λk=>k) l.length (bg _) (dh rfl (by simp[ag,ag.cat,aP.same])) rfl ?_
 intro k j;rcases k with _|i
 .refine AK.of_code ?_;refine aX [(8,ae)] 100 rfl (by simp[ag]) ?_
  refine AK.Kc rfl rfl ?_;exact⟨(),.inr rfl,rfl,l0 (h 0) (l0 (by simp) rfl),[],.eK [],[],rfl,rfl,rfl,av⟩
 .have e:(((i+1:Nat):Int)-1)=(i:Int):=by omega
  rw[e];refine AK.of_code ?_;refine aX [(8,ab)] 100 rfl ?_ ?_
  .simp only[ag,ba,aF,aE];omega
  refine AK.yield (b i j) rfl rfl rfl rfl rfl rfl λ_=>?_
  refine aX [(18,ae)] 100 rfl ?_ ?_
  .simp only[ag,bx,dy,aF,aE];omega
  exact⟨i,by omega,by omega,dh rfl (by simp[ag,ag.cat,aP.same]),rfl⟩
def zj{l:List (Int×Int)}{i:Nat}(h:i<l.length):l.drop i=l.getD i (0,0)::l.drop (i+1):=by
 grind [List.drop_eq_getElem_cons]
def zk(l:List (Int×Int))(g:l.length<=4000000):Ev X 28 [cH.sl l] [] (.e (.one (.c (lk l)))) []:=by
 refine(cM.z9 (ι:=Unit) (σ':=λ_=>[]) (res:=λ_=>.e (.one (.c (lk l)))) Tryz.func28 rfl rfl rfl λf=>?_).uA
 have d:bD X [(52,iZ [cH.sl l] (.e (.one (.c (.fn (.func 92) [] [.rp [VP l]])))))]:=.cons (jC (Px l)) .nil;refine nD.seq (AW.top (AK.of_code ?_));refine aC d [] 100 rfl av ?_;refine nD.seq (AW.top (AK.of_code ?_));refine aC d [] 100 rfl av ?_;refine nD.seq (nD.seq (AW.top (AK.of_code ?_)));refine aC d [] 100 rfl rfl ?_;refine nD.block ?_;have b:lk (l.drop l.length)=.km:=by rw[pJ];rfl
 refine nD.rangeFunc (capD:=fY [.rp [VP l]]) (cx.callee rfl) (IS l g (λi=>.cells 70 [.c (lk (l.drop i))]) (by rw[b];rfl) (by simp) ?_) (λi=>⟨rfl,by simp⟩) λi=>⟨.normal,rfl,?_⟩
 .intro i hi;refine Yields.uD (rest:=λ_=>[.cells 90 [.c (.int .i64 (l.getD i (0,0)).1),.c (.int .i64 (l.getD i (0,0)).2)],.dead]) ?_ (λ_=>rfl) (λ_ j B a=>?_)
  .rw[zj hi];generalize l.drop (i+1)=r;cases r <;> (
    refine Yields.intro (j:=af) rfl rfl rfl rfl (AK.of_code ?_);refine bk rfl av ?_;refine⟨rfl,rfl,AK.of_code ?_⟩;refine aX [] 1 rfl av ?_;refine AK.region ?_;refine aX [] 4 rfl av ?_;refine AK.N2 13 3 rfl rfl rfl ?_;refine bk rfl av ?_;refine⟨rfl,rfl,(),lF rfl ?_⟩;simp[ag.cat,ag,lk])
  .match j,a with
   |0,a=>cases a;exact .inl ⟨_,_,rfl,rfl⟩
   |1,a=>exact .inr a
   |j+2,a=>simp at a
 .show nD X _ _ _ _ _;refine AW.top (AK.of_code ?_);rw[List.drop_zero];cases l <;> (
   refine bk rfl av ?_;refine AK.ret ⟨(),b6.zero rfl ?_⟩;simp[ag,lk])
def QB{P:aq}{o:aw}{g:an->D}{σ:List aV}{op:BinOp}{t ty:ar}{x:an}(h:o.op=.binOp op t x (.const (.pointer af)) ty){e:ar}(i:P.underlying t=aa (.pointer e)){c:Bool}{cs:List C}
  (l:g x=.e (.one (.c (.rp cs)))) (j:g (.const (.pointer af))=.e (.one (.c .km))) (m:lr op ae=aa c):bH P o g σ (.e (.one (.c (.bool c)))) σ:=by
 refine Ap h i (b:=ae) ?_ m;intro s u v _ a d;rw[l] at a;rw[j] at d
 replace a:=fy a
 replace d:=fy d
 cases d;cases a with|rp b off =>
 have k:(Op.equal t (.pointer (aa ⟨b,off,af⟩)) (.pointer af)).run P s.w=.ok ae s.w:=by
  show (Op.equalIn (9999+1) t _ _).run P s.w=_;unfold Op.equalIn;simp[underlying,i]
 have f:∀ es,(Op.equal t (.pointer (aa ⟨b,off,af⟩)) (.pointer af)).events P s.w es=es:=λes=>by
  show (Op.equalIn (9999+1) t _ _).events P s.w es=es;unfold Op.equalIn;simp[underlying,i]
 exact⟨_,af,rfl,rfl,rfl,by cases op <;> simp[eqGuard],λes=>by cases op <;> simp[eqGuard],k,f⟩
def MZ(l:List (Int×Int))(a:xy l)(m:Nat)(k:m<=l.length):Ev X 29 [.e (.one (.c (lk l))),dI m] [] (dI (gf (l.take m))) []:=by
 refine Ev.bQ Tryz.func29 rfl λf=>?_
 have p:=a.n;refine bk rfl av ?_;refine AK.loop (λi=>i<=m) (λi:Nat=>[(0,.e (.one (.c (lk (l.drop i))))),(1,dI ((m:Int)-i)),(5,dI (gf (l.take i)))]) (λ_=>[]) (λi=>m-i) 0 (by omega) (.cons rfl (dh rfl (by simp[ag.cat,ag,gf]))) rfl ?_
 intro i hi
 by_cases h:i<m
 .have j:=zi (l:=l) (i:=i) (by omega)
  have g:=sK a.h a.n i;have b:=sK a.h a.n (i+1);have o:=a.h _ (gO (i:=i) (l:=l) (by omega) (0,0))
  rw[zj (i:=i) (by omega)]
  generalize l.getD i (0,0)=x at *;generalize d:l.drop (i+1)=r;cases r <;> (
   refine bk rfl av ?_;refine AK.law (QB rfl Tryz.underlying70 rfl rfl rfl) rfl rfl ?_;refine aX [(8,ab),(11,ab)] 100 rfl ?_ ⟨i+1,h,by omega,.cons (by rw[d];rfl) (dh rfl ?_),rfl⟩
   .simp only[ag,bx,ba,aF,aE];and_intros <;> first|omega|rfl
   .simp only[ag.cat,ag,aF,aE];and_intros <;> omega)
 obtain rfl:i=m:=by omega
 generalize l.drop i=r;cases r with
 |nil =>
  refine bk rfl av ?_;refine AK.law (Kx rfl Tryz.underlying70 rfl rfl rfl) rfl rfl ?_;refine aX [(8,ae),(11,ae)] 100 rfl (by simp[ag]) (AK.leave rfl rfl ?_)
  exact bk rfl av (AK.bn rfl (by simp[ag]))
 |cons x r =>
  refine bk rfl av ?_;refine AK.law (QB rfl Tryz.underlying70 rfl rfl rfl) rfl rfl ?_;refine aX [(8,ab),(11,ae)] 100 rfl (by simp[ag]) (AK.leave rfl rfl ?_)
  exact bk rfl av (AK.bn rfl (by simp[ag]))
def IT(l:List (Int×Int))(g:l.length<=4000000):Ev X 30 [cH.sl l] [] (dI (if jw l=ab then gf l else -1)) []:=by
 refine Ev.bQ Tryz.func30 rfl λh=>?_
 have d:=zk (X:=X) l g;cases a:jw l with
 |false =>
  have b:bD X [(27,lJ)]:=.cons sD .nil;refine aC b [(5,ab)] 200 rfl (by simp[ag,a,cH.list_fn,cH.aH]) (AK.bn rfl (by simp[ag]))
 |true =>
  have f:=MZ (X:=X) l (.of a) l.length (bg _);rw[b7] at f;have b:bD X [(27,lJ),(28,iZ [cH.sl l] (.e (.one (.c (lk l))))),(29,iZ [.e (.one (.c (lk l))),dI l.length] (dI (gf l)))]:=.cons sD (.cons (jC d) (.cons (jC f) .nil));generalize gf l=n at *;cases l <;> (
   refine aC b [(5,ae)] 200 rfl ?_ (AK.bn rfl (by simp[ag]))
   simp only[ag,a,cH.list_fn,cH.aH,dy,aF,aE]
   and_intros <;> rfl)
def Py(m:Int×Int)(l:List (Int×Int))(o:l.length<=4000000):Ev X 11 [Ft m,cH.sl l] [] (S7 (jX m l)) []:=by
 refine Ev.ga Tryz.func11 rfl rfl rfl λr=>?_
 have h:=zk (X:=X) l o;have b:=IT (X:=X) l o;have f:bD X [(27,lJ)]:=.cons sD .nil;unfold jX;cases a:jw l with
 |false =>
  rw[aY (by simp)]
  refine aC f [(9,ab),(16,ab),(21,ab)] 200 rfl (by simp[ag,a,cH.list_fn,cH.aH]) ?_
  refine AK.freeze 4 1 rfl rfl rfl ?_;exact AK.iR tok [] rfl (by simp[ag.cat,ag]) rfl rfl rfl fO
 |true =>
 have p:=xy.of a
 by_cases i:m.1<=l.length
 rotate_left
 .rw[aY (by simp[i])]
  refine aC f [(9,ae),(16,ab),(21,ab)] 200 rfl ?_ ?_
  .simp only[ag,a,cH.list_fn,cH.aH,dy,ba,aF,aE];omega
  refine AK.freeze 4 1 rfl rfl rfl ?_;exact AK.iR tok [] rfl (by simp[ag.cat,ag]) rfl rfl rfl fO
 by_cases g:0<=m.1
 rotate_left
 .rw[aY (by simp[g])]
  refine aC f [(9,ae),(16,ae),(21,ab)] 200 rfl ?_ ?_
  .simp only[ag,a,cH.list_fn,cH.aH,dy,ba,bM,aF,aE];omega
  refine AK.freeze 4 1 rfl rfl rfl ?_;exact AK.iR tok [] rfl (by simp[ag.cat,ag]) rfl rfl rfl fO
 rw[bd ⟨rfl,i,g⟩];have q:(m.1.toNat:Int)=m.1:=rf g;have j:=MZ (X:=X) l p m.1.toNat (by omega)
 rw[bd a] at b;rw[q] at j;have oa:bD X [(27,lJ),(28,iZ [cH.sl l] (.e (.one (.c (lk l))))),(29,iZ [.e (.one (.c (lk l))),dI m.1] (dI (gf (l.take m.1.toNat)))),(30,iZ [cH.sl l] (dI (gf l)))]:=.cons sD (.cons (jC h) (.cons (jC j) (.cons (jC b) .nil)));generalize gf l=n at *;generalize gf (l.take m.1.toNat)=k at *
 by_cases d:k=m.2
 .rw[bd d];cases l <;> (
   refine aC oa [(9,ae),(16,ae),(21,ae),(23,ae)] 200 rfl ?_ ?_
   .simp only[ag,a,d,cH.list_fn,cH.aH,dy,ba,bM,kZ,aF,aE]
    and_intros <;> first|rfl|omega
   refine AK.freeze 4 1 rfl rfl rfl ?_;exact AK.iR tok [] rfl (by simp[ag.cat,ag]) rfl rfl rfl fO)
 .rw[aY d];cases l <;> (
   refine aC oa [(9,ae),(16,ae),(21,ae),(23,ab)] 200 rfl ?_ ?_
   .simp only[ag,a,cH.list_fn,cH.aH,dy,ba,bM,jF,aF,aE]
    and_intros <;> first|exact d|rfl|omega
   refine AK.freeze 4 1 rfl rfl rfl ?_;exact AK.iR tok [] rfl (by simp[ag.cat,ag]) rfl rfl rfl fO)
def Tx(n:Int):Bool:=decide (1<=n/\n<=2)
def Pz(n:Int):Ev X 19 [dI n] [] (dB (Tx n)) []:=by
 refine Ev.bQ Tryz.func19 rfl λa=>?_
 unfold Tx
 by_cases h:n=1
 .refine aX [(5,ab)] 100 rfl (by simp[ag,h]) (AK.bn rfl ?_)
  simp[ag,h]
 .refine aX [(5,ae)] 100 rfl (by simp[ag,h]) (AK.bn rfl ?_)
  simp only[ag,aE];rw[mg];simp only[fS,ba];omega
abbrev M0:dk:=jZ aI (λn=>dB (Tx n)) λ_=>[]
def QC:dM X 19 M0:=.ox λn _=>Pz n
def find_at{l:List cy}{no:Int}{i:Nat}(hi:i<l.length)(h:∀ j,j<i->(l.getD j (0,[])).1≠no)(a:(l.getD i (0,[])).1=no):l.find? (λx=>x.1==no)=aa (l.getD i (0,[])):=by
 rw[vo];refine⟨by simpa using a,i,hi,by simp[hi],λj b=>?_⟩
 have:=h j b;simpa[show j<l.length by omega] using this
def PC{l:List cy}{no:Int}(h:∀ j,j<l.length->(l.getD j (0,[])).1≠no):l.find? (λx=>x.1==no)=af:=by
 rw[rh];intro x b;obtain⟨j,a,rfl⟩:=dH b;simpa[a] using h j a
def IU(k:Int)(s:aZ) (no:Int)(f:dL s):Ev X 37 [dI k,eH s,dI no] [] (Gf ((c9 k s no).getD []) (c9 k s no).isSome) []:=by
 refine Ev.bQ Tryz.func37 rfl λn=>?_
 have b:bD X [(64,qP)]:=.cons xb .nil;have o:=f.sn;refine aC b [] 100 rfl av ?_;refine AK.bP 1 (λi=>i<=s.2.1.length/\∀ j,j<i->(s.2.1.getD j (0,[])).1≠no) (λi:Nat=>[(0,dI k),(2,dI no),(4,.e (.one (.ptr 0 0))),(8,dI i)]) (λ_=>[HJ s]) (λi=>s.2.1.length-i) 0 rfl (by simp[ag.cat,ag]) rfl (by simp[ag.cat,ag,aP.same]) rfl ⟨by omega,by omega⟩ ?_
 rintro i ⟨hi,a⟩
 by_cases h:i<s.2.1.length
 .have d:s.2.1.getD (i:Int).toNat cp.bE=s.2.1.getD i (0,[]):=rfl
  by_cases c:(s.2.1.getD i (0,[])).1=no
  .have e:c9 k s no=cm k (s.2.1.getD i (0,[])) s.1:=by simp only[c9,find_at h a c]
   obtain⟨g,m⟩:=f.s2 _ (gO h (0,[]));refine aC b [(13,ab),(23,ab)] 100 rfl ?_ (AK.eh (b6.zero rfl ?_))
   .simp only[ag,d,cL.list_fn,c]
    and_intros <;> first|exact cL.aH _|exact cP.aH _|exact g|exact m|omega|exact cn (by omega)|exact eB _
   .simp only[d,cL.list_fn,cP.list_fn,e];exact ag.cat.2 ⟨⟨av,aP.same⟩,ag.cat.2 ⟨av,av⟩⟩
  .refine aC b [(13,ab),(23,ae)] 100 rfl ?_ (AK.aQ (i+1) rfl ?_ ?_ ⟨h,?_⟩ (by omega))
   .simp only[ag,d,bx,ba,dt]
    and_intros <;> first|exact c|omega
   .simp[ag.cat,ag]
   .simp[ag.cat,ag,aP.same]
   .intro j l
    by_cases e:j=i
    .exact e▸c
    .exact a j (by omega)
 .have e:c9 k s no=af:=by simp only[c9,PC λj l=>a j (by omega)]
  refine aC b [(13,ae)] 100 rfl (by simp only[ag,bM];omega) (AK.leaveD rfl rfl ?_)
  refine aC b [] 100 rfl av (AK.bn rfl ?_);simp[e,ag.cat,ag,aP.nil]
def PD(k:Int)(m:Int×Int)(s:aZ) (no:Int):Option (List bC):=if ck k=ab/\(jX m s.2.2).2=0 then c9 k s no else af
def IV(k:Int)(m:Int×Int)(s:aZ):(Int×Int)×Int:=if ck k=ab then jX m s.2.2 else (m,1)
abbrev QD(m:(Int×Int)×Int)(o:Option (List bC)):D:=.eK [.one (.c (.sl ae 2 (o.getD []).length (cF.fn (o.getD [])))),.one (.c (.int .i64 m.2)),.agg [.c (.int .i64 m.1.1),.c (.int .i64 m.1.2)],.one (.c (.bool o.isSome))]
def IW{m:Int×Int}{l:List (Int×Int)}(h:¬(jX m l).2=0):(jX m l).1=m:=by
 unfold jX at *
 grind
def Dn(k:Int)(m:Int×Int)(s:aZ) (no:Int)(d:dL s):Ev X 16 [dI k,Ft m,eH s,dI no] [] (QD (IV k m s) (PD k m s no)) []:=by
 refine Ev.ga Tryz.func16 rfl rfl rfl λf=>?_
 have e:=IU (X:=X) k s no d;have c:=GK (X:=X) m s.2.2 d.h;unfold PD IV;cases b:ck k with
 |false =>
  have a:bD X [(35,ui)]:=.cons xa .nil;refine aC a [(18,ab)] 100 rfl (by simp[ag,b]) ?_
  refine AK.freeze 10 2 rfl rfl rfl ?_;exact AK.iR tok [] rfl (by simp[ag.cat,ag,aP.nil]) rfl rfl rfl fO
 |true =>
 generalize jX m s.2.2=q at *;generalize c9 k s no=o at *;have a:bD X [(35,ui),(36,iZ [Ft m,cH.sl s.2.2] (S7 q)),(37,iZ [dI k,eH s,dI no] (Gf (o.getD []) o.isSome))]:=.cons xa (.cons (jC c) (.cons (jC e) .nil))
 by_cases h:q.2=0
 .refine aC a [(18,ae),(29,ae)] 100 rfl ?_ ?_
  .simp only[ag,b,h,dy,kZ,aF,aE];and_intros <;> rfl
  refine AK.freeze 10 2 rfl rfl rfl ?_;exact AK.iR tok [] rfl (by simp[ag.cat,ag,h,aP.same]) rfl rfl rfl fO
 .refine aC a [(18,ae),(29,ab)] 100 rfl ?_ ?_
  .simp only[ag,b,dy,jF,aF,aE];and_intros <;> first|rfl|exact h
  refine AK.freeze 10 2 rfl rfl rfl ?_;exact AK.iR tok [] rfl (by simp[ag.cat,ag,h,aP.nil]) rfl rfl rfl fO
def Dp(k:Int)(m:Int×Int)(s:aZ) (no:Int)(e:dL s):Ev (Cx.beside ah) 20 [dI k,Ft m,eH s,dI no] [] (QD (IV k m s) (PD k m s no)) []:=by
 refine Ev.ga Tryz.func20 rfl rfl rfl λg=>?_
 have f:=si k s no e.s2;have d:=Py (X:=Cx.beside ah) m s.2.2 e.h;have c:=IW (m:=m) (l:=s.2.2);unfold PD IV;cases b:ck k with
 |false =>
  have a:bD (Cx.beside ah) [(41,jZ aI (λk=>dB (ck k)) λ_=>[])]:=.cons t41 .nil
  refine aC a [(18,ab)] 100 rfl (by simp[ag,b]) ?_
  refine AK.freeze 10 2 rfl rfl rfl ?_;exact AK.iR tok [] rfl (by simp[ag.cat,ag,aP.nil]) rfl rfl rfl fO
 |true =>
 generalize jX m s.2.2=q at *;generalize c9 k s no=o at *;have a:bD (Cx.beside ah) [(41,jZ aI (λk=>dB (ck k)) λ_=>[]),(11,iZ [Ft m,cH.sl s.2.2] (S7 q)),(9,iZ [dI k,eH s,dI no] (Gf (o.getD []) o.isSome))]:=.cons t41 (.cons (jC d) (.cons (jC f) .nil))
 by_cases h:q.2=0
 .refine aC a [(18,ae),(28,ae)] 100 rfl ?_ ?_
  .simp only[ag,b,h,dy,kZ,aF,aE];and_intros <;> rfl
  refine AK.freeze 10 2 rfl rfl rfl ?_;exact AK.iR tok [] rfl (by simp[ag.cat,ag,h,aP.same]) rfl rfl rfl fO
 .refine aC a [(18,ae),(28,ab)] 100 rfl ?_ ?_
  .simp only[ag,b,dy,jF,aF,aE];and_intros <;> first|rfl|exact h
  refine AK.freeze 10 2 rfl rfl rfl ?_;exact AK.iR tok [] rfl (by simp[ag.cat,ag,h,c h,aP.nil]) rfl rfl rfl fO
abbrev Wv(w:dC) (b:Int):Int:=w.2.2.2.2.getD (b-1).toNat 0
abbrev DD(w:dC) (b:Int):Int×Int:=w.2.2.2.1.getD (b-1).toNat (0,0)
def sM(w:dC) (b no:Int):Option (List bC):=if eJ w=ab/\(1<=b/\b<=2)/\Wv w b=0 then PD w.1 (DD w b) (iB w) no else af
def pD{w:dC}(h:eJ w=ab):w.2.2.2.1.length=2/\w.2.2.2.2.length=2:=by
 simp only[eJ,bL,ba] at h;exact h.1.1
def Ww(w:dC)(m:Int×Int)(_ c d:Bool):List aV:=match c,d with
 |false,_=>[.cells 35 (Nh w)]
 |true,ae=>[.cells 35 (Nh w),zMm]
 |true,ab=>[.cells 35 (Nh w),Zv m]
def yd(w:dC) (b no:Int)(r:O3 w.2.1.1)(l:1<=b/\b<=3):Ev X 6 [Dz w,dI b,dI no] [] (Gf ((sM w b no).getD []) (sM w b no).isSome) []:=by
 refine Ev.bQ Tryz.func6 rfl λu=>?_
 have q:=CU (X:=X) w r;have a:bD X [(10,iZ [Dz w] (dB (eJ w))),(15,od)]:=.cons (jC q) (.cons oN .nil);unfold sM;cases k:eJ w with
 |false =>
  refine aC a [(14,ab),(19,ab),(28,ab)] 100 rfl ?_ (AK.bn rfl (by simp[ag.cat,ag,aP.nil]))
  simp only[ag,k,ic,aF,aE];and_intros <;> rfl
 |true =>
 obtain⟨v,x⟩:=pD k
 by_cases f:1<=b/\b<=2
 rotate_left
 .rw[aY (by simp[f])]
  refine aC a [(14,ae),(19,ab),(28,ab)] 100 rfl ?_ (AK.bn rfl (by simp[ag.cat,ag,aP.nil]))
  simp only[ag,k,f,kA,dy,ic,aF,aE];and_intros <;> rfl
 by_cases g:Wv w b=0
 rotate_left
 .rw[aY λh=>g h.2.2]
  refine aC a [(14,ae),(19,ae),(28,ab)] 100 rfl ?_ (AK.bn rfl (by simp[ag.cat,ag,aP.nil]))
  simp only[ag,k,f,bx,ig,dy,jF,aF,aE];and_intros <;> first|rfl|omega|exact g
 rw[bd ⟨rfl,f,g⟩];have n:tM w.2.1.1 w.2.2.1=iB w:=by unfold iB;rw[bd k]
 have l:=(zg (X:=X) (kJ k).xw w.2.2.1);rw[n] at l;have m:=Dn (X:=X) w.1 (DD w b) (iB w) no l.z;have l:=l.b;generalize IV w.1 (DD w b) (iB w)=M at *;generalize PD w.1 (DD w b) (iB w) no=o at *;generalize iB w=s at *;have a:bD X [(10,iZ [Dz w] (dB (eJ w))),(15,od),(17,iZ [eH w.2.1.1,gh w.2.2.1] (eH s)),(16,iZ [dI w.1,Ft (DD w b),eH s,dI no] (QD M o))]:=.cons (jC q) (.cons oN (.cons (jC l) (.cons (jC m) .nil)));have p:bx .i64 (b-1):=by simp only[bx];omega
 have t:0<=b-1/\b-1<(w.2.2.2.1.length:Int):=by omega
 refine aC a [(14,ae),(19,ae),(28,ae),(1000003,ab)] 200 rfl ?_ ?_
 .simp only[ag,k,f,bx,ig,dy,bne_eq_false_iff_eq,aF,aE];and_intros <;> first|rfl|omega|exact g
 refine AK.flags ei (λi=>([.e (.one (.ptr 0 0)),dI w.1,.e (.one (.ptr 0 10)),cH.sl w.2.2.2.1,dI b,dI (b-1),.e (.one (.c (.rp [.int .i64 (DD w b).1,.int .i64 (DD w b).2]))),Ft (DD w b),.e (.one (.ptr 0 1)),.e (.one (.ptr 0 1)),eH w.2.1.1,.e (.one (.ptr 0 6)),gh w.2.2.1,eH s,dI no,QD M o,QD M o,.e (.one (.c (.sl ae 2 (o.getD []).length (cF.fn (o.getD []))))),dI M.2,Ft M.1,dB o.isSome,.e (.one (.ptr 1 0)),.e (.one (.c (.sl ae 2 (o.getD []).length (cF.fn (o.getD []))))),dI M.2,.any,dB o.isSome]:List D).getD i .any) (wT (Ww w M.1) 25 21 24) rfl rfl rfl rfl
  ⟨bZ.q3 rfl rfl rfl (λ_ c d=>by cases c <;> cases d <;> exact OA.bT tok a rfl),
  bZ.q3 rfl rfl rfl (λ_ c d=>by cases c <;> cases d <;> exact OA.bT tok a rfl),
  bZ.q3 rfl rfl rfl (λ_ c d=>by cases c <;> cases d <;> exact OA.bT tok a rfl),
  bZ.q3 rfl rfl rfl (λ_ c d=>by cases c <;> cases d <;> exact OA.bT tok a rfl),
  bZ.q3 rfl rfl rfl (λ_ c d=>by cases c <;> cases d <;> exact OA.bT tok a rfl),
  bZ.q3 rfl rfl rfl (λ_ c d=>by cases c <;> cases d <;> exact OA.eval (ds:=[]) tok a rfl p),
  bZ.q3 rfl rfl rfl (λ_ c d=>by cases c <;> cases d <;> exact OA.eval (ds:=[]) tok a rfl t),
  bZ.q3 rfl rfl rfl (λ_ c d=>by cases c <;> cases d <;> exact OA.bT tok a rfl),
  bZ.q3 rfl rfl rfl (λ_ c d=>by cases c <;> cases d <;> exact OA.bT tok a rfl),
  bZ.q3 rfl rfl rfl (λ_ c d=>by cases c <;> cases d <;> exact OA.bT tok a rfl),
  bZ.q3 rfl rfl rfl (λ_ c d=>by cases c <;> cases d <;> exact OA.bT tok a rfl),
  bZ.q3 rfl rfl rfl (λ_ c d=>by cases c <;> cases d <;> exact OA.bT tok a rfl),
  bZ.q3 rfl rfl rfl (λ_ c d=>by cases c <;> cases d <;> exact OA.bT tok a rfl),
  bZ.q3 rfl rfl rfl (λ_ c d=>by cases c <;> cases d <;> exact OA.eval (ds:=[]) tok a rfl rfl),
  bZ.q3 rfl rfl rfl (λ_ c d=>by cases c <;> cases d <;> exact OA.bT tok a rfl),
  bZ.q3 rfl rfl rfl (λ_ c d=>by cases c <;> cases d <;> exact OA.eval (ds:=[]) tok a rfl rfl),
  bZ.q3 rfl rfl rfl (λ_ c d=>by cases c <;> cases d <;> exact OA.bT tok a rfl),
  bZ.q3 rfl rfl rfl (λ_ c d=>by cases c <;> cases d <;> exact OA.bT tok a rfl),
  bZ.q3 rfl rfl rfl (λ_ c d=>by cases c <;> cases d <;> exact OA.bT tok a rfl),
  bZ.q3 rfl rfl rfl (λ_ c d=>by cases c <;> cases d <;> exact OA.bT tok a rfl),
  bZ.q3 rfl rfl rfl (λ_ c d=>by cases c <;> cases d <;> exact OA.bT tok a rfl),
  bZ.e2 rfl rfl rfl rfl rfl (λ_=>en (ds:=[]) tok a (σ':=aa _) rfl av),
  bZ.q3 rfl rfl rfl (λ_ c d=>by cases c <;> cases d <;> exact OA.bT tok a rfl),
  bZ.q3 rfl rfl rfl (λ_ c d=>by cases c <;> cases d <;> exact OA.bT tok a rfl),
  bZ.e3 rfl rfl rfl rfl rfl (λ_=>en (ds:=[]) tok a (σ':=aa _) rfl av),
  bZ.e1 rfl rfl rfl rfl (λc d=>by cases c <;> cases d <;> exact OA.bT tok a rfl),av⟩ ?_
 intro D j;show AK X _ _ _ _ _ (Ww w M.1 (D 25) (D 21) (D 24));rw[j 25 (by decide),j 21 (by decide),j 24 (by decide)]
 exact aC a [] 200 rfl av (AK.bn rfl (by simp[ag.cat,ag,aP.same]))
def ye(w:dC) (b no:Int)(p:L8 w.2.1)(y:1<=b/\b<=3):Ev (Cx.beside ah) 7 [Dz w,dI b,dI no] [] (Gf ((sM w b no).getD []) (sM w b no).isSome) []:=by
 refine Ev.bQ Tryz.func7 rfl λu=>?_
 have q:=um w p;have a:bD (Cx.beside ah) [(18,iZ [Dz w] (dB (eJ w))),(19,M0)]:=.cons (jC q) (.cons QC .nil);unfold sM;cases k:eJ w with
 |false =>
  refine aC a [(14,ab),(19,ab),(28,ab)] 100 rfl ?_ (AK.bn rfl (by simp[ag.cat,ag,aP.nil]))
  simp only[ag,k,ic,aF,aE];and_intros <;> rfl
 |true =>
 obtain⟨v,x⟩:=pD k
 by_cases f:1<=b/\b<=2
 rotate_left
 .rw[aY (by simp[f])]
  refine aC a [(14,ae),(19,ab),(28,ab)] 100 rfl ?_ (AK.bn rfl (by simp[ag.cat,ag,aP.nil]))
  simp only[ag,k,Tx,f,kA,dy,ic,aF,aE];and_intros <;> rfl
 by_cases g:Wv w b=0
 rotate_left
 .rw[aY λh=>g h.2.2]
  refine aC a [(14,ae),(19,ae),(28,ab)] 100 rfl ?_ (AK.bn rfl (by simp[ag.cat,ag,aP.nil]))
  simp only[ag,k,Tx,f,bx,ig,dy,jF,aF,aE];and_intros <;> first|rfl|omega|exact g
 rw[bd ⟨rfl,f,g⟩];have m:=IL w p;have r:=Di (w:=w);have l:=Dp w.1 (DD w b) (iB w) no r;generalize IV w.1 (DD w b) (iB w)=M at *;generalize PD w.1 (DD w b) (iB w) no=o at *;generalize iB w=s at *;have a:bD (Cx.beside ah) [(18,iZ [Dz w] (dB (eJ w))),(19,M0),(21,iZ [Dz w] (eH s)),(20,iZ [dI w.1,Ft (DD w b),eH s,dI no] (QD M o))]:=.cons (jC q) (.cons QC (.cons (jC m) (.cons (jC l) .nil)));have n:bx .i64 (b-1):=by simp only[bx];omega
 have t:0<=b-1/\b-1<(w.2.2.2.1.length:Int):=by omega
 refine aC a [(14,ae),(19,ae),(28,ae),(1000003,ab)] 200 rfl ?_ ?_
 .simp only[ag,k,Tx,f,bx,ig,dy,bne_eq_false_iff_eq,aF,aE];and_intros <;> first|rfl|omega|exact g
 refine AK.flags ei (λi=>([.e (.one (.ptr 0 0)),dI w.1,.e (.one (.ptr 0 10)),cH.sl w.2.2.2.1,dI b,dI (b-1),.e (.one (.c (.rp [.int .i64 (DD w b).1,.int .i64 (DD w b).2]))),Ft (DD w b),Dz w,eH s,dI no,QD M o,QD M o,.e (.one (.c (.sl ae 2 (o.getD []).length (cF.fn (o.getD []))))),dI M.2,Ft M.1,dB o.isSome,.e (.one (.ptr 1 0)),.e (.one (.c (.sl ae 2 (o.getD []).length (cF.fn (o.getD []))))),dI M.2,.any,dB o.isSome]:List D).getD i .any) (wT (Ww w M.1) 21 17 20) rfl rfl rfl rfl
  ⟨bZ.q3 rfl rfl rfl (λ_ c d=>by cases c <;> cases d <;> exact OA.bT tok a rfl),
  bZ.q3 rfl rfl rfl (λ_ c d=>by cases c <;> cases d <;> exact OA.bT tok a rfl),
  bZ.q3 rfl rfl rfl (λ_ c d=>by cases c <;> cases d <;> exact OA.bT tok a rfl),
  bZ.q3 rfl rfl rfl (λ_ c d=>by cases c <;> cases d <;> exact OA.bT tok a rfl),
  bZ.q3 rfl rfl rfl (λ_ c d=>by cases c <;> cases d <;> exact OA.bT tok a rfl),
  bZ.q3 rfl rfl rfl (λ_ c d=>by cases c <;> cases d <;> exact OA.eval (ds:=[]) tok a rfl n),
  bZ.q3 rfl rfl rfl (λ_ c d=>by cases c <;> cases d <;> exact OA.eval (ds:=[]) tok a rfl t),
  bZ.q3 rfl rfl rfl (λ_ c d=>by cases c <;> cases d <;> exact OA.bT tok a rfl),
  bZ.q3 rfl rfl rfl (λ_ c d=>by cases c <;> cases d <;> exact OA.bT tok a rfl),
  bZ.q3 rfl rfl rfl (λ_ c d=>by cases c <;> cases d <;> exact OA.eval (ds:=[]) tok a rfl rfl),
  bZ.q3 rfl rfl rfl (λ_ c d=>by cases c <;> cases d <;> exact OA.bT tok a rfl),
  bZ.q3 rfl rfl rfl (λ_ c d=>by cases c <;> cases d <;> exact OA.eval (ds:=[]) tok a rfl rfl),
  bZ.q3 rfl rfl rfl (λ_ c d=>by cases c <;> cases d <;> exact OA.bT tok a rfl),
  bZ.q3 rfl rfl rfl (λ_ c d=>by cases c <;> cases d <;> exact OA.bT tok a rfl),
  bZ.q3 rfl rfl rfl (λ_ c d=>by cases c <;> cases d <;> exact OA.bT tok a rfl),
  bZ.q3 rfl rfl rfl (λ_ c d=>by cases c <;> cases d <;> exact OA.bT tok a rfl),
  bZ.q3 rfl rfl rfl (λ_ c d=>by cases c <;> cases d <;> exact OA.bT tok a rfl),
  bZ.e2 rfl rfl rfl rfl rfl (λ_=>en (ds:=[]) tok a (σ':=aa _) rfl av),
  bZ.q3 rfl rfl rfl (λ_ c d=>by cases c <;> cases d <;> exact OA.bT tok a rfl),
  bZ.q3 rfl rfl rfl (λ_ c d=>by cases c <;> cases d <;> exact OA.bT tok a rfl),
  bZ.e3 rfl rfl rfl rfl rfl (λ_=>en (ds:=[]) tok a (σ':=aa _) rfl av),
  bZ.e1 rfl rfl rfl rfl (λc d=>by cases c <;> cases d <;> exact OA.bT tok a rfl),av⟩ ?_
 intro D j;show AK (Cx.beside ah) _ _ _ _ _ (Ww w M.1 (D 21) (D 17) (D 20));rw[j 21 (by decide),j 17 (by decide),j 20 (by decide)]
 exact aC a [] 200 rfl av (AK.bn rfl (by simp[ag.cat,ag,aP.same]))
section
variable [X.jr]
def Zy(k:Nat)(a b c:Bool):Nat:=match c with
 |true=>k+3
 |false=>match b with
  |true=>k+2
  |false=>match a with
   |true=>k+1
   |false=>k
def dlB(m:Nat)(f:Nat->Int)(w:dC)(k:Nat)(a b c d:Bool):List aV:=match d with
 |false=>[oq,lx m f (Zy k a b c),pB w.2.1]++Wu w.2.2.2.1 w.2.2.2.2++[.cells 35 (Fo w 2 3)]
 |true=>[.cells 35 (Fo w 2 3),lx m f (Zy k a b c),pB w.2.1]++Wu w.2.2.2.1 w.2.2.2.2++[.cells 35 (Fo w 2 3)]
abbrev xDl(w:dC) (v1 v2 v3:Int)(i:Nat):D :=
 [.e (.agg (Fo w 2 3)),.e (.one (.ptr 1 0)),dI v1,dI (1+v1),.e (.one (.ptr 1 0)),dI v2,dI (v2 / 23),dI (1+v1+v2 / 23),.e (.one (.ptr 1 0)),.e (.one (.ptr 5 1)),.e (.one (.ptr 5 1)),.e (.one (.ptr 5 3)),cH.sl w.2.1.1.2.2,dI w.2.1.1.2.2.length,dI (w.2.1.1.2.2.length+1),dI v3,dI (1+v3),.any,dI (1+v1+v2 / 23),dI (1+v3)].getD i .any
abbrev dWl(w:dC) (b no:Int):D:=.eK [.agg (Nh w),.one (.c (.int .i64 b)),.one (.c (.int .i64 no))]
def Nk.Zz{k:Nat}(q:Nk k):q.w.2.1.1.2.2.length<=9:=by
 rw[(tN q.v (fH q.es)).1];exact(pC q.es).w.s.a5
set_option maxRecDepth 20000 in
def Dq(m:Nat)(f:Nat->Int)(k:Bytes f)(p:m<=1048576) :
  cM (ι:={ x:Nk 0×Int×Int // 1<=x.2.1/\x.2.1<=3 }) X 5 [.e (.one (.c (.sl ae 1 m (Sm f))))] [] (λx=>dWl x.1.1.w x.1.2.1 x.1.2.2) (λ_=>[]):=by
 refine cM.Jt Tryz.func5 rfl rfl (db rfl) (AK.of_code ?_);refine bk rfl av ?_;refine AK.cP (O9 m f p) [] rfl (λ_=>rfl) ?_
 rintro⟨i,hm'⟩;refine bk rfl av ?_;refine AK.cP (Fp i f k 0 (by omega) hm') [1] rfl (λ_=>rfl) ?_
 intro q;have o:=q.hi;have r:=q.Zz;have n:=pq (X:=X) i f k q.k1 2 (by omega) hm' (by omega)
 have p2:=pq (X:=X) i f k (q.k1+1) 24 (by omega) hm' (by omega)
 have p3:=pq (X:=X) i f k (q.k1+2) (q.w.2.1.1.2.2.length+1) (by omega) hm' (by omega)
 have s:=kU i f q.k1 2 (by omega)
 have t:=kU i f (q.k1+1) 24 (by omega)
 have u:=kU i f (q.k1+2) (q.w.2.1.1.2.2.length+1) (by omega)
 generalize oz i f q.k1 2=v1 at *;generalize oz i f (q.k1+1) 24=v2 at *;generalize oz i f (q.k1+2) (q.w.2.1.1.2.2.length+1)=v3 at *;have g:bD X []:=bD.nil;have c1:bD X [(14,wV [.e (.one (.ptr 0 0)),dI 2] [lx i f q.k1] (dI v1) [lx i f (q.k1+1)])]:=.cons (yK n) .nil;have c2:bD X [(14,wV [.e (.one (.ptr 0 0)),dI 24] [lx i f (q.k1+1)] (dI v2) [lx i f (q.k1+1+1)])]:=.cons (yK p2) .nil;have c3:bD X [(14,wV [.e (.one (.ptr 0 0)),dI (q.w.2.1.1.2.2.length+1)] [lx i f (q.k1+2)] (dI v3) [lx i f (q.k1+2+1)])]:=.cons (yK p3) .nil;refine aX [(1000003,ab)] 100 rfl av ?_;refine AK.flags ei (xDl q.w v1 v2 v3) (vW (dlB i f q.w q.k1) 2 5 15 17) rfl rfl rfl rfl
  ⟨bZ.q4 rfl rfl rfl rfl (λa b c d=>by cases d <;> exact OA.bT tok g rfl),
  bZ.q4 rfl rfl rfl rfl (λa b c d=>by cases d <;> exact OA.bT tok g rfl),
  bZ.c1 rfl rfl rfl rfl rfl rfl (en (ds:=[]) tok c1 (σ':=aa _) rfl ⟨rfl,rfl⟩),
  bZ.q4 rfl rfl rfl rfl (λa b c d=>by cases d <;> exact OA.eval (ds:=[]) tok g rfl (by simp only[ag,bx,aE];omega)),
  bZ.q4 rfl rfl rfl rfl (λa b c d=>by cases d <;> exact OA.bT tok g rfl),
  bZ.c2 rfl rfl rfl rfl rfl rfl (en (ds:=[]) tok c2 (σ':=aa _) rfl ⟨rfl,rfl⟩),
  bZ.q4 rfl rfl rfl rfl (λa b c d=>by cases d <;> exact OA.eval (ds:=[]) tok g rfl (by simp only[ag,aE];omega)),
  bZ.q4 rfl rfl rfl rfl (λa b c d=>by cases d <;> exact OA.eval (ds:=[]) tok g rfl (by simp only[ag,bx,aE];omega)),
  bZ.q4 rfl rfl rfl rfl (λa b c d=>by cases d <;> exact OA.bT tok g rfl),
  bZ.q4 rfl rfl rfl rfl (λa b c d=>by cases d <;> exact OA.bT tok g rfl),
  bZ.q4 rfl rfl rfl rfl (λa b c d=>by cases d <;> exact OA.bT tok g rfl),
  bZ.q4 rfl rfl rfl rfl (λa b c d=>by cases d <;> exact OA.bT tok g rfl),
  bZ.q4 rfl rfl rfl rfl (λa b c d=>by cases d <;> exact OA.bT tok g rfl),
  bZ.q4 rfl rfl rfl rfl (λa b c d=>by cases d <;> exact OA.bT tok g rfl),
  bZ.q4 rfl rfl rfl rfl (λa b c d=>by cases d <;> exact OA.eval (ds:=[]) tok g rfl (by simp only[ag,bx,aE];omega)),
  bZ.c3 rfl rfl rfl rfl rfl rfl (en (ds:=[]) tok c3 (σ':=aa _) rfl ⟨rfl,rfl⟩),
  bZ.q4 rfl rfl rfl rfl (λa b c d=>by cases d <;> exact OA.eval (ds:=[]) tok g rfl (by simp only[ag,bx,aE];omega)),
  bZ.c4 rfl rfl rfl rfl rfl rfl (en (ds:=[]) tok g (σ':=aa _) rfl av),
  bZ.q4 rfl rfl rfl rfl (λa b c d=>by cases d <;> exact OA.bT tok g rfl),
  bZ.q4 rfl rfl rfl rfl (λa b c d=>by cases d <;> exact OA.bT tok g rfl),av⟩ ?_
 intro D j;show AK X _ _ _ _ _ (dlB i f q.w q.k1 (D 2) (D 5) (D 15) (D 17));rw[j 2 (by decide),j 5 (by decide),j 15 (by decide),j 17 (by decide)]
 refine AK.rO 3 rfl rfl rfl (by simp[ag.cat,ag]) (by simp[ag.cat,ag]) ?_
 refine AK.rO 4 rfl rfl rfl (by simp[ag.cat,ag]) (by simp[ag.cat,ag]) ?_
 refine AK.norm [.cells 35 (Nh q.w),lx i f (q.k1+3),pB q.w.2.1,.dead,.dead,.cells 35 (Nh q.w)] rfl (by simp[ag.cat,ag,aP.same,uB,Zy]) ?_
 refine AK.freeze 2 0 rfl rfl rfl ?_;have l:1<=1+v1+v2 / 23/\1+v1+v2 / 23<=3:=by omega
 refine AK.iF (λ_ _ _ h=>⟨⟨(q,1+v1+v2 / 23,1+v3),l⟩,h⟩) ?_
 exact AK.iR tok [] rfl (by simp[ag.cat,ag,aP.same]) rfl rfl rfl fO
end
end
def xB{k:Int}{ps:List bw}{n:Int}{p:Bs}(h:cU k ps n=aa p):bG p=ab/\hO k p=n/\n∈bO ps:=by
 unfold cU at h;obtain⟨pk,c,a⟩:=List.exists_of_findSome?_eq_some h;unfold dA at a;split at a
 .rename_i x b
  have e:x.1=n:=by simpa using List.find?_some b
  have d:=zl b;unfold chunk eU at a;refine⟨by grind,by grind,pH.2 ⟨pk,c,lB.2 ⟨x,d,e⟩⟩⟩
 .cases a
def Fu{k:Int}{ps:List bw}{n:Int}(l:ck k=ab)(i:∀ p∈ps,y9 k p)(h:n∈bO ps):∃ p,cU k ps n=aa p:=by
 obtain⟨pk,c,d⟩:=pH.1 h;obtain⟨x,j,g⟩:=lB.1 d;cases e:cU k ps n with
 |some p=>exact⟨p,rfl⟩
 |none =>
  have b:dA k pk n=af:=List.findSome?_eq_none_iff.1 e pk c;unfold dA at b;split at b
  .rename_i y a
   have m:y.1=n:=by simpa using List.find?_some a
   have f:=(i pk c).rt y (zl a);unfold right at f;unfold chunk at b
   grind
  .rename_i a
   have:=rh.1 a x j
   grind
def IX{k:Int}{ps qs:List bw}(a:ck k=ab)(f:∀ p∈ps,y9 k p)(j:∀ n∈bO qs,n∈bO ps){n:Int}{p:Bs}(h:cU k qs n=aa p):cU k ps n=aa p:=by
 obtain⟨i,e,c⟩:=xB h;obtain⟨q,b⟩:=Fu a f (j n c);obtain⟨d,g,_⟩:=xB b;rw[b,Is a i d (e.trans g.symm)]
def Fv{k:Int}{ps qs:List bw}(g:∀ (n:Int)(p:Bs),cU k qs n=aa p->cU k ps n=aa p){x:gj}{f:bC}(h:fileOf k qs x=aa f):fileOf k ps x=aa f:=by
 have key:∀ l,dF k qs x.2=aa l->dF k ps x.2=aa l:=by
  intro l b;unfold dF at *;split at b
  .rename_i c
   cases b;have e:∀ n∈x.2,cU k ps n=cU k qs n:=λn a=>by
    have:=bu.1 c n a;obtain⟨p,d⟩:=Option.isSome_iff_exists.1 this;rw[d,g n p d]
   rw[bd (bu.2 λn a=>by rw[e n a];exact bu.1 c n a),List.map_congr_left λn a=>by rw[e n a]]
  .cases b
 unfold fileOf at *;split at h
 .cases h
 .rename_i l b
  rw[key l b];exact h
def Bj{k:Int}{ps qs:List bw}(d:∀ (n:Int)(p:Bs),cU k qs n=aa p->cU k ps n=aa p){x:cy}{t:List bC}(h:cm k x qs=aa t):cm k x ps=aa t:=by
 unfold cm at *;split at h
 .rename_i b
  cases h;simp only[bL] at b;have e:∀ y∈x.2,fileOf k ps y=fileOf k qs y:=λy a=>by
   obtain⟨f,c⟩:=Option.isSome_iff_exists.1 (bu.1 b.1.2 y a);rw[c,Fv d c]
  have g:cT k ps x.2=cT k qs x.2:=List.map_congr_left λy a=>by rw[e y a]
  have i:(x.2.all λy=>(fileOf k ps y).isSome)=ab:=bu.2 λy a=>by rw[e y a];exact bu.1 b.1.2 y a
  rw[g,i,b.1.1,b.2];rfl
 .cases h
def M3{l:List cy}(a:l.Pairwise λx y=>x.1<y.1){p:cy->Bool}{no:Int}{x:cy}(h:(l.filter p).find? (λx=>x.1==no)=aa x):l.find? (λx=>x.1==no)=aa x:=by
 have c:=(mO.1 (zl h)).1;have d:x.1=no:=by simpa using List.find?_some h
 obtain⟨i,hi,rfl⟩:=dH c;rw[vo];refine⟨by simpa using d,i,hi,rfl,λj b=>?_⟩
 have:=j4.1 a j i (by omega) hi b
 simp;omega
def M4{k:Int}{s:aZ}(e:qS k s){l:c8}{no:Int}{t:List bC}(h:c9 k (tM s l) no=aa t):c9 k s no=aa t:=by
 have sub:∀ d:List bw,(∀ n∈bO d,n∈bO s.1)->c9 k (d,s.2) no=aa t->c9 k s no=aa t:=by
  intro d i h;unfold c9 at *;simp only at h;split at h
  .cases h
  .exact Bj (λn p=>IX e.key e.pk i) h
 unfold tM at h;split at h
 .refine sub _ (λn f=>?_) h
  simp only[bO,pH,mO] at *
  grind
 split at h
 .split at h
  .exact h
  .unfold c9 at *;simp only at h;split at h
   .cases h
   .rename_i x a
    rw[M3 e.sa a];exact h
 split at h
 .refine sub (s.1.map (Bi l)) (λn f=>?_) h
  simp only[bO,pH,lB] at *;obtain⟨p,⟨c,b,rfl⟩,x,a,rfl⟩:=f;unfold Bi at a;split at a
  .obtain⟨j,g,rfl⟩:=dH a;simp only[dn,nL] at g;refine⟨c,b,c.2[j],nG g,?_⟩;simp only[dn,List.getElem_set]
   grind
  .exact⟨c,b,x,a,rfl⟩
 split at h
 .split at h
  .exact h
  .exact h
 .exact h
section
open Go.Proofs
variable {X:Cx ah}
abbrev XB:Cx ah:=Cx.beside ah
def Ta(l:List bC):Ev X 8 [cF.sl l,cF.sl l] [] (dB ab) []:=by
 refine Ev.bQ Tryz.func8 rfl λa=>?_
 have b:=a.sl 0 rfl;refine aX [(10,ae)] 100 rfl (by simp[ag]) ?_
 refine AK.bP 0 (λi=>i<=l.length) (λi:Nat=>[(0,cF.sl l),(1,cF.sl l),(5,dI i)]) (λ_=>[]) (λi=>l.length-i) 0 rfl (by simp[ag.cat,ag,aP.same]) rfl (by simp[ag]) rfl (by omega) ?_
 intro i hi
 by_cases h:i<l.length
 .refine aX [(14,ab),(25,ae)] 200 rfl ?_ (AK.aQ (i+1) rfl ?_ ?_ ?_ ?_)
  .simp[ag,bx,h];omega
  .simp[ag.cat,ag,aP.same]
  .simp[ag]
  .show i+1<=_;omega
  .omega
 .refine aX [(14,ae)] 200 rfl (by simp[ag];omega) (AK.leaveD rfl rfl ?_)
  refine dY rfl av (AK.bn rfl ?_);simp[ag]
def L8.VQ{w:cN}(h:L8 w):iT w.1:=h.toQs.toO3.sm
abbrev oT(o:Option (List bC)):D:=Gf (o.getD []) o.isSome
abbrev ckL(w:dC) (b no:Int)(o a:Option (List bC)):List (Nat×dk):=[(6,iZ [Dz w,dI b,dI no] (oT o)),(7,iZ [Dz w,dI b,dI no] (oT o)),(8,iZ [cF.sl (o.getD []),cF.sl (o.getD [])] (dB ab)),(9,iZ [dI w.1,eH w.2.1.1,dI no] (oT a))]
def okL(w:dC) (b no:Int)(a:L8 w.2.1)(c:1<=b/\b<=3):bD XB (ckL w b no (sM w b no) (c9 w.1 w.2.1.1 no)) :=
 .cons (jC (yd w b no a.toO3 c)) (.cons (jC (ye w b no a c)) (.cons (jC (Ta _)) (.cons (jC (si _ _ _ a.VQ)) .nil)))
def uJ(m:Nat)(b:Nat->Int)(p:Bytes b)(u:m<=9223372036854775807):Ev XB 3 [.e (.one (.c (.sl ae 1 m (Sm b))))] [] (dB ab) []:=by
 refine Ev.bQ Tryz.func3 rfl λr=>?_
 by_cases s:m>1048576
 .refine aX [(14,ab)] 100 rfl (by simp only[ag,ba];omega) (AK.bn rfl (by simp[ag]))
 refine aX [(14,ae)] 100 rfl (by simp only[ag,bM];omega) ?_
 refine AK.cP (Dq m b p (by omega)) [] rfl (λ_=>rfl) ?_
 rintro⟨⟨q,i,no⟩,hi⟩;simp only at hi;have n:=q.VJ;generalize q.w=w at *;have d:=okL w i no n hi;cases a:sM w i no with
 |none =>
  rw[a] at d;refine aC d [(37,ae),(43,ae),(47,ab),(50,ab)] 200 rfl ?_ (AK.bn rfl (by simp[ag]))
  simp only[ag,aF,aE]
  and_intros <;> rfl
 |some t =>
  rw[a] at d;obtain⟨g,o,j,f⟩:eJ w=ab/\(1<=i/\i<=2)/\Wv w i=0/\PD w.1 (DD w i) (iB w) no=aa t:=by
   unfold sM at a;split at a
   .rename_i h;exact⟨h.1,h.2.1,h.2.2,a⟩
   .cases a
  have l:=(pD g).2;have k:c9 w.1 w.2.1.1 no=aa t:=by
   unfold PD iB at f;rw[bd g] at f;split at f
   .exact M4 (kJ g).toqS f
   .cases f
  rw[k] at d;refine aC d [(37,ae),(43,ae),(47,ae),(71,ab),(80,ab)] 200 rfl ?_ (AK.bn rfl (by simp[ag]))
  simp only[ag,bx,aF,aE]
  and_intros <;> first|rfl|omega|exact fS.2 j
end
end Go.AM.R1
namespace Go.AM
section
open Go.RowKit
open Go.Conc (G solo crowd AtRel Past EvL Leavers)
def St.top(w:az):St:={ β:=[],M:=λb o=>w.cell? ⟨b,o,af⟩,w:=w,own:=λb=>b<w.heap.size }
def aJ.top(w:az):aJ [] (St.top w):=⟨λ_ _ _ h=>h,rfl,by simp,by simp[St.top],by simp[St.top],λb hb=>⟨hb,by simp[St.top]⟩⟩
def RB{P:aq}{f:aW}{a:aR}{v:ak}{s:St}(h:ux P f a v s)(hi:P.inits.idxOf? f=af)(w:az)(l:∀ b o u,s.M b o=aa u->w.cell? ⟨b,o,af⟩=aa u):∃ es,aK P ab (G a []) w=.ended (.done v) w es/\∀ e∈es,∃ b o u,e=⟨.cell ⟨b,o,af⟩,ae,ae⟩/\s.M b o=aa u:=by
 obtain⟨fn,g,c⟩:=h.fn;obtain⟨j,k⟩:=c w l;refine⟨seen P a.fn ((results fn a.tmps).events P w #[]),?_,λe i=>k e (Go.Conc.mem_seen i)⟩
 have d:P.inits.idxOf? a.fn=af:=by rw[h.isF];exact hi
 simp[G,aK,unwind,doReturn,h.mode,h.defers,h.kind,g,j,d,GStep.after]
def cM.XX{P:aq}{ι:Type}{f:aW}{args:List D}{res:ι->D}{σ':ι->List aV}(h:cM (Cx.beside P) f args [] res σ')(hi:P.inits.idxOf? f=af){w:az}{vs:List ak}(Q:cz [] (St.top w) vs args){Post:ak->az->Prop}
  (H:∀ i v s',dc (σ' i) s' v (res i)->aJ (σ' i) s'->Below w.heap.size w s'.w->∀ d,Post v (s'.w.at d)) :
  ∃ M last o w' t',runNT P (M+1) (solo (G (Frame.enter P f vs.toArray .normal) []) w) #[]=(.ended o w',t')/\runN P M (solo (G (Frame.enter P f vs.toArray .normal) []) w)=.next last /\
   step P last=.ended o w'/\Go.Conc.Good P Post last o w' t':=by
 have key:=h.2 (St.top w) vs Q (aJ.top w) (λg s'=>∃ i v fr,g=G fr []/\ux P f fr v s'/\dc (σ' i) s' v (res i)/\aJ (σ' i) s'/\Below w.heap.size w s'.w) []
  (λi fr v s' h1 h2 h3 h4=>.stop ⟨i,v,fr,rfl,h1,h2,h3,⟨h4.os,h4.tape,h4.output,h4.size,λk y=>h4.eN k y⟩⟩)
 have A:AM.lS (λ_=>False)=λ_=>False:=by funext l;cases l <;> rfl
 obtain⟨N,r,q,g',s',c,t',R,h1,h2,h3,h4,x,K,T,⟨i,v,fr,rfl,k1,F,t,L⟩⟩:=key.beside (λ_=>False) #[G (Frame.enter P f vs.toArray .normal) []] af #[] (λ_=>0) (aJ.top w).mem rfl (Go.Conc.leavers_one P _)
  (by rw[A];exact Go.Conc.past_nil.mono (gD _)) ⟨λ_ h=>h.elim,λ_ h=>h.elim,λ_ h=>h.elim,λ_ h=>h.elim⟩ (λa=>by intro i hi;simp[Trace.act?] at hi)
 have j:=Go.Conc.beside_ends (P:=P) (Shun:=AM.lS r) (B:=s'.w.heap.size) (D:=λ_ _ _=>False) (Post:=Post) (λ_ _ _ h=>h.elim) (sl:=c) (n:=0) h3 h4 x (Go.Conc.Goes.stop λw1 QR=>by
  obtain⟨d,rfl⟩:=QR;obtain⟨es,e1,e2⟩:=RB k1 hi (s'.w.at d) (λb o u p=>h2 b o u p)
  refine⟨rfl,v,es,e1,λe I=>?_,H i v s' F t L d⟩
  obtain⟨b,o,u,rfl,p⟩:=e2 e I;refine Go.Conc.evL_cell _ _ (λz=>?_) (gz.lt h2 p)
  have:=K.M b z o;rw[p] at this;cases this)
 obtain⟨m,last,o,w',E,s,S,O,J⟩:=j;refine⟨N+m,last,o,w',E,?_,?_,O,J⟩
 .rw[show N+m+1=N+(m+1) by omega]
  exact(runNT_add N (m+1) h1).trans s
 .have e:=runNT_fst P N (crowd #[G (Frame.enter P f vs.toArray .normal) []] w af) #[];have C:(runNT P N (crowd #[G (Frame.enter P f vs.toArray .normal) []] w af) #[]).1=.next (crowd q s'.w c):=by
   have:runNT P N (crowd #[G (Frame.enter P f vs.toArray .normal) []] w af) #[]=_:=h1;rw[this]
  grind [Go.Conc.solo_eq_crowd,runN_add]
end
section
open Go.ChangeShapes Go.WideShapes Go.ChangeAt Go.RowKit
def CB{H:Type}{enc:ar×ak->H}{a:Assume}{C:Checked}{os:Os}{f:aW}{fn:Func}{s:ChangeSpec}{g:List PathCond}{apart fresh handsOn again:Bool}{X:az->Array ak->Prop}
  (J:∀ (w w':az) (args:Array ak),w.heap=w'.heap->X w args->X w' args)
  (own:ownKnob C.prog.godebug=af) (d:os.Started) (q:C.prog.funcs[f]?=aa fn)
  (h:∃ (w:az) (b:Tape) (i:Input),w.os=os/\(w.forCall b i).Shaped C.prog/\i.vars=[]/\Input.okWide C.prog (w.forCall b i) .any w.heap.size f i /\
   ((s.pre enc C.prog fn g apart (w.forCall b i).memory i.args/\X (w.forCall b i).memory i.args)/\sizedMet enc C.prog fn (OpenSpec.ofChange s) apart (w.forCall b i).memory i.args)/\a.holds C.prog (lone (Frame.enter C.prog f i.args .normal) [] (w.forCall b i)))
  (m:∀ (W:az) (base:Nat) (args:Array ak) (ds gs:List (DataW H)) (c:List MemPlace),
   (∀ (j:Nat) t v,fn.params[j]?=aa t->args[j]?=aa v->Value.okWide C.prog W .any base t v) ->
   DataW.Whole enc C.prog fn.params.toList s.vars apart W args.toList ds gs c ->
   ∃ M last o w' t',runNT C.prog (M+1) (Conc.solo (Conc.G (Frame.enter C.prog f args .normal) []) W) #[]=(.ended o w',t')/\runN C.prog M (Conc.solo (Conc.G (Frame.enter C.prog f args .normal) []) W)=.next last /\
    step C.prog last=.ended o w'/\Conc.Good C.prog (λv E=>s.post enc C.prog fn apart fresh handsOn again W args v E) last o w' t') :
  ReturnsInLeavingWide a C os f .any (λw args=>(s.pre enc C.prog fn g apart w args/\X w args)/\sizedMet enc C.prog fn (OpenSpec.ofChange s) apart w args) (s.post enc C.prog fn apart fresh handsOn again):=by
 refine returnsInLeavingWide_of_good own d h ?_;intro w b i _ _ _ u n p;obtain⟨_,_,_,r,l,_,_,_,_,k⟩:=u;have e:r=fn:=uV (l.symm.trans q);subst e;obtain⟨⟨⟨ds,gs,c,D,K⟩,L⟩,I⟩:=n;have x:=DataW.Whole.of_heap (w':=w.forCall b i) (by rfl) D
 obtain⟨M,last,o,w',t',F,B,A,y⟩:=m (w.forCall b i) w.heap.size i.args ds gs c k x;exact⟨M,last,o,w',t',F,B,A,y.mono λv z=>ChangeSpec.post_blind z⟩
def H3(k:Looks){p:Pinned}{s:OpenSpec}{c:OpenClaim}(l:List (List PathCond))(kinds:List LaidKind)(a:Bool)(b:Bool×String)(lk:Bool)
  (y:c.holds p s) (m:∀ D∈l,(c.withDomain D).holds p s) (x:c.wfByText s=ab) (i:∀ D∈l,(c.withDomain D).wfByText s=ab)
  (d:c.laidByTextAt k p kinds a)
  (g:c.start=.entering) (e:c.noBlocks=ae/\c.again=ae) (q:p.checked.prog.mainIs=aa (b.1,b.2.toList)) (v:(!b.1&&b.2.isEmpty&&!lk)=ae)
  (u:∀ f fn,p.checked.prog.funcNamed c.func=aa f->p.checked.prog.funcs[f]?=aa fn->lk=p.checked.prog.looks []/\∀ (j:Nat) t,fn.params[j]?=aa t->p.checked.prog.wantsStandIn t=ae)
  (w:ab=c.goesBy p.checked.prog) :
  Claim7.holds p (.plain s) { stood:={ row:=c,standIns:=[],harness:=b,looks:=lk },kinds:=[],alts:=l,goes:=ab,laidByText:=ab,laidKinds:=kinds,laidTests:=a,laidLooks:=k }:=by
 have o:∀ r:OpenClaim,Claim7.isSixth { stood:={ row:=r,standIns:=[],harness:=b,looks:=lk },kinds:=[] }=ae:=λr=>by simpa[Claim7.isSixth] using v
 refine⟨Claim7.tied_new_at k kinds a (Claim7.new_of_sixth y b lk g e q (o c) u) x,λD n=>?_,d,(λh=>by cases h),w⟩
 exact Claim7.tied_new_at k kinds a (Claim7.new_of_sixth (m D n) b lk g e q (o _) u) (i D n)
end
end Go.AM
