/-
  Part 3: a machine of values without memory, sound over the model, and contracts of functions. No condition.
-/
import Derived.Test.YtemefbgdmkionaaGreatDoorA2
import Derived.Laws.MakeOwn
import Derived.Lib.SliceRun
import Derived.Sort.AssemblyPlain
import Derived.Sort.LotD5
import Derived.Sort.Walk13a
import Derived.Conc.Beside
import Derived.Conc.CrowdRun
set_option linter.unusedVariables false
set_option linter.unusedSimpArgs false
set_option linter.defProp false
set_option linter.deprecated false
open Go renaming Value → ak
open Option renaming some → aa
open Go renaming Program → an
open Go renaming TypeId → ar
open Bool renaming true → ab
open Option renaming none → af
open Go renaming Oper → av
open Go renaming Operand → aq
open Bool renaming false → ae
open Go renaming undef → aj
open Go.World renaming cell? → aY
open List renaming length_take → bn
open List renaming getD_eq_getElem?_getD → ag
open Go.Sem renaming events_bind → aP
open Go.Result renaming evThen_ok → aV
open Go renaming execOp → aw
open Go renaming World → az
open Go renaming Goroutine → au
open Go renaming stepG → aK
open Go renaming Frame → aQ
open List renaming range → bc
open Go.Region renaming wanted → bk
open Go renaming FuncId → aX
open Go.MemAct renaming ofEvent → aM
open Nat renaming beq → aA
open Nat renaming ble → bw
open Go.Proofs.Tryz renaming prog → ah
open List renaming all_eq_true → bq
namespace Go.AM
def iZ(E:ar)(k:Nat)(bf:sJ)(n:Nat)(xs:List ak):ak->(Nat->Option Obj)->Prop:=λv a=>v=.nilFunc/\(∀ x∈xs,c8 x=ab)/\xs.length=n*k/\match bf with
 |.nil _=>n=0/\a=λ_=>af
 |.row b cap=>n<=cap/\cap<=9223372036854775807/\∃ c,(xs++c).length=cap*k/\a=λd=>if d=b then aa (.cells (xs++c).toArray E (0,0)) else af
def sK(k:Nat)(xs:List ak):Nat->List C:=λi=>((xs.drop (i*k)).take k).map .val
theorem A8{k n i:Nat}{xs:List ak}(a:xs.length=n*k)(hi:i<n):(sK k xs i).length=k:=by
 have:i*k+k<=n*k:=by rw[<-jo];exact er _ hi
 simp[sK,a];omega
theorem A9{k i j:Nat}{xs:List ak}{c:C}(h:(sK k xs i)[j]?=aa c):∃ u,xs[i*k+j]?=aa u/\c=.val u:=by
 simp only[sK,mT,et,mR] at h;split at h
 .cases a:xs[i*k+j]? with
  |none=>rw[a] at h;cases h
  |some u=>rw[a] at h;cases h;exact⟨u,rfl,rfl⟩
 .cases h
theorem iZ.lookup{E:ar}{k b cap n:Nat}{xs:List ak}{v:ak}{ch:Nat->Option Obj}(h:iZ E k (.row b cap) n xs v ch):∃ c,(xs++c).length=cap*k/\ch b=aa (.cells (xs++c).toArray E (0,0))/\∀ a,(ch a).isSome=ab↔a=b:=by
 obtain⟨_,_,_,_,_,c,h1,h2⟩:=h;refine⟨c,h1,by rw[h2];simp,λa=>?_⟩
 rw[h2]
 by_cases e:a=b <;> simp[e]
theorem Rd.S9{M:Mem}{b cap k n:Nat}{xs:List ak}(e:∀ x∈xs,c8 x=ab)(hl:xs.length=n*k)(hn:n<=cap)(f:cap<=9223372036854775807)(d:∀ o,M b o=xs[o]?):Rd M (.slice (aa ⟨b,0,af⟩) n cap) (.sl ae k n (sK k xs)):=by
 refine Rd.qF (M:=M) (k:=k) (n:=n) (es:=sK k xs) (vs:=xs) (a:=aa ⟨b,0,af⟩) (b:=b) (off:=0) (cap:=cap) (t:=ae) ⟨hl,λi hi=>A8 hl hi,λi hi j c hj=>?_⟩ (λ_=>rfl) hn f (by simp) (λp u g=>by rw[d,bm];exact g)
 obtain⟨u,h1,rfl⟩:=A9 hj;exact⟨u,h1,.val (e u (bz h1))⟩
section
variable {P:an}{X:Cx P}{N:Nat}{Qf:Post}{K:List It}{φ:Fr}{σ:List aW}{all rest:List av}{o:av}
theorem iZ.EV{E:ar}{k n l:Nat}{bf:sJ}{xs:List ak}(hl:σ[l]?=aa (.dM (iZ E k bf n xs)))(es:Nat->List C)(g:∀ i,i<n->(es i).length=k/\∀ M j c x,(es i)[j]?=aa c->xs[i*k+j]?=aa x->Rd M x c):jN σ l (oH bf n) k n es:=by
 intro s hh;have q:l<σ.length:=(bt.1 hl).1;have A:l<s.β.length:=by rw[hh.len];exact q
 have B:=aR A;generalize s.β[l]=L at B;obtain⟨ch,J,e,F,f⟩:=hh.box l _ L hl B;cases bf with
 |nil a0 =>
  obtain⟨_,_,_,rfl,_⟩:=J;exact⟨L,s.M,B,λ_ _ _ h=>h,λ_ _ _=>rfl,hh.mem,f,Rd.jM⟩
 |row b cap =>
  obtain⟨V,S,d,O⟩:=J.lookup;obtain⟨R,I,r,z,G,_⟩:=J;have m:b∈L.bs:=(F b).2 (by rw[d];rfl)
  have w:=e b _ d;obtain⟨c1,c2⟩:=hh.zj (b:=b) (vs:=xs) (f b m) (λo v Q=>by
   simp only[aY,w];have:o<xs.length:=(bt.1 Q).1;simpa[b7 this] using Q)
  refine⟨L,λH o=>if H=b then xs[o]? else s.M H o,B,c2,λH D o=>aO (by rintro rfl;exact D m),c1.mem,f,?_⟩
  refine Rd.qF (k:=k) (n:=n) (es:=es) (vs:=xs) (a:=aa ⟨b,0,af⟩) (b:=b) (off:=0) (cap:=cap) (t:=ae) ⟨r,λi hi=>(g i hi).1,λi hi j c hj=>?_⟩ (λ_=>rfl) z G (by simp) (λp u U=>by simpa using U)
  have T:j<k:=by rw[<-(g i hi).1];exact(bt.1 hj).1
  have y:i*k+j<xs.length:=by
   rw[r];have:i*k+k<=n*k:=by rw[<-jo];exact er _ hi
   omega
  exact⟨xs[i*k+j],aR y,(g i hi).2 _ j c _ hj (aR y)⟩
set_option maxHeartbeats 1000000 in
theorem AK.De{k:Nat}{x y:aq}{E:ar}{ie:TI}(h:mr P o x y E ie)(Z:ie.size=k){d:Nat}(hd:o.dst=aa d)(hg:o.guard=af)(hN:iP N o.dst=ab){l:Nat}{bf:sJ}{xs:List ak}{n:Nat}(p:cj φ x=.e (.one (.v (oH bf n))))
  (hl:σ[l]?=aa (.dM (iZ E k bf n xs))) {tx:Bool} {es':Nat->List C} (hy:cj φ y=.e (.one (.c (.sl tx k 1 es')))) {xv:List ak} (hxv:xv.length=k) (Zc:∀ (M:Mem) (v:ak) (j:Nat) (c:C),(es' 0)[j]?=aa c->Rd M v c->xv[j]?=aa v/\c8 v=ab) (hb:(n+1)*ie.bytes<=140737488355328)
  (kk:∀ r:sJ,AK X N Qf (.ops all rest::K) .normal ((d,.e (.one (.v (oH r (n+1)))))::φ) (σ.set l (.dM (iZ E k r (n+1) (xs++xv))))):AK X N Qf (.ops all (o::rest)::K) .normal φ σ:=by
 refine AK.hand (ι:=sJ) (λr=>.e (.one (.v (oH r (n+1))))) (λr=>σ.set l (.dM (iZ E k r (n+1) (xs++xv)))) hg hN ?_ λr=>by rw[hd];exact kk r
 intro s a hf hh;obtain⟨t,t2,i,i2,ho,hi,V,U,T⟩:=h.op;have PE:l<σ.length:=(bt.1 hl).1;have Im:l<s.β.length:=by rw[hh.len];exact PE
 have hL:=aR Im;generalize s.β[l]=L at hL;obtain⟨ch,hH,Io,Su,Wj⟩:=hh.box l _ L hl hL;have Sp:=bz hL;have R:=eP hf x;rw[p] at R;have R:=Rd.gm R;have hw:=eP hf y;rw[hy] at hw;have hw:=ga hw;have D:=hH.2.1;have A:=hH.2.2.1;have nM:∀ b,s.w.heap.size<=b->∀ o,s.M b o=af:=λb hb o=>by
  cases hm:s.M b o with
  |none=>rfl
  |some v=>have:=hh.block hm;omega
 have mk:∀ (M':Mem) (a0:Option Addr) (cap:Nat),oH bf n=.slice a0 n cap->cap<n+1->aJ (σ.map λ_=>.dead) { s with M:=M' }->(∀ g o v,s.M g o=aa v->M' g o=aa v) ->
   Rd M' (.slice a0 n cap) (.sl ae k n (sK k xs))->(∀ {es},ft { s with M:=M' } es->ft s es) ->
   ∃ i nx s' v,(aw a.eval o).run P s.w=.ok nx s'.w/\(nx=.value v∨(nx=.skip/\v=aj))/\dh (σ.set l (.dM (iZ E k i (n+1) (xs++xv)))) s' v (.e (.one (.v (oH i (n+1)))))/\aJ (σ.set l (.dM (iZ E k i (n+1) (xs++xv)))) s'/\Step σ s (σ.set l (.dM (iZ E k i (n+1) (xs++xv)))) s'/\ft s ((aw a.eval o).events P s.w #[]):=by
  intro M' a0 cap Zd Df LV hMM hR Ta;have S:Rd ({ s with M:=M' }:St).M (a.eval y) (.sl tx ie.size 1 es'):=by rw[Z];exact hw.mono hMM
  have Ze:Rd ({ s with M:=M' }:St).M (.slice a0 n cap) (.sl ae ie.size n (sK k xs)):=by rw[Z];exact hR
  obtain⟨vs,B,J,Q,f2,f3,f4,f5⟩:=iy (P:=P) (s:={ s with M:=M' }) (ty:=o.type) hi V U T h.elem LV Ze S Df hb h.bytes;have f6:=iW (P:=P) (s:={ s with M:=M' }) (ty:=o.type) hi V U T h.elem LV Ze S Df hb h.bytes;rw[Z] at Q f4;have Ow:vs.length=(n+1)*k:=Q.len;have C2:xs.length+k=(n+1)*k:=by rw[A,jo]
  have hk0:0<k:=by have:=h.size;omega
  have O:∀ j,j<k->∃ v,vs[n*k+j]?=aa v/\xv[j]?=aa v/\c8 v=ab:=λj hj=>by
   have PF:=Q.width n (by omega)
   have Zf:cX n (sK k xs) es' n=es' 0:=by simp[cX]
   rw[Zf] at PF;obtain⟨v,v1,z⟩:=Q.rd n (by omega) j ((es' 0)[j]'(by omega)) (by rw[Zf];exact aR (by omega))
   have:=Zc _ _ j _ (aR (by omega)) z
   exact⟨v,v1,this.1,this.2⟩
  have Mv:vs=xs++xv:=by
   apply jk
   intro q
   by_cases e:q<xs.length
   .have hi:q / k<n:=pB (by rw[jH,<-A];exact e)
    have Ss:q / k*k+q % k=q:=pE q k;have hwl:=A8 (k:=k) A hi;have hap:cX n (sK k xs) es' (q / k)=sK k xs (q / k):=by simp[cX,hi]
    have Zg:q % k<(sK k xs (q / k)).length:=by rw[hwl];exact ik _ hk0
    obtain⟨v,v1,z⟩:=Q.rd (q / k) (by omega) (q % k) ((sK k xs (q / k))[q % k]) (by rw[hap];exact aR Zg)
    obtain⟨u,u1,u2⟩:=A9 (aR Zg);rw[u2] at z;rw[Ss] at v1 u1;rw[b7 e,v1,u1,Rd.gm z]
   .rw[dg (by omega)]
    by_cases e2:q<xs.length+k
    .obtain⟨v,v1,z,_⟩:=O (q-xs.length) (by omega)
     rw[z,<-v1];congr 1;rw[<-A];omega
    .rw[eU (by omega),eU (by omega)]
  subst Mv;have H:∀ x∈xv,c8 x=ab:=λx p=>by
   obtain⟨j,hj,rfl⟩:=dN p;obtain⟨v,_,z,v3⟩:=O j (by omega)
   rw[aR hj] at z;cases z;exact v3
  let w':az:=s.w.drew.alloc (.cells (xs++xv++B).toArray E)
  have Ip:w'.heap[s.w.heap.size]?=aa (.cells (xs++xv++B).toArray E (0,0)):=dE s.w.drew _;have HR:w'.heap.size=s.w.heap.size+1:=by show (s.w.drew.heap.push _).size=_;simp
  obtain⟨t1,Mh⟩:=hh.k5 (l:=l) (H':=iZ E k (.row s.w.heap.size J) (n+1) (xs++xv)) (L':=⟨L.v,[s.w.heap.size]⟩) (w':=w') hl hL rfl (by omega)
   (λb hb _=>cN s.w.drew _ hb) (λb hb=>by simp at hb;subst hb;exact .inr ⟨ba _,by omega⟩)
   ⟨λg=>if g=s.w.heap.size then aa (.cells (xs++xv++B).toArray E (0,0)) else af,⟨hH.1,λx p=>by
    rcases dr.1 p with p|p
    .exact D x p
    .exact H x p,by simp only[bF];omega,f2,f3,B,by rw[f4],rfl⟩,λb o hb=>by
    by_cases e:b=s.w.heap.size
    .subst e;simp only[bO] at hb;cases hb;exact Ip
    .simp[e] at hb,λb=>by by_cases e:b=s.w.heap.size <;> simp[e]⟩ rfl rfl rfl
  refine⟨.row s.w.heap.size J,.value (.slice (aa ⟨s.w.heap.size,0,af⟩) (n+1) J),_,_,?_,.inl rfl,Rd.val rfl,t1,Mh,?_⟩
  .rw[c9 ho,R,Zd];simp only[bZ,c7];have f5':(Builtin.append_ #[t,t2] o.type #[.slice a0 n cap,a.eval y]).run P s.w=_:=f5;rw[f5'];rfl
  .rw[c9 ho,R,Zd];exact eD (Ta f6)
 cases bf with
 |nil a0 =>
  obtain⟨_,_,_,rfl,_⟩:=hH;refine mk s.M a0 0 rfl (by simp) (by have:=hh.kD;exact⟨this.mem,this.len,this.box,this.gb,this.lt,this.own⟩) (λ_ _ _ h=>h) Rd.jM (λh=>h)
 |row b cap =>
  obtain⟨B,W,Y,Tb⟩:=hH.lookup;obtain⟨Mj,_,_,Df,HQ,_⟩:=hH;have I:b∈L.bs:=(Su b).2 (by rw[Y];rfl)
  have F:=Io b _ Y;have Zh:=Wj b I;have Tc:b<s.w.heap.size:=hh.lt L Sp b I;have Ov:∀ o v,xs[o]?=aa v->s.w.cell? ⟨b,o,af⟩=aa v:=by
   intro o v ho;simp only[aY,F];have:o<xs.length:=(bt.1 ho).1;simpa[b7 this] using ho
  obtain⟨c1,c2⟩:=hh.zj (b:=b) (vs:=xs) Zh Ov;have Ta:∀ {es:Array Event},ft { s with M:=λg o=>if g=b then xs[o]? else s.M g o } es->ft s es:=λhe =>
   he.vq (b:=b) Sp I c2 λg o v R=>by
    by_cases e:g=b
    .exact .inl e
    .simp only[e,bH] at R;exact .inr R
  have hR:=Rd.S9 (M:=λg o=>if g=b then xs[o]? else s.M g o) (b:=b) (cap:=cap) (xs:=xs) D A Df HQ (λo=>by simp)
  by_cases G:n+1<=cap
  .have S:Rd ({ s with M:=λg o=>if g=b then xs[o]? else s.M g o }:St).M (a.eval y) (.sl tx ie.size 1 es'):=by rw[Z];exact hw.mono c2
   obtain⟨f,Q,f2⟩:=kh (P:=P) (s:={ s with M:=λg o=>if g=b then xs[o]? else s.M g o }) (ty:=o.type) (n:=n) (b:=b) (cap:=cap) hi V U T h.elem c1 F (by rw[Z,W]) S G
   have f6:=lO (P:=P) (s:=s) (ty:=o.type) (n:=n) (b:=b) (cap:=cap) hi V U T h.elem hh F (by rw[Z,W]) (x:=a.eval y) (tx:=tx) (es':=es') (by rw[Z];exact hw) G Sp I (λo _=>Zh o)
   rw[Z] at Q f2;have Pt:f.length=k:=by have:=Q.len;omega
   have Wk:=Q.width 0 (by omega)
   have O:∀ j,j<k->∃ v,f[j]?=aa v/\xv[j]?=aa v/\c8 v=ab:=λj hj=>by
    obtain⟨v,v1,z⟩:=Q.rd 0 (by omega) j ((es' 0)[j]'(by omega)) (aR (by omega))
    have:=Zc _ _ j _ (aR (by omega)) z
    simp only[Nat.zero_mul,bm] at v1;exact⟨v,v1,this.1,this.2⟩
   have Td:f=xv:=by
    apply jk
    intro q
    by_cases e:q<k
    .obtain⟨v,v1,z,_⟩:=O q e;rw[v1,z]
    .rw[eU (by omega),eU (by omega)]
   subst Td;have H:∀ x∈f,c8 x=ab:=λx p=>by
    obtain⟨j,hj,rfl⟩:=dN p;obtain⟨v,_,z,v3⟩:=O j (by omega)
    rw[aR hj] at z;cases z;exact v3
   have hfk:n*k+k<=cap*k:=by rw[<-jo];exact er _ G
   have hzk:k<=B.length:=by simp only[bF] at W;omega
   have Iq:((xs++B).take (n*k)++f++(xs++B).drop (n*k+f.length))=xs++f++B.drop k:=by
    rw[<-A,Pt];simp[uX]
   rw[Iq] at f2;have Ps:(s.w.setRow b (xs++f++B.drop k).toArray).heap[b]?=aa (.cells (xs++f++B.drop k).toArray E (0,0)):=setRow_heap s.w b _ _ E _ F;have zw:∀ g,g≠b->(s.w.setRow b (xs++f++B.drop k).toArray).heap[g]?=s.w.heap[g]?:=λg m=>setRow_other s.w b g _ m
   obtain⟨t1,Mh⟩:=hh.k5 (l:=l) (H':=iZ E k (.row b cap) (n+1) (xs++f)) (L':=L) (w':=s.w.setRow b (xs++f++B.drop k).toArray) hl hL rfl (by simp)
    (λg m hn=>zw g (by rintro rfl;exact hn I)) (λg m=>.inl m)
    ⟨λg=>if g=b then aa (.cells (xs++f++B.drop k).toArray E (0,0)) else af,⟨Mj,λx p=>by
     rcases dr.1 p with p|p
     .exact D x p
     .exact H x p,by simp only[bF];rw[A,Pt,jo],G,HQ,B.drop k,by simp only[bF,gF] at W ⊢;omega,rfl⟩,λg o m=>by
     by_cases e:g=b
     .subst e;simp only[bO] at m;cases m;exact Ps
     .simp[e] at m,λg=>by
     rw[Su g,Tb g]
     by_cases e:g=b <;> simp[e]⟩ rfl rfl rfl
   refine⟨.row b cap,.value (.slice (aa ⟨b,0,af⟩) (n+1) cap),_,_,?_,.inl rfl,Rd.val rfl,t1,Mh,?_⟩
   .rw[c9 ho,R];simp only[bZ,c7,oH];have f2':(Builtin.append_ #[t,t2] o.type #[.slice (aa ⟨b,0,af⟩) n cap,a.eval y]).run P s.w=_:=f2;rw[f2'];rfl
   .rw[c9 ho,R];exact eD f6
  .exact mk _ (aa ⟨b,0,af⟩) cap rfl (by omega) c1 c2 hR Ta
theorem AK.Mx(t:Nat)(E:ar)(k:Nat){i:Nat}{es:Nat->List C}{c:Code}(g:look φ t=.e (.one (.c (.sl ab i 0 es))))
  (kk:∀ bf:sJ,AK X N Qf (.code c::K) .normal ((t,.e (.one (.v (oH bf 0))))::φ) (σ++[.dM (iZ E k bf 0 [])])):AK X N Qf (.code c::K) .normal φ σ:=by
 refine AW.PD (λs a d hh=>?_) kk
 have f:=d.slot t;rw[g] at f;obtain⟨a0,cap,vs,j,_,_,b,_,_⟩:=(ga f).flat;have b:=b rfl;subst b;obtain⟨h,g2⟩:=hh.ix (B:=.dM (iZ E k (.nil a0) 0 [])) (L:=⟨.nilFunc,[]⟩) (.refl _ _) rfl hh ⟨λ_=>af,⟨rfl,by simp,by simp,rfl,rfl⟩,by simp,by simp,by simp⟩ (by simp)
 refine⟨.nil a0,{ s with β:=s.β++[⟨.nilFunc,[]⟩] },rfl,⟨d.size,d.defers.imp λ_ h1=>h1.mono g2.ext,λu=>?_⟩,h,g2⟩
 simp only[look];cases hb:aA t u with
 |false=>exact(d.slot u).mono g2.ext hh.len
 |true =>
  have e:=bE hb;subst e;show Rd _ _ _;rw[j];exact Rd.val rfl
theorem AK.Dg(t l:Nat){E:ar}{k n:Nat}{bf:sJ}{xs:List ak}(es:Nat->List C){c:Code}(y:look φ t=.e (.one (.v (oH bf n))))(hl:σ[l]?=aa (.dM (iZ E k bf n xs)))(g:∀ i,i<n->(es i).length=k/\∀ M j c x,(es i)[j]?=aa c->xs[i*k+j]?=aa x->Rd M x c)
  (kk:AK X N Qf (.code c::K) .normal ((t,.e (.one (.c (.sl ae k n es))))::φ) (σ.set l .dead)):AK X N Qf (.code c::K) .normal φ σ:=by
 refine AK.ghost (λs a f hh=>?_) kk
 obtain⟨L,M',m,r,q,w,F,A⟩:=iZ.EV hl es g s hh;have d:l<σ.length:=(bt.1 hl).1;have p:=f.slot t;rw[y] at p;have D:=Rd.gm p;have ex:Ext σ s (σ.set l .dead) { s with M:=M' }:=by
  refine⟨r,λl' B L' lb hU=>?_⟩
  by_cases e:l=l'
  .subst e;rw[hl] at lb;cases lb;exact⟨.dead,L',by rw[cf d],hU,rfl⟩
  .exact⟨B,L',by rw[cQ e];exact lb,hU,.refl _ _⟩
 have st:Step σ s (σ.set l .dead) { s with M:=M' }:=by
  refine⟨ba _,λ_ _ _=>rfl,r,λb _ hn o=>q b (hn L (bz m)) o,λL h b hb=>.inr ⟨L,h,hb⟩,ex.box,rfl,rfl,rfl,rfl⟩
 refine⟨{ s with M:=M' },rfl,⟨f.size,f.defers.imp λ_ h1=>h1.mono st.ext,λu=>?_⟩,⟨w,by simp[hh.len],?_,hh.gb,hh.lt,hh.own⟩,st⟩
 .simp only[look];cases hb:aA t u with
  |false=>exact(f.slot u).mono st.ext hh.len
  |true =>
   have e:=bE hb;subst e;show Rd _ _ _;rw[D];exact A
 .intro l' B L' lb hU
  by_cases e:l=l'
  .subst e;rw[cf d] at lb;cases lb;trivial
  .rw[cQ e] at lb;exact(hh.box l' B L' lb hU).carry ex hh.len λb hb=>⟨rfl,q b λz=>e (hh.gb l l' L L' m hU b z hb)⟩
end
end Go.AM
namespace Go.AM
open Go.Conc (G)
structure e9 (k n:Nat)(es:Nat->List C)(xs:List ak):Prop where
 len:xs.length=n*k
 wid:∀ i,i<n->(es i).length=k
 at':∀ i,i<n->∀ j c,(es i)[j]?=aa c->∃ x,xs[i*k+j]?=aa x/\∀ M,Rd M x c
theorem e9.rd{k n:Nat}{es:Nat->List C}{xs:List ak}(h:e9 k n es xs):∀ i,i<n->(es i).length=k/\∀ M j c x,(es i)[j]?=aa c->xs[i*k+j]?=aa x->Rd M x c:=λi hi =>
 ⟨h.wid i hi,λM j c x hj hx=>by obtain⟨y,h1,h2⟩:=h.at' i hi j c hj;rw[hx] at h1;cases h1;exact h2 M⟩
def OU(v:ak):A->A
 |.vec 0 _ _ _=>.v v
 |a=>a
def JA(v:ak):E1->E1
 |.one a=>.one (OU v a)
 |e=>e
def DM(v:ak):List E1->List E1
 |[]=>[]
 |a::r=>JA v a::DM v r
def OV(v:ak):D->D
 |.e x=>.e (JA v x)
 |.fW xs=>.fW (DM v xs)
 |.any=>.any
def ot(n:Nat):A->Bool
 |.vec 0 _ b _=>aA b n
 |a=>vA a
def r9(n:Nat):E1->Bool
 |.one a=>ot n a
 |e=>Ik e
def pd(n:Nat):List E1->Bool
 |[]=>ab
 |a::r=>match r9 n a with|true=>pd n r|false=>ae
def z8(n:Nat):D->Bool
 |.e x=>r9 n x
 |.fW xs=>pd n xs
 |.any=>ab
section
variable {σ':List aW}{s s':St}{E:ar}{k n:Nat}{es:Nat->List C}{L:Loc}
theorem JB(g:s.β[0]?=aa L){v:ak}{a:A}(h:ot n a=ab)(r:gB [aW.vec E k n es] s v a):gB σ' s' v (OU L.v a):=by
 cases a with
 |c x=>exact rJ h r
 |any=>exact r
 |vec l k' n' es' =>
  cases l with
  |zero =>
   obtain⟨i,_,b⟩:=r;have b:=b E k n es rfl;have e:=bE h;obtain⟨L',f,d⟩:=b.2 e.symm;rw[g] at f;cases f;show Rd _ _ _;rw[d];exact .val (d▸i.cell)
  |succ l=>simp[ot,vA] at h
 |ptr=>simp[ot,vA] at h
 |ref=>simp[ot,vA] at h
 |bp=>simp[ot,vA] at h
theorem BI(b:s.β[0]?=aa L){v:ak}{x:E1}(h:r9 n x=ab)(r:mc [aW.vec E k n es] s v x):mc σ' s' v (JA L.v x):=by
 cases x with
 |one a=>exact JB b h r
 |agg cs=>exact zt (x:=.agg cs) h r
theorem ym(b:s.β[0]?=aa L):∀ {vs:List ak}{cs:List E1},pd n cs=ab->gI [aW.vec E k n es] s vs cs->gI σ' s' vs (DM L.v cs)
 |[],[],_,_=>trivial
 |[],_::_,_,r=>r.elim
 |_::_,[],_,r=>r.elim
 |v::vs,c::cs,h,r=>by
  simp only[pd] at h;cases a:r9 n c with
  |false=>simp[a] at h
  |true=>simp only[a] at h;exact⟨BI b a r.1,ym b h r.2⟩
theorem BJ(a:s.β[0]?=aa L){v:ak}{d:D}(h:z8 n d=ab)(r:dh [aW.vec E k n es] s v d):dh σ' s' v (OV L.v d):=by
 cases d with
 |e x=>exact BI a h r
 |fW xs=>obtain⟨vs,c,b⟩:=r;exact⟨vs,c,ym a h b⟩
 |any=>trivial
end
theorem List.xF{α:Type}{l:List α}{n i:Nat}(h:i<n):(l.take n)[i]?=l[i]?:=by simp[h]
def vi:List ResultVar->Bool
 |[]=>ab
 |.tmp _::r=>vi r
 |.cell _ _::_=>ae
theorem tY{P:an}{a:Act}:∀ {rs:List ResultVar},vi rs=ab->∃ vs,(∀ w,(rs.mapM (gk a)).run P w=Result.ok vs w)/\cR P (rs.mapM (gk a))
 |[],_=>⟨[],by simp,by rw[List.mapM_nil];exact .pure⟩
 |.tmp t::r,h=>by
  obtain⟨vs,c,b⟩:=tY (P:=P) (a:=a) (rs:=r) h;refine⟨a.tmps.getD t aj::vs,λw=>?_,?_⟩
  .simp only[kA,bZ,gk,c7,cg,c]
  .rw[kA];exact .bind .pure λ_=>.bind b λ_=>.pure
theorem uv.tmp{P:an}{f:aX}{fn:Func}{fr:aQ}{v:ak}{s s':St}(h:uv P f fr v s)(l:P.funcs[f]?=aa fn)(t:vi fn.results.toList=ab)(q:∀ b o u,s.M b o=aa u->s.w.cell? ⟨b,o,af⟩=aa u):uv P f fr v s':=by
 obtain⟨h1,h2,p,j,c,d,x⟩:=h;have e:c=fn:=by rw[h1,l] at d;cases d;rfl
 subst e
 let a:Act:={ tmps:=fr.tmps,defers:=[] }
 obtain⟨vs,k1,m⟩:=tY (P:=P) (a:=a) t;have e1:∀ w,(c.results.mapM (gk a)).run P w=Result.ok vs.toArray w:=λw=>by
  rw[qE];simp only[Sem.run_map,k1,cg]
 have e2:∀ w,(results c fr.tmps).run P w=.ok (if h:vs.toArray.size=1 then vs.toArray[0] else .tuple vs.toArray) w:=λw=>by
  unfold results;rw[bZ];refine(dc (λr=>Result.andThen r _) (e1 w)).trans ?_
  simp
 have e3:cR P (results c fr.tmps):=by
  unfold results;have e:cR P (c.results.mapM (gk a)):=by
   rw[qE];exact .map m
  exact .bind e λ_=>.pure
 have i:=(x s.w q).1;rw[e2] at i;cases i;exact⟨h1,h2,p,j,c,d,λw _=>⟨e2 w,λe g=>by rw[e3 w #[]] at g;simp at g⟩⟩
set_option maxHeartbeats 1000000 in
theorem Ev.thaw{P:an}{X:Cx P} [X.jN] {f:aX}{args:List D}{res:D}{E:ar}{k n:Nat}{es:Nat->List C}(h:Ev X f args [] res [.vec E k n es]){fn:Func}(hf:P.funcs[f]?=aa fn)(ht:vi fn.results.toList=ab)(ZI:z8 n res=ab)
  (Y:∀ i,i<n->(es i).length=k/\∀ c∈es i,vv c=ab) :
  dZ (ι:={ q:sJ×List ak // e9 k n es q.2 }) X f args [] (λq=>OV (oH q.1.1 n) res) (λq=>[.dM (iZ E k q.1.1 n q.1.2)]):=by
 refine⟨h.1,λs vs hr hh S cs hS=>h.2 s vs hr hh S cs λfr v s' hl oa lG st=>?_⟩
 have XB:s.β=[]:=gh hh.len;have y:s'.β.length=1:=lG.len;obtain⟨L,z⟩:∃ L,s'.β=[L]:=by
  match hq:s'.β with
  |[L]=>exact⟨L,rfl⟩
  |[]=>rw[hq] at y;cases y
  |_::_::_=>rw[hq] at y;simp at y
 have hL:s'.β[0]?=aa L:=by rw[z];rfl
 obtain⟨J,W⟩:=lG.box 0 _ L rfl hL;rcases W with⟨⟨Su,Vr⟩,H⟩|⟨b,cap,cells,OF,A,C2,EU⟩
 .subst Vr;obtain⟨a,cap,vs0,hv,Df,HQ,htc,_⟩:=H.flat;have Z:cap=0:=htc rfl;subst Z
  let r:St:={ s' with β:=[⟨.nilFunc,[]⟩] }
  have hg:eW s' r:=⟨rfl,λ_ _ _ h=>h,λ_ _ _=>rfl,lG.mem,λb hb=>by
   rcases hb with hb|⟨L',g,hb⟩
   .exact .inl hb
   .simp[r] at g;subst g;simp at hb⟩
  have I:e9 k 0 es []:=⟨by simp,λi hi=>by omega,λi hi=>by omega⟩
  refine .ghost hg (hS ⟨(.nil a,[]),I⟩ fr v r (hl.tmp hf ht lG.mem) ?_ ?_ ?_)
  .have:=BJ (σ':=[aW.dM (iZ E k (.nil a) 0 [])]) (s':=r) hL ZI oa;rw[hv] at this;exact this
  .refine⟨lG.mem,rfl,λl B L' hB g=>?_,?_,by simp[r],λb hb=>⟨(lG.own b hb).1,by simp[r]⟩⟩
   .cases l with
    |zero=>cases hB;cases g;exact⟨λ_=>af,⟨rfl,by simp,by simp,rfl,rfl⟩,by simp,by simp,by simp⟩
    |succ l=>simp at hB
   .intro l l' L1 L2 h1 h2 b J W;cases l with
    |zero=>cases h1;simp at J
    |succ l=>simp[r] at h1
  .refine⟨st.size,st.eH,st.mem,st.jq,λL' g b hb=>?_,λl B L' hB=>by simp at hB,st.os,st.tape,st.output,st.own⟩
   simp[r] at g;subst g;simp at hb
 .subst OF;have ZJ:b∈(⟨.slice (aa ⟨b,0,af⟩) n cap,[b]⟩:Loc).bs:=by simp
  have R:s.w.heap.size<=b:=by
   rcases st.tK _ (by rw[z];simp) b ZJ with h1|⟨L0,h1,_⟩
   .exact h1
   .rw[XB] at h1;simp at h1
  have Tc:b<s'.w.heap.size:=lG.lt _ (by rw[z];simp) b ZJ
  obtain⟨a1,ab6,t,hv1,G,XC,_,hF,hm⟩:=J.flat;cases hv1;have F:t.length=n*k:=hF.len;have XD:∀ p u,t[p]?=aa u->cells[p]?=aa u:=λp u O=>by
   obtain⟨b1,V9,e,Pw⟩:=hm p u O;cases e;have:=lG.mem _ _ _ Pw;simp only[aY,A] at this;simpa using this
  have hnk:n*k<=cells.length:=by rw[C2];exact er _ G
  have T:cells.take (n*k)=t:=by
   apply jk
   intro p
   by_cases O:p<n*k
   .rw[List.xF O,aR (by omega:p<t.length),XD p _ (aR (by omega))]
   .rw[eU (by simp;omega),eU (by omega)]
  have K:t++cells.drop (n*k)=cells:=by rw[<-T,j8]
  have I:e9 k n es t:=by
   refine⟨F,λi hi=>(Y i hi).1,λi hi j c hj=>?_⟩
   obtain⟨u,u1,u2⟩:=hF.rd i hi j c hj;exact⟨u,u1,λM=>rJ ((Y i hi).2 c (bz hj)) u2⟩
  have U:∀ x∈t,c8 x=ab:=λx hx=>by
   obtain⟨p,O,rfl⟩:=dN hx;have hk:0<k:=by
    rcases jF k with e|e
    .subst e;simp at F;rw[F] at O;simp at O
    .exact e
   have hi:p / k<n:=pB (by rw[jH,<-F];exact O)
   have Ss:p / k*k+p % k=p:=pE p k;have hj:p % k<(es (p / k)).length:=by rw[(Y _ hi).1];exact ik _ hk
   obtain⟨u,u1,u2⟩:=I.at' _ hi _ _ (aR hj);rw[Ss,aR O] at u1;cases u1;exact(u2 s.M).cell
  have V:∀ m o v',s.M m o=aa v'->m≠b:=λm o v' hm' e=>by
   have:=hh.block hm';omega
  let N:Mem:=λm o=>if m=b then af else s'.M m o
  let s1:St:={ s' with β:=[],own:=λx=>s'.own x∨x=b }
  let s2:St:={ s1 with M:=N }
  let r:St:={ s' with β:=[⟨.nilFunc,[b]⟩],M:=N }
  have Q:∀ m o v',N m o=aa v'->s'.M m o=aa v':=λm o v' h'=>by
   simp only[N] at h';split at h'
   .cases h'
   .exact h'
  have We:eW s' s1:=⟨rfl,λ_ _ _ h=>h,λ_ _ _=>rfl,lG.mem,λm d=>by
   rcases d with(d|d)|⟨L',g,_⟩
   .exact .inl d
   .exact .inr ⟨_,by rw[z];simp;rfl,by rw[d];simp⟩
   .simp[s1] at g⟩
  have Zq:mU s1 s2:=⟨rfl,rfl,rfl,Q,λm o v' h'=>by
   by_cases e:m=b
   .exact .inr (.inr e)
   .left;simp only[s2,N,e,bH];exact h'⟩
  have hg3:eW s2 r:=⟨rfl,λ_ _ _ h=>h,λ_ _ _=>rfl,λm o v' h'=>lG.mem _ _ _ (Q _ _ _ h'),λm d=>by
   rcases d with d|⟨L',g,d⟩
   .exact .inl (.inl d)
   .simp[r] at g;subst g;simp at d;exact .inl (.inr d)⟩
  refine .ghost We (.forget Cx.jN.ok Zq (.ghost hg3 (hS ⟨(.row b cap,t),I⟩ fr v r (hl.tmp hf ht lG.mem) ?_ ?_ ?_)))
  .exact BJ (L:=⟨.slice (aa ⟨b,0,af⟩) n cap,[b]⟩) hL ZI oa
  .refine⟨λm o v' h'=>lG.mem _ _ _ (Q _ _ _ h'),rfl,λl B L' hB g=>?_,?_,λL' g m d=>?_,λm d=>⟨(lG.own m d).1,λL' g=>?_⟩⟩
   .cases l with
    |zero =>
     cases hB;cases g;refine⟨λm=>if m=b then aa (.cells (t++cells.drop (n*k)).toArray E (0,0)) else af,⟨rfl,U,F,G,XC,cells.drop (n*k),?_,rfl⟩,λm o d=>?_,λm=>?_,λm d o=>?_⟩
     .exact(dc List.length K).trans C2
     .by_cases e:m=b
      .subst e;simp only[bO] at d;cases d;rw[K];exact A
      .simp[e] at d
     .by_cases e:m=b <;> simp[e]
     .simp at d;subst d;simp[r,N]
    |succ l=>simp at hB
   .intro l l' L1 L2 h1 h2 m J W;cases l with
    |zero=>cases l' with
     |zero=>rfl
     |succ l'=>simp[r] at h2
    |succ l=>simp[r] at h1
   .simp[r] at g;subst g;simp at d;subst d;exact Tc
   .simp[r] at g;subst g;have:=(lG.own m d).2 _ (by rw[z];simp;rfl)
    simpa using this
  .refine⟨st.size,st.eH,λm o v' h'=>?_,λm d hn o=>?_,λL' g m d=>?_,λl B L' hB=>by simp at hB,st.os,st.tape,st.output,st.own⟩
   .simp only[r,N,aO (V m o v' h')];exact st.mem _ _ _ h'
   .have:m≠b:=by omega
    simp only[r,N,aO this];exact st.jq m d hn o
   .simp[r] at g;subst g;simp at d;subst d;exact .inl R
section
variable {P:an}{X:Cx P}{N:Nat}{Qf:Post}{K:List It}{φ:Fr}{σ:List aW}{all rest:List av}{o:av}
theorem AK.Ox{p:Prop}(h:∀ s,aJ σ s->p)(k:p->AK X N Qf (.ops all rest::K) .normal φ σ):AK X N Qf (.ops all rest::K) .normal φ σ :=
 λs a b hh=>k (h s hh) s a b hh
theorem iZ.len{E:ar}{k n l:Nat}{bf:sJ}{xs:List ak}(hl:σ[l]?=aa (.dM (iZ E k bf n xs)))(s:St)(hh:aJ σ s):xs.length=n*k/\n<=9223372036854775807/\(0<n->∃ b cap,bf=.row b cap)/\∀ a,bf=.nil a->n=0:=by
 have c:l<s.β.length:=by rw[hh.len];exact(bt.1 hl).1
 obtain⟨ch,g,_⟩:=hh.box l _ _ hl (aR c);cases bf with
 |nil a=>obtain⟨_,_,f,rfl,_⟩:=g;exact⟨f,by omega,λh=>by omega,λ_ _=>rfl⟩
 |row b cap=>obtain⟨_,_,f,i,j,_⟩:=g;exact⟨f,by omega,λ_=>⟨b,cap,rfl⟩,λa e=>by cases e⟩
def rL:List A->Bool
 |[]=>ab
 |.c x::r=>match vv x with|true=>rL r|false=>ae
 |_=>ae
def mV(vs:List ak)(cs:List A):Prop:=vs.length=cs.length/\∀ (j:Nat)(c:C),cs[j]?=aa (A.c c)->∃ v,vs[j]?=aa v/\∀ M,Rd M v c
theorem mV.of{σ:List aW}{s:St}:∀ {vs:List ak}{cs:List A},rL cs=ab->dX σ s vs cs->mV vs cs
 |[],[],_,_=>⟨rfl,λj c h=>by simp at h⟩
 |[],_::_,_,r=>r.elim
 |_::_,[],_,r=>r.elim
 |v::vs,.c x::cs,h,r=>by
  simp only[rL] at h;cases a:vv x with
  |false=>simp[a] at h
  |true =>
   simp only[a] at h;obtain⟨h1,h2⟩:=mV.of h r.2;refine⟨by simp[h1],λj c hj=>?_⟩
   cases j with
   |zero=>simp at hj;subst hj;exact⟨v,rfl,λM=>rJ a r.1⟩
   |succ j=>simp at hj;obtain⟨u,b,e⟩:=h2 j c hj;exact⟨u,by simpa using b,e⟩
 |_::_,.ptr _ _::_,h,_=>by simp[rL] at h
 |_::_,.vec _ _ _ _::_,h,_=>by simp[rL] at h
 |_::_,.ref _::_,h,_=>by simp[rL] at h
 |_::_,.bp _ _::_,h,_=>by simp[rL] at h
 |_::_,.any::_,h,_=>by simp[rL] at h
theorem dX.c8{σ:List aW}{s:St}:∀ {vs:List ak}{cs:List A},dX σ s vs cs->∀ v∈vs,AM.c8 v=ab
 |[],[],_,v,h=>by simp at h
 |[],_::_,r,_,_=>r.elim
 |_::_,[],r,_,_=>r.elim
 |u::vs,c::cs,r,v,h=>by
  rcases ew.1 h with rfl|h
  .exact gB.cell r.1
  .exact dX.c8 r.2 v h
theorem AK.Ir{T:List (Nat×TI)}(hT:dk P T)(l:Nat){t:ar}{x y:aq}{E:ar}{k n b cap off:Nat}{xs:List ak}{new:List A}{i:TI}(h:o.op=.store t x y)(hi:bL T t=aa i)(q:cj φ x=.e (.one (.v (.pointer (aa ⟨b,off,af⟩)))))(hy:mW (cj φ y)=aa new)(Ip:new.length=i.size)(hgn:rL new=ab)
  (hl:σ[l]?=aa (.dM (iZ E k (.row b cap) n xs))) (Te:off+new.length<=xs.length) (hg:o.guard=af) (hN:iP N o.dst=ab)
  (kk:∀ vs,mV vs new->AK X N Qf (.ops all rest::K) .normal (m9 o.dst .any φ) (σ.set l (.dM (iZ E k (.row b cap) n (xs.take off++vs++xs.drop (off+vs.length)))))):AK X N Qf (.ops all (o::rest)::K) .normal φ σ:=by
 refine AK.hand (ι:={ vs:List ak // mV vs new }) (λ_=>.any) (λvs=>σ.set l (.dM (iZ E k (.row b cap) n (xs.take off++vs.1++xs.drop (off+vs.1.length))))) hg hN (λs a hf hh=>?_) λvs=>kk vs.1 vs.2
 have hv:=eP hf x;rw[q] at hv;have hv:=Rd.gm hv;have B:=nb hy (eP hf y);have R:l<σ.length:=(bt.1 hl).1;have Im:l<s.β.length:=by rw[hh.len];exact R
 have hL:=aR Im;generalize s.β[l]=L at hL;obtain⟨ch,hH,J,Q,Wj⟩:=hh.box l _ L hl hL;obtain⟨g,Wl,D,U⟩:=iZ.lookup hH;obtain⟨Mj,m,Zi,Z,HQ,_⟩:=hH;have H:b∈L.bs:=(Q b).2 (by rw[D];rfl)
 have p:=J b _ D
 let vs:=(a.eval y).cells.toList
 have Y:mV vs new:=mV.of hgn B;have Ow:vs.length=new.length:=Y.1;have G:off+0+vs.length<=(xs++g).toArray.size:=by simp;omega
 have I:=run_storeCells_at P b off E vs 0 (xs++g).toArray s.w p G B.cell;simp only[gG] at I;have M:(xs++g).take off++vs++(xs++g).drop (off+vs.length)=(xs.take off++vs++xs.drop (off+vs.length))++g:=by
  have e1:off-xs.length=0:=by omega
  have e2:off+vs.length-xs.length=0:=by omega
  simp only[List.take_append,uX,e1,e2,List.take_zero,List.drop_zero,hJ,dq]
 rw[M] at I;have F:(xs.take off++vs++xs.drop (off+vs.length)).length=xs.length:=by
  simp only[bF,bn,gF];omega
 have S:=setRow_heap s.w b (xs++g).toArray ((xs.take off++vs++xs.drop (off+vs.length))++g).toArray E (0,0) p;have W:∀ f,f≠b->(s.w.setRow b ((xs.take off++vs++xs.drop (off+vs.length))++g).toArray).heap[f]?=s.w.heap[f]?:=λf c=>setRow_other s.w b f _ c
 obtain⟨t1,t2⟩:=hh.k5 (l:=l) (H':=iZ E k (.row b cap) n (xs.take off++vs++xs.drop (off+vs.length))) (L':=L) (w':=s.w.setRow b ((xs.take off++vs++xs.drop (off+vs.length))++g).toArray) hl hL rfl (by simp)
  (λf c hn=>W f (by rintro rfl;exact hn H)) (λf c=>.inl c)
  ⟨λf=>if f=b then aa (.cells ((xs.take off++vs++xs.drop (off+vs.length))++g).toArray E (0,0)) else af,⟨Mj,λx q=>by
   rcases dr.1 q with q|q
   .rcases dr.1 q with q|q
    .exact m x (gY q)
    .exact dX.c8 B x q
   .exact m x (uP q),by rw[F];exact Zi,Z,HQ,g,by rw[bF,F,<-bF];exact Wl,rfl⟩,λf o c=>by
   by_cases e:f=b
   .subst e;simp only[bO] at c;cases c;exact S
   .simp[e] at c,λf=>by
   rw[Q f,U f]
   by_cases e:f=b <;> simp[e]⟩ rfl rfl rfl
 have V:(a.eval y).cells.size=i.size:=by rw[<-Ip,<-Ow];exact gZ.symm
 refine⟨⟨vs,Y⟩,.skip,_,aj,?_,.inr ⟨rfl,rfl⟩,ay,t1,t2,?_⟩
 .have O:(storeCells ⟨b,off,af⟩ (a.eval y).cells.toList).run P s.w=_:=I;simp[aw,h,hv,Instr.storeAt,Instr.sureAddr,storeVar,(hT t i hi).run_sizeOf,V,O]
 .intro ev z;have e:aw a.eval o=(do storeVar t ⟨b,off,af⟩ (a.eval y);pure .skip):=by simp[aw,h,hv,Instr.storeAt,Instr.sureAddr]
  rw[e] at z;have Wm:ev∈(storeCells ⟨b,off,af⟩ (a.eval y).cells.toList).events P s.w #[]:=by
   simp only[storeVar,aP,(hT t i hi).run_sizeOf,V,aV,events_sizeOf,cW,fH,bH,bZ,cg,Sem.events_pure] at z;generalize (storeCells ⟨b,off,af⟩ (a.eval y).cells.toList).run P s.w=r at z;cases r with
   |ok v w'=>simpa using z
   |halt x w'=>simpa using z
  rcases eN (a.eval y).cells.toList 0 (xs++g).toArray s.w #[] p G B.cell ev Wm with LV|⟨j,_,_,rfl⟩
  .simp at LV
  .exact mv (bz hL) H (Wj b H _)
theorem AK.swap(i j:Nat){H1 H2:ak->(Nat->Option Obj)->Prop}{c:Code}(Q:i≠j)(hi:σ[i]?=aa (.dM H1))(hj:σ[j]?=aa (.dM H2))(h1:∀ v ch,H1 v ch->v=.nilFunc)(h2:∀ v ch,H2 v ch->v=.nilFunc)
  (kk:AK X N Qf (.code c::K) .normal φ ((σ.set i (.dM H2)).set j (.dM H1))):AK X N Qf (.code c::K) .normal φ σ:=by
 refine AK.ghost (λs a F hh=>?_) kk
 have y:i<σ.length:=(bt.1 hi).1;have z:j<σ.length:=(bt.1 hj).1;have w:i<s.β.length:=by rw[hh.len];exact y
 have A:j<s.β.length:=by rw[hh.len];exact z
 obtain⟨D,t⟩:∃ L,s.β[i]?=aa L:=⟨_,aR w⟩;obtain⟨x,r⟩:∃ L,s.β[j]?=aa L:=⟨_,aR A⟩;have M:=hh.box i _ D hi t;have O:=hh.box j _ x hj r;have I:D.v=.nilFunc:=by obtain⟨ch,H,_⟩:=M;exact h1 _ _ H
 have J:x.v=.nilFunc:=by obtain⟨ch,H,_⟩:=O;exact h2 _ _ H
 let s':St:={ s with β:=(s.β.set i x).set j D }
 have E:∀ l,((σ.set i (.dM H2)).set j (.dM H1))[l]?=if l=j then aa (.dM H1) else if l=i then aa (.dM H2) else σ[l]?:=λl=>by
  by_cases e:j=l
  .subst e;rw[cf (by simpa using z),aU rfl]
  .rw[cQ e,aO (iL e)]
   by_cases g:i=l
   .subst g;rw[cf y,aU rfl]
   .rw[cQ g,aO (iL g)]
 have p:∀ l,s'.β[l]?=if l=j then aa D else if l=i then aa x else s.β[l]?:=λl=>by
  show ((s.β.set i x).set j D)[l]?=_
  by_cases e:j=l
  .subst e;rw[cf (by simpa using A),aU rfl]
  .rw[cQ e,aO (iL e)]
   by_cases g:i=l
   .subst g;rw[cf w,aU rfl]
   .rw[cQ g,aO (iL g)]
 have G:∀ L∈s'.β,L∈s.β:=λL f=>by
  obtain⟨l,hl,rfl⟩:=dN f;have:=p l;rw[aR hl] at this;split at this
  .rw[lM this];exact bz t
  .split at this
   .rw[lM this];exact bz r
   .exact bz this.symm
 have ex:Ext σ s ((σ.set i (.dM H2)).set j (.dM H1)) s':=by
  refine⟨λ_ _ _ h=>h,λl B L m f=>?_⟩
  rw[E,p]
  by_cases e:l=j
  .subst e;rw[hj] at m;cases m;rw[r] at f;cases f;exact⟨.dM H1,D,by simp,by simp,by show D.v=_;rw[I,J]⟩
  .by_cases g:l=i
   .subst g;rw[hi] at m;cases m;rw[t] at f;cases f;exact⟨.dM H2,x,by simp[e],by simp[e],by show x.v=_;rw[I,J]⟩
   .exact⟨B,L,by simp[e,g,m],by simp[e,g,f],.refl _ _⟩
 have st:Step σ s ((σ.set i (.dM H2)).set j (.dM H1)) s':=by
  exact⟨ba _,λ_ _ _=>rfl,λ_ _ _ h=>h,λ_ _ _ _=>rfl,λL h b hb=>.inr ⟨L,G L h,hb⟩,ex.box,rfl,rfl,rfl,rfl⟩
 refine⟨s',rfl,⟨F.size,F.defers.imp λ_ h1=>h1.mono ex,λu=>(F.slot u).mono ex hh.len⟩,⟨hh.mem,by simp[s',hh.len],?_,?_,λL f b hb=>hh.lt L (G L f) b hb,λb hb=>⟨(hh.own b hb).1,λL f=>(hh.own b hb).2 L (G L f)⟩⟩,st⟩
 .intro l B L m f;rw[E] at m;rw[p] at f;split at m
  .rename_i e
   rw[aU e] at f;cases m;cases f;exact M
  .rename_i e
   rw[aO e] at f;split at m
   .rename_i g
    rw[aU g] at f;cases m;cases f;exact O
   .rename_i g
    rw[aO g] at f;exact(hh.box l B L m f).carry ex hh.len λb hb=>⟨rfl,λ_=>rfl⟩
 .intro l l' L1 L2 q1 q2 b hb oP;rw[p] at q1 q2;have key:∀ l L,(if l=j then aa D else if l=i then aa x else s.β[l]?)=aa L->s.β[if l=j then i else if l=i then j else l]?=aa L:=λl L q=>by
   split at q
   .cases q;rename_i e;rw[aU e];exact t
   .rename_i e
    split at q
    .cases q;rename_i g;rw[aO e,aU g];exact r
    .rename_i g;rw[aO e,aO g];exact q
  have:=hh.gb _ _ L1 L2 (key l L1 q1) (key l' L2 q2) b hb oP
  by_cases e1:l=j <;> by_cases e2:l'=j <;> by_cases e3:l=i <;> by_cases R:l'=i <;> simp_all
theorem AK.Is{T:List (Nat×TI)}(hT:dk P T){t:ar}{x y:aq}{i p:TI}{E:ar}{n:Nat}{L S:IntKind}(h:o.op=.makeSlice t x y)(hi:bL T t=aa i)(hd:i.desc=.slice E)(hE:bL T E=aa p)
  (hx:cj φ x=.e (.one (.c (.int L n)))) (hy:cj φ y=.e (.one (.c (.int S n)))) (hb:n*p.bytes<=140737488355328) (aa9:n<=140737488355328) (hg:o.guard=af) (hN:iP N o.dst=ab)
  (kk:∀ b xs,AK X N Qf (.ops all rest::K) .normal (m9 o.dst (.e (.one (.v (oH (.row b n) n)))) φ) (σ++[.dM (iZ E p.size (.row b n) n xs)])):AK X N Qf (.ops all (o::rest)::K) .normal φ σ:=by
 refine AK.hand (ι:=Nat×List ak) (λq=>.e (.one (.v (oH (.row q.1 n) n)))) (λq=>σ++[.dM (iZ E p.size (.row q.1 n) n q.2)]) hg hN (λs a Z hh=>?_) λq=>kk q.1 q.2
 have j:=eP Z x;rw[hx] at j;have j:=ga j;generalize G:a.eval x=vx at j;cases j;have m:=eP Z y;rw[hy] at m;have m:=ga m;generalize F:a.eval y=vy at m;cases m;have l:=(hT t i hi).Tf;rw[hd] at l;obtain⟨g,z,J,z2,z3,z4,z5,z6,z7⟩:=(hT E p hE).info;have f:(g.bytes:Int)*(n:Int)<=281474976710656:=by
  have h':((g.bytes*n:Nat):Int)<=281474976710656:=by rw[z3,jH];omega
  rwa [Int.natCast_mul] at h'
 have r:=run_make (P:=P) (w:=s.w) t E g z l J z4 L S n n (by omega) (ry _) f (by omega)
 simp only[bu] at r
 let xs:=(madeCells z.cells (n*g.size)).toList
 have D:xs.length=n*p.size:=by
  simp only[xs,gZ,size_madeCells,z2]
 have Q:∀ v∈z.cells.toList,c8 v=ab:=dX.c8 (kK (σ:=σ) (s:=s) z5);have R:z.cells.toList.length=p.size:=by
  have:=dc List.length z5;simp only[iw] at this;rw[this,z7]
 have W:∀ v∈xs,c8 v=ab:=by
  intro v hv;simp only[xs,madeCells,Array.toList_map,jK] at hv;obtain⟨q,hq,rfl⟩:=hv;have H:0<z.cells.size:=by
   rcases jF z.cells.size with e|e
   .have:p.size=0:=by rw[<-R];simpa using e
    rw[z2,this] at hq;simp at hq
   .exact e
  rw[pI z.cells _ (ik _ H)];exact Q _ (by simp)
 have hB:eZ (σ++[.dM (iZ E p.size (.row s.w.heap.size n) n xs)]) { s with w:=s.w.alloc (.cells xs.toArray E),β:=s.β++[⟨.nilFunc,[s.w.heap.size]⟩] } (.dM (iZ E p.size (.row s.w.heap.size n) n xs)) ⟨.nilFunc,[s.w.heap.size]⟩:=by
  refine⟨λB=>if B=s.w.heap.size then aa (.cells (xs++[]).toArray E (0,0)) else af,⟨rfl,W,D,ba _,by omega,[],by simp[D],rfl⟩,λB o f=>?_,λB=>?_,λB f o=>?_⟩
  .by_cases e:B=s.w.heap.size
   .subst e;simp only[bO] at f;cases f;rw[hJ];exact dE s.w _
   .simp[e] at f
  .by_cases e:B=s.w.heap.size <;> simp[e]
  .simp at f;subst f;cases U:s.M s.w.heap.size o with
   |none=>rfl
   |some v=>have:=hh.block U;omega
 have I:aJ σ { s with w:=s.w.alloc (.cells xs.toArray E) }/\Step σ s σ { s with w:=s.w.alloc (.cells xs.toArray E) } :=
  hh.grow (by simp) (λb hb=>cN s.w _ hb) (λb hb o=>rfl) (λb hb o v U=>by
   have:=hh.block U;omega) rfl rfl rfl
 obtain⟨g1,g2⟩:=I.1.ix I.2 rfl hh hB (λb hb=>by
   simp at hb;subst hb;exact⟨ba _,by simp⟩)
 refine⟨(s.w.heap.size,xs),.value (.slice (aa ⟨s.w.heap.size,0,af⟩) n n),_,_,?_,.inl rfl,Rd.val rfl,g1,g2,?_⟩
 .simp[aw,h,G,F,r,xs]
 .have e:aw a.eval o=(do pure (.value (<-Instr.makeSlice t (.int L n) (.int S n)))):=by simp[aw,h,G,F]
  rw[e];refine eD ?_;intro e A;have hu:∀ u,(underlying t).run P u=.ok (.slice E) u:=λu=>by simp[underlying,l]
  have V:∀ u,(typeInfo E).run P u=.ok g u:=λu=>by simp[typeInfo,J]
  have O:∀ u,(zeroValue E).run P u=.ok z u:=λu=>by simp[zeroValue,typeInfo,J,z4]
  have Y:∀ u,(sizeOf E).run P u=.ok g.size u:=λu=>by simp[sizeOf,typeInfo,J]
  have wl:IntKind.i64.wrap (n:Int)=n:=by rw[IntKind.wrap_i64];omega
  have n1:¬(n:Int)<0:=by omega
  have n2:¬(281474976710656<(g.bytes:Int)*n):=by omega
  simp[Instr.makeSlice,hu,V,Y,asInt,asIntOf,wl,n1,n2] at A;rw[O] at A;simp only[aV,(cR.newRow (P:=P)) _ _,ite_self] at A;unfold askRoom at A;split at A
  .have:e=⟨.mark .noRoom,ae,ab⟩:=by simpa using A
   rw[this];exact .inl rfl
  .simp at A
end
section
variable {σ σ':List aW}{s s':St}{k n d:Nat}{es:Nat->List C}{u:ak}
end
theorem ux{α:Type}{xs vs:List α}{a:Nat}(h:a+vs.length<=xs.length)(p:Nat):(xs.take a++vs++xs.drop (a+vs.length))[p]?=if a<=p/\p<a+vs.length then vs[p-a]? else xs[p]?:=by
 have c:(xs.take a).length=a:=by simp;omega
 split
 .rename_i e
  rw[dq,dg (by omega),c,b7 (by omega)]
 .rename_i e
  rcases cr p a with b|b
  .rw[dq,b7 (by omega),et,aU b]
  .rw[dq,dg (by omega),c,dg (by omega),mR]
   congr 1;omega
theorem e9.fg{k n:Nat}{es es':Nat->List C}{xs vs:List ak}{new:List A}(h:e9 k n es xs)(i j:Nat)(hi:i<n)(v:mV vs new)(p:j+new.length<=k)(t:∀ a,a<n->a≠i->es' a=es a)(hl:(es' i).length=k)
  (hn:∀ (q:Nat) (c:C),(es' i)[q]?=aa c->(j<=q/\q<j+new.length/\new[q-j]?=aa (A.c c))∨(¬(j<=q/\q<j+new.length)/\(es i)[q]?=aa c)):e9 k n es' (xs.take (i*k+j)++vs++xs.drop (i*k+j+vs.length)):=by
 have x:i*k+k<=n*k:=by rw[<-jo];exact er _ hi
 have B:=v.1;have z:=h.len;have f:i*k+j+vs.length<=xs.length:=by omega
 refine⟨by simp only[bF,bn,gF];omega,λa b=>?_,λa b q c r=>?_⟩
 .by_cases e:a=i
  .subst e;exact hl
  .rw[t a b e];exact h.wid a b
 .rw[ux f]
  by_cases e:a=i
  .subst e;rcases hn q c r with⟨h1,h2,w⟩|⟨h1,h2⟩
   .rw[aU (by omega),show a*k+q-(a*k+j)=q-j by omega]
    exact v.2 _ c w
   .rw[aO (by omega)];exact h.at' a b q c h2
  .have g:(es a)[q]?=aa c:=by rw[<-t a b e];exact r
   have y:q<k:=by rw[<-h.wid a b];exact(bt.1 g).1
   rw[aO ?_]
   .exact h.at' a b q c g
   .rcases Nat.lt_or_gt_of_ne e with l|m
    .have:a*k+k<=i*k:=by rw[<-jo];exact er _ l
     omega
    .have:i*k+k<=a*k:=by rw[<-jo];exact er _ m
     omega
theorem e9.snoc{k n:Nat}{es es':Nat->List C}{xs vs:List ak}(h:e9 k n es xs)(f:∀ i,i<n->es' i=es i)(hl:(es' n).length=k)(p:vs.length=k)(j:∀ (q:Nat)(c:C),(es' n)[q]?=aa c->∃ v,vs[q]?=aa v/\∀ M,Rd M v c):e9 k (n+1) es' (xs++vs):=by
 have m:=h.len;refine⟨by simp only[bF];rw[jo];omega,λi hi=>?_,λi hi q c g=>?_⟩
 .by_cases e:i=n
  .subst e;exact hl
  .rw[f i (by omega)];exact h.wid i (by omega)
 .by_cases e:i=n
  .subst e;rw[dg (by omega),show i*k+q-xs.length=q by omega]
   exact j q c g
  .have a:i<n:=by omega
   have b:(es i)[q]?=aa c:=by rw[<-f i a];exact g
   have l:q<k:=by rw[<-h.wid i a];exact(bt.1 b).1
   have:i*k+k<=n*k:=by rw[<-jo];exact er _ a
   rw[b7 (by omega)]
   exact h.at' i a q c b
def zz(T:List (Nat×TI))(φ:Fr):List ResultVar->Option (List D)
 |[]=>aa []
 |.tmp t::r=>match zz T φ r with
  |some q=>aa (look φ t::q)
  |none=>af
 |.cell ad t::r=>match zz T φ r with
  |some q=>match look φ ad with
   |.e (.one (.c (.rp cs)))=>match bL T t with
    |some i=>match nh i (cs.map A.c) with
     |some e=>aa (.e e::q)
     |none=>af
    |none=>af
   |_=>af
  |none=>af
theorem zA{P:an}{T:List (Nat×TI)}(R:dk P T){N:Nat}{σ:List aW}{s:St}{φ:Fr}{a:Act}(f:cw N σ s φ a):∀ {rs:List ResultVar}{ds:List D},zz T φ rs=aa ds ->
  ∃ vs,cG σ s vs ds/\∀ w,(∀ b o u,s.M b o=aa u->w.cell? ⟨b,o,af⟩=aa u)->(rs.mapM (gk a)).run P w=Result.ok vs w/\∀ es,∀ e∈(rs.mapM (gk a)).events P w es,e∈es∨∃ b o u,e=⟨.cell ⟨b,o,af⟩,ae,ae⟩/\s.M b o=aa u
 |[],ds,h=>by cases h;exact⟨[],ay,λw _=>⟨by simp,λes e l=>.inl (by simpa using l)⟩⟩
 |.tmp t::r,ds,h=>by
  simp only[zz] at h;cases E:zz T φ r with
  |none=>simp[E] at h
  |some q =>
   simp[E] at h;subst h;obtain⟨vs,V,h2⟩:=zA R f E;refine⟨a.tmps.getD t aj::vs,⟨f.slot t,V⟩,λw p=>?_⟩
   obtain⟨k1,k2⟩:=h2 w p;refine⟨by simp only[kA,bZ,gk,c7,cg,k1],λes e l=>k2 es e ?_⟩
   simpa[kA,gk,k1] using l
 |.cell ad t::r,ds,h=>by
  simp only[zz] at h;cases E:zz T φ r with
  |none=>simp[E] at h
  |some q =>
   simp only[E] at h;have hs:=f.slot ad;generalize look φ ad=x at h hs;split at h
   case h_2=>cases h
   rename_i cs
   cases hi:bL T t with
   |none=>simp[hi] at h
   |some i =>
    simp only[hi] at h;cases k:nh i (cs.map A.c) with
    |none=>simp[k] at h
    |some e0 =>
     simp[k] at h;subst h;obtain⟨vs,V,h2⟩:=zA R f E;have Q:=ga hs;generalize S:a.tmps.getD ad aj=vx at Q;cases Q
     rename_i b off g Y Z
     let B:=(bc cs.length).map g
     have O:dX σ s B (cs.map A.c):=by
      have key:∀ (n:Nat) (ds:List C),(∀ j c,ds[j]?=aa c->Rd s.M (g (n+j)) c)->dX σ s ((bc ds.length).map λj=>g (n+j)) (ds.map A.c):=by
       intro n ds
       induction ds generalizing n with
       |nil=>intro _;trivial
       |cons d ds ih =>
        intro hd;rw[db,y7];refine⟨hd 0 d rfl,?_⟩;have:=ih (n+1) (λj c m=>by have:=hd (j+1) c (by simpa using m);rwa [show n+1+j=n+(j+1) by omega])
        simpa[Function.comp_def,lr,kC 1] using this
      have:=key 0 cs (by simpa using Z)
      simpa using this
     have y:∀ (j:Nat) (v:ak),B[j]?=aa v->s.M b (off+j)=aa v:=λj v m=>by
      simp only[B,mT] at m
      by_cases F:j<cs.length
      .simp[F] at m;subst m;exact Y j cs[j] (aR F)
      .simp[F] at m
     let w0:az:={ s.w with heap:=s.w.heap }
     have I:∃ v,mc σ s v e0/\∀ w,(∀ b o u,s.M b o=aa u->w.cell? ⟨b,o,af⟩=aa u)->(loadVar t ⟨b,off,af⟩).run P w=.ok v w:=by
      have hg:=R t i hi;cases W:i.agg <;> simp only[nh,W] at k
      .cases G:fZ 0 (cs.map A.c) with
       |none=>simp[G] at k
       |some a0 =>
        simp[G] at k;subst k;obtain⟨v,hv,PI⟩:=O.get (dY G);refine⟨v,PI,λw p=>?_⟩
        have:=p _ _ _ (y 0 v hv);simp only[loadVar,bZ,hg.jy,cg,W];simp at this;simp[run_load,this]
      .cases G:oB i.size (cs.map A.c) with
       |none=>simp[G] at k
       |some r0 =>
        simp[G] at k;subst k;obtain⟨q1,q2⟩:=ni G;have H:=O.take i.size;rw[<-q1] at H;have hl:(B.take i.size).length=i.size:=by rw[H.length,q2]
        refine⟨.agg (B.take i.size).toArray,⟨B.take i.size,rfl,H⟩,λw p=>?_⟩
        have J:=run_loadCells_list (P:=P) w ⟨b,off,af⟩ (B.take i.size) (λj v m=>by
         rw[di];refine p _ _ _ (y j v ?_);rw[et] at m;split at m
         .exact m
         .cases m)
        rw[hl] at J;simp only[loadVar,bZ,hg.jy,cg,W];simp[hg.run_sizeOf,J]
     obtain⟨v,U,L⟩:=I;refine⟨v::vs,⟨U,V⟩,λw p=>?_⟩
     obtain⟨k1,k2⟩:=h2 w p;have z:(gk a (.cell ad t))=loadVar t ⟨b,off,af⟩:=by
      simp[gk,S,asAddr]
     refine⟨by simp only[kA,bZ,z,L w p,c7,cg,k1],λes e l=>?_⟩
     rw[kA,z] at l;simp only[aP,L w p,aV,k1,Sem.events_pure] at l;rcases k2 _ e l with l|l
     .rcases C9 l with l|l
      .exact .inl l
      .obtain⟨j,m,rfl⟩:=jr (R t i hi) (w:=w) (n:=cs.length) (λj m=>⟨g j,p _ _ _ (Y j cs[j] (aR m))⟩) (by have:=rO k;simpa using this) e l
       exact .inr ⟨b,off+j,g j,rfl,Y j cs[j] (aR m)⟩
     .exact .inr l
theorem Be.Vy{P:an}{T:List (Nat×TI)}(k:dk P T){fn:Func}{φ:Fr}{ds:List D}{d:D}(h:zz T φ fn.results.toList=aa ds)(hj:rN ds=aa d):Be P fn φ d:=by
 intro N σ s a f;obtain⟨vs,h1,h2⟩:=zA k f h;refine⟨_,Bd hj h1,λw i=>?_⟩
 obtain⟨k1,j⟩:=h2 w i;have e1:(fn.results.mapM (gk a)).run P w=Result.ok vs.toArray w:=by
  rw[qE];simp only[Sem.run_map,k1,cg]
 have e2:∀ es,∀ e∈(fn.results.mapM (gk a)).events P w es,e∈es∨∃ b o u,e=⟨.cell ⟨b,o,af⟩,ae,ae⟩/\s.M b o=aa u:=by
  rw[qE];intro es e c;exact j es e (by simpa using c)
 constructor
 .unfold results;rw[bZ];refine(dc (λr=>Result.andThen r _) (Eq.trans ?_ e1)).trans ?_
  .congr 2
  .simp
 .intro e c;have g:e∈(fn.results.mapM (gk a)).events P w #[]:=by
   unfold results at c;rw[aP] at c
   change e∈((fn.results.mapM (gk a)).run P w).evThen ((fn.results.mapM (gk a)).events P w #[]) _ at c
   rw[e1] at c;simpa using c
  rcases e2 #[] e g with h|h
  .simp at h
  .exact h
section
variable {P:an}{X:Cx P}{N:Nat}{K:List It}{φ:Fr}{σ:List aW}
def Mz(T:List (Nat×TI))(rs:List ResultVar)(ks:List Nat)(φ:Fr)(res:D):Option (List Prop) :=
 match zz T φ rs with
 |some ds=>match rN ds with
  |some d=>match uy ks.length res with
   |true=>Bf d (jQ ks res)
   |false=>af
  |none=>af
 |none=>af
theorem AK.mX{T:List (Nat×TI)}(f:dk P T){fn:Func}{c:Nat}{res:D}{σ':List aW}(ks:List Nat){ps:List Prop}(h:Mz T fn.results.toList ks φ res=aa ps)(e:ai ps)(i:kW ks σ=aa σ')(b:km σ'=ab)(hn:eh ks=ab)(k:∀ j,j<c->ks[j]?=aa j) :
  AK X N (Bg P fn c res σ') (.code .ret::K) .normal φ σ:=by
 refine AK.ret ⟨.inl rfl,ks,?_⟩;unfold Mz at h;split at h
 .rename_i ds Iw
  split at h
  .rename_i d g
   split at h
   .rename_i a
    exact⟨d,ps,Be.Vy f Iw g,h,e,a,i,b,hn,k⟩
   .cases h
  .cases h
 .cases h
theorem Ev.kL{f:aX}{fn:Func}{c:Code}{args:List D}{σ σ':List aW}{res:D}(d:P.funcs[f]?=aa fn)(a:(fn.name== "runtime.NumGoroutine")=ae)(hb:fn.body=aa c)(b:bw args.length fn.ntmps=ab)
  (h:Fits args σ->AK X fn.ntmps (Bg P fn σ.length res σ') [.code c] .normal (iA 0 args) σ):Ev X f args σ res σ':=by
 refine⟨⟨fn,d,a,by rw[hb];rfl⟩,λs vs hr hh=>?_⟩
 have:=dZ.PK (X:=X) (ι:=Unit) (σ':=λ_=>σ') (res:=λ_=>res) d a hb (dn b) (AW.mono (AK.of_code (h ⟨s,vs,hr,hh⟩)) λ_ _ _ q=>⟨(),q⟩)
 exact this.Di.2 s vs hr hh
theorem cn.mk{fn:Func}{c:Nat}{res:D}{σ':List aW}(ks:List Nat){ps:List Prop}(h:zB fn.results.toList ks φ res=aa ps)(e:ai ps)(g:kW ks σ=aa σ')(b:km σ'=ab)(hn:eh ks=ab)(i:∀ j,j<c->ks[j]?=aa j):cn fn c res σ' .ret φ σ:=by
 refine⟨.inl rfl,ks,?_⟩;unfold zB at h;split at h
 .rename_i ds Iw
  split at h
  .rename_i d f
   split at h
   .rename_i a
    exact⟨ds,d,ps,Iw,f,h,e,a,g,b,hn,i⟩
   .cases h
  .cases h
 .cases h
end
theorem z0{α:Type}{l:Nat}{x:α}:∀ {ks:List Nat}{a r:List α},kW ks a=aa r->l∉ks->kW ks (a.set l x)=aa r
 |[],a,r,h,_=>h
 |k::ks,a,r,h,c=>by
  simp only[ew,not_or] at c;simp only[kW,fi] at h ⊢;rw[cQ c.1];cases d:a[k]? with
  |none=>simp[d] at h
  |some y =>
   simp only[d] at h ⊢;cases b:kW ks a with
   |none=>simp[b] at h
   |some q=>rw[z0 b c.2];simp only[b] at h;exact h
theorem BG{k:Nat}{l:List Nat}(h:hX k l=ae):k∉l:=λa=>by rw[va a] at h;cases h
def M5(T:List (Nat×TI))(fn:Func)(a:Nat)(res:D)(σ':List aW):Post:=λe φ σ1 =>
 (e=.ret∨e=.normal)/\∃ ks l E cs t ty it ps,fn.results.toList=[.cell t ty]/\bL T ty=aa it/\it.agg=ab/\cs.length=it.size/\look φ t=.e (.one (.ptr l 0))/\σ1[l]?=aa (.cells E cs)/\l∉ks /\
  Bf (.e (.agg cs)) (jQ ks res)=aa ps/\ai ps/\uy ks.length res=ab/\kW ks σ1=aa σ'/\km σ'=ab/\eh ks=ab/\(∀ j,j<a->ks[j]?=aa j)
set_option maxHeartbeats 1000000 in
theorem dZ.QB{P:an}{ι:Type}{X:Cx P}{T:List (Nat×TI)}(hT:dk P T){f:aX}{fn:Func}{c:Code}{args:List D}{σ:List aW}{σ':ι->List aW}{res:ι->D}(hf:P.funcs[f]?=aa fn)(Jh:(fn.name== "runtime.NumGoroutine")=ae)(hb:fn.body=aa c)(hlen:args.length<=fn.ntmps)
  (h:∀ s a,cw fn.ntmps σ s (iA 0 args) a->aJ σ s->∀ (b:aQ) (k:List Item) (cs:List aQ) (S:au->St->Prop),b.kind≠.early->b.roundOf=af ->
  (∀ e J σ1 s' a',(∃ j,M5 T fn σ.length (res j) (σ' j) e J σ1)->cw fn.ntmps σ1 s' J a'->aJ σ1 s'->cC σ s σ1 s'->ends X S b k cs e a' s')->fG X S (G (b.aT a (.code c::k)) cs) s):dZ X f args σ res σ':=by
 refine⟨⟨fn,hf,Jh,by rw[hb];rfl⟩,λs vs hr hh S cs hS=>?_⟩
 obtain⟨hl,hg⟩:=cG.get hr
 let b:aQ:={ fn:=f,tmps:=#[],todo:=[],defers:=[],mode:=.run,kind:=.normal,roundOf:=af }
 have K:Frame.enter P f vs.toArray .normal=b.aT { tmps:=vs.toArray++Array.replicate (fn.ntmps-vs.toArray.size) aj,defers:=[] } [.code c]:=by
  simp[Frame.enter,Frame.aT,hf,hb,b]
 rw[K];refine h s { tmps:=vs.toArray++Array.replicate (fn.ntmps-vs.toArray.size) aj,defers:=[] } ⟨by simp;omega,⟨[],ay⟩,λt=>?_⟩ hh b [] cs S (by simp[b]) rfl ?_
 .rw[lS];simp only[iK,bO,lu];have:=hg t;rcases cr t vs.length with qu|Pv
  .have e:(vs.toArray++Array.replicate (fn.ntmps-vs.toArray.size) aj).getD t aj=(vs[t]?).getD aj:=by
    simp only[cT];rw[uL (by simpa using qu)]
    simp
   rw[e];exact this
  .rw[eU (by omega)]
   trivial
 .rintro e J σ0 s0 a1 ⟨jj,he,ks,l,E,TX,t,ty,it,ps,q1,q2,q3,q4,q5,q6,q7,h3,h4,h5,Xz,TQ,h8,h9⟩ f0 Z TB;obtain⟨h7,XA⟩:=sZ TQ;have A:=f0.slot t;rw[q5] at A;obtain⟨_,L,bb,q,Pr,QC⟩:=A;obtain⟨b2,d,OF,V,TY,hM⟩:=Z.box l _ L q6 q;subst OF;cases Pr
  let M':Mem:=λp o=>if p=bb then d[o]? else s0.M p o
  have Y:∀ o v,d[o]?=aa v->s0.w.cell? ⟨bb,o,af⟩=aa v:=λo v ho=>by simpa[aY,V] using ho
  have Ml:∀ p o v,s0.M p o=aa v->M' p o=aa v:=λp o v F=>by
   by_cases e:p=bb
   .subst e;rw[hM] at F;cases F
   .simp only[M',e,bH];exact F
  have TZ:∀ p o v,M' p o=aa v->s0.w.cell? ⟨p,o,af⟩=aa v:=λp o v F=>by
   by_cases e:p=bb
   .subst e;simp only[M',bO] at F;exact Y o v F
   .simp only[M',e,bH] at F;exact Z.mem p o v F
  obtain⟨h',H⟩:=Z.iT (M':=M') (w':=s0.w) (B':=.dead) (L':=⟨.pointer (aa ⟨bb,0,af⟩),[]⟩) q6 q rfl (ba _) (λ_ _ _=>rfl) (λp _ g o=>by
   simp at g;simp only[M',g,bH]) Ml TZ (by simp) rfl rfl rfl ay
  have Ql:eW s0 ⟨s0.β.set l ⟨.pointer (aa ⟨bb,0,af⟩),[]⟩,M',s0.w,s0.own⟩:=⟨rfl,Ml,λp g o=>by
   have:p≠bb:=by rintro rfl;exact g _ (bz q) (by simp)
   simp only[M',this,bH],TZ,λp g=>by
   rcases g with g|⟨L',R,g⟩
   .exact .inl g
   .rcases nO R with R|rfl
    .exact .inr ⟨L',R,g⟩
    .simp at g⟩
  have f':cw fn.ntmps (σ0.set l .dead) ⟨s0.β.set l ⟨.pointer (aa ⟨bb,0,af⟩),[]⟩,M',s0.w,s0.own⟩ J a1:=⟨f0.size,f0.defers.imp λ_ h1=>h1.mono H.ext,λu=>(f0.slot u).mono H.ext Z.len⟩
  have h6:=z0 (x:=aW.dead) Xz q7;have QD:dX (σ0.set l .dead) ⟨s0.β.set l ⟨.pointer (aa ⟨bb,0,af⟩),[]⟩,M',s0.w,s0.own⟩ d TX:=TY.mono H.ext Z.len;have st:=TB.trans (H.oA Z);have N:∀ w,(∀ b o u,M' b o=aa u->w.cell? ⟨b,o,af⟩=aa u)->(results fn a1.tmps).run P w=.ok (.agg d.toArray) w/\∀ e∈(results fn a1.tmps).events P w #[],∃ b o u,e=⟨.cell ⟨b,o,af⟩,ae,ae⟩/\M' b o=aa u:=by
   intro w hw;have U:=hT ty it q2;have T1:d.length=it.size:=by rw[TY.length,q4]
   have OT:∀ j v,d[j]?=aa v->w.cell? ⟨bb,0+j,af⟩=aa v:=λj v hj=>hw _ _ _ (by simp only[M',bO,bm];exact hj)
   have PR:=run_loadCells_list (P:=P) w ⟨bb,0,af⟩ d (λj v hj=>by rw[di];exact OT j v hj)
   rw[T1] at PR;have C1:(loadVar ty ⟨bb,0,af⟩).run P w=.ok (.agg d.toArray) w:=by
    simp only[loadVar,bZ,U.jy,cg,q3];simp[U.run_sizeOf,PR]
   have PI:fn.results=#[.cell t ty]:=by apply il;simpa using q1
   have O:asAddr (a1.tmps[t]?.getD aj)=(pure ⟨bb,0,af⟩:Sem Addr):=by rw[<-cT,QC];rfl
   refine⟨by simp[results,PI,O,C1],λe he=>?_⟩
   have HS:e∈(loadVar ty ⟨bb,0,af⟩).events P w #[]:=by
    simpa[results,PI,O,C1] using he
   obtain⟨j,hj,rfl⟩:=jr U (w:=w) (n:=d.length) (λj hj=>⟨_,OT j d[j] (aR hj)⟩) (by rw[q3,T1];simp) e HS
   exact⟨bb,0+j,d[j],rfl,by simp only[M',bO,bm];exact aR hj⟩
  have fin:∀ (fr:aQ) s2,cm (⟨s0.β.set l ⟨.pointer (aa ⟨bb,0,af⟩),[]⟩,M',s0.w,s0.own⟩:St) s2->fr.fn=f->fr.tmps=a1.tmps->fr.defers=a1.defers->fr.mode=.returning->fr.kind=.normal->fG X S (G fr cs) s2:=by
   intro fr s2 nN e1 e2 e3 e4 e5;have f2:=f'.rely nN h';have z:=h'.rely nN;have i:=st.trans nN.stepW;have r2:dh (σ0.set l .dead) s2 (.agg d.toArray) (.e (.agg TX)):=⟨d,rfl,QD.mono nN.stepW.ext h'.len⟩;obtain⟨m,I⟩:=vC (l':=s2.β) h6 z.len;have r4:=(oU h3 h4 r2).sub h6 I h5;obtain⟨c1,c2⟩:=gJ h6;obtain⟨d1,d2⟩:=gJ I;have W:∀ L∈m,L∈s2.β:=vb I;have Jf:aJ (σ' jj) { s2 with β:=m }:=by
    obtain⟨g1,_⟩:=z.sub h6 I h7 h8;refine⟨g1.mem,g1.len,λj B L Q q=>?_,g1.gb,g1.lt,λb hb=>⟨(z.own b hb).1,λL q=>(z.own b hb).2 L (W L q)⟩⟩
    exact eZ.plain (σ:=σ' jj) (s:={ s2 with β:=m,own:=xu s2 m }) (s':={ s2 with β:=m }) rfl rfl (jA h7 B (bz Q)) (g1.box j B L Q q)
   have Jm:cC σ s (σ' jj) { s2 with β:=m }:=by
    refine⟨i.size,i.eH,i.mem,i.jq,λL q b hb=>i.tK _ (W L q) b hb,λl B L Q q=>?_,i.os,i.tape,i.output,i.own⟩
    have hl:l<σ.length:=(bt.1 Q).1;obtain⟨B',L',p1,p2,p3⟩:=i.box l B L Q q;obtain⟨x,x1,x2⟩:=c2 l l (h9 l hl);obtain⟨y,y1,y2⟩:=d2 l l (h9 l hl);rw[p1] at x2;cases x2;rw[p2] at y2;cases y2;exact⟨B',L',x1,y1,p3⟩
   obtain⟨ls,L6⟩:=f2.defers;refine og ls fr s2 _ z.kD (by intro B Q;simp only[jK] at Q;obtain⟨_,_,rfl⟩:=Q;rfl) e4 (by rw[e3];exact L6.taken z) λs3 r=>?_
   have C:cm { s2 with β:=m } { s3 with β:=m }:=by
    refine⟨rfl,r.M,r.own,r.size,λb hb=>r.eH b (hb.imp id ?_),r.mem,r.os,r.tape,r.output⟩
    rintro⟨L,q,hb⟩;obtain⟨j,hj,rfl⟩:=dN q;have T2:j<ks.length:=by rw[<-d1];exact hj
    obtain⟨y,y1,y2⟩:=d2 j _ (aR T2);obtain⟨x,x1,x2⟩:=c2 j _ (aR T2);rw[aR hj] at y1;cases y1;refine⟨_,_,y2,λhc=>?_,hb⟩
    rw[L6.yb _ hc] at x2;cases x2;exact lH XA _ (bz x1) rfl
   have hG:eW s3 { s3 with β:=m }:=⟨rfl,λ_ _ _ h=>h,λ_ _ _=>rfl,λb o v F=>r.mem b o v (by rw[<-r.M];exact F),λb hb=>hb.imp id λ⟨L,q,hb⟩=>⟨L,by rw[r.β];exact W L q,hb⟩⟩
   have QE:s2.M=M':=nN.M;refine .ghost hG (hS jj _ (.agg d.toArray) _ ⟨e1,e4,rfl,e5,fn,by show P.funcs[fr.fn]?=_;rw[e1];exact hf,λw hw=>?_⟩ (r4.mono C.stepW.ext Jf.len) (Jf.rely C) (Jm.trans C.stepW))
   show (results fn fr.tmps).run P w=_/\∀ e∈(results fn fr.tmps).events P w #[],_;rw[e2];have T3:∀ b o u,M' b o=aa u->w.cell? ⟨b,o,af⟩=aa u:=λb o u h=>hw b o u (by show s3.M b o=aa u;rw[r.M,QE];exact h)
   refine⟨(N w T3).1,λe he=>?_⟩
   obtain⟨b,o,u,q1,q2⟩:=(N w T3).2 e he;exact⟨b,o,u,q1,by show s3.M b o=aa u;rw[r.M,QE];exact q2⟩
  rcases he with rfl|rfl
  .intro pre;exact .ghost Ql (.ctl h' rfl (λ_=>zn rfl) λs2 nN=>fin _ s2 nN rfl rfl (hJ _) rfl rfl)
  .exact .ghost Ql (.ctl h' rfl (λ_=>zo rfl) λs2 nN=>fin _ s2 nN rfl rfl (hJ _) rfl rfl)
theorem dZ.kL{P:an}{ι:Type}{X:Cx P}{T:List (Nat×TI)}(m:dk P T){f:aX}{fn:Func}{c:Code}{args:List D}{σ:List aW}{σ':ι->List aW}{res:ι->D}(i:P.funcs[f]?=aa fn)(d:(fn.name== "runtime.NumGoroutine")=ae)(hb:fn.body=aa c)(g:bw args.length fn.ntmps=ab)
  (h:Fits args σ->AK X fn.ntmps (λe φ σ1=>∃ j,M5 T fn σ.length (res j) (σ' j) e φ σ1) [.code c] .normal (iA 0 args) σ):dZ X f args σ res σ':=by
 refine⟨⟨fn,i,d,by rw[hb];rfl⟩,λs0 vs hr LV=>?_⟩
 have:=dZ.QB (X:=X) (σ':=σ') (res:=res) m i d hb (dn g) λs a f hh b k cs S n _ l=>(show AW X fn.ntmps c _ (iA 0 args) σ from AK.of_code (h ⟨s0,vs,hr,LV⟩)) s a f hh b k cs S n l
 exact this.2 s0 vs hr LV
theorem dX.set{σ:List aW}{s:St}{a:A}{v:ak}:∀ {vs:List ak}{cs:List A}{j:Nat},dX σ s vs cs->vs[j]?=aa v->gB σ s v a->dX σ s vs (cs.set j a)
 |[],[],_,_,h,_=>by simp at h
 |[],_::_,_,h,_,_=>h.elim
 |_::_,[],_,h,_,_=>h.elim
 |u::vs,c::cs,0,h,b,d=>by
  simp at b;subst b;exact⟨d,h.2⟩
 |u::vs,c::cs,j+1,h,b,d=>⟨h.1,dX.set h.2 (by simpa using b) d⟩
section
variable {P:an}{X:Cx P}{N:Nat}{Qf:Post}{K:List It}{φ:Fr}{σ:List aW}{c:Code}
theorem AK.gV(l j:Nat)(E k:Nat)(es':Nat->List C){E0:ar}{cs:List A}{k':Nat}{F:Nat->List C}(hl:fZ l σ=aa (.cells E0 cs))(hj:fZ j cs=aa (.c (.sl ab k' 0 F)))
  (kk:AK X N Qf (.code c::K) .normal φ ((σ++[aW.vec E k 0 es']).set l (.cells E0 (cs.set j (.vec σ.length k 0 es'))))):AK X N Qf (.code c::K) .normal φ σ:=by
 refine AK.ghost (λs a x hh=>?_) kk
 have G:=dY hl;have I:=dY hj;have d:l<σ.length:=(bt.1 G).1;have f:l<s.β.length:=by rw[hh.len];exact d
 have t:=aR f;generalize s.β[l]=L at t;obtain⟨b,vs,y,g,p,J⟩:=hh.box l _ L G t;obtain⟨v,T,R⟩:=p.get I;have h1:Rd s.M v (.sl ab k 0 es'):=(Rd.u6 (k:=k') (k':=k) (.inr rfl) R).C7 λi hi=>by omega
 have z:eZ (σ++[aW.vec E k 0 es']) { s with β:=s.β++[⟨v,[]⟩] } (.vec E k 0 es') ⟨v,[]⟩:=⟨h1.loose,.inl ⟨⟨rfl,rfl⟩,h1⟩⟩;obtain⟨H,g2⟩:=hh.ix (.refl _ _) rfl hh z (by simp)
 have q:(σ++[aW.vec E k 0 es'])[l]?=aa (.cells E0 cs):=by rw[b7 d];exact G
 have m:(s.β++[(⟨v,[]⟩:Loc)])[l]?=aa L:=by rw[b7 f];exact t
 have n:(s.β++[(⟨v,[]⟩:Loc)]).set l L=s.β++[⟨v,[]⟩]:=by
  apply jk
  intro i
  by_cases e:l=i
  .subst e;rw[cf (by simp;omega),m]
  .rw[cQ e]
 have D:iN (.cells E0 cs) L (.cells E0 (cs.set j (.vec σ.length k 0 es'))) L:=rfl;have O:σ.length≠l:=by omega
 have r:eZ ((σ++[aW.vec E k 0 es']).set l (.cells E0 (cs.set j (.vec σ.length k 0 es')))) ⟨(s.β++[(⟨v,[]⟩:Loc)]).set l L,s.M,s.w,s.own⟩ (.cells E0 (cs.set j (.vec σ.length k 0 es'))) L:=by
  rw[n];refine⟨b,vs,y,g,?_,J⟩;have ex:Ext (σ++[aW.vec E k 0 es']) { s with β:=s.β++[⟨v,[]⟩] } ((σ++[aW.vec E k 0 es']).set l (.cells E0 (cs.set j (.vec σ.length k 0 es')))) { s with β:=s.β++[⟨v,[]⟩] }:=by
   refine⟨λ_ _ _ h=>h,λi B L' lb hU=>?_⟩
   by_cases e:l=i
   .subst e;rw[q] at lb;cases lb;exact⟨_,L',cf (by simp;omega),hU,rfl⟩
   .exact⟨B,L',by rw[cQ e];exact lb,hU,.refl _ _⟩
  have o:dX (σ++[aW.vec E k 0 es']) { s with β:=s.β++[⟨v,[]⟩] } vs cs:=p.mono g2.ext hh.len;refine dX.set (o.mono ex H.len) T ?_;refine⟨h1.loose,by simp,λY W V U h=>?_⟩
  rw[cQ (by omega),dg (by omega),pJ] at h
  cases h;refine⟨ba _,λ_=>⟨⟨v,[]⟩,?_,rfl⟩⟩
  simp[<-hh.len]
 obtain⟨S,Q⟩:=H.iT (M':=s.M) (w':=s.w) (L':=L) q m D (ba _) (λ_ _ _=>rfl) (λ_ _ _ _=>rfl) (λ_ _ _ h=>h) hh.mem (λb hb=>⟨.inl hb,hh.lt L (bz t) b hb⟩) rfl rfl rfl r
 have st:=g2.trans Q;exact⟨⟨(s.β++[(⟨v,[]⟩:Loc)]).set l L,s.M,s.w,s.own⟩,rfl,⟨x.size,x.defers.imp λ_ h1=>h1.mono st.ext,λu=>(x.slot u).mono st.ext hh.len⟩,S,st⟩
end
section
variable {P:an}{X:Cx P}{N:Nat}{Qf:Post}{K:List It}{φ:Fr}{σ:List aW}{c:Code}
theorem AK.T8(t:Nat)(E k:Nat)(es':Nat->List C){k':Nat}{d:Nat->List C}(g:look φ t=.e (.one (.c (.sl ab k' 0 d))))
  (kk:AK X N Qf (.code c::K) .normal ((t,.e (.one (.bp σ.length (.sl 0 k 0 0))))::φ) (σ++[.buf E k 0 es'])):AK X N Qf (.code c::K) .normal φ σ:=by
 refine AK.ghost (λs a b hh=>?_) kk
 have f:=b.slot t;rw[g] at f;obtain⟨h,g2⟩:=hh.ix (B:=.buf E k 0 es') (L:=⟨.slice af 0 0,[]⟩) (.refl _ _) rfl hh (.inl ⟨rfl,rfl⟩) (by simp)
 refine⟨{ s with β:=s.β++[⟨.slice af 0 0,[]⟩] },rfl,⟨b.size,b.defers.imp λ_ h1=>h1.mono g2.ext,λu=>?_⟩,h,g2⟩
 simp only[look];cases hb:aA t u with
 |false=>exact(b.slot u).mono g2.ext hh.len
 |true =>
  have e:=bE hb;subst e;exact zi (E:=E) (es:=es') (ga f) (by simp) (by simp[<-hh.len])
end
def sR:Nat->(Nat->List C)->Nat->List C
 |0,es=>es
 |o+1,es=>jb (o+1) es
theorem vc(o:Nat)(es:Nat->List C)(i:Nat):sR o es i=es (o+i):=by cases o <;> simp[sR,jb]
def Aa(l k n:Nat)(es:Nat->List C)(a:A):Option (A×List Prop):=match F9 l a with
 |true=>aa (a,[])
 |false=>match a with
  |.bp l' (.sl g k' o m)=>match aA l' l,aA k' k with
   |true,ab=>aa (.c (.sl ae k m (sR o es)),[g=n,o+m<=n])
   |_,_=>af
  |_=>af
def Ab(l k n:Nat)(es:Nat->List C):List A->Option (List A×List Prop)
 |[]=>aa ([],[])
 |a::r=>match Aa l k n es a with
  |some (a',p)=>match Ab l k n es r with
   |some (r',q)=>aa (a'::r',kl p q)
   |none=>af
  |none=>af
def wz(l k n:Nat)(es:Nat->List C):E1->Option (E1×List Prop)
 |.one a=>match Aa l k n es a with|some (a,p)=>aa (.one a,p)|none=>af
 |.agg cs=>match Ab l k n es cs with|some (cs,p)=>aa (.agg cs,p)|none=>af
def vj(l k n:Nat)(es:Nat->List C):List E1->Option (List E1×List Prop)
 |[]=>aa ([],[])
 |a::r=>match wz l k n es a with
  |some (a',p)=>match vj l k n es r with
   |some (r',q)=>aa (a'::r',kl p q)
   |none=>af
  |none=>af
def wA(l k n:Nat)(es:Nat->List C):D->Option (D×List Prop)
 |.e x=>match wz l k n es x with|some (x,p)=>aa (.e x,p)|none=>af
 |.fW xs=>match vj l k n es xs with|some (xs,p)=>aa (.fW xs,p)|none=>af
 |.any=>aa (.any,[])
section
variable {σ1:List aW}{s s2:St}{E k n:Nat}{es:Nat->List C}
structure l0 (σ1:List aW)(E k n:Nat)(es:Nat->List C)(s s2:St):Prop where
 eH:∀ v a,gB (σ1++[.buf E k n es]) s v a->F9 σ1.length a=ab->gB σ1 s2 v a
 Iy:∀ v k' o m,gB (σ1++[.buf E k n es]) s v (.bp σ1.length (.sl n k' o m))->k'=k->o+m<=n->Rd s2.M v (.sl ae k m (sR o es))
theorem l0.a(h:l0 σ1 E k n es s s2){v:ak}{a a':A}{ps:List Prop}(b:Aa σ1.length k n es a=aa (a',ps))(e:ai ps)(r:gB (σ1++[.buf E k n es]) s v a):gB σ1 s2 v a':=by
 unfold Aa at b;split at b
 .rename_i d;cases b;exact h.eH v a r d
 .split at b
  .rename_i l' g k' o m _
   split at b
   .rename_i e1 e2
    cases b;have e1:=bE e1;have e2:=bE e2;subst e1 e2;obtain⟨rfl,h2⟩:g=n/\o+m<=n:=e;exact h.Iy v _ _ _ r rfl h2
   .cases b
  .cases b
theorem l0.l(h:l0 σ1 E k n es s s2):∀ {vs:List ak}{cs m8:List A}{ps:List Prop},Ab σ1.length k n es cs=aa (m8,ps)->ai ps->dX (σ1++[.buf E k n es]) s vs cs->dX σ1 s2 vs m8
 |[],[],_,_,b,_,_=>by cases b;trivial
 |[],_::_,_,_,_,_,r=>r.elim
 |_::_,[],_,_,_,_,r=>r.elim
 |v::vs,c::cs,m8,ps,b,d,r=>by
  simp only[Ab] at b;split at b
  .rename_i a' p h1
   split at b
   .rename_i r' q h2
    cases b;rw[ai.cat] at d;exact⟨h.a h1 d.1 r.1,h.l h2 d.2 r.2⟩
   .cases b
  .cases b
theorem l0.e(h:l0 σ1 E k n es s s2){v:ak}{x f:E1}{ps:List Prop}(b:wz σ1.length k n es x=aa (f,ps))(d:ai ps)(r:mc (σ1++[.buf E k n es]) s v x):mc σ1 s2 v f:=by
 cases x with
 |one a =>
  simp only[wz] at b;split at b
  .rename_i a' p h1;cases b;exact h.a h1 d r
  .cases b
 |agg cs =>
  simp only[wz] at b;split at b
  .rename_i a' p h1;cases b
   obtain⟨vs,i,g⟩:=r;exact⟨vs,i,h.l h1 d g⟩
  .cases b
theorem l0.es'(h:l0 σ1 E k n es s s2):∀ {vs:List ak}{cs m8:List E1}{ps:List Prop},vj σ1.length k n es cs=aa (m8,ps)->ai ps->gI (σ1++[.buf E k n es]) s vs cs->gI σ1 s2 vs m8
 |[],[],_,_,a,_,_=>by cases a;trivial
 |[],_::_,_,_,_,_,r=>r.elim
 |_::_,[],_,_,_,_,r=>r.elim
 |v::vs,c::cs,m8,ps,a,b,r=>by
  simp only[vj] at a;split at a
  .rename_i a' p h1
   split at a
   .rename_i r' q h2
    cases a;rw[ai.cat] at b;exact⟨h.e h1 b.1 r.1,h.es' h2 b.2 r.2⟩
   .cases a
  .cases a
theorem l0.d(h:l0 σ1 E k n es s s2){v:ak}{x f:D}{ps:List Prop}(a:wA σ1.length k n es x=aa (f,ps))(b:ai ps)(r:dh (σ1++[.buf E k n es]) s v x):dh σ1 s2 v f:=by
 cases x with
 |e x =>
  simp only[wA] at a;split at a
  .rename_i a' p h1;cases a;exact h.e h1 b r
  .cases a
 |fW xs =>
  simp only[wA] at a;split at a
  .rename_i a' p h1;cases a
   obtain⟨vs,i,g⟩:=r;exact⟨vs,i,h.es' h1 b g⟩
  .cases a
 |any=>cases a;trivial
theorem aJ.Iy(hh:aJ (σ1++[.buf E k n es]) s)(F:sQ σ1.length σ1=ab) :
  ∃ s2:St,aJ σ1 s2/\eW s s2/\l0 σ1 E k n es s s2/\∀ {σ0:List aW} {s0:St},cC σ0 s0 (σ1++[.buf E k n es]) s->σ0.length<=σ1.length->cC σ0 s0 σ1 s2:=by
 have D:(σ1++[aW.buf E k n es])[σ1.length]?=aa (.buf E k n es):=by simp
 have R:s.β.length=σ1.length+1:=by rw[hh.len];simp
 have x:s.β[σ1.length]?=aa s.β[σ1.length]:=aR (by omega)
 generalize s.β[σ1.length]=L at x;have B:=hh.box _ _ L D x;obtain⟨M',V,O,T,m4⟩:∃ M':Mem,(∀ b o v,s.M b o=aa v->M' b o=aa v)/\(∀ b,b∉L.bs->∀ o,M' b o=s.M b o)/\(∀ b o v,M' b o=aa v->s.w.cell? ⟨b,o,af⟩=aa v) /\
   (∀ v k' o m,gB (σ1++[.buf E k n es]) s v (.bp σ1.length (.sl n k' o m))->k'=k->o+m<=n->Rd M' v (.sl ae k m (sR o es))):=by
  rcases B with⟨rfl,rfl⟩|⟨b,Y,vs,zs,rfl,Z,C2,W,HQ,Q,hM⟩
  .refine⟨s.M,λ_ _ _ h=>h,λ_ _ _=>rfl,hh.mem,λv k' o m r e t=>?_⟩
   obtain⟨lv,⟨a,a0,cap,Y,f,h1,h2,h3,q,J⟩,_,H⟩:=r;obtain⟨L',d,l⟩:=(H _ _ _ _ D).2 rfl;rw[x] at d;cases d;rw[q] at l;cases l;have:cap=0:=by omega
   subst this;have:m=0:=by omega
   subst this;rw[f];exact Rd.jM
  .let M':Mem:=λg o=>if g=b then vs[o]? else s.M g o
   have U:∀ g o v,s.M g o=aa v->M' g o=aa v:=λg o v f=>by
    by_cases e:g=b
    .subst e;rw[hM] at f;cases f
    .simp only[M',e,bH];exact f
   refine⟨M',U,λg y o=>?_,λg o v f=>?_,λv k' o m r e t=>?_⟩
   .simp at y;simp only[M',y,bH]
   .by_cases e:g=b
    .subst e;simp only[M',bO] at f;simp only[aY,Z];have:o<vs.length:=(bt.1 f).1;simpa[b7 this] using f
    .simp only[M',e,bH] at f;exact hh.mem g o v f
   .subst e;obtain⟨lv,⟨a,a0,cap,c1,f,h1,h2,h3,q,J⟩,_,H⟩:=r;obtain⟨L',d,l⟩:=(H _ _ _ _ D).2 rfl;rw[x] at d;cases d;rw[q] at l;cases l;rw[f];have p:∀ i,i<m->∀ j c,(sR o es i)[j]?=aa c->∃ u,vs[(o+i)*k'+j]?=aa u/\Rd s.M u c:=λi hi j c hj=>by
     rw[vc] at hj;exact Q.rd (o+i) (by omega) j c hj
    refine .sl b (o*k') (λi j=>(vs[(o+i)*k'+j]?).getD aj) h1 (by omega) (by simp) (λi hi=>by rw[vc];exact Q.width _ (by omega)) (λhm=>?_) (λi hi j c hj=>?_) (λi hi j c hj=>?_)
    .obtain⟨b1,e1,e2⟩:=J (by omega)
     cases e1;exact e2
    .obtain⟨u,I,_⟩:=p i hi j c hj;simp only[M',bO];rw[show o*k'+i*k'+j=(o+i)*k'+j by rw[ey],I]
     rfl
    .obtain⟨u,I,u2⟩:=p i hi j c hj;rw[I];exact u2.mono U
 have z:(σ1++[aW.buf E k n es]).set σ1.length .dead=σ1++[.dead]:=by simp
 obtain⟨S,G⟩:=hh.iT (M':=M') (w':=s.w) (B':=.dead) (L':=⟨L.v,[]⟩) D x ay (ba _) (λ_ _ _=>rfl) (λb _ hb o=>O b hb o) V T (by simp) rfl rfl rfl ay
 rw[z] at S G;have q3:=S.drop (rest:=[.dead]) F;refine⟨_,q3,⟨rfl,V,λb hb o=>O b (hb L (bz x)) o,T,λb hb=>?_⟩,⟨λv a r A=>?_,λv k' o m r e t=>m4 v k' o m r e t⟩,λ{σ0 s0} st hle=>(st.trans (G.oA hh)).drop (rest:=[.dead]) hle⟩
 .rcases hb with hb|⟨L',d,hb⟩
  .exact .inl hb
  .have:=gY d;rcases nO this with h|rfl
   .exact .inr ⟨L',h,hb⟩
   .simp at hb
 .exact(r.mono G.ext hh.len).drop (rest:=[.dead]) A
end
theorem dZ.qz{P:an}{ι:Type}{X:Cx P}{f:aX}{args:List D}{σ:List aW}{res res':ι->D}{σ1:ι->List aW}{E k:Nat}{n:ι->Nat}{es:ι->Nat->List C}(h:dZ X f args σ res (λi=>σ1 i++[.buf E k (n i) (es i)]))
  {ps:ι->List Prop} (e:∀ i,wA (σ1 i).length k (n i) (es i) (res i)=aa (res' i,ps i)) (g:∀ i,ai (ps i)) (b:∀ i,sQ (σ1 i).length (σ1 i)=ab) (a:∀ i,σ.length<=(σ1 i).length):dZ X f args σ res' σ1:=by
 refine⟨h.1,λs vs hr hh S cs hS=>h.2 s vs hr hh S cs λi fr v s' hl oa lG st=>?_⟩
 obtain⟨s2,c1,c2,c3,c4⟩:=lG.Iy (b i);exact .ghost c2 (hS i fr v s2 (hl.mono c2.mem) (c3.d (e i) (g i) oa) c1 (c4 st (a i)))
theorem Ev.qz{P:an}{X:Cx P}{f:aX}{args:List D}{σ:List aW}{res res':D}{σ1:List aW}{E k n:Nat}{es:Nat->List C}(h:Ev X f args σ res (σ1++[.buf E k n es]))
  {ps:List Prop} (d:wA σ1.length k n es res=aa (res',ps)) (e:ai ps) (b:sQ σ1.length σ1=ab) (a:σ.length<=σ1.length):Ev X f args σ res' σ1 :=
 (dZ.qz (ι:=Unit) h.EW (λ_=>d) (λ_=>e) (λ_=>b) (λ_=>a)).Di
section
variable {P:an}{T:List (Nat×TI)}{o:av}{d:aq->D}{σ:List aW}
theorem zC{x:aq}{t:ar}(h:o.op=.call { callee:=.builtin .clear,args:=#[x],argTypes:=#[t] })(ρ:aq->ak) :
  aw ρ o=(do pure (.value (<-Builtin.clear_ #[t] o.type #[ρ x]))):=by
 simp[aw,h,resolve,invoke,builtin]
theorem Ix{M:Mem}{z:ak}{g:List C}{m k:Nat}(q:z.cells.toList.map ql=g.map aa)(r:g.length=k):Flat M k m (λ_=>g) (Builtin.zeroCells z.cells m).toList:=by
 have e:z.cells.size=k:=by have:=dc List.length q;simp at this;omega
 have p:dX [] ⟨[],M,default,λ_=>False⟩ z.cells.toList (g.map A.c):=kK q
 refine⟨by simp[Builtin.zeroCells,e],λ_ _=>r,λi hi j c s=>?_⟩
 have h:j<k:=by rw[<-r];exact(bt.1 s).1
 obtain⟨v,v1,u⟩:=p.get (j:=j) (a:=A.c c) (by rw[mT,s];rfl)
 refine⟨v,?_,u⟩;have l:i*k+j<m*k:=by
  have:i*k+k<=m*k:=by rw[<-jo];exact er k hi
  omega
 have f:(i*k+j) % k=j:=by rw[kC,Nat.add_mul_mod_self_right];exact Nat.mod_eq_of_lt h
 have b:j<z.cells.size:=by omega
 have t:z.cells[j]=v:=by
  rw[rh] at v1;rw[dm b] at v1;exact lM v1
 have n:z.cells[j]! = v:=by rw[pI z.cells j b,t]
 simp[Builtin.zeroCells,e,l,f,n]
theorem bR.PL(hT:dk P T){x:aq}{t:ar}(h:o.op=.call { callee:=.builtin .clear,args:=#[x],argTypes:=#[t] }){i c:TI}{E:ar}(hi:bL T t=aa i)(hd:i.desc=.slice E)(hE:bL T E=aa c)
  {l n q m:Nat} {J:ar} {es:Nat->List C} (hx:d x=.e (.one (.bp l (.sl n c.size q m)))) (hl:σ[l]?=aa (.buf J c.size n es)) (I:q+m<=n) :
  bR P o d σ .any (σ.set l (.buf J c.size n (sO q (q+m) c.zero es))):=by
 intro s ρ hh hr;have h1:=hr x;rw[hx] at h1
 change gB σ s (ρ x) (.bp l _) at h1
 obtain⟨lv,⟨a,a0,cap,c0,hv,Vz,Pq,V2,S,Y⟩,_,O⟩:=h1;obtain⟨L,W,A⟩:=(O _ _ _ _ hl).2 rfl;rw[S] at A;have f:=(hT t i hi).Tf;rw[hd] at f;rw[zC h,hv]
 by_cases hm:m=0
 .subst hm;have hz:sO q (q+0) c.zero es=es:=by
   funext j
   simp only[sO];rw[aO (by omega)]
  have hs:σ.set l (.buf J c.size n es)=σ:=by
   apply jk
   intro j
   by_cases e:l=j
   .subst e;rw[cf (bt.1 hl).1,hl]
   .rw[cQ e]
  rw[hz,hs];refine⟨.value (.tuple #[]),s,?_,ay,hh,.refl _ _,?_⟩
  .cases a <;> simp[Builtin.clear_,run_underlying f]
  .intro R p;cases a <;> simp[Builtin.clear_,run_underlying f,aP] at p
 .obtain⟨b,rfl,rfl⟩:=Y (by omega)
  rcases hh.box l _ L hl W with⟨_,rfl⟩|⟨b',c1,vs,B,rfl,g,X,U,Q,hF,hM⟩
  .cases A
  .cases A;obtain⟨inf,z,Z,z2,z3,z4,z5,z6,z7⟩:=(hT E c hE).info;have y:=Ix (M:=s.M) (m:=m) z5 z7;have hlen:(Builtin.zeroCells z.cells m).toList.length=m*c.size:=y.len;have Ow:=hF.len;have hb:q*c.size+m*c.size<=n*c.size:=by rw[<-ey];exact er _ I
   have q2:=hF.SL y I;have he:(λi=>if q<=i/\i<q+m then (λ_=>c.zero) (i-q) else es i)=sO q (q+m) c.zero es:=rfl
   rw[he] at q2;obtain⟨t1,t2⟩:=hh.en hl W X U Q g q2 (by simp only[bF,bn,gF];omega) hM
   have k:∀ v∈(Builtin.zeroCells z.cells m).toList,v.oneCell'=ab:=y.cell;have r:=run_storeCells_at P b (q*c.size) J (Builtin.zeroCells z.cells m).toList 0 (vs++B).toArray s.w g (by simp only[nW,bF];omega) k
   have G:((vs++B).toArray.toList.take (q*c.size+0)++(Builtin.zeroCells z.cells m).toList++(vs++B).toArray.toList.drop (q*c.size+0+(Builtin.zeroCells z.cells m).toList.length))=vs.take (q*c.size)++(Builtin.zeroCells z.cells m).toList++vs.drop (q*c.size+(Builtin.zeroCells z.cells m).toList.length)++B:=by
    rw[uR,gG,y4 (by omega),y5 (by omega),dq,dq,dq]
   rw[G] at r;have F:∀ u,(zeroValue E).run P u=.ok z u:=λu=>by simp[zeroValue,typeInfo,Z,z4]
   have V:∀ u es,(zeroValue E).events P u es=es:=λu es=>by simp[zeroValue,typeInfo,Z,z4,aP]
   obtain⟨K,rfl⟩:∃ K,m=K+1:=⟨m-1,by omega⟩
   refine⟨.value (.tuple #[]),_,?_,ay,t1,t2,?_⟩
   .simp[Builtin.clear_,run_underlying f,F,r]
   .intro R p;have H:R∈(storeCells ⟨b,q*c.size,af⟩ (Builtin.zeroCells z.cells (K+1)).toList).events P s.w #[]:=by
     simp only[Builtin.clear_,aP,iR,kZ] at p;simpa[run_underlying f,F,V,r] using p
    rcases eN (Builtin.zeroCells z.cells (K+1)).toList 0 (vs++B).toArray s.w #[] g (by simp only[nW,bF];omega) k R H with N|⟨j,_,_,rfl⟩
    .simp at N
    .exact mv (bz W) (by simp) (hM _)
end
section
variable {P:an}{X:Cx P}{N:Nat}{Qf:Post}{K:List It}{φ:Fr}{σ:List aW}{all rest:List av}{o:av}
theorem AK.Qq{e:Fr}{σ':List aW}(h:∀ s a,cw N σ s φ a->aJ σ s->∃ s':St,s'.w=s.w/\cw N σ' s' e a/\aJ σ' s'/\Step σ s σ' s')(k:AK X N Qf (.ops all rest::K) .normal e σ'):AK X N Qf (.ops all rest::K) .normal φ σ:=by
 intro s a i hh b kk cs S idx hb ly hQ;obtain⟨s',j,g,d,st⟩:=h s a i hh;have c:=st.oA hh;refine .ghost (.of hh d j c) ?_;exact k s' a g d b kk cs S idx hb ly λf σ2 s2 a2 q l h2 oT=>hQ f σ2 s2 a2 q l h2 (c.trans oT)
theorem AK.ye(t:Nat)(E k:Nat)(es':Nat->List C){k':Nat}{d:Nat->List C}(g:look φ t=.e (.one (.c (.sl ab k' 0 d))))
  (kk:AK X N Qf (.ops all rest::K) .normal ((t,.e (.one (.bp σ.length (.sl 0 k 0 0))))::φ) (σ++[.buf E k 0 es'])):AK X N Qf (.ops all rest::K) .normal φ σ:=by
 refine AK.Qq (λs a b hh=>?_) kk
 have f:=b.slot t;rw[g] at f;obtain⟨h,g2⟩:=hh.ix (B:=.buf E k 0 es') (L:=⟨.slice af 0 0,[]⟩) (.refl _ _) rfl hh (.inl ⟨rfl,rfl⟩) (by simp)
 refine⟨{ s with β:=s.β++[⟨.slice af 0 0,[]⟩] },rfl,⟨b.size,b.defers.imp λ_ h1=>h1.mono g2.ext,λu=>?_⟩,h,g2⟩
 simp only[look];cases hb:aA t u with
 |false=>exact(b.slot u).mono g2.ext hh.len
 |true =>
  have e:=bE hb;subst e;exact zi (E:=E) (es:=es') (ga f) (by simp) (by simp[<-hh.len])
end
end Go.AM
namespace Go.AM.R1
open Go.Proofs
open Go.Sort (swp insInner insOuter ltInt)
variable {X:Cx ah}
theorem Ll(n:Int):Ev X 172 [dI n] [] (dB ae) []:=by
 refine Ev.body Tryz.func172 rfl rfl rfl λa=>?_
 refine bd [(5,ae)] 100 rfl (by simp[ai]) (AK.br rfl ?_)
 simp[ai]
abbrev Vd:dC:=k6 aI (λ_=>dB ae) λ_=>[]
theorem YL:eb X 172 Vd:=.pf λn _=>Ll n
theorem Ob(x y:Int):Ev X 134 [dI x,dI y] [] (dB (ltInt x y)) []:=by
 have a:b5 X [(172,Vd)]:=.cons YL .nil;refine Ev.body Tryz.func134 rfl rfl rfl λb=>?_
 refine aE a [] 100 rfl (by simp[ai]) (AK.br rfl ?_)
 simp[ai,ltInt]
abbrev um:dC:=qb aI aI (λx y=>dB (ltInt x y)) λ_ _=>[]
theorem xg:eb X 134 um:=.te λx y _=>Ob x y
def eI(d:Array Int)(j:Nat):List C:=[.int .i64 d[j]!]
abbrev kG(n:Nat):D:=.e (.one (.bp 0 (.sl n 1 0 n)))
abbrev bI(n:Nat)(d:Array Int):aW:=.buf 3 1 n (eI d)
theorem ig:∀ j,j<1->([0]:List Nat)[j]?=aa j:=λj a=>by
 have:j=0:=by omega
 subst this;rfl
end Go.AM.R1
namespace Go.AM.R1
open Go.Proofs
open Go.Sort (swp insInner insOuter insertionSort ltInt)
variable {X:Cx ah}
theorem ij{d:Array Int}{i j n:Nat}(l:d.size=n)(hi:i<n)(m:j<n){f:Nat->List C}(e:a9 n f (eI d)):a9 n (nu j [.int .i64 d[i]!] (nu i [.int .i64 d[j]!] f)) (eI (swp d i j)):=by
 intro k g;have h:(swp d i j)[k]! = if k=j then d[i]! else if k=i then d[j]! else d[k]! := by
  unfold swp;rw[pI _ k (by simp;omega)]
  rw[Array.getElem_setIfInBounds (by simp;omega),Array.getElem_setIfInBounds (by omega)]
  by_cases a:j=k
  .rw[aU a,aU a.symm]
  .rw[aO a,aO (iL a)]
   by_cases b:i=k
   .rw[aU b,aU b.symm]
   .rw[aO b,aO (iL b),pI d k (by omega)]
 have c:=e k g;simp only[eI,nu] at c ⊢;rw[h]
 by_cases a:k=j
 .simp only[a,bO]
 .by_cases b:k=i
  .subst b;simp only[a,bO,bH]
  .simp only[a,b,bH];exact c
theorem size_swp(d:Array Int)(i j:Nat):(swp d i j).size=d.size:=by simp[swp]
theorem AQ{a j:Nat}{d:Array Int}(h:a<j)(b:ltInt d[j]! d[j-1]! = ab):insInner ltInt a j d=insInner ltInt a (j-1) (swp d j (j-1)):=by
 cases j with
 |zero=>omega
 |succ j =>
  simp only[md] at b ⊢;rw[insInner,aU];rw[b,Bool.and_true];exact b9 h
theorem sE{a j:Nat}{d:Array Int}(h:a<j->ltInt d[j]! d[j-1]! = ae):insInner ltInt a j d=d:=by
 cases j with
 |zero=>rfl
 |succ j =>
  simp only[md] at h;rw[insInner,aO];intro b;rw[bG] at b;rw[h (nQ b.1)] at b;cases b.2
theorem Sd(n:Nat)(d:Array Int)(a b:Nat)(q:d.size=n)(w:b<=n)(v:a<=n)(t:n<=4000000) :
  Ev X 128 [kG n,dI a,dI b] [bI n d] (.fW []) [bI n (insertionSort ltInt d a b)]:=by
 have m:b5 X [(134,um)]:=.cons xg .nil;refine Ev.body Tryz.func128 rfl rfl rfl λu=>?_
 refine bP rfl (by simp[ai,bD];omega) ?_
 refine AK.cd 1 (λs:Nat×Array Int=>s.2.size=n/\a+1<=s.1/\s.1<=n+1/\insOuter ltInt a b s.1 s.2=insertionSort ltInt d a b) (λs=>[(0,kG n),(1,dI a),(2,dI b),(6,dI s.1)]) (λs=>[bI n s.2]) (λs=>b-s.1) (a+1,d) rfl ?_ rfl ?_ rfl ⟨q,by omega,by simp only;omega,rfl⟩ ?_
 .simp[ai.cat,ai,a9]
 .simp[ai.cat,ai,a9]
 rintro⟨i,d1⟩ ⟨o,hi,k,e⟩;simp only at o hi k e
 by_cases h:i<b
 .refine bd [(12,ab)] 100 rfl (by simp[ai];omega) ?_
  refine AK.cd 1 (λs:Nat×Array Int=>s.2.size=n/\s.1<=i/\insInner ltInt a s.1 s.2=insInner ltInt a i d1) (λs=>[(0,kG n),(1,dI a),(2,dI b),(6,dI i),(7,dI s.1)]) (λs=>[bI n s.2]) (λs=>s.1) (i,d1) rfl ?_ rfl ?_ rfl ⟨o,by simp,rfl⟩ ?_
  .simp[ai.cat,ai,a9]
  .simp[ai.cat,ai,a9]
  rintro⟨j,d2⟩ ⟨f,r,c⟩;simp only at f r c
  by_cases p:a<j
  .have l:((j:Int)-1).toNat=j-1:=by omega
   by_cases g:ltInt d2[j]! d2[j-1]! = ab
   .refine aE m [(18,ab),(29,ab)] 100 rfl ?_ ?_
    .simp[ai,bD,l,g];omega
    refine AK.bg (j-1,swp d2 j (j-1)) rfl ?_ rfl rfl rfl ?_ rfl ?_ ?_
    .simp[ai.cat,ai];omega
    .simp only[ai.cat,ai,l,bm,bu,aF,aG];exact ij f (by omega) (by omega) (λ_ _=>rfl)
    .refine⟨by rw[size_swp];exact f,by omega,?_⟩
     rw[<-c,AQ p g]
    .simp;omega
   .refine aE m [(18,ab),(29,ae)] 100 rfl ?_ (AK.leaveD rfl rfl ?_)
    .simp[ai,bD,l,g];omega
    refine bP rfl ?_ (AK.bg (i+1,d2) rfl ?_ rfl rfl rfl ?_ rfl ?_ ?_)
    .simp[ai,bD];omega
    .simp[ai.cat,ai]
    .simp[ai.cat,ai,a9]
    .refine⟨f,by omega,by simp only;omega,?_⟩
     simp only;rw[<-e,insOuter.eq_1 ltInt a b i,aU h,<-c,sE λ_=>by simpa using g]
    .simp;omega
  .refine aE m [(18,ae)] 100 rfl ?_ (AK.leaveD rfl rfl ?_)
   .simp[ai,bD];omega
   refine bP rfl ?_ (AK.bg (i+1,d2) rfl ?_ rfl rfl rfl ?_ rfl ?_ ?_)
   .simp[ai,bD];omega
   .simp[ai.cat,ai]
   .simp[ai.cat,ai,a9]
   .refine⟨f,by omega,by simp only;omega,?_⟩
    simp only;rw[<-e,insOuter.eq_1 ltInt a b i,aU h,<-c,sE λx=>absurd x p]
   .simp;omega
 .refine bd [(12,ae)] 100 rfl (by simp[ai];omega) (AK.leaveD rfl rfl ?_)
  have:insertionSort ltInt d a b=d1:=by rw[<-e,insOuter,aO h]
  rw[this];exact cn.tb [0] rfl ay rfl rfl rfl ig
end Go.AM.R1
namespace Go.AM.R1
open Go.Proofs
open Go.Sort (swp siftDown ltInt)
variable {X:Cx ah}
theorem Lu{hi first root:Nat}{d:Array Int}(h:¬2*root+1<hi):siftDown ltInt hi first root d=d:=by
 rw[siftDown,dif_pos (by omega)]
theorem Lv{hi first root:Nat}{d:Array Int}(h:2*root+1<hi)(b:2*root+1+1<hi->ltInt d[first+(2*root+1)]! d[first+(2*root+1)+1]! = ae)(c:ltInt d[first+root]! d[first+(2*root+1)]! = ab) :
  siftDown ltInt hi first root d=siftDown ltInt hi first (2*root+1) (swp d (first+root) (first+(2*root+1))):=by
 rw[siftDown.eq_1 ltInt hi first root d,dif_neg (by omega),aO (by intro a;rw[bG] at a;rw[b (nQ a.1)] at a;cases a.2),aO (by simp[c])]
theorem FX{hi first root:Nat}{d:Array Int}(h:2*root+1<hi)(b:2*root+1+1<hi->ltInt d[first+(2*root+1)]! d[first+(2*root+1)+1]! = ae)(c:ltInt d[first+root]! d[first+(2*root+1)]! = ae) :
  siftDown ltInt hi first root d=d:=by
 rw[siftDown.eq_1 ltInt hi first root d,dif_neg (by omega),aO (by intro a;rw[bG] at a;rw[b (nQ a.1)] at a;cases a.2),aU (by simp[c])]
theorem Sg{hi first root:Nat}{d:Array Int}(h:2*root+1+1<hi)(a:ltInt d[first+(2*root+1)]! d[first+(2*root+1+1)]! = ab)(b:ltInt d[first+root]! d[first+(2*root+1+1)]! = ab) :
  siftDown ltInt hi first root d=siftDown ltInt hi first (2*root+1+1) (swp d (first+root) (first+(2*root+1+1))):=by
 rw[siftDown.eq_1 ltInt hi first root d,dif_neg (by omega),aU (by rw[bG];exact⟨b9 h,a⟩),aO (by simp only[show 2*root+2=2*root+1+1 from rfl,b];decide),dif_pos (by omega)]
theorem Og{hi first root:Nat}{d:Array Int}(h:2*root+1+1<hi)(a:ltInt d[first+(2*root+1)]! d[first+(2*root+1+1)]! = ab)(b:ltInt d[first+root]! d[first+(2*root+1+1)]! = ae) :
  siftDown ltInt hi first root d=d:=by
 rw[siftDown.eq_1 ltInt hi first root d,dif_neg (by omega),aU (by rw[bG];exact⟨b9 h,a⟩),aU (by simp only[show 2*root+2=2*root+1+1 from rfl,b];decide)]
set_option maxHeartbeats 4000000 in
theorem Oh(n:Nat)(d:Array Int)(lo hi first:Nat)(m:d.size=n)(t:first+hi<=n)(o:lo<=n)(q:n<=4000000) :
  Ev X 167 [kG n,dI lo,dI hi,dI first] [bI n d] (.fW []) [bI n (siftDown ltInt hi first lo d)]:=by
 have j:b5 X [(134,um)]:=.cons xg .nil;refine Ev.body Tryz.func167 rfl rfl rfl λr=>?_
 refine bP rfl ay ?_;refine AK.cd 1 (λs:Nat×Array Int=>s.2.size=n/\s.1<=n/\siftDown ltInt hi first s.1 s.2=siftDown ltInt hi first lo d) (λs=>[(0,kG n),(1,dI lo),(2,dI hi),(3,dI first),(8,dI s.1)]) (λs=>[bI n s.2]) (λs=>hi-s.1) (lo,d) rfl ?_ rfl ?_ rfl ⟨m,o,rfl⟩ ?_
 .simp[ai.cat,ai,a9]
 .simp[ai.cat,ai,a9]
 rintro⟨root,d1⟩ ⟨i,p,a⟩;simp only at i p a
 by_cases h:2*root+1<hi
 .have f:((first:Int)+(2*(root:Int)+1)).toNat=first+(2*root+1):=by omega
  have g:((first:Int)+(2*(root:Int)+1)+1).toNat=first+(2*root+1+1):=by omega
  by_cases k:2*root+1+1<hi
  .by_cases e:ltInt d1[first+(2*root+1)]! d1[first+(2*root+1+1)]! = ab
   .have l:((first:Int)+(2*(root:Int)+1+1)).toNat=first+(2*root+1+1):=by omega
    have c:((first:Int)+(root:Int)).toNat=first+root:=by omega
    by_cases b:ltInt d1[first+root]! d1[first+(2*root+1+1)]! = ab
    .refine aE j [(16,ae),(20,ab),(35,ab),(51,ab)] 200 rfl ?_ (AK.bg (2*root+1+1,swp d1 (first+root) (first+(2*root+1+1))) rfl ?_ rfl rfl rfl ?_ rfl ?_ ?_)
     .simp only[ai,bm,f,g,c,l,e,b,bD,bh,bY,aG,aF];and_intros <;> omega
     .simp only[ai.cat,ai,aG,aF];and_intros <;> omega
     .simp only[ai.cat,ai,bm,f,g,c,l,aF,aG];exact ij i (by omega) (by omega) (λ_ _=>rfl)
     .refine⟨by rw[size_swp];exact i,by simp only;omega,?_⟩
      rw[<-a,Sg k e b]
     .simp only;omega
    .rw[ln] at b;rw[show siftDown ltInt hi first lo d=d1 by rw[<-a,Og k e b]]
     refine aE j [(16,ae),(20,ab),(35,ab),(51,ae)] 200 rfl ?_ (AK.eC (cn.mk [0] rfl ay rfl rfl rfl ig));simp only[ai,bm,f,g,c,l,e,b,bD,bh,bY,aG,aF];and_intros <;> omega
   .rw[ln] at e;have c:((first:Int)+(root:Int)).toNat=first+root:=by omega
    by_cases b:ltInt d1[first+root]! d1[first+(2*root+1)]! = ab
    .refine aE j [(16,ae),(20,ab),(35,ae),(51,ab)] 200 rfl ?_ (AK.bg (2*root+1,swp d1 (first+root) (first+(2*root+1))) rfl ?_ rfl rfl rfl ?_ rfl ?_ ?_)
     .simp only[ai,bm,f,g,c,e,b,bD,bh,bY,aG,aF];and_intros <;> omega
     .simp only[ai.cat,ai,aG,aF];and_intros <;> omega
     .simp only[ai.cat,ai,bm,f,g,c,aF,aG];exact ij i (by omega) (by omega) (λ_ _=>rfl)
     .refine⟨by rw[size_swp];exact i,by simp only;omega,?_⟩
      rw[<-a,Lv h (λ_=>e) b]
     .simp only;omega
    .rw[ln] at b;rw[show siftDown ltInt hi first lo d=d1 by rw[<-a,FX h (λ_=>e) b]]
     refine aE j [(16,ae),(20,ab),(35,ae),(51,ae)] 200 rfl ?_ (AK.eC (cn.mk [0] rfl ay rfl rfl rfl ig));simp only[ai,bm,f,g,c,e,b,bD,bh,bY,aG,aF];and_intros <;> omega
  .have e:True:=ay;have c:((first:Int)+(root:Int)).toNat=first+root:=by omega
   by_cases b:ltInt d1[first+root]! d1[first+(2*root+1)]! = ab
   .refine aE j [(16,ae),(20,ae),(51,ab)] 200 rfl ?_ (AK.bg (2*root+1,swp d1 (first+root) (first+(2*root+1))) rfl ?_ rfl rfl rfl ?_ rfl ?_ ?_)
    .simp only[ai,bm,f,g,c,b,bD,bh,bY,aG,aF];and_intros <;> omega
    .simp only[ai.cat,ai,aG,aF];and_intros <;> omega
    .simp only[ai.cat,ai,bm,f,g,c,aF,aG];exact ij i (by omega) (by omega) (λ_ _=>rfl)
    .refine⟨by rw[size_swp];exact i,by simp only;omega,?_⟩
     rw[<-a,Lv h (λx=>absurd x k) b]
    .simp only;omega
   .rw[ln] at b;rw[show siftDown ltInt hi first lo d=d1 by rw[<-a,FX h (λx=>absurd x k) b]]
    refine aE j [(16,ae),(20,ae),(51,ae)] 200 rfl ?_ (AK.eC (cn.mk [0] rfl ay rfl rfl rfl ig));simp only[ai,bm,f,g,c,b,bD,bh,bY,aG,aF];and_intros <;> omega
 .refine bd [(16,ab)] 100 rfl (by simp only[ai,bD,bh,aG,aF];and_intros <;> omega) (AK.leaveD rfl rfl ?_)
  rw[<-a,Lu h];exact cn.tb [0] rfl ay rfl rfl rfl ig
end Go.AM.R1
namespace Go.AM.R1
open Go.Proofs
open Go.Sort (swp order2 median medianAdjacent choosePivot Hint ltInt)
variable {X:Cx ah}
abbrev bN(k:Nat):aW:=.cells 3 [.c (.int .i64 k)]
abbrev SI:D:=.e (.one (.ptr 1 0))
abbrev tII(a b:Nat):D:=.fW [.one (.c (.int .i64 a)),.one (.c (.int .i64 b))]
theorem FY:∀ j,j<2->([0,1]:List Nat)[j]?=aa j:=λj a=>by
 rcases j with _|_|j
 .rfl
 .rfl
 .omega
theorem tG(n:Nat)(d:Array Int)(a b sw:Nat)(j:a<n)(k:b<n)(g:n<=4000000)(f:sw<=1000) :
  Ev X 210 [kG n,dI a,dI b,SI] [bI n d,bN sw] (tII (order2 ltInt d a b sw).1 (order2 ltInt d a b sw).2.1) [bI n d,bN (order2 ltInt d a b sw).2.2]:=by
 have c:b5 X [(134,um)]:=.cons xg .nil;refine Ev.body Tryz.func210 rfl rfl rfl λi=>?_
 by_cases h:ltInt d[b]! d[a]! = ab
 .have e:order2 ltInt d a b sw=(b,a,sw+1):=by simp[order2,h]
  rw[e];refine aE c [(18,ab)] 200 rfl ?_ (AK.eB [0,1] rfl ?_ rfl rfl rfl FY)
  .simp only[ai,bm,bu,h,bD,aG,aF];and_intros <;> omega
  .simp[ai,ai.cat]
 .have e:order2 ltInt d a b sw=(a,b,sw):=by simp[order2,h]
  rw[e];rw[ln] at h;refine aE c [(18,ae)] 200 rfl ?_ (AK.eB [0,1] rfl ?_ rfl rfl rfl FY)
  .simp only[ai,bm,bu,h,bD,aG,aF];and_intros <;> omega
  .simp[ai,ai.cat]
theorem nI{d:Array Int}{a b sw n:Nat}(c:a<n)(e:b<n):(order2 ltInt d a b sw).1<n/\(order2 ltInt d a b sw).2.1<n/\(order2 ltInt d a b sw).2.2<=sw+1:=by
 unfold order2;split <;> simp only <;> omega
theorem yX(n:Nat)(d:Array Int)(a b c sw:Nat)(g:a<n)(h:b<n)(i:c<n)(e:n<=4000000)(k:sw<=900) :
  Ev X 171 [kG n,dI a,dI b,dI c,SI] [bI n d,bN sw] (dI (median ltInt d a b c sw).1) [bI n d,bN (median ltInt d a b c sw).2]:=by
 refine Ev.body Tryz.func171 rfl rfl rfl λl=>?_
 have f:=nI (d:=d) (sw:=sw) g h;have j:=nI (d:=d) (sw:=(order2 ltInt d a b sw).2.2) f.2.1 i;refine ee rfl ay ?_;refine AK.bM (tG n d a b sw g h e (by omega)) [0,1] rfl rfl rfl rfl rfl rfl rfl rfl rfl rfl rfl ?_
 refine ee rfl ay ?_;refine AK.bM (tG n d (order2 ltInt d a b sw).2.1 c (order2 ltInt d a b sw).2.2 f.2.1 i e (by omega)) [0,1] rfl rfl rfl rfl rfl rfl rfl rfl rfl rfl rfl ?_
 refine ee rfl ay ?_;refine AK.bM (tG n d (order2 ltInt d a b sw).1 (order2 ltInt d (order2 ltInt d a b sw).2.1 c (order2 ltInt d a b sw).2.2).1 (order2 ltInt d (order2 ltInt d a b sw).2.1 c (order2 ltInt d a b sw).2.2).2.2 f.1 j.1 e (by omega)) [0,1] rfl rfl rfl rfl rfl rfl rfl rfl rfl rfl rfl ?_
 refine ee rfl ay (AK.eB [0,1] rfl ?_ rfl rfl rfl FY);simp[ai,ai.cat,median]
theorem HB{d:Array Int}{a b c sw n:Nat}(h:a<n)(i:b<n)(j:c<n):(median ltInt d a b c sw).1<n/\(median ltInt d a b c sw).2<=sw+3:=by
 have e:=nI (d:=d) (sw:=sw) h i;have f:=nI (d:=d) (sw:=(order2 ltInt d a b sw).2.2) e.2.1 j;have g:=nI (d:=d) (sw:=(order2 ltInt d (order2 ltInt d a b sw).2.1 c (order2 ltInt d a b sw).2.2).2.2) e.1 f.1;unfold median;exact⟨g.2.1,by simp only;omega⟩
theorem AR(n:Nat)(d:Array Int)(a sw:Nat)(f:1<=a)(g:a+1<n)(c:n<=4000000)(b:sw<=900) :
  Ev X 170 [kG n,dI a,SI] [bI n d,bN sw] (dI (medianAdjacent ltInt d a sw).1) [bI n d,bN (medianAdjacent ltInt d a sw).2]:=by
 refine Ev.body Tryz.func170 rfl rfl rfl λe=>?_
 obtain⟨a,rfl⟩:∃ a',a=a'+1:=⟨a-1,by omega⟩
 refine ee rfl (by simp only[ai,bD];and_intros <;> omega) ?_
 have key:∀ x y z:Int,x=(a:Int)->y=((a+1:Nat):Int)->z=((a+1+1:Nat):Int)->Ev X 171 [kG n,dI x,dI y,dI z,SI] [bI n d,bN sw] (dI (median ltInt d a (a+1) (a+1+1) sw).1) [bI n d,bN (median ltInt d a (a+1) (a+1+1) sw).2]:=by
  rintro x y z rfl rfl rfl;exact yX n d a (a+1) (a+1+1) sw (by omega) (by omega) (by omega) c b
 refine AK.bM (key (((a+1:Nat):Int)-1) _ (((a+1:Nat):Int)+1) (by omega) rfl (by omega)) [0,1] rfl rfl rfl rfl rfl rfl rfl rfl rfl rfl rfl ?_
 refine ee rfl ay (AK.eB [0,1] rfl ?_ rfl rfl rfl FY);simp[ai,ai.cat,medianAdjacent]
end Go.AM.R1
namespace Go.AM
open Go.Conc (G)
section
variable {P:an}{X:Cx P}{N:Nat}{Qf:Post}{φ:Fr}{σ:List aW}
theorem AK.Xv{c:Code}{K:List It}{a:Fr}{σ':List aW}(k:AK X N Qf (.code c::K) .normal a σ'){ps qs:List Prop}(h1:r6 φ a=aa ps)(b:ai ps)(h2:uC σ σ'=aa qs)(d:ai qs):AK X N Qf (.code c::K) .normal φ σ :=
 AK.norm σ' h2 d (AW.le k (dK h1 b))
def tS:List It->List It
 |.blk _::K=>tS K
 |K=>K
theorem AK.tS:∀ {K:List It},AK X N Qf (tS K) .normal φ σ->AK X N Qf K .normal φ σ
 |[],h=>h
 |.blk _::K,h=>AK.tS (K:=K) h
 |.code _::_,h=>h
 |.ops _ _::_,h=>h
theorem AK.kP{S S2:Type}{c c2:Code}(id:Nat){K e i:List It}(h2:kO id K=aa e)(j:Go.AM.tS e=.code c2::i)(O:S2->Prop)(nL:S2->Fr)(a:S2->List aW)(n:Nat)(I:S->Prop)(fr:S->Fr)(st:S->List aW)(h:S->Nat)(x:S)
  {ps qs:List Prop} (f:r6 φ (fr x)=aa ps) (b:ai ps) (d:uC σ (st x)=aa qs) (g:ai qs) (hn:σ.length=n) (l:I x)
  (round:(∀ (y:S2) {φ:Fr} {σ:List aW} {ps qs:List Prop},O y->r6 φ (nL y)=aa ps->ai ps->uC σ (a y)=aa qs->ai qs->AK X N Qf e .normal φ σ) ->
   ∀ x,I x->AK X N (mY X N Qf K I fr st h n x) [.code c] .normal (fr x) (st x))
  (after:∀ y,O y->AK X N Qf (.code c2::i) .normal (nL y) (a y)):AK X N Qf (.code (.loop c)::K) .normal φ σ :=
 AK.cd n I fr st h x f b d g hn l (round λy _ _ _ _ k h1 b h2 g=>AK.tS (by rw[j];exact(after y k).Xv h1 b h2 g))
end
end Go.AM
namespace Go.AM.R1
open Go.Proofs
open Go.Sort (swp order2 median medianAdjacent choosePivot Hint ltInt)
variable {X:Cx ah}
def nH:Hint->Int|.unknown=>0|.increasing=>1|.decreasing=>2
theorem xj(n:Nat)(d:Array Int){a b c:Nat}(sw:Nat)(g:a<n)(h:b<n)(l:c<n)(f:n<=4000000)(e:sw<=900){x y z:Int}(k:x=a)(j:y=b)(i:z=c) :
  Ev X 171 [kG n,dI x,dI y,dI z,SI] [bI n d,bN sw] (dI (median ltInt d a b c sw).1) [bI n d,bN (median ltInt d a b c sw).2]:=by
 subst k j i;exact yX n d a b c sw g h l f e
theorem m7(n:Nat)(d:Array Int){a:Nat}(sw:Nat)(e:1<=a)(f:a+1<n)(c:n<=4000000)(b:sw<=900){x:Int}(g:x=a) :
  Ev X 170 [kG n,dI x,SI] [bI n d,bN sw] (dI (medianAdjacent ltInt d a sw).1) [bI n d,bN (medianAdjacent ltInt d a sw).2]:=by
 subst g;exact AR n d a sw e f c b
theorem oz{d:Array Int}{a sw n:Nat}(b:1<=a)(c:a+1<n):(medianAdjacent ltInt d a sw).1<n/\(medianAdjacent ltInt d a sw).2<=sw+3 :=
 HB (by omega) (by omega) (by omega)
abbrev py(k:Nat):Hint:=if k=0 then .increasing else if k=12 then .decreasing else .unknown
theorem Lw{d:Array Int}{a l:Nat}(c:8<=l)(b:l<50):choosePivot ltInt d a (a+l)=((median ltInt d (a+l / 4*1) (a+l / 4*2) (a+l / 4*3) 0).1,py (median ltInt d (a+l / 4*1) (a+l / 4*2) (a+l / 4*3) 0).2):=by
 unfold choosePivot;simp only[nP,aU (show l≥8 from c),aO (show ¬l≥50 by omega)]
abbrev mA(d:Array Int)(a l:Nat):=medianAdjacent ltInt d (a+l / 4*1) 0
abbrev mB(d:Array Int)(a l:Nat):=medianAdjacent ltInt d (a+l / 4*2) (mA d a l).2
abbrev mC(d:Array Int)(a l:Nat):=medianAdjacent ltInt d (a+l / 4*3) (mB d a l).2
theorem Lx{d:Array Int}{a l:Nat}(b:50<=l):choosePivot ltInt d a (a+l)=((median ltInt d (mA d a l).1 (mB d a l).1 (mC d a l).1 (mC d a l).2).1,py (median ltInt d (mA d a l).1 (mB d a l).1 (mC d a l).1 (mC d a l).2).2):=by
 unfold choosePivot;simp only[nP,aU (show l≥8 by omega),aU (show l≥50 from b)]
theorem Hz(n:Nat)(d:Array Int)(a b:Nat)(j:a<=b)(o:b<=n)(i:8<=b-a)(g:n<=4000000) :
  Ev X 131 [kG n,dI a,dI b] [bI n d] (.fW [.one (.c (.int .i64 (choosePivot ltInt d a b).1)),.one (.c (.int .i64 (nH (choosePivot ltInt d a b).2)))]) [bI n d]:=by
 refine Ev.body Tryz.func131 rfl rfl rfl λk=>?_
 obtain⟨l,rfl⟩:∃ l,b=a+l:=⟨b-a,by omega⟩
 rw[nP] at i
 by_cases h:l<50
 .refine bd [(32,ab),(34,ae)] 200 rfl ?_ ?_
  .simp only[ai,bD,bh,bY,aG,aF];and_intros <;> omega
  refine AK.bM (xj n d (a:=a+l / 4*1) (b:=a+l / 4*2) (c:=a+l / 4*3) 0 (by omega) (by omega) (by omega) g (by omega) (by omega) (by omega) (by omega)) [0,1] rfl rfl rfl rfl rfl rfl rfl rfl rfl rfl rfl ?_
  rw[Lw i h];generalize median ltInt d (a+l / 4*1) (a+l / 4*2) (a+l / 4*3) 0=r
  by_cases e:r.2=0
  .refine bd [(52,ab)] 200 rfl (by simp[ai,e]) (AK.eB [0] rfl ?_ rfl rfl rfl ig)
   simp[ai,ai.cat,e,nH,py]
  by_cases f:r.2=12
  .refine bd [(52,ae),(55,ab)] 200 rfl (by simp[ai,f]) (AK.eB [0] rfl ?_ rfl rfl rfl ig)
   simp[ai,ai.cat,f,nH,py]
  .refine bd [(52,ae),(55,ae)] 200 rfl (by simp[ai,e];omega) (AK.eB [0] rfl ?_ rfl rfl rfl ig)
   simp[ai,ai.cat,e,f,nH,py]
 .refine bd [(32,ab),(34,ab)] 200 rfl ?_ ?_
  .simp only[ai,bD,bh,bY,aG,aF];and_intros <;> omega
  have m:(mA d a l).1<n/\(mA d a l).2<=0+3:=oz (d:=d) (a:=a+l / 4*1) (sw:=0) (n:=n) (by omega) (by omega)
  have p:(mB d a l).1<n/\(mB d a l).2<=(mA d a l).2+3:=oz (d:=d) (a:=a+l / 4*2) (sw:=(mA d a l).2) (n:=n) (by omega) (by omega)
  have q:(mC d a l).1<n/\(mC d a l).2<=(mB d a l).2+3:=oz (d:=d) (a:=a+l / 4*3) (sw:=(mB d a l).2) (n:=n) (by omega) (by omega)
  refine AK.bM (m7 n d (a:=a+l / 4*1) 0 (by omega) (by omega) g (by omega) (by omega)) [0,1] rfl rfl rfl rfl rfl rfl rfl rfl rfl rfl rfl ?_
  refine ee rfl ay ?_;refine AK.bM (m7 n d (a:=a+l / 4*2) (mA d a l).2 (by omega) (by omega) g (by omega) (by omega)) [0,1] rfl rfl rfl rfl rfl rfl rfl rfl rfl rfl rfl ?_
  refine ee rfl ay ?_;refine AK.bM (m7 n d (a:=a+l / 4*3) (mB d a l).2 (by omega) (by omega) g (by omega) (by omega)) [0,1] rfl rfl rfl rfl rfl rfl rfl rfl rfl rfl rfl ?_
  refine ee rfl ay ?_;refine AK.bM (xj n d (a:=(mA d a l).1) (b:=(mB d a l).1) (c:=(mC d a l).1) (mC d a l).2 (by omega) (by omega) (by omega) g (by omega) rfl rfl rfl) [0,1] rfl rfl rfl rfl rfl rfl rfl rfl rfl rfl rfl ?_
  rw[Lx (by omega)]
  generalize median ltInt d (mA d a l).1 (mB d a l).1 (mC d a l).1 (mC d a l).2=r
  by_cases e:r.2=0
  .refine bd [(52,ab)] 200 rfl (by simp[ai,e]) (AK.eB [0] rfl ?_ rfl rfl rfl ig)
   simp[ai,ai.cat,e,nH,py]
  by_cases f:r.2=12
  .refine bd [(52,ae),(55,ab)] 200 rfl (by simp[ai,f]) (AK.eB [0] rfl ?_ rfl rfl rfl ig)
   simp[ai,ai.cat,f,nH,py]
  .refine bd [(52,ae),(55,ae)] 200 rfl (by simp[ai,e];omega) (AK.eB [0] rfl ?_ rfl rfl rfl ig)
   simp[ai,ai.cat,e,f,nH,py]
end Go.AM.R1
namespace Go.AM.R1
open Go.Proofs
open Go.Sort (swp reverseLoop reverseRange siftDown heapBuild heapPop heapSort ltInt)
variable {X:Cx ah}
theorem Sf(n:Nat)(d:Array Int)(a b:Nat)(g:d.size=n)(q:1<=b)(o:a<=n)(p:b<=n)(l:n<=4000000):Ev X 132 [kG n,dI a,dI b] [bI n d] (.fW []) [bI n (reverseRange d a b)]:=by
 refine Ev.body Tryz.func132 rfl rfl rfl λm=>?_
 refine bP rfl (by simp[ai,bD];omega) ?_
 refine AK.cd 1 (λs:Nat×Nat×Array Int=>s.2.2.size=n/\s.1<=n/\s.2.1<n+1/\s.2.1<n/\reverseLoop s.1 s.2.1 s.2.2=reverseRange d a b) (λs=>[(0,kG n),(6,dI s.1),(7,dI s.2.1)]) (λs=>[bI n s.2.2]) (λs=>s.2.1-s.1) (a,b-1,d) rfl ?_ rfl ?_ rfl ⟨g,by simp only;omega,by simp only;omega,by simp only;omega,rfl⟩ ?_
 .simp[ai.cat,ai];omega
 .simp[ai.cat,ai,a9]
 rintro⟨i,j,d1⟩ ⟨f,hi,_,k,c⟩;simp only at f hi k c
 by_cases h:i<j
 .refine bd [(13,ab)] 200 rfl ?_ (AK.bg (i+1,j-1,swp d1 i j) rfl ?_ rfl rfl rfl ?_ rfl ?_ ?_)
  .simp only[ai,bm,bu,bD,bh,aG,aF];and_intros <;> omega
  .simp only[ai.cat,ai,aG,aF];and_intros <;> omega
  .simp only[ai.cat,ai,bm,bu,aF,aG];exact ij f (by omega) (by omega) (λ_ _=>rfl)
  .refine⟨by rw[size_swp];exact f,by simp only;omega,by simp only;omega,by simp only;omega,?_⟩
   rw[<-c,reverseLoop.eq_1 i j d1,aU h]
  .simp only;omega
 .have e:reverseRange d a b=d1:=by rw[<-c,reverseLoop,aO h]
  rw[e];refine bd [(13,ae)] 100 rfl (by simp[ai];omega) (AK.leaveD rfl rfl ?_)
  exact cn.tb [0] rfl ay rfl rfl rfl ig
theorem CP(n:Nat)(d:Array Int){lo hi first:Nat}(c:d.size=n)(b:first+hi<=n)(f:lo<=n)(a:n<=4000000){x y z:Int}(h:x=lo)(g:y=hi)(e:z=first) :
  Ev X 167 [kG n,dI x,dI y,dI z] [bI n d] (.fW []) [bI n (siftDown ltInt hi first lo d)]:=by
 subst h g e;exact Oh n d lo hi first c b f a
theorem yY(hi first:Nat):∀ (m root:Nat)(d:Array Int),hi-root<=m->(siftDown ltInt hi first root d).size=d.size:=by
 intro m
 induction m with
 |zero=>intro root d h;rw[siftDown,dif_pos (by omega)]
 |succ m a =>
  intro root d h;rw[siftDown];split
  .rfl
  split
  .split
   .rfl
   split
   .rw[a _ _ (by omega),size_swp]
   .rfl
  .split
   .rfl
   .rw[a _ _ (by omega),size_swp]
set_option maxHeartbeats 1000000 in
theorem Oe(n:Nat)(d:Array Int)(a b:Nat)(q:d.size=n)(r:a<=b)(t:1<=b-a)(p:b<=n)(m:n<=4000000):Ev X 129 [kG n,dI a,dI b] [bI n d] (.fW []) [bI n (heapSort ltInt d a b)]:=by
 refine Ev.body Tryz.func129 rfl rfl rfl λu=>?_
 obtain⟨l,rfl⟩:∃ l,b=a+l:=⟨b-a,by omega⟩
 rw[nP] at t;refine ee rfl (by simp only[ai,bD,aG,aF];and_intros <;> omega) ?_
 refine AK.kP (S2:=Array Int) 0 rfl rfl (λd2=>d2.size=n/\d2=heapBuild ltInt l a ((l-1) / 2+1) d) (λ_=>[(0,kG n),(6,dI a),(7,dI 0),(8,dI l)]) (λd2=>[bI n d2]) 1 (λs:Nat×Array Int=>s.2.size=n/\s.1<=(l-1) / 2+1/\heapBuild ltInt l a s.1 s.2=heapBuild ltInt l a ((l-1) / 2+1) d) (λs=>[(0,kG n),(6,dI a),(7,dI 0),(8,dI l),(9,dI ((s.1:Int)-1))]) (λs=>[bI n s.2]) (λs=>s.1) ((l-1) / 2+1,d) rfl ?_ rfl ?_ rfl ⟨q,ba _,rfl⟩ ?_ ?_
 .simp[ai.cat,ai];omega
 .simp[ai.cat,ai,a9]
 .rintro out ⟨k,d1⟩ ⟨e,j,c⟩;simp only at e j c;cases k with
  |zero =>
   refine bd [(19,ae)] 100 rfl (by simp[ai]) (AK.leaveD rfl rfl ?_)
   exact out d1 ⟨e,c⟩ rfl (by simp[ai,ai.cat]) rfl (by simp[ai,ai.cat,a9])
  |succ k =>
   refine bd [(19,ab)] 100 rfl (by simp only[ai,bh];omega) ?_
   refine AK.bM (CP n d1 (lo:=k) (hi:=l) (first:=a) e p (by omega) m (by omega) rfl rfl) [0] rfl rfl rfl rfl rfl rfl rfl rfl rfl rfl rfl ?_
   refine ee rfl ?_ (AK.bg (k,siftDown ltInt l a k d1) rfl ?_ rfl rfl rfl ?_ rfl ?_ ?_)
   .simp only[ai,bD];omega
   .simp only[ai.cat,ai,aG,aF];omega
   .simp[ai.cat,ai,a9]
   .exact⟨by rw[yY _ _ _ _ _ (ba _)];exact e,by simp only;omega,c⟩
   .simp
 rintro g ⟨h,i⟩;refine ee rfl (by simp only[ai,bD];omega) ?_
 have f:heapSort ltInt d a (a+l)=heapPop ltInt a l g:=by
  unfold heapSort;rw[nP,<-i]
 rw[f];refine AK.cd 1 (λs:Nat×Array Int=>s.2.size=n/\s.1<=l/\heapPop ltInt a s.1 s.2=heapPop ltInt a l g) (λs=>[(0,kG n),(6,dI a),(7,dI 0),(8,dI l),(10,dI ((s.1:Int)-1))]) (λs=>[bI n s.2]) (λs=>s.1) (l,g) rfl ?_ rfl ?_ rfl ⟨h,ba _,rfl⟩ ?_
 .simp[ai.cat,ai]
 .simp[ai.cat,ai,a9]
 rintro⟨k,d1⟩ ⟨e,j,c⟩;simp only at e j c;cases k with
 |zero =>
  rw[<-c];refine bd [(30,ae)] 100 rfl (by simp[ai]) (AK.leaveD rfl rfl ?_)
  exact cn.tb [0] rfl ay rfl rfl rfl ig
 |succ k =>
  have o:((a:Int)+(((k+1:Nat):Int)-1)).toNat=a+k:=by omega
  refine bd [(30,ab),(1000011,ab)] 200 rfl ?_ ?_
  .simp only[ai,bm,bu,o,bD,bh,aG,aF];and_intros <;> omega
  refine AK.norm [bI n (swp d1 a (a+k))] rfl ?_ ?_
  .simp only[ai.cat,ai,bm,bu,o,aF,aG];exact ij e (by omega) (by omega) (λ_ _=>rfl)
  refine ee rfl ay ?_;refine AK.bM (CP n (swp d1 a (a+k)) (lo:=0) (hi:=k) (first:=a) (by rw[size_swp];exact e) (by omega) (by omega) m rfl (by omega) rfl) [0] rfl rfl rfl rfl rfl rfl rfl rfl rfl rfl rfl ?_
  refine ee rfl ?_ (AK.bg (k,siftDown ltInt k a 0 (swp d1 a (a+k))) rfl ?_ rfl rfl rfl ?_ rfl ?_ ?_)
  .simp only[ai,bD];omega
  .simp only[ai.cat,ai,aG,aF];omega
  .simp[ai.cat,ai,a9]
  .exact⟨by rw[yY _ _ _ _ _ (ba _),size_swp];exact e,by simp only;omega,c⟩
  .simp
end Go.AM.R1
namespace Go.AM.R1
theorem kQ{p:Bs}(h:ck p=ab):∀ b∈p,97<=b.toNat/\b.toNat<=122:=by
 intro b a;have:=bq.1 h b a;simpa[eR] using this
theorem wD:∀ (p:Bs) (n m:Int)(k:Nat),(∀ b∈p,97<=b.toNat/\b.toNat<=122)->0<=n->n<m->1<=m ->
  0<=p.foldl (λn b=>27*n+((b.toNat:Int)-97) % 256+1) n/\p.foldl (λn b=>27*n+((b.toNat:Int)-97) % 256+1) n<m*27 ^ p.length
 |[],n,m,_,_,d,a,_=>by simpa using⟨d,a⟩
 |b::p,n,m,k,c,d,a,f=>by
  obtain⟨h,g⟩:=c b (by simp)
  have:=wD p (27*n+((b.toNat:Int)-97) % 256+1) (m*27) k (λx e=>c x (by simp[e])) (by omega) (by omega) (by omega)
  simp only[g7,db];rw[Int.pow_succ,Int.mul_comm (27 ^ p.length) 27,<-Int.mul_assoc];exact this
theorem OY:∀ {n:Nat},n<=8->(27:Int) ^ n<=282429536481:=by
 intro n a
 match n,a with
 |0,_|1,_|2,_|3,_|4,_|5,_|6,_|7,_|8,_=>decide
theorem yo{p:Bs}(h:bT p=ab):0<=codeOf p/\codeOf p<282429536481:=by
 simp only[bT,bG,bh] at h;obtain⟨b,a⟩:=wD p 0 1 0 (kQ h.2) (by omega) (by omega) (by omega)
 have:=OY h.1.2;rw[Int.one_mul] at a;exact⟨b,Int.lt_of_lt_of_le a this⟩
end Go.AM.R1
namespace Go.AM.R1
open Go.Proofs
variable {X:Cx ah}
theorem JN(k:Int):Ev X 68 [dI k] [] (dB (cD k)) []:=by
 refine Ev.body Tryz.func68 rfl rfl rfl λc=>?_
 by_cases a:1<=k
 .by_cases b:k<=99
  .refine bd [(4,ab),(7,ab)] 100 rfl ?_ (AK.br rfl ?_)
   .simp[ai,a,b]
   .simp[ai,cD,a,b]
  .refine bd [(4,ab),(7,ae)] 100 rfl ?_ (AK.br rfl ?_)
   .simp[ai,a];omega
   .simp[ai,cD,a,b]
 .refine bd [(4,ae)] 100 rfl ?_ (AK.br rfl ?_)
  .simp[ai];omega
  .simp[ai,cD,a]
theorem t68:eb X 68 (k6 aI (λk=>dB (cD k)) λ_=>[]):=.pf λk _=>JN k
theorem Ad{s:Bs}{i:Nat}(h:i<s.length):ck (s.take (i+1))=(ck (s.take i)&&eR (s.getD i 0)):=by
 unfold ck;rw[mS,aR h];simp only[uY,ri,u5,List.all_nil,Bool.and_true,ag,aR h,dG]
theorem pg{b:UInt8}:eR b=ab↔97<=(b.toNat:Int)/\(b.toNat:Int)<=122:=by simp[eR];omega
theorem wB{s:Bs}{i:Nat}(h:i<s.length)(b:eR (s.getD i 0)=ae):ck s=ae:=by
 cases a:ck s with
 |false=>rfl
 |true =>
  have:=bq.1 a (s.getD i 0) (by simp[ag,aR h])
  rw[b] at this;cases this
theorem BN(s:Bs):Ev X 195 [dS s] [] (dB (ck s)) []:=by
 refine Ev.body Tryz.func195 rfl rfl rfl λg=>?_
 have f:=g.str 0 rfl;refine bP rfl ay ?_;refine AK.we (λi=>i<=s.length/\ck (s.take i)=ab) (λi:Nat=>[(0,dS s),(5,dI s.length),(6,dI i)]) (λ_=>[]) (λi=>s.length-i) 0 rfl (by simp[ai.cat,ai]) ⟨by omega,by simp[ck]⟩ rfl ?_
 rintro i ⟨hi,a⟩
 by_cases h:i<s.length
 .by_cases b:cv s i<97
  .refine bd [(7,ab),(12,ab)] 100 rfl ?_ (AK.iq (cn.zero rfl ?_))
   .simp[-ag,ai,h,cA,b]
   .have:eR (s.getD i 0)=ae:=by
     cases d:eR (s.getD i 0) with
     |false=>rfl
     |true=>have:=pg.1 d;unfold cv at b;omega
    simp[ai.cat,ai,wB h this]
  .by_cases c:cv s i<=122
   .refine bd [(7,ab),(12,ae),(17,ae)] 100 rfl ?_ (AK.again (i+1) rfl ?_ ?_ ?_ rfl)
    .simp[-ag,ai,h,cA,b,c,bD];exact⟨by omega,cJ (by omega)⟩
    .simp[ai.cat,ai]
    .refine⟨by omega,?_⟩
     rw[Ad h,a,dH];exact pg.2 (by unfold cv at b c;omega)
    .omega
   .refine bd [(7,ab),(12,ae),(17,ab)] 100 rfl ?_ (AK.iq (cn.zero rfl ?_))
    .simp[-ag,ai,h,cA,b];exact b9 (by omega)
    .have:eR (s.getD i 0)=ae:=by
      cases d:eR (s.getD i 0) with
      |false=>rfl
      |true=>have:=pg.1 d;unfold cv at c;omega
     simp[ai.cat,ai,wB h this]
 .have e:i=s.length:=by omega
  subst e;refine bd [(7,ae)] 100 rfl (by simp[ai]) (AK.leave rfl rfl ?_)
  refine bP rfl ay (AK.br rfl ?_);rw[cq] at a;simp[ai.cat,ai,a]
theorem Ue:eb X 195 (k6 aS (λs=>dB (ck s)) λ_=>[]):=.pf λk _=>BN k
abbrev tb1:List (Nat×dC):=[(68,k6 aI (λk=>dB (cD k)) λ_=>[]),(195,k6 aS (λs=>dB (ck s)) λ_=>[])]
theorem XK:b5 X tb1:=.cons t68 (.cons Ue .nil)
theorem BO(p:Bs):Ev X 164 [dS p] [] (dB (bT p)) []:=by
 refine Ev.body Tryz.func164 rfl rfl rfl λc=>?_
 by_cases a:1<=p.length
 .by_cases b:p.length<=8
  .refine aE XK [(5,ab),(9,ab),(11,ab)] 100 rfl ?_ (AK.br rfl ?_)
   .simp[ai];omega
   .simp[ai,bT,a,b]
  .refine aE XK [(5,ab),(9,ae),(11,ae)] 100 rfl ?_ (AK.br rfl ?_)
   .simp[ai];omega
   .simp[ai,bT,a,b]
 .refine aE XK [(5,ae),(11,ae)] 100 rfl ?_ (AK.br rfl ?_)
  .simp[ai];omega
  .simp[ai,bT,a]
theorem t164:eb X 164 (k6 aS (λs=>dB (bT s)) λ_=>[]):=.pf λk _=>BO k
theorem BQ(n:Nat)(h:n<=4000000):Ev X 209 [dI n] [] (dI (cB n)) []:=by
 refine Ev.body Tryz.func209 rfl rfl rfl λg=>?_
 by_cases f:n<1
 .refine bd [(5,ab),(9,ab)] 100 rfl ?_ (AK.br rfl ?_)
  .simp[ai];omega
  .simp[ai,cB,f]
 .by_cases e:8<n
  .refine bd [(5,ae),(8,ab)] 100 rfl ?_ (AK.br rfl ?_)
   .simp[ai];omega
   .simp[ai,cB,e]
  .refine bd [(5,ae),(8,ae)] 100 rfl ?_ ?_
   .simp[ai];omega
   have j:cB n=2∨cB n=4∨cB n=8:=by unfold cB;split;omega;split;simp;split <;> simp
   refine AK.we (λi:Nat=>(i=2∨i=4∨i=8)/\i<=cB n) (λi:Nat=>[(0,dI n),(3,dI i)]) (λ_=>[]) (λi=>8-i) 2 rfl (by simp[ai.cat,ai]) ⟨by simp,by omega⟩ rfl ?_
   rintro i ⟨hi,a⟩
   by_cases h:i<n
   .refine bd [(12,ab)] 100 rfl ?_ (AK.again (2*i) rfl ?_ ?_ ?_ rfl)
    .simp[ai,bD];omega
    .simp[ai.cat,ai];omega
    .unfold cB at a ⊢;split at a
     .omega
     .rename_i d;rw[aO d]
      split at a
      .omega
      .rename_i c;rw[aO c]
       split at a
       .rename_i b;rw[aU b];omega
       .rename_i b;rw[aO b];omega
    .omega
   .refine bd [(12,ae)] 100 rfl (by simp[ai];omega) (AK.leave rfl rfl ?_)
    refine bP rfl ay (AK.br rfl ?_);have:i=cB n:=by
     unfold cB at a ⊢;split at a
     .omega
     .rename_i d;rw[aO d]
      split at a
      .rename_i c;rw[aU c];omega
      .rename_i c;rw[aO c]
       split at a
       .rename_i b;rw[aU b];omega
       .rename_i b;rw[aO b];omega
    simp[ai.cat,ai,this]
theorem DU(s:Bs)(b:UInt8):strip (s++[b])=if b=46 then strip s else s++[b]:=by
 unfold strip;rw[List.reverse_append];simp only[List.reverse_cons,List.reverse_nil,rn,y9,List.dropWhile_cons]
 by_cases h:b=46
 .simp[h]
 .have:(b==46)=ae:=by simpa using h
  simp[this,h]
theorem wC{s:Bs}{n:Nat}(h:n<s.length):strip (s.take (n+1))=if s.getD n 0=46 then strip (s.take n) else s.take (n+1):=by
 have e:s.take (n+1)=s.take n++[s.getD n 0]:=by
  rw[mS,aR h];simp only[ri,ag,aR h,dG]
 rw[e,DU]
theorem BR(s:Bs):Ev X 204 [dS s,dU 46] [] (dS (strip s)) []:=by
 refine Ev.body Tryz.func204 rfl rfl rfl λj=>?_
 have h:=j.str 0 rfl;refine bP rfl ay ?_;refine AK.we (λn=>n<=s.length/\strip (s.take n)=strip s) (λn:Nat=>[(0,dS (s.take n)),(1,dU 46)]) (λ_=>[]) (λn=>n) s.length rfl (by simp[ai.cat,ai]) ⟨by omega,by simp⟩ rfl ?_
 rintro n ⟨k,a⟩;cases n with
 |zero =>
  refine bd [(7,ae),(16,ae)] 100 rfl ?_ (AK.leave rfl rfl ?_)
  .simp[ai]
  refine bP rfl ay (AK.br rfl ?_);have:strip s=[]:=by rw[<-a];rfl
  simp[ai.cat,ai,this]
 |succ n =>
  have g:(s.take (n+1)).length=n+1:=by simp;omega
  have f:cv (s.take (n+1)) n=cv s n:=by simp[cv,ag,et]
  have i:=wC (s:=s) (n:=n) (by omega)
  have b:((n:Int)+1-1).toNat=n:=by omega
  by_cases c:s.getD n 0=46
  .refine bd [(7,ab),(15,ab),(16,ab)] 100 rfl ?_ (AK.again n rfl ?_ ?_ ?_ rfl)
   .have d:cv s n=46:=by unfold cv;rw[c];rfl
    simp[-ag,-bn,ai,g,cA,b,f,d,bD];omega
   .simp[ai.cat,ai];show (s.take (n+1)).take _=_;rw[show (((min (n+1) s.length:Nat):Int)-1).toNat=n by omega,List.take_take]
    congr 1
    omega
   .refine⟨by omega,?_⟩
    rw[i,aU c] at a;exact a
   .omega
  .refine bd [(7,ab),(15,ae),(16,ae)] 100 rfl ?_ (AK.leave rfl rfl ?_)
   .have d:cv s n≠46:=by
     unfold cv;intro e;exact c (pG.1 (by show _=46;omega))
    simp[-ag,-bn,ai,g,cA,b,f,d,bD];omega
   refine bP rfl ay (AK.br rfl ?_);rw[i,aO c] at a;simp[ai.cat,ai,a]
def Uf:dC:=λargs σ=>match args,σ with
 |[.e (.one (.c (.str s))),.e (.one (.c (.int .u8 46)))],[]=>aa (dS (strip s),[],[])
 |_,_=>af
theorem t204:eb X 204 Uf:=by
 intro args σ res σ' obs h _;unfold Uf at h;split at h
 .cases h;exact BR _
 .cases h
theorem Ng(s:Bs):Ev X 163 [dS s,dS [46]] [] (dS (strip s)) []:=by
 refine Ev.body Tryz.func163 rfl rfl rfl λb=>?_
 by_cases h:s=[]
 .subst h;refine aE (b5.cons t204 .nil) [(8,ab),(12,ab)] 100 rfl ?_ (AK.br rfl ?_)
  .simp[ai]
  .simp[ai,strip]
 .refine aE (b5.cons t204 .nil) [(8,ae),(11,ae),(12,ae),(16,ab),(20,ab),(21,ab)] 100 rfl ?_ (AK.br rfl ?_)
  .cases s with
   |nil=>exact absurd rfl h
   |cons a r=>simp[ai];decide
  .simp[ai]
def QP:dC:=λargs σ=>match args,σ with
 |[.e (.one (.c (.str s))),.e (.one (.c (.str [46])))],[]=>aa (dS (strip s),[],[])
 |_,_=>af
theorem t163:eb X 163 QP:=by
 intro args σ res σ' obs h _;unfold QP at h;split at h
 .cases h;exact Ng _
 .cases h
theorem tZ{p:Bs}{i:Nat}(h:i<p.length):codeOf (p.take (i+1))=27*codeOf (p.take i)+(cv p i-97) % 256+1:=by
 unfold codeOf;rw[mS,aR h];simp only[jG,ri,g7,uZ,cv,ag,aR h,dG]
theorem jW{p:Bs}(h:bT p=ab){i:Nat}(hi:i<=p.length):0<=codeOf (p.take i)/\codeOf (p.take i)<282429536481:=by
 simp only[bT,bG,bh] at h;obtain⟨d,a⟩:=wD (p.take i) 0 1 0 (λb c=>kQ h.2 b (gY c)) (by omega) (by omega) (by omega)
 have:=OY (n:=(p.take i).length) (by rw[bn];omega)
 rw[Int.one_mul] at a;exact⟨d,Int.lt_of_lt_of_le a this⟩
theorem wE{p:Bs}{i:Nat}(h:i<p.length):p.getD i 0∈p:=by
 rw[ag,aR h];exact dy h
abbrev tb2:List (Nat×dC):=[(68,k6 aI (λk=>dB (cD k)) λ_=>[]),(164,k6 aS (λs=>dB (bT s)) λ_=>[])]
theorem qa:b5 X tb2:=.cons t68 (.cons t164 .nil)
abbrev ZQ(n:Int):D:=.fW [.one (.c (.int .i64 n)),.one (.c .n8)]
theorem JO(k:Int)(p:Bs)(f:cD k=ab)(b:bT p=ab):Ev X 166 [dI k,dS p] [] (ZQ (jd k p)) []:=by
 refine Ev.body Tryz.func166 rfl rfl rfl λq=>?_
 have a:=b;simp only[bT,bG,bh] at a;have d:=f;simp only[cD,bG,bh] at d;refine aE qa [(8,ae),(13,ae)] 100 rfl (by simp[ai,f,b]) ?_
 refine AK.we (λi=>i<=p.length) (λi:Nat=>[(0,dI k),(1,dS p),(6,dI (codeOf (p.take i))),(19,dI p.length),(20,dI i)]) (λ_=>[]) (λi=>p.length-i) 0 rfl (by simp[ai.cat,ai,codeOf]) (by omega) rfl ?_
 intro i hi
 by_cases h:i<p.length
 .have g:=jW b hi;have r:=jW b (i:=i+1) (by omega)
  have e:=tZ h;refine bd [(21,ab)] 100 rfl ?_ (AK.again (i+1) rfl ?_ ?_ ?_ rfl)
  .simp only[ai,cA,bD];simp[-ag,h,cA];have j:=kQ a.2 (p.getD i 0) (wE h);have c:97<=cv p i/\cv p i<=122:=by unfold cv;omega
   omega
  .have j:=kQ a.2 (p.getD i 0) (wE h);have c:97<=cv p i/\cv p i<=122:=by unfold cv;omega
   have l:(cv p i-97) % 256=cv p i-97:=mf (by omega) (by omega)
   rw[l] at e;simp[-ag,ai.cat,ai,cA,e]
  .show i+1<=p.length;omega
  .show p.length-(i+1)<p.length-i;omega
 .have e:i=p.length:=by omega
  subst e;have g:=yo b;refine bd [(21,ae)] 100 rfl (by simp[ai]) (AK.leave rfl rfl ?_)
  refine bP rfl ?_ (AK.br rfl ?_)
  .rw[cq];have o:0<=codeOf p*(2*k+1):=Int.mul_nonneg g.1 (by omega)
   have n:codeOf p*(2*k+1)<=282429536481*199:=Int.mul_le_mul (by omega) (by omega) (by omega) (by omega)
   generalize codeOf p*(2*k+1)=m at o n;simp only[ai,bD];simp;omega
  .rw[cq];refine ai.cat.2 ⟨?_,ai.cat.2 ⟨rfl,ay⟩⟩;show (_:Int)=_;rw[Int.mul_comm 7919 k];rfl
theorem t166:eb X 166 (qb aI aS (λk p=>ZQ (jd k p)) λk p=>[cD k=ab,bT p=ab]):=.te λk p h=>JO k p h.1 h.2
theorem QR{P:an}{o:av}{j:aq->D}{σ:List aW}{op:BinOp}{t ty:ar}{x:aq}(h:o.op=.binOp op t x (.const .nilIface) ty){c:Bool}{ms:Array (String×ar)}(l:P.underlying t=aa (.interface ms))
  (p:j x=.e (.one (.c .n8))) (n:j (.const .nilIface)=.e (.one (.c .n8)))
  (k:lU op ab=aa c):bR P o j σ (.e (.one (.c (.bool c)))) σ:=by
 refine .quiet λs ρ q m=>?_
 have g:=m x;have d:=m (.const .nilIface);rw[p] at g;rw[n] at d
 replace g:=ga g
 replace d:=ga d
 generalize a:ρ x=vx at g;generalize b:ρ (.const .nilIface)=vy at d;cases g;cases d;have i:(Op.equal t .nilIface .nilIface).run P s.w=.ok ab s.w:=by
  show (Op.equalIn (9999+1) t _ _).run P s.w=_;unfold Op.equalIn;simp[underlying,l]
 have f:∀ es,(Op.equal t .nilIface .nilIface).events P s.w es=es:=λes=>by
  show (Op.equalIn (9999+1) t _ _).events P s.w es=es;unfold Op.equalIn;simp[underlying,l]
 cases op <;> simp only[lU,reduceCtorEq,cV] at k
 .subst k;exact⟨.bool ab,by simp[aw,h,a,b,eqGuard,binOp,i],Rd.bool,by simp[aw,h,a,b,eqGuard,binOp,i,f]⟩
 .subst k;exact⟨.bool ae,by simp[aw,h,a,b,eqGuard,binOp,i],Rd.bool,by simp[aw,h,a,b,eqGuard,binOp,i,f]⟩
theorem Gz(k:Int)(p:Bs) (n:Int)(a:cD k=ab)(b:bT p=ab):Ev X 127 [dI k,dS p,dI n] [] (dB (jd k p==n)) []:=by
 refine Ev.body Tryz.func127 rfl rfl rfl λc=>?_
 refine aE (b5.cons t166 .nil) [(17,ab)] 100 rfl ?_ ?_
 .simp[ai,a,b]
 refine AK.law (QR rfl Tryz.underlying213 rfl rfl rfl) rfl rfl ?_;refine aE (b5.cons t166 .nil) [(17,ab)] 100 rfl ?_ (AK.br rfl ?_)
 .rfl
 .rfl
theorem t127:eb X 127 (C5 aI aS aI (λk p n=>dB (jd k p==n)) λk p _=>[cD k=ab,bT p=ab]):=.H0 λk p n h=>Gz k p n h.1 h.2
abbrev dQ(n:Int):D:=.e (.one (.c (.int .u64 n)))
theorem _root_.Go.AM.AW.Fy{P:an}{X:Cx P}{N:Nat}{Q:Post}{φ:Fr}{σ:List aW}{x y:Code}(h:AW X N y Q φ σ):AW X N (.cond (.const (.bool ae)) x y) Q φ σ:=by
 intro s a f hh b k cs S hb hQ;refine .ctl hh rfl (λ_=>u7 (t:=ae) rfl) λg h1=>?_
 exact h g a (f.rely h1 hh) (hh.rely h1) b k cs S hb λe c σ' s' a' q i d st=>hQ e c σ' s' a' q i d (h1.stepW.trans st)
theorem _root_.Go.AM.AK.Fy{P:an}{X:Cx P}{N:Nat}{Qf:Post}{K:List It}{φ:Fr}{σ:List aW}{x y:Code}(h:AK X N Qf (.code y::K) .normal φ σ):AK X N Qf (.code (.cond (.const (.bool ae)) x y)::K) .normal φ σ:=AW.Fy h
theorem JF{P:an}{o:av}{p:aq->D}{σ:List aW}{op:BinOp}{t ty:ar}{x y:aq}{k n:IntKind}{a b:Int} (c:Int)(h:o.op=.binOp op t x y ty)
  (u:p x=.e (.one (.c (.int k a)))) (r:p y=.e (.one (.c (.int n b)))) (l:bD k c)
  (d:∀ w,(binOp op t (.int k a) (.int n b)).run P w=.ok (.int k c) w) (m:∀ w,(binOp op t (.int k a) (.int n b)).events P w #[]=#[]) :
  bR P o p σ (.e (.one (.c (.int k c)))) σ:=by
 refine .quiet λs ρ v q=>?_
 have j:=q x;have f:=q y;rw[u] at j;rw[r] at f
 replace j:=ga j
 replace f:=ga f
 generalize g:ρ x=vx at j;generalize i:ρ y=vy at f;cases j;cases f;exact⟨.int k c,by simp only[aw,h,bZ,g,i,gD,cg,d,c7],.int l,by simp[aw,h,g,i,gD,jO,d,m]⟩
theorem DZ:Ev X 238 [dQ 1,dQ 2] [] (.fW [.one (.c (.int .u64 0)),.one (.c (.int .u64 2))]) []:=by
 refine Ev.body Tryz.func238 rfl rfl rfl λa=>?_
 refine ee rfl (by simp[ai,bD]) (AK.br rfl ?_)
 simp[ai,ai.cat]
theorem D1:Ev X 238 [dQ 1,dQ 3] [] (.fW [.one (.c (.int .u64 0)),.one (.c (.int .u64 3))]) []:=by
 refine Ev.body Tryz.func238 rfl rfl rfl λa=>?_
 refine ee rfl (by simp[ai,bD]) (AK.br rfl ?_)
 simp[ai,ai.cat]
def Uh:dC:=λargs σ=>match args,σ with
 |[.e (.one (.c (.int .u64 1))),.e (.one (.c (.int .u64 c)))],[]=>aa (.fW [.one (.c (.int .u64 0)),.one (.c (.int .u64 c))],[],[c=2∨c=3])
 |_,_=>af
theorem t238:eb X 238 Uh:=by
 intro args σ res σ' obs h a;unfold Uh at h;split at h
 .cases h;rcases a with rfl|rfl
  .exact DZ
  .exact D1
 .cases h
theorem QX(c:Int)(a:c=2∨c=3):Ev X 227 [dQ 1,dQ c] [] (.fW [.one (.c (.int .u64 0)),.one (.c (.int .u64 c))]) []:=by
 refine Ev.body Tryz.func227 rfl rfl rfl λb=>?_
 refine aE (b5.cons t238 .nil) [] 100 rfl ay ?_;refine AK.Fy ?_;refine aE (b5.cons t238 .nil) [] 100 rfl ?_ (AK.br rfl ?_)
 .simp[ai,a]
 .simp[ai,ai.cat]
def QO:dC:=λargs σ=>match args,σ with
 |[.e (.one (.c (.int .u64 1))),.e (.one (.c (.int .u64 c)))],[]=>aa (.fW [.one (.c (.int .u64 0)),.one (.c (.int .u64 c))],[],[c=2∨c=3])
 |_,_=>af
theorem t227:eb X 227 QO:=by
 intro args σ res σ' obs h a;unfold QO at h;split at h
 .cases h;exact QX _ a
 .cases h
end Go.AM.R1
namespace Go.AM.R1
open Go.Proofs
open Go.Sort (bitsLen)
variable {X:Cx ah}
def xR:List UInt8:=(bc 256).map λi=>UInt8.ofNat (bitsLen i)
theorem kz{x k:Nat}(h:x<2 ^ k):bitsLen x<=k:=by
 unfold bitsLen;split
 .omega
 .rename_i a
  have:=(Nat.log2_lt a).2 h;omega
theorem Oi{x:Nat}(h:x<256):(iV xR x).toNat=bitsLen x:=by
 unfold iV xR;rw[bu,ag,mT,List.getElem?_range h];have:=kz (x:=x) (k:=8) h;simp only[jl,dG];rw[UInt8.toNat_ofNat'];omega
theorem uo{n k:Nat}(h:2 ^ k<=n):bitsLen n=k+bitsLen (n / 2 ^ k):=by
 have a:0<2 ^ k:=Nat.two_pow_pos k;have e:0<n / 2 ^ k:=Nat.div_pos h a;unfold bitsLen;rw[aO (by omega),aO (by omega)]
 have d:Nat.log2 n=k+Nat.log2 (n / 2 ^ k):=by
  rw[Nat.log2_eq_iff (by omega)]
  have b:=Nat.log2_self_le (n:=n / 2 ^ k) (by omega)
  have c:=Nat.lt_log2_self (n:=n / 2 ^ k)
  constructor
  .rw[Nat.pow_add,jH];exact eG (er _ b) (Nat.div_mul_le_self n _)
  .rw[show k+Nat.log2 (n / 2 ^ k)+1=k+(Nat.log2 (n / 2 ^ k)+1) by omega,Nat.pow_add]
   have:=(Nat.div_lt_iff_lt_mul a).1 c
   rwa [jH] at this
 omega
set_option maxRecDepth 100000 in
theorem Ly(n:Nat)(j:n<=4000000):Ev X 138 [dQ n] [] (dI (bitsLen n)) []:=by
 refine Ev.body Tryz.func138 rfl rfl rfl λl=>?_
 have fin:∀ {T:List UInt8} {x:Nat},T=xR->x<256->(iV T (x:Int)).toNat=bitsLen x:=λb h=>by rw[b];exact Oi h
 have d:∀ {T:List UInt8},T=xR->T.length=256:=λb=>by rw[b];rfl
 by_cases i:65536<=n
 .have c:((n:Int).toNat / 2 ^ Int.toNat 16)=n / 65536:=by simp
  have e:bitsLen n=16+bitsLen (n / 65536):=uo (n:=n) (k:=16) i;have f:=kz (x:=n / 65536) (k:=8) (by simp;omega)
  refine bd [(4,ae),(8,ab),(14,ae)] 200 rfl ?_ (AK.br rfl ?_)
  .generalize b:(ByteArray.data _).toList=T;have a:T=xR:=by rw[<-b];decide +kernel
   simp only[ai,c,fin a (show n / 65536<256 by omega),d a,bD,bh,bY];and_intros <;> omega
  .generalize b:(ByteArray.data _).toList=T;have a:T=xR:=by rw[<-b];decide +kernel
   simp only[ai,ai.cat,c,fin a (show n / 65536<256 by omega),aG,aF]
   omega
 by_cases g:256<=n
 .have c:((n:Int).toNat / 2 ^ Int.toNat 8)=n / 256:=by simp
  have e:bitsLen n=8+bitsLen (n / 256):=uo (n:=n) (k:=8) g;have f:=kz (x:=n / 256) (k:=8) (by simp;omega)
  refine bd [(4,ae),(8,ae),(14,ab)] 200 rfl ?_ (AK.br rfl ?_)
  .generalize b:(ByteArray.data _).toList=T;have a:T=xR:=by rw[<-b];decide +kernel
   simp only[ai,c,fin a (show n / 256<256 by omega),d a,bD,bh,bY];and_intros <;> omega
  .generalize b:(ByteArray.data _).toList=T;have a:T=xR:=by rw[<-b];decide +kernel
   simp only[ai,ai.cat,c,fin a (show n / 256<256 by omega),aG,aF]
   omega
 .have f:=kz (x:=n) (k:=8) (by simp;omega)
  refine bd [(4,ae),(8,ae),(14,ae)] 200 rfl ?_ (AK.br rfl ?_)
  .generalize b:(ByteArray.data _).toList=T;have a:T=xR:=by rw[<-b];decide +kernel
   simp only[ai,fin a (show n<256 by omega),d a,bD,bh,bY];and_intros <;> omega
  .generalize b:(ByteArray.data _).toList=T;have a:T=xR:=by rw[<-b];decide +kernel
   simp only[ai,ai.cat,fin a (show n<256 by omega),aG,aF]
   omega
theorem Ls(n:Nat)(a:n<=4000000):Ev X 113 [dQ n] [] (dI (bitsLen n)) []:=by
 refine Ev.body Tryz.func113 rfl rfl rfl λb=>?_
 refine ee rfl ay ?_;refine AK.Fy ?_;refine ee rfl ay ?_;refine AK.bM (Ly n a) [] rfl rfl rfl rfl rfl rfl rfl rfl rfl rfl rfl ?_;refine ee rfl ay (AK.br rfl ?_);simp[ai,ai.cat]
end Go.AM.R1
namespace Go.AM.R1
open Go.Proofs
open Go.Sort (swp bitsLen xorNextN xorNextN_lt xorNext xorNext_toNat breakStep breakPatterns)
variable {X:Cx ah}
abbrev bQ(r:Nat):aW:=.cells 216 [.c (.int .u64 r)]
theorem Oj(r:Nat):Ev X 169 [.e (.one (.ptr 0 0))] [bQ r] (dQ (xorNextN r)) [bQ (xorNextN r)]:=by
 refine Ev.body Tryz.func169 rfl rfl rfl λd=>?_
 have b:(2:Nat) ^ Int.toNat 13=8192:=by decide
 have c:(2:Nat) ^ Int.toNat 7=128:=by decide
 have a:(2:Nat) ^ Int.toNat 17=131072:=by decide
 refine ee rfl ?_ ?_
 .simp only[ai];omega
 refine AK.norm [bQ (xorNextN r)] rfl ?_ (AK.eB [0] rfl ?_ rfl rfl rfl ig)
 .simp only[ai,ai.cat,xorNextN,bu,b,c,a,aF]
 .simp only[ai,ai.cat,xorNextN,bu,b,c,a]
theorem Ol(n:Nat)(a:n<=4000000):Ev X 168 [dI n] [] (dQ ((1 <<< bitsLen n:Nat):Int)) []:=by
 refine Ev.body Tryz.func168 rfl rfl rfl λb=>?_
 have l:=kz (x:=n) (k:=22) (by simp;omega)
 refine ee rfl (by simp only[ai,bD];and_intros <;> omega) ?_
 refine AK.bM (Ls n a) [] rfl rfl rfl rfl rfl rfl rfl rfl rfl rfl rfl ?_;refine ee rfl ?_ (AK.br rfl ?_)
 .simp only[ai];omega
 .have c:2 ^ bitsLen n<=2 ^ 22:=ze (by omega) l
  simp only[ai,ai.cat,Nat.shiftLeft_eq,bu];have e:Int.toNat 1*2 ^ bitsLen n % 18446744073709551616=1*2 ^ bitsLen n:=by
   rw[show Int.toNat 1=1 from rfl,pK]
   exact Nat.mod_eq_of_lt (by omega)
  rw[e]
theorem CQ{L:Nat}(h:0<L):1 <<< bitsLen L<=2*L:=by
 rw[Nat.shiftLeft_eq,pK];unfold bitsLen;rw[aO (by omega),Nat.pow_succ]
 have:=Nat.log2_self_le (n:=L) (by omega)
 omega
theorem Lz(L:Nat):1<=1 <<< bitsLen L:=by
 rw[Nat.shiftLeft_eq,pK];exact Nat.two_pow_pos _
def SJ(a L M:Nat):Nat->Nat->UInt64×Array Int->UInt64×Array Int
 |0,_,st=>st
 |k+1,idx,st=>SJ a L M k (idx+1) (breakStep a L M st idx)
theorem tH{d:Array Int}{a L:Nat}(h:8<=L):breakPatterns d a (a+L)=(SJ a L (1 <<< bitsLen L) 3 (a+L / 4*2-1) (UInt64.ofNat L,d)).2:=by
 unfold breakPatterns;simp only[nP];rw[aU h];rfl
theorem AS{a L M idx:Nat}{r:UInt64}{d:Array Int}:breakStep a L M (r,d) idx=(xorNext r,swp d idx (a+if (xorNextN r.toNat &&& (M-1))≥L then (xorNextN r.toNat &&& (M-1))-L else (xorNextN r.toNat &&& (M-1)))):=by
 unfold breakStep;simp only[xorNext_toNat]
abbrev YM(n a L M:Nat)(k:Nat):Fr:=[(0,kG n),(1,dI a),(6,dI L),(7,.e (.one (.ptr 1 0))),(8,dQ M),(9,dI ((a+L / 4*2-1+(3-k):Nat):Int))]
set_option maxHeartbeats 2000000 in
theorem Lq(n:Nat)(d:Array Int)(a b:Nat)(v:d.size=n)(u:a<=b)(z:b<=n)(C:n<=4000000) :
  Ev X 130 [kG n,dI a,dI b] [bI n d] (.fW []) [bI n (breakPatterns d a b)]:=by
 refine Ev.body Tryz.func130 rfl rfl rfl λy=>?_
 obtain⟨L,rfl⟩:∃ L,b=a+L:=⟨b-a,by omega⟩
 by_cases p:8<=L
 .rw[tH p];have A:=CQ (L:=L) (by omega)
  have t:=Lz L;have m:(UInt64.ofNat L).toNat=L:=by rw[UInt64.toNat_ofNat'];omega
  refine bd [(15,ab)] 200 rfl ?_ ?_
  .simp only[ai,bD,bh,aG,aF];and_intros <;> omega
  have key:∀ x:Int,x=(L:Int)->Ev X 168 [dI x] [] (dQ ((1 <<< bitsLen L:Nat):Int)) []:=by
   rintro x rfl;exact Ol L (by omega)
  refine AK.bM (key _ (by omega)) [] rfl rfl rfl rfl rfl rfl rfl rfl rfl rfl rfl ?_
  refine ee rfl ?_ ?_
  .simp only[ai,bD,bh,aG,aF];and_intros <;> omega
  generalize q:1 <<< bitsLen L=M at *;refine AK.cd 2 (λs:Nat×UInt64×Array Int=>s.2.2.size=n/\s.1<=3/\(SJ a L M s.1 (a+L / 4*2-1+(3-s.1)) s.2).2=(SJ a L M 3 (a+L / 4*2-1) (UInt64.ofNat L,d)).2) (λs=>YM n a L M s.1) (λs=>[bI n s.2.2,bQ s.2.1.toNat]) (λs=>s.1) (3,UInt64.ofNat L,d) rfl ?_ rfl ?_ rfl ⟨v,ba _,rfl⟩ ?_
  .simp only[ai.cat,ai,aG,aF];and_intros <;> omega
  .simp only[ai.cat,ai,a9,m,aG,aF];exact⟨λ_ _=>trivial,by omega⟩
  rintro⟨k,r,d1⟩ ⟨g,w,c⟩;simp only at g w c;cases k with
  |zero =>
   rw[<-c];refine bd [(33,ae)] 200 rfl ?_ (AK.leaveD rfl rfl ?_)
   .simp only[ai,bD,bY,aG,aF];and_intros <;> omega
   exact cn.tb [0] rfl ay rfl rfl rfl ig
  |succ k =>
   have B:xorNextN r.toNat<18446744073709551616:=xorNextN_lt _ (UInt64.toNat_lt r);have o:xorNextN r.toNat &&& (M-1)<=M-1:=Nat.and_le_right;have l:((M:Int)-1).toNat=M-1:=by omega
   refine bd [(33,ab)] 200 rfl ?_ ?_
   .simp only[ai,bD,bh,aG,aF];and_intros <;> omega
   refine AK.bM (Oj r.toNat) [1] rfl rfl rfl rfl rfl rfl rfl rfl rfl rfl rfl ?_;have f:=AS (a:=a) (L:=L) (M:=M) (idx:=a+L / 4*2-1+(3-(k+1))) (r:=r) (d:=d1);generalize j:xorNextN r.toNat &&& (M-1)=O at *
   by_cases h:L<=O
   .rw[aU h] at f;have i:((a:Int)+((O:Int)-(L:Int))).toNat=a+(O-L):=by omega
    refine bd [(43,ab)] 200 rfl ?_ (AK.bg (k,xorNext r,swp d1 (a+L / 4*2-1+(3-(k+1))) (a+(O-L))) rfl ?_ rfl rfl rfl ?_ rfl ?_ ?_)
    .simp only[ai,bm,bu,l,j,i,bD,bh,aG,aF];and_intros <;> omega
    .simp only[ai.cat,ai,aG,aF];omega
    .simp only[ai.cat,ai,bm,bu,l,j,i,xorNext_toNat,aF,aG];exact ij g (by omega) (by omega) (λ_ _=>rfl)
    .refine⟨by rw[size_swp];exact g,by simp only;omega,?_⟩
     rw[<-c,SJ,f,show a+L / 4*2-1+(3-(k+1))+1=a+L / 4*2-1+(3-k) by omega]
    .simp
   .rw[aO h] at f;have i:((a:Int)+(O:Int)).toNat=a+O:=by omega
    refine bd [(43,ae)] 200 rfl ?_ (AK.bg (k,xorNext r,swp d1 (a+L / 4*2-1+(3-(k+1))) (a+O)) rfl ?_ rfl rfl rfl ?_ rfl ?_ ?_)
    .simp only[ai,bm,bu,l,j,i,bD,bY,aG,aF];and_intros <;> omega
    .simp only[ai.cat,ai,aG,aF];omega
    .simp only[ai.cat,ai,bm,bu,l,j,i,xorNext_toNat,aF,aG];exact ij g (by omega) (by omega) (λ_ _=>rfl)
    .refine⟨by rw[size_swp];exact g,by simp only;omega,?_⟩
     rw[<-c,SJ,f,show a+L / 4*2-1+(3-(k+1))+1=a+L / 4*2-1+(3-k) by omega]
    .simp
 .have e:breakPatterns d a (a+L)=d:=by unfold breakPatterns;simp only[nP];rw[aO p]
  rw[e];refine bd [(15,ae)] 200 rfl ?_ ?_
  .simp only[ai,bD,bY,aG,aF];and_intros <;> omega
  exact cn.tb [0] rfl ay rfl rfl rfl ig
end Go.AM.R1
namespace Go.AM.R1
open Go.Proofs
open Go.Sort (swp scanUp scanDown partLoop partEqLoop partition partitionEqual ltInt)
variable {X:Cx ah}
theorem mN{p:Int->Bool}{d:Array Int}{j i:Nat}(h:i<=j)(a:p d[i]! = ab):scanUp p d j i=scanUp p d j (i+1):=by
 rw[scanUp.eq_1 p d j i,aU (by simp[h,a])]
theorem gg{p:Int->Bool}{d:Array Int}{j i:Nat}(h:i<=j->p d[i]! = ae):scanUp p d j i=i:=by
 rw[scanUp,aO];intro a;rw[bG,bh] at a;rw[h a.1] at a;cases a.2
theorem kJ{p:Int->Bool}{d:Array Int}{j i:Nat}(c:1<=j)(h:i<=j)(a:p d[j]! = ab):scanDown p d i j=scanDown p d i (j-1):=by
 obtain⟨j,rfl⟩:∃ b,j=b+1:=⟨j-1,by omega⟩
 rw[scanDown,aU (by simp[h,a]),md]
theorem fE{p:Int->Bool}{d:Array Int}{j i:Nat}(h:i<=j->p d[j]! = ae):scanDown p d i j=j:=by
 cases j with
 |zero=>rfl
 |succ j =>
  rw[scanDown,aO];intro a;rw[bG,bh] at a;rw[h a.1] at a;cases a.2
theorem nJ{p:Int->Bool}{d:Array Int}{j:Nat}:∀ (m i:Nat),j+1-i<=m->i<=scanUp p d j i/\(scanUp p d j i<=j+1∨scanUp p d j i=i):=by
 intro m
 induction m with
 |zero=>intro i h;rw[gg (λa=>by omega)];omega
 |succ m c =>
  intro i h
  by_cases b:i<=j
  .cases a:p d[i]! with
   |true=>rw[mN b a];have:=c (i+1) (by omega);omega
   |false=>rw[gg λ_=>a];omega
  .rw[gg λx=>absurd x b];omega
theorem kV{p:Int->Bool}{d:Array Int}{i:Nat}:∀ j:Nat,scanDown p d i j<=j/\(i<=scanDown p d i j+1∨scanDown p d i j=j):=by
 intro j
 induction j with
 |zero=>rw[show scanDown p d i 0=0 from rfl];omega
 |succ j c =>
  by_cases b:i<=j+1
  .cases a:p d[j+1]! with
   |true=>rw[kJ (by omega) b a,md];omega
   |false=>rw[fE λ_=>a];omega
  .rw[fE λx=>absurd x b];omega
theorem partLoop_eq{a i j:Nat}{d:Array Int}{i2 j2:Nat}(f:1<=i)(hi:i2=scanUp (λx=>ltInt x d[a]!) d j i)(b:j2=scanDown (λx=>!ltInt x d[a]!) d i2 j) :
  partLoop ltInt a i j d=if i2>j2 then (j2,d) else partLoop ltInt a (i2+1) (j2-1) (swp d i2 j2):=by
 have e:=nJ (p:=λx=>ltInt x d[a]!) (d:=d) (j:=j) (j+1-i) i (ba _)
 have c:=kV (p:=λx=>!ltInt x d[a]!) (d:=d) (i:=i2) j
 rw[<-hi] at e;rw[<-b] at c;rw[partLoop.eq_1,<-hi,<-b]
 by_cases h:i2>j2
 .rw[aU h,aU h]
 .rw[aO h,aO h,dif_pos (by omega)]
theorem CR{d c:Array Int}{a b v i j:Nat}(f:c=swp d a v)(hi:i=scanUp (λx=>ltInt x c[a]!) c (b-1) (a+1))(e:j=scanDown (λx=>!ltInt x c[a]!) c i (b-1))(h:i>j):partition ltInt d a b v=(j,ab,swp c j a):=by
 unfold partition;simp only;rw[<-f,<-hi,<-e,aU h]
theorem CU{d c:Array Int}{a b v i j:Nat}(g:c=swp d a v)(hi:i=scanUp (λx=>ltInt x c[a]!) c (b-1) (a+1))(f:j=scanDown (λx=>!ltInt x c[a]!) c i (b-1))(h:¬i>j){r:Nat×Array Int}(e:partLoop ltInt a (i+1) (j-1) (swp c i j)=r):partition ltInt d a b v=(r.1,ae,swp r.2 r.1 a):=by
 subst e;unfold partition;simp only;rw[<-g,<-hi,<-f,aO h]
set_option maxHeartbeats 8000000 in
theorem Of(n:Nat)(d:Array Int)(a b v:Nat)(Q:d.size=n)(U:a<b)(Y:b<=n)(Z:v<n)(hn:n<=4000000) :
  Ev X 136 [kG n,dI a,dI b,dI v] [bI n d] (.fW [.one (.c (.int .i64 (partition ltInt d a b v).1)),.one (.c (.bool (partition ltInt d a b v).2.1))]) [bI n (partition ltInt d a b v).2.2]:=by
 have l:b5 X [(134,um)]:=.cons xg .nil;refine Ev.body Tryz.func136 rfl rfl rfl λW=>?_
 refine aE l [(1000002,ab)] 200 rfl ?_ ?_
 .simp only[ai,bm,bu,bD,aG,aF];and_intros <;> omega
 refine AK.norm [bI n (swp d a v)] rfl ?_ ?_
 .simp only[ai.cat,ai,bm,bu,aF,aG];exact ij Q (by omega) (by omega) (λ_ _=>rfl)
 have w:(swp d a v).size=n:=by rw[size_swp];exact Q
 obtain⟨f,L⟩:∃ f,f=swp d a v:=⟨_,rfl⟩;rw[<-L] at w ⊢;refine aE l [] 200 rfl ?_ ?_
 .simp only[ai,bD];and_intros <;> omega
 refine AK.kP (S2:=Unit) 0 rfl rfl (λ_=>True) (λ_=>[(0,kG n),(1,dI a),(10,dI ((scanUp (λx=>ltInt x f[a]!) f (b-1) (a+1)):Nat)),(11,dI (b-1:Nat))]) (λ_=>[bI n f]) 1 (λk:Nat=>a+1<=k/\k<=n+1/\scanUp (λx=>ltInt x f[a]!) f (b-1) k=scanUp (λx=>ltInt x f[a]!) f (b-1) (a+1)) (λk=>[(0,kG n),(1,dI a),(10,dI (k:Nat)),(11,dI (b-1:Nat))]) (λ_=>[bI n f]) (λk=>b-1+1-k) (a+1) rfl ?_ rfl ?_ rfl ⟨ba _,by omega,rfl⟩ ?_ ?_
 .simp[ai.cat,ai,a9] <;> omega
 .simp[ai.cat,ai,a9]
 .rintro out k ⟨A,z,g⟩
  by_cases m:k<=b-1
  .by_cases t:(λx=>ltInt x f[a]!) f[k]! = ab
   .have h:ltInt f[k]! f[a]! = ab:=by simpa using t
    refine aE l [(32,ab),(42,ab)] 200 rfl ?_ (AK.bg (k+1) rfl ?_ rfl rfl rfl ?_ rfl ?_ ?_)
    .simp only[ai,bm,bu,h,bD,bh,aG,aF];and_intros <;> omega
    .simp only[ai.cat,ai,aG,aF];omega
    .simp[ai.cat,ai,a9]
    .exact⟨by omega,by omega,by rw[<-g,mN m t]⟩
    .omega
   .have h:ltInt f[k]! f[a]! = ae:=by simpa using t
    refine aE l [(32,ab),(42,ae)] 200 rfl ?_ (AK.leaveD rfl rfl ?_)
    .simp only[ai,bm,bu,h,bD,bh,aG,aF];and_intros <;> omega
    have e:scanUp (λx=>ltInt x f[a]!) f (b-1) (a+1)=k:=by rw[<-g];exact gg λ_=>by simpa using t
    exact out () ay rfl (by simp only[ai.cat,ai,e,aG,aF]) rfl (by simp[ai.cat,ai,a9])
  .refine aE l [(32,ae)] 200 rfl ?_ (AK.leaveD rfl rfl ?_)
   .simp only[ai,bD,bY,aG,aF];omega
   have e:scanUp (λx=>ltInt x f[a]!) f (b-1) (a+1)=k:=by rw[<-g];exact gg λx=>absurd x m
   exact out () ay rfl (by simp only[ai.cat,ai,e,aG,aF]) rfl (by simp[ai.cat,ai,a9])
 rintro⟨⟩ -;have R:=nJ (p:=λx=>ltInt x f[a]!) (d:=f) (j:=b-1) (b-1+1-(a+1)) (a+1) (ba _)
 obtain⟨i,hi⟩:∃ i,i=scanUp (λx=>ltInt x f[a]!) f (b-1) (a+1):=⟨_,rfl⟩
 rw[<-hi] at R ⊢;refine aE l [] 200 rfl ay ?_;refine AK.kP (S2:=Unit) 2 rfl rfl (λ_=>True) (λ_=>[(0,kG n),(1,dI a),(10,dI (i:Nat)),(11,dI ((scanDown (λx=>!ltInt x f[a]!) f (i) (b-1)):Nat))]) (λ_=>[bI n f]) 1 (λk:Nat=>k<=b-1/\k<=n/\scanDown (λx=>!ltInt x f[a]!) f (i) k=scanDown (λx=>!ltInt x f[a]!) f (i) (b-1)) (λk=>[(0,kG n),(1,dI a),(10,dI (i:Nat)),(11,dI (k:Nat))]) (λ_=>[bI n f]) (λk=>k) (b-1) rfl ?_ rfl ?_ rfl ⟨ba _,by omega,rfl⟩ ?_ ?_
 .simp[ai.cat,ai,a9] <;> omega
 .simp[ai.cat,ai,a9]
 .rintro out k ⟨A,z,g⟩
  by_cases m:i<=k
  .by_cases t:(λx=>!ltInt x f[a]!) f[k]! = ab
   .have h:ltInt f[k]! f[a]! = ae:=by simpa using t
    refine aE l [(48,ab),(58,ae)] 200 rfl ?_ (AK.bg (k-1) rfl ?_ rfl rfl rfl ?_ rfl ?_ ?_)
    .simp only[ai,bm,bu,h,bD,bh,aG,aF];and_intros <;> omega
    .simp only[ai.cat,ai,aG,aF];omega
    .simp[ai.cat,ai,a9]
    .exact⟨by omega,by omega,by rw[<-g,kJ (by omega) m t]⟩
    .omega
   .have h:ltInt f[k]! f[a]! = ab:=by simpa using t
    refine aE l [(48,ab),(58,ab)] 200 rfl ?_ (AK.leaveD rfl rfl ?_)
    .simp only[ai,bm,bu,h,bD,bh,aG,aF];and_intros <;> omega
    have e:scanDown (λx=>!ltInt x f[a]!) f (i) (b-1)=k:=by rw[<-g];exact fE λ_=>by simpa using t
    exact out () ay rfl (by simp only[ai.cat,ai,e,aG,aF]) rfl (by simp[ai.cat,ai,a9])
  .refine aE l [(48,ae)] 200 rfl ?_ (AK.leaveD rfl rfl ?_)
   .simp only[ai,bD,bY,aG,aF];omega
   have e:scanDown (λx=>!ltInt x f[a]!) f (i) (b-1)=k:=by rw[<-g];exact fE λx=>absurd x m
   exact out () ay rfl (by simp only[ai.cat,ai,e,aG,aF]) rfl (by simp[ai.cat,ai,a9])
 rintro⟨⟩ -;have S:=kV (p:=λx=>!ltInt x f[a]!) (d:=f) (i:=i) (b-1)
 obtain⟨j,M⟩:∃ j,j=scanDown (λx=>!ltInt x f[a]!) f i (b-1):=⟨_,rfl⟩
 rw[<-M] at S ⊢
 by_cases J:j<i
 .rw[CR L hi M J];refine aE l [(65,ab),(1000009,ab)] 200 rfl ?_ ?_
  .simp only[ai,bm,bu,bD,bh,aG,aF];and_intros <;> omega
  refine AK.norm [bI n (swp f j a)] rfl ?_ ?_
  .simp only[ai.cat,ai,bm,bu,aF,aG];exact ij w (by omega) (by omega) (λ_ _=>rfl)
  refine aE l [] 200 rfl ay (AK.eB [0] rfl ?_ rfl rfl rfl ig);simp[ai.cat,ai]
 refine aE l [(65,ae),(1000011,ab)] 200 rfl ?_ ?_
 .simp only[ai,bm,bu,bD,bY,aG,aF];and_intros <;> omega
 refine AK.norm [bI n (swp f i j)] rfl ?_ ?_
 .simp only[ai.cat,ai,bm,bu,aF,aG];exact ij w (by omega) (by omega) (λ_ _=>rfl)
 refine aE l [] 200 rfl ?_ ?_
 .simp only[ai,bD];and_intros <;> omega
 have D:(swp f i j).size=n:=by rw[size_swp];exact w
 obtain⟨r,K⟩:∃ r,partLoop ltInt a (i+1) (j-1) (swp f i j)=r:=⟨_,rfl⟩;rw[CU L hi M (by omega) K]
 obtain⟨d1,I⟩:∃ d1,d1=swp f i j:=⟨_,rfl⟩;rw[<-I] at D K ⊢;refine AK.kP (S2:=Unit) 4 rfl rfl (λ_=>r.1<n/\r.2.size=n) (λ_=>[(0,kG n),(1,dI a),(11,dI r.1)]) (λ_=>[bI n r.2]) 1 (λs:Nat×Nat×Array Int=>s.2.2.size=n/\a+1<=s.1/\s.1<=n+1/\s.2.1<n/\partLoop ltInt a s.1 s.2.1 s.2.2=r) (λs=>[(0,kG n),(1,dI a),(10,dI s.1),(11,dI s.2.1)]) (λs=>[bI n s.2.2]) (λs=>s.2.1+1-s.1) (i+1,j-1,d1) rfl ?_ rfl ?_ rfl ⟨D,by simp only;omega,by simp only;omega,by simp only;omega,K⟩ ?_ ?_
 .simp only[ai.cat,ai,aG,aF];and_intros <;> omega
 .simp[ai.cat,ai,a9]
 .rintro C ⟨i3,o,d2⟩ ⟨y,P,H,O,u⟩;simp only at y P H O u;refine aE l [] 200 rfl ay ?_;refine AK.kP (S2:=Unit) 6 rfl rfl (λ_=>True) (λ_=>[(0,kG n),(1,dI a),(10,dI ((scanUp (λx=>ltInt x d2[a]!) d2 (o) (i3)):Nat)),(11,dI (o:Nat))]) (λ_=>[bI n d2]) 1 (λk:Nat=>i3<=k/\k<=n+1/\scanUp (λx=>ltInt x d2[a]!) d2 (o) k=scanUp (λx=>ltInt x d2[a]!) d2 (o) (i3)) (λk=>[(0,kG n),(1,dI a),(10,dI (k:Nat)),(11,dI (o:Nat))]) (λ_=>[bI n d2]) (λk=>o+1-k) (i3) rfl ?_ rfl ?_ rfl ⟨ba _,by omega,rfl⟩ ?_ ?_
  .simp[ai.cat,ai,a9] <;> omega
  .simp[ai.cat,ai,a9]
  .rintro out k ⟨A,z,g⟩
   by_cases m:k<=o
   .by_cases t:(λx=>ltInt x d2[a]!) d2[k]! = ab
    .have h:ltInt d2[k]! d2[a]! = ab:=by simpa using t
     refine aE l [(101,ab),(111,ab)] 200 rfl ?_ (AK.bg (k+1) rfl ?_ rfl rfl rfl ?_ rfl ?_ ?_)
     .simp only[ai,bm,bu,h,bD,bh,aG,aF];and_intros <;> omega
     .simp only[ai.cat,ai,aG,aF];omega
     .simp[ai.cat,ai,a9]
     .exact⟨by omega,by omega,by rw[<-g,mN m t]⟩
     .omega
    .have h:ltInt d2[k]! d2[a]! = ae:=by simpa using t
     refine aE l [(101,ab),(111,ae)] 200 rfl ?_ (AK.leaveD rfl rfl ?_)
     .simp only[ai,bm,bu,h,bD,bh,aG,aF];and_intros <;> omega
     have e:scanUp (λx=>ltInt x d2[a]!) d2 (o) (i3)=k:=by rw[<-g];exact gg λ_=>by simpa using t
     exact out () ay rfl (by simp only[ai.cat,ai,e,aG,aF]) rfl (by simp[ai.cat,ai,a9])
   .refine aE l [(101,ae)] 200 rfl ?_ (AK.leaveD rfl rfl ?_)
    .simp only[ai,bD,bY,aG,aF];omega
    have e:scanUp (λx=>ltInt x d2[a]!) d2 (o) (i3)=k:=by rw[<-g];exact gg λx=>absurd x m
    exact out () ay rfl (by simp only[ai.cat,ai,e,aG,aF]) rfl (by simp[ai.cat,ai,a9])
  rintro⟨⟩ -;have V:=nJ (p:=λx=>ltInt x d2[a]!) (d:=d2) (j:=o) (o+1-i3) i3 (ba _)
  obtain⟨i4,G⟩:∃ i4,i4=scanUp (λx=>ltInt x d2[a]!) d2 o i3:=⟨_,rfl⟩
  rw[<-G] at V ⊢;refine aE l [] 200 rfl ay ?_;refine AK.kP (S2:=Unit) 8 rfl rfl (λ_=>True) (λ_=>[(0,kG n),(1,dI a),(10,dI (i4:Nat)),(11,dI ((scanDown (λx=>!ltInt x d2[a]!) d2 (i4) (o)):Nat))]) (λ_=>[bI n d2]) 1 (λk:Nat=>k<=o/\k<=n/\scanDown (λx=>!ltInt x d2[a]!) d2 (i4) k=scanDown (λx=>!ltInt x d2[a]!) d2 (i4) (o)) (λk=>[(0,kG n),(1,dI a),(10,dI (i4:Nat)),(11,dI (k:Nat))]) (λ_=>[bI n d2]) (λk=>k) (o) rfl ?_ rfl ?_ rfl ⟨ba _,by omega,rfl⟩ ?_ ?_
  .simp[ai.cat,ai,a9] <;> omega
  .simp[ai.cat,ai,a9]
  .rintro out k ⟨A,z,g⟩
   by_cases m:i4<=k
   .by_cases t:(λx=>!ltInt x d2[a]!) d2[k]! = ab
    .have h:ltInt d2[k]! d2[a]! = ae:=by simpa using t
     refine aE l [(117,ab),(127,ae)] 200 rfl ?_ (AK.bg (k-1) rfl ?_ rfl rfl rfl ?_ rfl ?_ ?_)
     .simp only[ai,bm,bu,h,bD,bh,aG,aF];and_intros <;> omega
     .simp only[ai.cat,ai,aG,aF];omega
     .simp[ai.cat,ai,a9]
     .exact⟨by omega,by omega,by rw[<-g,kJ (by omega) m t]⟩
     .omega
    .have h:ltInt d2[k]! d2[a]! = ab:=by simpa using t
     refine aE l [(117,ab),(127,ab)] 200 rfl ?_ (AK.leaveD rfl rfl ?_)
     .simp only[ai,bm,bu,h,bD,bh,aG,aF];and_intros <;> omega
     have e:scanDown (λx=>!ltInt x d2[a]!) d2 (i4) (o)=k:=by rw[<-g];exact fE λ_=>by simpa using t
     exact out () ay rfl (by simp only[ai.cat,ai,e,aG,aF]) rfl (by simp[ai.cat,ai,a9])
   .refine aE l [(117,ae)] 200 rfl ?_ (AK.leaveD rfl rfl ?_)
    .simp only[ai,bD,bY,aG,aF];omega
    have e:scanDown (λx=>!ltInt x d2[a]!) d2 (i4) (o)=k:=by rw[<-g];exact fE λx=>absurd x m
    exact out () ay rfl (by simp only[ai.cat,ai,e,aG,aF]) rfl (by simp[ai.cat,ai,a9])
  rintro⟨⟩ -;have c2:=kV (p:=λx=>!ltInt x d2[a]!) (d:=d2) (i:=i4) o
  obtain⟨B,E⟩:∃ B,B=scanDown (λx=>!ltInt x d2[a]!) d2 i4 o:=⟨_,rfl⟩
  rw[<-E] at c2 ⊢;have q:=partLoop_eq (by omega) G E
  by_cases F:B<i4
  .have e:=q;rw[u,aU F] at e;refine aE l [(134,ab)] 200 rfl ?_ (AK.leaveD rfl rfl ?_)
   .simp only[ai,bD,bh];omega
   exact C () (by rw[e];exact⟨by simp only;omega,y⟩) rfl (by simp only[ai.cat,ai,e,aG,aF]) rfl (by simp[ai.cat,ai,a9,e])
  .have e:=q;rw[u,aO (by omega)] at e
   refine aE l [(134,ae),(1000019,ab)] 200 rfl ?_ ?_
   .simp only[ai,bm,bu,bD,bY,aG,aF];and_intros <;> omega
   refine AK.norm [bI n (swp d2 i4 B)] rfl ?_ ?_
   .simp only[ai.cat,ai,bm,bu,aF,aG];exact ij y (by omega) (by omega) (λ_ _=>rfl)
   refine aE l [] 200 rfl ?_ (AK.bg (i4+1,B-1,swp d2 i4 B) rfl ?_ rfl rfl rfl ?_ rfl ?_ ?_)
   .simp only[ai,bD];and_intros <;> omega
   .simp only[ai.cat,ai,aG,aF];and_intros <;> omega
   .simp[ai.cat,ai,a9]
   .exact⟨by rw[size_swp];exact y,by simp only;omega,by simp only;omega,by simp only;omega,e.symm⟩
   .simp only;omega
 rintro⟨⟩ ⟨T,N⟩;refine aE l [(1000022,ab)] 200 rfl ?_ ?_
 .simp only[ai,bm,bu,bD,aG,aF];and_intros <;> omega
 refine AK.norm [bI n (swp r.2 r.1 a)] rfl ?_ ?_
 .simp only[ai.cat,ai,bm,bu,aF,aG];exact ij N (by omega) (by omega) (λ_ _=>rfl)
 refine aE l [] 200 rfl ay (AK.eB [0] rfl ?_ rfl rfl rfl ig);simp[ai.cat,ai]
theorem partEqLoop_eq{a i j:Nat}{d:Array Int}{i2 j2:Nat}(f:1<=i)(hi:i2=scanUp (λx=>!ltInt d[a]! x) d j i)(b:j2=scanDown (λx=>ltInt d[a]! x) d i2 j) :
  partEqLoop ltInt a i j d=if i2>j2 then (i2,d) else partEqLoop ltInt a (i2+1) (j2-1) (swp d i2 j2):=by
 have e:=nJ (p:=λx=>!ltInt d[a]! x) (d:=d) (j:=j) (j+1-i) i (ba _)
 have c:=kV (p:=λx=>ltInt d[a]! x) (d:=d) (i:=i2) j
 rw[<-hi] at e;rw[<-b] at c;rw[partEqLoop.eq_1,<-hi,<-b]
 by_cases h:i2>j2
 .rw[aU h,aU h]
 .rw[aO h,aO h,dif_pos (by omega)]
set_option maxHeartbeats 8000000 in
theorem HA(n:Nat)(d:Array Int)(a b v:Nat)(I:d.size=n)(K:a<b)(O:b<=n)(P:v<n)(Q:n<=4000000) :
  Ev X 135 [kG n,dI a,dI b,dI v] [bI n d] (dI (partitionEqual ltInt d a b v).1) [bI n (partitionEqual ltInt d a b v).2]:=by
 have h:b5 X [(134,um)]:=.cons xg .nil;refine Ev.body Tryz.func135 rfl rfl rfl λN=>?_
 refine aE h [(1000002,ab)] 200 rfl ?_ ?_
 .simp only[ai,bm,bu,bD,aG,aF];and_intros <;> omega
 refine AK.norm [bI n (swp d a v)] rfl ?_ ?_
 .simp only[ai.cat,ai,bm,bu,aF,aG];exact ij I (by omega) (by omega) (λ_ _=>rfl)
 have C:(swp d a v).size=n:=by rw[size_swp];exact I
 unfold partitionEqual;generalize swp d a v=d1 at *;obtain⟨r,H⟩:∃ r,partEqLoop ltInt a (a+1) (b-1) d1=r:=⟨_,rfl⟩;rw[H];refine aE h [] 200 rfl ?_ ?_
 .simp only[ai,bD];and_intros <;> omega
 refine AK.kP (S2:=Unit) 0 rfl rfl (λ_=>r.1<=n+1/\r.2.size=n) (λ_=>[(0,kG n),(1,dI a),(9,dI r.1)]) (λ_=>[bI n r.2]) 1 (λs:Nat×Nat×Array Int=>s.2.2.size=n/\a+1<=s.1/\s.1<=n+1/\s.2.1<n/\partEqLoop ltInt a s.1 s.2.1 s.2.2=r) (λs=>[(0,kG n),(1,dI a),(9,dI s.1),(10,dI s.2.1)]) (λs=>[bI n s.2.2]) (λs=>s.2.1+1-s.1) (a+1,b-1,d1) rfl ?_ rfl ?_ rfl ⟨C,by simp only;omega,by simp only;omega,by simp only;omega,H⟩ ?_ ?_
 .simp only[ai.cat,ai,aG,aF];and_intros <;> omega
 .simp[ai.cat,ai,a9]
 .rintro w ⟨i3,c,d2⟩ ⟨t,G,B,F,l⟩;simp only at t G B F l;refine aE h [] 200 rfl ay ?_;refine AK.kP (S2:=Unit) 2 rfl rfl (λ_=>True) (λ_=>[(0,kG n),(1,dI a),(9,dI ((scanUp (λx=>!ltInt d2[a]! x) d2 (c) (i3)):Nat)),(10,dI (c:Nat))]) (λ_=>[bI n d2]) 1 (λk:Nat=>i3<=k/\k<=n+1/\scanUp (λx=>!ltInt d2[a]! x) d2 (c) k=scanUp (λx=>!ltInt d2[a]! x) d2 (c) (i3)) (λk=>[(0,kG n),(1,dI a),(9,dI (k:Nat)),(10,dI (c:Nat))]) (λ_=>[bI n d2]) (λk=>c+1-k) (i3) rfl ?_ rfl ?_ rfl ⟨ba _,by omega,rfl⟩ ?_ ?_
  .simp[ai.cat,ai,a9] <;> omega
  .simp[ai.cat,ai,a9]
  .rintro out k ⟨E,D,f⟩
   by_cases m:k<=c
   .by_cases o:(λx=>!ltInt d2[a]! x) d2[k]! = ab
    .have g:ltInt d2[a]! d2[k]! = ae:=by simpa using o
     refine aE h [(31,ab),(41,ae)] 200 rfl ?_ (AK.bg (k+1) rfl ?_ rfl rfl rfl ?_ rfl ?_ ?_)
     .simp only[ai,bm,bu,g,bD,bh,aG,aF];and_intros <;> omega
     .simp only[ai.cat,ai,aG,aF];omega
     .simp[ai.cat,ai,a9]
     .exact⟨by omega,by omega,by rw[<-f,mN m o]⟩
     .omega
    .have g:ltInt d2[a]! d2[k]! = ab:=by simpa using o
     refine aE h [(31,ab),(41,ab)] 200 rfl ?_ (AK.leaveD rfl rfl ?_)
     .simp only[ai,bm,bu,g,bD,bh,aG,aF];and_intros <;> omega
     have e:scanUp (λx=>!ltInt d2[a]! x) d2 (c) (i3)=k:=by rw[<-f];exact gg λ_=>by simpa using o
     exact out () ay rfl (by simp only[ai.cat,ai,e,aG,aF]) rfl (by simp[ai.cat,ai,a9])
   .refine aE h [(31,ae)] 200 rfl ?_ (AK.leaveD rfl rfl ?_)
    .simp only[ai,bD,bY,aG,aF];omega
    have e:scanUp (λx=>!ltInt d2[a]! x) d2 (c) (i3)=k:=by rw[<-f];exact gg λx=>absurd x m
    exact out () ay rfl (by simp only[ai.cat,ai,e,aG,aF]) rfl (by simp[ai.cat,ai,a9])
  rintro⟨⟩ -;have M:=nJ (p:=λx=>!ltInt d2[a]! x) (d:=d2) (j:=c) (c+1-i3) i3 (ba _)
  obtain⟨i4,A⟩:∃ i4,i4=scanUp (λx=>!ltInt d2[a]! x) d2 c i3:=⟨_,rfl⟩
  rw[<-A] at M ⊢;refine aE h [] 200 rfl ay ?_;refine AK.kP (S2:=Unit) 4 rfl rfl (λ_=>True) (λ_=>[(0,kG n),(1,dI a),(9,dI (i4:Nat)),(10,dI ((scanDown (λx=>ltInt d2[a]! x) d2 (i4) (c)):Nat))]) (λ_=>[bI n d2]) 1 (λk:Nat=>k<=c/\k<=n/\scanDown (λx=>ltInt d2[a]! x) d2 (i4) k=scanDown (λx=>ltInt d2[a]! x) d2 (i4) (c)) (λk=>[(0,kG n),(1,dI a),(9,dI (i4:Nat)),(10,dI (k:Nat))]) (λ_=>[bI n d2]) (λk=>k) (c) rfl ?_ rfl ?_ rfl ⟨ba _,by omega,rfl⟩ ?_ ?_
  .simp[ai.cat,ai,a9] <;> omega
  .simp[ai.cat,ai,a9]
  .rintro out k ⟨E,D,f⟩
   by_cases m:i4<=k
   .by_cases o:(λx=>ltInt d2[a]! x) d2[k]! = ab
    .have g:ltInt d2[a]! d2[k]! = ab:=by simpa using o
     refine aE h [(48,ab),(58,ab)] 200 rfl ?_ (AK.bg (k-1) rfl ?_ rfl rfl rfl ?_ rfl ?_ ?_)
     .simp only[ai,bm,bu,g,bD,bh,aG,aF];and_intros <;> omega
     .simp only[ai.cat,ai,aG,aF];omega
     .simp[ai.cat,ai,a9]
     .exact⟨by omega,by omega,by rw[<-f,kJ (by omega) m o]⟩
     .omega
    .have g:ltInt d2[a]! d2[k]! = ae:=by simpa using o
     refine aE h [(48,ab),(58,ae)] 200 rfl ?_ (AK.leaveD rfl rfl ?_)
     .simp only[ai,bm,bu,g,bD,bh,aG,aF];and_intros <;> omega
     have e:scanDown (λx=>ltInt d2[a]! x) d2 (i4) (c)=k:=by rw[<-f];exact fE λ_=>by simpa using o
     exact out () ay rfl (by simp only[ai.cat,ai,e,aG,aF]) rfl (by simp[ai.cat,ai,a9])
   .refine aE h [(48,ae)] 200 rfl ?_ (AK.leaveD rfl rfl ?_)
    .simp only[ai,bD,bY,aG,aF];omega
    have e:scanDown (λx=>ltInt d2[a]! x) d2 (i4) (c)=k:=by rw[<-f];exact fE λx=>absurd x m
    exact out () ay rfl (by simp only[ai.cat,ai,e,aG,aF]) rfl (by simp[ai.cat,ai,a9])
  rintro⟨⟩ -;have c2:=kV (p:=λx=>ltInt d2[a]! x) (d:=d2) (i:=i4) c
  obtain⟨u,y⟩:∃ u,u=scanDown (λx=>ltInt d2[a]! x) d2 i4 c:=⟨_,rfl⟩
  rw[<-y] at c2 ⊢;have q:=partEqLoop_eq (by omega) A y
  by_cases z:u<i4
  .have e:=q;rw[l,aU z] at e;refine aE h [(64,ab)] 200 rfl ?_ (AK.leaveD rfl rfl ?_)
   .simp only[ai,bD,bh];omega
   exact w () (by rw[e];exact⟨by simp only;omega,t⟩) rfl (by simp only[ai.cat,ai,e,aG,aF]) rfl (by simp[ai.cat,ai,a9,e])
  .have e:=q;rw[l,aO (by omega)] at e
   refine aE h [(64,ae),(1000009,ab)] 200 rfl ?_ ?_
   .simp only[ai,bm,bu,bD,bY,aG,aF];and_intros <;> omega
   refine AK.norm [bI n (swp d2 i4 u)] rfl ?_ ?_
   .simp only[ai.cat,ai,bm,bu,aF,aG];exact ij t (by omega) (by omega) (λ_ _=>rfl)
   refine aE h [] 200 rfl ?_ (AK.bg (i4+1,u-1,swp d2 i4 u) rfl ?_ rfl rfl rfl ?_ rfl ?_ ?_)
   .simp only[ai,bD];and_intros <;> omega
   .simp only[ai.cat,ai,aG,aF];and_intros <;> omega
   .simp[ai.cat,ai,a9]
   .exact⟨by rw[size_swp];exact t,by simp only;omega,by simp only;omega,by simp only;omega,e.symm⟩
   .simp only;omega
 rintro⟨⟩ ⟨J,L⟩;refine aE h [] 200 rfl ay (AK.eB [0] rfl ?_ rfl rfl rfl ig);simp[ai.cat,ai]
end Go.AM.R1
namespace Go.AM.R1
open Go.Proofs
open Go.Sort (swp scanSorted shiftDown shiftUp partialIns partialInsertionSort ltInt)
variable {X:Cx ah}
theorem xh{d:Array Int}{b i:Nat}(h:i<b)(a:ltInt d[i]! d[i-1]! = ae):scanSorted ltInt d b i=scanSorted ltInt d b (i+1):=by
 rw[scanSorted.eq_1 ltInt d b i,aU (by simp[h,a])]
theorem ma{d:Array Int}{b i:Nat}(h:i<b->ltInt d[i]! d[i-1]! = ab):scanSorted ltInt d b i=i:=by
 rw[scanSorted,aO];intro a;rw[bG,bh] at a;rw[h a.1] at a;cases a.2
theorem Lm{d:Array Int}{b:Nat}:∀ (m i:Nat),b-i<=m->i<=b->i<=scanSorted ltInt d b i/\scanSorted ltInt d b i<=b:=by
 intro m
 induction m with
 |zero=>intro i h e;rw[ma λx=>by omega];omega
 |succ m f =>
  intro i h e
  by_cases c:i<b
  .cases a:ltInt d[i]! d[i-1]! with
   |false=>rw[xh c a];have:=f (i+1) (by omega) (by omega);omega
   |true=>rw[ma λ_=>a];omega
  .rw[ma λx=>absurd x c];omega
theorem Ln{d:Array Int}{j:Nat}(b:1<=j)(h:ltInt d[j]! d[j-1]! = ab):shiftDown ltInt j d=shiftDown ltInt (j-1) (swp d j (j-1)):=by
 obtain⟨j,rfl⟩:∃ a,j=a+1:=⟨j-1,by omega⟩
 simp only[md] at h ⊢;rw[shiftDown,aO (by simp[h])]
theorem CN{d:Array Int}{j:Nat}(h:1<=j->ltInt d[j]! d[j-1]! = ae):shiftDown ltInt j d=d:=by
 cases j with
 |zero=>rfl
 |succ j =>
  have:=h (by omega)
  simp only[md] at this;rw[shiftDown,aU (by simp[this])]
theorem Lo{d:Array Int}{b j:Nat}(a:j<b)(h:ltInt d[j]! d[j-1]! = ab):shiftUp ltInt b j d=shiftUp ltInt b (j+1) (swp d j (j-1)):=by
 rw[shiftUp.eq_1 ltInt b j d,aU a,aO (by simp[h])]
theorem CO{d:Array Int}{b j:Nat}(h:j<b->ltInt d[j]! d[j-1]! = ae):shiftUp ltInt b j d=d:=by
 rw[shiftUp]
 by_cases a:j<b
 .rw[aU a,aU (by simp[h a])]
 .rw[aO a]
abbrev Pm(n a b i s:Nat):Fr:=[(0,kG n),(1,dI a),(2,dI b),(7,dI i),(8,dI (5-(s:Int)))]
theorem Oc{a b s i:Nat}{d:Array Int}:partialIns ltInt a b (s+1) i d=(if scanSorted ltInt d b i=b then (d,ab) else if b-a<50 then (d,ae) else
  partialIns ltInt a b s (scanSorted ltInt d b i) (if b-scanSorted ltInt d b i≥2 then shiftUp ltInt b (scanSorted ltInt d b i+1) (if scanSorted ltInt d b i-a≥2 then shiftDown ltInt (scanSorted ltInt d b i-1) (swp d (scanSorted ltInt d b i) (scanSorted ltInt d b i-1)) else swp d (scanSorted ltInt d b i) (scanSorted ltInt d b i-1)) else (if scanSorted ltInt d b i-a≥2 then shiftDown ltInt (scanSorted ltInt d b i-1) (swp d (scanSorted ltInt d b i) (scanSorted ltInt d b i-1)) else swp d (scanSorted ltInt d b i) (scanSorted ltInt d b i-1)))):=rfl
set_option maxHeartbeats 8000000 in
theorem xi(n:Nat)(d:Array Int)(a b:Nat)(V:d.size=n)(T:a<b)(Y:b<=n)(Z:n<=4000000) :
  Ev X 133 [kG n,dI a,dI b] [bI n d] (dB (partialInsertionSort ltInt d a b).2) [bI n (partialInsertionSort ltInt d a b).1]:=by
 have h:b5 X [(134,um)]:=.cons xg .nil;refine Ev.body Tryz.func133 rfl rfl rfl λW=>?_
 obtain⟨r,N⟩:∃ r,partialIns ltInt a b 5 (a+1) d=r:=⟨_,rfl⟩;have J:partialInsertionSort ltInt d a b=r:=N;rw[J];refine aE h [] 200 rfl (by simp only[ai,bD];omega) ?_
 refine AK.kP (S2:=Unit) 0 rfl rfl (λ_=>r.2=ae) (λ_=>[(0,kG n)]) (λ_=>[bI n r.1]) 1 (λs:Nat×Nat×Array Int=>s.2.2.size=n/\s.1<=5/\a+1<=s.2.1/\s.2.1<=b/\partialIns ltInt a b s.1 s.2.1 s.2.2=r) (λs=>Pm n a b s.2.1 s.1) (λs=>[bI n s.2.2]) (λs=>s.1) (5,a+1,d) rfl ?_ rfl ?_ rfl ⟨V,by simp only;omega,by simp only;omega,by simp only;omega,N⟩ ?_ ?_
 .simp[ai.cat,ai]
 .simp[ai.cat,ai,a9]
 .rintro B ⟨s,i,d1⟩ ⟨H,v,hi,u,f⟩;simp only at H v hi u f;cases s with
  |zero =>
   rw[partialIns] at f;refine aE h [(14,ae)] 200 rfl ?_ (AK.leaveD rfl rfl ?_)
   .simp[ai]
   exact B () (by rw[<-f]) rfl (by simp[ai.cat,ai]) rfl (by simp[ai.cat,ai,a9,<-f])
  |succ s =>
   rw[Oc] at f;refine aE h [(14,ab)] 200 rfl (by simp only[ai,bh];omega) ?_
   refine AK.kP (S2:=Unit) 2 rfl rfl (λ_=>True) (λ_=>Pm n a b (scanSorted ltInt d1 b i) (s+1)) (λ_=>[bI n d1]) 1 (λk:Nat=>i<=k/\k<=b/\scanSorted ltInt d1 b k=scanSorted ltInt d1 b i) (λk=>Pm n a b k (s+1)) (λ_=>[bI n d1]) (λk=>b-k) i rfl ?_ rfl ?_ rfl ⟨ba _,u,rfl⟩ ?_ ?_
   .simp[ai.cat,ai]
   .simp[ai.cat,ai,a9]
   .rintro out k ⟨S,R,y⟩
    by_cases E:k<b
    .have D:((k:Int)-1).toNat=k-1:=by omega
     cases o:ltInt d1[k]! d1[k-1]! with
     |false =>
      refine aE h [(19,ab),(30,ae)] 200 rfl ?_ (AK.bg (k+1) rfl ?_ rfl rfl rfl ?_ rfl ?_ ?_)
      .simp only[ai,bm,bu,D,o,bD,bh,aG,aF];and_intros <;> omega
      .simp only[ai.cat,ai,aG,aF];omega
      .simp[ai.cat,ai,a9]
      .exact⟨by omega,by omega,by rw[<-y,xh E o]⟩
      .omega
     |true =>
      refine aE h [(19,ab),(30,ab)] 200 rfl ?_ (AK.leaveD rfl rfl ?_)
      .simp only[ai,bm,bu,D,o,bD,bh,aG,aF];and_intros <;> omega
      have e:scanSorted ltInt d1 b i=k:=by rw[<-y];exact ma λ_=>o
      exact out () ay rfl (by simp only[ai.cat,ai,e,aG,aF]) rfl (by simp[ai.cat,ai,a9])
    .refine aE h [(19,ae)] 200 rfl ?_ (AK.leaveD rfl rfl ?_)
     .simp only[ai,bD,bY,aG,aF];omega
     have e:scanSorted ltInt d1 b i=k:=by rw[<-y];exact ma λx=>absurd x E
     exact out () ay rfl (by simp only[ai.cat,ai,e,aG,aF]) rfl (by simp[ai.cat,ai,a9])
   rintro⟨⟩ -;have c:=Lm (d:=d1) (b:=b) (b-i) i (ba _) u;obtain⟨i2,I⟩:∃ i2,i2=scanSorted ltInt d1 b i:=⟨_,rfl⟩;rw[<-I] at c f ⊢
   by_cases z:i2=b
   .rw[aU z] at f;rw[<-f];refine aE h [(37,ab)] 200 rfl ?_ (AK.eC (cn.mk [0] rfl ?_ rfl rfl rfl ig))
    .simp[ai,z]
    .simp[ai,ai.cat]
   rw[aO z] at f
   by_cases G:b-a<50
   .rw[aU G] at f;rw[<-f];refine aE h [(37,ae),(41,ab)] 200 rfl ?_ (AK.eC (cn.mk [0] rfl ?_ rfl rfl rfl ig))
    .simp[ai,bD];omega
    .simp[ai,ai.cat]
   rw[aO G] at f;have D:((i2:Int)-1).toNat=i2-1:=by omega
   refine aE h [(37,ae),(41,ae),(1000012,ab)] 200 rfl ?_ ?_
   .simp only[ai,bm,bu,D,bD,bY,dx,cW,aG,aF];and_intros <;> omega
   refine AK.norm [bI n (swp d1 i2 (i2-1))] rfl ?_ ?_
   .simp only[ai.cat,ai,bm,bu,D,aF,aG];exact ij H (by omega) (by omega) (λ_ _=>rfl)
   have q:(swp d1 i2 (i2-1)).size=n:=by rw[size_swp];exact H
   obtain⟨d2,M⟩:∃ d2,d2=swp d1 i2 (i2-1):=⟨_,rfl⟩;rw[<-M] at q f ⊢;obtain⟨d3,p⟩:∃ d3,d3=if i2-a≥2 then shiftDown ltInt (i2-1) d2 else d2:=⟨_,rfl⟩
   rw[<-p] at f;have Q:∀ (j:Nat) (d:Array Int),(shiftDown ltInt j d).size=d.size:=by
    intro j
    induction j with
    |zero=>intro d;rfl
    |succ j U =>
     intro d;rw[shiftDown];split;· rfl
     .rw[U,size_swp]
   have C:d3.size=n:=by
    rw[p];split
    .rw[Q];exact q
    .exact q
   apply AK.join (Pm n a b i2 (s+1)) [bI n d3]
   .intro out
    by_cases P:i2-a≥2
    .rw[aU P] at p;refine aE h [(61,ab)] 200 rfl ?_ ?_
     .simp only[ai,bD,bh,aG,aF];and_intros <;> omega
     refine AK.kP (S2:=Unit) 4 rfl rfl (λ_=>True) (λ_=>Pm n a b i2 (s+1)) (λ_=>[bI n d3]) 1 (λs:Nat×Array Int=>s.2.size=n/\s.1<b/\shiftDown ltInt s.1 s.2=d3) (λs2=>Pm n a b i2 (s+1)++[(9,dI s2.1)]) (λs=>[bI n s.2]) (λs=>s.1) (i2-1,d2) rfl ?_ rfl ?_ rfl ⟨q,by simp only;omega,p.symm⟩ ?_ ?_
     .simp only[ai.cat,ai,aG,aF];omega
     .simp[ai.cat,ai,a9]
     .rintro m ⟨j,d4⟩ ⟨l,K,g⟩;simp only at l K g
      by_cases t:1<=j
      .have w:((j:Int)-1).toNat=j-1:=by omega
       cases o:ltInt d4[j]! d4[j-1]! with
       |true =>
        refine aE h [(65,ab),(77,ab)] 200 rfl ?_ (AK.bg (j-1,swp d4 j (j-1)) rfl ?_ rfl rfl rfl ?_ rfl ?_ ?_)
        .simp only[ai,bm,bu,w,o,bD,bh,aG,aF];and_intros <;> omega
        .simp only[ai.cat,ai,aG,aF];omega
        .simp only[ai.cat,ai,bm,bu,w,aF,aG];exact ij l (by omega) (by omega) (λ_ _=>rfl)
        .exact⟨by rw[size_swp];exact l,by simp only;omega,by rw[<-g,Ln t o]⟩
        .simp only;omega
       |false =>
        refine aE h [(65,ab),(77,ae)] 200 rfl ?_ (AK.leaveD rfl rfl ?_)
        .simp only[ai,bm,bu,w,o,bD,bh,aG,aF];and_intros <;> omega
        have e:d3=d4:=by rw[<-g];exact CN λ_=>o
        exact m () ay rfl (by simp[ai.cat,ai]) rfl (by simp[ai.cat,ai,a9,e])
      .refine aE h [(65,ae)] 200 rfl ?_ (AK.leaveD rfl rfl ?_)
       .simp only[ai,bY];omega
       have e:d3=d4:=by rw[<-g];exact CN λx=>absurd x t
       exact m () ay rfl (by simp[ai.cat,ai]) rfl (by simp[ai.cat,ai,a9,e])
     rintro⟨⟩ -;refine aE h [(1000018,ab)] 200 rfl ay ?_;exact out _ _ rfl (by simp[ai.cat,ai])
    .rw[aO P] at p;rw[<-p];refine aE h [(61,ae),(1000018,ab)] 200 rfl ?_ ?_
     .simp only[ai,bD,bY,aG,aF];and_intros <;> omega
     exact out _ _ rfl (by simp[ai.cat,ai])
   by_cases O:b-i2≥2
   .rw[aU O] at f;obtain⟨d5,F⟩:∃ d5,shiftUp ltInt b (i2+1) d3=d5:=⟨_,rfl⟩;rw[F] at f;refine aE h [(98,ab)] 200 rfl ?_ ?_
    .simp only[ai,bD,bh,aG,aF];and_intros <;> omega
    refine AK.kP (S2:=Unit) 6 rfl rfl (λ_=>d5.size=n) (λ_=>Pm n a b i2 (s+1)) (λ_=>[bI n d5]) 1 (λs:Nat×Array Int=>s.2.size=n/\1<=s.1/\s.1<=b/\shiftUp ltInt b s.1 s.2=d5) (λs2=>Pm n a b i2 (s+1)++[(10,dI s2.1)]) (λs=>[bI n s.2]) (λs=>b-s.1) (i2+1,d3) rfl ?_ rfl ?_ rfl ⟨C,by simp only;omega,by simp only;omega,F⟩ ?_ ?_
    .simp only[ai.cat,ai,aG,aF];omega
    .simp[ai.cat,ai,a9]
    .rintro m ⟨j,d4⟩ ⟨l,t,K,g⟩;simp only at l t K g
     by_cases A:j<b
     .have w:((j:Int)-1).toNat=j-1:=by omega
      cases o:ltInt d4[j]! d4[j-1]! with
      |true =>
       refine aE h [(103,ab),(115,ab)] 200 rfl ?_ (AK.bg (j+1,swp d4 j (j-1)) rfl ?_ rfl rfl rfl ?_ rfl ?_ ?_)
       .simp only[ai,bm,bu,w,o,bD,bh,aG,aF];and_intros <;> omega
       .simp only[ai.cat,ai,aG,aF];omega
       .simp only[ai.cat,ai,bm,bu,w,aF,aG];exact ij l (by omega) (by omega) (λ_ _=>rfl)
       .exact⟨by rw[size_swp];exact l,by simp only;omega,by simp only;omega,by rw[<-g,Lo A o]⟩
       .simp only;omega
      |false =>
       refine aE h [(103,ab),(115,ae)] 200 rfl ?_ (AK.leaveD rfl rfl ?_)
       .simp only[ai,bm,bu,w,o,bD,bh,aG,aF];and_intros <;> omega
       have e:d5=d4:=by rw[<-g];exact CO λ_=>o
       exact m () (by rw[e];exact l) rfl (by simp[ai.cat,ai]) rfl (by simp[ai.cat,ai,a9,e])
     .refine aE h [(103,ae)] 200 rfl ?_ (AK.leaveD rfl rfl ?_)
      .simp only[ai,bY];omega
      have e:d5=d4:=by rw[<-g];exact CO λx=>absurd x A
      exact m () (by rw[e];exact l) rfl (by simp[ai.cat,ai]) rfl (by simp[ai.cat,ai,a9,e])
    rintro⟨⟩ v;refine aE h [] 200 rfl ?_ (AK.bg (s,i2,d5) rfl ?_ rfl rfl rfl ?_ rfl ?_ ?_)
    .simp only[ai,bD];omega
    .simp only[ai.cat,ai,aG,aF];omega
    .simp[ai.cat,ai,a9]
    .exact⟨v,by simp only;omega,by simp only;omega,by simp only;omega,f⟩
    .simp only;omega
   .rw[aO O] at f;refine aE h [(98,ae)] 200 rfl ?_ (AK.bg (s,i2,d3) rfl ?_ rfl rfl rfl ?_ rfl ?_ ?_)
    .simp only[ai,bD,bY,aG,aF];and_intros <;> omega
    .simp only[ai.cat,ai,aG,aF];omega
    .simp[ai.cat,ai,a9]
    .exact⟨C,by simp only;omega,by simp only;omega,by simp only;omega,f⟩
    .simp only;omega
 rintro⟨⟩ L;refine aE h [] 200 rfl ay (AK.eB [0] rfl ?_ rfl rfl rfl ig);simp[ai,ai.cat,L]
end Go.AM.R1
namespace Go.AM.R1
open Go.Proofs
open Go.Sort (swp pdq rd Rd Below SWO insertionSort heapSort breakPatterns choosePivot reverseRange partialInsertionSort partition partitionEqual Hint ltInt PermIn SortedIn)
variable {X:Cx ah}
abbrev Ve(n a b c:Nat)(wb wp:Bool):Fr:=[(0,kG n),(1,dI a),(2,dI b),(3,dI c),(8,dB wb),(9,dB wp)]
theorem yW{h:Hint}:nH h=2↔h=.decreasing:=by cases h <;> simp[nH]
theorem tF{h:Hint}:nH h=1↔h=.increasing:=by cases h <;> simp[nH]
structure PqS where
 a:Nat
 b:Nat
 lim:Nat
 wb:Bool
 wp:Bool
 d:Array Int
theorem Od(n:Nat)(d:Array Int){a b:Nat}(g:d.size=n)(f:b<=n)(e:a<=n)(c:n<=4000000){r:Array Int}(h:r=insertionSort ltInt d a b):Ev X 128 [kG n,dI a,dI b] [bI n d] (.fW []) [bI n r]:=by
 subst h;exact Sd n d a b g f e c
theorem Lp(n:Nat)(d:Array Int){a b:Nat}(g:d.size=n)(c:a<=b)(i:1<=b-a)(f:b<=n)(e:n<=4000000){r:Array Int}(h:r=heapSort ltInt d a b):Ev X 129 [kG n,dI a,dI b] [bI n d] (.fW []) [bI n r]:=by
 subst h;exact Oe n d a b g c i f e
set_option maxHeartbeats 8000000 in
theorem Se(n:Nat)(G:n<=4000000):∀ (m:Nat)(d:Array Int)(a b lim:Nat),b-a<=m->d.size=n->a<=b->b<=n->lim<=100->Below ltInt a b d ->
  ∀ {x y z:Int},x=a->y=b->z=lim->∀ {R:Array Int},R=pdq ltInt d a b lim ab ab->Ev X 112 [kG n,dI x,dI y,dI z] [bI n d] (.fW []) [bI n R]:=by
 have k:b5 X [(134,um)]:=.cons xg .nil;have F:SWO ltInt:=Go.Sort.swo_ltInt;have hpi:=Go.Sort.partialInsertionSort_holds (lt:=ltInt);have hpt:=Go.Sort.partition_holds ltInt;have hpe:=Go.Sort.partitionEqual_holds ltInt;have V:=Go.Sort.reverseRange_holds (α:=Int);have W:=Go.Sort.pdq_sorts ltInt;intro m
 induction m using Nat.strongRecOn with
 |_ m ih =>
 intro d a b lim hm hd hab hb hl hB x y z hx hy hz R hR;subst hx hy hz;refine Ev.body Tryz.func112 rfl rfl rfl λhf=>?_
 refine aE k [] 200 rfl ay ?_;refine AK.cd 1 (λs:PqS=>s.d.size=n/\s.a<=s.b/\s.b<=n/\s.lim<=100/\s.b-s.a<=b-a/\Below ltInt s.a s.b s.d/\pdq ltInt s.d s.a s.b s.lim s.wb s.wp=R) (λs=>Ve n s.a s.b s.lim s.wb s.wp) (λs=>[bI n s.d]) (λs=>s.b-s.a) ⟨a,b,lim,ab,ab,d⟩ rfl ?_ rfl ?_ rfl ⟨hd,hab,hb,hl,ba _,hB,hR.symm⟩ ?_
 .simp[ai.cat,ai]
 .simp[ai.cat,ai,a9]
 clear hf hB hd hR;rintro⟨f,h,t,wb,wp,d1⟩ ⟨M,w,i,Qh,Pw,hB,l⟩;simp only at M w i Qh Pw hB l
 by_cases B:h-f<=12
 .rw[Go.Sort.pdq_small B] at l;refine aE k [(23,ab)] 200 rfl ?_ ?_
  .simp only[ai,bD,bh];and_intros <;> omega
  refine AK.bM (Od n d1 (a:=f) (b:=h) M i (by omega) G l.symm) [0] rfl rfl rfl rfl rfl rfl rfl rfl rfl rfl rfl ?_
  refine aE k [] 200 rfl ay (AK.eC (cn.mk [0] rfl ay rfl rfl rfl ig))
 by_cases U:t=0
 .rw[Go.Sort.pdq_heap B U] at l;refine aE k [(23,ae),(29,ab)] 200 rfl ?_ ?_
  .simp only[ai,bD,bY,fJ];and_intros <;> omega
  refine AK.bM (Lp n d1 (a:=f) (b:=h) M w (by omega) i G l.symm) [0] rfl rfl rfl rfl rfl rfl rfl rfl rfl rfl rfl ?_
  refine aE k [] 200 rfl ay (AK.eC (cn.mk [0] rfl ay rfl rfl rfl ig))
 have p:f<h:=by omega
 obtain⟨f1,f2,f3,f4,f5,Z,J,f8⟩:=Go.Sort.rd_facts (limit:=t) (wb:=wb) (wp:=wp) F hpi V p (by rw[M];exact i) hB
 have fl:=Go.Sort.rd_lim_le (lt:=ltInt) (d:=d1) (a:=f) (b:=h) (limit:=t) (wb:=wb) (wp:=wp);have O:=Go.Sort.rd_dec (lt:=ltInt) (d:=d1) (a:=f) (b:=h) (limit:=t) (wb:=wb) (wp:=wp);have Q:=Go.Sort.rd_not (lt:=ltInt) (d:=d1) (a:=f) (b:=h) (limit:=t) (wb:=wb) (wp:=wp);have I:=Go.Sort.rd_pi_yes (lt:=ltInt) (d:=d1) (a:=f) (b:=h) (limit:=t) (wb:=wb) (wp:=wp);have T:=Go.Sort.rd_pi_no (lt:=ltInt) (d:=d1) (a:=f) (b:=h) (limit:=t) (wb:=wb) (wp:=wp);have fc:=Go.Sort.rd_c (lt:=ltInt) (d:=d1) (a:=f) (b:=h) (limit:=t) (wb:=wb) (wp:=wp);have fd1:wb=ae->(rd ltInt d1 f h t wb wp).d1=breakPatterns d1 f h/\(rd ltInt d1 f h t wb wp).lim=t-1:=by rintro rfl;exact Go.Sort.rd_false
 have fd2:wb=ab->(rd ltInt d1 f h t wb wp).d1=d1/\(rd ltInt d1 f h t wb wp).lim=t:=by rintro rfl;exact Go.Sort.rd_true
 have C:=Go.Sort.pdq_done (lt:=ltInt) (d:=d1) (wb:=wb) (wp:=wp) B U;have geq:=Go.Sort.pdq_eq (lt:=ltInt) (d:=d1) (wb:=wb) (wp:=wp) B U;have E:=Go.Sort.pdq_left (lt:=ltInt) (d:=d1) (wb:=wb) (wp:=wp) B U;have A:=Go.Sort.pdq_right (lt:=ltInt) (d:=d1) (wb:=wb) (wp:=wp) B U;rw[M] at f1 f4 J;rw[l] at C geq E A;generalize rd ltInt d1 f h t wb wp=r at *
 apply AK.join (Ve n f h r.lim wb wp++[(10,dI ((h-f:Nat):Int))]) [bI n r.d1]
 .intro out;cases wb with
  |false =>
   obtain⟨K,L⟩:=fd1 rfl;refine aE k [(23,ae),(29,ae)] 200 rfl ?_ ?_
   .simp only[ai,bD,bY,dx,cW];and_intros <;> omega
   refine AK.bM (Lq n d1 f h M w i G) [0] rfl rfl rfl rfl rfl rfl rfl rfl rfl rfl rfl ?_;rw[<-K];refine aE k [(1000010,ab)] 200 rfl ?_ ?_
   .simp only[ai,bD];and_intros <;> omega
   exact out _ _ rfl (by simp only[ai.cat,ai,L,aG,aF];and_intros <;> omega)
  |true =>
   obtain⟨K,L⟩:=fd2 rfl;subst K;refine aE k [(23,ae),(29,ae),(1000010,ab)] 200 rfl ?_ ?_
   .simp only[ai,bD,bY,dx,cW];and_intros <;> omega
   exact out _ _ rfl (by simp only[ai.cat,ai,L,aG,aF];and_intros <;> omega)
 refine aE k [] 200 rfl ay ?_;refine AK.bM (Hz n r.d1 f h w i (by omega) G) [0] rfl rfl rfl rfl rfl rfl rfl rfl rfl rfl rfl ?_
 rw[<-fc]
 apply AK.join (Ve n f h r.lim wb wp++[(10,dI ((h-f:Nat):Int)),(11,dI r.pivot),(12,dI (nH r.hint))]) [bI n r.d2]
 .intro out
  by_cases u:r.c.2=.decreasing
  .obtain⟨K,L,e3⟩:=O u;refine aE k [(50,ab)] 200 rfl ?_ ?_
   .simp only[ai,fJ,yW];exact u
   refine AK.bM (Sf n r.d1 f h f1 (by omega) (by omega) i G) [0] rfl rfl rfl rfl rfl rfl rfl rfl rfl rfl rfl ?_
   rw[<-K];refine aE k [(1000015,ab)] 200 rfl ?_ ?_
   .simp only[ai,bD];and_intros <;> omega
   exact out _ _ rfl (by simp only[ai.cat,ai,L,e3,nH,aG,aF];and_intros <;> omega)
  .obtain⟨K,L,e3⟩:=Q u;rw[<-K];refine aE k [(50,ae),(1000015,ab)] 200 rfl ?_ ?_
   .simp only[ai,dx,cW,yW];exact u
   exact out _ _ rfl (by simp only[ai.cat,ai,L,e3,aG,aF])
 by_cases o:r.pi.2=ab
 ·
  have q:(wb&&wp&&decide (r.hint=.increasing))=ab:=by
   cases j:(wb&&wp&&decide (r.hint=.increasing)) with
   |true=>rfl
   |false=>rw[T j] at o;cases o
  have e:=I q;simp only[bG,bh] at q;obtain⟨⟨rfl,rfl⟩,D⟩:=q;refine aE k [(67,ab)] 200 rfl ?_ ?_
  .simp only[ai,fJ,tF];exact D
  refine AK.bM (xi n r.d2 f h f4 p i G) [0] rfl rfl rfl rfl rfl rfl rfl rfl rfl rfl rfl ?_;rw[<-e,o,<-C o];refine aE k [] 200 rfl ay (AK.eC (cn.mk [0] rfl ay rfl rfl rfl ig))
 rw[ln] at o
 apply AK.join (Ve n f h r.lim wb wp++[(10,dI ((h-f:Nat):Int)),(11,dI r.pivot)]) [bI n r.pi.1]
 .intro out;cases j:(wb&&wp&&decide (r.hint=.increasing)) with
  |true =>
   have e:=I j;simp only[bG,bh] at j;obtain⟨⟨rfl,rfl⟩,D⟩:=j;refine aE k [(67,ab)] 200 rfl ?_ ?_
   .simp only[ai,fJ,tF];exact D
   refine AK.bM (xi n r.d2 f h f4 p i G) [0] rfl rfl rfl rfl rfl rfl rfl rfl rfl rfl rfl ?_;rw[<-e,o];refine aE k [(1000017,ab)] 200 rfl ay ?_;exact out _ _ rfl (by simp[ai.cat,ai])
  |false =>
   have e:r.d2=r.pi.1:=by rw[T j]
   rw[e];cases wb with
   |false =>
    refine aE k [(1000017,ab)] 200 rfl ay ?_;exact out _ _ rfl (by simp[ai.cat,ai])
   |true =>
    cases wp with
    |false =>
     refine aE k [(1000017,ab)] 200 rfl ay ?_;exact out _ _ rfl (by simp[ai.cat,ai])
    |true =>
     refine aE k [(67,ae),(1000017,ab)] 200 rfl ?_ ?_
     .simp only[ai,dx,cW,tF];simpa using j
     exact out _ _ rfl (by simp[ai.cat,ai])
 have ep:((f:Int)-1).toNat=f-1:=by omega
 cases j:(decide (f>0)&&!ltInt r.pi.1[f-1]! r.pi.1[r.pivot]!) with
 |true =>
  have v:=j;simp only[bG,bh,iS] at v;obtain⟨N,S,H,q4,_⟩:=Go.Sort.round_eq (mid:=(partitionEqual ltInt r.pi.1 f h r.pivot).1) (d4:=(partitionEqual ltInt r.pi.1 f h r.pivot).2) F hpe v.1 Z.1 Z.2 (by rw[J];exact i) f8 v.2 rfl
  have g:=geq o j ⟨N,S⟩;refine aE k [(74,ab),(85,ae)] 200 rfl ?_ ?_
  .simp only[ai,bm,bu,ep,v.2,bD,bh,aG,aF];and_intros <;> omega
  refine AK.bM (HA n r.pi.1 f h r.pivot J p i (by omega) G) [0] rfl rfl rfl rfl rfl rfl rfl rfl rfl rfl rfl ?_
  refine aE k [] 200 rfl ay (AK.bg ⟨(partitionEqual ltInt r.pi.1 f h r.pivot).1,h,r.lim,wb,wp,(partitionEqual ltInt r.pi.1 f h r.pivot).2⟩ rfl ?_ rfl rfl rfl ?_ rfl ?_ ?_)
  .simp[ai.cat,ai]
  .simp[ai.cat,ai,a9]
  .exact⟨by simp only;rw[H,J],S,i,by simp only;omega,by simp only;omega,q4,g.symm⟩
  .simp only;omega
 |false =>
  obtain⟨N,S,H,q4,q5,q6,q7⟩:=Go.Sort.round_part (mid:=(partition ltInt r.pi.1 f h r.pivot).1) (ap:=(partition ltInt r.pi.1 f h r.pivot).2.1) (d4:=(partition ltInt r.pi.1 f h r.pivot).2.2) F hpt Z.1 Z.2 (by rw[J];exact i) f8 rfl
  apply AK.join (Ve n f h r.lim wb wp++[(10,dI ((h-f:Nat):Int)),(11,dI r.pivot)]) [bI n r.pi.1]
  .intro out
   by_cases ha0:0<f
   .have qu:ltInt r.pi.1[f-1]! r.pi.1[r.pivot]! = ab:=by
     cases hl:ltInt r.pi.1[f-1]! r.pi.1[r.pivot]! with
     |true=>rfl
     |false=>rw[hl] at j;simp[ha0] at j
    refine aE k [(74,ab),(85,ab),(1000020,ab)] 200 rfl ?_ ?_
    .simp only[ai,bm,bu,ep,qu,bD,bh,aG,aF];and_intros <;> omega
    exact out _ _ rfl (by simp[ai.cat,ai])
   .refine aE k [(74,ae),(1000020,ab)] 200 rfl ?_ ?_
    .simp only[ai,bY];omega
    exact out _ _ rfl (by simp[ai.cat,ai])
  refine aE k [] 200 rfl ay ?_;refine AK.bM (Of n r.pi.1 f h r.pivot J p i (by omega) G) [0] rfl rfl rfl rfl rfl rfl rfl rfl rfl rfl rfl ?_
  have gl:=E o j ⟨N,S⟩;have gr:=A o j ⟨N,S⟩;generalize partition ltInt r.pi.1 f h r.pivot=P at *;rw[J] at H
  by_cases Y:P.1-f<h-P.1
  .have g:=gl Y;obtain⟨w1,w2⟩:=W F P.2.2 f P.1 r.lim ab ab N (by rw[H];omega) q4
   obtain⟨w3,_⟩:=q6 _ w1 w2;refine aE k [(113,ab)] 200 rfl ?_ ?_
   .simp only[ai,bD,bh,aG,aF];and_intros <;> omega
   refine AK.bM (ih (P.1-f) (by omega) P.2.2 f P.1 r.lim (ba _) H N (by omega) (by omega) q4 rfl rfl rfl rfl) [0] rfl rfl rfl rfl rfl rfl rfl rfl rfl rfl rfl ?_
   refine aE k [] 200 rfl ?_ (AK.bg ⟨P.1+1,h,r.lim,decide (P.1-f≥(h-f) / 8),P.2.1,pdq ltInt P.2.2 f P.1 r.lim ab ab⟩ rfl ?_ rfl rfl rfl ?_ rfl ?_ ?_)
   .simp only[ai,bD,aG,aF];and_intros <;> omega
   .simp only[ai.cat,ai,aG,aF];refine⟨by omega,?_⟩
    rw[decide_eq_decide];omega
   .simp[ai.cat,ai,a9]
   .exact⟨by simp only;rw[w1.1,H],by simp only;omega,i,by simp only;omega,by simp only;omega,w3,g.symm⟩
   .simp only;omega
  .have g:=gr Y;obtain⟨w1,w2⟩:=W F P.2.2 (P.1+1) h r.lim ab ab (by omega) (by rw[H];omega) q5
   obtain⟨w3,_⟩:=q7 _ w1 w2;refine aE k [(113,ae)] 200 rfl ?_ ?_
   .simp only[ai,bD,bY,aG,aF];and_intros <;> omega
   refine AK.bM (ih (h-(P.1+1)) (by omega) P.2.2 (P.1+1) h r.lim (ba _) H (by omega) i (by omega) q5 (x:=(P.1:Int)+1) (by omega) rfl rfl rfl) [0] rfl rfl rfl rfl rfl rfl rfl rfl rfl rfl rfl ?_
   refine aE k [] 200 rfl ?_ (AK.bg ⟨f,P.1,r.lim,decide (h-P.1≥(h-f) / 8),P.2.1,pdq ltInt P.2.2 (P.1+1) h r.lim ab ab⟩ rfl ?_ rfl rfl rfl ?_ rfl ?_ ?_)
   .trivial
   .simp only[ai.cat,ai,aG,aF];rw[decide_eq_decide];omega
   .simp[ai.cat,ai,a9]
   .exact⟨by simp only;rw[w1.1,H],by simp only;omega,by simp only;omega,by simp only;omega,by simp only;omega,w3,g.symm⟩
   .simp only;omega
end Go.AM.R1
namespace Go.AM.R1
open Go.Proofs
variable {X:Cx ah}
abbrev pe:dC:=k6 aS (λp=>dS (iQ p)) λ_=>[]
abbrev Ae(r:Option Bs):D:=.fW [.one (.c (.str (r.getD []))),.one (.c (.bool r.isSome))]
theorem DV(c:eb X 165 pe)(b:Bs):Ev X 126 [dS b] [] (Ae (fb b)) []:=by
 refine Ev.body Tryz.func126 rfl rfl rfl λf=>?_
 have e:b5 X [(163,QP),(164,k6 aS (λs=>dB (bT s)) λ_=>[]),(165,pe)]:=.cons t163 (.cons t164 (.cons c .nil))
 by_cases a:bT (strip b)=ab
 .by_cases d:iQ (strip b)=b
  .refine aE e [(10,ae),(15,ae)] 100 rfl ?_ (AK.br rfl ?_)
   .simp[ai,a,d]
   .simp[ai,ai.cat,fb,a,d]
  .refine aE e [(10,ae),(15,ab)] 100 rfl ?_ (AK.br rfl ?_)
   .simp[ai,a,d]
   .simp[ai,ai.cat,fb,a,d]
 .refine aE e [(10,ab),(15,ab)] 100 rfl ?_ (AK.br rfl ?_)
  .simp[ai,a]
  .simp[ai,ai.cat,fb,a]
theorem Ug(a:eb X 165 pe):eb X 126 (k6 aS (λb=>Ae (fb b)) λ_=>[]):=.pf λb _=>DV a b
theorem wF{b p:Bs}(h:fb b=aa p):bT p=ab:=by
 unfold fb at h;split at h
 .rename_i a;cases h;exact(bG _ _▸a).1
 .cases h
abbrev XL(x:cM):D:=SE.enc x
theorem JP(c:eb X 165 pe)(x:cM) (k:Int)(e:cD k=ab):Ev X 110 [XL x,dI k] [] (Ae (chunk k x)) []:=by
 refine Ev.body Tryz.func110 rfl rfl rfl λh=>?_
 have f:b5 X [(126,k6 aS (λb=>Ae (fb b)) λ_=>[]),(127,C5 aI aS aI (λk p n=>dB (jd k p==n)) λk p _=>[cD k=ab,bT p=ab])]:=.cons (Ug c) (.cons t127 .nil)
 cases a:fb x.2 with
 |none =>
  refine aE f [(16,ab),(23,ab)] 100 rfl ?_ (AK.br rfl ?_)
  .simp[ai,a]
  .simp[ai,ai.cat,chunk,a]
 |some p =>
  have g:=wF a
  by_cases d:jd k p=x.1
  .refine aE f [(16,ae),(23,ae)] 100 rfl ?_ (AK.br rfl ?_)
   .simp[ai,a,d,e,g]
   .simp[ai,ai.cat,chunk,a,d,e]
  .refine aE f [(16,ae),(23,ab)] 100 rfl ?_ (AK.br rfl ?_)
   .simp[ai,a,d,e,g]
   .simp[ai,ai.cat,chunk,a,d,e]
theorem JQ(a:eb X 165 pe):eb X 110 (qb SE aI (λx k=>Ae (chunk k x)) λ_ k=>[cD k=ab]):=.te λx k h=>JP a x k h
end Go.AM.R1
namespace Go.AM
open Go.Conc (G)
section
variable {P:an}{X:Cx P}
def Yields{ι:Type}(X:Cx P)(d:Nat)(ds:List D)(σ:List aW)(res:Bool)(σ':ι->List aW):Prop :=
 ∀ s (vs:List ak) (l:Nat),cG σ s vs ds->aJ σ s->(∃ L,s.β[d]?=aa L/\L.v=.func (.yield l) #[] #[]) ->
  ∃ fn tmps assign body,(Instr.yield l vs.toArray).run P s.w=.ok (.round l fn tmps assign body) s.w/\(Instr.yield l vs.toArray).events P s.w #[]=#[⟨.obj l,ae,ae⟩] /\
  ∀ (S:au->St->Prop) (c:aQ) (cs:List aQ),(∀ i s',aJ (σ' i) s'->cC σ s (σ' i) s'->fG X S (G (c.finish (.bool res)) cs) s') ->
   fG X S (G (Frame.round l fn tmps assign body .normal) (c::cs)) s
theorem mE{w:az}{l:Nat}{r:Loop}(h:w.heap[l]?=aa (.loop r)):(Instr.getLoop l).run P w=.ok r w/\∀ es,(Instr.getLoop l).events P w es=es.push ⟨.obj l,ae,ae⟩:=by
 have c:(getObj l).run P w=.ok (.loop r) w:=by simp only[getObj,Sem.run,h]
 have d:∀ es,(getObj l).events P w es=es.push ⟨.obj l,ae,ae⟩:=λes=>by simp only[getObj,Sem.events,Sem.runT,h];rfl
 constructor
 .simp[Instr.getLoop,c]
 .intro es;simp[Instr.getLoop,c,d]
theorem o5{w:az}{l:Nat}{r r':Loop}(h:w.heap[l]?=aa (.loop r)):(setObj l (.loop r')).run P w=.ok () { w with heap:=w.heap.setIfInBounds l (.loop r') }/\∀ es,(setObj l (.loop r')).events P w es=es.push ⟨.obj l,ab,ae⟩:=by
 constructor
 .simp only[setObj,Sem.run,h]
 .intro es;simp only[setObj,Sem.events,Sem.runT,h];rfl
theorem Gn{w:az}{l:Nat}{r:Loop}{args:Array ak}(h:w.heap[l]?=aa (.loop r))(c:args.size=r.params.size) :
  (Instr.yield l args).run P w=.ok (.round l r.fn ((r.params.zip args).foldl (λtmps (t,a)=>tmps.setIfInBounds t a) r.tmps) r.assign r.body) w/\(Instr.yield l args).events P w #[]=#[⟨.obj l,ae,ae⟩]:=by
 obtain⟨d,e⟩:=mE (P:=P) h
 constructor
 .simp[Instr.yield,d,c]
 .simp[Instr.yield,d,e,c]
theorem Gp{w:az}{l:Nat}{r:Loop}(h:w.heap[l]?=aa (.loop r))(d:r.state=.ready) :
  (Instr.beginRound l).run P w=.ok () { w with heap:=w.heap.setIfInBounds l (.loop { r with state:=.busy }) }/\(Instr.beginRound l).events P w #[]=#[⟨.obj l,ae,ae⟩,⟨.obj l,ab,ae⟩]:=by
 obtain⟨e,f⟩:=mE (P:=P) h;obtain⟨c,g⟩:=o5 (P:=P) (r':={ r with state:=.busy }) h
 constructor
 .simp[Instr.beginRound,e,c,d]
 .simp[Instr.beginRound,e,f,c,g,d]
theorem zP{w:az}{l:Nat}{r:Loop}(h:w.heap[l]?=aa (.loop r))(j:Option Code) :
  (Instr.endRound l j).run P w=.ok (.bool j.isNone) { w with heap:=w.heap.setIfInBounds l (.loop { r with state:=if j.isNone then .ready else .done,pending:=j }) }/\(Instr.endRound l j).events P w #[]=#[⟨.obj l,ae,ae⟩,⟨.obj l,ab,ae⟩]:=by
 obtain⟨d,e⟩:=mE (P:=P) h;obtain⟨c,f⟩:=o5 (P:=P) (r':={ r with state:=if j.isNone then .ready else .done,pending:=j }) h
 constructor
 .simp only[Instr.endRound,bZ,d,c,cg,c7]
 .simp only[Instr.endRound,aP,d,e,c,f,aV,Sem.events_pure];rfl
theorem Bw{w:az}{l:Nat}{r:Loop}(h:w.heap[l]?=aa (.loop r))(c:r.state≠.busy) :
  (Instr.endLoop l).run P w=.ok r.pending { w with heap:=w.heap.setIfInBounds l (.loop { r with state:=.exhausted }) }/\(Instr.endLoop l).events P w #[]=#[⟨.obj l,ae,ae⟩,⟨.obj l,ab,ae⟩]:=by
 obtain⟨d,e⟩:=mE (P:=P) h;obtain⟨g,f⟩:=o5 (P:=P) (r':={ r with state:=.exhausted }) h;have i:(r.state==.busy)=ae:=by cases j:r.state <;> simp_all
 constructor
 .simp[Instr.endLoop,d,g,c]
 .simp[Instr.endLoop,d,e,f,c]
section steps
variable {b:aQ}{a:Act}{k:List Item}{cs:List aQ}{w:az}{main:Bool}
theorem Bx{o:av}{d:aq}{xs:Array aq}{c:Array ar}{l:Nat}(f:o.op=.call { callee:=.value d,args:=xs,argTypes:=c })(g:a.eval d=.func (.yield l) #[] #[]) :
  (aw a.eval o).run P w=(Instr.yield l (xs.toList.map a.eval).toArray).run P w/\(aw a.eval o).events P w #[]=(Instr.yield l (xs.toList.map a.eval).toArray).events P w #[]:=by
 have e:xs.map a.eval=(xs.toList.map a.eval).toArray:=by apply il;simp
 constructor
 .simp[aw,f,resolve,g,Deferred.ofValue,invoke,e]
 .simp[aw,f,resolve,g,Deferred.ofValue,invoke,e]
theorem Jd{ops:Array av}{i:Nat}{rest:List Nat}{o:av}{l:Nat}{fn:aX}{tmps:Array ak}{assign body:Code}{w':az}(m:ops[i]?=aa o)(g:bk o (yielded ops a.tmps)=ab)
  (j:b.kind≠.early) (f:(aw a.eval o).run P w=.ok (.round l fn tmps assign body) w') :
  aK P main (G (b.aT a (.inRegion ops (i::rest)::k)) cs) w=.go (G (Frame.round l fn tmps assign body .normal) (b.aT a (.inRegion ops (i::rest)::k)::cs)) w' (Go.Conc.listed P b.fn a o w):=by
 have e:(b.kind==CallKind.early)=ae:=by simpa using j
 rw[u9 m g (λc n=>by obtain⟨d,h⟩:=rE n f;cases h)]
 simp[stepG.apply,f,G,Frame.aT,e,GStep.after,Go.Conc.listed]
theorem Je{l:Nat}{r:Loop}(e:b.roundOf=aa l)(f:b.kind≠.early)(h:w.heap[l]?=aa (.loop r))(g:r.state=.ready) :
  aK P main (G (b.aT a (.beginRound::k)) cs) w=.go (G (b.aT a k) cs) { w with heap:=w.heap.setIfInBounds l (.loop { r with state:=.busy }) } (seen P b.fn #[⟨.obj l,ae,ae⟩,⟨.obj l,ab,ae⟩]):=by
 obtain⟨i,d⟩:=Gp (P:=P) h g;have c:(b.kind==CallKind.early)=ae:=by simpa using f
 simp[G,aK,stepG.exec,stepG.apply,Frame.aT,e,c,i,d,GStep.after,Frame.finish]
theorem By{l:Nat}{r:Loop}{j:Option Code}{e:List Item}{c:aQ}(g:b.roundOf=aa l)(i:b.kind=.normal)(h:w.heap[l]?=aa (.loop r))
  (n:(j=af/\e=[])∨(j=aa .ret/\∃ k1,e=.code .ret::k1)∨(∃ id k1,j=aa (.exit id)/\e=.code (.exit id)::k1/\exitTo id k1=af)) :
  aK P main (G (b.aT a e) (c::cs)) w=.go (G (c.finish (.bool j.isNone)) cs) { w with heap:=w.heap.setIfInBounds l (.loop { r with state:=if j.isNone then .ready else .done,pending:=j }) } (seen P b.fn #[⟨.obj l,ae,ae⟩,⟨.obj l,ab,ae⟩]):=by
 obtain⟨d,f⟩:=zP (P:=P) h j;rcases n with⟨rfl,rfl⟩|⟨rfl,k1,rfl⟩|⟨id,k1,rfl,rfl,m⟩
 .simp only[Option.isNone_none,bO] at d;simp[G,aK,stepG.exec,Frame.aT,g,d,f,GStep.after,doReturn,i]
 .simp only[Option.isNone_some,bH,gi] at d;simp[G,aK,stepG.exec,Frame.aT,g,d,f,GStep.after,doReturn,i]
 .simp only[Option.isNone_some,bH,gi] at d;simp[G,aK,stepG.exec,Frame.aT,g,d,f,GStep.after,doReturn,i,m]
theorem Dz{l:Nat}{r:Loop}(h:w.heap[l]?=aa (.loop r))(d:r.state≠.busy) :
  aK P main (G (b.aT a (.endRangeFunc l::k)) cs) w=.go (G (b.aT a ((r.pending.map Item.code).toList++k)) cs) { w with heap:=w.heap.setIfInBounds l (.loop { r with state:=.exhausted }) } (seen P b.fn #[⟨.obj l,ae,ae⟩,⟨.obj l,ab,ae⟩]):=by
 obtain⟨e,c⟩:=Bw (P:=P) h d;simp[G,aK,stepG.exec,Frame.aT,e,c,GStep.after]
theorem xE{fn:aX}{tmps:Array ak}{params:Array Tmp}{assign body:Code} :
  (Instr.enterLoop fn tmps params assign body af).run P w=.ok (w.heap.size+1,[{ target:=.collected w.heap.size,args:=#[] }]) { w with heap:=(w.heap.push (.deferred (aa []))).push (.loop { state:=.ready,pending:=af,fn,tmps,params,assign,body,defers:=w.heap.size }) } /\
  (Instr.enterLoop fn tmps params assign body af).events P w #[]=#[]:=by
 have c:∀ (o:Obj) (w:az),(newObj o).run P w=.ok w.heap.size { w with heap:=w.heap.push o }:=λo w=>by simp only[newObj,Sem.run]
 have d:∀ (o:Obj) (w:az) es,(newObj o).events P w es=es:=λo w es=>by simp only[newObj,Sem.events,Sem.runT]
 constructor
 .simp[Instr.enterLoop,c];rfl
 .simp[Instr.enterLoop,c,d]
theorem zQ{f:aq}{ps:Array Tmp}{assign body:Code}{F:aX}{fn:Func}{g:List ak}(r:b.roundOf=af)(s:b.kind≠.early)(l:P.funcs[F]?=aa fn)(j:(fn.name== "runtime.NumGoroutine")=ae)(c:fn.body.isNone=ae)
  (u:a.eval f=.func (.func F) #[] g.toArray) :
  aK P main (G (b.aT a (.code (.rangeFunc f ps assign body)::k)) cs) w =
   .go (G (Frame.enter P F (Value.func (.yield (w.heap.size+1)) #[] #[]::g).toArray .normal) (b.aT { a with defers:={ target:=.collected w.heap.size,args:=#[] }::a.defers } (.inRangeFunc (w.heap.size+1)::k)::cs))
    { w with heap:=(w.heap.push (.deferred (aa []))).push (.loop { state:=.ready,pending:=af,fn:=b.fn,tmps:=a.tmps,params:=ps,assign,body,defers:=w.heap.size }) } #[]:=by
 obtain⟨q,p⟩:=xE (P:=P) (w:=w) (fn:=b.fn) (tmps:=a.tmps) (params:=ps) (assign:=assign) (body:=body);have n:(b.kind==CallKind.early)=ae:=by simpa using s
 have i:fn.name≠ "runtime.NumGoroutine":=by simpa using j
 have h:fn.body≠af:=by intro e;rw[e] at c;cases c
 have o:∀ (d:List Deferred) (t:List Item) (m:FrameMode),({ fn:=b.fn,tmps:=a.tmps,todo:=t,defers:=d,mode:=m,kind:=b.kind,roundOf:=b.roundOf }:aQ).eval f=.func (.func F) #[] g.toArray:=by
  intro d t m;rw[<-u];cases f <;> rfl
 simp only[G,aK,stepG.exec,Frame.aT,r] at o ⊢;simp[q,p,GStep.after,stepG.apply,resolve,o,Deferred.ofValue,invoke,callFunc,l,i,h,n,seen];rfl
end steps
end
section
variable {P:an}{X:Cx P}
theorem aJ.zR{σ:List aW}{s:St}(hh:aJ σ s){b N:Nat}{a:Fr}{r:Loop}(e:σ[b]?=aa (.loop N a r)){l:Nat}(hl:∃ L,s.β[b]?=aa L/\L.v=.func (.yield l) #[] #[]) :
  ∃ tmps fn df,s.β[b]?=aa ⟨.func (.yield l) #[] #[],[l]⟩/\s.w.heap[l]?=aa (.loop { r with tmps:=tmps,fn:=fn,defers:=df })/\tmps.size=N/\(∀ t,dh σ s (tmps.getD t aj) (look a t))/\(∀ o,s.M l o=af):=by
 obtain⟨L,h1,h2⟩:=hl;obtain⟨l',tmps,fn,df,d,c,g,h,f⟩:=hh.box b _ L e h1;subst d;simp at h2;subst h2;exact⟨tmps,fn,df,h1,c,g,h,f⟩
theorem aJ.zS{σ:List aW}{s:St}(hh:aJ σ s){c N:Nat}{a:Fr}{r r':Loop}{B':aW}(q:σ[c]?=aa (.loop N a r)){l:Nat}{tmps:Array ak}{fn df:Nat}(g:s.β[c]?=aa ⟨.func (.yield l) #[] #[],[l]⟩)
  (D:s.w.heap[l]?=aa (.loop { r with tmps:=tmps,fn:=fn,defers:=df })) (C:tmps.size=N) (y:∀ t,dh σ s (tmps.getD t aj) (look a t)) (z:∀ o,s.M l o=af) (m:B'=.dead∨B'=.loop N a r') :
  aJ (σ.set c B') { s with w:={ s.w with heap:=s.w.heap.setIfInBounds l (.loop { r' with tmps:=tmps,fn:=fn,defers:=df }) } }/\Step σ s (σ.set c B') { s with w:={ s.w with heap:=s.w.heap.setIfInBounds l (.loop { r' with tmps:=tmps,fn:=fn,defers:=df }) } }:=by
 have k:l<s.w.heap.size:=hh.lt _ (bz g) l (by simp)
 have A:∀ b,b≠l->(s.w.heap.setIfInBounds l (.loop { r' with tmps:=tmps,fn:=fn,defers:=df }))[b]?=s.w.heap[b]?:=λb hb=>by rw[kX (λe=>hb e.symm)]
 have p:s.β.set c ⟨.func (.yield l) #[] #[],[l]⟩=s.β:=by
  apply jk
  intro i
  by_cases e:c=i
  .subst e;rw[cf (bt.1 g).1,g]
  .rw[cQ e]
 have j:c<σ.length:=(bt.1 q).1;have n:iN (.loop N a r) ⟨.func (.yield l) #[] #[],[l]⟩ B' ⟨.func (.yield l) #[] #[],[l]⟩:=by rcases m with rfl|rfl <;> rfl
 have ex:Ext σ s (σ.set c B') { s with w:={ s.w with heap:=s.w.heap.setIfInBounds l (.loop { r' with tmps:=tmps,fn:=fn,defers:=df }) } }:=by
  refine⟨λ_ _ _ h=>h,λi B L d f=>?_⟩
  by_cases e:c=i
  .subst e;rw[q] at d;cases d;rw[g] at f;cases f;exact⟨B',_,by rw[cf j],g,n⟩
  .exact⟨B,L,by rw[cQ e];exact d,f,.refl _ _⟩
 have:=hh.iT (M':=s.M) (w':={ s.w with heap:=s.w.heap.setIfInBounds l (.loop { r' with tmps:=tmps,fn:=fn,defers:=df }) }) (B':=B') (L':=⟨.func (.yield l) #[] #[],[l]⟩) q g n (by simp) (λb _ hb=>A b (by simpa using hb)) (λ_ _ _ _=>rfl) (λ_ _ _ h=>h)
  (λb o v u=>by
   have x:b≠l:=by rintro rfl;rw[z] at u;cases u
   rw[<-hh.mem b o v u];simp only[aY];rw[A b x]) (λb hb=>by simp at hb;subst hb;exact⟨.inl (by simp),by simpa using k⟩) rfl rfl rfl (by
   rcases m with rfl|rfl
   .trivial
   .refine⟨l,tmps,fn,df,rfl,?_,C,λt=>?_,z⟩
    .show (s.w.heap.setIfInBounds l _)[l]?=_;rw[mO k]
    .have:=(y t).mono ex hh.len;rw[p];exact this)
 rw[p] at this;exact this
theorem AK.yield{ι:Type}{N:Nat}{Qf:Post}{K:List It}{φ:Fr}{σ:List aW}{σ':ι->List aW}{all rest:List av}{o:av}{p:aq}{xs:Array aq}{C:Array ar}{i:Nat}{ds:List D}{res:Bool}(V:Yields X i ds σ res σ')
  (hg:o.guard=af) (R:iP N o.dst=ab) (ho:o.op=.call { callee:=.value p,args:=xs,argTypes:=C }) {T:Nat} {A:Fr} {r:Loop} (x:σ[i]?=aa (.loop T A r)) (I:cj φ p=.e (.one (.ref i))) (h:xs.toList.map (cj φ)=ds)
  (k:∀ j,AK X N Qf (.ops all rest::K) .normal (m9 o.dst (.e (.one (.c (.bool res)))) φ) (σ' j)):AK X N Qf (.ops all (o::rest)::K) .normal φ σ:=by
 intro s a f hh b kk cs S idx hb ly hQ;cases idx with
 |nil=>exact ly.elim
 |cons j idx =>
 refine .next rfl λm z=>?_
 have y:=X.iO z;have d:=hh.rely y;have n:=f.rely y hh;have H:=eP n p;rw[I] at H;obtain⟨_,L,E,B,_⟩:=(show gB _ m _ (.ref i) from H)
 obtain⟨l,tmps,fn,df,U,h4,h5,h6,h7⟩:=d.box i _ L x E;subst U;have v:cG σ m (xs.toList.map a.eval) ds:=by rw[<-h];exact pU (eP n) xs.toList
 obtain⟨Q,F,assign,body,J,M,W⟩:=V m (xs.toList.map a.eval) l v d ⟨_,E,rfl⟩;obtain⟨O,Y⟩:=Bx (P:=P) (w:=m.w) (a:=a) ho B;refine⟨_,m,_,Jd ly.1 (dJ hg) hb (O.trans J),⟨⟨σ,σ,d,d,.refl _ _⟩,ft.seen ?_⟩,W S _ _ λG s' lG st=>?_⟩
 .rw[Y,M];exact .one (lT (L:=⟨.func (.yield l) #[] #[],[l]⟩) (bz E) (by simp))
 have g:=lF (b:=b) (a:=a) (k:=kk) all.toArray j idx (.bool res);rw[ly.1] at g;simp only[mg] at g;rw[g];refine k G s' _ ?_ lG b kk cs S idx hb ly.2 λu σ2 s2 a2 q f2 h2 oT=>hQ u σ2 s2 a2 q f2 h2 ((y.stepW.trans st).trans oT)
 cases Z:o.dst with
 |none=>exact n.mono st d.len
 |some t=>exact(n.mono st d.len).put (iY R t Z) (show dh (σ' G) s' (.bool res) (.e (.one (.c (.bool res)))) from Rd.bool)
def qL:List Tmp->List D->Fr->Fr
 |t::ts,d::ds,φ=>qL ts ds ((t,d)::φ)
 |_,_,φ=>φ
def MX(N:Nat):List Tmp->Bool
 |[]=>ab
 |t::ts=>match bw (t+1) N with|true=>MX N ts|false=>ae
theorem Fh{N:Nat}{σ:List aW}{s:St}:∀ {ps:List Tmp}{ds:List D}{vs:List ak}{φ:Fr}{a:Act},cw N σ s φ a->cG σ s vs ds->MX N ps=ab->cw N σ s (qL ps ds φ) { a with tmps:=(ps.zip vs).foldl (λtmps (t,v)=>tmps.setIfInBounds t v) a.tmps }
 |[],ds,vs,φ,a,h,_,_=>by simpa[qL] using h
 |_::_,[],[],φ,a,h,_,_=>by simpa[qL] using h
 |_::_,[],_::_,φ,a,h,b,_=>b.elim
 |_::_,_::_,[],φ,a,h,b,_=>b.elim
 |t::ts,d::ds,v::vs,φ,a,h,b,c=>by
  simp only[MX] at c;split at c
  .rename_i e
   have:=Fh (h.put (d:=t) (dn e) b.1) b.2 c;simpa[qL,Act.put] using this
  .cases c
def Qj:Exit->Option (Option Code)
 |.normal=>aa af
 |.ret=>aa (aa .ret)
 |.exit id=>aa (aa (.exit id))
 |_=>af
theorem Yields.intro{ι:Type}{g N:Nat}{f:Fr}{r:Loop}{ds:List D}{σ:List aW}{σ':ι->List aW}{j:Option Code}(p:σ[g]?=aa (.loop N f r))(Q:r.state=.ready)(E:ds.length=r.params.size)(Y:MX N r.params.toList=ab)
  (h:AW X N r.assign (λe C σ1=>e=.normal/\σ1[g]?=aa (.loop N f r)/\AW X N r.body (λe φ2 σ2=>Qj e=aa j/\σ2[g]?=aa (.loop N f { r with state:=.busy }) /\
   ∃ i,Gq (σ2.set g (.loop N f { r with state:=if j.isNone then .ready else .done,pending:=j })) (σ' i)) C (σ1.set g (.loop N f { r with state:=.busy }))) (qL r.params.toList ds f) σ):Yields X g ds σ j.isNone σ':=by
 intro s vs l F hh hl;obtain⟨tmps,fn,df,h1,h2,h3,h4,h5⟩:=hh.zR p hl;have T:vs.length=r.params.size:=by rw[<-E];exact(cG.get F).1
 obtain⟨y1,y2⟩:=Gn (P:=P) (args:=vs.toArray) h2 (by simpa using T)
 refine⟨_,_,_,_,y1,y2,λS c cs hS=>?_⟩
 let b:aQ:={ fn:=fn,tmps:=#[],todo:=[],defers:=[],mode:=.run,kind:=.normal,roundOf:=aa l }
 have hb:b.kind≠.early:=by simp[b]
 have hf:cw N σ s (qL r.params.toList ds f) { tmps:=(r.params.zip vs.toArray).foldl (λtmps (t,a)=>tmps.setIfInBounds t a) tmps,defers:=[] }:=by
  have:=Fh (a:={ tmps:=tmps,defers:=[] }) (φ:=f) ⟨h3,⟨[],ay⟩,h4⟩ F Y;have e:(r.params.zip vs.toArray).foldl (λtmps (x:Tmp×ak)=>tmps.setIfInBounds x.1 x.2) tmps=(r.params.toList.zip vs).foldl (λtmps (x:Tmp×ak)=>tmps.setIfInBounds x.1 x.2) tmps:=by
   rw[<-Array.foldl_toList];simp
  show cw N σ s _ { tmps:=(r.params.zip vs.toArray).foldl (λtmps (x:Tmp×ak)=>tmps.setIfInBounds x.1 x.2) tmps,defers:=[] }
  rw[e];exact this
 show fG X S (G (b.aT { tmps:=(r.params.zip vs.toArray).foldl (λtmps (t,a)=>tmps.setIfInBounds t a) tmps,defers:=[] } [.code r.assign,.beginRound,.code r.body]) (c::cs)) s
 refine h s _ hf hh b [.beginRound,.code r.body] (c::cs) S hb ?_;rintro e C σ1 s1 a1 ⟨rfl,o,q⟩ f1 B J;refine .next rfl λs2 nN=>?_
 have O:=X.iO nN;have k:=B.rely O;have f2:=f1.rely O B;have U:∃ L,s2.β[g]?=aa L/\L.v=.func (.yield l) #[] #[]:=by
  obtain⟨B',L',k1,k2,V⟩:=(J.trans O.stepW).box g _ _ p h1;rw[o] at k1;cases k1;exact⟨L',k2,V⟩
 obtain⟨ZA,fn2,VF,g1,g2,g3,g4,g5⟩:=k.zR o U;have g6:=k.zS (r':={ r with state:=.busy }) o g1 g2 g3 g4 g5 (.inr rfl);have K:∀ {s:St} {σ:List aW} {L:Loc},s.β[g]?=aa L->L.bs=[l]->ft s #[⟨.obj l,ae,ae⟩,⟨.obj l,ab,ae⟩]:=λ{s σ L} hL hb =>
  .two (lT (bz hL) (by simp[hb])) (lT (bz hL) (by simp[hb]))
 refine⟨_,_,_,Je (l:=l) rfl hb g2 Q,⟨⟨_,_,k,g6.1,g6.2⟩,ft.seen (K (σ:=σ1) g1 rfl)⟩,?_⟩;have y:=g6.2.oA k;have Jf:=g6.1;refine q _ a1 (f2.mono y k.len) Jf b [] (c::cs) S hb ?_;rintro e φ3 σ3 s3 a3 ⟨hj,u,ii,A⟩ f3 I Z;have stA:=((J.trans O.stepW).trans y).trans Z;have fin:∀ M m,cm s3 m->((j=af/\M=[])∨(j=aa .ret/\∃ k1,M=.code .ret::k1)∨(∃ id k1,j=aa (.exit id)/\M=.code (.exit id)::k1/\exitTo id k1=af)) ->
   ∃ g' s' es,aK P X.main (G (b.aT a3 M) (c::cs)) m.w=.go g' s'.w es/\qG m s' es/\fG X S g' s':=by
  intro M m d W;have n:=I.rely d;have H:∃ L,m.β[g]?=aa L/\L.v=.func (.yield l) #[] #[]:=by
   obtain⟨B',L',k1,k2,V⟩:=(stA.trans d.stepW).box g _ _ p h1;rw[u] at k1;cases k1;exact⟨L',k2,V⟩
  obtain⟨R,fn5,df5,p1,p2,p3,p4,p5⟩:=n.zR u H;have z:=n.zS (r':={ r with state:=if j.isNone then .ready else .done,pending:=j }) u p1 p2 p3 p4 p5 (.inr rfl)
  obtain⟨p7,p8,_⟩:=A _ z.1;exact⟨_,_,_,By (l:=l) rfl rfl p2 W,⟨⟨_,_,n,z.1,z.2⟩,ft.seen (K (σ:=σ3) p1 rfl)⟩,hS ii _ p7 (((stA.trans d.stepW).trans (z.2.oA n)).trans (p8.oA z.1))⟩
 cases e with
 |normal =>
  cases hj;exact .next rfl λm d=>fin [] m (X.iO d) (.inl ⟨rfl,rfl⟩)
 |ret =>
  cases hj;intro pre;exact .next rfl λm d=>fin _ m (X.iO d) (.inr (.inl ⟨rfl,pre,rfl⟩))
 |exit id =>
  cases hj;intro pre hp;refine .next rfl λm d=>fin _ m (X.iO d) (.inr (.inr ⟨id,_,rfl,rfl,?_⟩))
  have:=hp [];simpa[exitTo] using this
 |_=>cases hj
end
def qo{P:an}(X:Cx P)(N:Nat)(c:Code)(Q:Post)(φ:Fr)(σ:List aW):Prop :=
 ∀ s a,cw N σ s φ a->aJ σ s->∀ (b:aQ) (k:List Item) (cs:List aQ) (S:au->St->Prop),b.kind≠.early->b.roundOf=af ->
  (∀ e d σ' s' a',Q e d σ'->cw N σ' s' d a'->aJ σ' s'->cC σ s σ' s'->ends X S b k cs e a' s')->fG X S (G (b.aT a (.code c::k)) cs) s
section
variable {P:an}{X:Cx P}{N:Nat}{Q:Post}{φ:Fr}{σ:List aW}
theorem AW.top{c:Code}(h:AW X N c Q φ σ):qo X N c Q φ σ:=λs a f hh b k cs S hb _ d=>h s a f hh b k cs S hb d
theorem qo.seq{x y:Code}(h:qo X N x (Fi (qo X N y Q) Q) φ σ):qo X N (.seq x y) Q φ σ:=by
 intro s a i hh b k cs S hb L5 hQ;refine .ctl hh rfl (λ_=>n3) λj h1=>?_
 refine h j a (i.rely h1 hh) (hh.rely h1) b (.code y::k) cs S hb L5 ?_;intro e l σ' s' a' q g f st;have c:=h1.stepW.trans st;cases e with
 |normal=>exact q s' a' g f b k cs S hb L5 λe d σ2 s2 a2 q2 f2 h2 oT=>hQ e d σ2 s2 a2 q2 f2 h2 (c.trans oT)
 |_=>exact ends.cons (λ_ _=>rfl) (by simp) (hQ _ _ _ _ _ q g f c)
theorem qo.block{id:Nat}{c:Code}(h:qo X N c (zT id Q) φ σ):qo X N (.block id c) Q φ σ:=by
 intro s a m hh b k cs S hb L5 hQ;refine .ctl hh rfl (λ_=>rD) λn h1=>?_
 refine h n a (m.rely h1 hh) (hh.rely h1) b (.inBlock id::k) cs S hb L5 ?_;intro e g σ' s' a' q i f st;have d:=h1.stepW.trans st;cases e with
 |normal =>
  exact .ctl f rfl (λ_=>qH) λs2 h2=>hQ .normal g σ' s2 a' q (i.rely h2 f) (f.rely h2) (d.trans h2.stepW)
 |exit HY =>
  simp only[zT] at q;split at q
  .rename_i e
   subst e;intro pre hp;refine .ctl f rfl (λ_=>zm (k':=k) (by rw[hp];simp[exitTo])) λs2 h2=>?_
   exact hQ .normal g σ' s2 a' q (i.rely h2 f) (f.rely h2) (d.trans h2.stepW)
  .rename_i j
   intro pre hp;have:=hQ (.exit HY) g σ' s' a' q i f d (pre++[.inBlock id]) (λk'=>by
    rw[dq,hp];have:(id==HY)=ae:=by simp;exactλh=>j h.symm
    simp[exitTo,this])
   simpa using this
 |ret=>exact hQ _ _ _ _ _ q i f d
 |panic ch=>exact hQ _ _ _ _ _ q i f d
 |goto l=>exact hQ _ _ _ _ _ q i f d
 |outgrown=>exact hQ _ _ _ _ _ q i f d
theorem aJ.Qk{s:St}(h:aJ σ s){o:Nat->Prop}(c:∀ b,o b->b<s.w.heap.size/\∀ L∈s.β,b∉L.bs):aJ σ { s with own:=o } :=
 ⟨h.mem,h.len,λl B L e d=>eZ.carry (σ:=σ) (s:=s) (σ':=σ) (s':={ s with own:=o }) ⟨λ_ _ _ h=>h,λ_ B L h a=>⟨B,L,h,a,.refl _ _⟩⟩ h.len (λ_ _=>⟨rfl,λ_=>rfl⟩) (h.box l B L e d),h.gb,h.lt,c⟩
theorem aJ.iD{s:St}(h:aJ σ s){r:Nat}{o:Nat->Prop}(k:s.own r)(m:∀ b,o b->s.own b)(e:¬o r)(t:∀ i,s.M r i=af)(q:s.w.heap[r]?=aa (.deferred (aa []))) :
  aJ (σ++[.rC]) { s with β:=s.β++[⟨.int .i64 r,[r]⟩],own:=o }/\eW s { s with β:=s.β++[⟨.int .i64 r,[r]⟩],own:=o }:=by
 obtain⟨n,j⟩:=h.own r k;have ex:Ext σ s (σ++[.rC]) { s with β:=s.β++[⟨.int .i64 r,[r]⟩],own:=o }:=by
  refine⟨λ_ _ _ h=>h,λl B L c a=>⟨B,L,?_,?_,.refl _ _⟩⟩
  .rw[b7 (bt.1 c).1,c]
  .show (s.β++_)[l]?=_;rw[b7 (bt.1 a).1,a]
 refine⟨⟨h.mem,by simp[h.len],?_,?_,?_,?_⟩,⟨rfl,λ_ _ _ h=>h,λ_ _ _=>rfl,h.mem,?_⟩⟩
 .intro l B L c a;rcases gj a with d|⟨hl,rfl⟩
  .have hl:l<σ.length:=by rw[<-h.len];exact(bt.1 d).1
   rw[b7 hl] at c;exact(h.box l B L c d).carry ex h.len λ_ _=>⟨rfl,λ_=>rfl⟩
  .rw[hl,h.len,dg (ba _)] at c;simp at c;subst c;exact⟨r,rfl,q,t⟩
 .intro l l' L L' a f b hb oP;rcases gj a with k1|⟨e1,rfl⟩ <;> rcases gj f with g|⟨e2,rfl⟩
  .exact h.gb l l' L L' k1 g b hb oP
  .simp at oP;subst oP;exact absurd hb (j L (bz k1))
  .simp at hb;subst hb;exact absurd oP (j L' (bz g))
  .rw[e1,e2]
 .intro L a b hb;simp only[dr,fV] at a;rcases a with a|rfl
  .exact h.lt L a b hb
  .simp at hb;subst hb;exact n
 .intro b hb;obtain⟨p,p2⟩:=h.own b (m b hb);refine⟨p,λL a=>?_⟩
  simp only[dr,fV] at a;rcases a with a|rfl
  .exact p2 L a
  .simp;rintro rfl;exact e hb
 .rintro b (hb|⟨L,a,hb⟩)
  .exact .inl (m b hb)
  .simp only[dr,fV] at a;rcases a with a|rfl
   .exact .inr ⟨L,a,hb⟩
   .simp at hb;subst hb;exact .inl k
def Jg:Option Code->Option Exit
 |none=>aa .normal
 |some .ret=>aa .ret
 |some (.exit id)=>aa (.exit id)
 |_=>af
theorem qo.rangeFunc{ι:Type}{f:aq}{ps:Array Tmp}{assign body:Code}{F:aX}{capD:List D}{res:ι->D}{σ':ι->List aW}{r':ι->Loop}
  (C2:∀ s a,cw N σ s φ a->aJ σ s->∃ p:List ak,a.eval f=.func (.func F) #[] p.toArray/\cG σ s p capD)
  (H8:dZ X F (.e (.one (.ref σ.length))::capD) (σ++[.loop N φ { state:=.ready,pending:=af,fn:=0,tmps:=#[],params:=ps,assign:=assign,body:=body,defers:=0 }]) res σ')
  (hl:∀ i,(σ' i)[σ.length]?=aa (.loop N φ (r' i))/\(r' i).state≠.busy)
  (k:∀ i,∃ e,Jg (r' i).pending=aa e/\Q e φ ((σ' i).set σ.length .dead++[.rC])):qo X N (.rangeFunc f ps assign body) Q φ σ:=by
 intro s a fr hh b kk cs S hb L5 hQ;obtain⟨⟨fn,Sv,Jh,O⟩,I⟩:=H8;refine .next rfl λd C3=>?_
 have hr:=X.iO C3;have j:=hh.rely hr;have V:=fr.rely hr hh;obtain⟨p,hv,R⟩:=C2 d a V j;generalize z:d.w.heap.size=r;have x:=λmain=>zQ (P:=P) (main:=main) (k:=kk) (cs:=cs) (ps:=ps) (assign:=assign) (body:=body) (b:=b) (w:=d.w) L5 hb Sv Jh O hv
 rw[z] at x
 let w1:az:={ d.w with heap:=d.w.heap.push (.deferred (aa [])) }
 let lo:Loop:={ state:=.ready,pending:=af,fn:=b.fn,tmps:=a.tmps,params:=ps,assign:=assign,body:=body,defers:=r }
 let w2:az:={ d.w with heap:=(d.w.heap.push (.deferred (aa []))).push (.loop lo) }
 have HR:w2.heap.size=r+2:=by simp[w2,z]
 have Y:w1.heap.size=r+1:=by simp[w1,z]
 have W:∀ b,b<d.w.heap.size->w1.heap[b]?=d.w.heap[b]?:=λb hb=>by
  show (d.w.heap.push _)[b]?=_;rw[q8 hb,dm hb]
 have u:∀ b,b<w1.heap.size->w2.heap[b]?=w1.heap[b]?:=λb hb=>by
  show (w1.heap.push _)[b]?=_;rw[q8 hb,dm hb]
 have ZC:∀ b,b<d.w.heap.size->w2.heap[b]?=d.w.heap[b]?:=λb hb=>by rw[u b (by omega),W b hb]
 have Xo:w2.heap[r]?=aa (.deferred (aa [])):=by
  rw[u r (by omega)]
  show (d.w.heap.push _)[r]?=_;rw[<-z];simp
 have Xp:w2.heap[r+1]?=aa (.loop lo):=by
  show (w1.heap.push _)[r+1]?=_;rw[<-Y];simp
 have nM:∀ b,d.w.heap.size<=b->∀ o,d.M b o=af:=λb hb o=>by
  cases n:d.M b o with
  |none=>rfl
  |some v=>have:=j.block n;omega
 let L1:Loc:=⟨.func (.yield (r+1)) #[] #[],[r+1]⟩
 let T:Loc:=⟨.int .i64 r,[r]⟩
 let U:Loop:={ state:=.ready,pending:=af,fn:=0,tmps:=#[],params:=ps,assign:=assign,body:=body,defers:=0 }
 obtain⟨g1,g2⟩:=j.grow (M':=d.M) (w':=w2) (by omega) ZC (λ_ _ _=>rfl) (λb hb o v n=>by rw[nM b hb] at n;cases n) rfl rfl rfl
 have E:Ext σ d (σ++[.loop N φ U]) ⟨d.β++[L1],d.M,w2,d.own⟩:=by
  refine⟨λ_ _ _ h=>h,λl B L hB m=>⟨B,L,?_,?_,.refl _ _⟩⟩
  .rw[b7 (bt.1 hB).1,hB]
  .show (d.β++_)[l]?=_;rw[b7 (bt.1 m).1,m]
 obtain⟨a1,a2⟩:=g1.ix (B:=.loop N φ U) (L:=L1) g2 rfl j ⟨r+1,a.tmps,b.fn,r,rfl,Xp,V.size,λt=>(V.slot t).mono E j.len,λo=>nM _ (by omega) o⟩ (λb hb=>by
  simp[L1] at hb;subst hb;exact⟨by omega,by show r+1<w2.heap.size;omega⟩)
 have hD:=a1.Qk (o:=λb=>d.own b∨b=r) (by
  rintro b (hb|rfl)
  .exact a1.own b hb
  .refine⟨by show b<w2.heap.size;omega,λL m=>?_⟩
   simp only[dr,fV] at m;rcases m with m|rfl
   .intro hc;have:=j.lt L m b hc;omega
   .simp[L1])
 have d1:=j.kD;obtain⟨e1,e2⟩:=d1.grow (M':=d.M) (w':=w1) (by omega) W (λ_ _ _=>rfl) (λb hb o v n=>by rw[nM b hb] at n;cases n) rfl rfl rfl
 obtain⟨e3,e4⟩:=e1.ix (B:=.dead) (L:=T) e2 rfl d1 ay (λb hb=>by simp[T] at hb;subst hb;exact⟨by omega,by show b<w1.heap.size;omega⟩)
 obtain⟨e5,e6⟩:=e3.grow (M':=d.M) (w':=w2) (by show w1.heap.size<=_;omega) u (λ_ _ _=>rfl) (λb hb o v n=>by
  have hb:w1.heap.size<=b:=hb;rw[nM b (by omega)] at n;cases n) rfl rfl rfl
 obtain⟨e7,e8⟩:=e5.ix (B:=.dead) (L:=L1) e6 rfl e3 ay (λb hb=>by simp[L1] at hb;subst hb;exact⟨by show w1.heap.size<=_;omega,by show r+1<w2.heap.size;omega⟩)
 have Ql:eW ⟨d.β++[T]++[L1],d.M,w2,d.own⟩ ⟨d.β++[L1],d.M,w2,λb=>d.own b∨b=r⟩:=by
  refine⟨rfl,λ_ _ _ h=>h,λ_ _ _=>rfl,a1.mem,?_⟩
  rintro b ((hb|rfl)|⟨L,m,hb⟩)
  .exact .inl hb
  .exact .inr ⟨T,by simp,by simp[T]⟩
  .simp only[dr,fV] at m;rcases m with m|rfl
   .exact .inr ⟨L,by simp[m],hb⟩
   .exact .inr ⟨L1,by simp,hb⟩
 refine⟨_,⟨d.β++[T]++[L1],d.M,w2,d.own⟩,_,x X.main,⟨⟨_,_,d1,e7,e4.trans e8⟩,.nil⟩,.ghost Ql (I _ (Value.func (.yield (r+1)) #[] #[]::p) ?_ hD S _ λi Sw v s4 K oa Z st4=>?_)⟩
 .refine⟨⟨λB q=>?_,L1,?_,rfl,rfl⟩,?_⟩
  .rw[dg (ba _)] at q;simp at q;subst q;rfl
  .show (d.β++[L1])[σ.length]?=_;rw[<-j.len,dg (ba _)];simp
  .exact R.mono (σ:=σ) (s:=d) (σ':=σ++[.loop N φ U]) (s':=⟨d.β++[L1],d.M,w2,λb=>d.own b∨b=r⟩) ⟨E.mem,E.box⟩ j.len
 have Xq:(b.aT { a with defers:={ target:=.collected r,args:=#[] }::a.defers } (.inRangeFunc (r+1)::kk)).finish v=b.aT { a with defers:={ target:=.collected r,args:=#[] }::a.defers } (.endRangeFunc (r+1)::kk):=by simp[Frame.finish,Frame.aT]
 refine sI (cs:=cs) (c:=b.aT { a with defers:={ target:=.collected r,args:=#[] }::a.defers } (.inRangeFunc (r+1)::kk)) Z K λs5 ZD=>?_
 rw[Xq];refine .next rfl λs6 Xr=>?_
 have ZE:=X.iO Xr;have C:=(Z.rely ZD).rely ZE;have ZF:=(st4.trans ZD.stepW).trans ZE.stepW;obtain⟨A,VK⟩:=hl i;have hLl:∃ L,s6.β[σ.length]?=aa L/\L.v=.func (.yield (r+1)) #[] #[]:=by
  obtain⟨B',L',k1,k2,k3⟩:=ZF.box σ.length (.loop N φ U) L1 (show (σ++[aW.loop N φ U])[σ.length]?=_ from List.getElem?_concat_length) (by
   show (d.β++[L1])[σ.length]?=_;rw[<-j.len,dg (ba _)];simp)
  rw[A] at k1;cases k1;exact⟨L',k2,k3⟩
 obtain⟨J,fn6,df6,p1,p2,p3,p4,p5⟩:=C.zR A hLl;obtain⟨q1,q2⟩:=C.zS (r':={ r' i with state:=.exhausted }) (B':=.dead) A p1 p2 p3 p4 p5 (.inl rfl);refine⟨_,_,_,Dz p2 VK,⟨⟨_,_,C,q1,q2⟩,ft.seen (.two (lT (bz p1) (by simp)) (lT (bz p1) (by simp)))⟩,?_⟩
 have g:=ZF.trans (q2.oA C);generalize hs7:({ s6 with w:={ s6.w with heap:=s6.w.heap.setIfInBounds (r+1) (.loop { { r' i with state:=.exhausted } with tmps:=J,fn:=fn6,defers:=df6 }) } }:St)=s7 at q1 q2 g;have h7r:s7.own r:=by rw[g.own];exact .inr rfl
 have h7d:s7.w.heap[r]?=aa (.deferred (aa [])):=by rw[g.eH r (.inr rfl)];exact Xo
 have h7M:∀ o,s7.M r o=af:=λo=>by
  rw[g.jq r (by show r<w2.heap.size;omega) (λL m=>(hD.own r (.inr rfl)).2 L m)]
  exact nM r (by omega) o
 obtain⟨t1,t2⟩:=q1.iD (r:=r) (o:=d.own) h7r (λb hb=>by rw[g.own];exact .inl hb) (λhc=>by have:=(j.own r hc).1;omega) h7M h7d
 refine .ghost t2 ?_;have H:cC σ d ((σ' i).set σ.length .dead++[.rC]) { s7 with β:=s7.β++[⟨.int .i64 r,[r]⟩],own:=d.own }:=by
  refine⟨?_,λb hb=>?_,λb o v n=>g.mem b o v n,λb hb hn o=>?_,λL m b hb=>?_,λl B L hB m=>?_,g.os,g.tape,g.output,rfl⟩
  .have:w2.heap.size<=s7.w.heap.size:=g.size;show d.w.heap.size<=s7.w.heap.size;omega
  .show s7.w.heap[b]?=_;rw[g.eH b (.inl hb)];exact ZC b (j.own b hb).1
  .show s7.M b o=_;rw[g.jq b (by show b<w2.heap.size;omega) (λL m=>?_)]
   simp only[dr,fV] at m;rcases m with m|rfl
   .exact hn L m
   .simp[L1];omega
  .simp only[dr,fV] at m;rcases m with m|rfl
   .rcases g.tK L m b hb with h1|⟨L0,h1,h2⟩
    .have h1:w2.heap.size<=b:=h1;exact .inl (by omega)
    .simp only[dr,fV] at h1;rcases h1 with h1|rfl
     .exact .inr ⟨L0,h1,h2⟩
     .simp[L1] at h2;exact .inl (by omega)
   .simp at hb;exact .inl (by omega)
  .have PE:=(bt.1 hB).1;have Im:=(bt.1 m).1;obtain⟨B',L',k1,k2,k3⟩:=g.box l B L (by rw[b7 PE];exact hB) (by show (d.β++[L1])[l]?=_;rw[b7 Im];exact m)
   refine⟨B',L',?_,?_,k3⟩
   .rw[b7 (bt.1 k1).1];exact k1
   .show (s7.β++_)[l]?=_;rw[b7 (bt.1 k2).1];exact k2
 have fF:cw N ((σ' i).set σ.length .dead++[.rC]) { s7 with β:=s7.β++[⟨.int .i64 r,[r]⟩],own:=d.own } φ { a with defers:={ target:=.collected r,args:=#[] }::a.defers }:=by
  have n:=V.mono H j.len;obtain⟨ls,L6⟩:=V.defers;refine⟨n.size,⟨((σ' i).set σ.length .dead).length::ls,⟨⟨?_,⟨.int .i64 r,[r]⟩,r,?_,rfl,rfl⟩,λhc=>?_,L6.mono H.ext⟩⟩,n.slot⟩
  .rw[dg (ba _)];simp
  .show (s7.β++_)[_]?=_;rw[<-q1.len,dg (ba _)];simp
  .have h1:=L6.yb _ hc;have h2:=(bt.1 h1).1;have h3:=(bt.1 A).1;simp at h2;omega
 obtain⟨e,q,hq⟩:=k i;have y:=hQ e φ _ _ _ hq fF t1 (hr.stepW.trans H);revert q;show Jg (r' i).pending=aa e->fG X S (G (b.aT _ (((r' i).pending.map Item.code).toList++kk)) cs) _;intro q;cases hp:(r' i).pending with
 |none=>rw[hp] at q;cases q;exact y
 |some c =>
  rw[hp] at q;cases c <;> simp only[Jg,reduceCtorEq,cV] at q
  .subst q;exact y [] (λ_=>rfl)
  .subst q;exact y kk
theorem cw.callee{t:Nat}{F:aX}{cap:List C}(hl:look φ t=.e (.one (.c (.fn (.func F) [] cap)))):∀ s a,cw N σ s φ a->aJ σ s->∃ b:List ak,a.eval (.tmp t)=.func (.func F) #[] b.toArray/\cG σ s b (iz cap):=by
 intro s a f _;have h:=f.slot t;rw[hl] at h;have h:=ga h;show ∃ b:List ak,a.tmps.getD t aj=.func (.func F) #[] b.toArray/\_;generalize a.tmps.getD t aj=v at h;cases h with
 |fn fs cs hl zk f1 f2 h1 h2 r1 r2 =>
  have d:fs=[]:=gh hl;subst d;exact⟨cs,rfl,na (λj c hj=>⟨f2 j,h2 j (by rw[zk];exact(bt.1 hj).1),r2 j c hj⟩) zk⟩
theorem dZ.DC{ι:Type}{f:aX}{fn:Func}{c:Code}{args:List D}{σ':ι->List aW}{res:ι->D}(m:P.funcs[f]?=aa fn)(d:(fn.name== "runtime.NumGoroutine")=ae)(hb:fn.body=aa c)(g:bw args.length fn.ntmps=ab)
  (h:Fits args σ->qo X fn.ntmps c (λe φ σ1=>∃ j,cn fn σ.length (res j) (σ' j) e φ σ1) (iA 0 args) σ):dZ X f args σ res σ':=by
 refine⟨⟨fn,m,d,by rw[hb];rfl⟩,λs0 vs hr hh=>?_⟩
 exact(dZ.OQ m d hb (dn g) λs a f l b k cs S o i n=>h ⟨s0,vs,hr,hh⟩ s a f l b k cs S o i n).2 s0 vs hr hh
def Xs(fn:Func)(res:D)(σ':List aW):Post:=λe φ σ1 =>
 (e=.ret∨e=.normal)/\σ1=σ'/\nj σ'=ab/\∃ ds d ps,xw φ fn.results.toList=aa ds/\rN ds=aa d/\Bf d res=aa ps/\ai ps
theorem dZ.Qm{ι:Type}{f:aX}{fn:Func}{c:Code}{args:List D}{σ':ι->List aW}{res:ι->D}(o:P.funcs[f]?=aa fn)(k:(fn.name== "runtime.NumGoroutine")=ae)(hb:fn.body=aa c)(g:bw args.length fn.ntmps=ab)
  (h:AW X fn.ntmps c (λe φ σ1=>∃ j,Xs fn (res j) (σ' j) e φ σ1) (iA 0 args) σ):dZ X f args σ res σ':=by
 refine⟨⟨fn,o,k,by rw[hb];rfl⟩,λs vs hr hh S cs hS=>?_⟩
 obtain⟨hl,J⟩:=cG.get hr
 let b:aQ:={ fn:=f,tmps:=#[],todo:=[],defers:=[],mode:=.run,kind:=.normal,roundOf:=af }
 have a:Frame.enter P f vs.toArray .normal=b.aT { tmps:=vs.toArray++Array.replicate (fn.ntmps-vs.toArray.size) aj,defers:=[] } [.code c]:=by
  simp[Frame.enter,Frame.aT,o,hb,b]
 rw[a];have g:=dn g;refine h s { tmps:=vs.toArray++Array.replicate (fn.ntmps-vs.toArray.size) aj,defers:=[] } ⟨by simp;omega,⟨[],ay⟩,λt=>?_⟩ hh b [] cs S (by simp[b]) ?_
 .rw[lS];simp only[iK,bO,lu];have:=J t;rcases cr t vs.length with p|E
  .have e:(vs.toArray++Array.replicate (fn.ntmps-vs.toArray.size) aj).getD t aj=(vs[t]?).getD aj:=by
    simp only[cT];rw[uL (by simpa using p)]
    simp
   rw[e];exact this
  .rw[eU (by omega)]
   trivial
 .rintro e y σ1 s1 a1 ⟨B,n,rfl,r,ds,d,ps,h1,h2,C,x⟩ z m st;have fin:∀ (fr:aQ) s2,cm s1 s2->fr.fn=f->fr.tmps=a1.tmps->fr.defers=a1.defers->fr.mode=.returning->fr.kind=.normal->fG X S (G fr cs) s2:=by
   intro fr s2 nN e1 e2 e3 e4 e5;have u:=z.rely nN m;obtain⟨v,A,H,F⟩:=tM (P:=P) u h1 h2;obtain⟨ls,i⟩:=u.defers;have q:a1.defers=[]:=by
    cases ls with
    |nil=>cases I:a1.defers with
     |nil=>rfl
     |cons d ds=>rw[I] at i;exact i.elim
    |cons l ls=>exact absurd rfl (lH r _ (bz (i.yb l (by simp))))
   refine hS B fr v _ ⟨e1,e4,by rw[e3];exact q,e5,fn,by rw[e1];exact o,λw _=>?_⟩ (oU C x H) (m.rely nN) (st.trans nN.stepW)
   rw[e2];exact⟨A w,λe n=>by rw[F w #[]] at n;simp at n⟩
  rcases n with rfl|rfl
  .intro pre;exact .ctl m rfl (λ_=>zn rfl) λs2 nN=>fin _ s2 nN rfl rfl (hJ _) rfl rfl
  .exact .ctl m rfl (λ_=>zo rfl) λs2 nN=>fin _ s2 nN rfl rfl (hJ _) rfl rfl
end
end Go.AM
namespace Go.AM.R1
open Go.Proofs
variable {X:Cx ah}
theorem QS(x:cM) (n:Int):Ev X 216 [XL x,.e (.one (.c (.rp [.int .i64 n])))] [] (dB (x.1==n)) []:=by
 refine Ev.body Tryz.func216 rfl rfl rfl λa=>?_
 refine bP rfl ay (AK.br rfl ?_);simp[ai]
def QT:dC:=λargs σ=>match args,σ with
 |[.e (.agg [.c (.int .i64 a0),.c (.str a1)]),.e (.one (.c (.rp [.int .i64 n])))],[]=>aa (dB (a0==n),[],[a1=a1])
 |_,_=>af
theorem t216:eb X 216 QT:=by
 intro args σ res σ' obs h c;unfold QT at h;split at h
 .rename_i b a n
  cases h;exact QS (b,a) n
 .cases h
abbrev JR(n:Int):D:=.e (.one (.c (.fn (.func 216) [] [.rp [.int .i64 n]])))
def Af(l:List cM) (n:Int):Int:=match l.findIdx? (λx=>x.1==n) with|some i=>i|none=>-1
theorem Nh{t:List cM}{n:Int}{i:Nat}(hi:i<t.length)(h:(t.getD i (0,[])).1=n)(a:∀ j,j<i->(t.getD j (0,[])).1≠n):Af t n=i:=by
 have:t.findIdx? (λf=>f.1==n)=aa i:=by
  rw[uJ];refine⟨hi,?_,λj c=>?_⟩
  .simpa[ag,aR hi] using h
  .have b:j<t.length:=by omega
   simpa[ag,aR b] using a j c
 rw[Af,this]
theorem GA{t:List cM}{n:Int}(a:∀ j,j<t.length->(t.getD j (0,[])).1≠n):Af t n=-1:=by
 have:t.findIdx? (λf=>f.1==n)=af:=by
  rw[qD];intro f c;obtain⟨j,b,rfl⟩:=dN c;simpa[ag,aR b] using a j b
 rw[Af,this]
theorem Ni(t:List cM) (n:Int):Ev X 215 [eY.sl t,JR n] [] (dI (Af t n)) []:=by
 refine Ev.body Tryz.func215 rfl rfl rfl λf=>?_
 have e:=f.sl 0 rfl;have b:b5 X [(216,QT)]:=.cons t216 .nil;refine aE b [] 100 rfl ay ?_;refine AK.j4 (λi=>i<=t.length/\∀ j,j<i->(t.getD j (0,[])).1≠n) (λi:Nat=>[(0,eY.sl t),(1,JR n),(7,dI t.length),(8,dI i)]) (λ_=>[]) (λi=>t.length-i) 0 rfl ?_ rfl ay ⟨by omega,by omega⟩ ?_
 .simp[ai.cat,ai,a9.same]
 rintro i ⟨hi,a⟩
 by_cases h:i<t.length
 .by_cases d:(t.getD i (0,[])).1=n
  .refine aE b [(9,ab),(16,ab)] 100 rfl ?_ (AK.iq (cn.zero rfl ?_))
   .simp only[ai,bu];exact⟨ay,fJ.2 d,by omega,by omega,b9 (by omega)⟩
   .simp[ai,Nh h d a]
  .refine aE b [(9,ab),(16,ae)] 100 rfl ?_ (AK.gw (i+1) rfl ?_ rfl ay ?_ ?_)
   .simp only[ai,bu];exact⟨by simp only[bD];omega,ay,dx.2 d,by omega,by omega,b9 (by omega)⟩
   .simp[ai.cat,ai,a9.same]
   .refine⟨by omega,λj c=>?_⟩
    rcases fU.1 c with c|rfl
    .exact a j c
    .exact d
   .omega
 .refine aE b [(9,ae)] 100 rfl (by simp[ai];omega) (AK.leave rfl rfl ?_)
  refine aE b [] 100 rfl ay (AK.br rfl ?_);simp[ai,GA (λj c=>a j (by omega))]
def QU:dC:=λargs σ=>match args,σ with
 |[d,.e (.one (.c (.fn (.func 216) [] [.rp [.int .i64 n]])))],[]=>match lg 2 d with
  |none=>af
  |some (m,es)=>aa (dI (Af (eY.list m es) n),[],[eY.fits m es])
 |_,_=>af
theorem t215:eb X 215 QU:=by
 intro args σ res σ' obs h a;unfold QU at h;split at h
 .rename_i d n
  split at h
  .cases h
  rename_i m es hd
  cases h;exact(Ni _ n).args (λ_ vs=>cG.imp (λ_=>eY.ko hd a) (cG.imp (λ_ r=>r) (λ_ r=>r)) vs)
 .cases h
theorem DW(t:List cM) (n:Int):(Af t n=-1/\t.find? (λx=>x.1==n)=af)∨∃ i:Nat,i<t.length/\Af t n=i/\t.find? (λx=>x.1==n)=aa (t.getD i (0,[])):=by
 unfold Af;cases h:t.findIdx? (λx=>x.1==n) with
 |none =>
  refine .inl ⟨rfl,?_⟩;rw[qD] at h;exact uT.2 λx b=>by simp[h x b]
 |some i =>
  rw[uJ] at h;obtain⟨hi,d,a⟩:=h;refine .inr ⟨i,hi,rfl,?_⟩;rw[List.find?_eq_some_iff_getElem];refine⟨?_,i,hi,?_,λj c=>?_⟩
  .simpa[ag,aR hi] using d
  .simp[ag,aR hi]
  .have:=a j c;simpa using this
theorem DX(a:eb X 165 pe) (k:Int)(p:bC) (n:Int)(g:cD k=ab):Ev X 186 [dI k,GB p,dI n] [] (Ae (dL k p n)) []:=by
 refine Ev.body Tryz.func186 rfl rfl rfl λh=>?_
 have f:b5 X [(215,QU),(110,qb SE aI (λx k=>Ae (chunk k x)) λ_ k=>[cD k=ab])]:=.cons t215 (.cons (JQ a) .nil)
 have d:eY.list p.2.length (eY.fn p.2)=p.2:=eY.list_fn _;refine bd [] 7 rfl ay ?_;refine AK.freeze 5 1 rfl rfl rfl ?_;rcases DW p.2 n with⟨b,c⟩|⟨i,hi,b,c⟩
 .refine aE f [(14,ab)] 100 rfl ?_ (AK.br rfl ?_)
  .simp only[ai,d,b];exact⟨rfl,eY.aH _⟩
  .simp[ai.cat,ai,dL,c]
 .refine aE f [(14,ae)] 100 rfl ?_ (AK.br rfl ?_)
  .simp only[ai,d,b];exact⟨g,by omega,by omega,cJ (by omega),eY.aH _⟩
  .have e:dL k p n=chunk k (p.2.getD i (0,[])):=by simp only[dL,c]
   rw[e,d,b];simp only[bu];exact ai.cat.2 ⟨rfl,ai.cat.2 ⟨rfl,ay⟩⟩
theorem QV(a:eb X 165 pe):eb X 186 (C5 aI (JS eY) aI (λk p n=>Ae (dL k p n)) λk _ _=>[cD k=ab]):=.H0 λk p n h=>DX a k p n h
end Go.AM.R1
namespace Go.AM
open Go.Conc
def gC (s:St):Prop:=∀ b o v,s.M b o=aa v->s.w.cell? ⟨b,o,af⟩=aa v
def lQ (c:Nat->Prop):Go.Loc->Prop
  | .cell a=>c a.block
  | .obj r=>c r
  | _=>False
structure Clear (c:Nat->Prop) (s:St):Prop where
  own:∀ b,c b->¬s.own b
  β:∀ b,c b->∀ L∈s.β,b∉L.bs
  M:∀ b,c b->∀ o,s.M b o=af
  lt:∀ b,c b->b<s.w.heap.size
section
variable {c:Nat->Prop} {s s':St}
theorem Clear.step {σ σ':List aW} (h:Clear c s) (st:Step σ s σ' s'):Clear c s':=by
  refine⟨λb hb=>by rw[st.own];exact h.own b hb,λb hb L e a=>?_,λb hb o=>by rw[st.jq b (h.lt b hb) (h.β b hb)];exact h.M b hb o,λb hb=>cz (h.lt b hb) st.size⟩
  rcases st.tK L e b a with h1|⟨d,f,h1⟩
  · exact absurd (h.lt b hb) (mq.2 h1)
  · exact h.β b hb d f h1
theorem Clear.ghost (h:Clear c s) (k:eW s s'):Clear c s':=by
  have hn:∀ b,c b->¬(s'.own b∨∃ L∈s'.β,b∈L.bs):=λb hb e=>by
    rcases k.blk b e with e|⟨L,a,e⟩
    · exact h.own b hb e
    · exact h.β b hb L a e
  exact⟨λb hb e=>hn b hb (.inl e),λb hb L a e=>hn b hb (.inr ⟨L,a,e⟩),λb hb o=>by rw[k.jq b (h.β b hb)];exact h.M b hb o,λb hb=>by rw[k.w];exact h.lt b hb⟩
theorem Clear.forget (h:Clear c s) (k:mU s s'):Clear c s':=by
  refine⟨λb hb=>by rw[k.own];exact h.own b hb,λb hb=>by rw[k.β];exact h.β b hb,λb hb o=>?_,λb hb=>by rw[k.w];exact h.lt b hb⟩
  cases e:s'.M b o with
  | none=>rfl
  | some v=>rw[<-k.less b o v e,h.M b hb o]
theorem Clear.at (h:Clear c s) (d:Nat):Clear c { s with w:=s.w.at d }:=⟨h.own,h.β,h.M,h.lt⟩
theorem gC.at (h:gC s) (d:Nat):gC { s with w:=s.w.at d }:=h
theorem gC.ghost (k:eW s s'):gC s':=λb o v a=>by rw[k.w];exact k.cell b o v a
theorem gC.forget (h:gC s) (k:mU s s'):gC s':=λb o v a=>by rw[k.w];exact h b o v (k.less b o v a)
theorem gC.lt (h:gC s) {b o:Nat} {v:ak} (a:s.M b o=aa v):b<s.w.heap.size:=by
  have:=h b o v a;rcases cr b s.w.heap.size with h1|h1
  · exact h1
  · simp[aY,uO h1] at this
theorem cm.at (h:gC s) (d:Nat):cm s { s with w:=s.w.at d }:=⟨rfl,rfl,rfl,ba _,λ_ _=>rfl,h,rfl,rfl,rfl⟩
theorem Px {σ:List aW} {e:Event} (l:aJ σ s) (n:Clear c s) (h:oG s e) {B:Nat} (o:s.w.heap.size<=B):EvL (lQ c) B e:=by
  obtain⟨k,wr,q⟩:=e;cases k with
  | cell a =>
    obtain⟨i,j,b⟩:=h;simp only at i j b;subst i;have key:¬c a.block/\a.block<s.w.heap.size:=by
      rcases b with b|⟨⟨L,g,b⟩,_⟩|⟨_,v,b⟩
      · exact b.elim
      · exact⟨λx=>n.β _ x L g b,l.lt L g _ b⟩
      · refine⟨λx=>?_,gC.lt l.mem b⟩
        rw[n.M _ x] at b;cases b
    exact evL_cell a wr key.1 (cz key.2 o)
  | obj r =>
    obtain⟨i,j⟩:=h;simp only at i j;subst i;obtain⟨L,g,b⟩:=j.resolve_left id;refine⟨λx d p=>?_,by simp,by simp,?_⟩
    · simp[aM,MemAct.touch?] at d
      subst d;exact absurd b (n.β _ p L g)
    · simp[aM,MemAct.low,Loc.low]
      exact cz (l.lt L g _ b) o
  | mark m =>
    simp only[oG] at h;rcases h with rfl|⟨f,rfl⟩
    · exact⟨λx d=>by simp[aM,MemAct.touch?] at d,by simp,by simp,by simp[aM,MemAct.low]⟩
    · exact⟨λx d=>by simp[aM,MemAct.touch?] at d,by simp,by simp,by simp[aM,MemAct.low]⟩
  | _=>exact h.elim
end
def rG (t:Trace):Prop:=∀ a,NoRelease a t
theorem rG.app {t:Trace} (h:rG t) {g:Nat} {fn:aX} {pos:String} {es:Array Event} (b:∀ e∈es,∀ a,e.loc≠.mark (.release a)):rG (t++MemOp.ofEvents g fn pos es) :=
  λa=>(h a).app λop gT hx=>by
    obtain⟨e,h1,rfl⟩:=Go.Conc.mem_ofEvents gT;exact b e h1 a (Go.ConcR.loc_of_ofEvent hx)
theorem Da {s:St} {e:Event} (d:oG s e) (a:Addr):e.loc≠.mark (.release a):=by
  intro b;obtain⟨loc,wr,g⟩:=e;simp only at b;subst b;rcases d with h|⟨f,h⟩ <;> cases h
theorem vr {e:Event} (d:e.mute=ab) (a:Addr):e.loc≠.mark (.release a):=by
  intro b;obtain⟨loc,wr,f⟩:=e;simp only at b;subst b;simp[Event.mute] at d
def SP (P:an) (g:au) (s:St) (T:au->St->Prop):Prop :=
  ∀ (c:Nat->Prop) (f:Array au) (sl:Option (Nat×Nat)) (t:Trace) (q:Nat->Nat),gC s->f[0]?=aa g->Leavers P t f q->Past (lQ c) s.w.heap.size t->Clear c s->rG t ->
    ∃ (N:Nat) (b:Nat->Prop) (a:Array au) (g':au) (s':St) (e:Option (Nat×Nat)) (d:Trace) (h:Nat->Nat),
      runNT P N (crowd f s.w sl) t=(.next (crowd a s'.w e),d)/\gC s'/\a[0]?=aa g'/\Leavers P d a h/\Past (lQ b) s'.w.heap.size d/\Clear b s'/\rG d/\T g' s'
def Cx.beside (P:an):Cx P:={ main:=ab,rely:=λs s'=>cm s s'/\∃ d,s'={ s with w:=s.w.at d },xq:=SP P,iO:=λh=>h.1,A4:=True }
instance (P:an):(Cx.beside P).jN:=⟨ay⟩
theorem runNT_add {P:an}:∀ (N M:Nat) {m a:Machine} {t b:Trace},runNT P N m t=(.next a,b)->runNT P (N+M) m t=runNT P M a b
  | 0,M,m,a,t,b,h=>by simp[runNT] at h;obtain⟨rfl,rfl⟩:=h;simp
  | N+1,M,m,a,t,b,h=>by
    rw[show N+1+M=(N+M)+1 by omega]
    simp only[runNT] at h ⊢;cases d:stepT P m with
    | mk r ops =>
      rw[d] at h;cases r with
      | next m1=>exact runNT_add N M h
      | ended o w=>simp at h
theorem fG.beside {P:an} {S:au->St->Prop} {g:au} {s:St} (h:fG (Cx.beside P) S g s):SP P g s S:=by
  induction h with
  | stop h=>intro c b sl t q B r o u v hn;exact⟨0,c,b,_,_,sl,t,q,rfl,B,r,o,u,v,hn,h⟩
  | ghost hg _ O =>
    intro c b sl t q B r o u v hn;have:=O c b sl t q (.ghost hg) r o (by rw[hg.w];exact u) (v.ghost hg) hn
    rwa [hg.w] at this
  | forget _ hg _ O =>
    intro c b sl t q B r o u v hn;have:=O c b sl t q (B.forget hg) r o (by rw[hg.w];exact u) (v.forget hg) hn
    rwa [hg.w] at this
  | xq hj _ O =>
    intro c b sl t q B r o u v hn;obtain⟨N,m,f,g',s',l,E,K,h1,h2,h3,h4,h5,h6,h6n,h7⟩:=hj c b sl t q B r o u v hn;obtain⟨M,Sh2,gs2,g2,s2,sl2,t2,q2,k1,Y⟩:=O g' s' h7 m f l E K h2 h3 h4 h5 h6 h6n;exact⟨N+M,Sh2,gs2,g2,s2,sl2,t2,q2,by rw[runNT_add N M h1];exact k1,Y⟩
  | @step g s ng ns ne hr h1 h2 _ O =>
    intro c b sl t q;have key:∀ (n:Nat) (b:Array au) (d:Nat) (sl:Option (Nat×Nat)) (t:Trace) (q:Nat->Nat),Go.ConcN.sumTo b.size q<=n->gC s->b[0]?=aa g->Leavers P t b q->Past (lQ c) s.w.heap.size t->Clear c s->rG t ->
        ∃ (N:Nat) (m:Nat->Prop) (f:Array au) (g':au) (s':St) (l:Option (Nat×Nat)) (E:Trace) (K:Nat->Nat),
          runNT P N (crowd b (s.w.at d) sl) t=(.next (crowd f s'.w l),E)/\gC s'/\f[0]?=aa g'/\Leavers P E f K/\Past (lQ m) s'.w.heap.size E/\Clear m s'/\rG E/\S g' s':=by
      intro n
      induction n with
      | zero=>?_
      | succ n ihn=>?_
      all_goals
        intro b d sl t q hn B r o u v H;have haw:∀ g∈b,awake g:=by
          intro x hx;obtain⟨i,hi,rfl⟩:=Array.mem_iff_getElem.1 hx;rcases jF i with rfl|D
          · have:b[0]=g:=by simpa[dm hi] using r
            rw[this];exact awake_of (.inl hr)
          · exact awake_of ((o.old i _ D (dm hi)).status.elim .inl λx=>.inr (.inr x))
        obtain⟨i,x,d2,l,hi,hg,I⟩:=crowd_pick (P:=P) (w:=s.w.at d) (sl:=sl) haw ⟨0,g,r,hr⟩;rw[show (s.w.at d).at d2=s.w.at d2 from rfl] at I
        rcases jF i with rfl|D
        · obtain rfl:x=g:=by rw[r] at hi;exact(lM hi).symm
          have C:(Cx.beside P).rely s { s with w:=s.w.at d2 }:=⟨cm.at B d2,d2,rfl⟩;have hgo:=h1 _ C;obtain⟨⟨σ,σ',hh,lG,st⟩,X⟩:=h2 _ C;have p:=runT_crowd_go (P:=P) (sl:=l) (i:=0) hi (show aK P (0==0) x (s.w.at d2)=_ from hgo)
          have V:((b.map (woken P x (ng { s with w:=s.w.at d2 }) (ns { s with w:=s.w.at d2 }).w)).setIfInBounds 0 (ng { s with w:=s.w.at d2 })).size=b.size:=by simp
          have G:0<b.size:=(gE.1 r).1;have R:Clear c { s with w:=s.w.at d2 }:=v.at d2;obtain⟨N,m,f,g',s',A,E,K,k1,Y⟩:=O _ C c ((b.map (woken P x (ng { s with w:=s.w.at d2 }) (ns { s with w:=s.w.at d2 }).w)).setIfInBounds 0 (ng { s with w:=s.w.at d2 })) l
            (t++MemOp.ofEvents 0 x.frame.fn x.frame.place (ne { s with w:=s.w.at d2 })) q lG.mem (by simp[G])
            ⟨λj y hj hy=>by
              have J:0≠j:=by omega
              rw[kX J,Array.getElem?_map] at hy;obtain⟨z,hz,rfl⟩:=nS.1 hy;have L:=o.old j z hj hz;rw[woken_quitsD L,Deaf_other t (by omega) _ (λop gT=>by obtain⟨e,_,rfl⟩:=Go.Conc.mem_ofEvents gT;rfl)]
              exact L,λj hj=>by
              rw[Deaf_other t (g':=0) (by simp at hj;omega) _ (λop gT=>by obtain⟨e,_,rfl⟩:=Go.Conc.mem_ofEvents gT;rfl)]
              exact o.above j (by simpa using hj)⟩
            ((u.mono st.size).own λe W=>Px hh R (X e W) st.size) (R.step st) (H.app λe W a=>Da (X e W) a)
          exact⟨N+1,m,f,g',s',A,E,K,by simp only[runNT,I,p];exact k1,Y⟩
        · have L:=o.old i x D hi
          have Wa:(i==0)=ae:=by simp;omega
          have G:i<b.size:=(gE.1 hi).1;cases Q:q i with
          | zero=>rw[Q] at L;rw[L.1] at hg;cases hg
          | succ k =>
            rw[Q] at L;rcases L with⟨hf,_⟩|⟨_,g',es,U,Z,hq'⟩
            · rw[hf] at hg;cases hg
            have aaD:Go.ConcN.sumTo b.size (Go.ConcN.upd q i k)+(k+1)=Go.ConcN.sumTo b.size q+k:=by
              have:=Go.ConcN.sumTo_upd q k id G;simpa[Q] using this
            first
            | (exfalso;omega)
            | (have p:=runT_crowd_go (P:=P) (sl:=l) (i:=i) hi (by rw[Wa];exact Z (s.w.at d2))
               have V:((b.map (woken P x g' (s.w.at d2))).setIfInBounds i g').size=b.size:=by simp
               obtain⟨N,m,f,g2,s',A,E,K,k1,Y⟩:=ihn ((b.map (woken P x g' (s.w.at d2))).setIfInBounds i g') d2 l (t++MemOp.ofEvents i x.frame.fn x.frame.place es) (Go.ConcN.upd q i k) (by rw[V];omega) B
                (by
                  have J:i≠0:=by omega
                  rw[kX J,Array.getElem?_map,r];simp[woken_run hr])
                ⟨λj y hj hy=>by
                  by_cases F:i=j
                  · subst F
                    rw[mO (by simpa using G)] at hy
                    obtain rfl:=lM hy;rw[Go.ConcN.upd_same,Deaf_own];exact hq'
                  · rw[kX F,Array.getElem?_map] at hy
                    obtain⟨z,hz,rfl⟩:=nS.1 hy;have T:=o.old j z hj hz;rw[woken_quitsD T,Go.ConcN.upd_ne q k (iL F),Deaf_other t F _ (λop gT=>by obtain⟨e,_,rfl⟩:=Go.Conc.mem_ofEvents gT;rfl)]
                    exact T,λj hj=>by
                  rw[Deaf_other t (g':=i) (by simp at hj;omega) _ (λop gT=>by obtain⟨e,_,rfl⟩:=Go.Conc.mem_ofEvents gT;rfl)]
                  exact o.above j (by simpa using hj)⟩
                (u.mute (by omega) U) v (H.app λe W a=>vr (U e W) a)
               exact⟨N+1,m,f,g2,s',A,E,K,by simp only[runNT,I,p];exact k1,Y⟩)
    intro B r o u v H;have:=key _ b s.w.drawn sl t q (ba _) B r o u v H
    rwa [show s.w.at s.w.drawn=s.w from rfl] at this
inductive Rk where
 |leaf
 |node (f:St->Rk)
def Rk.lt:Rk->Rk->Prop
 |_,.leaf=>False
 |x,.node f=>∃ s,x=f s∨Rk.lt x (f s)
theorem Rk.acc:∀ r:Rk,Acc Rk.lt r
 |.leaf=>⟨_,λ_ h=>h.elim⟩
 |.node f=>⟨_,λ_ ⟨s,e⟩=>e.elim (λe=>e▸Rk.acc (f s)) λh=>(Rk.acc (f s)).inv h⟩
def Rk.nat:Nat->Rk
 |0=>.leaf
 |n+1=>.node λ_=>Rk.nat n
theorem Rk.Dt(n:Nat)(s:St):Rk.lt (Rk.nat n) (Rk.nat (n+1)):=⟨s,.inl rfl⟩
def Vec(j:Nat)(a D:Nat->Rk):Prop:=∃ i,i<j/\Rk.lt (a i) (D i)/\∀ k,k≠i->a k=D k
theorem IZ:∀ j,WellFounded (Vec j)
 |0=>⟨λ_=>⟨_,λ_ ⟨i,h,_⟩=>absurd h (jm i)⟩⟩
 |j+1=>by
  have m:=IZ j;have key:∀ a:Rk,∀ D:Nat->Rk,D j=a->Acc (Vec (j+1)) D:=by
   intro a
   induction Rk.acc a with
   |intro a _ e =>
    intro D
    induction m.apply D with
    |intro D _ d =>
     intro f;refine⟨_,λk h=>?_⟩
     obtain⟨i,hi,b,l⟩:=h;rcases cr i j with g|g
     .exact d k ⟨i,g,b,l⟩ (by rw[l j (by omega),f])
     .obtain rfl:i=j:=by omega
      exact e _ (f▸b) k rfl
  exact⟨λD=>key _ D rfl⟩
section
variable {P:an}
def kn(X:Cx P)(E:St->St->Array Event->Prop)(S:au->St->Prop):Rk->au->St->Prop
 |.leaf,g,s=>S g s
 |.node f,g,s=>S g s∨(∃ s',(eW s s'∨(X.A4/\mU s s'))/\kn X E S (f s) g s') ∨
   (g.status=.running/\∀ a,X.rely s a->∃ g' s' es,aK P X.main g a.w=.go g' s'.w es/\(qG a s' es∨E a s' es)/\kn X E S (f a) g' s')
variable {X:Cx P}{E:St->St->Array Event->Prop}{S c:au->St->Prop}
def eg(X:Cx P)(E:St->St->Array Event->Prop)(S:au->St->Prop)(g:au)(s:St):Prop:=∃ r,kn X E S r g s
theorem eg.ghost{g:au}{s s':St}(h:eW s s')(k:eg X E S g s'):eg X E S g s:=by
 obtain⟨r,k⟩:=k;exact⟨.node λ_=>r,.inr (.inl ⟨s',.inl h,k⟩)⟩
theorem eg.forget{g:au}{s s':St}(hl:X.A4)(h:mU s s')(k:eg X E S g s'):eg X E S g s:=by
 obtain⟨r,k⟩:=k;exact⟨.node λ_=>r,.inr (.inl ⟨s',.inr ⟨hl,h⟩,k⟩)⟩
theorem eg.step{g:au}{s:St}(d:g.status=.running)(h:∀ a,X.rely s a->∃ g' s' es,aK P X.main g a.w=.go g' s'.w es/\(qG a s' es∨E a s' es)/\eg X E S g' s'):eg X E S g s:=by
 classical
 have hh:∀ a,∃ r:Rk,X.rely s a->∃ g' s' es,aK P X.main g a.w=.go g' s'.w es/\(qG a s' es∨E a s' es)/\kn X E S r g' s':=by
  intro a
  by_cases b:X.rely s a
  .obtain⟨g',s',es,h1,h2,r,e⟩:=h a b;exact⟨r,λ_=>⟨g',s',es,h1,h2,e⟩⟩
  .exact⟨.leaf,λh=>absurd h b⟩
 exact⟨.node λa=>Classical.choose (hh a),.inr (.inr ⟨d,λa b=>rb (hh a) b⟩)⟩
theorem eg.bind{g:au}{s:St}(h:eg X E S g s)(k:∀ g s,S g s->eg X E c g s):eg X E c g s:=by
 obtain⟨r,h⟩:=h
 induction r generalizing g s with
 |leaf=>exact k g s h
 |node f a =>
  rcases h with h|⟨s',h1,h2⟩|⟨d,h⟩
  .exact k g s h
  .rcases h1 with h1|⟨hl,h1⟩
   .exact .ghost h1 (a _ h2)
   .exact .forget hl h1 (a _ h2)
  .exact .step d λi e=>by
    obtain⟨g',s',es,h1,h2,b⟩:=h i e;exact⟨g',s',es,h1,h2,a _ b⟩
theorem fG.toE{g:au}{s:St}(hj:∀ g s T,¬X.xq g s T)(h:fG X S g s):eg X E S g s:=by
 induction h with
 |stop h=>exact⟨.leaf,h⟩
 |step ng ns ne hr h1 h2 _ a=>exact .step hr λb d=>⟨_,_,_,h1 b d,.inl (h2 b d),a b d⟩
 |ghost hg _ a=>exact .ghost hg a
 |forget hl hg _ a=>exact .forget hl hg a
 |xq hjj _ _=>exact absurd hjj (hj _ _ _)
theorem kn.norm(I:St->Prop)(m:∀ s s',eW s s'->I s->I s')(l:X.A4->∀ s s',mU s s'->I s->I s'):∀ {r:Rk}{g:au}{s:St},kn X E S r g s->I s ->
  (∃ s',I s'/\S g s')∨(g.status=.running/\∃ s',I s'/\∀ a,X.rely s' a->∃ g' s2 es r',aK P X.main g a.w=.go g' s2.w es/\(qG a s2 es∨E a s2 es)/\kn X E S r' g' s2/\Rk.lt r' r)
 |.leaf,_,s,h,hi=>.inl ⟨s,hi,h⟩
 |.node f,g,s,h,hi=>by
  rcases h with h|⟨s',h1,h2⟩|⟨q,h⟩
  .exact .inl ⟨s,hi,h⟩
  .have i:I s':=h1.elim (λx=>m s s' x hi) λx=>l x.1 s s' x.2 hi
   rcases kn.norm I m l h2 i with e|⟨e,s2,n,p⟩
   .exact .inl e
   .refine .inr ⟨e,s2,n,λa k=>?_⟩
    obtain⟨g',j,es,r',k1,d,b,o⟩:=p a k;exact⟨g',j,es,r',k1,d,b,s,.inr o⟩
  .refine .inr ⟨q,s,hi,λa k=>?_⟩
   obtain⟨g',j,es,k1,d,b⟩:=h a k;exact⟨g',j,es,f a,k1,d,b,a,.inl rfl⟩
theorem eg.goes{R:az->az->Prop}{D:az->az->Array Event->Prop}{Stop:au->az->Prop}(I:St->Prop)(l:∀ s a,I s->X.rely s a->I a)(e:∀ s a,I s->X.rely s a->R s.w a.w)
  (j:∀ s es,I s->∀ w',D s.w w' es->w'=s.w/\(qG s s es∨E s s es)) (i:∀ s,I s->X.rely s s) (k:∀ g s,I s->Stop g s.w->eg X E S g s) :
  ∀ (n:Nat) (g:au) (s:St),I s->Goes P X.main R D Stop n g s.w->eg X E S g s
 |0,g,s,hi,h=>k g s hi (h s.w (e s s hi (i s hi)))
 |n+1,g,s,hi,h=>by
  rcases h with h|⟨p,h⟩
  .exact k g s hi (h s.w (e s s hi (i s hi)))
  .refine .step p λa m=>?_
   have h1:=h a.w (e s a hi m);have b:=l s a hi m;cases d:aK P X.main g a.w with
   |go g' w' es =>
    rw[d,goes_go] at h1;obtain⟨o,q⟩:=h1;obtain⟨rfl,f⟩:=j a es b w' o;exact⟨g',a,es,rfl,f,eg.goes I l e j i k n g' a b q⟩
   |_=>rw[d] at h1;exact h1.elim
end
theorem cm.ghost{s s':St}{w:az}(h:cm s { s with w:=w })(k:eW s s'):cm s' { s' with w:=w }:=by
 refine⟨rfl,rfl,rfl,by rw[k.w];exact h.size,λb hb=>by rw[k.w];exact h.eH b (k.blk b hb),λb o v e=>?_,by rw[k.w];exact h.os,by rw[k.w];exact h.tape,by rw[k.w];exact h.output⟩
 have d:=k.cell b o v e
 by_cases hb:∃ L∈s.β,b∈L.bs
 .have:=h.eH b (.inr hb);simp only[aY] at d ⊢;simp only at this;rw[this];exact d
 .have:s.M b o=aa v:=by
   rw[<-k.jq b (λL f a=>hb ⟨L,f,a⟩)];exact e
  exact h.mem b o v this
theorem cm.forget{s s':St}{w:az}(h:cm s { s with w:=w })(k:mU s s'):cm s' { s' with w:=w } :=
 ⟨rfl,rfl,rfl,by rw[k.w];exact h.size,λb hb=>by rw[k.w];exact h.eH b (by rw[<-k.own,<-k.β];exact hb),λb o v a=>h.mem b o v (k.less b o v a),by rw[k.w];exact h.os,by rw[k.w];exact h.tape,by rw[k.w];exact h.output⟩
theorem cm.vW{s:St}(h:gC s):cm s s:=⟨rfl,rfl,rfl,ba _,λ_ _=>rfl,h,rfl,rfl,rfl⟩
theorem cm.trans'{s:St}{w:az}(h:cm s { s with w:=w }):cm { s with w:=w } { s with w:=w }:=cm.vW h.mem
theorem cm.trans{s a s2:St}(h:cm s a)(k:cm a s2):cm s s2 :=
 ⟨k.β.trans h.β,k.M.trans h.M,k.own.trans h.own,eG h.size k.size,λb hb=>by rw[k.eH b (by rw[h.own,h.β];exact hb),h.eH b hb],λb o v d=>k.mem b o v (by rw[h.M];exact d),k.os.trans h.os,k.tape.trans h.tape,k.output.trans h.output⟩
end Go.AM
namespace Go.AM
open Go.Conc
open Go.ConcN (fork_knows RelBy)
open Go.ConcR (stA smA)
def lV:Go.Loc->Option Nat
 |.cell a=>aa a.block
 |.obj r=>aa r
 |_=>af
theorem Bp{l:Go.Loc}(h:l.isMemory=ab):∃ b,lV l=aa b:=by
 cases l <;> simp[Go.Loc.isMemory] at h <;> exact⟨_,rfl⟩
theorem Gf{x:MemAct}{a:Touch}{B b:Nat}(h:x.touch?=aa a)(g:x.low B)(c:lV a.loc=aa b):b<B:=by
 cases x with
 |access e =>
  simp[MemAct.touch?] at h;subst h;simp only at c;obtain⟨loc,wr,i⟩:=e;cases loc <;> simp[lV] at c <;> subst c <;> exact g
 |mark m =>
  cases m <;> simp[MemAct.touch?] at h <;> subst h <;> simp[lV] at c <;> subst c <;> exact g
 |_=>simp[MemAct.touch?] at h
structure Lay where
 Sh:Nat->Prop
 T0:Nat
 Wg:Nat
 C:Nat
 base:Nat
 kc:Nat
def rY(Y:Lay)(d:Nat->Nat)(a:Touch):Prop :=
 (∃ ad,a.loc=.cell ad/\ad.block=Y.Wg/\a.kind≠.plain)∨(∃ b,lV a.loc=aa b/\d b=0/\b≠Y.Wg/\b≠Y.C/\¬Y.Sh b/\a.kind=.plain)
def qw(Y:Lay)(d:Nat->Nat)(f:Mem)(x:Nat)(a:Touch):Prop :=
 (∃ ad,a.loc=.cell ad/\ad.block=Y.Wg/\a.kind=.atomic) ∨
 (a.kind=.plain/\((∃ b,lV a.loc=aa b/\d b=Y.base+x)∨(∃ o,a.loc=.cell ⟨Y.C,o,af⟩/\Y.kc*x<=o/\o<Y.kc*x+Y.kc)∨(a.write=ae/\∃ b o v,a.loc=.cell ⟨b,o,af⟩/\f b o=aa v)))
structure TL (Y:Lay)(d:Nat->Nat)(f:Nat->Mem)(t:Trace)(j B:Nat):Prop where
 base:1<=Y.base
 HV:d Y.Wg=0
 hC:d Y.C=0
 ne:Y.C≠Y.Wg
 OJ:¬Y.Sh Y.Wg
 P8:¬Y.Sh Y.C
 HW:∀ b,Y.Sh b->d b=0
 ms:∀ x,x<j->∀ b o v,f x b o=aa v->d b=0/\b≠Y.C/\b≠Y.Wg/\¬Y.Sh b
 T0:Y.T0<=t.size
 nr:∀ said,¬Race said t
 seen:∀ op∈t,op.act.low B
 old:∀ i a,i<Y.T0->touchAt t i=aa a->a.loc.isMemory=ab->Knows t 0 i∨(lQ Y.Sh a.loc/\a.kind=.atomic)
 P9:∀ x,x<j->∀ i a,i<Y.T0->touchAt t i=aa a->a.loc.isMemory=ab->Knows t (Y.base+x) i∨(lQ Y.Sh a.loc/\a.kind=.atomic)
 Gg:∀ i a b,i<Y.T0->touchAt t i=aa a->lV a.loc=aa b->d b=0
 new:∀ i a,Y.T0<=i->touchAt t i=aa a->a.loc.isMemory=ab->(t.g? i=aa 0/\rY Y d a)∨(∃ x,x<j/\t.g? i=aa (Y.base+x)/\qw Y d (f x) x a)
 mw:∀ x,x<j->∀ i a,Y.T0<=i->touchAt t i=aa a->t.g? i=aa 0->a.write=ab->∀ b o v,a.loc=.cell ⟨b,o,af⟩->f x b o=aa v->Knows t (Y.base+x) i
 over:∀ i g,i<Y.T0->t.g? i=aa g->g≠0->t.counts i->∃ k,t.g? k=aa 0/\HappensBefore t i k
section
variable {Y:Lay}{d hm':Nat->Nat}{f:Nat->Mem}{t u:Trace}{j B B':Nat}
theorem vg{i:Nat}{a:Touch}{g:Nat}(h:touchAt t i=aa a)(c:t.g? i=aa g):Knows t g i:=by
 obtain⟨x,b,_⟩:=touch_of h;have:x.g=g:=by simpa[Trace.g?,b] using c
 rw[<-this];exact knows_own b
theorem TL.low(h:TL Y d f t j B){i:Nat}{a:Touch}{b:Nat}(e:touchAt t i=aa a)(hb:lV a.loc=aa b):b<B:=by
 obtain⟨x,g,c⟩:=touch_of e;exact Gf c (h.seen x (pA g)) hb
theorem TL.sV(h:TL Y d f t j B)(hh:∀ b,b<B->hm' b=d b)(q:B<=B')(r:Y.Wg<B)(hC:Y.C<B)(p:∀ b,Y.Sh b->b<B)(s:∀ x,x<j->∀ b o v,f x b o=aa v->b<B):TL Y hm' f t j B':=by
 have g:∀ i a,touchAt t i=aa a->rY Y d a->rY Y hm' a:=λi a c h1=>by
  rcases h1 with h1|⟨b,h1,h2,k⟩
  .exact .inl h1
  .exact .inr ⟨b,h1,by rw[hh b (h.low c h1)];exact h2,k⟩
 have e:∀ x i a,touchAt t i=aa a->qw Y d (f x) x a->qw Y hm' (f x) x a:=λx i a c h1=>by
  rcases h1 with h1|⟨l,⟨b,h1,h2⟩|h1⟩
  .exact .inl h1
  .exact .inr ⟨l,.inl ⟨b,h1,by rw[hh b (h.low c h1)];exact h2⟩⟩
  .exact .inr ⟨l,.inr h1⟩
 refine⟨h.base,by rw[hh _ r];exact h.HV,by rw[hh _ hC];exact h.hC,h.ne,h.OJ,h.P8,λb hb=>by rw[hh b (p b hb)];exact h.HW b hb,λx m b o v n=>by rw[hh b (s x m b o v n)];exact h.ms x m b o v n,
  h.T0,h.nr,λop gT=>MemAct.low_mono q (h.seen op gT),h.old,h.P9,λi a b hi c hb=>by rw[hh b (h.low c hb)];exact h.Gg i a b hi c hb,λi a hi c d=>?_,h.mw,h.over⟩
 rcases h.new i a hi c d with⟨h1,h2⟩|⟨x,h1,h2,k⟩
 .exact .inl ⟨h1,g i a c h2⟩
 .exact .inr ⟨x,h1,h2,e x i a c k⟩
theorem TL.MP(h:TL Y d f t j B):Y.T0<=(t++u).size:=eG h.T0 (by simp)
theorem kE{i:Nat}(h:i<t.size):(t++u).g? i=t.g? i:=by simp[Trace.g?,getElem?_append_old h]
theorem TL.rZ(h:TL Y d f t j B)(u:Trace):∀ i g,i<Y.T0->(t++u).g? i=aa g->g≠0->(t++u).counts i->∃ k,(t++u).g? k=aa 0/\HappensBefore (t++u) i k:=by
 intro i g hi hg zD hc;have a:=cz hi h.T0;rw[kE a] at hg;obtain⟨k,b,hb⟩:=h.over i g hi hg zD ((counts_old a).1 hc);have c:k<t.size:=by
  unfold Trace.g? at b;obtain⟨z,e,_⟩:=nS.1 b;exact lt_size_of_getElem? e
 exact⟨k,by rw[kE c];exact b,hb_app u hb⟩
theorem Bq{a:Nat->Prop}{l:Go.Loc}{b:Nat}(h:lQ a l)(c:lV l=aa b):a b:=by
 cases l <;> simp[lV] at c <;> subst c <;> exact h
theorem TL.apart(h:TL Y d f t j B){x:Nat}(C:x<j){a b:Touch}{said:Bool}(p:rY Y d b)(q:qw Y d (f x) x a)(hl:a.loc=b.loc)(l:a.kind=.plain∨b.kind=.plain∨(said=ab/\a.kind=.said/\b.kind=.said))
  (w:b.kind=.plain->b.write=ab->∀ n o v,b.loc=.cell ⟨n,o,af⟩->f x n o≠aa v) (g:a.write=ab∨b.write=ab):False:=by
 have A:=h.base;rcases q with⟨ad,e1,e2,e3⟩|⟨D,⟨c,e1,e2⟩|⟨o,e1,_⟩|⟨e1,n,o,v,e2,e3⟩⟩
 .rcases p with⟨m,e,i,k⟩|⟨c,e,i,k,_⟩
  .rw[e3] at l;rcases l with l|l|⟨_,l,_⟩
   .cases l
   .exact k l
   .cases l
  .rw[<-hl,e1] at e;simp only[lV,cV] at e;exact k (e.symm.trans e2)
 .rcases p with⟨m,e,i,k⟩|⟨r,e,i,k,_⟩
  .rw[hl,e] at e1;simp only[lV,cV] at e1;rw[<-e1,i,h.HV] at e2;omega
  .rw[hl,e] at e1;simp only[cV] at e1;rw[<-e1,i] at e2;omega
 .rcases p with⟨m,e,i,k⟩|⟨r,e,i,k,s,_⟩
  .rw[<-hl,e1] at e;cases e;exact h.ne i
  .rw[<-hl,e1] at e;simp only[lV,cV] at e;exact s e.symm
 .obtain⟨G,E,y,F⟩:=h.ms x C n o v e3;rcases p with⟨m,e,i,k⟩|⟨r,e,i,k,s,_,z⟩
  .rw[<-hl,e2] at e;cases e;exact y i
  .rcases g with g|g
   .rw[e1] at g;cases g
   .exact w z g n o v (by rw[<-hl];exact e2) e3
theorem TL.app0(h:TL Y d f t j B)(K:∀ op∈u,op.g=0)(hl:∀ op∈u,op.act.low B)(D:∀ op∈u,∀ a,op.act.touch?=aa a->a.loc.isMemory=ab->rY Y d a)
  (H:∀ op∈u,∀ a,op.act.touch?=aa a->a.kind=.plain->a.write=ab->∀ x,x<j->∀ b o v,a.loc=.cell ⟨b,o,af⟩->f x b o≠aa v):TL Y d f (t++u) j B:=by
 have n:∀ {i:Nat} {a:Touch},touchAt (t++u) i=aa a->(i<t.size/\touchAt t i=aa a)∨(t.size<=i/\(t++u).g? i=aa 0/\∃ op∈u,op.act.touch?=aa a):=by
  intro i a k;obtain⟨x,q,z⟩:=touch_of k;rcases getElem?_append_cases q with⟨hi,E⟩|⟨hi,w⟩
  .exact .inl ⟨hi,by rw[touchAt_of E];exact z⟩
  .exact .inr ⟨hi,by simp[Trace.g?,q,K x w],x,w,z⟩
 refine⟨h.base,h.HV,h.hC,h.ne,h.OJ,h.P8,h.HW,h.ms,h.MP,λsaid=>?_,seen_app h.seen hl,λi a hi k d=>?_,λx q i a hi k d=>?_,λi a b hi k hb=>?_,λi a hi k d=>?_,λx q i a hi k y s b o v l F=>?_,h.rZ u⟩
 .refine noRace_append (h.nr said) K λi a k op gT b hb hc=>?_
  have C:b.loc.isMemory=ab:=by rw[<-hc.1];exact hc.2.1
  have J:=D op gT b hb C;rcases cr i Y.T0 with hi|hi
  .rcases h.old i a hi k hc.2.1 with O|⟨L,N⟩
   .exact O
   .exfalso;obtain⟨c,e⟩:=Bp hc.2.1;have r:=Bq L e;rcases J with⟨ad,e1,e2,e3⟩|⟨M,e1,e2,e3,P,I,G⟩
    .rw[hc.1,e1] at e;simp only[lV,cV] at e;rw[<-e,e2] at r;exact h.OJ r
    .rw[hc.1,e1] at e;simp only[cV] at e;rw[e] at I;exact I r
  .rcases h.new i a hi k hc.2.1 with⟨y,_⟩|⟨x,q,y,A⟩
   .exact vg k y
   .exact(h.apart q J A hc.1 hc.2.2.2 (λh1 h2=>H op gT b hb h1 h2 x q) hc.2.2.1).elim
 .have p:touchAt t i=aa a:=by rw[<-touchAt_old (u:=u) (cz hi h.T0)];exact k
  exact(h.old i a hi p d).imp (·.app u) id
 .have p:touchAt t i=aa a:=by rw[<-touchAt_old (u:=u) (cz hi h.T0)];exact k
  exact(h.P9 x q i a hi p d).imp (·.app u) id
 .have p:touchAt t i=aa a:=by rw[<-touchAt_old (u:=u) (cz hi h.T0)];exact k
  exact h.Gg i a b hi p hb
 .rcases n k with⟨h1,h2⟩|⟨_,h2,op,gT,m⟩
  .rw[kE h1];exact h.new i a hi h2 d
  .exact .inl ⟨h2,D op gT a m d⟩
 .rcases n k with⟨h1,h2⟩|⟨_,h2,op,gT,m⟩
  .rw[kE h1] at y;exact(h.mw x q i a hi h2 y s b o v l F).app u
  .exfalso;rcases D op gT a m (by rw[l];rfl) with⟨ad,e1,e2,e3⟩|⟨M,_,_,_,_,_,G⟩
   .rw[l] at e1;cases e1;exact(h.ms x q b o v F).2.2.1 e2
   .exact H op gT a m G s x q b o v l F
theorem TL.appW(h:TL Y d f t j B){x:Nat}(D:x<j)(hu:∀ op∈u,op.g=Y.base+x)(hl:∀ op∈u,op.act.low B)(ht:∀ op∈u,∀ a,op.act.touch?=aa a->a.loc.isMemory=ab->qw Y d (f x) x a):TL Y d f (t++u) j B:=by
 have Y5:=h.base;have r:∀ {i:Nat} {a:Touch},touchAt (t++u) i=aa a->(i<t.size/\touchAt t i=aa a)∨(t.size<=i/\(t++u).g? i=aa (Y.base+x)/\∃ op∈u,op.act.touch?=aa a):=by
  intro i a q;obtain⟨y,A,J⟩:=touch_of q;rcases getElem?_append_cases A with⟨hi,Z⟩|⟨hi,I⟩
  .exact .inl ⟨hi,by rw[touchAt_of Z];exact J⟩
  .exact .inr ⟨hi,by simp[Trace.g?,A,hu y I],y,I,J⟩
 refine⟨h.base,h.HV,h.hC,h.ne,h.OJ,h.P8,h.HW,h.ms,h.MP,λsaid=>?_,seen_app h.seen hl,λi a hi q d=>?_,λy A i a hi q d=>?_,λi a b hi q hb=>?_,λi a hi q d=>?_,λy A i a hi q F C b o v H W=>?_,h.rZ u⟩
 .refine noRace_append (h.nr said) hu λi a q op gT b hb hc=>?_
  have Q:b.loc.isMemory=ab:=by rw[<-hc.1];exact hc.2.1
  have G:=ht op gT b hb Q;obtain⟨c,l⟩:=Bp hc.2.1;rcases cr i Y.T0 with hi|hi
  .rcases h.P9 x D i a hi q hc.2.1 with N|⟨hs,hka⟩
   .exact N
   .exfalso;have n:=Bq hs l;rw[hc.1] at l;rcases G with⟨ad,e1,e2,e3⟩|⟨e0,⟨c',e1,e2⟩|⟨o,e1,_⟩|⟨e1,p,o,v,e2,e3⟩⟩
    .rw[e1] at l;simp only[lV,cV] at l;rw[<-l,e2] at n;exact h.OJ n
    .rw[e1] at l;simp only[cV] at l;rw[<-l] at n;rw[h.HW _ n] at e2;omega
    .rw[e1] at l;simp only[lV,cV] at l;rw[<-l] at n;exact h.P8 n
    .rw[e2] at l;simp only[lV,cV] at l;rw[<-l] at n;exact(h.ms x D p o v e3).2.2.2 n
  .rcases h.new i a hi q hc.2.1 with⟨F,V⟩|⟨y,A,F,P⟩
   ·
    by_cases L:a.write=ab/\∃ p o v,a.loc=.cell ⟨p,o,af⟩/\f x p o=aa v
    .obtain⟨h1,p,o,v,h2,T⟩:=L;exact h.mw x D i a hi q F h1 p o v h2 T
    .exfalso;refine h.apart (said:=said) D V G hc.1.symm ?_ (λ_ O p o v k W=>L ⟨O,p,o,v,k,W⟩) hc.2.2.1.symm
     rcases hc.2.2.2 with N|N|⟨h1,h2,T⟩
     .exact .inr (.inl N)
     .exact .inl N
     .exact .inr (.inr ⟨h1,T,h2⟩)
   .by_cases M:y=x
    .subst M;exact vg q F
    .exfalso;obtain⟨k,_,C,w⟩:=hc;rcases P with⟨ad,e1,e2,e3⟩|⟨e0,⟨c1,e1,e2⟩|⟨o,e1,e1l,e1u⟩|⟨e1,p,o,v,e2,e3⟩⟩
     .rcases G with⟨E,e,m,s⟩|⟨R,⟨c2,e,m⟩|⟨o,e,_⟩|⟨e,p,o,v,m,s⟩⟩
      .rw[e3,s] at w;simp at w
      .rw[<-k,e1] at e;simp only[lV,cV] at e;rw[<-e,e2,h.HV] at m;omega
      .rw[<-k,e1] at e;cases e;exact h.ne e2
      .rw[<-k,e1] at m;cases m;exact(h.ms x D p o v s).2.2.1 e2
     .rcases G with⟨E,e,m,s⟩|⟨R,⟨c2,e,m⟩|⟨o,e,_⟩|⟨e,p,o,v,m,s⟩⟩
      .rw[k,e] at e1;simp only[lV,cV] at e1;rw[<-e1,m,h.HV] at e2;omega
      .rw[k,e] at e1;simp only[cV] at e1;rw[e1] at m;omega
      .rw[k,e] at e1;simp only[lV,cV] at e1;rw[<-e1,h.hC] at e2;omega
      .rw[k,m] at e1;simp only[lV,cV] at e1;rw[<-e1,(h.ms x D p o v s).1] at e2;omega
     .rcases G with⟨E,e,m,s⟩|⟨R,⟨c2,e,m⟩|⟨X,e,U,S⟩|⟨e,p,X,v,m,s⟩⟩
      .rw[<-k,e1] at e;cases e;exact h.ne m
      .rw[<-k,e1] at e;simp only[lV,cV] at e;rw[<-e,h.hC] at m;omega
      .rw[<-k,e1] at e;cases e;rcases Nat.lt_or_gt_of_ne M with h1|h1
       .have:=uQ Y.kc (show y+1<=x from h1)
        rw[rv,pL] at this;omega
       .have:=uQ Y.kc (show x+1<=y from h1)
        rw[rv,pL] at this;omega
      .rw[<-k,e1] at m;cases m;exact(h.ms x D _ _ v s).2.1 rfl
     .rcases G with⟨E,e,m,s⟩|⟨R,⟨c2,e,m⟩|⟨X,e,U,S⟩|⟨e,b2,X,v',m,s⟩⟩
      .rw[<-k,e2] at e;cases e;exact(h.ms y A p o v e3).2.2.1 m
      .rw[<-k,e2] at e;simp only[lV,cV] at e;rw[<-e,(h.ms y A p o v e3).1] at m;omega
      .rw[<-k,e2] at e;cases e;exact(h.ms y A _ _ v e3).2.1 rfl
      .rw[e1,e] at C;simp at C
 .have z:touchAt t i=aa a:=by rw[<-touchAt_old (u:=u) (cz hi h.T0)];exact q
  exact(h.old i a hi z d).imp (·.app u) id
 .have z:touchAt t i=aa a:=by rw[<-touchAt_old (u:=u) (cz hi h.T0)];exact q
  exact(h.P9 y A i a hi z d).imp (·.app u) id
 .have z:touchAt t i=aa a:=by rw[<-touchAt_old (u:=u) (cz hi h.T0)];exact q
  exact h.Gg i a b hi z hb
 .rcases r q with⟨h1,h2⟩|⟨_,h2,op,gT,K⟩
  .rw[kE h1];exact h.new i a hi h2 d
  .exact .inr ⟨x,D,h2,ht op gT a K d⟩
 .rcases r q with⟨h1,h2⟩|⟨_,h2,_⟩
  .rw[kE h1] at F;exact(h.mw y A i a hi h2 F C b o v H W).app u
  .rw[F] at h2;simp only[cV] at h2;omega
theorem TL.mute(h:TL Y d f t j B){g:Nat}(s:∀ op∈u,op.g=g)(hl:∀ op∈u,op.act.low B)(hn:∀ op∈u,op.act.touch?=af):TL Y d f (t++u) j B:=by
 have old:∀ {i:Nat} {a:Touch},touchAt (t++u) i=aa a->i<t.size/\touchAt t i=aa a:=by
  intro i a c;obtain⟨y,r,e⟩:=touch_of c;rcases getElem?_append_cases r with⟨hi,p⟩|⟨hi,m⟩
  .exact⟨hi,by rw[touchAt_of p];exact e⟩
  .rw[hn y m] at e;cases e
 refine⟨h.base,h.HV,h.hC,h.ne,h.OJ,h.P8,h.HW,h.ms,h.MP,λsaid=>noRace_append (h.nr said) s λi a _ op gT b hb _=>(by rw[hn op gT] at hb;cases hb),seen_app h.seen hl,λi a hi c d=>(h.old i a hi (old c).2 d).imp (·.app u) id,
  λx n i a hi c d=>(h.P9 x n i a hi (old c).2 d).imp (·.app u) id,λi a b hi c hb=>h.Gg i a b hi (old c).2 hb,λi a hi c d=>?_,λx n i a hi c q l b o v k w=>?_,h.rZ u⟩
 .rw[kE (old c).1];exact h.new i a hi (old c).2 d
 .rw[kE (old c).1] at q;exact(h.mw x n i a hi (old c).2 q l b o v k w).app u
theorem TL.fork(h:TL Y d f t j B){x y:MemOp}(p:x.g=0/\x.act=.go (Y.base+j))(n:y.g=Y.base+j/\y.act=.start)(G:Deaf t 0=0)(H:Deaf t (Y.base+j)=0)
  (I:∀ b o v,f j b o=aa v->d b=0/\b≠Y.C/\b≠Y.Wg/\¬Y.Sh b):TL Y d f (t++#[x,y]) (j+1) B:=by
 have l:∀ op∈#[x,y],op.act.touch?=af:=by
  intro op gT;simp only[List.mem_toArray,ew,rl,or_false] at gT;rcases gT with rfl|rfl
  .rw[p.2];rfl
  .rw[n.2];rfl
 have q:∀ op∈#[x,y],op.act.low B:=by
  intro op gT;simp only[List.mem_toArray,ew,rl,or_false] at gT;rcases gT with rfl|rfl
  .rw[p.2];trivial
  .rw[n.2];trivial
 have old:∀ {i:Nat} {a:Touch},touchAt (t++#[x,y]) i=aa a->i<t.size/\touchAt t i=aa a:=by
  intro i a c;obtain⟨z,r,k⟩:=touch_of c;rcases getElem?_append_cases r with⟨hi,D⟩|⟨_,E⟩
  .exact⟨hi,by rw[touchAt_of D];exact k⟩
  .rw[l z E] at k;cases k
 have A:∀ z,z<j+1->∀ b o v,f z b o=aa v->d b=0/\b≠Y.C/\b≠Y.Wg/\¬Y.Sh b:=λz r b o v s=>by
  rcases cr z j with h1|h1
  .exact h.ms z h1 b o v s
  .obtain rfl:z=j:=by omega
   exact I b o v s
 refine⟨h.base,h.HV,h.hC,h.ne,h.OJ,h.P8,h.HW,A,h.MP,λsaid=>?_,seen_app h.seen q,λi a hi c d=>(h.old i a hi (old c).2 d).imp (·.app _) id,
  λz r i a hi c d=>?_,λi a b hi c hb=>h.Gg i a b hi (old c).2 hb,λi a hi c d=>?_,λz r i a hi c F w b o v m s=>?_,h.rZ _⟩
 .have e:t++#[x,y]=(t++#[x])++#[y]:=by apply il;simp
  rw[e];refine noRace_append (g:=Y.base+j) (noRace_append (g:=0) (h.nr said) (λop gT=>by simp at gT;rw[gT];exact p.1) (λi a _ op gT b hb _=>?_)) (λop gT=>by simp at gT;rw[gT];exact n.1) (λi a _ op gT b hb _=>?_)
  .rw[l op (by simp at gT ⊢;exact .inl gT)] at hb;cases hb
  .rw[l op (by simp at gT ⊢;exact .inr gT)] at hb;cases hb
 .rcases cr z j with h1|h1
  .exact(h.P9 z h1 i a hi (old c).2 d).imp (·.app _) id
  .obtain rfl:z=j:=by omega
   exact(h.old i a hi (old c).2 d).imp (fork_knows p n G H) id
 .rw[kE (old c).1];rcases h.new i a hi (old c).2 d with h1|⟨z,h1,h2⟩
  .exact .inl h1
  .exact .inr ⟨z,by omega,h2⟩
 .rw[kE (old c).1] at F;rcases cr z j with h1|h1
  .exact(h.mw z h1 i a hi (old c).2 F w b o v m s).app _
  .obtain rfl:z=j:=by omega
   exact fork_knows p n G H (vg (old c).2 F)
theorem TL.W3(h:TL Y d f t j B)(L:Deaf t 0=0)(hn:NoRelease (stA Y.Wg) t){q:Nat}(J:t.act? q=aa (.mark (.acquire (stA Y.Wg))))(A:t.g? q=aa 0)(C:t.heard q)
  (I:∀ x,x<j->∃ r,RelBy (stA Y.Wg) t (Y.base+x) r/\r<q):Past (lQ λb=>Y.Sh b∨b=Y.Wg) B t:=by
 have m:∀ x,x<j->∀ i,t.g? i=aa (Y.base+x)->t.counts i->HappensBefore t i q:=by
  intro x y i s v;obtain⟨r,c,D⟩:=I x y;have e:HappensBefore t r q:=.single (.inr ⟨.marked D (.inr c.act) J (λk _ _=>hn k),c.heard,C⟩)
  have K:i<=r:=Nat.le_of_not_lt λo=>c.after i o s v
  rcases cr i r with o|M
  .exact .trans (.single (.inl ⟨o,_,s,c.g⟩)) e
  .obtain rfl:i=r:=by omega
   exact e
 have p:∀ {l:Go.Loc},lQ Y.Sh l->lQ (λb=>Y.Sh b∨b=Y.Wg) l:=λ{l} hl=>by cases l <;> first|exact .inl hl|exact hl
 refine⟨h.nr,λi a n d=>?_,λi g s w v=>?_,L,h.seen⟩
 .rcases cr i Y.T0 with hi|hi
  .exact(h.old i a hi n d).imp id λ⟨h1,h2⟩=>⟨p h1,h2⟩
  .rcases h.new i a hi n d with⟨h1,_⟩|⟨x,y,s,G⟩
   .exact .inl (vg n h1)
   .rcases G with⟨ad,e1,e2,e3⟩|⟨H,_⟩
    .exact .inr ⟨by rw[e1];exact .inr e2,e3⟩
    .left
     have v:t.counts i:=⟨a,n,d,.inl (by rw[H];simp)⟩
     obtain⟨z,N,F⟩:=nS.1 A;exact⟨q,z,N,F,.inr (m x y i s v)⟩
 .rcases cr i Y.T0 with hi|hi
  .exact h.over i g hi s w v
  .obtain⟨a,n,d,O⟩:=v;rcases h.new i a hi n d with⟨h1,_⟩|⟨x,y,E,G⟩
   .rw[s] at h1;exact absurd (lM h1) w
   .exact⟨q,A,m x y i E ⟨a,n,d,O⟩⟩
theorem TL.start{Y:Lay}{t:Trace}{B:Nat}{f:Nat->Mem}(e:Past (lQ Y.Sh) B t)(o:Y.T0=t.size)(hb:1<=Y.base)(b:Y.C≠Y.Wg)(l:¬Y.Sh Y.Wg)(k:¬Y.Sh Y.C):TL Y (λ_=>0) f t 0 B :=
 ⟨hb,rfl,rfl,b,l,k,λ_ _=>rfl,λx c=>absurd c (jm x),by omega,e.clean,e.seen,λi a _ h d=>e.known i a h d,λx c=>absurd c (jm x),λ_ _ _ _ _ _=>rfl,
  λi a hi h _=>by
   obtain⟨x,c,_⟩:=touch_of h;have:=lt_size_of_getElem? c;omega,λx c=>absurd c (jm x),λi g _ m b n=>e.over i g m b n⟩
end
end Go.AM
