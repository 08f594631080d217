/-
  Part 2 of a machine of values without memory, proved sound over the model, and of contracts of the functions that the laws reach. Nothing is taken for granted: no condition.
-/
import Derived.Test.YtplldmnmndnomaaGreatDoorA1
import Derived.Lib.Strings
import Derived.Laws.Slices
import Derived.Orders
import Derived.Laws.StructEq
set_option linter.unusedVariables false
set_option linter.unusedSimpArgs false
set_option linter.defProp false
set_option linter.deprecated false
namespace Go.AM
open Go.Conc (G)
def aw(n:Nat)(f g:Nat->List C):Prop:=∀ i,i<n->f i=g i
theorem Flat.xw{M:Mem}{k n:Nat}{es es':Nat->List C}{vs:List Value}(h:Flat M k n es vs)(a:aw n es es'):Flat M k n es' vs :=
 ⟨h.len,λi hi=>by rw[<-a i hi];exact h.width i hi,λi hi j c hj=>h.rd i hi j c (by rw[a i hi];exact hj)⟩
def OZ:C->C->Option (List Prop)
 |.int k n,.int k' n'=>match AT k k' with|true=>some [n=n']|false=>none
 |.bool b,.bool b'=>some [b=b']
 |.str s,.str s'=>some [s=s']
 |.sl t k n es,.sl t' k' n' es'=>match Nat.beq k k' with
  |true=>match t,t' with
   |false,true=>none
   |_,_=>some [n=n',aw n es es']
  |false=>match t,t' with
   |true,_=>some [n=0,n'=0]
   |_,_=>none
 |.val x,.val y=>some [x=y]
 |x,y=>some [x=y]
theorem Jh{M:Mem}{v:Value}{x y:C}{ps:List Prop}(h:OZ x y=some ps)(c:aa ps)(r:Rd M v x):Rd M v y:=by
 unfold OZ at h;split at h
 ·rename_i k n k' n'
  cases d:AT k k' <;> simp[d] at h
  subst h;cases uv d;cases (show n=n' from c)
  exact r
 ·cases h;rename_i b f;cases (show b=f from c);exact r
 ·cases h;rename_i b f;cases (show b=f from c);exact r
 ·rename_i t k n es t' k' n' es'
  cases d:Nat.beq k k' with
  |true =>
   simp only[d] at h;have e:=bn d;subst e;cases t <;> cases t' <;> simp at h
   all_goals (subst h;obtain⟨rfl,g⟩:=(show n=n'/\aw n es es' from c);first|exact r.xw g|exact r.loose.xw g)
  |false =>
   simp only[d] at h;cases t <;> simp at h
   subst h;obtain⟨rfl,rfl⟩:=(show n=0/\n'=0 from c)
   obtain⟨a,cap,vs,rfl,_,_,i,_⟩:=r.flat;have:=i rfl;subst this;exact Rd.iI
 ·cases h;rename_i x y;cases (show x=y from c);exact r
 ·cases h;cases c;exact r
def LQ:A->A->Option (List Prop)
 |.c x,.c y=>OZ x y
 |.vec _ k n es,.c (.sl false k' n' es')=>match Nat.beq k k' with|true=>some [n=n',aw n es es']|false=>none
 |.vec l k n es,.vec l' k' n' es'=>match Nat.beq l l' with
  |true=>match Nat.beq k k' with|true=>some [n=n',aw n es es']|false=>none
  |false=>none
 |.ptr l o,.ptr l' o'=>match Nat.beq l l' with|true=>(match Nat.beq o o' with|true=>some []|false=>none)|false=>none
 |.ref l,.ref l'=>match Nat.beq l l' with|true=>some []|false=>none
 |.bp l w,.bp l' w'=>match Nat.beq l l' with|true=>some [w=w']|false=>none
 |_,.any=>some []
 |_,_=>none
theorem Dh{σ:List ak}{s:St}{v:Value}{x y:A}{ps:List Prop}(h:LQ x y=some ps)(d:aa ps)(r:fz σ s v x):fz σ s v y:=by
 unfold LQ at h;split at h
 ·exact Jh h d r
 ·rename_i k n es k' n' es'
  cases b:Nat.beq k k' <;> simp[b] at h
  subst h;have e:=bn b;subst e;obtain⟨rfl,f⟩:=(show n=n'/\aw n es es' from d)
  exact r.1.xw f
 ·rename_i l k n es l' k' n' es'
  cases a:Nat.beq l l' <;> simp[a] at h
  cases b:Nat.beq k k' <;> simp[b] at h
  subst h;have e:=bn b;have c:=bn a;subst e c;obtain⟨rfl,f⟩:=(show n=n'/\aw n es es' from d)
  exact⟨r.1.xw f,r.2.1,r.2.2⟩
 ·rename_i l o l' o'
  cases a:Nat.beq l l' <;> simp[a] at h
  cases b:Nat.beq o o' <;> simp[b] at h
  have e:=bn b;have c:=bn a;subst e c;exact r
 ·rename_i l l'
  cases a:Nat.beq l l' <;> simp[a] at h
  have c:=bn a;subst c;exact r
 ·rename_i l w l' w'
  cases a:Nat.beq l l' <;> simp[a] at h
  have c:=bn a;subst c;subst h;cases (show w=w' from d)
  exact r
 ·exact fz.cell r
 ·cases h
def iQ:List Prop->List Prop->List Prop
 |[],q=>q
 |p::r,q=>p::iQ r q
theorem aa.cat{p q:List Prop}:aa (iQ p q)↔aa p/\aa q:=by
 induction p with
 |nil=>simp[iQ,aa]
 |cons x r a=>simp only[iQ,aa.cons,a,and_assoc]
def H9:List A->List A->Option (List Prop)
 |[],[]=>some []
 |a::al,b::bs=>match LQ a b with
  |some p=>match H9 al bs with
   |some q=>some (iQ p q)
   |none=>none
  |none=>none
 |_,_=>none
theorem xY{σ:List ak}{s:St}:∀ {vs:List Value}{xs ys:List A}{ps:List Prop},H9 xs ys=some ps->aa ps->cA σ s vs xs->cA σ s vs ys
 |[],[],[],_,_,_,_=>trivial
 |_::_,[],_,_,_,_,h=>h.elim
 |[],_::_,_,_,_,_,h=>h.elim
 |[],[],_::_,_,h,_,_=>by simp[H9] at h
 |_::_,_::_,[],_,h,_,_=>by simp[H9] at h
 |v::vs,a::al,b::bs,ps,h,d,f=>by
  simp only[H9] at h;cases c:LQ a b with
  |none=>simp[c] at h
  |some p =>
   cases e:H9 al bs with
   |none=>simp[c,e] at h
   |some q =>
    simp[c,e] at h;subst h;rw[aa.cat] at d;exact⟨Dh c d.1 f.1,xY e d.2 f.2⟩
def LR:E1->E1->Option (List Prop)
 |.one a,.one b=>LQ a b
 |.agg al,.agg bs=>H9 al bs
 |_,_=>none
theorem Di{σ:List ak}{s:St}{v:Value}{x y:E1}{ps:List Prop}(h:LR x y=some ps)(a:aa ps)(r:k5 σ s v x):k5 σ s v y:=by
 cases x <;> cases y <;> simp only[LR,reduceCtorEq] at h
 ·exact Dh h a r
 ·obtain⟨vs,c,b⟩:=r;exact⟨vs,c,xY h a b⟩
def x0:List E1->List E1->Option (List Prop)
 |[],[]=>some []
 |a::al,b::bs=>match LR a b with
  |some p=>match x0 al bs with
   |some q=>some (iQ p q)
   |none=>none
  |none=>none
 |_,_=>none
theorem zG{σ:List ak}{s:St}:∀ {vs:List Value}{xs ys:List E1}{ps:List Prop},x0 xs ys=some ps->aa ps->eZ σ s vs xs->eZ σ s vs ys
 |[],[],[],_,_,_,_=>trivial
 |_::_,[],_,_,_,_,h=>h.elim
 |[],_::_,_,_,_,_,h=>h.elim
 |[],[],_::_,_,h,_,_=>by simp[x0] at h
 |_::_,_::_,[],_,h,_,_=>by simp[x0] at h
 |v::vs,a::al,b::bs,ps,h,d,f=>by
  simp only[x0] at h;cases c:LR a b with
  |none=>simp[c] at h
  |some p =>
   cases e:x0 al bs with
   |none=>simp[c,e] at h
   |some q =>
    simp[c,e] at h;subst h;rw[aa.cat] at d;exact⟨Di c d.1 f.1,zG e d.2 f.2⟩
def FQ:D->D->Option (List Prop)
 |.e x,.e y=>LR x y
 |.eY xs,.eY ys=>x0 xs ys
 |_,.any=>some []
 |_,_=>none
theorem uq{σ:List ak}{s:St}{v:Value}{x y:D}{ps:List Prop}(h:FQ x y=some ps)(a:aa ps)(r:cd σ s v x):cd σ s v y:=by
 cases x <;> cases y <;> simp only[FQ,reduceCtorEq] at h
 ·exact Di h a r
 ·trivial
 ·obtain⟨vs,c,b⟩:=r;exact⟨vs,c,zG h a b⟩
 ·trivial
 ·trivial
def ny(φ:Fr):Fr->Option (List Prop)
 |[]=>some []
 |(i,d)::r=>match FQ (look φ i) d with
  |some p=>match ny φ r with
   |some q=>some (iQ p q)
   |none=>none
  |none=>none
theorem cg{φ:Fr}:∀ {φ':Fr}{ps:List Prop},ny φ φ'=some ps->aa ps->nz φ φ'
 |[],_,_,_=>λ_ _ _ _ _=>trivial
 |(i,d)::r,ps,h,c=>by
  simp only[ny] at h;cases a:FQ (look φ i) d with
  |none=>simp[a] at h
  |some p =>
   cases b:ny φ r with
   |none=>simp[a,b] at h
   |some q =>
    simp[a,b] at h;subst h;rw[aa.cat] at c;intro σ s v t f;simp only[look];cases g:Nat.beq i t with
    |true =>
     have e:=bn g;subst e;exact uq a c.1 f
    |false=>exact cg b c.2 σ s v t f
def kC(σ:List ak):Bool:=match cn σ with|true=>jZ σ|false=>false
theorem AU{σ:List ak}(h:kC σ=true):cn σ=true/\jZ σ=true:=by
 unfold kC at h;split at h
 ·rename_i a;exact⟨a,h⟩
 ·cases h
theorem kW.zF{σ:List ak}{s:St}:∀ {ds:List Deferred}{a:List Nat},kW σ s ds a->∀ l∈a,σ[l]?=some .nN
 |[],[],_,l,hl=>by simp at hl
 |[],_::_,r,_,_=>r.elim
 |_::_,[],r,_,_=>r.elim
 |d::ds,c::a,⟨⟨h1,_⟩,_,b⟩,l,hl=>by
  rcases dF.1 hl with rfl|hl
  ·exact h1
  ·exact kW.zF b l hl
def aR(fn:Func)(a:Nat)(res:D)(σ':List ak):Post:=λe φ σ1 =>
 (e=.ret∨e=.normal)/\∃ ks ds d ps,rK φ fn.results.toList=some ds/\nb ds=some d/\FQ d (iN ks res)=some ps/\aa ps/\vd ks.length res=true /\
  jT ks σ1=some σ'/\kC σ'=true/\dn ks=true/\(∀ j,j<a->ks[j]?=some j)
def vp(P:Program)(fn:Func)(a:Nat)(res:D)(σ':List ak):Post:=λe φ σ1 =>
 (e=.ret∨e=.normal)/\∃ ks d ps,vo P fn φ d/\FQ d (iN ks res)=some ps/\aa ps/\vd ks.length res=true /\
  jT ks σ1=some σ'/\kC σ'=true/\dn ks=true/\(∀ j,j<a->ks[j]?=some j)
theorem aR.SQ{P:Program}{fn:Func}{a:Nat}{res:D}{σ':List ak}{e:Exit}{φ:Fr}{σ1:List ak}(h:aR fn a res σ' e φ σ1):vp P fn a res σ' e φ σ1:=by
 obtain⟨c,ks,ds,d,ps,h1,h2,b⟩:=h;exact⟨c,ks,d,ps,vo.of h1 h2,b⟩
theorem fK.Dj{P:Program}{ι:Type}{X:Cx P}{f:FuncId}{fn:Func}{c:Code}{args:List D}{σ:List ak}{σ':ι->List ak}{res:ι->D}(Y:P.funcs[f]?=some fn)(H:(fn.name== "runtime.NumGoroutine")=false)(m:fn.body=some c)(hlen:args.length<=fn.ntmps)
  (h:∀ s a,br fn.ntmps σ s (iO 0 args) a->ag σ s->∀ (b:Frame) (k:List Item) (cs:List Frame) (S:Goroutine->St->Prop),b.kind≠.early->b.roundOf=none ->
  (∀ e φ' σ1 s' a',(∃ j,vp P fn σ.length (res j) (σ' j) e φ' σ1)->br fn.ntmps σ1 s' φ' a'->ag σ1 s'->bD σ s σ1 s'->ends X S b k cs e a' s')->dk X S (G (b.aT a (.code c::k)) cs) s):fK X f args σ res σ':=by
 refine⟨⟨fn,Y,H,by rw[m];rfl⟩,λs vs hr hh S cs hS=>?_⟩
 obtain⟨hl,hg⟩:=bX.get hr
 let b:Frame:={ fn:=f,tmps:=#[],todo:=[],defers:=[],mode:=.run,kind:=.normal,roundOf:=none }
 have A:Frame.enter P f vs.toArray .normal=b.aT { tmps:=vs.toArray++Array.replicate (fn.ntmps-vs.toArray.size) undef,defers:=[] } [.code c]:=by
  simp[Frame.enter,Frame.aT,Y,m,b]
 rw[A];refine h s { tmps:=vs.toArray++Array.replicate (fn.ntmps-vs.toArray.size) undef,defers:=[] } ⟨by simp;omega,⟨[],ab⟩,λt=>?_⟩ hh b [] cs S (by simp[b]) rfl ?_
 ·rw[mG];simp only[lP,aZ,ky];have:=hg t;rcases bC t vs.length with W|M8
  ·have e:(vs.toArray++Array.replicate (fn.ntmps-vs.toArray.size) undef).getD t undef=(vs[t]?).getD undef:=by
    simp only[bP];rw[Array.getElem?_append_left (by simpa using W)]
    simp
   rw[e];exact this
  ·rw[jI (by omega)]
   trivial
 ·rintro e φ' σ1 s1 a1 ⟨T,he,ks,d,ps,h1,h3,h4,h5,R,SR,h8,h9⟩ f' Q st;obtain⟨h7,SU⟩:=AU SR;have fin:∀ (fr:Frame) s2,aX s1 s2->fr.fn=f->fr.tmps=a1.tmps->fr.defers=a1.defers->fr.mode=.returning->fr.kind=.normal->dk X S (G fr cs) s2:=by
   intro fr s2 um e1 e2 e3 e4 e5;have f2:=f'.rely um Q;have n:=Q.rely um;have g:=st.trans um.stepW;obtain⟨v,r2,r1⟩:=h1 f2;obtain⟨i,z⟩:=xB (l':=s2.β) R n.len;have r4:=(uq h3 h4 r2).sub R z h5;obtain⟨c1,c2⟩:=gi R;obtain⟨d1,d2⟩:=gi z;have C:∀ L∈i,L∈s2.β:=zm z;have K:ag (σ' T) { s2 with β:=i }:=by
    obtain⟨g1,_⟩:=n.sub R z h7 h8;refine⟨g1.mem,g1.len,λj B L I q=>?_,g1.ez,g1.lt,λb m=>⟨(n.own b m).1,λL q=>(n.own b m).2 L (C L q)⟩⟩
    exact dj.plain (σ:=σ' T) (s:={ s2 with β:=i,own:=vk s2 i }) (s':={ s2 with β:=i }) rfl rfl (jm h7 B (aH I)) (g1.box j B L I q)
   have Jd:bD σ s (σ' T) { s2 with β:=i }:=by
    refine⟨g.size,g.en,g.mem,g.hZ,λL q b m=>g.rF _ (C L q) b m,λl B L I q=>?_,g.os,g.tape,g.output,g.own⟩
    have hl:l<σ.length:=(aF.1 I).1;obtain⟨B',L',p1,p2,p3⟩:=g.box l B L I q;obtain⟨x,Z,J⟩:=c2 l l (h9 l hl);obtain⟨y,U,V⟩:=d2 l l (h9 l hl);rw[p1] at J;cases J;rw[p2] at V;cases V;exact⟨B',L',Z,U,p3⟩
   obtain⟨ls,F⟩:=f2.defers;refine qd ls fr s2 _ n.kD (by simp) e4 (by rw[e3];exact F.taken n) λN p=>?_
   have r:aX { s2 with β:=i } { N with β:=i }:=by
    refine⟨rfl,p.M,p.own,p.size,λb m=>p.en b (m.imp id ?_),p.mem,p.os,p.tape,p.output⟩
    rintro⟨L,q,m⟩;obtain⟨j,hj,rfl⟩:=dV q;have E:j<ks.length:=by rw[<-d1];exact hj
    obtain⟨y,U,V⟩:=d2 j _ (aj E);obtain⟨x,Z,J⟩:=c2 j _ (aj E);rw[aj hj] at U;cases U;refine⟨_,_,V,λhc=>?_,m⟩
    rw[F.zF _ hc] at J;cases J;exact lY SU _ (aH Z) rfl
   have hG:eX N { N with β:=i }:=⟨rfl,λ_ _ _ h=>h,λ_ _ _=>rfl,λb o v hv=>p.mem b o v (by rw[<-p.M];exact hv),λb m=>m.imp id λ⟨L,q,m⟩=>⟨L,by rw[p.β];exact C L q,m⟩⟩
   refine .ghost hG (hS T _ v _ ⟨e1,e4,rfl,e5,fn,by show P.funcs[fr.fn]?=_;rw[e1];exact Y,λw hw=>?_⟩ (r4.mono r.stepW.ext K.len) (K.rely r) (Jd.trans r.stepW))
   show (results fn fr.tmps).run P w=_/\∀ e∈(results fn fr.tmps).events P w #[],_;rw[e2];have O:∀ b o u,s2.M b o=some u->w.cell? ⟨b,o,none⟩=some u:=λb o u h=>hw b o u (by show N.M b o=some u;rw[p.M];exact h)
   refine⟨(r1 w O).1,λe he=>?_⟩
   obtain⟨b,o,u,q1,q2⟩:=(r1 w O).2 e he;exact⟨b,o,u,q1,by show N.M b o=some u;rw[p.M];exact q2⟩
  rcases he with rfl|rfl
  ·intro pre;exact .ctl Q rfl (λ_=>Cm rfl) λs2 um=>fin _ s2 um rfl rfl (iE _) rfl rfl
  ·exact .ctl Q rfl (λ_=>Cn rfl) λs2 um=>fin _ s2 um rfl rfl (iE _) rfl rfl
theorem fK.H8{P:Program}{ι:Type}{X:Cx P}{f:FuncId}{fn:Func}{c:Code}{args:List D}{σ:List ak}{σ':ι->List ak}{res:ι->D}(l:P.funcs[f]?=some fn)(g:(fn.name== "runtime.NumGoroutine")=false)(i:fn.body=some c)(d:args.length<=fn.ntmps)
  (h:∀ s a,br fn.ntmps σ s (iO 0 args) a->ag σ s->∀ (b:Frame) (k:List Item) (cs:List Frame) (S:Goroutine->St->Prop),b.kind≠.early->b.roundOf=none ->
  (∀ e φ' σ1 s' a',(∃ j,aR fn σ.length (res j) (σ' j) e φ' σ1)->br fn.ntmps σ1 s' φ' a'->ag σ1 s'->bD σ s σ1 s'->ends X S b k cs e a' s')->dk X S (G (b.aT a (.code c::k)) cs) s):fK X f args σ res σ' :=
 fK.Dj l g i d λs a f hh b k cs S h1 h2 hQ=>h s a f hh b k cs S h1 h2 λe φ' σ1 s' a' ⟨j,q⟩=>hQ e φ' σ1 s' a' ⟨j,q.SQ⟩
theorem fK.IK{P:Program}{ι:Type}{X:Cx P}{f:FuncId}{fn:Func}{c:Code}{args:List D}{σ:List ak}{σ':ι->List ak}{res:ι->D}(n:P.funcs[f]?=some fn)(g:(fn.name== "runtime.NumGoroutine")=false)(m:fn.body=some c)(d:args.length<=fn.ntmps)
  (h:AW X fn.ntmps c (λe φ σ1=>∃ j,vp P fn σ.length (res j) (σ' j) e φ σ1) (iO 0 args) σ):fK X f args σ res σ' :=
 fK.Dj n g m d λs a f hh b k cs S i _ l=>h s a f hh b k cs S i l
theorem fK.intro{P:Program}{ι:Type}{X:Cx P}{f:FuncId}{fn:Func}{c:Code}{args:List D}{σ:List ak}{σ':ι->List ak}{res:ι->D}(n:P.funcs[f]?=some fn)(g:(fn.name== "runtime.NumGoroutine")=false)(m:fn.body=some c)(d:args.length<=fn.ntmps)
  (h:AW X fn.ntmps c (λe φ σ1=>∃ j,aR fn σ.length (res j) (σ' j) e φ σ1) (iO 0 args) σ):fK X f args σ res σ' :=
 fK.H8 n g m d λs a f hh b k cs S i _ l=>h s a f hh b k cs S i l
theorem Ev.intro{P:Program}{X:Cx P}{f:FuncId}{fn:Func}{c:Code}{args:List D}{σ σ':List ak}{res:D}(e:P.funcs[f]?=some fn)(b:(fn.name== "runtime.NumGoroutine")=false)(d:fn.body=some c)(a:args.length<=fn.ntmps)
  (h:AW X fn.ntmps c (aR fn σ.length res σ') (iO 0 args) σ):Ev X f args σ res σ' :=
 (fK.intro e b d a (AW.mono h λ_ _ _ q=>⟨(),q⟩)).CC
end Go.AM
namespace Go.AM
inductive It where
 |code (c:Code)
 |blk (id:Nat)
 |ops (all rest:List Oper)
def AK{P:Program}(X:Cx P)(N:Nat)(Qf:Post):List It->Post
 |[],e,φ,σ=>Qf e φ σ
 |.code c::K,.normal,φ,σ=>AW X N c (AK X N Qf K) φ σ
 |.code _::K,e,φ,σ=>AK X N Qf K e φ σ
 |.blk id::K,.exit Ch,φ,σ=>if Ch=id then AK X N Qf K .normal φ σ else AK X N Qf K (.exit Ch) φ σ
 |.blk _::K,e,φ,σ=>AK X N Qf K e φ σ
 |.ops all rest::K,.normal,φ,σ=>gB X N all rest (AK X N Qf K .normal) φ σ
 |.ops _ _::K,e,φ,σ=>AK X N Qf K e φ σ
section
variable {P:Program}{X:Cx P}{N:Nat}{Qf:Post}{K:List It}{φ:Fr}{σ:List ak}
theorem AK.of_code{c:Code}(h:AK X N Qf [.code c] .normal φ σ):AW X N c Qf φ σ:=h
theorem AK.skip(h:AK X N Qf K .normal φ σ):AK X N Qf (.code .skip::K) .normal φ σ:=AW.skip h
theorem AK.seq{x y:Code}(h:AK X N Qf (.code x::.code y::K) .normal φ σ):AK X N Qf (.code (.seq x y)::K) .normal φ σ:=by
 refine AW.seq (AW.mono h ?_);intro e φ' σ' q;cases e <;> exact q
theorem AK.block{id:Nat}{c:Code}(h:AK X N Qf (.code c::.blk id::K) .normal φ σ):AK X N Qf (.code (.block id c)::K) .normal φ σ:=by
 refine AW.block (AW.mono h ?_);intro e φ' σ' q;cases e <;> exact q
theorem AK.Jo{id:Nat}(h:AK X N Qf K .normal φ σ):AK X N Qf (.blk id::K) .normal φ σ:=h
theorem AK.region{id:Nat}{ops:Array Oper}(h:AK X N Qf (.ops ops.toList ops.toList::K) .normal φ σ):AK X N Qf (.code (.region id ops false)::K) .normal φ σ:=AW.region h
theorem AK.Jp{all:List Oper}(h:AK X N Qf K .normal φ σ):AK X N Qf (.ops all []::K) .normal φ σ:=gB.nil h
theorem AK.nx:∀ {K:List It},Qf .ret φ σ->AK X N Qf K .ret φ σ
 |[],h=>h
 |.code _::K,h=>AK.nx (K:=K) h
 |.blk _::K,h=>AK.nx (K:=K) h
 |.ops _ _::K,h=>AK.nx (K:=K) h
theorem AK.ret(h:Qf .ret φ σ):AK X N Qf (.code .ret::K) .normal φ σ:=AW.ret (AK.nx h)
def g7(id:Nat):List It->Option (List It)
 |[]=>none
 |.blk i::K=>match Nat.beq id i with|true=>some K|false=>g7 id K
 |_::K=>g7 id K
theorem AK.qu{id:Nat}:∀ {K b:List It},g7 id K=some b->AK X N Qf b .normal φ σ->AK X N Qf K (.exit id) φ σ
 |[],_,h,_=>by cases h
 |.blk i::K,b,h,q=>by
  simp only[g7] at h;cases a:Nat.beq id i with
  |true =>
   simp[a] at h;subst h;have e:=bn a;simp only[AK,e,aZ];exact q
  |false =>
   simp[a] at h;have c:id≠i:=λe=>by rw[e,ir] at a;cases a
   simp only[AK,c,aQ];exact AK.qu h q
 |.code _::K,b,h,q=>AK.qu (K:=K) h q
 |.ops _ _::K,b,h,q=>AK.qu (K:=K) h q
theorem AK.exit{id:Nat}{a:List It}(b:g7 id K=some a)(h:AK X N Qf a .normal φ σ):AK X N Qf (.code (.exit id)::K) .normal φ σ:=AW.exit (AK.qu b h)
theorem AK.cond{c:Operand}{x y:Code}{b:Bool}{t:Nat}(a:c=.tmp t)(hl:look φ t=.e (.one (.c (.bool b))))
  (f:b=true->AK X N Qf (.code x::K) .normal φ σ) (d:b=false->AK X N Qf (.code y::K) .normal φ σ):AK X N Qf (.code (.cond c x y)::K) .normal φ σ:=AW.cond a hl f d
theorem AK.loop{S:Type}{c:Code}(I:S->Prop)(fr:S->Fr)(st:S->List ak)(a:S->Nat)(x:S)(f:I x)(b:nz φ (fr x))(d:st x=σ)
  (round:∀ x,I x->AK X N (λe φ' σ'=>match e with
   |.normal=>∃ y,I y/\a y<a x/\nz φ' (fr y)/\σ'=st y
   |e=>AK X N Qf K e φ' σ') [.code c] .normal (fr x) (st x)):AK X N Qf (.code (.loop c)::K) .normal φ σ:=by
 refine AW.loop I fr st a x f b d λy g=>AW.mono (round y g) ?_
 intro e φ' σ' q;cases e <;> exact q
end
def bZ{α a:Type}:List α->(List α->Option a)->Option a
 |[],k=>k []
 |x::r,k=>bZ r λq=>k (x::q)
theorem bM{α b:Type}(l:List α)(k:List α->Option b):bZ l k=k l:=by
 induction l generalizing k with
 |nil=>rfl
 |cons x r a=>simp[bZ,a]
def xL(φ:Fr)(all:List Oper)(j:Nat):Option (Option Bool) :=
 match eb j all with
 |some oj=>match oj.dst with
  |some d=>match look φ d with
   |.e (.one (.c (.bool true)))=>some (some true)
   |.e (.one (.c (.bool false)))=>some (some false)
   |.eY []=>some none
   |_=>none
  |none=>none
 |none=>none
theorem ss{N:Nat}{φ:Fr}{all:List Oper}{j:Nat}{r:Option Bool}(h:xL φ all j=some r){σ:List ak}{s:St}{a:Act}(f:br N σ s φ a):yielded all.toArray a.tmps j=r:=by
 unfold xL at h;rw[dm] at h;unfold yielded;cases n:all[j]? with
 |none=>simp[n] at h
 |some oj =>
  simp only[n] at h;simp only[gd,n,kr];cases o:oj.dst with
  |none=>simp[o] at h
  |some d =>
   simp only[o] at h;simp only[kr];have e:=f.slot d;have key:∀ v,a.tmps.getD d undef=v->v≠undef->a.tmps[d]?=some v:=by
    intro v c m;simp only[bP] at c;cases k:a.tmps[d]? with
    |none=>rw[k] at c;exact absurd c.symm m
    |some u=>rw[k] at c;simp at c;rw[c]
   split at h
   ·rename_i g
    cases h;rw[g] at e;have b:=ei e;generalize c:a.tmps.getD d undef=v at b;cases b;rw[key _ c (by simp[undef])]
   ·rename_i g
    cases h;rw[g] at e;have b:=ei e;generalize c:a.tmps.getD d undef=v at b;cases b;rw[key _ c (by simp[undef])]
   ·rename_i g
    cases h;rw[g] at e;obtain⟨vs,i,p⟩:=e;have l:vs=[]:=by cases vs with
     |nil=>rfl
     |cons _ _=>exact p.elim
    subst l;simp only[bP] at i;cases k:a.tmps[d]? with
    |none=>rfl
    |some u =>
     rw[k] at i;simp at i;subst i;rfl
   ·cases h
def Nl(T:List (Nat×TI))(φ:Fr)(σ:List ak)(o:Oper):Option (D×List ak×List Prop) :=
 match o.op with
 |.move x|.assign x=>some (bw φ x,σ,[])
 |.pick c a b=>match bw φ c with
  |.e (.one (.c (.bool true)))=>some (bw φ a,σ,[])
  |.e (.one (.c (.bool false)))=>some (bw φ b,σ,[])
  |_=>none
 |.binOp op _ x y _=>match bw φ x,bw φ y with
  |.e (.one (.c a)),.e (.one (.c b))=>match Gi op a b with
   |some (c,obs)=>some (.e (.one (.c c)),σ,obs)
   |none=>none
  |_,_=>none
 |.unOp op _ x=>match bw φ x with
  |.e (.one (.c a))=>match Nk op a with
   |some c=>some (.e (.one (.c c)),σ,[])
   |none=>none
  |_=>none
 |.extract x j=>match bw φ x with
  |.eY xs=>match eb j xs with
   |some e=>some (.e e,σ,[])
   |none=>none
  |_=>none
 |.alloc E=>match aJ T E with
  |some i=>bZ (σ++[.cells E (i.zero.map A.c)]) λσ'=>some (.e (.one (.ptr σ.length 0)),σ',[])
  |none=>none
 |.box E x=>match kI (bw φ x) with
  |some cs=>bZ (σ++[.cells E cs]) λσ'=>some (.e (.one (.ptr σ.length 0)),σ',[])
  |none=>none
 |.load t x=>match aJ T t with
  |some i=>match bw φ x with
   |.e (.one (.ptr l off))=>match eb l σ with
    |some (.cells _ cs)=>match jX i (eL off cs) with
     |some e=>some (.e e,σ,[])
     |none=>none
    |_=>none
   |.e (.one (.c (.rp cs)))=>match jX i (cs.map A.c) with
    |some e=>some (.e e,σ,[])
    |none=>none
   |_=>none
  |none=>none
 |.store t x y=>match aJ T t with
  |some i=>match bw φ x with
   |.e (.one (.ptr l off))=>match eb l σ with
    |some (.cells E cs)=>match kI (bw φ y) with
     |some new=>match Nat.beq new.length i.size with
      |true=>match du off new cs with
       |some lr=>bZ (cQ.oV l (.cells E lr) σ) λσ'=>some (.any,σ',[])
       |none=>none
      |false=>none
     |none=>none
    |_=>none
   |_=>none
  |none=>none
 |.fieldAddr t x f=>match gj T t f with
  |some (k,_)=>match bw φ x with
   |.e (.one (.ptr l off))=>some (.e (.one (.ptr l (off+k))),σ,[])
   |.e (.one (.c (.rp cs)))=>some (.e (.one (.c (.rp (eL k cs)))),σ,[])
   |_=>none
  |none=>none
 |.field t x f=>match gj T t f with
  |some (k,j)=>match bw φ x with
   |.e (.agg cs)=>match jX j (eL k cs) with
    |some e=>some (.e e,σ,[])
    |none=>none
   |_=>none
  |none=>none
 |.nilCheck x=>match bw φ x with
  |.e (.one (.ptr l off))=>some (.e (.one (.ptr l off)),σ,[])
  |.e (.one (.c (.rp cs)))=>some (.e (.one (.c (.rp cs))),σ,[])
  |_=>none
 |.build t parts=>match ud T (bw φ) t parts.toList with
  |some cs=>some (.e (.agg cs),σ,[])
  |none=>none
 |.buildSlice t n parts=>match Gj T (bw φ) t n parts.toList with
  |some (k,es)=>some (.e (.one (.c (.sl true k n λi=>es.getD i []))),σ,[])
  |none=>none
 |_=>none
theorem xN{P:Program}{T:List (Nat×TI)}(m:bV P T){φ:Fr}{σ σ':List ak}{o:Oper}{x:D}{obs:List Prop}(h:Nl T φ σ o=some (x,σ',obs))(A:aa obs):aG P o (bw φ) σ x σ':=by
 unfold Nl at h;split at h
 ·rename_i y d
  cases h;exact aG.move d
 ·rename_i y d
  cases h;exact aG.assign d
 ·rename_i c a b d
  split at h
  ·rename_i g;cases h;exact aG.pick d g
  ·rename_i g;cases h;exact aG.pick d g
  ·cases h
 ·rename_i op t y z ty d
  split at h
  ·rename_i a b r s
   split at h
   ·rename_i c u g;cases h;exact aG.binOp d r s g A
   ·cases h
  ·cases h
 ·rename_i op t y d
  split at h
  ·rename_i a r
   split at h
   ·rename_i c g;cases h;exact aG.unOp d r g
   ·cases h
  ·cases h
 ·rename_i y j d
  split at h
  ·rename_i xs hx
   split at h
   ·rename_i e w;cases h;exact aG.extract d hx (cO w)
   ·cases h
  ·cases h
 ·rename_i E d
  split at h
  ·rename_i i hi;rw[bM] at h;cases h;exact aG.alloc m d hi
  ·cases h
 ·rename_i E y d
  split at h
  ·rename_i cs g;rw[bM] at h;cases h;exact aG.box d g
  ·cases h
 ·rename_i t y d
  split at h
  ·rename_i i hi
   split at h
   ·rename_i l off hx
    split at h
    ·rename_i E cs hB
     split at h
     ·rename_i e p;cases h;exact aG.zx m d hx (cO hB) hi p
     ·cases h
    ·cases h
   ·rename_i cs hx
    split at h
    ·rename_i e p;cases h;exact aG.CZ m d hx hi p
    ·cases h
   ·cases h
  ·cases h
 ·rename_i t y z d
  split at h
  ·rename_i i hi
   split at h
   ·rename_i l off hx
    split at h
    ·rename_i E cs hB
     split at h
     ·rename_i new hn
      split at h
      ·rename_i s
       split at h
       ·rename_i v B
        rw[bM,jo] at h;cases h;exact aG.store m d hx (cO hB) hi hn (bn s) B
       ·cases h
      ·cases h
     ·cases h
    ·cases h
   ·cases h
  ·cases h
 ·rename_i t y f d
  split at h
  ·rename_i k j q
   split at h
   ·rename_i l off hx;cases h;exact aG.nt m d hx q
   ·rename_i cs hx;cases h;exact aG.oE m d hx q
   ·cases h
  ·cases h
 ·rename_i t y f d
  split at h
  ·rename_i k j q
   split at h
   ·rename_i cs hx
    split at h
    ·rename_i e p;cases h;exact aG.field m d hx q p
    ·cases h
   ·cases h
  ·cases h
 ·rename_i y d
  split at h
  ·rename_i l off hx;cases h;exact aG.oF d hx
  ·rename_i cs hx;cases h;exact aG.qm d hx
  ·cases h
 ·rename_i t parts d
  split at h
  ·rename_i cs g;cases h;exact aG.build m d g
  ·cases h
 ·rename_i t n parts d
  split at h
  ·rename_i k es g;cases h;exact aG.buildSlice m d g
  ·cases h
 ·cases h
def ij(N:Nat):Option Nat->Bool
 |some d=>Nat.ble (d+1) N
 |none=>true
theorem gY{N:Nat}{d:Option Nat}(h:ij N d=true):∀ t,d=some t->t<N:=by
 intro t a;subst a;exact c6 h
theorem de{all:List Oper}{o:Oper}(h:o.guard=none){a:Act}:Region.wanted o (yielded all.toArray a.tmps)=true:=by simp[Region.wanted,h]
section
variable {P:Program}{T:List (Nat×TI)}{o:Oper}{g:Operand->D}{σ:List ak}
def o5(g:Operand->D):Option Operand->Option (Option Int)
 |none=>some none
 |some x=>match g x with
  |.e (.one (.c (.int _ j)))=>some (some j)
  |_=>none
theorem fM{s:St}{a:Operand->Value}(e:∀ y,cd σ s (a y) (g y)){x:Option Operand}{b:Option Int}(h:o5 g x=some b):(x.map a=none/\b=none)∨∃ k j,x.map a=some (.int k j)/\b=some j:=by
 cases x with
 |none=>cases h;exact .inl ⟨rfl,rfl⟩
 |some y =>
  right
  simp only[o5] at h;split at h
  ·rename_i k j c
   cases h;have:=e y;rw[c] at this;have:=ei this;generalize d:a y=v at this;cases this;exact⟨k,j,by simp[d],rfl⟩
  ·cases h
def cy(d:Nat):Option Int->Nat
 |none=>d
 |some j=>j.toNat
def ib(n:Nat):Option Int->Option Int->List Prop
 |none,none=>[]
 |some l,none=>[0<=l,l<=n]
 |none,some h=>[0<=h,h<=n]
 |some l,some h=>[0<=l,l<=h,h<=n]
theorem kB{isS:Bool}{n cap:Nat}(q:n<=cap){lo hi:Option Value}{l h:Option Int}(m:(lo=none/\l=none)∨∃ k j,lo=some (.int k j)/\l=some j)(i:(hi=none/\h=none)∨∃ k j,hi=some (.int k j)/\h=some j)
  (c:aa (ib n l h)) (w:World):(Instr.sliceBounds isS n cap lo hi none).run P w=.ok (cy 0 l,cy n h,cap) w/\cy 0 l<=cy n h/\cy n h<=n:=by
 rcases m with⟨rfl,rfl⟩|⟨f,l,rfl,rfl⟩ <;> rcases i with⟨rfl,rfl⟩|⟨d,h,rfl,rfl⟩
 ·exact⟨by simp[Instr.sliceBounds,cy],by simp[cy],by simp[cy]⟩
 ·obtain⟨a,b⟩:0<=h/\h<=(n:Int):=c;refine⟨?_,by simp[cy],by simp only[cy];omega⟩
  simp[Instr.sliceBounds,cy,run_sliceBound (P:=P) w d h cap _ a (by omega)]
 ·obtain⟨a,b⟩:0<=l/\l<=(n:Int):=c;refine⟨?_,by simp only[cy];omega,by simp[cy]⟩
  simp[Instr.sliceBounds,cy,run_sliceBound (P:=P) w f l n _ a b]
 ·obtain⟨a,b,p⟩:0<=l/\l<=h/\h<=(n:Int):=c;have e:((h.toNat:Nat):Int)=h:=tJ (by omega)
  refine⟨?_,by simp only[cy];omega,by simp only[cy];omega⟩
  simp[Instr.sliceBounds,cy,run_sliceBound (P:=P) w d h cap _ (by omega) (by omega),run_sliceBound (P:=P) w f l h.toNat _ a (by omega)]
theorem eu(w:World)(k:IntKind) (i:Int)(y:Nat)(code:BoundsCode)(a:0<=i)(b:i<=(y:Int))(es:Array Event):(Instr.sliceBound (.int k i) y code).events P w es=es:=by
 simp[Instr.sliceBound,asIntOf,a,b]
theorem lW{isS:Bool}{n cap:Nat}{lo hi:Option Value}{l h:Option Int}(s:n<=cap)(p:(lo=none/\l=none)∨∃ k j,lo=some (.int k j)/\l=some j)(m:(hi=none/\h=none)∨∃ k j,hi=some (.int k j)/\h=some j)
  (f:aa (ib n l h)) (w:World) (es:Array Event):(Instr.sliceBounds isS n cap lo hi none).events P w es=es:=by
 have r:∀ (isS:Bool) (v:Option Value) (d:Nat) (w:World) (es:Array Event),v=none->(Instr.sliceBounds isS n cap none none none).events P w es=es:=λisS v d w es _=>by simp[Instr.sliceBounds]
 rcases p with⟨rfl,rfl⟩|⟨i,l,rfl,rfl⟩ <;> rcases m with⟨rfl,rfl⟩|⟨c,h,rfl,rfl⟩
 ·simp[Instr.sliceBounds]
 ·obtain⟨a,b⟩:0<=h/\h<=(n:Int):=f;simp[Instr.sliceBounds,eu (P:=P) w c h cap _ a (by omega)]
 ·obtain⟨a,b⟩:0<=l/\l<=(n:Int):=f;simp[Instr.sliceBounds,eu (P:=P) w i l n _ a b]
 ·obtain⟨a,b,q⟩:0<=l/\l<=h/\h<=(n:Int):=f;have e:((h.toNat:Nat):Int)=h:=tJ (by omega)
  simp[Instr.sliceBounds,run_sliceBound (P:=P) w c h cap _ (by omega) (by omega),eu (P:=P) w c h cap _ (by omega) (by omega),eu (P:=P) w i l h.toNat _ a (by omega)]
def nk(s:List UInt8):Option Int->Option Int->List UInt8
 |none,none=>s
 |some l,none=>s.drop l.toNat
 |none,some h=>s.take h.toNat
 |some l,some h=>(s.take h.toNat).drop l.toNat
theorem aG.CW(A:bV P T){t:TypeId}{x:Operand}{lo hi:Option Operand}(h:o.op=.slice t x lo hi none){i:TI}(k:aJ T t=some i)(z:i.desc=.string){s:List UInt8}{l u:Option Int}
  (B:g x=.e (.one (.c (.str s)))) (hl:o5 g lo=some l) (p:o5 g hi=some u) (q:aa (ib s.length l u)):aG P o g σ (.e (.one (.c (.str (nk s l u))))) σ:=by
 refine .quiet λst ρ hh hr=>?_
 have h1:=hr x;rw[B] at h1
 replace h1:=ei h1
 generalize f:ρ x=vx at h1;cases h1 with
 |@str sb _ r v =>
 have b:sb.size=s.length:=by rw[<-r];exact fj.symm
 obtain⟨y,d,j⟩:=kB (P:=P) (isS:=false) (n:=sb.size) (cap:=sb.size) (aq _) (fM hr hl) (fM hr p) (by rw[b];exact q) st.w
 have a:=(A t i k).run_underlying (w:=st.w);rw[z] at a;have m:=lW (P:=P) (isS:=false) (n:=sb.size) (cap:=sb.size) (aq _) (fM hr hl) (fM hr p) (by rw[b];exact q) st.w
 refine⟨.string (sb.extract (cy 0 l) (cy sb.size u)),?_,Rd.str ?_ ?_,by simp[execOp,h,f,Instr.sliceAt,a,Instr.slice,m]⟩
 ·simp[execOp,h,f,Instr.sliceAt,a,Instr.slice,y]
 ·rw[Lib.extract_data,r,b];rw[b] at d j;cases l <;> cases u <;> simp only[nk,cy] at d j ⊢
  ·simp
  ·simp
  ·rw[List.take_of_length_le (by simp)]
  ·rw[List.drop_take]
 ·cases l <;> cases u <;> simp only[nk,la,List.length_take] <;> omega
def n3(l:Nat)(f:Nat->List C):Nat->List C:=λi=>f (l+i)
def IT(tt:Bool):Option Int->Bool
 |none=>tt
 |some _=>false
theorem aG.Gs(A:bV P T){t:TypeId}{x:Operand}{lo hi:Option Operand}(h:o.op=.slice t x lo hi none){i k:TI}{E:TypeId}(q:aJ T t=some i)(K:i.desc=.slice E)(J:aJ T E=some k){tt:Bool}{n:Nat}{es:Nat->List C}{l u:Option Int}
  (G:∀ s v,cd σ s v (g x)->Rd s.M v (.sl tt k.size n es)) (hl:o5 g lo=some l) (B:o5 g hi=some u) (z:aa (ib n l u)) :
  aG P o g σ (.e (.one (.c (.sl (IT tt u) k.size (cy n u-cy 0 l) (n3 (cy 0 l) es))))) σ:=by
 refine .quiet λst ρ hh hr=>?_
 have h1:=G st _ (hr x);obtain⟨a,cap,vs,r,m,O,I,R,S⟩:=h1.flat;rw[r] at h1;obtain⟨F,L,Q⟩:=kB (P:=P) (isS:=true) m (fM hr hl) (fM hr B) z st.w;have d:=(A t i q).run_underlying (w:=st.w);rw[K] at d;refine⟨.slice (if cap=cy 0 l then a else a.map (·.add (cy 0 l*k.size))) (cy n u-cy 0 l) (cap-cy 0 l),?_,?_,by simp[execOp,h,r,Instr.sliceAt,d,Instr.slice,F,lW (P:=P) (isS:=true) m (fM hr hl) (fM hr B) z st.w]⟩
 ·simp[execOp,h,r,Instr.sliceAt,d,Instr.slice,F,(A E k J).run_sizeOf]
 ·cases h1 with
  |sl b off f _ _ _ H N hm' Gc =>
   refine Rd.sl b (off+cy 0 l*k.size) (λi j=>f (cy 0 l+i) j) (by omega) (by omega) ?_ (λi hi=>H _ (by omega)) (λy=>?_) (λi hi j c hj=>?_) (λi hi j c hj=>Gc _ (by omega) j c hj)
   ·intro p;cases u with
    |none=>simp only[IT] at p;have:=I p;simp only[cy];omega
    |some u=>cases p
   ·rw[an (by omega),N (by omega)]
    simp[ck]
   ·have:=hm' (cy 0 l+i) (by omega) j c hj
    rw[show off+cy 0 l*k.size+i*k.size+j=off+(cy 0 l+i)*k.size+j by rw[eh];omega]
    exact this
theorem aG.Gq(p:bV P T){b dst:TypeId}{x:Operand}(h:o.op=.convert b dst x){i l:TI}{k k':IntKind}{j:Int}(hi:aJ T b=some i)(m:aJ T dst=some l)(q:l.desc=.int k')(r:g x=.e (.one (.c (.int k j))))(n:aB k' j) :
  aG P o g σ (.e (.one (.c (.int k' j)))) σ:=by
 refine .quiet λst ρ hh hr=>?_
 have h1:=hr x;rw[r] at h1
 replace h1:=ei h1
 generalize f:ρ x=vx at h1;cases h1;have d:=(p b i hi).run_underlying (w:=st.w);have a:=(p dst l m).run_underlying (w:=st.w);rw[q] at a;exact⟨.int k' j,by simp[execOp,h,f,convert,d,a,Conv.intToInt,jk n],Rd.int n,by simp[execOp,h,f,convert,d,a,Conv.intToInt]⟩
theorem aG.Gr(m:bV P T){b dst:TypeId}{x:Operand}(h:o.op=.convert b dst x){i k:TI}{s:List UInt8}(hi:aJ T b=some i)(l:aJ T dst=some k)(n:k.desc=.string)(p:g x=.e (.one (.c (.str s)))) :
  aG P o g σ (.e (.one (.c (.str s)))) σ:=by
 refine .quiet λst ρ hh hr=>?_
 have h1:=hr x;rw[p] at h1;have f:=ei h1;generalize d:ρ x=vx at f;cases f;have j:=(m b i hi).run_underlying (w:=st.w);have a:=(m dst k l).run_underlying (w:=st.w);rw[n] at a;exact⟨_,by simp[execOp,h,d,convert,j,a];rfl,by rw[<-d];exact h1,by simp[execOp,h,d,convert,j,a]⟩
def qj(f:Nat->List C):Nat->Nat->Option (List UInt8)
 |_,0=>some []
 |i,n+1=>match f i with
  |[.int .u8 v]=>match qj f (i+1) n with
   |some r=>some (UInt8.ofNat v.toNat::r)
   |none=>none
  |_=>none
theorem sE{M:Mem}{f:Nat->List C}:∀ {n i:Nat}{r:List UInt8}{vs:List Value},qj f i n=some r->vs.length=n->(∀ j,j<n->∀ c,(f (i+j))[0]?=some c->∃ v,vs[j]?=some v/\Rd M v c) ->
  ∃ xs:List Int,vs=xs.map (Value.int .u8)/\r=xs.map (λx=>UInt8.ofNat x.toNat)
 |0,i,r,vs,h,a,_=>by cases h;exact⟨[],by simpa using a,rfl⟩
 |n+1,i,r,[],h,a,_=>by simp at a
 |n+1,i,r,v::vs,h,a,b=>by
  simp only[qj] at h;split at h
  ·rename_i x s
   split at h
   ·rename_i q p
    cases h;obtain⟨u,d,e⟩:=b 0 (by omega) (.int .u8 x) (by simp[s])
    simp at d;subst d;cases e;obtain⟨xs,m,k⟩:=sE (vs:=vs) p (by simpa using a) (λj t c l=>by
     have:=b (j+1) (by omega) c (by rw[show i+(j+1)=i+1+j by omega];exact l)
     simpa using this)
    exact⟨x::xs,by simp[m],by simp[k]⟩
   ·cases h
  ·cases h
theorem kS{P:Program}(w:World){F:Value->ByteArray->Sem (ForInStep ByteArray)}(a:∀ x s,F (.int .u8 x) s=pure (.yield (s.push (UInt8.ofNat x.toNat)))):∀ (xs:List Int)(s:ByteArray),
  (forIn (m:=Sem) (xs.map (Value.int .u8)) s F).run P w=.ok ⟨s.data++(xs.map λx=>UInt8.ofNat x.toNat).toArray⟩ w
 |[],s=>by simp
 |x::xs,s=>by
  simp only[iF,List.forIn_cons,a,aU,b8,bh];rw[kS w a xs]
  congr 2
  apply fH
  simp[ByteArray.push]
end
end Go.AM
namespace Go.AM
open Go.Conc (G)
def OA{P:Program}(X:Cx P)(N:Nat)(all:List Oper)(o:Oper)(φ:Fr)(σ:List ak)(x:D)(σ':List ak):Prop :=
 ∀ s a,br N σ s φ a->ag σ s->∀ (b:Frame) (k:List Item) (cs:List Frame) (S:Goroutine->St->Prop) (i:Nat) (rest:List Nat),b.kind≠.early->all.toArray[i]?=some o ->
  (∀ v s',cd σ' s' v x->ag σ' s'->bD σ s σ' s'->dk X S (G (b.aT (a.put o.dst v) (.inRegion all.toArray rest::k)) cs) s')->dk X S (G (b.aT a (.inRegion all.toArray (i::rest)::k)) cs) s
section
variable {P:Program}{X:Cx P}{N:Nat}{all rest:List Oper}{φ φ':Fr}{σ σ':List ak}{o:Oper}{x:D}
theorem OA.jg(p:∀ σ s a,br N σ s φ a->Region.wanted o (yielded all.toArray a.tmps)=true)(h:aG P o (bw φ) σ x σ'):OA X N all o φ σ x σ':=by
 intro s a f hh b k cs S i rest q hi hK;refine xU q hi (p _ _ _ f) λg c=>?_
 have d:=hh.rely c;obtain⟨r,s',h1,h2,e,j,n⟩:=h g a.eval d (fJ (f.rely c hh));have l:=c.stepW.trans (j.mH d);have m:mD g s' ((execOp a.eval o).events P g.w #[]):=⟨⟨σ,σ',d,e,j⟩,n⟩;cases r with
 |value v=>exact⟨_,s',v,h1,.inl rfl,m,hK v s' h2 e l⟩
 |skip=>simp only[LS] at h2;subst h2;exact⟨_,s',undef,h1,.inr ⟨rfl,rfl⟩,m,hK undef s' ab e l⟩
 |_=>exact h2.elim
theorem OA.pass(d:∀ σ s a,br N σ s φ a->Region.wanted o (yielded all.toArray a.tmps)=false):OA X N all o φ σ (.eY []) σ:=by
 intro s a f hh b k cs S i rest g hi hK;exact .ctl hh rfl (λ_=>F4 hi (d _ _ _ f)) λe c=>hK undef e ⟨[],rfl,ab⟩ (hh.rely c) c.stepW
theorem gB.uu{Q:Fr->List ak->Prop}(h:OA X N all o φ σ x σ')(g:∀ t,o.dst=some t->t<N)(k:gB X N all rest Q (mF o.dst x φ) σ'):gB X N all (o::rest) Q φ σ:=by
 intro s a f hh b kk cs S idx hb lq hQ;cases idx with
 |nil=>exact lq.elim
 |cons i idx =>
 refine h s a f hh b kk cs S i idx hb lq.1 λv s' hv md st=>k s' _ ?_ md b kk cs S idx hb lq.2 λc σ2 s2 a2 q d h2 na=>hQ c σ2 s2 a2 q d h2 (st.trans na)
 cases e:o.dst with
 |none=>exact f.mono st hh.len
 |some t=>exact(f.mono st hh.len).put (g t e) hv
end
abbrev bE:=List D->List ak->Option (D×List ak×List Prop)
def sx:List (Nat×bE)->Nat->Option bE
 |[],_=>none
 |(i,g)::r,f=>cond (Nat.beq i f) (some g) (sx r f)
def bO{P:Program}(X:Cx P)(f:FuncId)(g:bE):Prop:=∀ args σ res σ' obs,g args σ=some (res,σ',obs)->aa obs->Ev X f args σ res σ'
def aM{P:Program}(X:Cx P)(CT:List (Nat×bE)):Prop:=∀ f g,sx CT f=some g->bO X f g
theorem aM.nil{P:Program}{X:Cx P}:aM X []:=λ_ _ h=>by cases h
theorem aM.cons{P:Program}{X:Cx P}{f:FuncId}{g:bE}{CT:List (Nat×bE)}(h:bO X f g)(r:aM X CT):aM X ((f,g)::CT):=by
 intro b g2 h2;simp only[sx] at h2;cases a:Nat.beq f b with
 |true=>rw[a] at h2;cases h2;rw[<-bn a];exact h
 |false=>rw[a] at h2;exact r b g2 h2
def QS:A->List Nat->List Nat
 |.ptr l _,ks=>cond (fE l ks) ks (ks++[l])
 |.vec l _ _ _,ks=>cond (fE l ks) ks (ks++[l])
 |.ref l,ks=>cond (fE l ks) ks (ks++[l])
 |.bp l _,ks=>cond (fE l ks) ks (ks++[l])
 |_,ks=>ks
def QT:List A->List Nat->List Nat
 |[],ks=>ks
 |a::r,ks=>QT r (QS a ks)
def SV:D->List Nat->List Nat
 |.e (.one a),ks=>QS a ks
 |.e (.agg cs),ks=>QT cs ks
 |_,ks=>ks
def LU:List D->List Nat->List Nat
 |[],ks=>ks
 |a::r,ks=>LU r (SV a ks)
def vu(l:Nat):List Nat->Nat->Option Nat
 |[],_=>none
 |k::r,i=>match Nat.beq k l with|true=>some i|false=>vu l r (i+1)
theorem nA{l:Nat}:∀ {ks:List Nat}{i j:Nat},vu l ks i=some j->i<=j/\ks[j-i]?=some l
 |[],_,_,h=>by cases h
 |k::r,i,j,h=>by
  simp only[vu] at h;cases a:Nat.beq k l with
  |true=>rw[a] at h;cases h;exact⟨aq _,by simp[bn a]⟩
  |false =>
   rw[a] at h;obtain⟨c,b⟩:=nA h;refine⟨by omega,?_⟩
   rw[show j-i=(j-(i+1))+1 by omega]
   simpa using b
def KR(ks:List Nat):A->Option A
 |.ptr l o=>match vu l ks 0 with|some i=>some (.ptr i o)|none=>none
 |.ref l=>match vu l ks 0 with|some i=>some (.ref i)|none=>none
 |.bp l w=>match vu l ks 0 with|some i=>some (.bp i w)|none=>none
 |.vec _ _ _ _=>none
 |.c x=>some (.c x)
 |.any=>some .any
def Nw(ks:List Nat):List A->Option (List A)
 |[]=>some []
 |a::r=>match KR ks a with
  |some b=>match Nw ks r with
   |some q=>some (b::q)
   |none=>none
  |none=>none
def O0(ks:List Nat):D->Option D
 |.e (.one a)=>match KR ks a with|some b=>some (.e (.one b))|none=>none
 |.e (.agg cs)=>match Nw ks cs with|some b=>some (.e (.agg b))|none=>none
 |.eY _=>none
 |.any=>some .any
def AV(ks:List Nat):List D->Option (List D)
 |[]=>some []
 |a::r=>match O0 ks a with
  |some b=>match AV ks r with
   |some q=>some (b::q)
   |none=>none
  |none=>none
theorem Dk{ks:List Nat}{a b:A}(h:KR ks a=some b):kU ks b=a/\Ax ks.length b=true:=by
 cases a with
 |ptr l o =>
  simp only[KR] at h;split at h
  ·rename_i i hi
   cases h;obtain⟨_,d⟩:=nA hi;simp only[ky] at d;have e:i<ks.length:=(aF.1 d).1;exact⟨by simp[kU,dm,d],pn e⟩
  ·cases h
 |ref l =>
  simp only[KR] at h;split at h
  ·rename_i i hi
   cases h;obtain⟨_,d⟩:=nA hi;simp only[ky] at d;have e:i<ks.length:=(aF.1 d).1;exact⟨by simp[kU,dm,d],pn e⟩
  ·cases h
 |bp l w =>
  simp only[KR] at h;split at h
  ·rename_i i hi
   cases h;obtain⟨_,d⟩:=nA hi;simp only[ky] at d;have e:i<ks.length:=(aF.1 d).1;exact⟨by simp[kU,dm,d],pn e⟩
  ·cases h
 |vec l k n es=>cases h
 |c x=>cases h;exact⟨rfl,rfl⟩
 |any=>cases h;exact⟨rfl,rfl⟩
theorem Dl{ks:List Nat}:∀ {a b:List A},Nw ks a=some b->vj ks b=a/\Ay ks.length b=true
 |[],b,h=>by cases h;exact⟨rfl,rfl⟩
 |a::r,b,h=>by
  simp only[Nw] at h;split at h
  ·rename_i x i
   split at h
   ·rename_i q g
    cases h;obtain⟨e,c⟩:=Dk i;obtain⟨f,d⟩:=Dl g;exact⟨by simp[vj,e,f],by simp[Ay,c,d]⟩
   ·cases h
  ·cases h
theorem Jj{ks:List Nat}{a b:D}(h:O0 ks a=some b):iN ks b=a/\vd ks.length b=true:=by
 unfold O0 at h;split at h
 ·rename_i a
  split at h
  ·rename_i x e;cases h;obtain⟨c,d⟩:=Dk e;exact⟨by simp[iN,tR,c],by simp[vd,CB,d]⟩
  ·cases h
 ·rename_i cs
  split at h
  ·rename_i x e;cases h;obtain⟨c,d⟩:=Dl e;exact⟨by simp[iN,tR,c],by simp[vd,CB,d]⟩
  ·cases h
 ·cases h
 ·cases h;exact⟨rfl,rfl⟩
theorem zI{ks:List Nat}:∀ {a b:List D},AV ks a=some b->jl ks b=a/\oU ks.length b=true
 |[],b,h=>by cases h;exact⟨rfl,rfl⟩
 |a::r,b,h=>by
  simp only[AV] at h;split at h
  ·rename_i x i
   split at h
   ·rename_i q g
    cases h;obtain⟨e,c⟩:=Jj i;obtain⟨f,d⟩:=zI g;exact⟨by simp[jl,e,f],by simp[oU,c,d]⟩
   ·cases h
  ·cases h
def CU(CT:List (Nat×bE))(φ:Fr)(σ:List ak)(a:Operand)(xs:List Operand):Option (D×List ak×List Prop) :=
 match gL (bw φ a) with
 |none=>none
 |some (f,cap)=>match sx CT f with
  |none=>none
  |some g =>
   let args:=m8 (xs.map (bw φ)++jq cap)
   let ks:=LU args []
   match AV ks args with
   |none=>none
   |some Dm=>match jT ks σ with
    |none=>none
    |some σs=>match g Dm σs with
     |none=>none
     |some (res,σ1,obs)=>match cn σs,cn σ1,dn ks,Nat.ble ks.length σ1.length with
      |true,true,true,true=>some (iN (ks++lp σ.length (σ1.length-ks.length)) res,cQ ks σ1 σ,obs)
      |_,_,_,_=>none
theorem OA.Ia{P:Program}{X:Cx P}{N:Nat}{all:List Oper}{φ:Fr}{σ:List ak}{o:Oper}{CT:List (Nat×bE)}(hC:aM X CT){A:Operand}{xs:Array Operand}{K:Array TypeId}
  (O:∀ σ s a,br N σ s φ a->Region.wanted o (yielded all.toArray a.tmps)=true) (M:o.op=.call { callee:=.value A,args:=xs,argTypes:=K }) {f:FuncId} {cap:List C} (z:gL (bw φ A)=some (f,cap)) {g:bE} (J:sx CT f=some g)
  {ks:List Nat} {d:List D} {p σ1:List ak} {res:D} {obs:List Prop} (I:AV ks (m8 (xs.toList.map (bw φ)++jq cap))=some d) (H:jT ks σ=some p) (t:g d p=some (res,σ1,obs))
  (Q:cn p=true) (E:cn σ1=true) (T:dn ks=true) (F:ks.length<=σ1.length) (y:aa obs):OA X N all o φ σ (iN (ks++lp σ.length (σ1.length-ks.length)) res) (cQ ks σ1 σ):=by
 obtain⟨m,B⟩:=zI I;intro s a l hh b kk cs S i rest R hi hK;have q:=hC f g J _ _ _ _ _ t y;have v:=fJ l A;unfold gL at z;split at z
 case h_2=>cases z
 case h_1 f' KX he =>
  cases z;rw[he] at v;have k:=ei v;generalize L:a.eval A=fv at k;cases k with
  |fn fs lr hl xE f1 f2 h1 h2 r1 r2 =>
   have G:fs=[]:=fO hl;subst G;have n:bX σ s lr (jq cap):=m9 (λj c hj=>⟨f2 j,h2 j (by rw[xE];exact(aF.1 hj).1),r2 j c hj⟩) xE
   have r:bX σ s (xs.toList.map a.eval++lr) (jl ks d):=by
    rw[m];exact qb ((pC (fJ l) xs.toList).append n)
   obtain⟨fn,u,h,e⟩:=q.1;exact CE R hi (O _ _ _ l) hh (λw=>(lX M u h e L w).1) (λw=>(lX M u h e L w).2) q r B H Q E T F hK
theorem OA.call{P:Program}{X:Cx P}{N:Nat}{all:List Oper}{φ:Fr}{σ σ':List ak}{o:Oper}{CT:List (Nat×bE)}(hC:aM X CT){m:Operand}{xs:Array Operand}{d:Array TypeId}{x:D}{obs:List Prop}
  (n:∀ σ s a,br N σ s φ a->Region.wanted o (yielded all.toArray a.tmps)=true) (q:o.op=.call { callee:=.value m,args:=xs,argTypes:=d })
  (b:CU CT φ σ m xs.toList=some (x,σ',obs)) (c:aa obs):OA X N all o φ σ x σ':=by
 unfold CU at b;split at b
 ·cases b
 rename_i f cap hf
 split at b
 ·cases b
 rename_i g k
 simp only at b;split at b
 ·cases b
 rename_i h l
 split at b
 ·cases b
 rename_i r j
 split at b
 ·cases b
 rename_i res σ1 O1 Jk
 split at b
 case h_2=>cases b
 rename_i p e t i
 cases b;exact OA.Ia hC n q hf k l j Jk p e t (c6 i) c
theorem Dn{d:D}(h:vd 0 d=true):iN [] d=d:=by
 have g:∀ {a:A},Ax 0 a=true->kU [] a=a:=by
  intro a b;cases a <;> simp only[Ax] at b <;> first|rfl|(simp at b)
 have j:∀ {l:List A},Ay 0 l=true->vj [] l=l:=by
  intro l
  induction l with
  |nil=>intro _;rfl
  |cons a r f =>
   intro h;simp only[Ay] at h;cases b:Ax 0 a with
   |false=>simp[b] at h
   |true=>simp only[b] at h;simp[vj,g b,f h]
 have i:∀ {a:E1},CB 0 a=true->tR [] a=a:=by
  intro a b;cases a with
  |one a=>simp[tR,g b]
  |agg cs=>simp[tR,j b]
 have c:∀ {l:List E1},rH 0 l=true->se [] l=l:=by
  intro l
  induction l with
  |nil=>intro _;rfl
  |cons a r f =>
   intro h;simp only[rH] at h;cases b:CB 0 a with
   |false=>simp[b] at h
   |true=>simp only[b] at h;simp[se,i b,f h]
 cases d with
 |e x=>simp[iN,i h]
 |eY xs=>simp[iN,c h]
 |any=>rfl
def vt(CT:List (Nat×bE))(φ:Fr)(a:Operand)(xs:List Operand):Option (D×List Prop) :=
 match gL (bw φ a) with
 |none=>none
 |some (f,cap)=>match sx CT f with
  |none=>none
  |some g=>match AV [] (m8 (xs.map (bw φ)++jq cap)) with
   |none=>none
   |some Dm=>match g Dm [] with
    |some (res,[],obs)=>match vd 0 res with
     |true=>some (res,obs)
     |false=>none
    |_=>none
theorem OA.vt{P:Program}{X:Cx P}{N:Nat}{all:List Oper}{φ:Fr}{σ:List ak}{o:Oper}{CT:List (Nat×bE)}(hC:aM X CT){k:Operand}{xs:Array Operand}{d:Array TypeId}{x:D}{obs:List Prop}
  (l:∀ σ s a,br N σ s φ a->Region.wanted o (yielded all.toArray a.tmps)=true) (m:o.op=.call { callee:=.value k,args:=xs,argTypes:=d })
  (b:AM.vt CT φ k xs.toList=some (x,obs)) (c:aa obs):OA X N all o φ σ x σ:=by
 unfold AM.vt at b;split at b
 ·cases b
 rename_i f cap hf
 split at b
 ·cases b
 rename_i g i
 split at b
 ·cases b
 rename_i h j
 split at b
 case h_2=>cases b
 rename_i res O1 Jk
 split at b
 case h_2=>cases b
 rename_i e
 cases b;have:=OA.Ia (σ:=σ) hC l m hf i j rfl Jk rfl rfl rfl (aq _) c;simpa[lp,Dn e,cQ] using this
structure AA (N:Nat)(σ:List ak)(s:St)(V:Nat->D)(a:Act):Prop where
 size:a.tmps.size=N
 defers:∃ ls,kW σ s a.defers ls
 slot:∀ t,cd σ s (a.tmps.getD t undef) (V t)
theorem AA.CI{N:Nat}{σ:List ak}{s:St}{V:Nat->D}{φ:Fr}{a:Act}(f:AA N σ s V a)(h:∀ t σ s v,cd σ s v (V t)->cd σ s v (look φ t)):br N σ s φ a :=
 ⟨f.size,f.defers,λt=>h t _ _ _ (f.slot t)⟩
def bT(e:Edge):Bool:=Region.binds .any e
structure qe {P:Program}(X:Cx P)(N:Nat)(ops:Array Oper)(φ:Fr)(S:Nat->List ak)(x:Nat->D)(m:Nat->Fr)(free c:Nat->Bool)(p:Nat->Nat->Prop)(idx:Nat->Option Nat)(φ':Fr):Prop where
 di:P.follows Departure.mixedOrders=true
 back:∀ i o,ops[i]?=some o->∀ e∈o.after,bT e=true->e.on<i
 xF:∀ i o d,ops[i]?=some o->o.dst=some d->idx d=some i/\d<N
 oY:∀ d i,idx d=some i->∃ o,ops[i]?=some o/\o.dst=some d
 quiet:∀ i,c i=false->S (i+1)=S i
 one:∀ i o,ops[i]?=some o->free i=false->OA X N ops.toList o (m i) (S i) (x i) (S (i+1))
 all:∀ i o,ops[i]?=some o->free i=true->c i=false/\∀ k,OA X N ops.toList o (m i) (S k) (x i) (S k)
 cl:∀ L:Nat->Prop,(∀ i o,ops[i]?=some o->L i->∀ e∈o.after,bT e=true->L e.on)->∀ i j,p i j->(L i->L j)/\∃ o,ops[i]?=some o/\((∀ e∈o.after,bT e=true->L e.on)->L j)
 comp:∀ i f,i<ops.size->f<ops.size->c f=true->i≠f->free i=false->(f<i/\p i f)∨(i<f/\p f i)
 IM:∀ i o,ops[i]?=some o->∀ t σ s v,cd σ s v (match idx t with|some j=>(if ∃ e∈o.after,bT e=true/\e.on=j then x j else if ∃ oj,ops[j]?=some oj/\∃ e∈oj.after,bT e=true/\e.on=i then look φ t else .any)|none=>look φ t)->cd σ s v (look (m i) t)
 fin:∀ t σ s v,cd σ s v (match idx t with|some j=>x j|none=>look φ t)->cd σ s v (look φ' t)
open Classical in
noncomputable def dy(φ:Fr)(x:Nat->D)(idx:Nat->Option Nat)(L:Array Bool)(t:Nat):D :=
 match idx t with
 |some j=>if L.getD j false=true then x j else look φ t
 |none=>look φ t
theorem mem_ready{ops:Array Oper}{L:Array Bool}{i:Nat}:i∈Region.ready .any ops L↔∃ o,ops[i]?=some o/\L.getD i true=false/\∀ e∈o.after,bT e=true->L.getD e.on false=true:=by
 unfold Region.ready;simp only[pw,lO,bA,iC]
 constructor
 ·rintro⟨a,f,b⟩;rw[b0 a] at b;simp only[gG,cw,Array.all_eq_true',ko,iC] at b;refine⟨ops[i],b0 a,f,λe j d=>?_⟩
  rcases b e j with h|h
  ·unfold bT at d;rw[d] at h;cases h
  ·exact h
 ·rintro⟨o,a,f,b⟩;have g:i<ops.size:=(ey.1 a).1;refine⟨g,f,?_⟩;rw[a];simp only[gG,cw,Array.all_eq_true',ko,iC];intro e j;cases d:Region.binds .any e with
  |false=>exact .inl rfl
  |true=>exact .inr (b e j d)
section
variable {P:Program}{X:Cx P}{N:Nat}{ops:Array Oper}{φ φ':Fr}{S:Nat->List ak}{x:Nat->D}{m:Nat->Fr}{free c:Nat->Bool}{p:Nat->Nat->Prop}{idx:Nat->Option Nat}
theorem qe.chain(h:qe X N ops φ S x m free c p idx φ'){i:Nat}:∀ {k:Nat},i<=k->(∀ g,i<=g->g<k->c g=false)->S k=S i
 |0,b,_=>by rw[show i=0 by omega]
 |k+1,b,a=>by
  rcases bC k i with hl|hl
  ·rw[show i=k+1 by omega]
  ·rw[h.quiet k (a k hl (by omega)),h.chain (k:=k) hl (λg h1 h2=>a g h1 (by omega))]
theorem qe.last(h:qe X N ops φ S x m free c p idx φ'){L:Array Bool}(b:∀ i,i<ops.size->L.getD i false=true){k:Nat}{s0 s:St}{a:Act}(q:k<=ops.size)
  (n:∀ f,f<ops.size->c f=true->(L.getD f false=true↔f<k)) (e:AA N (S k) s (dy φ x idx L) a) (hh:ag (S k) s) (st:bD (S 0) s0 (S k) s) :
  br N (S ops.size) s φ' a/\ag (S ops.size) s/\bD (S 0) s0 (S ops.size) s:=by
 have l:S ops.size=S k:=h.chain q (λg h1 h2=>by
  cases u:c g with
  |false=>rfl
  |true=>have:=(n g h2 u).1 (b g h2);omega)
 rw[<-l] at e hh st;refine⟨e.CI λt σ s v d=>h.fin t σ s v ?_,hh,st⟩
 unfold dy at d;cases hi:idx t with
 |none=>simpa[hi] using d
 |some j =>
  simp only[hi] at d ⊢;obtain⟨o,r,_⟩:=h.oY _ _ hi;rw[ar (b j (ey.1 r).1)] at d;exact d
theorem cr{L:Array Bool}{i j:Nat}(hi:i<L.size):(L.setIfInBounds i true).getD j false=true↔j=i∨L.getD j false=true:=by
 simp only[bP]
 by_cases e:i=j
 ·subst e;rw[jF hi];simp
 ·rw[hO e]
  constructor
  ·exact .inr
  ·rintro(rfl|h)
   ·exact absurd rfl e
   ·exact h
theorem count_set:∀ {l:List Bool}{i:Nat},l[i]?=some false->((l.set i true).filter (λb=>!b)).length+1=(l.filter (λb=>!b)).length
 |[],_,h=>by simp at h
 |b::r,0,h=>by simp at h;subst h;simp
 |b::r,i+1,h=>by
  simp at h;have:=count_set (l:=r) h;cases b <;> simp[List.set_cons_succ] <;> omega
theorem qf(t:Nat)(L:Array Bool):Region.linearise.go .any ops 0 t L []=[]:=by simp[Region.linearise.go]
theorem lu(n t:Nat)(L:Array Bool):Region.linearise.go .any ops (n+1) t L []=match (Region.ready .any ops L)[t % (Region.ready .any ops L).length]? with
  |some i=>i::Region.linearise.go .any ops n (t / (Region.ready .any ops L).length) (L.setIfInBounds i true) []
  |none=>[]:=by
 simp only[Region.linearise.go]
 change (match (Region.ready .any ops L)[t % (Region.ready .any ops L).length]? with
   |some i=>Region.linearise.go .any ops n (t / (Region.ready .any ops L).length) (L.setIfInBounds i true) [i]
   |none=>[].reverse)=_
 cases (Region.ready .any ops L)[t % (Region.ready .any ops L).length]? with
 |none=>rfl
 |some i=>simp only[];rw[linearise_go_acc,List.reverse_singleton,List.singleton_append]
theorem qe.arr(h:qe X N ops φ S x m free c p idx φ'){SS:Goroutine->St->Prop}{b:Frame}{kk:List Item}{cs:List Frame}(F:b.kind≠.early){s0:St}
  (hQ:∀ s a,br N (S ops.size) s φ' a->ag (S ops.size) s->bD (S 0) s0 (S ops.size) s->dk X SS (G (b.aT a kk) cs) s) :
  ∀ (l:Nat) (L:Array Bool),L.size=ops.size->(L.toList.filter (λb=>!b)).length<=l ->
   (∀ i o,ops[i]?=some o->L.getD i false=true->∀ e∈o.after,bT e=true->L.getD e.on false=true) ->
   ∀ (k:Nat) (s:St) (a:Act),k<=ops.size->(∀ f,f<ops.size->c f=true->(L.getD f false=true↔f<k))->AA N (S k) s (dy φ x idx L) a->ag (S k) s->bD (S 0) s0 (S k) s ->
   ∀ t,dk X SS (G (b.aT a (.inRegion ops (Region.linearise.go .any ops l t L [])::kk)) cs) s:=by
 have fin:∀ (s:St) (a:Act),br N (S ops.size) s φ' a->ag (S ops.size) s->bD (S 0) s0 (S ops.size) s->dk X SS (G (b.aT a (.inRegion ops []::kk)) cs) s :=
  λs a a1 a2 a3=>.ctl a2 rfl (λ_=>et) λs1 zo=>hQ s1 a (a1.rely zo a2) (a2.rely zo) (a3.trans zo.stepW)
 intro l
 induction l with
 |zero =>
  intro L hs hf xu k s a hk E n hh st;have K:∀ i,i<ops.size->L.getD i false=true:=by
   intro i hi;have hm:L[i]'(by omega)∈L.toList:=by simp
   cases F:L[i]'(by omega) with
   |true=>simp[bP,b0 (by omega:i<L.size),F]
   |false =>
    have:L[i]'(by omega)∈L.toList.filter (λb=>!b):=pw.2 ⟨hm,by simp[F]⟩
    have:=tz this;omega
  intro t;rw[qf];obtain⟨a1,a2,a3⟩:=h.last K hk E n hh st;exact fin s a a1 a2 a3
 |succ l ih =>
  intro L hs hf xu k s a hk E n hh st;intro t;rw[lu];cases O:(Region.ready .any ops L)[t % (Region.ready .any ops L).length]? with
  |none =>
   have hr:Region.ready .any ops L=[]:=by
    cases hr:Region.ready .any ops L with
    |nil=>rfl
    |cons y ys =>
     rw[hr] at O;have J:t % (y::ys).length<(y::ys).length:=jj _ (by simp)
     simp at O;simp at J;omega
   have K:∀ i,i<ops.size->L.getD i false=true:=by
    intro i
    induction i using Nat.strongRecOn with
    |_ i NT =>
     intro hi;cases F:L.getD i false with
     |true=>rfl
     |false =>
      have hm:i∈Region.ready .any ops L:=mem_ready.2 ⟨ops[i],b0 hi,by
       simpa[bP,b0 (by omega:i<L.size)] using F,λe C R4=>by
       have:=h.back i _ (b0 hi) e C R4;exact NT _ this (by omega)⟩
      rw[hr] at hm;simp at hm
   obtain⟨a1,a2,a3⟩:=h.last K hk E n hh st;exact fin s a a1 a2 a3
  |some i =>
   have hi:=aH O;obtain⟨o,W,Qz,T⟩:=mem_ready.1 hi;have J:i<ops.size:=(ey.1 W).1;have B:¬L.getD i false=true:=by
    simp only[bP,b0 (by omega:i<L.size),cw] at Qz ⊢
    simp[Qz]
   have Li:=h.cl (λj=>L.getD j false=true) xu
   have V:∀ g,p g i->¬L.getD g false=true:=λg hg hL=>B ((Li g i hg).1 hL)
   have QA:∀ g,p i g->L.getD g false=true:=λg hg=>by
    obtain⟨_,o',H,hq⟩:=Li i g hg;rw[W] at H;cases H;exact hq T
   have Y:(L.setIfInBounds i true).size=ops.size:=by simp[hs]
   have Z:((L.setIfInBounds i true).toList.filter (λb=>!b)).length<=l:=by
    have h1:L.toList[i]?=some false:=by
     rw[nR,b0 (by omega:i<L.size)]
     simpa[bP,b0 (by omega:i<L.size)] using B
    have:=count_set h1;rw[pU];omega
   have NU:∀ j o',ops[j]?=some o'->(L.setIfInBounds i true).getD j false=true->∀ e∈o'.after,bT e=true->(L.setIfInBounds i true).getD e.on false=true:=by
    intro j o' H hj e C F;rw[cr (by omega)] at hj ⊢
    rcases hj with rfl|hj
    ·rw[W] at H;cases H;exact .inr (T e C F)
    ·exact .inr (xu j o' H hj e C F)
   have NV:br N (S k) s (m i) a:=n.CI λt σ s v Q=>h.IM i o W t σ s v (by
    unfold dy at Q;cases r:idx t with
    |none=>simpa[r] using Q
    |some j =>
     simp only[r] at Q ⊢;split
     ·rename_i hex
      obtain⟨e,C,F,rfl⟩:=hex;rw[ar (T e C F)] at Q;exact Q
     ·split
      ·rename_i hex
       obtain⟨oj,z,e,C,F,heq⟩:=hex;have Nd:¬L.getD j false=true:=λhL=>B (by have:=xu j oj z hL e C F;rwa [heq] at this)
       rw[an Nd] at Q;exact Q
      ·trivial)
   have zp:∀ (σ':List ak) (s':St) (v:Value),bD (S k) s σ' s'->cd σ' s' v (x i)->AA N σ' s' (dy φ x idx (L.setIfInBounds i true)) (a.put o.dst v):=by
    intro σ' s' v w Q;cases hd:o.dst with
    |none =>
     refine⟨n.size,n.defers.imp λ_ h1=>h1.mono w.ext,λt=>?_⟩
     have u:=(n.slot t).mono w.ext hh.len;simp only[Act.put];unfold dy at u ⊢;cases r:idx t with
     |none=>simpa[r] using u
     |some j =>
      simp only[r] at u ⊢;obtain⟨oj,z,R⟩:=h.oY _ _ r;have sj:j≠i:=by rintro rfl;rw[W] at z;cases z;rw[hd] at R;cases R
      have:((L.setIfInBounds i true).getD j false=true)↔L.getD j false=true:=by rw[cr (by omega)];simp[sj]
      simp only[this];exact u
    |some d =>
     obtain⟨NW,NX⟩:=h.xF i o d W hd;refine⟨by simp[Act.put,n.size],n.defers.imp λ_ h1=>h1.mono w.ext,λt=>?_⟩
     simp only[Act.put]
     by_cases e:d=t
     ·subst e;have NY:d<a.tmps.size:=by rw[n.size];exact NX
      simp only[bP,jF NY,cw];unfold dy;simp only[NW];rw[ar ((cr (by omega)).2 (.inl rfl))]
      exact Q
     ·have u:=(n.slot t).mono w.ext hh.len;simp only[bP] at u ⊢;rw[hO e];unfold dy at u ⊢;cases r:idx t with
      |none=>simpa[r] using u
      |some j =>
       simp only[r] at u ⊢;obtain⟨oj,z,R⟩:=h.oY _ _ r;have sj:j≠i:=by rintro rfl;rw[W] at z;cases z;rw[hd] at R;cases R;exact e rfl
       have:((L.setIfInBounds i true).getD j false=true)↔L.getD j false=true:=by rw[cr (by omega)];simp[sj]
       simp only[this];exact u
   have I:∀ (k':Nat),k'<=ops.size->OA X N ops.toList o (m i) (S k) (x i) (S k')->(∀ f,f<ops.size->c f=true->((L.setIfInBounds i true).getD f false=true↔f<k')) ->
     dk X SS (G (b.aT a (.inRegion ops (i::Region.linearise.go .any ops l (t / (Region.ready .any ops L).length) (L.setIfInBounds i true) [])::kk)) cs) s:=by
    intro k' NN R5 NZ;have:=R5 s a NV hh b kk cs SS i (Region.linearise.go .any ops l (t / (Region.ready .any ops L).length) (L.setIfInBounds i true) []) F (by simpa using W)
    simp only[nT] at this;exact this λv s' Q md w=>ih _ Y Z NU k' s' _ NN NZ (zp _ _ _ w Q) md (st.trans w) _
   have same:c i=false->∀ f,f<ops.size->c f=true->((L.setIfInBounds i true).getD f false=true↔f<k):=by
    intro hq f FR U;rw[cr (by omega),<-E f FR U]
    constructor
    ·rintro(rfl|h1)
     ·rw[hq] at U;cases U
     ·exact h1
    ·exact .inr
   cases q:free i with
   |true =>
    obtain⟨hq,N0⟩:=h.all i o W q;exact I k hk (N0 k) (same hq)
   |false =>
    have A:=h.one i o W q;have Lj:S i=S k:=by
     rcases Nat.le_total k i with hle|hle
     ·refine h.chain hle λg h1 h2=>?_
      cases C:c g with
      |false=>rfl
      |true =>
       exfalso;rcases h.comp i g J (by omega) C (by omega) q with⟨_,hc⟩|⟨hc,_⟩
       ·have:=(E g (by omega) C).1 (QA g hc);omega
       ·omega
     ·refine(h.chain hle λg h1 h2=>?_).symm
      cases C:c g with
      |false=>rfl
      |true =>
       exfalso;have QB:=(E g (by omega) C).2 h2
       by_cases HT:g=i
       ·subst HT;exact B QB
       ·rcases h.comp i g J (by omega) C (λe=>HT e.symm) q with⟨hc,_⟩|⟨_,hc⟩
        ·omega
        ·exact V g hc QB
    rw[Lj] at A;cases Lk:c i with
    |false =>
     rw[h.quiet i Lk,Lj] at A;exact I k hk A (same Lk)
    |true =>
     refine I (i+1) (by omega) A λf FR U=>?_
     rw[cr (by omega)]
     by_cases M:f=i
     ·subst M;simp
     ·simp only[M,false_or];rcases h.comp i f J FR U (λe=>M e.symm) q with⟨h1,hc⟩|⟨h1,hc⟩
      ·exact⟨λ_=>by omega,λ_=>QA f hc⟩
      ·exact⟨λhL=>absurd hL (V f hc),λh2=>by omega⟩
end
end Go.AM
namespace Go.AM
def Dw(P:Program):List TypeDesc->List Field->Nat->Prop
 |[],[],_=>True
 |d::ds,f::fs,i=>f.name≠ "_"/\f.offset=i/\P.underlying f.type=some d/\(match d with|.int _|.string|.bool=>True|_=>False)/\Dw P ds fs (i+1)
 |_,_,_=>False
def LX(d:Nat)(xs ys:Array Value)(f:Field)(_:Option Bool×Unit):Sem (ForInStep (Option Bool×Unit)) :=
 if f.name= "_" then pure (ForInStep.yield (none,()))
 else do
  let a<-part f.type xs f.offset
  let b<-part f.type ys f.offset
  let r<-Op.equalIn d f.type a b
  if r=false then pure (ForInStep.done (some false,())) else pure (ForInStep.yield (none,()))
theorem kL{P:Program}(w:World)(d:Nat)(xs ys:Array Value):∀ {ds:List TypeDesc}{fs:List Field}{i:Nat}{vs ws:List Value}{b:Bool},Dw P ds fs i->gn ds vs ws=some b->(∀ j v,vs[j]?=some v->xs[i+j]?=some v)->(∀ j v,ws[j]?=some v->ys[i+j]?=some v) ->
  (Op.eqFields (d+1) xs ys fs).run P w=.ok b w/\∀ es,(forIn fs (none,()) (LX (d+1) xs ys)).events P w es=es
 |[],[],i,[],[],b,_,h,_,_=>by cases h;simp[Op.eqFields]
 |[],[],i,_::_,_,b,_,h,_,_=>by cases h
 |[],[],i,[],_::_,b,_,h,_,_=>by cases h
 |[],_::_,i,_,_,b,A,_,_,_=>A.elim
 |_::_,[],i,_,_,b,A,_,_,_=>A.elim
 |t::ds,f::fs,i,[],_,b,_,h,_,_=>by cases h
 |t::ds,f::fs,i,_::_,[],b,_,h,_,_=>by cases h
 |t::ds,f::fs,i,v::vs,u::us,b,⟨I,K,n,O,L⟩,h,G,H=>by
  simp only[gn] at h;cases c:mK t v u with
  |none=>simp[c] at h
  |some a =>
   cases E:gn ds vs us with
   |none=>simp[c,E] at h
   |some b' =>
    simp[c,E] at h;subst h;obtain⟨M,F⟩:=kL w d xs ys L E (λj v C=>by have:=G (j+1) v (by simpa using C);rwa [show i+1+j=i+(j+1) by omega]) (λj v C=>by have:=H (j+1) v (by simpa using C);rwa [show i+1+j=i+(j+1) by omega])
    have l:xs[i]?=some v:=by simpa using G 0 v rfl
    have m:ys[i]?=some u:=by simpa using H 0 u rfl
    have q:(isAgg f.type).run P w=.ok false w:=by
     unfold isAgg underlying;cases t <;> simp at O <;> simp[n]
    have r:∀ (e:Array Value) (z:Value),e[i]?=some z->(part f.type e f.offset).run P w=.ok z w:=by
     intro e z s;unfold part;simp[q,K,s]
    have p:∀ (e:Array Value) (z:Value),e[i]?=some z->∀ es,(part f.type e f.offset).events P w es=es:=by
     intro e z s es;unfold part;simp[q,K,s]
    have B:∀ es,(Op.equalIn (d+1) f.type v u).events P w es=es:=by
     intro es;unfold mK at c;split at c <;> first
      |(cases c;done)
      |(unfold Op.equalIn;simp[underlying,n];done)
      |(unfold Op.equalIn;simp[underlying,n];split <;> rfl)
    have J:(Op.equalIn (d+1) f.type v u).run P w=.ok a w:=by
     unfold mK at c;split at c
     ·rename_i k k1 x Q y
      split at c
      ·rename_i N;subst N;cases c;exact run_equalIn_int w d f.type k1 k x y n
      ·cases c
     ·cases c;exact run_equalIn_string w d f.type _ _ n
     ·cases c;exact run_equalIn_bool w d f.type _ _ n
     ·cases c
    refine⟨?_,λes=>?_⟩
    ·rw[Op.eqFields.eq_2,ar I];simp only[aU,r xs v l,r ys u m,J,bh];cases a
     ·simp
     ·simp[M]
    ·rw[List.forIn_cons];simp only[LX,I,aQ,Sem.events_bind,aU,r xs v l,r ys u m,J,bh,Result.evThen_ok,p xs v l,p ys u m,B];cases a
     ·simp
     ·simpa using F es
theorem er{P:Program}{t:TypeId}{fs:List Field}{ds:List TypeDesc}(f:P.underlying t=some (.struct fs.toArray))(e:P.stoodInHeld t=false)(l:P.eqGuardType P.depth t=false)(i:Dw P ds fs 0) :
  P.eqGuardType P.depth t=false/\∀ (w:World) (vs ws:List Value) (b:Bool),gn ds vs ws=some b->(Op.equal t (.agg vs.toArray) (.agg ws.toArray)).run P w=.ok b w/\∀ es,(Op.equal t (.agg vs.toArray) (.agg ws.toArray)).events P w es=es:=by
 refine⟨l,λw vs ws b h=>?_⟩
 have d:P.fieldsOf t=fs.toArray:=by unfold Program.fieldsOf;rw[f]
 have key:=kL w 9998 vs.toArray ws.toArray i h (λj v c=>by simpa using c) (λj v c=>by simpa using c)
 refine⟨?_,λes=>?_⟩
 rotate_left
 ·show (Op.equalIn (9999+1) t _ _).events P w es=es;have k:=key.2 es;unfold Op.equalIn;simp[underlying,f,e];show Result.evThen ((forIn fs (none,()) (LX 9999 vs.toArray ws.toArray)).run P w) ((forIn fs (none,()) (LX (9998+1) vs.toArray ws.toArray)).events P w es) _=es;rw[k];cases (forIn fs (none,()) (LX 9999 vs.toArray ws.toArray)).run P w with
  |ok a w'=>obtain⟨o,_⟩:=a;cases o <;> rfl
  |halt x w'=>rfl
 show (Op.equalIn (9999+1) t _ _).run P w=_;rw[run_equalIn_agg w 9999 t _ _ (by rw[d];exact f) e,d]
 exact key.1
 all_goals exact kL w 9998 _ _ i h (λj v c=>by simpa using c) (λj v c=>by simpa using c)
def HY:List TypeDesc->List A->List A->Option Bool
 |[],[],[]=>some true
 |.int _::ds,.c (.int k a)::cs,.c (.int k' b)::es=>match AT k k' with
  |true=>match HY ds cs es with
   |some r=>some ((a==b)&&r)
   |none=>none
  |false=>none
 |.string::ds,.c (.str a)::cs,.c (.str b)::es=>match HY ds cs es with
  |some r=>some ((a==b)&&r)
  |none=>none
 |.bool::ds,.c (.bool a)::cs,.c (.bool b)::es=>match HY ds cs es with
  |some r=>some ((a==b)&&r)
  |none=>none
 |_,_,_=>none
theorem x3{σ:List ak}{s:St}:∀ {ds:List TypeDesc}{cs es:List A}{b:Bool}{vs ws:List Value},HY ds cs es=some b->cA σ s vs cs->cA σ s ws es->gn ds vs ws=some b:=by
 intro ds
 induction ds with
 |nil =>
  intro cs es b vs ws h c e;cases cs <;> cases es <;> simp only[HY,reduceCtorEq] at h
  cases vs <;> cases ws <;> first|exact c.elim|exact e.elim|(simpa[gn] using h)
 |cons d ds ih =>
  intro cs es b vs ws h c e;unfold HY at h;split at h
  ·exact absurd (by assumption:d::ds=[]) (by simp)
  ·rename_i n l k a j k' b' es' heq
   cases heq;split at h
   ·rename_i m
    cases uv m;split at h
    ·rename_i r f
     cases h;cases vs with
     |nil=>exact c.elim
     |cons v vs=>cases ws with
      |nil=>exact e.elim
      |cons w ws =>
       obtain⟨v1,i⟩:=c;obtain⟨w1,w2⟩:=e;cases (show Rd s.M v (.int k a) from v1)
       cases (show Rd s.M w (.int k b') from w1)
       simp[gn,mK,ih f i w2]
    ·cases h
   ·cases h
  ·rename_i l a j b' es' heq
   cases heq;split at h
   ·rename_i r f
    cases h;cases vs with
    |nil=>exact c.elim
    |cons v vs=>cases ws with
     |nil=>exact e.elim
     |cons w ws =>
      obtain⟨v1,i⟩:=c;obtain⟨w1,w2⟩:=e;cases (show Rd s.M v (.str a) from v1) with
      |str hx _ =>
      cases (show Rd s.M w (.str b') from w1) with
      |str hy _ =>
      simp only[gn,mK,ih f i w2];subst hx hy;simp[ByteArray.toList_eq]
   ·cases h
  ·rename_i l a j b' es' heq
   cases heq;split at h
   ·rename_i r f
    cases h;cases vs with
    |nil=>exact c.elim
    |cons v vs=>cases ws with
     |nil=>exact e.elim
     |cons w ws =>
      obtain⟨v1,i⟩:=c;obtain⟨w1,w2⟩:=e;cases (show Rd s.M v (.bool a) from v1)
      cases (show Rd s.M w (.bool b') from w1)
      simp[gn,mK,ih f i w2]
   ·cases h
  ·cases h
section
variable {P:Program}{T:List (Nat×TI)}{o:Oper}{g:Operand->D}{σ:List ak}
def iR:BinOp->Bool->Option Bool
 |.eql,b=>some b
 |.neq,b=>some (!b)
 |_,_=>none
theorem oK{op:BinOp}{t:TypeId}{x y:Value}{w:World}{b c:Bool}(d:match x,y with|.agg _,.agg _=>True|.bool _,.bool _=>True|_,_=>False)(a:(Op.equal t x y).run P w=.ok b w)(h:iR op b=some c) :
  (binOp op t x y).run P w=.ok (.bool c) w:=by
 cases op <;> simp only[iR,reduceCtorEq,bG] at h
 ·subst h;cases x <;> cases y <;> simp only at d <;> simp[binOp,a]
 ·subst h;cases x <;> cases y <;> simp only at d <;> simp[binOp,a]
theorem lD{op:BinOp}{t:TypeId}{x y:Value}{w:World}{b c:Bool}(d:match x,y with|.agg _,.agg _=>True|.bool _,.bool _=>True|_,_=>False)(e:(Op.equal t x y).run P w=.ok b w)(a:∀ es,(Op.equal t x y).events P w es=es)(h:iR op b=some c)(es:Array Event) :
  (binOp op t x y).events P w es=es:=by
 cases op <;> simp only[iR,reduceCtorEq,bG] at h <;> (cases x <;> cases y <;> simp only at d <;> simp[binOp,a])
theorem qG(op:BinOp)(t:TypeId)(x y:Operand)(xs ys:Array Value)(w:World)(a:P.eqGuardType P.depth t=false)(es:Array Event):(eqGuard op t x y (.agg xs) (.agg ys)).events P w es=es:=by
 cases op <;> simp[eqGuard,a]
theorem aG.structEq(u:bV P T){op:BinOp}{t ty:TypeId}{x y:Operand}(h:o.op=.binOp op t x y ty){i:TI}(hi:aJ T t=some i)(l:i.eq≠[]){cs es:List A}{b c:Bool}(z:g x=.e (.agg cs))(v:g y=.e (.agg es))
  (n:HY i.eq cs es=some b) (p:iR op b=some c):aG P o g σ (.e (.one (.c (.bool c)))) σ:=by
 refine .quiet λs B hh hr=>?_
 have h1:=hr x;have h2:=hr y;rw[z] at h1;rw[v] at h2;obtain⟨vs,q,j⟩:=h1;obtain⟨k,r,f⟩:=h2;obtain⟨m,heq⟩:=(u t i hi).eqs l;have a:=oK (x:=.agg vs.toArray) (y:=.agg k.toArray) ab (heq s.w vs k b (x3 n j f)).1 p;have d:=lD (x:=.agg vs.toArray) (y:=.agg k.toArray) ab (heq s.w vs k b (x3 n j f)).1 (heq s.w vs k b (x3 n j f)).2 p;refine⟨.bool c,?_,Rd.bool,by simp only[execOp,h,q,r,Sem.events_bind,run_eqGuard_agg s.w op t x y _ _ m,qG op t x y _ _ s.w m,Result.evThen_ok,aU,bh,a,d,Sem.events_pure]⟩
 simp only[execOp,h,q,r,aU,run_eqGuard_agg s.w op t x y _ _ m,bh,a,b8]
theorem aG.IY(r:bV P T){op:BinOp}{t ty:TypeId}{x y:Operand}(h:o.op=.binOp op t x y ty){i:TI}(hi:aJ T t=some i)(q:i.desc=.bool){a b c:Bool}(v:g x=.e (.one (.c (.bool a))))(u:g y=.e (.one (.c (.bool b))))
  (n:iR op (a==b)=some c):aG P o g σ (.e (.one (.c (.bool c)))) σ:=by
 refine .quiet λs p hh hr=>?_
 have h1:=hr x;have h2:=hr y;rw[v] at h1;rw[u] at h2
 replace h1:=ei h1
 replace h2:=ei h2
 generalize k:p x=vx at h1;generalize j:p y=vy at h2;cases h1;cases h2;have l:P.underlying t=some .bool:=by rw[(r t i hi).KJ,q]
 have d:=oK (P:=P) (w:=s.w) (x:=.bool a) (y:=.bool b) ab (run_equal_bool s.w t a b l) n;have m:∀ es,(Op.equal t (.bool a) (.bool b)).events P s.w es=es:=λes=>by
  show (Op.equalIn (9999+1) t _ _).events P s.w es=es;unfold Op.equalIn;simp[underlying,l]
 have f:=lD (P:=P) (w:=s.w) (x:=.bool a) (y:=.bool b) ab (run_equal_bool s.w t a b l) m n;refine⟨.bool c,?_,Rd.bool,by simp only[execOp,h,k,j,Sem.events_bind,eqGuard_at_bool,Sem.events_pure,b8,Result.evThen_ok,aU,bh,d,f]⟩
 simp only[execOp,h,k,j,aU,eqGuard_at_bool,b8,bh,d]
theorem aG.Lx{t ty:TypeId}{x y:Operand}(h:o.op=.binOp .xor t x y ty){a b:Int}(q:g x=.e (.one (.c (.int .i64 a))))(p:g y=.e (.one (.c (.int .i64 b))))(r:0<=a)(h1:0<=b) :
  aG P o g σ (.e (.one (.c (.int .i64 ((a.toNat ^^^ b.toNat:Nat):Int))))) σ:=by
 refine .quiet λs m hh hr=>?_
 have e1:=hr x;have e2:=hr y;rw[q] at e1;rw[p] at e2
 replace e1:=ei e1
 replace e2:=ei e2
 generalize k:m x=vx at e1;generalize j:m y=vy at e2;cases e1 with|int ha =>
 cases e2 with|int hb =>
 have n:a.toNat ^^^ b.toNat<2 ^ 63:=by
  apply Nat.xor_lt_two_pow <;> simp only[aB] at ha hb <;> omega
 have i:aB .i64 ((a.toNat ^^^ b.toNat:Nat):Int):=by simp only[aB];omega
 refine⟨.int .i64 ((a.toNat ^^^ b.toNat:Nat):Int),?_,.int i,?_⟩
 rotate_left
 ·simp only[execOp,h,k,j,Sem.events_bind,ef,gh,Result.evThen_ok,Go.binOp,b9,eW,aQ,Op.intBits,aU,bh,b8,Sem.events_pure]
 have f:((BitVec.ofInt 64 a) ^^^ (BitVec.ofInt 64 b)).toNat=a.toNat ^^^ b.toNat:=by
  rw[BitVec.toNat_xor,BitVec.toNat_ofInt,BitVec.toNat_ofInt];simp only[aB] at ha hb
  congr 1 <;> omega
 have d:(BitVec.ofInt IntKind.i64.bits a ^^^ BitVec.ofInt IntKind.i64.bits b).toNat=a.toNat ^^^ b.toNat:=f;have l:(Go.binOp .xor t (.int .i64 a) (.int .i64 b)).run P s.w=.ok (.int .i64 ((a.toNat ^^^ b.toNat:Nat):Int)) s.w:=by
  simp only[Go.binOp,b9,eW,aQ,Op.intBits,b8];rw[d,jk i]
 simp only[execOp,h,k,j,aU,ef,bh,l,b8]
theorem aG.AE(G:bV P T){m dst:TypeId}{x:Operand}(h:o.op=.convert m dst x){i B H:TI}{E:TypeId}(hi:aJ T m=some i)(K:aJ T dst=some B)(U:i.desc=.slice E)(F:B.desc=.string)(S:aJ T E=some H)(J:H.desc=.int .u8)
  {tt:Bool} {n:Nat} {es:Nat->List C} {r:List UInt8} (R:∀ s v,cd σ s v (g x)->Rd s.M v (.sl tt 1 n es)) (Y:qj es 0 n=some r):aG P o g σ (.e (.one (.c (.str r)))) σ:=by
 refine .kA λs ρ hh hr=>?_
 have h1:=R s _ (hr x);obtain⟨vs,N,b⟩:=cC (P:=P) hh h1;obtain⟨a,cap,V,q,Q,Z,_⟩:=h1.flat;have O:n<=9223372036854775807:=by omega
 have y:vs.length=n:=by rw[N.len];omega
 obtain⟨xs,e1,e2⟩:=sE (M:=s.M) (vs:=vs) Y y (λj hj c X=>by
  obtain⟨v,W,p2⟩:=N.rd j hj 0 c (by simpa using X)
  exact⟨v,by simpa using W,p2⟩)
 have I:=(G m i hi).run_underlying (w:=s.w);have p:=(G dst B K).run_underlying (w:=s.w);have l:=(G E H S).run_underlying (w:=s.w);rw[U] at I;rw[F] at p;rw[J] at l;have L:r.length<=9223372036854775807:=by
  rw[e2,iD];have:xs.length=n:=by rw[<-y,e1,iD]
  omega
 have k:∃ z:ByteArray,(Conv.bytesToString (.slice a n cap)).run P s.w=.ok (.string z) s.w/\z.data.toList=r:=by
  cases a with
  |none =>
   have u:r=[]:=by
    have:vs=[]:=by
     rw[q] at b;have h2:=b.1;simp[Builtin.firstCells] at h2;simpa using h2
    rw[this] at e1;have:xs=[]:=by simpa using e1.symm
    rw[e2,this];rfl
   exact⟨ByteArray.empty,by simp[Conv.bytesToString],by rw[u];rfl⟩
  |some ad =>
   rw[q] at b;have h2:=b.1;simp only[Builtin.firstCells,lR] at h2;refine⟨⟨#[]++(xs.map λx=>UInt8.ofNat x.toNat).toArray⟩,?_,by rw[e2];simp⟩
   simp only[Conv.bytesToString,aU,h2,bh,e1];rw[List.forIn_toArray,kS (P:=P) s.w (λ_ _=>rfl) xs ByteArray.empty]
   rfl
 obtain⟨z,t,A⟩:=k;refine⟨.string z,?_,Rd.str A L,?_⟩
 rotate_left
 ·intro e d;simp only[execOp,h,q,Sem.events_bind,convert,I,p,Result.evThen_ok,bh,l,t,aU,events_underlying,Sem.events_pure] at d;cases a with
  |none=>simp[Conv.bytesToString] at d
  |some ad =>
   have f:=fA (P:=P) hh (h1.xw (λ_ _=>rfl)) (w:=s.w) rfl
   rw[q] at b f;have h2:=b.1;simp only[Builtin.firstCells,lR] at h2 f;unfold Conv.bytesToString at d;simp only at d;rw[Sem.events_bind,h2,Result.evThen_ok,bH.bind (P:=P) ?_ λ_=>.pure] at d
   ·exact pW (f e d)
   ·rw[List.forIn_toArray];refine bH.CP (λx s=>?_) _ _
    split
    ·exact .pure
    ·exact .bind .stuck λ_=>.pure
 simp only[execOp,h,q,aU,convert,I,p,bh,l,t,b8]
end
def qk(g:Operand->D):List Operand->Option (List C)
 |[]=>some []
 |x::r=>match g x with
  |.e (.one (.c c))=>match qk g r with
   |some q=>some (c::q)
   |none=>none
  |_=>none
theorem qH{σ:List ak}{s:St}{a:Operand->Value}{g:Operand->D}(d:∀ y,cd σ s (a y) (g y)):∀ {xs:List Operand}{cs:List C},qk g xs=some cs->xs.length=cs.length/\∀ (j:Nat)(c:C),cs[j]?=some c->∃ v,(xs.map a)[j]?=some v/\Rd s.M v c
 |[],cs,h=>by cases h;exact⟨rfl,by simp⟩
 |x::r,cs,h=>by
  simp only[qk] at h;split at h
  ·rename_i c l
   split at h
   ·rename_i q i
    cases h;obtain⟨f,e⟩:=qH d i;refine⟨by simp[f],λj k b=>?_⟩
    cases j with
    |zero =>
     simp at b;subst b;have:=d x;rw[l] at this;exact⟨a x,by simp,ei this⟩
    |succ j=>exact(by simpa using e j k (by simpa using b))
   ·cases h
  ·cases h
section
variable {P:Program}{T:List (Nat×TI)}{o:Oper}{g:Operand->D}{σ:List ak}
theorem aG.makeFunc{fn:Fn}{a b:Array Operand}(h:o.op=.makeFunc fn a b){i f:List C}(m:qk g a.toList=some i)(p:qk g b.toList=some f):aG P o g σ (.e (.one (.c (.fn fn i f)))) σ:=by
 refine .quiet λs d hh hr=>?_
 obtain⟨t,k⟩:=qH hr m;obtain⟨n,q⟩:=qH hr p;have l:a.map d=(a.toList.map d).toArray:=by apply fH;simp
 have r:b.map d=(b.toList.map d).toArray:=by apply fH;simp
 refine⟨.func fn (a.toList.map d).toArray (b.toList.map d).toArray,?_,?_,by simp only[execOp,h,Instr.makeFunc];rfl⟩
 ·simp only[execOp,h,Instr.makeFunc,l,r];rfl
 ·refine Rd.fn _ _ (by simpa using t) (by simpa using n) (λj=>((a.toList.map d)[j]?).getD undef) (λj=>((b.toList.map d)[j]?).getD undef) ?_ ?_ ?_ ?_
  ·intro j hj;rw[aj hj];rfl
  ·intro j hj;rw[aj hj];rfl
  ·intro j c hj;obtain⟨v,h1,h2⟩:=k j c hj;rw[h1];exact h2
  ·intro j c hj;obtain⟨v,h1,h2⟩:=q j c hj;rw[h1];exact h2
def np:TypeDesc->Bool
 |.interface _=>true
 |_=>false
def pG(t:TypeId):D->Option C
 |.e (.one (.c c))=>some (.ifs t c)
 |.e (.agg cs)=>match eD cs with
  |some q=>some (.CG t q)
  |none=>none
 |_=>none
theorem x4{s:St}{v:Value}{t:TypeId}{d:D}{c:C}(h:pG t d=some c)(r:cd σ s v d):Rd s.M (.iface t v) c:=by
 unfold pG at h;split at h
 ·cases h;exact Rd.ifs (ei r) (ei r).cell
 ·split at h
  ·rename_i q k
   cases h;obtain⟨vs,rfl,l⟩:=r;have b:=iB k l;refine Rd.CG (by have:=b.length;simpa using this) (λj=>(vs[j]?).getD undef) (λj e=>by rw[aj e];rfl) λj c e=>?_
   obtain⟨v,i,f⟩:=b.get (j:=j) (a:=.c c) (by simp[e])
   rw[i];exact f
  ·cases h
 ·cases h
theorem aG.makeInterface(k:bV P T){t:TypeId}{x:Operand}(h:o.op=.makeInterface t x){i:TI}(hi:aJ T t=some i)(b:np i.desc=false){c:C}(f:pG t (g x)=some c):aG P o g σ (.e (.one (.c c))) σ:=by
 refine .quiet λs j hh hr=>?_
 have d:=(k t i hi).run_underlying (w:=s.w);refine⟨.iface t (j x),?_,x4 f (hr x),?_⟩
 rotate_left
 ·simp only[execOp,h,Instr.makeInterface,Sem.events_bind,aU,d,Result.evThen_ok,bh,events_underlying];cases a:i.desc <;> rw[a] at b <;> first|(cases b;done)|simp
 simp only[execOp,h,Instr.makeInterface,aU,d,bh];cases a:i.desc <;> rw[a] at b <;> first|(cases b;done)|simp
def sF(i:TI):Option E1:=match i.agg with
 |true=>some (.agg (i.zero.map A.c))
 |false=>none
theorem Dx{i:TI}{t:TypeId}(j:aC P t i){s:St}{e:E1}(a:sF i=some e):∃ z,(zeroValue t).run P s.w=.ok z s.w/\k5 σ s z e:=by
 obtain⟨z,c,b⟩:=j.vN σ s;refine⟨z,c,?_⟩;obtain⟨n,h,m,p,q,l,r,⟨cs,d⟩,u⟩:=j.info;have f:h=z:=by
  have:(zeroValue t).run P s.w=.ok h s.w:=by simp[zeroValue,typeInfo,m,l]
  rw[this] at c;cases c;rfl
 subst f;unfold sF at a;cases k:i.agg with
 |true =>
  rw[k] at a d;simp only[aZ] at d;cases a;rw[d] at b ⊢;exact⟨cs.toList,by simp,by simpa[Value.cells] using b⟩
 |false=>rw[k] at a;cases a
def l3(t:TypeId)(i:TI):C->Option (E1×Bool)
 |.ifs t' c=>match Nat.beq t' t with
  |true=>some (.one (.c c),true)
  |false=>match sF i with
   |some e=>some (e,false)
   |none=>none
 |.CG t' cs=>match Nat.beq t' t with
  |true=>some (.agg (cs.map A.c),true)
  |false=>match sF i with
   |some e=>some (e,false)
   |none=>none
 |.mf=>match sF i with
  |some e=>some (e,false)
  |none=>none
 |_=>none
theorem aG.typeAssert(K:bV P T){x:Operand}{F t:TypeId}(h:o.op=.typeAssert x F t true){i:TI}(hi:aJ T t=some i)(J:np i.desc=false){c:C}(O:g x=.e (.one (.c c))){e:E1}{b:Bool}(d:l3 t i c=some (e,b)) :
  aG P o g σ (.eY [e,.one (.c (.bool b))]) σ:=by
 refine .quiet λs E hh hr=>?_
 have h1:=hr x;rw[O] at h1
 replace h1:=ei h1
 generalize B:E x=vx at h1;have r:=(K t i hi).run_underlying (w:=s.w);have key:∀ (v:Value) (b:Bool),(Instr.typeAssert vx F t true).run P s.w=.ok (.tuple #[v,.bool b]) s.w->k5 σ s v e->(Instr.typeAssert vx F t true).events P s.w #[]=#[]->∃ v,(execOp E o).run P s.w=.ok (.value v) s.w/\cd σ s v (.eY [e,.one (.c (.bool b))])/\(execOp E o).events P s.w #[]=#[]:=by
  intro v b h1 h2 h3;refine⟨.tuple #[v,.bool b],?_,⟨[v,.bool b],rfl,h2,Rd.bool,ab⟩,by simp only[execOp,h,B,Sem.events_bind,h1,h3,Result.evThen_ok,Sem.events_pure]⟩
  simp only[execOp,h,B,aU,h1,bh,b8]
 have fail:∀ y,sF i=some y->(∀ z,(zeroValue t).run P s.w=.ok z s.w->(Instr.typeAssert vx F t true).run P s.w=.ok (.tuple #[z,.bool false]) s.w/\(Instr.typeAssert vx F t true).events P s.w #[]=#[])->e=y->b=false->∃ v,(execOp E o).run P s.w=.ok (.value v) s.w/\cd σ s v (.eY [e,.one (.c (.bool b))])/\(execOp E o).events P s.w #[]=#[]:=by
  intro y p n H l;subst H l;obtain⟨z,h3,Q⟩:=Dx (σ:=σ) (K t i hi) (s:=s) p;exact key z false (n z h3).1 Q (n z h3).2
 have k:∀ m,i.desc≠.interface m:=by intro m e;rw[e] at J;cases J
 cases h1 with
 |@ifs t' v c h2 hc =>
  simp only[l3] at d;cases l:Nat.beq t' t with
  |true =>
   rw[l] at d;cases d;have I:=bn l;subst I;refine key v true ?_ h2 ?_ <;>
   ·unfold Instr.typeAssert;simp only[aU,r,bh,Sem.events_bind,Result.evThen_ok,events_underlying];cases a:i.desc <;> first|(exact absurd a (k _))|simp
  |false =>
   rw[l] at d;have q:t'≠t:=λe=>by subst e;rw[ir] at l;cases l
   simp only at d;split at d
   ·rename_i y p
    cases d;refine fail _ p (λz h3=>⟨?_,?_⟩) rfl rfl <;>
    ·unfold Instr.typeAssert;simp only[aU,r,bh,Sem.events_bind,Result.evThen_ok,events_underlying];cases a:i.desc <;> first|(exact absurd a (k _))|simp[q,h3]
   ·cases d
 |@CG t' vs cs hl f N G =>
  simp only[l3] at d;cases l:Nat.beq t' t with
  |true =>
   rw[l] at d;cases d;have I:=bn l;subst I;refine key (.agg vs.toArray) true ?_ ⟨vs,rfl,?_⟩ ?_
   rotate_left 2
   ·unfold Instr.typeAssert;simp only[r,Sem.events_bind,Result.evThen_ok,events_underlying];cases a:i.desc <;> first|(exact absurd a (k _))|simp
   ·unfold Instr.typeAssert;simp only[aU,r,bh];cases a:i.desc <;> first|(exact absurd a (k _))|simp
   ·have go:∀ (vs:List Value) (cs:List C),vs.length=cs.length->(∀ (j:Nat) (c:C),cs[j]?=some c->∃ v,vs[j]?=some v/\Rd s.M v c)->cA σ s vs (cs.map A.c):=by
     intro vs
     induction vs with
     |nil=>intro cs hl _;cases cs with|nil=>trivial|cons _ _=>simp at hl
     |cons v vs ih =>
      intro cs hl hg;cases cs with
      |nil=>simp at hl
      |cons c cs =>
       obtain⟨u,L,p2⟩:=hg 0 c rfl;simp at L;subst L;exact⟨p2,ih cs (by simpa using hl) (λj c hj=>by simpa using hg (j+1) c (by simpa using hj))⟩
    refine go vs cs hl λj c hj=>⟨f j,N j ?_,G j c hj⟩
    rw[hl];exact(aF.1 hj).1
  |false =>
   rw[l] at d;have q:t'≠t:=λe=>by subst e;rw[ir] at l;cases l
   simp only at d;split at d
   ·rename_i y p
    cases d;refine fail _ p (λz h3=>⟨?_,?_⟩) rfl rfl <;>
    ·unfold Instr.typeAssert;simp only[aU,r,bh,Sem.events_bind,Result.evThen_ok,events_underlying];cases a:i.desc <;> first|(exact absurd a (k _))|simp[q,h3]
   ·cases d
 |mf =>
  simp only[l3] at d;split at d
  ·rename_i y p
   cases d;refine fail _ p (λz h3=>⟨?_,?_⟩) rfl rfl <;>
   ·unfold Instr.typeAssert;simp only[aU,r,bh,Sem.events_bind,Result.evThen_ok,events_underlying];cases a:i.desc <;> first|(exact absurd a (k _))|simp[h3]
  ·cases d
 |_=>simp[l3] at d
end
def vi(op:BinOp)(k:IntKind) (a:Int)(k':IntKind) (b:Int):Option (Int×List Prop) :=
 match k with
 |.u64=>match op with
  |.shl=>some (((a.toNat*2 ^ b.toNat % 18446744073709551616:Nat):Int),[0<=b,b<=64])
  |.shr=>some (((a.toNat / 2 ^ b.toNat:Nat):Int),[0<=b,b<=64])
  |.and=>match k' with|.u64=>some (((a.toNat &&& b.toNat:Nat):Int),[])|_=>none
  |.xor=>match k' with|.u64=>some (((a.toNat ^^^ b.toNat:Nat):Int),[])|_=>none
  |_=>none
 |_=>none
section
variable {P:Program}{T:List (Nat×TI)}{o:Oper}{d:Operand->D}{σ:List ak}
theorem bits_nat{a:Int}(h:aB .u64 a):(BitVec.ofInt IntKind.u64.bits a).toNat=a.toNat:=by
 rw[BitVec.toNat_ofInt];simp only[aB] at h;simp only[IntKind.bits];omega
theorem Av{op:BinOp}{k k':IntKind}{a b c:Int}{obs:List Prop}(t:TypeId)(f:vi op k a k' b=some (c,obs))(s:aa obs)(h:aB k a)(l:aB k' b)(w:World) :
  aB k c/\(Go.binOp op t (.int k a) (.int k' b)).run P w=.ok (.int k c) w/\(Go.binOp op t (.int k a) (.int k' b)).events P w #[]=#[]:=by
 unfold vi at f;split at f
 ·split at f
  ·cases f;obtain⟨u,r⟩:0<=b/\b<=64:=s;have v:a.toNat*2 ^ b.toNat % 18446744073709551616<18446744073709551616:=jj _ (by decide)
   simp only[aB] at h;refine⟨by simp only[aB];omega,?_⟩
   have n:IntKind.wrap .u64 (a*2 ^ (min b.toNat IntKind.u64.bits))=((a.toNat*2 ^ b.toNat % 18446744073709551616:Nat):Int):=by
    have j:min b.toNat IntKind.u64.bits=b.toNat:=by rw[show IntKind.u64.bits=64 from rfl];omega
    have p:a=(a.toNat:Int):=by omega
    rw[j,p];simp only[IntKind.wrap,IntKind.bits,IntKind.signed,az];have m:((a.toNat:Int)*2 ^ b.toNat)=((a.toNat*2 ^ b.toNat:Nat):Int):=by push_cast;rfl
    rw[m];simp
   simp only[Go.binOp,Op.shift,an (show ¬b<0 by omega),n]
   exact⟨rfl,rfl⟩
  ·cases f;obtain⟨u,r⟩:0<=b/\b<=64:=s;simp only[aB] at h;have i:a.toNat / 2 ^ b.toNat<=a.toNat:=Nat.div_le_self _ _;refine⟨by simp only[aB];generalize a.toNat / 2 ^ b.toNat=q at i ⊢;omega,?_⟩
   have n:a.fdiv (2 ^ (min b.toNat IntKind.u64.bits))=((a.toNat / 2 ^ b.toNat:Nat):Int):=by
    have j:min b.toNat IntKind.u64.bits=b.toNat:=by rw[show IntKind.u64.bits=64 from rfl];omega
    have p:a=(a.toNat:Int):=by omega
    rw[j,p];have m:(2:Int) ^ b.toNat=((2 ^ b.toNat:Nat):Int):=by push_cast;rfl
    rw[m,az,Int.fdiv_eq_ediv_of_nonneg _ (Int.natCast_nonneg _)];rfl
   simp only[Go.binOp,Op.shift,an (show ¬b<0 by omega),n]
   exact⟨rfl,rfl⟩
  ·split at f
   ·cases f;have r:a.toNat &&& b.toNat<=a.toNat:=Nat.and_le_left;have g:aB .u64 ((a.toNat &&& b.toNat:Nat):Int):=by simp only[aB] at h ⊢;omega
    refine⟨g,?_⟩;have e:(BitVec.ofInt IntKind.u64.bits a &&& BitVec.ofInt IntKind.u64.bits b).toNat=a.toNat &&& b.toNat:=by rw[BitVec.toNat_and,bits_nat h,bits_nat l]
    simp only[Go.binOp,b9,eW,aQ,Op.intBits,e,jk g];exact⟨rfl,rfl⟩
   ·cases f
  ·split at f
   ·cases f;have g:aB .u64 ((a.toNat ^^^ b.toNat:Nat):Int):=by
     simp only[aB] at h l ⊢;have:a.toNat ^^^ b.toNat<2 ^ 64:=Nat.xor_lt_two_pow (by omega) (by omega)
     omega
    refine⟨g,?_⟩;have e:(BitVec.ofInt IntKind.u64.bits a ^^^ BitVec.ofInt IntKind.u64.bits b).toNat=a.toNat ^^^ b.toNat:=by rw[BitVec.toNat_xor,bits_nat h,bits_nat l]
    simp only[Go.binOp,b9,eW,aQ,Op.intBits,e,jk g];exact⟨rfl,rfl⟩
   ·cases f
  ·cases f
 ·cases f
theorem aG.bits{op:BinOp}{t ty:TypeId}{x y:Operand}{k k':IntKind}{a b c:Int}{obs:List Prop}(h:o.op=.binOp op t x y ty)(r:d x=.e (.one (.c (.int k a))))(q:d y=.e (.one (.c (.int k' b))))(n:vi op k a k' b=some (c,obs))(m:aa obs) :
  aG P o d σ (.e (.one (.c (.int k c)))) σ:=by
 refine .quiet λs i hh hr=>?_
 have h1:=hr x;have h2:=hr y;rw[r] at h1;rw[q] at h2
 replace h1:=ei h1
 replace h2:=ei h2
 generalize g:i x=vx at h1;generalize f:i y=vy at h2;cases h1 with|int ha =>
 cases h2 with|int hb =>
 obtain⟨p,j,l⟩:=Av (P:=P) t n m ha hb s.w;exact⟨.int k c,by simp only[execOp,h,aU,g,f,ef,bh,j,b8],.int p,by simp[execOp,h,g,f,ef,gh,j,l]⟩
end
end Go.AM
namespace Go.AM
open Go.Conc (G)
def fY(i:Nat)(ci:List C)(es:Nat->List C):Nat->List C:=λj=>if j=i then ci else es j
def nV(lo hi:Nat)(z:List C)(es:Nat->List C):Nat->List C:=λj=>if lo<=j/\j<hi then z else es j
section
variable {P:Program}{T:List (Nat×TI)}{o:Oper}{B:Operand->D}{σ:List ak}{s:St}{l g:Nat}{E:TypeId}{k n:Nat}{es:Nat->List C}
theorem DD(z:ag σ s)(e:σ[l]?=some (.buf E k n es)){k' i f:Nat}{v:Value}(q:fz σ s v (.bp l (.el g k' i f)))(t:g=n) :
  ∃ b c vs zs,s.β[l]?=some ⟨.slice (some ⟨b,0,none⟩) 0 c,[b]⟩/\v=.pointer (some ⟨b,i*k'+f,none⟩)/\s.w.heap[b]?=some (.cells (vs++zs).toArray E (0,0))/\(vs++zs).length=c*k/\n<=c/\c<=9223372036854775807/\Flat s.M k n es vs/\∀ o,s.M b o=none:=by
 obtain⟨H,⟨b,c,d,y⟩,_,m⟩:=q;obtain⟨L,h,a⟩:=(m _ _ _ _ e).2 t;rw[d] at a;rcases z.box l _ L e h with⟨_,rfl⟩|⟨F,G,vs,zs,rfl,A,p,j,r,u,x⟩
 ·cases a
 ·cases a;exact⟨b,c,vs,zs,h,y,A,p,j,r,u,x⟩
theorem DF{g:Nat->Value}:∀ {ds:List C}{m:Nat},(∀ j c,ds[j]?=some c->Rd s.M (g (m+j)) c)->cA σ s ((List.range ds.length).map λj=>g (m+j)) (ds.map A.c)
 |[],m,_=>trivial
 |d::ds,m,h=>by
  rw[ft,tw];refine⟨h 0 d rfl,?_⟩;have:=DF (ds:=ds) (m:=m+1) (λj c a=>by have:=h (j+1) c (by simpa using a);rwa [show m+1+j=m+(j+1) by omega])
  simpa[Function.comp_def,kq,iu 1] using this
theorem aG.Oj(H:bV P T){t:TypeId}{x y:Operand}(h:o.op=.indexAddr t x y){i f:TI}{E:TypeId}(hi:aJ T t=some i)(R:i.desc=.slice E)(O:aJ T E=some f)
  {q m:Nat} {j:Int} {kk:IntKind} (L:B x=.e (.one (.bp l (.sl g f.size q m)))) (S:B y=.e (.one (.c (.int kk j)))) (V:0<=j) (h1:j<m):aG P o B σ (.e (.one (.bp l (.el g f.size (q+j.toNat) 0)))) σ:=by
 refine .quiet λs I hh hr=>?_
 have p:=hr x;rw[L] at p;have h2:=hr y;rw[S] at h2
 replace h2:=ei h2
 generalize G:I y=vy at h2;cases h2;have d:=p
 change fz σ s (I x) (.bp l _) at d
 obtain⟨lv,⟨a,a0,cap,M,N,Q,K,U,A,z⟩,u,F⟩:=d;obtain⟨b,rfl,rfl⟩:=z (by omega)
 have J:=(H t i hi).run_underlying (w:=s.w);rw[R] at J;obtain⟨r,rfl⟩:∃ r:Nat,j=r:=⟨j.toNat,by omega⟩
 have v:r<m:=by omega
 refine⟨.pointer (some ⟨b,(q+r)*f.size,none⟩),?_,⟨lv,⟨b,M,A,by simp⟩,u,F⟩,?_⟩ <;>
 simp[execOp,h,N,G,Instr.indexAt,asIntOf,J,(H E f O).run_sizeOf,ck,v,eh]
theorem aG.I0(u:bV P T){t:TypeId}{x:Operand}{f:Nat}(h:o.op=.fieldAddr t x f){m i q off:Nat}{j:TI}(z:B x=.e (.one (.bp l (.el g m i q))))(v:gj T t f=some (off,j)):aG P o B σ (.e (.one (.bp l (.el g m i (q+off))))) σ:=by
 refine .quiet λs y hh hr=>?_
 have h1:=hr x;rw[z] at h1;have a:=h1
 change fz σ s (y x) (.bp l _) at a
 obtain⟨lv,⟨b,w,c,r⟩,p,d⟩:=a;exact⟨.pointer (some ⟨b,i*m+q+off,none⟩),by simp[execOp,h,r,jy u v],⟨lv,⟨b,w,c,by rw[kq]⟩,p,d⟩,by simp[execOp,h,r,kK u v]⟩
theorem aG.Ol{x:Operand}(h:o.op=.nilCheck x){j i q:Nat}(t:B x=.e (.one (.bp l (.el g j i q)))):aG P o B σ (.e (.one (.bp l (.el g j i q)))) σ:=by
 refine .quiet λs d hh hr=>?_
 have h1:=hr x;rw[t] at h1;have c:=h1;have a:=h1
 change fz σ s (d x) (.bp l _) at a
 obtain⟨lv,⟨b,u,m,f⟩,r,p⟩:=a;exact⟨d x,by simp[execOp,h,f],c,by simp[execOp,h,f]⟩
theorem aG.Om(I:bV P T){x:Operand}{b:Array TypeId}{t:TypeId}(h:o.op=.call { callee:=.builtin .len,args:=#[x],argTypes:=b })(y:b[0]?=some t){i:TI}{E:TypeId}(hi:aJ T t=some i)(G:i.desc=.slice E)
  {z q m:Nat} (J:B x=.e (.one (.bp l (.sl g z q m)))):aG P o B σ (.e (.one (.c (.int .i64 m)))) σ:=by
 refine .quiet λs u hh hr=>?_
 have h1:=hr x;rw[J] at h1;have d:=h1
 change fz σ s (u x) (.bp l _) at d
 obtain⟨lv,⟨a,a0,cap,L,v,F,p,A,j,K⟩,H,r⟩:=d;have f:=(I t i hi).run_underlying (w:=s.w);rw[G] at f;refine⟨.int .i64 m,?_,Rd.int (by simp only[aB];omega),?_⟩ <;>
 simp[execOp,h,resolve,invoke,builtin,Builtin.len_,v,f,goInt,y]
theorem aG.sliceB(J:bV P T){t:TypeId}{x:Operand}{lo hi:Option Operand}(h:o.op=.slice t x lo hi none){i p:TI}{E:TypeId}(r:aJ T t=some i)(R:i.desc=.slice E)(Q:aJ T E=some p){q m:Nat}{d u:Option Int}
  (N:B x=.e (.one (.bp l (.sl g p.size q m)))) (hl:o5 B lo=some d) (K:o5 B hi=some u) (I:aa (ib m d u)):aG P o B σ (.e (.one (.bp l (.sl g p.size (q+cy 0 d) (cy m u-cy 0 d))))) σ:=by
 refine .quiet λst ρ hh hr=>?_
 have h1:=hr x;rw[N] at h1;have j:=h1
 change fz σ st (ρ x) (.bp l _) at j
 obtain⟨lv,⟨a,a0,cap,O,H,f,M,F,z,y⟩,v,A⟩:=j;obtain⟨L,S,U⟩:=kB (P:=P) (isS:=true) f (fM hr hl) (fM hr K) I st.w;have c:=(J t i r).run_underlying (w:=st.w);rw[R] at c;refine⟨.slice (if cap=cy 0 d then a else a.map (·.add (cy 0 d*p.size))) (cy m u-cy 0 d) (cap-cy 0 d),?_,⟨lv,⟨_,a0,_,O,rfl,by omega,by omega,F,z,λG=>?_⟩,v,A⟩,by simp[execOp,h,H,Instr.sliceAt,c,Instr.slice,L,lW (P:=P) (isS:=true) f (fM hr hl) (fM hr K) I st.w]⟩
 ·simp[execOp,h,H,Instr.sliceAt,c,Instr.slice,L,(J E p Q).run_sizeOf]
 ·obtain⟨b,rfl,rfl⟩:=y (by omega)
  refine⟨b,rfl,?_⟩;rw[an (by omega)]
  simp[ck,eh]
theorem aG.Ly(N:bV P T){t:TypeId}{x:Operand}(h:o.op=.load t x){i f:Nat}{G:TI}{e:E1}(R:B x=.e (.one (.bp l (.el g k i f))))(F:g=n)(hl:σ[l]?=some (.buf E k n es))(hi:aJ T t=some G)(O:jX G ((eL f (es i)).map A.c)=some e)(q:i<n):aG P o B σ (.e e) σ:=by
 refine .kA λs V hh hr=>?_
 have h1:=hr x;rw[R] at h1;obtain⟨b,Z,vs,zs,Q,L,p,X,S,W,J,Y⟩:=DD hh hl h1 F;have hw:=J.width i q
 let g:Nat->Value:=λj=>vs.getD (i*k+j) undef
 have F:∀ j c,(eL f (es i))[j]?=some c->vs[i*k+(f+j)]?=some (g (f+j))/\Rd s.M (g (f+j)) c:=by
  intro j c hj;rw[j4,mW] at hj;obtain⟨v,v1,U⟩:=J.rd i q (f+j) c hj;have:g (f+j)=v:=by simp[g,List.getD_eq_getElem?_getD,v1]
  exact⟨by rw[this,v1],by rw[this];exact U⟩
 have H:=DF (σ:=σ) (s:=s) (g:=g) (ds:=eL f (es i)) (m:=f) (λj c hj=>(F j c hj).2)
 have a:∀ (j:Nat) (v:Value),((List.range (eL f (es i)).length).map λj=>g (f+j))[j]?=some v->s.w.cell? ⟨b,i*k+f+j,none⟩=some v:=by
  intro j v hj;simp only[mz] at hj
  by_cases d:j<(eL f (es i)).length
  ·simp[d] at hj;subst hj;have h2:=(F j _ (aj d)).1;simp only[World.cell?,p];have z:=(aF.1 h2).1;rw[show i*k+f+j=i*k+(f+j) by omega]
   simpa[bS z] using h2
  ·simp[d] at hj
 obtain⟨v,r,I⟩:=lB (s:=s) (σ:=σ) (P:=P) (N t G hi) (b:=b) (off:=i*k+f) (e:=e) a H O;refine⟨v,by simp[execOp,h,L,Instr.loadAt,Instr.sureAddr,r],I,λK y=>?_⟩
 have u:K∈(loadVar t ⟨b,i*k+f,none⟩).events P s.w #[]:=by
  have e:execOp V o=(do pure (.value (<-loadVar t ⟨b,i*k+f,none⟩))):=by simp[execOp,h,L,Instr.loadAt,Instr.sureAddr]
  rw[e] at y;simpa[r] using y
 obtain⟨j,hj,rfl⟩:=iL (N t G hi) (n:=(eL f (es i)).length) (λj hj=>⟨_,a j (g (f+j)) (by simp[hj])⟩) (by have:=nc O;simpa using this) K u
 exact m7 (aH Q) (by simp)
theorem Flat.put{M:Mem}{vs kV:List Value}{i f:Nat}{cc ci:List C}(h:Flat M k n es vs)(hi:i<n)(y:du f cc (es i)=some ci)(hl:kV.length=cc.length)(w:∀ (j:Nat)(c:C),cc[j]?=some c->∃ v,kV[j]?=some v/\Rd M v c) :
  i*k+f+kV.length<=vs.length/\Flat M k n (fY i ci es) (vs.take (i*k+f)++kV++vs.drop (i*k+f+kV.length)):=by
 obtain⟨h1,h2⟩:=l6 y;have F:=h.width i hi;have A:i*k+k<=n*k:=by
  have:=eT k (show i+1<=n by omega)
  rwa [eh,lQ] at this
 have r:=h.len;have m:i*k+f+kV.length<=vs.length:=by omega
 have d:∀ p,(vs.take (i*k+f)++kV++vs.drop (i*k+f+kV.length))[p]?=if p<i*k+f then vs[p]? else if p<i*k+f+kV.length then kV[p-(i*k+f)]? else vs[p]?:=by
  intro p;have u:(vs.take (i*k+f)).length=i*k+f:=by simp;omega
  by_cases c1:p<i*k+f
  ·rw[ar c1,dt,bS (by omega),dD,ar c1]
  ·rw[an c1]
   by_cases c2:p<i*k+f+kV.length
   ·rw[ar c2,dt,cv (by omega),bS (by omega),u]
   ·rw[an c2,cv (by simp;omega),mW]
    congr 1
    simp;omega
 refine⟨m,⟨by simp;omega,λb a=>?_,λb a j c hj=>?_⟩⟩
 ·simp only[fY];split
  ·rw[h2];simp;omega
  ·exact h.width b a
 ·simp only[fY] at hj;rw[d];split at hj
  ·rename_i e
   subst e;rw[h2] at hj
   by_cases c1:j<f
   ·rw[dt,bS (by simp;omega),dD,ar c1] at hj
    rw[ar (by omega)]
    exact h.rd b hi j c hj
   ·by_cases c2:j<f+cc.length
    ·rw[dt,cv (by simp;omega),bS (by simp;omega)] at hj
     obtain⟨v,v1,x⟩:=w _ c hj;refine⟨v,?_,x⟩;rw[an (by omega),ar (by omega),<-v1]
     congr 1
     simp;omega
    ·rw[cv (by simp;omega),mW] at hj
     rw[an (by omega),an (by omega)]
     refine h.rd b hi j c ?_;rw[<-hj]
     congr 1
     simp;omega
  ·rename_i e
   have z:j<k:=by have:=(aF.1 hj).1;have:=h.width b a;omega
   rcases bC b i with q|t
   ·have:(b+1)*k<=i*k:=eT k q;rw[eh,lQ] at this;rw[ar (by omega)]
    exact h.rd b a j c hj
   ·have:(i+1)*k<=b*k:=eT k (by omega)
    rw[eh,lQ] at this;rw[an (by omega),an (by omega)]
    exact h.rd b a j c hj
theorem ag.cQ(hh:ag σ s)(hl:σ[l]?=some (.buf E k n es)){b:Nat}{vs zs ve:List Value}{i:Nat}(q:s.β[l]?=some ⟨.slice (some ⟨b,0,none⟩) 0 i,[b]⟩)(x:(vs++zs).length=i*k)(u:n<=i)(y:i<=9223372036854775807){es':Nat->List C}(f:s.w.heap[b]?=some (.cells (vs++zs).toArray E (0,0)))(H:Flat s.M k n es' ve)(G:ve.length=vs.length)(z:∀ o,s.M b o=none) :
  ag (σ.set l (.buf E k n es')) { s with w:=s.w.setRow b (ve++zs).toArray }/\Step σ s (σ.set l (.buf E k n es')) { s with w:=s.w.setRow b (ve++zs).toArray }:=by
 have p:(s.w.setRow b (ve++zs).toArray).heap[b]?=some (.cells (ve++zs).toArray E (0,0)):=setRow_heap s.w b _ _ E _ f;have d:∀ a,a≠b->(s.w.setRow b (ve++zs).toArray).heap[a]?=s.w.heap[a]?:=λa c=>setRow_other s.w b a _ c
 have m:s.β.set l ⟨.slice (some ⟨b,0,none⟩) 0 i,[b]⟩=s.β:=by
  apply k8
  intro j
  by_cases e:l=j
  ·subst e;rw[bo (aF.1 q).1,q]
  ·rw[b7 e]
 obtain⟨F,A⟩:=hh.jL (M':=s.M) (w':=s.w.setRow b (ve++zs).toArray) (B':=.buf E k n es') (L':=⟨.slice (some ⟨b,0,none⟩) 0 i,[b]⟩) hl q ⟨λ_=>rfl,aq _⟩ (by simp[World.setRow])
  (λa c J=>d a (by rintro rfl;exact J (by simp))) (λ_ _ _ _=>rfl) (λ_ _ _ h=>h) (λa I v t=>by
   have r:a≠b:=by rintro rfl;rw[z] at t;cases t
   have:=hh.mem a I v t;rw[<-this];simp only[World.cell?];rw[d a r]) (λa c=>⟨.inl c,by have:=hh.lt _ (aH q) a c;simpa[World.setRow] using this⟩) rfl rfl rfl
  (.inr ⟨b,i,ve,zs,rfl,p,by simp only[bd] at x ⊢;omega,u,y,H,z⟩)
 rw[m] at F A;exact⟨F,A⟩
theorem nu{α:Type}:∀ {new l:List α},new.length=l.length->du 0 new l=some new
 |[],[],_=>rfl
 |[],_::_,h=>by simp at h
 |_::_,[],h=>by simp at h
 |n::ns,c::cs,h=>by simp only[du,nu (new:=ns) (l:=cs) (by simpa using h)]
theorem aG.CY(Y:bV P T){t:TypeId}{x y:Operand}(h:o.op=.store t x y){i f:Nat}{H:TI}{new:List A}{cc ci:List C}(hx:B x=.e (.one (.bp l (.el g k i f))))(hg:g=n)(hl:σ[l]?=some (.buf E k n es))(hi:aJ T t=some H)(hy:kI (B y)=some new)(hn:new.length=H.size)(Q:eD new=some cc)(K:(es i).length=k->du f cc (es i)=some ci)(p:i<n) :
  aG P o B σ .any (σ.set l (.buf E k n (fY i ci es))):=by
 intro s c hh hr;have h1:=hr x;rw[hx] at h1;obtain⟨b,c0,vs,G,V,X,a,R,M,N,S,W⟩:=DD hh hl h1 hg;have m:=l5 hy (hr y);have F:=iB Q m;have O:=cA.closed F;have z:(c y).cells.toList.length=cc.length:=by have:=F.length;simpa using this
 replace K:=K (S.width i p)
 obtain⟨q1,Z⟩:=S.put p K z O;have J:(c y).cells.size=H.size:=by rw[<-hn,<-m.length,fj]
 obtain⟨t1,t2⟩:=hh.cQ hl V R M N a Z (by simp only[bd,List.length_take,la];omega) W
 have I:=run_storeCells_at P b (i*k+f) E (c y).cells.toList 0 (vs++G).toArray s.w a (by simp only[my,bd];omega) m.cell
 have u:((vs++G).toArray.toList.take (i*k+f+0)++(c y).cells.toList++(vs++G).toArray.toList.drop (i*k+f+0+(c y).cells.toList.length))=vs.take (i*k+f)++(c y).cells.toList++vs.drop (i*k+f+(c y).cells.toList.length)++G:=by
  rw[tG,eg,List.take_append_of_le_length (by omega),List.drop_append_of_le_length (by omega),dt,dt,dt]
 rw[u] at I;refine⟨.skip,_,?_,rfl,t1,t2,?_⟩
 ·simp[execOp,h,X,Instr.storeAt,Instr.sureAddr,storeVar,(Y t H hi).run_sizeOf,J,I]
 ·intro U d;have e:execOp c o=(do storeVar t ⟨b,i*k+f,none⟩ (c y);pure .skip):=by simp[execOp,h,X,Instr.storeAt,Instr.sureAddr]
  rw[e] at d;have q:U∈(storeCells ⟨b,i*k+f,none⟩ (c y).cells.toList).events P s.w #[]:=by
   simp only[storeVar,Sem.events_bind,(Y t H hi).run_sizeOf,J,Result.evThen_ok,events_sizeOf,b9,eW,aQ,aU,bh,Sem.events_pure] at d;generalize (storeCells ⟨b,i*k+f,none⟩ (c y).cells.toList).run P s.w=r at d;cases r with
   |ok v w'=>simpa using d
   |halt x w'=>simpa using d
  rcases dH (c y).cells.toList 0 (vs++G).toArray s.w #[] a (by simp only[my,bd];omega) m.cell U q with L|⟨j,_,_,rfl⟩
  ·simp at L
  ·exact lS (aH V) (by simp) (W _)
end
section
variable {σ:List ak}
theorem ag.Cy{s:St}(hh:ag σ s){b:Nat}{vs:List Value}(i:∀ o,s.M b o=none)(h:∀ o v,vs[o]?=some v->s.w.cell? ⟨b,o,none⟩=some v) :
  ag (σ.map λ_=>.dead) { s with M:=λa o=>if a=b then vs[o]? else s.M a o }/\∀ a o v,s.M a o=some v->(if a=b then vs[o]? else s.M a o)=some v:=by
 have f:=hh.kD;refine⟨⟨λa o v c=>?_,f.len,λl B L g j=>?_,f.ez,f.lt,f.own⟩,λa o v c=>?_⟩
 ·by_cases e:a=b
  ·subst e;simp only[aZ] at c;exact h o v c
  ·simp only[e,aQ] at c;exact f.mem a o v c
 ·have:=aH g;simp at this;rw[<-this.2];trivial
 ·by_cases e:a=b
  ·subst e;rw[i] at c;cases c
  ·simp only[e,aQ];exact c
theorem eP.DG{s:St}{M':Mem}{b:Nat}{es:Array Event}(h:eP { s with M:=M' } es){L:Loc}(l:L∈s.β)(m:b∈L.bs)(q:∀ f o v,s.M f o=some v->M' f o=some v)(i:∀ f o v,M' f o=some v->f=b∨s.M f o=some v):eP s es:=by
 intro e n;have h1:=h e n;unfold lf at h1 ⊢;split at h1
 ·obtain⟨r,k,c⟩:=h1;refine⟨r,k,?_⟩;rcases c with c|⟨c,j⟩|⟨c,v,j⟩
  ·exact .inl c
  ·refine .inr (.inl ⟨c,λg=>?_⟩)
   have:=j g
   rename_i a _
   cases p:s.M a.block a.off with
   |none=>rfl
   |some v=>have h2:=q _ _ _ p;simp only at this;rw[this] at h2;cases h2
  ·rcases i _ _ _ j with h2|h2
   ·exact .inr (.inl ⟨⟨L,l,by rw[h2];exact m⟩,λg=>by rw[c] at g;cases g⟩)
   ·exact .inr (.inr ⟨c,v,h2⟩)
 all_goals exact h1
end
def FW(k:Nat)(f:Nat->Nat->Value):Nat->List C:=λi=>(List.range k).map λj=>.val (f i j)
theorem pJ{k:Nat}{f:Nat->Nat->Value}{i j:Nat}{c:C}(h:(FW k f i)[j]?=some c):j<k/\c=.val (f i j):=by
 have a:j<k:=by
  have:=(aF.1 h).1;simpa[FW] using this
 simp[FW,a] at h;exact⟨a,h.symm⟩
theorem DH{k:Nat}{f:Nat->Nat->Value}{i j:Nat}(h:j<k):(FW k f i)[j]?=some (.val (f i j)):=by simp[FW,h]
theorem Rd.exact{M:Mem}{v:Value}{t:Bool}{k n:Nat}{es:Nat->List C}(h:Rd M v (.sl t k n es)) :
  ∃ f:Nat->Nat->Value,Rd M v (.sl t k n (FW k f))/\(∀ i,i<n->(es i).length=k)/\∀ i,i<n->∀ j c,(es i)[j]?=some c->Rd M (f i j) c:=by
 cases h with
 |sl b off f e r p l q s m =>
  have a:∀ i,i<n->∀ j,j<k->∃ c,(es i)[j]?=some c:=λi hi j hj=>⟨_,aj (by rw[l i hi];exact hj)⟩
  refine⟨f,.sl b off f e r p (λi _=>by simp[FW]) q (λi hi j c hj=>?_) (λi hi j c hj=>?_),l,m⟩
  ·obtain⟨h1,_⟩:=pJ hj;obtain⟨g,h2⟩:=a i hi j h1;exact s i hi j g h2
  ·obtain⟨h1,rfl⟩:=pJ hj;obtain⟨g,h2⟩:=a i hi j h1;exact .val (m i hi j g h2).cell
theorem uy{σ:List ak}{s:St}{l:Nat}{E:TypeId}{k n:Nat}{es:Nat->List C}{L:Loc}{a c:Option Addr}{cap:Nat}(e:σ[l]?=some (.buf E k n es))(p:s.β[l]?=some L)(g:L.v=.slice c 0 cap)(q:n<=cap)(f:cap<=9223372036854775807)
  (i:0<cap->∃ b,c=some ⟨b,0,none⟩/\a=some ⟨b,0,none⟩):fz σ s (.slice a n cap) (.bp l (.sl n k 0 n)) :=
 ⟨L.v,⟨a,c,cap,cap,rfl,q,by omega,f,g,λh=>by obtain⟨b,j,m⟩:=i h;exact⟨b,j,by simp[m]⟩⟩,(aF.1 e).1,λr k' n' es' he=>by
  rw[e] at he;cases he;exact⟨aq _,λ_=>⟨L,p,rfl⟩⟩⟩
set_option maxHeartbeats 1000000 in
theorem aG.Gn{P:Program}{o:Oper}{d:Operand->D}{σ:List ak}{x y:Operand}{E:TypeId}{g:TI}(h:vg P o x y E g){l n q:Nat}{tx:Bool}{es es':Nat->List C}
  (hx:d x=.e (.one (.bp l (.sl n g.size 0 n)))) (hl:σ[l]?=some (.buf E g.size n es)) (hy:∀ s v,cd σ s v (d y)->Rd s.M v (.sl tx g.size q es')) (O:(n+q)*g.bytes<=140737488355328) :
  aG P o d σ (.e (.one (.bp l (.sl (n+q) g.size 0 (n+q))))) (σ.set l (.buf E g.size (n+q) (cx n es es'))):=by
 intro s ρ hh hr;obtain⟨t,t2,i,i2,ho,hi,hd,B,A⟩:=h.op;have J:l<σ.length:=(aF.1 hl).1;have h1:=hr x;rw[hx] at h1
 change fz σ s (ρ x) (.bp l _) at h1
 obtain⟨lv,⟨a,a0,cap,r,hv,S,Lh,Q,I6,S3⟩,_,S4⟩:=h1;obtain⟨L,hL,F⟩:=(S4 _ _ _ _ hl).2 rfl;rw[I6] at F;have Nm:r=cap:=by omega
 subst Nm;have V:0<r->∃ b,a0=some ⟨b,0,none⟩/\a=some ⟨b,0,none⟩:=λh=>by obtain⟨b,e1,e2⟩:=S3 h;exact⟨b,e1,by simpa using e2⟩
 have h2:=hy s _ (hr y);have K:l<s.β.length:=(aF.1 hL).1;have R:=aH hL;have W:=hh.box l _ L hl hL;rw[dJ ho,hv];have row:0<r->∃ b vs zs,a=some ⟨b,0,none⟩/\L=⟨.slice (some ⟨b,0,none⟩) 0 r,[b]⟩/\s.w.heap[b]?=some (.cells (vs++zs).toArray E (0,0))/\(vs++zs).length=r*g.size/\Flat s.M g.size n es vs/\∀ o,s.M b o=none:=by
  intro G;obtain⟨b,e1,e2⟩:=V G;rcases W with⟨_,rfl⟩|⟨p,c1,vs,zs,rfl,h3,h4,h5,h6,h7,h8⟩
  ·cases F;omega
  ·rw[e1] at F;cases F;exact⟨b,vs,zs,e2,rfl,h3,h4,h7,h8⟩
 by_cases h0:q=0
 ·subst h0;have k:=ia (P:=P) (ty:=o.type) hi hd B A h.elem hh (a:=a) S h2;simp only[eg];have ha:aw n es (cx n es es'):=λi hi=>by simp[cx,hi]
  have M7:dj (σ.set l (.buf E g.size n (cx n es es'))) ⟨s.β.set l L,s.M,s.w,s.own⟩ (.buf E g.size n (cx n es es')) L:=by
   rcases W with h3|⟨p,c1,vs,zs,h2,h3,h4,h5,h6,h7,h8⟩
   ·exact .inl h3
   ·exact .inr ⟨p,c1,vs,zs,h2,h3,h4,h5,h6,h7.xw ha,h8⟩
  have xQ:=hh.jL (M':=s.M) (w':=s.w) (B':=.buf E g.size n (cx n es es')) (L':=L) hl hL ⟨λ_=>rfl,aq _⟩ (aq _) (λ_ _ _=>rfl) (λ_ _ _ _=>rfl) (λ_ _ _ h=>h) hh.mem
   (λb O=>⟨.inl O,hh.lt L R b O⟩) rfl rfl rfl M7
  refine⟨.value (.slice a n r),_,?_,?_,xQ.1,xQ.2,dx (iH hi hd B A h.elem hh S h2)⟩
  ·simp[k]
  ·exact uy (E:=E) (by rw[bo J]) (by simp only;rw[bo K]) F S Q V
 ·by_cases m:n+q<=r
  ·obtain⟨b,vs,zs,rfl,rfl,hw,u,hF,hM⟩:=row (by omega)
   obtain⟨f,IE,k⟩:=jU (P:=P) (ty:=o.type) hi hd B A h.elem hh hw u h2 m;have KY:vs.length=n*g.size:=hF.len;have Rw:f.length=q*g.size:=IE.len;have Qu:n*g.size+q*g.size<=r*g.size:=by rw[<-eh];exact eT _ m
   have L6:((vs++zs).take (n*g.size)++f++(vs++zs).drop (n*g.size+f.length))=(vs++f)++zs.drop f.length:=by
    rw[<-KY];simp[List.drop_append]
   rw[L6] at k;have O8:=setRow_heap s.w b _ ((vs++f)++zs.drop f.length).toArray E _ hw;have U:∀ p,p≠b->(s.w.setRow b ((vs++f)++zs.drop f.length).toArray).heap[p]?=s.w.heap[p]?:=λp H=>setRow_other s.w b p _ H
   obtain⟨t1,X⟩:=hh.jL (M':=s.M) (w':=s.w.setRow b ((vs++f)++zs.drop f.length).toArray) (B':=.buf E g.size (n+q) (cx n es es')) (L':=⟨.slice (some ⟨b,0,none⟩) 0 r,[b]⟩) hl hL ⟨λ_=>rfl,by omega⟩ (by simp[World.setRow])
    (λp H hn=>U p (by rintro rfl;exact hn (by simp))) (λ_ _ _ _=>rfl) (λ_ _ _ h=>h) (λp o' v O9=>by
     have sj:p≠b:=by intro e;rw[e,hM] at O9;cases O9
     have:=hh.mem p o' v O9;rw[<-this];simp only[World.cell?];rw[U p sj]) (λp H=>⟨.inl H,by have:=hh.lt _ R p H;simpa[World.setRow] using this⟩) rfl rfl rfl
    (.inr ⟨b,r,vs++f,zs.drop f.length,rfl,O8,by simp only[bd,la] at u ⊢;omega,m,Q,hF.append IE,hM⟩)
   refine⟨.value (.slice (some ⟨b,0,none⟩) (n+q) r),_,?_,?_,t1,X,dx (lg hi hd B A h.elem hh hw u h2 m R (by simp) (λo _=>hM o))⟩
   ·simp[k]
   ·exact uy (E:=E) (by rw[bo J]) (by simp only;rw[bo K]) rfl m Q λ_=>⟨b,rfl,rfl⟩
  ·have hg:r<n+q:=by omega
   obtain⟨f2,S5,Ja,um⟩:=h2.exact;have dM:∃ (M':Mem) (f0:Nat->Nat->Value),ag (σ.map λ_=>.dead) { s with M:=M' }/\(∀ p o v,s.M p o=some v->M' p o=some v)/\Rd M' (.slice a n r) (.sl false g.size n (FW g.size f0))/\(∀ {es},eP { s with M:=M' } es->eP s es) /\
     (∀ i,i<n->(es i).length=g.size)/\∀ i,i<n->∀ j c,(es i)[j]?=some c->Rd s.M (f0 i j) c:=by
    by_cases G:0<r
    ·obtain⟨b,vs,zs,rfl,rfl,hw,u,hF,hM⟩:=row G;obtain⟨c1,c2⟩:=hh.Cy (b:=b) (vs:=vs) hM (λo v ho=>by
      simp only[World.cell?,hw];have:o<vs.length:=(aF.1 ho).1;simpa[bS this] using ho)
     have I:∀ i,i<n->∀ j c,(es i)[j]?=some c->vs[i*g.size+j]?=some (vs.getD (i*g.size+j) undef)/\Rd s.M (vs.getD (i*g.size+j) undef) c:=by
      intro i hi j c hj;obtain⟨v,v1,v2⟩:=hF.rd i hi j c hj;have e:vs.getD (i*g.size+j) undef=v:=by simp[List.getD_eq_getElem?_getD,v1]
      exact⟨by rw[e,v1],by rw[e];exact v2⟩
     have Q0:∀ i,i<n->∀ j,j<g.size->∃ c,(es i)[j]?=some c:=λi hi j hj=>⟨_,aj (by rw[hF.width i hi];exact hj)⟩
     refine⟨_,λi j=>vs.getD (i*g.size+j) undef,c1,c2,.sl b 0 (λi j=>vs.getD (i*g.size+j) undef) S Q (by simp) (λi _=>by simp[FW]) (λ_=>rfl) (λi hi j c hj=>?_) (λi hi j c hj=>?_),λhe=>?_,hF.width,λi hi j c hj=>(I i hi j c hj).2⟩
     ·obtain⟨e1,_⟩:=pJ hj;obtain⟨c',e2⟩:=Q0 i hi j e1;simp only[ay,aZ];exact(I i hi j c' e2).1
     ·obtain⟨e1,rfl⟩:=pJ hj;obtain⟨c',e2⟩:=Q0 i hi j e1;exact .val (I i hi j c' e2).2.cell
     ·exact he.DG (b:=b) R (by simp) c2 λp o v hv=>by
       by_cases e:p=b
       ·exact .inl e
       ·simp only[e,aQ] at hv;exact .inr hv
    ·have e1:r=0:=by omega
     have e2:n=0:=by omega
     subst e1 e2;have z:=hh.kD;exact⟨s.M,λ_ _=>undef,⟨z.mem,z.len,z.box,z.ez,z.lt,z.own⟩,λ_ _ _ h=>h,Rd.iI,λh=>h,λi hi=>by omega,λi hi=>by omega⟩
   obtain⟨M',f0,c1,c2,hR,S6,Q1,S7⟩:=dM;have Q2:Rd ({ s with M:=M' }:St).M (ρ y) (.sl tx g.size q (FW g.size f2)):=S5.mono c2;obtain⟨Y,zs,N,Z,M9,Na,hlen,k⟩:=iG (P:=P) (s:={ s with M:=M' }) (ty:=o.type) hi hd B A h.elem c1 hR Q2 hg O h.bytes;have OO:=jM (P:=P) (s:={ s with M:=M' }) (ty:=o.type) hi hd B A h.elem c1 hR Q2 hg O h.bytes;have S8:Flat s.M g.size (n+q) (cx n es es') Y:=by
    refine⟨Z.len,λi hi=>?_,λi hi j c hj=>?_⟩
    ·by_cases e:i<n
     ·simp only[cx,e,aZ];exact Q1 i e
     ·simp only[cx,e,aQ];exact Ja _ (by omega)
    ·by_cases e:i<n
     ·simp only[cx,e,aZ] at hj;have Ld:j<g.size:=by have:=(aF.1 hj).1;rw[Q1 i e] at this;exact this
      obtain⟨v,v1,v2⟩:=Z.rd i hi j (.val (f0 i j)) (by simp only[cx,e,aZ];exact DH Ld)
      rw[Rd.fD v2] at v1;exact⟨_,v1,S7 i e j c hj⟩
     ·simp only[cx,e,aQ] at hj;have Ld:j<g.size:=by have:=(aF.1 hj).1;rw[Ja _ (by omega)] at this;exact this
      obtain⟨v,v1,v2⟩:=Z.rd i hi j (.val (f2 (i-n) j)) (by simp only[cx,e,aQ];exact DH Ld)
      rw[Rd.fD v2] at v1;exact⟨_,v1,um _ (by omega) j c hj⟩
   have nM:∀ o,s.M s.w.heap.size o=none:=λo=>by
    cases hm:s.M s.w.heap.size o with
    |none=>rfl
    |some v=>have:=hh.block hm;omega
   obtain⟨t1,X⟩:=hh.jL (M':=s.M) (w':=s.w.drew.alloc (.cells (Y++zs).toArray E)) (B':=.buf E g.size (n+q) (cx n es es')) (L':=⟨.slice (some ⟨s.w.heap.size,0,none⟩) 0 N,[s.w.heap.size]⟩) hl hL
    ⟨λe=>absurd e (by omega),by omega⟩ (by simp) (λb O _=>bK s.w.drew _ O) (λ_ _ _ _=>rfl) (λ_ _ _ h=>h) (λb o v hm=>by
     have tM:=hh.block hm;rw[<-hh.mem b o v hm];simp only[World.cell?];rw[bK s.w.drew _ tM];rfl) (λb O=>by
     simp at O;subst O;exact⟨.inr (aq _),by simp⟩) rfl rfl rfl (.inr ⟨s.w.heap.size,N,Y,zs,rfl,cB s.w.drew _,hlen,M9,Na,S8,nM⟩)
   refine⟨.value (.slice (some ⟨s.w.heap.size,0,none⟩) (n+q) N),_,?_,?_,t1,X,dx (S6 OO)⟩
   ·simp only at k;simp[k]
   ·exact uy (E:=E) (by rw[bo J]) (by simp only;rw[bo K]) rfl M9 Na λ_=>⟨_,rfl,rfl⟩
section
variable {P:Program}{T:List (Nat×TI)}{o:Oper}{d:Operand->D}{σ:List ak}
theorem aG.On(l:bV P T){x:Operand}{b:Array TypeId}{t:TypeId}(h:o.op=.call { callee:=.builtin .len,args:=#[x],argTypes:=b })(j:b[0]?=some t){i:TI}{E:TypeId}(hi:aJ T t=some i)(k:i.desc=.slice E)
  {a:Option Addr} {n cap:Nat} (m:d x=.e (.one (.c (.val (.slice a n cap))))) (q:n<=9223372036854775807):aG P o d σ (.e (.one (.c (.int .i64 n)))) σ:=by
 refine .quiet λs p hh hr=>?_
 have h1:=hr x;rw[m] at h1;have g:=Rd.fD (ei h1);have f:=(l t i hi).run_underlying (w:=s.w);rw[k] at f;refine⟨.int .i64 n,?_,Rd.int (by simp only[aB];omega),?_⟩ <;>
 simp[execOp,h,resolve,invoke,builtin,Builtin.len_,g,f,goInt,j]
theorem aG.vu(p:bV P T){t:TypeId}{x y:Operand}(h:o.op=.indexAddr t x y){i g:TI}{E:TypeId}(hi:aJ T t=some i)(v:i.desc=.slice E)(u:aJ T E=some g)
  {b off n cap:Nat} {j:Int} {kk:IntKind} (A:d x=.e (.one (.c (.val (.slice (some ⟨b,off,none⟩) n cap))))) (z:d y=.e (.one (.c (.int kk j)))) (B:0<=j) (h1:j<n):aG P o d σ (.e (.one (.c (.val (.pointer (some ⟨b,off+j.toNat*g.size,none⟩)))))) σ:=by
 refine .quiet λs q hh hr=>?_
 have a:=hr x;rw[A] at a;have r:=Rd.fD (ei a);have h2:=hr y;rw[z] at h2
 replace h2:=ei h2
 generalize k:q y=vy at h2;cases h2;have m:=(p t i hi).run_underlying (w:=s.w);rw[v] at m;obtain⟨f,rfl⟩:∃ f:Nat,j=f:=⟨j.toNat,by omega⟩
 have l:f<n:=by omega
 refine⟨.pointer (some ⟨b,off+f*g.size,none⟩),?_,Rd.val rfl,?_⟩ <;>
 simp[execOp,h,r,k,Instr.indexAt,asIntOf,m,(p E g u).run_sizeOf,ck,l]
theorem aG.I1(g:bV P T){t:TypeId}{x:Operand}{f:Nat}(h:o.op=.fieldAddr t x f){b off k:Nat}{j:TI}(l:d x=.e (.one (.c (.val (.pointer (some ⟨b,off,none⟩))))))(i:gj T t f=some (k,j)):aG P o d σ (.e (.one (.c (.val (.pointer (some ⟨b,off+k,none⟩)))))) σ:=by
 refine .quiet λs m hh hr=>?_
 have h1:=hr x;rw[l] at h1;have a:=Rd.fD (ei h1);exact⟨.pointer (some ⟨b,off+k,none⟩),by simp[execOp,h,a,jy g i],Rd.val rfl,by simp[execOp,h,a,kK g i]⟩
theorem aG.slice3(J:bV P T){t:TypeId}{x y z:Operand}(h:o.op=.slice t x none (some y) (some z)){i K:TI}{E:TypeId}(F:aJ T t=some i)(U:i.desc=.slice E)(S:aJ T E=some K){tt:Bool}{k n:Nat}{es:Nat->List C}{r u:IntKind}{j m:Int}
  (Q:∀ s v,cd σ s v (d x)->Rd s.M v (.sl tt k n es)) (V:d y=.e (.one (.c (.int r j)))) (O:d z=.e (.one (.c (.int u m)))) (G:0<=j) (h1:j<=m) (h2:m<=n):aG P o d σ (.e (.one (.c (.sl false k j.toNat es)))) σ:=by
 refine .quiet λst ρ hh hr=>?_
 have q:=Q st _ (hr x);have p:=hr y;rw[V] at p
 replace p:=ei p
 generalize B:ρ y=vy at p;cases p;have l:=hr z;rw[O] at l
 replace l:=ei l
 generalize A:ρ z=vz at l;cases l;obtain⟨a,cap,vs,H,L,X,ht,Z,hm⟩:=q.flat;rw[H] at q;have g:=(J t i F).run_underlying (w:=st.w);rw[U] at g;have em:((m.toNat:Nat):Int)=m:=tJ (by omega)
 have N:(Instr.sliceBounds true n cap none (some (.int r j)) (some (.int u m))).run P st.w=.ok (0,j.toNat,m.toNat) st.w:=by
  simp[Instr.sliceBounds,run_sliceBound (P:=P) st.w u m cap _ (by omega) (by omega),run_sliceBound (P:=P) st.w r j m.toNat _ G (by omega)]
 have Y:(Instr.sliceBounds true n cap none (some (.int r j)) (some (.int u m))).events P st.w #[]=#[]:=by
  simp[Instr.sliceBounds,run_sliceBound (P:=P) st.w u m cap _ (by omega) (by omega),run_sliceBound (P:=P) st.w r j m.toNat _ G (by omega),eu (P:=P) st.w u m cap _ (by omega) (by omega),eu (P:=P) st.w r j m.toNat _ G (by omega)]
 refine⟨.slice a j.toNat m.toNat,?_,?_,by simp[execOp,h,H,B,A,Instr.sliceAt,g,Instr.slice,N,Y]⟩
 ·simp[execOp,h,H,B,A,Instr.sliceAt,g,Instr.slice,N,(J E K S).run_sizeOf];intro _;rcases a with _|⟨b,off,sp⟩ <;> simp[Addr.add]
 ·cases q with
  |sl b off f _ _ _ R W hm' Gc =>
   exact Rd.sl b off f (by omega) (by omega) (by simp) (λi hi=>R i (by omega)) (λI=>W (by omega)) (λi hi j c hj=>hm' i (by omega) j c hj) (λi hi j c hj=>Gc i (by omega) j c hj)
end
section drop
variable {σ1 rest:List ak}{s:St}
def St.cut(s:St)(n:Nat):St:={ s with β:=s.β.take n }
theorem fz.drop{v:Value}{a:A}(r:fz (σ1++rest) s v a)(d:Ax σ1.length a=true):fz σ1 (s.cut σ1.length) v a:=by
 have lt:∀ {l:Nat},Nat.ble (l+1) σ1.length=true->l<σ1.length:=λh=>c6 h
 cases a with
 |c x=>exact r
 |any=>exact r
 |ptr l o =>
  have hl:=lt d;obtain⟨i,L,b,m,f⟩:=r;refine⟨λB g=>i B (by rw[bS hl];exact g),L,b,?_,f⟩
  simp only[St.cut,dD,hl,aZ];exact m
 |ref l =>
  have hl:=lt d;obtain⟨i,L,m,f⟩:=r;refine⟨λB g=>i B (by rw[bS hl];exact g),L,?_,f⟩
  simp only[St.cut,dD,hl,aZ];exact m
 |bp l w =>
  have hl:=lt d;obtain⟨lv,i,_,f⟩:=r;refine⟨lv,i,hl,λE k' n' es' g=>?_⟩
  obtain⟨h1,h2⟩:=f E k' n' es' (by rw[bS hl];exact g)
  refine⟨h1,λe=>?_⟩
  obtain⟨L,p,j⟩:=h2 e;refine⟨L,?_,j⟩;simp only[St.cut,dD,hl,aZ];exact p
 |vec l k n es =>
  have hl:=lt d;obtain⟨i,_,f⟩:=r;refine⟨i,hl,λE k' n' es' g=>?_⟩
  obtain⟨h1,h2⟩:=f E k' n' es' (by rw[bS hl];exact g)
  refine⟨h1,λe=>?_⟩
  obtain⟨L,p,j⟩:=h2 e;refine⟨L,?_,j⟩;simp only[St.cut,dD,hl,aZ];exact p
theorem cA.rN:∀ {vs:List Value}{cs:List A},cA (σ1++rest) s vs cs->Ay σ1.length cs=true->cA σ1 (s.cut σ1.length) vs cs
 |[],[],_,_=>trivial
 |[],_::_,r,_=>r.elim
 |_::_,[],r,_=>r.elim
 |v::vs,c::cs,r,h=>by
  simp only[Ay] at h;cases a:Ax σ1.length c with
  |false=>simp[a] at h
  |true=>simp only[a] at h;exact⟨r.1.drop a,cA.rN r.2 h⟩
theorem k5.rN{v:Value}{e:E1}(r:k5 (σ1++rest) s v e)(h:CB σ1.length e=true):k5 σ1 (s.cut σ1.length) v e:=by
 cases e with
 |one a=>exact fz.drop r h
 |agg cs=>obtain⟨vs,h1,h2⟩:=r;exact⟨vs,h1,cA.rN h2 h⟩
theorem eZ.rN:∀ {vs:List Value}{cs:List E1},eZ (σ1++rest) s vs cs->rH σ1.length cs=true->eZ σ1 (s.cut σ1.length) vs cs
 |[],[],_,_=>trivial
 |[],_::_,r,_=>r.elim
 |_::_,[],r,_=>r.elim
 |v::vs,c::cs,r,h=>by
  simp only[rH] at h;cases a:CB σ1.length c with
  |false=>simp[a] at h
  |true=>simp only[a] at h;exact⟨k5.rN r.1 a,eZ.rN r.2 h⟩
theorem cd.drop{v:Value}{d:D}(r:cd (σ1++rest) s v d)(h:vd σ1.length d=true):cd σ1 (s.cut σ1.length) v d:=by
 cases d with
 |e x=>exact k5.rN r h
 |eY xs=>obtain⟨vs,h1,h2⟩:=r;exact⟨vs,h1,eZ.rN h2 h⟩
 |any=>trivial
theorem bD.drop{a:List ak}{s0:St}(st:bD a s0 (σ1++rest) s)(c:a.length<=σ1.length):bD a s0 σ1 (s.cut σ1.length):=by
 refine⟨st.size,st.en,st.mem,st.hZ,λL d b g=>st.rF L (jJ d) b g,?_,st.os,st.tape,st.output,st.own⟩
 intro l B L e d;obtain⟨B',L',h1,h2,f⟩:=st.box l B L e d;have hl:l<σ1.length:=bk (aF.1 e).1 c;rw[bS hl] at h1;exact⟨B',L',h1,by simp only[St.cut,dD,hl,aZ];exact h2,f⟩
theorem fz.nj{σ:List ak}{v:Value}{a:A}(hl:s.β.length=σ.length)(r:fz σ s v a):Ax σ.length a=true:=by
 have ok:∀ {l:Nat},l<σ.length->Nat.ble (l+1) σ.length=true:=λh=>pn h
 have lt:∀ {l:Nat} {L:Loc},s.β[l]?=some L->l<σ.length:=λh=>by rw[<-hl];exact(aF.1 h).1
 cases a with
 |c x=>rfl
 |any=>rfl
 |ptr l o=>obtain⟨_,L,b,d,_⟩:=r;exact ok (lt d)
 |ref l=>obtain⟨_,L,d,_⟩:=r;exact ok (lt d)
 |bp l w=>obtain⟨lv,_,h,_⟩:=r;exact ok h
 |vec l k n es=>exact ok r.2.1
theorem cA.nj{σ:List ak}(hl:s.β.length=σ.length):∀ {vs:List Value}{cs:List A},cA σ s vs cs->Ay σ.length cs=true
 |[],[],_=>rfl
 |[],_::_,r=>r.elim
 |_::_,[],r=>r.elim
 |v::vs,c::cs,r=>by simp only[Ay,r.1.nj hl];exact cA.nj hl r.2
theorem k5.nj{σ:List ak}(hl:s.β.length=σ.length){v:Value}{e:E1}(r:k5 σ s v e):CB σ.length e=true:=by
 cases e with
 |one a=>exact fz.nj hl r
 |agg cs=>obtain⟨vs,_,h⟩:=r;exact cA.nj hl h
theorem eZ.nj{σ:List ak}(hl:s.β.length=σ.length):∀ {vs:List Value}{cs:List E1},eZ σ s vs cs->rH σ.length cs=true
 |[],[],_=>rfl
 |[],_::_,r=>r.elim
 |_::_,[],r=>r.elim
 |v::vs,c::cs,r=>by simp only[rH,k5.nj hl r.1];exact eZ.nj hl r.2
theorem cd.nj{σ:List ak}(hl:s.β.length=σ.length){v:Value}{d:D}(r:cd σ s v d):vd σ.length d=true:=by
 cases d with
 |e x=>exact k5.nj hl r
 |eY xs=>obtain⟨vs,_,h⟩:=r;exact eZ.nj hl h
 |any=>rfl
theorem ag.Lt{s0:St}(j:ag σ1 s0)(h:ag (σ1++rest) s):ag σ1 (s.cut σ1.length):=by
 have hl:σ1.length<=s.β.length:=by rw[h.len];simp
 refine⟨h.mem,by simp[St.cut,hl],?_,?_,?_,λb g=>⟨(h.own b g).1,λL c=>(h.own b g).2 L (jJ c)⟩⟩
 ·intro l B L m c;have e:l<σ1.length:=(aF.1 m).1;simp only[St.cut,dD,e,aZ] at c;have a:=h.box l B L (by rw[bS e];exact m) c
  have f:∃ o,s0.β[l]?=some o:=⟨_,aj (by rw[j.len];exact e)⟩
  obtain⟨o,f⟩:=f;have i:=j.box l B o m f;cases B with
  |cells E cs =>
   obtain⟨b,vs,h1,h2,u,p⟩:=a;obtain⟨_,_,_,_,g3,_⟩:=i;exact⟨b,vs,h1,h2,cA.rN u (g3.nj j.len),p⟩
  |vec E k n es=>exact a
  |eB H=>exact a
  |dead=>trivial
  |loop N φ r =>
   obtain⟨l',tmps,fn,v,h1,h2,u,p,w⟩:=a;obtain⟨_,_,_,_,_,_,_,g4,_⟩:=i;exact⟨l',tmps,fn,v,h1,h2,u,λt=>(p t).drop ((g4 t).nj j.len),w⟩
  |nN=>exact a
  |buf E k n es=>exact a
 ·intro l l' L L' c d b g q;simp only[St.cut,dD] at c d;split at c <;> split at d <;> first|exact h.ez l l' L L' c d b g q|(cases c;done)|(cases d;done)
 ·intro L c b g;exact h.lt L (jJ c) b g
theorem OA.Lu{P:Program}{X:Cx P}{N:Nat}{all:List Oper}{o:Oper}{φ:Fr}{σ:List ak}{E:TypeId}{k n:Nat}{es:Nat->List C}(h:OA X N all o φ σ (.e (.one (.vec σ.length k n es))) (σ++[.vec E k n es])):OA X N all o φ σ (.e (.one (.c (.sl false k n es)))) σ:=by
 intro s a f hh b kk cs S i rest d hi hK;refine h s a f hh b kk cs S i rest d hi λv s' hv md st=>?_
 have g:eX s' (s'.cut σ.length):=⟨rfl,λ_ _ _ h=>h,λ_ _ _=>rfl,md.mem,λb d=>d.imp id λ⟨L,j,d⟩=>⟨L,jJ j,d⟩⟩
 exact .ghost g (hK v (s'.cut σ.length) hv.1 (hh.Lt md) (st.drop (aq _)))
end drop
end Go.AM
namespace Go.AM
section force
variable {p:Type}
def qh:C->(C->Option p)->Option p
 |.int k n,q=>q (.int k n)
 |.bool b,q=>q (.bool b)
 |.str s,q=>q (.str s)
 |.sl true k n es,q=>q (.sl true k n es)
 |.sl false k n es,q=>q (.sl false k n es)
 |.rp cs,q=>bZ cs λcs=>q (.rp cs)
 |.CG t cs,q=>bZ cs λcs=>q (.CG t cs)
 |.fn f a b,q=>bZ a λa=>bZ b λb=>q (.fn f a b)
 |c,q=>q c
theorem AD(c:C)(q:C->Option p):qh c q=q c:=by
 cases c with
 |sl t=>cases t <;> rfl
 |rp cs=>simp[qh,bM]
 |CG t cs=>simp[qh,bM]
 |fn f a b=>simp[qh,bM]
 |_=>rfl
def qi:A->(A->Option p)->Option p
 |.c x,q=>qh x λx=>q (.c x)
 |.ptr l o,q=>q (.ptr l o)
 |.vec l k n es,q=>q (.vec l k n es)
 |.ref l,q=>q (.ref l)
 |.bp l (.sl g k o n),q=>q (.bp l (.sl g k o n))
 |.bp l (.el g k i f),q=>q (.bp l (.el g k i f))
 |.any,q=>q .any
theorem sn(a:A)(q:A->Option p):qi a q=q a:=by
 cases a with
 |bp l w=>cases w <;> simp[qi]
 |_=>simp[qi,AD]
def pE:List A->(List A->Option p)->Option p
 |[],q=>q []
 |a::r,q=>qi a λa=>pE r λr=>q (a::r)
theorem xH(l:List A)(q:List A->Option p):pE l q=q l:=by
 induction l generalizing q with
 |nil=>rfl
 |cons a r b=>simp[pE,sn,b]
def ub:E1->(E1->Option p)->Option p
 |.one a,q=>qi a λa=>q (.one a)
 |.agg cs,q=>pE cs λcs=>q (.agg cs)
theorem sq(a:E1)(q:E1->Option p):ub a q=q a:=by cases a <;> simp[ub,sn,xH]
def pF:List E1->(List E1->Option p)->Option p
 |[],q=>q []
 |a::r,q=>ub a λa=>pF r λr=>q (a::r)
theorem xI(l:List E1)(q:List E1->Option p):pF l q=q l:=by
 induction l generalizing q with
 |nil=>rfl
 |cons a r b=>simp[pF,sq,b]
def kE:D->(D->Option p)->Option p
 |.e x,q=>ub x λx=>q (.e x)
 |.eY xs,q=>pF xs λxs=>q (.eY xs)
 |.any,q=>q .any
theorem j0(a:D)(q:D->Option p):kE a q=q a:=by cases a <;> simp[kE,sq,xI]
end force
def uc:D->Option (Bool×Nat×Nat×(Nat->List C))
 |.e (.one (.c (.sl t k n es)))=>some (t,k,n,es)
 |.e (.one (.vec _ k n es))=>some (false,k,n,es)
 |_=>none
theorem kH{d:D}{t:Bool}{k n:Nat}{es:Nat->List C}(h:uc d=some (t,k,n,es))(σ:List ak)(s:St)(v:Value)(r:cd σ s v d):Rd s.M v (.sl t k n es):=by
 unfold uc at h;split at h
 ·cases h;exact r
 ·cases h;exact r.1
 ·cases h
def fw(l:List UInt8) (j:Int):UInt8:=l.getD j.toNat 0
def IS(T:List (Nat×TI))(t:TypeId)(d:D):Option D :=
 match aJ T t with
 |none=>none
 |some i=>match i.desc with
  |.slice _=>match uc d with
   |some (_,_,n,_)=>some (.e (.one (.c (.int .i64 n))))
   |none=>none
  |.string=>match d with
   |.e (.one (.c (.str s)))=>some (.e (.one (.c (.int .i64 s.length))))
   |_=>none
  |_=>none
def CQ(T:List (Nat×TI))(a b:TypeId)(d:D):Option (D×List Prop) :=
 match aJ T a with
 |none=>none
 |some i1=>match aJ T b with
  |none=>none
  |some i2=>match i2.desc with
   |.int k'=>match d with
    |.e (.one (.c (.int _ j)))=>some (.e (.one (.c (.int k' j))),[aB k' j])
    |_=>none
   |.string=>match d with
    |.e (.one (.c (.str s)))=>some (.e (.one (.c (.str s))),[])
    |d=>match i1.desc with
     |.slice E=>match aJ T E with
      |some ie=>match ie.desc with
       |.int .u8=>match uc d with
        |some (_,k,n,es)=>match Nat.beq k 1 with
         |true=>match qj es 0 n with
          |some r=>some (.e (.one (.c (.str r))),[])
          |none=>none
         |false=>none
        |none=>none
       |_=>none
      |none=>none
     |_=>none
   |_=>none
def xJ(T:List (Nat×TI))(a:Operand->D)(t:TypeId)(x:Operand)(lo hi:Option Operand):Option (D×List Prop) :=
 match aJ T t with
 |none=>none
 |some i=>match o5 a lo with
  |none=>none
  |some l=>match o5 a hi with
   |none=>none
   |some u=>match i.desc with
    |.string=>match a x with
     |.e (.one (.c (.str s)))=>some (.e (.one (.c (.str (nk s l u)))),ib s.length l u)
     |_=>none
    |.slice E=>match aJ T E with
     |none=>none
     |some ie=>match uc (a x) with
      |some (tt,k,n,es)=>match Nat.beq k ie.size with
       |true=>some (.e (.one (.c (.sl (IT tt u) ie.size (cy n u-cy 0 l) (n3 (cy 0 l) es)))),ib n l u)
       |false=>none
      |none=>none
    |_=>none
def sr(op:BinOp)(k:IntKind) (a:Int)(k':IntKind) (b:Int):Option (D×List Prop) :=
 match vi op k a k' b with
 |some (c,obs)=>some (.e (.one (.c (.int k c))),obs)
 |none=>none
theorem nn{op:BinOp}{k k':IntKind}{a b:Int}{d:D}{obs:List Prop}(h:sr op k a k' b=some (d,obs)):∃ c,d=.e (.one (.c (.int k c)))/\vi op k a k' b=some (c,obs):=by
 unfold sr at h;split at h
 ·rename_i c f g;cases h;exact⟨c,rfl,g⟩
 ·cases h
def HX(T:List (Nat×TI))(op:BinOp)(t:TypeId)(x y:D):Option (D×List Prop) :=
 match x,y with
 |.e (.one (.c (.bool a))),.e (.one (.c (.bool b)))=>match aJ T t with
  |some i=>match i.desc with
   |.bool=>match iR op (a==b) with
    |some c=>some (.e (.one (.c (.bool c))),[])
    |none=>none
   |_=>none
  |none=>none
 |.e (.one (.c a)),.e (.one (.c b))=>match op with
  |.xor=>match a,b with
   |.int .i64 a,.int .i64 b=>some (.e (.one (.c (.int .i64 ((a.toNat ^^^ b.toNat:Nat):Int)))),[0<=a,0<=b])
   |.int .u64 a,.int k' b=>sr .xor .u64 a k' b
   |_,_=>none
  |.shl=>match a,b with
   |.int k a,.int k' b=>sr .shl k a k' b
   |_,_=>none
  |.shr=>match a,b with
   |.int k a,.int k' b=>sr .shr k a k' b
   |_,_=>none
  |.and=>match a,b with
   |.int k a,.int k' b=>sr .and k a k' b
   |_,_=>none
  |_=>match Gi op a b with
   |some (c,obs)=>some (.e (.one (.c c)),obs)
   |none=>none
 |.e (.agg cs),.e (.agg es)=>match aJ T t with
  |some i=>match i.eq with
   |[]=>none
   |d::ds=>match HY (d::ds) cs es with
    |some b=>match iR op b with
     |some c=>some (.e (.one (.c (.bool c))),[])
     |none=>none
    |none=>none
  |none=>none
 |_,_=>none
def Ni(T:List (Nat×TI))(CT:List (Nat×bE))(φ:Fr)(o:Oper):Option (D×List Prop) :=
 match o.op with
 |.move x|.assign x=>some (bw φ x,[])
 |.index t x y=>match aJ T t with
  |some i=>match i.desc with
   |.string=>match bw φ x,bw φ y with
    |.e (.one (.c (.str l))),.e (.one (.c (.int _ j)))=>some (.e (.one (.c (.int .u8 (fw l j).toNat))),[0<=j,j<l.length])
    |_,_=>none
   |_=>none
  |none=>none
 |.indexAddr t x y=>match aJ T t with
  |some i=>match i.desc with
   |.slice E=>match aJ T E with
    |some ie=>match uc (bw φ x),bw φ y with
     |some (_,k,n,es),.e (.one (.c (.int _ j)))=>match Nat.beq k ie.size with
      |true=>some (.e (.one (.c (.rp (es j.toNat)))),[0<=j,j<n])
      |false=>none
     |_,_=>none
    |none=>none
   |_=>none
  |none=>none
 |.slice t x lo hi none=>xJ T (bw φ) t x lo hi
 |.convert src dst x=>CQ T src dst (bw φ x)
 |.call c=>match c.callee with
  |.builtin .len=>match c.args.toList,c.argTypes[0]? with
   |[x],some t=>match IS T t (bw φ x) with
    |some d=>some (d,[])
    |none=>none
   |_,_=>none
  |.value fo=>vt CT φ fo c.args.toList
  |_=>none
 |.pick c a b=>match bw φ c with
  |.e (.one (.c (.bool true)))=>some (bw φ a,[])
  |.e (.one (.c (.bool false)))=>some (bw φ b,[])
  |_=>none
 |.binOp op t x y _=>HX T op t (bw φ x) (bw φ y)
 |.unOp op _ x=>match bw φ x with
  |.e (.one (.c a))=>match Nk op a with
   |some c=>some (.e (.one (.c c)),[])
   |none=>none
  |_=>none
 |.extract x j=>match bw φ x with
  |.eY xs=>match eb j xs with
   |some e=>some (.e e,[])
   |none=>none
  |_=>none
 |.fieldAddr t x f=>match gj T t f with
  |some (k,_)=>match bw φ x with
   |.e (.one (.ptr l off))=>some (.e (.one (.ptr l (off+k))),[])
   |.e (.one (.c (.rp cs)))=>some (.e (.one (.c (.rp (eL k cs)))),[])
   |_=>none
  |none=>none
 |.field t x f=>match gj T t f with
  |some (k,j)=>match bw φ x with
   |.e (.agg cs)=>match jX j (eL k cs) with
    |some e=>some (.e e,[])
    |none=>none
   |_=>none
  |none=>none
 |.nilCheck x=>match bw φ x with
  |.e (.one (.ptr l off))=>some (.e (.one (.ptr l off)),[])
  |.e (.one (.c (.rp cs)))=>some (.e (.one (.c (.rp cs))),[])
  |_=>none
 |.build t parts=>match ud T (bw φ) t parts.toList with
  |some cs=>some (.e (.agg cs),[])
  |none=>none
 |.buildSlice t n parts=>match Gj T (bw φ) t n parts.toList with
  |some (k,es)=>some (.e (.one (.c (.sl true k n λi=>es.getD i []))),[])
  |none=>none
 |.makeFunc fn a b=>match qk (bw φ) a.toList with
  |some ca=>match qk (bw φ) b.toList with
   |some cb=>some (.e (.one (.c (.fn fn ca cb))),[])
   |none=>none
  |none=>none
 |.makeInterface t x=>match aJ T t with
  |some i=>match np i.desc with
   |false=>match pG t (bw φ x) with
    |some c=>some (.e (.one (.c c)),[])
    |none=>none
   |true=>none
  |none=>none
 |.typeAssert x _ t true=>match aJ T t with
  |some i=>match np i.desc with
   |false=>match bw φ x with
    |.e (.one (.c c))=>match l3 t i c with
     |some (e,b)=>some (.eY [e,.one (.c (.bool b))],[])
     |none=>none
    |_=>none
   |true=>none
  |none=>none
 |_=>none
def CK(T:List (Nat×TI))(φ:Fr)(σ:List ak)(t:TypeId)(x:Operand):Option D :=
 match aJ T t with
 |some i=>match bw φ x with
  |.e (.one (.ptr l off))=>match eb l σ with
   |some (.cells _ cs)=>match jX i (eL off cs) with
    |some e=>some (.e e)
    |none=>none
   |_=>none
  |.e (.one (.c (.rp cs)))=>match jX i (cs.map A.c) with
   |some e=>some (.e e)
   |none=>none
  |_=>none
 |none=>none
def Oh(T:List (Nat×TI))(φ:Fr)(o:Oper):Option (D×List Prop) :=
 match o.op with
 |.indexAddr t x y=>match aJ T t with
  |some i=>match i.desc with
   |.slice E=>match aJ T E with
    |some ie=>match bw φ x,bw φ y with
     |.e (.one (.bp l (.sl g k q m))),.e (.one (.c (.int _ j)))=>match Nat.beq k ie.size with
      |true=>some (.e (.one (.bp l (.el g ie.size (q+j.toNat) 0))),[0<=j,j<m])
      |false=>none
     |.e (.one (.c (.val (.slice (some ⟨b,off,none⟩) n _)))),.e (.one (.c (.int _ j)))=>some (.e (.one (.c (.val (.pointer (some ⟨b,off+j.toNat*ie.size,none⟩))))),[0<=j,j<n])
     |_,_=>none
    |none=>none
   |_=>none
  |none=>none
 |.fieldAddr t x f=>match gj T t f with
  |some (k,_)=>match bw φ x with
   |.e (.one (.bp l (.el g a i q)))=>some (.e (.one (.bp l (.el g a i (q+k)))),[])
   |.e (.one (.c (.val (.pointer (some ⟨b,off,none⟩)))))=>some (.e (.one (.c (.val (.pointer (some ⟨b,off+k,none⟩))))),[])
   |_=>none
  |none=>none
 |.nilCheck x=>match bw φ x with
  |.e (.one (.bp l (.el g a i q)))=>some (.e (.one (.bp l (.el g a i q))),[])
  |_=>none
 |.slice t x lo hi none=>match aJ T t with
  |none=>none
  |some i=>match o5 (bw φ) lo with
   |none=>none
   |some lw=>match o5 (bw φ) hi with
    |none=>none
    |some u=>match i.desc with
     |.slice E=>match aJ T E with
      |none=>none
      |some ie=>match bw φ x with
       |.e (.one (.bp l (.sl g k q m)))=>match Nat.beq k ie.size with
        |true=>some (.e (.one (.bp l (.sl g ie.size (q+cy 0 lw) (cy m u-cy 0 lw)))),ib m lw u)
        |false=>none
       |_=>none
     |_=>none
 |.slice t x none (some y) (some z)=>match aJ T t with
  |none=>none
  |some i=>match i.desc with
   |.slice E=>match aJ T E with
    |none=>none
    |some _=>match uc (bw φ x),bw φ y,bw φ z with
     |some (_,k,n,es),.e (.one (.c (.int _ j))),.e (.one (.c (.int _ m)))=>some (.e (.one (.c (.sl false k j.toNat es))),[0<=j,j<=m,m<=n])
     |_,_,_=>none
   |_=>none
 |.call c=>match c.callee with
  |.builtin .len=>match c.args.toList,c.argTypes[0]? with
   |[x],some t=>match aJ T t with
    |some i=>match i.desc with
     |.slice _=>match bw φ x with
      |.e (.one (.bp _ (.sl _ _ _ m)))=>some (.e (.one (.c (.int .i64 m))),[])
      |.e (.one (.c (.val (.slice _ n _))))=>some (.e (.one (.c (.int .i64 n))),[n<=9223372036854775807])
      |_=>none
     |_=>none
    |none=>none
   |_,_=>none
  |_=>none
 |_=>none
def tZ(T:List (Nat×TI))(φ:Fr)(σ:List ak)(t:TypeId)(x:Operand):Option (D×List Prop) :=
 match aJ T t with
 |some it=>match bw φ x with
  |.e (.one (.bp l (.el g k i f)))=>match eb l σ with
   |some (.buf _ k' n es)=>match Nat.beq k' k with
    |true=>match jX it ((eL f (es i)).map A.c) with
     |some e=>some (.e e,[g=n,i<n])
     |none=>none
    |false=>none
   |_=>none
  |_=>none
 |none=>none
def CR:Nat->List C->Nat->Bool
 |0,cc,k=>Nat.beq cc.length k
 |_+1,_,_=>false
def ue(T:List (Nat×TI))(φ:Fr)(σ:List ak)(t:TypeId)(x y:Operand):Option (D×List ak×List Prop) :=
 match aJ T t with
 |some it=>match bw φ x with
  |.e (.one (.bp l (.el g k i f)))=>match eb l σ with
   |some (.buf E k' n es)=>match Nat.beq k' k with
    |true=>match kI (bw φ y) with
     |some new=>match Nat.beq new.length it.size with
      |true=>match eD new with
       |some cc=>match CR f cc k with
        |true=>bZ (cQ.oV l (.buf E k' n (fY i cc es)) σ) λσ'=>some (.any,σ',[g=n,i<n])
        |false=>match du f cc (es i) with
         |some ci=>bZ (cQ.oV l (.buf E k' n (fY i ci es)) σ) λσ'=>some (.any,σ',[g=n,i<n])
         |none=>none
       |none=>none
      |false=>none
     |none=>none
    |false=>none
   |_=>none
  |_=>none
 |none=>none
def Gf(T:List (Nat×TI))(CT:List (Nat×bE))(φ:Fr)(σ:List ak)(o:Oper):Option (D×List Prop) :=
 match o.op with
 |.load t x=>match CK T φ σ t x with
  |some d=>some (d,[])
  |none=>tZ T φ σ t x
 |_=>match Ni T CT φ o with
  |some r=>some r
  |none=>Oh T φ o
def IU(T:List (Nat×TI))(a:Operand->D)(σ:List ak)(x y:Operand)(t b:TypeId):Option (D×List ak×List Prop) :=
 match aJ T t with
 |none=>none
 |some i=>match aJ T b with
  |none=>none
  |some i2=>match i.desc with
   |.slice E=>match i2.desc with
    |.slice E2=>match Nat.beq E2 E with
     |false=>none
     |true=>match aJ T E with
      |none=>none
      |some ie=>match Nat.ble 1 ie.bytes,Nat.ble 1 ie.size with
       |true,true=>match uc (a y) with
        |none=>none
        |some (_,k',m,es')=>match Nat.beq k' ie.size with
         |false=>none
         |true=>match a x with
          |.e (.one (.c (.sl true k n es)))=>match Nat.beq k ie.size with
           |true=>bZ (σ++[.vec E ie.size (n+m) (cx n es es')]) λσ'=>some (.e (.one (.vec σ.length ie.size (n+m) (cx n es es'))),σ',[(n+m)*ie.bytes<=140737488355328,n=0∨0<m])
           |false=>match Nat.beq n 0 with
            |true=>bZ (σ++[.vec E ie.size (n+m) (cx n es es')]) λσ'=>some (.e (.one (.vec σ.length ie.size (n+m) (cx n es es'))),σ',[(n+m)*ie.bytes<=140737488355328,n=0∨0<m])
            |false=>none
          |.e (.one (.vec l k n es))=>match eb l σ with
           |some (.vec E' k2 n2 KM)=>match Nat.beq E' E,Nat.beq k ie.size,Nat.beq k2 ie.size with
            |true,true,true=>bZ (cQ.oV l (.vec E ie.size (n+m) (cx n es es')) σ) λσ'=>some (.e (.one (.vec l ie.size (n+m) (cx n es es'))),σ',[n2=n,KM=es,(n+m)*ie.bytes<=140737488355328])
            |_,_,_=>none
           |_=>none
          |.e (.one (.bp l (.sl g k 0 n)))=>match eb l σ with
           |some (.buf E' k2 n2 KM)=>match Nat.beq E' E,Nat.beq k ie.size,Nat.beq k2 ie.size with
            |true,true,true=>bZ (cQ.oV l (.buf E ie.size (n2+m) (cx n2 KM es')) σ) λσ'=>some (.e (.one (.bp l (.sl (n2+m) ie.size 0 (n2+m)))),σ',[g=n2,n=n2,(n2+m)*ie.bytes<=140737488355328])
            |_,_,_=>none
           |_=>none
          |_=>none
       |_,_=>none
    |_=>none
   |_=>none
def Ll(T:List (Nat×TI))(CT:List (Nat×bE))(φ:Fr)(σ:List ak)(o:Oper):Option (D×List ak×List Prop) :=
 match o.op with
 |.alloc _|.box _ _=>Nl T φ σ o
 |.store t x y=>match Nl T φ σ o with
  |some r=>some r
  |none=>ue T φ σ t x y
 |.call c=>match c.callee with
  |.builtin .append=>match c.args.toList,c.argTypes.toList with
   |[x,y],[t,a]=>IU T (bw φ) σ x y t a
   |_,_=>none
  |.value fo=>CU CT φ σ fo c.args.toList
  |_=>none
 |_=>none
def IV(T:List (Nat×TI))(a:Operand->D)(x y:Operand)(t b:TypeId):Option (D×List Prop) :=
 match aJ T t with
 |none=>none
 |some i=>match aJ T b with
  |none=>none
  |some i2=>match i.desc with
   |.slice E=>match i2.desc with
    |.slice E2=>match Nat.beq E2 E with
     |false=>none
     |true=>match aJ T E with
      |none=>none
      |some ie=>match Nat.ble 1 ie.bytes,Nat.ble 1 ie.size with
       |true,true=>match uc (a y) with
        |none=>none
        |some (_,k',m,es')=>match Nat.beq k' ie.size with
         |false=>none
         |true=>match a x with
          |.e (.one (.c (.sl true k n es)))=>match Nat.beq n 0 with
           |true=>some (.e (.one (.c (.sl false ie.size (n+m) (cx n es es')))),[(n+m)*ie.bytes<=140737488355328,n=0∨0<m])
           |false=>none
          |_=>none
       |_,_=>none
    |_=>none
   |_=>none
def Oi(T:List (Nat×TI))(φ:Fr)(o:Oper):Option (D×List Prop) :=
 match o.op with
 |.call c=>match c.callee with
  |.builtin .append=>match c.args.toList,c.argTypes.toList with
   |[x,y],[t,a]=>IV T (bw φ) x y t a
   |_,_=>none
  |_=>none
 |_=>none
def zw:List (Nat×Bool)->Nat->Option Bool
 |[],_=>none
 |(i,b)::r,t=>match Nat.beq i t with|true=>some b|false=>zw r t
def N1(ds:List (Nat×Bool)):Option Nat->Bool
 |none=>false
 |some t=>match zw ds (2000000+t) with
  |some true=>true
  |_=>false
def CO(ds:List (Nat×Bool))(d:Option Nat)(x:D)(obs:List Prop):Option (D×List Prop) :=
 match d with
 |none=>some (x,obs)
 |some t=>match zw ds t with
  |none=>some (x,obs)
  |some b=>match x with
   |.e (.one (.c (.bool e)))=>some (.e (.one (.c (.bool b))),iQ obs [e=b])
   |_=>none
theorem Gk{ds:List (Nat×Bool)}{d:Option Nat}{x y:D}{obs xK:List Prop}(h:CO ds d x obs=some (y,xK))(a:aa xK):y=x/\aa obs:=by
 unfold CO at h;split at h
 ·cases h;exact⟨rfl,a⟩
 ·split at h
  ·cases h;exact⟨rfl,a⟩
  ·split at h
   ·cases h;rw[aa.cat] at a;have:_=_:=a.2;subst this;exact⟨rfl,a.1⟩
   ·cases h
def zq(T:List (Nat×TI))(CT:List (Nat×bE))(ds:List (Nat×Bool))(all:List Oper)(φ:Fr)(σ:List ak)(o:Oper):Option (D×Option (List ak)×List Prop) :=
 let go:Option (D×Option (List ak)×List Prop):=match Gf T CT φ σ o with
  |some (x,obs)=>match CO ds o.dst x obs with
   |some (y,a)=>kE y λy=>some (y,none,a)
   |none=>none
  |none=>match N1 ds o.dst with
   |true=>match Oi T φ o with
    |some (x,obs)=>kE x λx=>some (x,none,obs)
    |none=>none
   |false=>match Ll T CT φ σ o with
    |some (x,σ',obs)=>kE x λx=>some (x,some σ',obs)
    |none=>none
 match o.guard with
 |none=>go
 |some (j,b)=>match xL φ all j with
  |some (some b')=>match b,b' with
   |true,true=>go
   |false,false=>go
   |_,_=>some (.eY [],none,[])
  |some none=>some (.eY [],none,[])
  |none=>none
section
variable {P:Program}{X:Cx P}{T:List (Nat×TI)}{CT:List (Nat×bE)}{N:Nat}{all:List Oper}{φ:Fr}{σ:List ak}{o:Oper}
theorem Gl(q:bV P T)(F:∀ σ s a,br N σ s φ a->Region.wanted o (yielded all.toArray a.tmps)=true){x y:Operand}{t e:TypeId}{d:D}{obs:List Prop}(G:o.op=.call { callee:=.builtin .append,args:=#[x,y],argTypes:=#[t,e] })
  (h:IV T (bw φ) x y t e=some (d,obs)) (b:aa obs):OA X N all o φ σ d σ:=by
 unfold IV at h;split at h
 ·cases h
 rename_i i hi
 split at h
 ·cases h
 rename_i A u
 split at h
 case h_2=>cases h
 rename_i E C
 split at h
 case h_2=>cases h
 rename_i J z
 split at h
 ·cases h
 rename_i j
 have I:=bn j;subst I;split at h
 ·cases h
 rename_i H f
 split at h
 case h_2=>cases h
 rename_i r w
 have c:vg P o x y J H:=⟨⟨t,e,i,A,G,q t i hi,C,q e A u,z⟩,q _ _ f,by have:=c6 r;omega,by have:=c6 w;omega⟩
 split at h
 ·cases h
 rename_i L k' m es' hy
 split at h
 ·cases h
 rename_i g
 have B:=bn g;subst B;have l:=λs v=>kH hy σ s v
 split at h
 ·rename_i k n es hx
  split at h
  ·rename_i K
   cases h;exact(OA.jg F (aG.lh c hx (.inr (bn K)) l b.1 b.2)).Lu
  ·cases h
 ·cases h
theorem Gm(F:bV P T){S:Operand->D}{x y:Operand}{t j:TypeId}{d:D}{σ':List ak}{obs:List Prop}(Z:o.op=.call { callee:=.builtin .append,args:=#[x,y],argTypes:=#[t,j] })
  (h:IU T S σ x y t j=some (d,σ',obs)) (a:aa obs):aG P o S σ d σ':=by
 unfold IU at h;split at h
 ·cases h
 rename_i i hi
 split at h
 ·cases h
 rename_i R J
 split at h
 case h_2=>cases h
 rename_i E Y
 split at h
 case h_2=>cases h
 rename_i E2 Q
 split at h
 ·cases h
 rename_i A
 have eE:=bn A;subst eE;split at h
 ·cases h
 rename_i ie u
 split at h
 case h_2=>cases h
 rename_i H O
 have b:vg P o x y E2 ie:=⟨⟨t,j,i,R,Z,F t i hi,Y,F j R J,Q⟩,F _ _ u,by have:=c6 H;omega,by have:=c6 O;omega⟩
 split at h
 ·cases h
 rename_i tx k' m es' hy
 split at h
 ·cases h
 rename_i w
 have V:=bn w;subst V;have c:=λs v=>kH hy σ s v
 split at h
 ·rename_i k n es hx
  split at h
  ·rename_i W
   rw[bM] at h;cases h;exact aG.lh b hx (.inl (bn W)) c a.1 a.2
  ·split at h
   ·rename_i hn
    rw[bM] at h;cases h;exact aG.lh b hx (.inr (bn hn)) c a.1 a.2
   ·cases h
 ·rename_i l k n es hx
  split at h
  ·rename_i U k2 f e r
   split at h
   ·rename_i G K L
    rw[bM,jo] at h;cases h;obtain⟨B,C,z⟩:f=n/\e=es/\_:=a;subst B;subst C;have I:=bn G;subst I;have M:=bn K;have q:=bn L;subst q;subst M;exact aG.Au b hx (cO r) c z
   ·cases h
  ·cases h
 ·rename_i l g k n hx
  split at h
  ·rename_i U k2 f e r
   split at h
   ·rename_i G K L
    rw[bM,jo] at h;cases h;obtain⟨B,C,z⟩:g=f/\n=f/\_:=a;subst B;subst C;have I:=bn G;subst I;have M:=bn K;have q:=bn L;subst q;subst M;exact aG.Gn b hx (cO r) c z
   ·cases h
  ·cases h
 ·cases h
theorem Gp(g:bV P T){f:Operand->D}{x:Operand}{a:Array TypeId}{t:TypeId}{d:D}(e:o.op=.call { callee:=.builtin .len,args:=#[x],argTypes:=a })(c:a[0]?=some t)(h:IS T t (f x)=some d):aG P o f σ d σ:=by
 unfold IS at h;split at h
 ·cases h
 rename_i i hi
 split at h
 ·rename_i E b
  split at h
  ·rename_i tt k n es hs
   cases h;exact aG.Lw g e c hi b (λs v=>kH hs σ s v)
  ·cases h
 ·rename_i b
  split at h
  ·rename_i s hs
   cases h;exact aG.IW g e c hi b hs
  ·cases h
 ·cases h
theorem CV(q:bV P T){u:Operand->D}{f b:TypeId}{x:Operand}{d:D}{obs:List Prop}(l:o.op=.convert f b x)(h:CQ T f b (u x)=some (d,obs))(c:aa obs):aG P o u σ d σ:=by
 unfold CQ at h;split at h
 ·cases h
 rename_i i hi
 split at h
 ·cases h
 rename_i B a
 split at h
 ·rename_i k' hd
  split at h
  ·rename_i k j t
   cases h;exact aG.Gq q l hi a hd t c
  ·cases h
 ·rename_i hd
  split at h
  ·rename_i s t
   cases h;exact aG.Gr q l hi a hd t
  ·split at h
   ·rename_i E g
    split at h
    ·rename_i A y
     split at h
     ·rename_i m
      split at h
      ·rename_i tt k n es hs
       split at h
       ·rename_i w
        have e:=bn w;subst e;split at h
        ·rename_i r z
         cases h;exact aG.AE q l hi a g hd y m (λs v=>kH hs σ s v) z
        ·cases h
       ·cases h
      ·cases h
     ·cases h
    ·cases h
   ·cases h
 ·cases h
theorem AF(m:bV P T){j:Operand->D}{t:TypeId}{x:Operand}{lo hi:Option Operand}{d:D}{obs:List Prop}(g:o.op=.slice t x lo hi none)(h:xJ T j t x lo hi=some (d,obs))(a:aa obs):aG P o j σ d σ:=by
 unfold xJ at h;split at h
 ·cases h
 rename_i i b
 split at h
 ·cases h
 rename_i l q
 split at h
 ·cases h
 rename_i u f
 split at h
 ·rename_i c
  split at h
  ·rename_i s y
   cases h;exact aG.CW m g b c y q f a
  ·cases h
 ·rename_i E c
  split at h
  ·cases h
  rename_i z w
  split at h
  ·rename_i tt k n es hs
   split at h
   ·rename_i r
    cases h;have e:=bn r;subst e;exact aG.Gs m g b c w (λs v=>kH hs σ s v) q f a
   ·cases h
  ·cases h
 ·cases h
theorem ql{α:Type}{xs:Array α}{x:α}(h:xs.toList=[x]):xs=#[x]:=fH h
theorem nq{α:Type}{xs:Array α}{x y:α}(h:xs.toList=[x,y]):xs=#[x,y]:=fH h
theorem IX(C:bV P T)(M:aM X CT){d:D}{obs:List Prop}(h:Ni T CT φ o=some (d,obs))(g:aa obs)(r:∀ σ s a,br N σ s φ a->Region.wanted o (yielded all.toArray a.tmps)=true):OA X N all o φ σ d σ:=by
 unfold Ni at h;split at h
 ·rename_i x B;cases h;exact OA.jg r (aG.move B)
 ·rename_i x B;cases h;exact OA.jg r (aG.assign B)
 ·rename_i t x y B
  split at h
  ·rename_i i hi
   split at h
   ·rename_i G
    split at h
    ·rename_i l k j w J
     cases h;obtain⟨Y,h2⟩:0<=j/\j<(l.length:Int):=g;have:=aG.CX (σ:=σ) (m:=j.toNat) C B hi G w J (by omega) (by omega)
     have e:fw l j=l[j.toNat]'(by omega):=by simp[fw,List.getD_eq_getElem?_getD,aj (by omega:j.toNat<l.length)]
     rw[e];exact OA.jg r this
    ·cases h
   ·cases h
  ·cases h
 ·rename_i t x y B
  split at h
  ·rename_i i hi
   split at h
   ·rename_i E G
    split at h
    ·rename_i ie U
     split at h
     ·rename_i tt k n es k2 j w J
      split at h
      ·rename_i Q
       cases h;obtain⟨Y,h2⟩:0<=j/\j<(n:Int):=g;have e:=bn Q;subst e;exact OA.jg r (aG.indexAddr (m:=j.toNat) C B hi G U (λs v=>kH w σ s v) J (by omega) (by omega))
      ·cases h
     ·cases h
    ·cases h
   ·cases h
  ·cases h
 ·rename_i t x lo hi B
  exact OA.jg r (AF C B h g)
 ·rename_i V L x B
  exact OA.jg r (CV C B h g)
 ·rename_i c B
  obtain⟨W,args,Uy⟩:=c;simp only at h;split at h
  ·split at h
   ·rename_i x t w S
    split at h
    ·rename_i d' O
     cases h;have:=ql w;subst this;exact OA.jg r (Gp C B S O)
    ·cases h
   ·cases h
  ·exact OA.vt M r B h g
  ·cases h
 ·rename_i c a b q
  split at h
  ·rename_i u;cases h;exact OA.jg r (aG.pick q u)
  ·rename_i u;cases h;exact OA.jg r (aG.pick q u)
  ·cases h
 ·rename_i op t y z ty q
  unfold HX at h;split at h
  ·rename_i a b A F
   split at h
   ·rename_i i hi
    split at h
    ·rename_i G
     split at h
     ·rename_i c u;cases h;exact OA.jg r (aG.IY C q hi G A F u)
     ·cases h
    ·cases h
   ·cases h
  ·rename_i a b _ A F
   split at h
   ·split at h
    ·rename_i _ _ a' b' _ _
     cases h;exact OA.jg r (aG.Lx q A F g.1 g.2)
    ·obtain⟨c,rfl,u⟩:=nn h;exact OA.jg r (aG.bits q A F u g)
    ·cases h
   ·split at h
    ·obtain⟨c,rfl,u⟩:=nn h;exact OA.jg r (aG.bits q A F u g)
    ·cases h
   ·split at h
    ·obtain⟨c,rfl,u⟩:=nn h;exact OA.jg r (aG.bits q A F u g)
    ·cases h
   ·split at h
    ·obtain⟨c,rfl,u⟩:=nn h;exact OA.jg r (aG.bits q A F u g)
    ·cases h
   ·split at h
    ·rename_i c K u;cases h;exact OA.jg r (aG.binOp q A F u g)
    ·cases h
  ·rename_i cs es A F
   split at h
   ·rename_i i hi
    split at h
    ·cases h
    ·rename_i d ds QF
     split at h
     ·rename_i b I
      split at h
      ·rename_i c u;cases h;exact OA.jg r (aG.structEq C q hi (by rw[QF];simp) A F (by rw[QF];exact I) u)
      ·cases h
     ·cases h
   ·cases h
  ·cases h
 ·rename_i op t y q
  split at h
  ·rename_i a A
   split at h
   ·rename_i c u;cases h;exact OA.jg r (aG.unOp q A u)
   ·cases h
  ·cases h
 ·rename_i y j q
  split at h
  ·rename_i xs w
   split at h
   ·rename_i e Z;cases h;exact OA.jg r (aG.extract q w (cO Z))
   ·cases h
  ·cases h
 ·rename_i t y f q
  split at h
  ·rename_i k j H
   split at h
   ·rename_i l off w;cases h;exact OA.jg r (aG.nt C q w H)
   ·rename_i cs w;cases h;exact OA.jg r (aG.oE C q w H)
   ·cases h
  ·cases h
 ·rename_i t y f q
  split at h
  ·rename_i k j H
   split at h
   ·rename_i cs w
    split at h
    ·rename_i e R;cases h;exact OA.jg r (aG.field C q w H R)
    ·cases h
   ·cases h
  ·cases h
 ·rename_i y q
  split at h
  ·rename_i l off w;cases h;exact OA.jg r (aG.oF q w)
  ·rename_i cs w;cases h;exact OA.jg r (aG.qm q w)
  ·cases h
 ·rename_i t parts q
  split at h
  ·rename_i cs u;cases h;exact OA.jg r (aG.build C q u)
  ·cases h
 ·rename_i t n parts q
  split at h
  ·rename_i k es u;cases h;exact OA.jg r (aG.buildSlice C q u)
  ·cases h
 ·rename_i fn a b q
  split at h
  ·rename_i ca A
   split at h
   ·rename_i cb F;cases h;exact OA.jg r (aG.makeFunc q A F)
   ·cases h
  ·cases h
 ·rename_i t x q
  split at h
  ·rename_i i hi
   split at h
   ·rename_i G
    split at h
    ·rename_i c u;cases h;exact OA.jg r (aG.makeInterface C q hi G u)
    ·cases h
   ·cases h
  ·cases h
 ·rename_i x xt t q
  split at h
  ·rename_i i hi
   split at h
   ·rename_i G
    split at h
    ·rename_i c w
     split at h
     ·rename_i e b A;cases h;exact OA.jg r (aG.typeAssert C q hi G w A)
     ·cases h
    ·cases h
   ·cases h
  ·cases h
 ·cases h
theorem IZ(C:bV P T){d:D}{obs:List Prop}(h:Oh T φ o=some (d,obs))(r:aa obs):aG P o (bw φ) σ d σ:=by
 unfold Oh at h;split at h
 ·rename_i t x y A
  split at h
  ·rename_i i hi
   split at h
   ·rename_i E B
    split at h
    ·rename_i Q H
     split at h
     ·rename_i l g k q m kk j w I
      split at h
      ·rename_i L
       cases h;obtain⟨J,K⟩:0<=j/\j<(m:Int):=r;have e:=bn L;subst e;exact aG.Oj C A hi B H w I J K
      ·cases h
     ·rename_i b off n cap kk j w I
      cases h;obtain⟨J,K⟩:0<=j/\j<(n:Int):=r;exact aG.vu C A hi B H w I J K
     ·cases h
    ·cases h
   ·cases h
  ·cases h
 ·rename_i t x f A
  split at h
  ·rename_i k j M
   split at h
   ·rename_i l g Z i q w
    cases h;exact aG.I0 C A w M
   ·rename_i b off w
    cases h;exact aG.I1 C A w M
   ·cases h
  ·cases h
 ·rename_i x A
  split at h
  ·rename_i l g Z i q w
   cases h;exact aG.Ol A w
  ·cases h
 ·rename_i t x lo hi A
  split at h
  ·cases h
  rename_i i F
  split at h
  ·cases h
  rename_i lw S
  split at h
  ·cases h
  rename_i u V
  split at h
  ·rename_i E B
   split at h
   ·cases h
   rename_i Q H
   split at h
   ·rename_i l g k q m w
    split at h
    ·rename_i L
     cases h;have e:=bn L;subst e;exact aG.sliceB C A F B H w S V r
    ·cases h
   ·cases h
  ·cases h
 ·rename_i t x y z A
  split at h
  ·cases h
  rename_i i F
  split at h
  ·rename_i E B
   split at h
   ·cases h
   rename_i Q H
   split at h
   ·rename_i tt k n es kj j km m w I R
    cases h;obtain⟨J,K,Y⟩:0<=j/\j<=m/\m<=(n:Int):=r;exact aG.slice3 C A F B H (λs v=>kH w σ s v) I R J K Y
   ·cases h
  ·cases h
 ·rename_i c A
  obtain⟨U,args,W⟩:=c;simp only at h;split at h
  ·split at h
   ·rename_i x t w O
    split at h
    ·rename_i i hi
     split at h
     ·rename_i E B
      split at h
      ·rename_i l g k q m G
       cases h;have:=ql w;subst this;exact aG.Om C A O hi B G
      ·rename_i a n cap G
       cases h;have:=ql w;subst this;exact aG.On C A O hi B G r
      ·cases h
     ·cases h
    ·cases h
   ·cases h
  ·cases h
 ·cases h
theorem AG(m:bV P T){t:TypeId}{x:Operand}(c:o.op=.load t x){d:D}{obs:List Prop}(h:tZ T φ σ t x=some (d,obs))(a:aa obs):aG P o (bw φ) σ d σ:=by
 unfold tZ at h;split at h
 ·rename_i r hi
  split at h
  ·rename_i l g k i f q
   split at h
   ·rename_i E k' n es hB
    split at h
    ·rename_i b
     have e:=bn b;subst e;split at h
     ·rename_i e j
      cases h;exact aG.Ly m c q a.1 (cO hB) hi j a.2
     ·cases h
    ·cases h
   ·cases h
  ·cases h
 ·cases h
theorem xM(m:bV P T){t:TypeId}{x y:Operand}(c:o.op=.store t x y){d:D}{σ':List ak}{obs:List Prop}(h:ue T φ σ t x y=some (d,σ',obs))(a:aa obs):aG P o (bw φ) σ d σ':=by
 unfold ue at h;split at h
 ·rename_i v hi
  split at h
  ·rename_i l g k i f r
   split at h
   ·rename_i E k' n es hB
    split at h
    ·rename_i s
     have e:=bn s;subst e;split at h
     ·rename_i new hy
      split at h
      ·rename_i q
       split at h
       ·rename_i cc Nm
        split at h
        ·rename_i j
         rw[bM,jo] at h;cases h;have b:f=0/\cc.length=k':=by
          cases f with
          |zero=>exact⟨rfl,bn j⟩
          |succ f=>simp[CR] at j
         obtain⟨rfl,b⟩:=b;exact aG.CY m c r a.1 (cO hB) hi hy (bn q) Nm (λu=>nu (by rw[u,b])) a.2
        ·split at h
         ·rename_i ci Sf
          rw[bM,jo] at h;cases h;exact aG.CY m c r a.1 (cO hB) hi hy (bn q) Nm (λ_=>Sf) a.2
         ·cases h
       ·cases h
      ·cases h
     ·cases h
    ·cases h
   ·cases h
  ·cases h
 ·cases h
theorem I2(g:bV P T)(n:aM X CT){d:D}{obs:List Prop}(h:Gf T CT φ σ o=some (d,obs))(c:aa obs)(f:∀ σ s a,br N σ s φ a->Region.wanted o (yielded all.toArray a.tmps)=true):OA X N all o φ σ d σ:=by
 unfold Gf at h;split at h
 ·rename_i t y k
  split at h
  ·rename_i q b
   cases h;unfold CK at b;split at b
   ·rename_i i hi
    split at b
    ·rename_i l off hx
     split at b
     ·rename_i E cs hB
      split at b
      ·rename_i e j;cases b;exact OA.jg f (aG.zx g k hx (cO hB) hi j)
      ·cases b
     ·cases b
    ·rename_i cs hx
     split at b
     ·rename_i e j;cases b;exact OA.jg f (aG.CZ g k hx hi j)
     ·cases b
    ·cases b
   ·cases b
  ·exact OA.jg f (AG g k h c)
 ·split at h
  ·rename_i r m
   cases h;exact IX g n m c f
  ·exact OA.jg f (IZ g h c)
theorem I3(f:bV P T)(l:aM X CT){d:D}{σ':List ak}{obs:List Prop}(h:Ll T CT φ σ o=some (d,σ',obs))(b:aa obs)(e:∀ σ s a,br N σ s φ a->Region.wanted o (yielded all.toArray a.tmps)=true):OA X N all o φ σ d σ':=by
 unfold Ll at h;split at h
 ·exact OA.jg e (xN f h b)
 ·exact OA.jg e (xN f h b)
 ·rename_i t x y n
  split at h
  ·rename_i r j
   cases h;exact OA.jg e (xN f j b)
  ·exact OA.jg e (xM f n h b)
 ·rename_i c g
  obtain⟨k,args,i⟩:=c;simp only at h;split at h
  ·split at h
   ·rename_i x y t u q m
    have:=nq q;subst this;have:=nq m;subst this;exact OA.jg e (Gm f g h b)
   ·cases h
  ·exact OA.call l e g h b
  ·cases h
 ·cases h
theorem kG(q:bV P T)(u:aM X CT){ds:List (Nat×Bool)}{d:D}{σ':Option (List ak)}{obs:List Prop}(h:zq T CT ds all φ σ o=some (d,σ',obs))(g:aa obs):OA X N all o φ σ d (σ'.getD σ):=by
 have go:(∀ σ s a,br N σ s φ a->Region.wanted o (yielded all.toArray a.tmps)=true)->(match Gf T CT φ σ o with
  |some (x,obs)=>match CO ds o.dst x obs with
   |some (y,m)=>kE y λy=>some (y,none,m)
   |none=>none
  |none=>match N1 ds o.dst with
   |true=>match Oi T φ o with
    |some (x,obs)=>kE x λx=>some (x,none,obs)
    |none=>none
   |false=>match Ll T CT φ σ o with
    |some (x,σ',obs)=>kE x λx=>some (x,some σ',obs)
    |none=>none)=some (d,σ',obs)->OA X N all o φ σ d (σ'.getD σ):=by
  intro n h;split at h
  ·rename_i x k H
   split at h
   ·rename_i y w C
    rw[j0] at h;cases h;obtain⟨rfl,G⟩:=Gk C g;exact I2 q u H G n
   ·cases h
  ·split at h
   ·split at h
    ·rename_i x k e
     rw[j0] at h;cases h;unfold Oi at e;split at e
     ·rename_i c B
      obtain⟨E,args,F⟩:=c;simp only at e;split at e
      ·split at e
       ·rename_i x y t I z A
        have:=nq z;subst this;have:=nq A;subst this;exact Gl q n B e g
       ·cases e
      ·cases e
     ·cases e
    ·cases h
   ·split at h
    ·rename_i x σ1 k e
     rw[j0] at h;cases h;exact I3 q u e g n
    ·cases h
 unfold zq at h;simp only at h;split at h
 ·rename_i i
  exact go (λ_ _ _ _=>de i) h
 ·rename_i j b i
  split at h
  ·rename_i v l
   have r:∀ σ s a,br N σ s φ a->Region.wanted o (yielded all.toArray a.tmps)=(some v==some b):=λσ s a f=>by simp only[Region.wanted,i,ss l f]
   split at h
   ·exact go (λσ s a f=>(r σ s a f).trans rfl) h
   ·exact go (λσ s a f=>(r σ s a f).trans rfl) h
   ·cases h;refine OA.pass (λσ s a f=>(r σ s a f).trans ?_)
    cases b <;> cases v <;> simp_all
  ·rename_i l
   cases h;exact OA.pass (λσ s a f=>by simp only[Region.wanted,i,ss l f];rfl)
  ·cases h
end
def Cd(φ:Fr)(o:Oper):Bool:=match o.op with
 |.load _ x=>match bw φ x with
  |.e (.one (.c (.rp _)))=>false
  |_=>true
 |_=>false
theorem CJ{T:List (Nat×TI)}{CT:List (Nat×bE)}{φ:Fr}{σ σ2:List ak}{o:Oper}(h:Cd φ o=false):Gf T CT φ σ o=Gf T CT φ σ2 o:=by
 unfold Gf;split
 ·rename_i t x a
  simp only[Cd,a] at h;split at h
  ·rename_i cs hx
   simp only[CK,tZ,hx]
  ·cases h
 ·rfl
theorem CL{T:List (Nat×TI)}{CT:List (Nat×bE)}{ds:List (Nat×Bool)}{all:List Oper}{φ:Fr}{σ:List ak}{o:Oper}{d:D}{obs:List Prop}(h:Cd φ o=false)(a:zq T CT ds all φ σ o=some (d,none,obs))(σ2:List ak) :
  zq T CT ds all φ σ2 o=some (d,none,obs):=by
 unfold zq at a ⊢;simp only at a ⊢;rw[CJ (σ2:=σ) h];cases f:Gf T CT φ σ o with
 |some r=>simp only[f] at a ⊢;exact a
 |none =>
  simp only[f] at a ⊢;cases c:N1 ds o.dst with
  |true=>simp only[c] at a ⊢;exact a
  |false =>
   simp only[c] at a ⊢;have key:∀ {y:Option (D×Option (List ak)×List Prop)},(match Ll T CT φ σ o with|some (x,σ',obs)=>kE x λx=>some (x,some σ',obs)|none=>none)=y->y≠some (d,none,obs):=by
    intro y b e;subst e;split at b
    ·rw[j0] at b;cases b
    ·cases b
   split at a
   ·exact absurd rfl (key a)
   ·split at a
    ·split at a
     ·exact absurd rfl (key a)
     ·exact absurd rfl (key a)
     ·exact a
    ·exact a
    ·cases a
def lx(t:Nat):List Oper->Bool
 |[]=>false
 |o::r=>match o.dst with
  |some d=>match Nat.beq d t with|true=>true|false=>lx t r
  |none=>lx t r
theorem nd{t:Nat}:∀ {l:List Oper}{i:Nat}{o:Oper},l[i]?=some o->o.dst=some t->lx t l=true
 |[],_,_,h,_=>by simp at h
 |p::r,0,o,h,a=>by
  simp at h;subst h;simp[lx,a,ir]
 |p::r,i+1,o,h,a=>by
  have:=nd (l:=r) (by simpa using h) a
  simp only[lx];split
  ·split <;> simp[this]
  ·exact this
theorem lZ{t:Nat}:∀ {l:List Oper},lx t l=true->∃ (i:Nat)(o:Oper),l[i]?=some o/\o.dst=some t
 |[],h=>by cases h
 |p::r,h=>by
  simp only[lx] at h;split at h
  ·rename_i d e
   split at h
   ·rename_i c
    exact⟨0,p,rfl,by rw[e,bn c]⟩
   ·obtain⟨i,o,a,b⟩:=lZ h;exact⟨i+1,o,by simpa using a,b⟩
  ·obtain⟨i,o,a,b⟩:=lZ h;exact⟨i+1,o,by simpa using a,b⟩
def mh:List Oper->Bool
 |[]=>true
 |o::r=>match o.dst with
  |some d=>match lx d r with|true=>false|false=>mh r
  |none=>mh r
theorem nW{t:Nat}:∀ {l:List Oper}{i j:Nat}{o p:Oper},mh l=true->l[i]?=some o->l[j]?=some p->o.dst=some t->p.dst=some t->i=j
 |[],_,_,_,_,_,h,_,_,_=>by simp at h
 |q::r,0,0,_,_,_,_,_,_,_=>rfl
 |q::r,0,j+1,o,p,a,c,b,d1,d2=>by
  simp at c;subst c;simp only[mh,d1] at a;rw[nd (l:=r) (by simpa using b) d2] at a
  cases a
 |q::r,i+1,0,o,p,a,c,b,d1,d2=>by
  simp at b;subst b;simp only[mh,d2] at a;rw[nd (l:=r) (by simpa using c) d1] at a
  cases a
 |q::r,i+1,j+1,o,p,a,c,b,d1,d2=>by
  have:mh r=true:=by
   simp only[mh] at a;split at a
   ·split at a
    ·cases a
    ·exact a
   ·exact a
  have f:r[i]?=some o:=by simpa using c
  have d:r[j]?=some p:=by simpa using b
  have e:=nW this f d d1 d2;omega
def oZ(all:List Oper):Fr->Fr
 |[]=>[]
 |(t,d)::r=>match lx t all with|true=>oZ all r|false=>(t,d)::oZ all r
theorem iA{all:List Oper}{t:Nat}:∀ {φ:Fr},look (oZ all φ) t=if lx t all=true then .any else look φ t
 |[]=>by simp[oZ,look]
 |(u,d)::r=>by
  simp only[oZ]
  by_cases b:Nat.beq u t=true
  ·have e:=bn b;subst e;cases c:lx u all with
   |true=>simp only;rw[iA];simp[c]
   |false=>simp[look]
  ·have a:Nat.beq u t=false:=by cases h:Nat.beq u t with|true=>exact absurd h b|false=>rfl
   cases c:lx u all with
   |true=>simp only;rw[iA];simp[look,a]
   |false=>simp only[look,a,cond];rw[iA]
def bt:List Edge->List Nat
 |[]=>[]
 |e::r=>match e.ground with
  |.textOnly _=>bt r
  |.gcOnly _=>bt r
  |_=>e.on::bt r
theorem dK{j:Nat}:∀ {l:List Edge},j∈bt l↔∃ e∈l,bT e=true/\e.on=j
 |[]=>by simp[bt]
 |e::r=>by
  have k:=dK (j:=j) (l:=r);have yes:bt (e::r)=e.on::bt r->bT e=true->(j∈bt (e::r)↔∃ d∈e::r,bT d=true/\d.on=j):=by
   intro i g;rw[i,dF,k]
   constructor
   ·rintro(h|⟨d,a,b,c⟩)
    ·exact⟨e,List.mem_cons_self,g,h.symm⟩
    ·exact⟨d,nS _ a,b,c⟩
   ·rintro⟨d,a,b,c⟩;rcases dF.1 a with rfl|a
    ·exact .inl c.symm
    ·exact .inr ⟨d,a,b,c⟩
  have no:bt (e::r)=bt r->bT e=false->(j∈bt (e::r)↔∃ d∈e::r,bT d=true/\d.on=j):=by
   intro i g;rw[i,k]
   constructor
   ·rintro⟨d,a,b,c⟩;exact⟨d,nS _ a,b,c⟩
   ·rintro⟨d,a,b,c⟩;rcases dF.1 a with rfl|a
    ·rw[g] at b;cases b
    ·exact⟨d,a,b,c⟩
  cases f:e.ground with
  |textOnly w=>exact no (by simp only[bt,f]) (by unfold bT Region.binds;rw[f];rfl)
  |gcOnly w=>exact no (by simp only[bt,f]) (by unfold bT Region.binds;rw[f];rfl)
  |_=>exact yes (by simp only[bt,f]) (by unfold bT Region.binds;rw[f])
def o0(i t:Nat):List Oper->Bool
 |[]=>false
 |o::r=>match o.dst with
  |some d=>match Nat.beq d t with
   |true=>match fE i (bt o.after.toList) with
    |true=>o0 i t r
    |false=>true
   |false=>o0 i t r
  |none=>o0 i t r
theorem qg{i t:Nat}:∀ {l:List Oper},o0 i t l=false->∀ (j:Nat)(o:Oper),l[j]?=some o->o.dst=some t->fE i (bt o.after.toList)=true
 |[],_,j,o,h,_=>by simp at h
 |p::r,h,0,o,a,b=>by
  simp at a;subst a;simp only[o0,b,ir] at h;cases c:fE i (bt p.after.toList) with
  |true=>rfl
  |false=>simp[c] at h
 |p::r,h,j+1,o,a,b=>by
  have:o0 i t r=false:=by
   simp only[o0] at h;split at h
   ·split at h
    ·split at h
     ·exact h
     ·cases h
    ·exact h
   ·exact h
  exact qg this j o (by simpa using a) b
def ly(all:List Oper):Fr->List (Nat×D×Bool)
 |[]=>[]
 |(t,d)::r=>match lx t all with
  |true=>(t,d,true)::ly all r
  |false=>(t,d,false)::ly all r
def gZ(i:Nat)(all:List Oper):List (Nat×D×Bool)->Fr
 |[]=>[]
 |(t,d,b)::r=>match b with
  |false=>(t,d)::gZ i all r
  |true=>match o0 i t all with
   |true=>gZ i all r
   |false=>(t,d)::gZ i all r
theorem sk{i:Nat}{all:List Oper}{t:Nat}:∀ {φ:Fr},look (gZ i all (ly all φ)) t=if lx t all=true/\o0 i t all=true then .any else look φ t
 |[]=>by simp[ly,gZ,look]
 |(u,d)::r=>by
  have h:=sk (i:=i) (all:=all) (t:=t) (φ:=r);have c:look ((u,d)::gZ i all (ly all r)) t=if Nat.beq u t=true then d else look (gZ i all (ly all r)) t:=by
   simp only[look];cases Nat.beq u t <;> rfl
  have a:look ((u,d)::r) t=if Nat.beq u t=true then d else look r t:=by simp only[look];cases Nat.beq u t <;> rfl
  cases f:lx u all with
  |false =>
   simp only[ly,f,gZ];rw[c,a,h]
   by_cases b:Nat.beq u t=true
   ·have e:=bn b;subst e;simp[f]
   ·simp[b]
  |true =>
   cases g:o0 i u all with
   |true =>
    simp only[ly,f,gZ,g];rw[a,h]
    by_cases b:Nat.beq u t=true
    ·have e:=bn b;subst e;simp[f,g]
    ·simp[b]
   |false =>
    simp only[ly,f,gZ,g];rw[c,a,h]
    by_cases b:Nat.beq u t=true
    ·have e:=bn b;subst e;simp[g]
    ·simp[b]
def fT(m:Nat->Bool):Nat->List (Option Nat×D)->Fr->Fr
 |_,[],φ=>φ
 |i,(d,x)::r,φ=>match m i with
  |true=>match d with
   |some t=>(t,x)::fT m (i+1) r φ
   |none=>fT m (i+1) r φ
  |false=>fT m (i+1) r φ
theorem j1{m:Nat->Bool}{φ:Fr}{t:Nat}:∀ {l:List (Option Nat×D)}{i:Nat},(∃ j x,l[j]?=some (some t,x)/\m (i+j)=true/\look (fT m i l φ) t=x)∨look (fT m i l φ) t=look φ t
 |[],i=>.inr rfl
 |(d,x)::r,i=>by
  have o:=j1 (m:=m) (φ:=φ) (t:=t) (l:=r) (i:=i+1);have step:look (fT m i ((d,x)::r) φ) t=look (fT m (i+1) r φ) t->((∃ j b,((d,x)::r)[j]?=some (some t,b)/\m (i+j)=true/\look (fT m i ((d,x)::r) φ) t=b)∨look (fT m i ((d,x)::r) φ) t=look φ t):=by
   intro e;rw[e];rcases o with⟨j,b,k,g,n⟩|h
   ·exact .inl ⟨j+1,b,by simpa using k,by rw[show i+(j+1)=i+1+j by omega];exact g,n⟩
   ·exact .inr h
  cases a:m i with
  |false=>exact step (by simp[fT,a])
  |true =>
   cases d with
   |none=>exact step (by simp[fT,a])
   |some u =>
    by_cases f:Nat.beq u t=true
    ·have e:=bn f;subst e;exact .inl ⟨0,x,rfl,by simpa using a,by simp[fT,a,look]⟩
    ·have c:Nat.beq u t=false:=by cases h:Nat.beq u t with|true=>exact absurd h f|false=>rfl
     exact step (by simp[fT,a,look,c])
structure xv where
 i:Nat
 pre:List (Option Nat×D)
 σ:List ak
 cls:List (List Bool)
 ua:List Bool
 Gg:List Bool
 obs:List Prop
def KN(i:Nat):List Nat->Bool
 |[]=>true
 |k::r=>match Nat.blt k i with|true=>KN i r|false=>false
theorem xG{i:Nat}:∀ {l:List Nat},KN i l=true->∀ k∈l,k<i
 |[],_,k,h=>by simp at h
 |x::r,h,k,a=>by
  simp only[KN] at h;cases b:Nat.blt x i with
  |false=>simp[b] at h
  |true =>
   simp only[b] at h;rcases dF.1 a with rfl|a
   ·exact c6 b
   ·exact xG h k a
def bit:List Bool->Nat->Bool
 |[],_=>false
 |b::_,0=>b
 |_::r,n+1=>bit r n
def rL:List Bool->List Bool->List Bool
 |[],b=>b
 |true::a,[]=>true::a
 |false::a,[]=>false::a
 |true::a,_::b=>true::rL a b
 |false::a,true::b=>true::rL a b
 |false::a,false::b=>false::rL a b
theorem jr:∀ {a b:List Bool}{j:Nat},bit (rL a b) j=(bit a j||bit b j)
 |[],b,j=>by simp[rL,bit]
 |true::a,[],j=>by simp[rL,bit]
 |false::a,[],j=>by simp[rL,bit]
 |true::a,c::b,0=>by simp[rL,bit]
 |true::a,c::b,j+1=>by simp only[rL,bit];exact jr
 |false::a,true::b,0=>by simp[rL,bit]
 |false::a,true::b,j+1=>by simp only[rL,bit];exact jr
 |false::a,false::b,0=>by simp[rL,bit]
 |false::a,false::b,j+1=>by simp only[rL,bit];exact jr
def nY:Nat->List Bool
 |0=>[true]
 |n+1=>false::nY n
theorem nh:∀ {n j:Nat},bit (nY n) j=decide (n=j)
 |0,0=>rfl
 |0,j+1=>by simp[nY,bit]
 |n+1,0=>by simp[nY,bit]
 |n+1,j+1=>by simp only[nY,bit,nh];simp
def AB(a:List (List Bool)):List Nat->List Bool
 |[]=>[]
 |e::r=>match eb e a with
  |some c=>rL (rL c (nY e)) (AB a r)
  |none=>rL (nY e) (AB a r)
theorem zr{b:List (List Bool)}{j:Nat}:∀ {l:List Nat},bit (AB b l) j=true->∃ e∈l,e=j∨∃ c,b[e]?=some c/\bit c j=true
 |[],h=>by simp[AB,bit] at h
 |e::r,h=>by
  simp only[AB,dm] at h;have d:∀ {a:Nat},bit (nY e) a=true->e=a:=by
   intro a h;rw[nh] at h;simpa using h
  have rest:bit (AB b r) j=true->∃ f∈e::r,f=j∨∃ c,b[f]?=some c/\bit c j=true:=by
   intro h;obtain⟨f,k,i⟩:=zr h;exact⟨f,nS _ k,i⟩
  split at h
  ·rename_i c g
   rw[jr,jr,ko,ko] at h;rcases h with(h|h)|h
   ·exact⟨e,by simp,.inr ⟨c,g,h⟩⟩
   ·exact⟨e,by simp,.inl (d h)⟩
   ·exact rest h
  ·rw[jr,ko] at h;rcases h with h|h
   ·exact⟨e,by simp,.inl (d h)⟩
   ·exact rest h
def nZ:List Bool->List Bool->Bool
 |[],_=>true
 |true::a,true::b=>nZ a b
 |true::_,_=>false
 |false::a,_::b=>nZ a b
 |false::a,[]=>nZ a []
theorem l0:∀ {a b:List Bool}{j:Nat},nZ a b=true->bit a j=true->bit b j=true
 |[],b,j,_,d=>by simp[bit] at d
 |true::a,true::b,0,_,_=>rfl
 |true::a,true::b,j+1,h,d=>by simp only[bit] at d ⊢;exact l0 (by simpa[nZ] using h) d
 |true::a,false::b,j,h,_=>by simp[nZ] at h
 |true::a,[],j,h,_=>by simp[nZ] at h
 |false::a,c::b,0,_,d=>by simp[bit] at d
 |false::a,c::b,j+1,h,d=>by simp only[bit] at d ⊢;exact l0 (by simpa[nZ] using h) d
 |false::a,[],0,_,d=>by simp[bit] at d
 |false::a,[],j+1,h,d=>by
  simp only[bit] at d;have:=l0 (j:=j) (by simpa[nZ] using h) d
  simp[bit] at this
def ni(T:List (Nat×TI))(CT:List (Nat×bE))(N:Nat)(ds:List (Nat×Bool))(all:List Oper)(φm:List (Nat×D×Bool))(st:xv)(o:Oper):Option xv :=
 match ij N o.dst with
 |false=>none
 |true =>
  bZ (bt o.after.toList) λes =>
  match KN st.i es with
  |false=>none
  |true=>match zq T CT ds all (fT (λj=>fE j es) 0 st.pre (gZ st.i all φm)) st.σ o with
   |none=>none
   |some (x,σ',obs) =>
    bZ (AB st.cls es) λa =>
    match σ',Cd (fT (λj=>fE j es) 0 st.pre (gZ st.i all φm)) o with
    |none,false=>bZ (st.pre++[(o.dst,x)]) λpre=>bZ (st.cls++[a]) λcls=>bZ (iQ obs st.obs) λobs=>some ⟨st.i+1,pre,st.σ,cls,st.ua,st.Gg,obs⟩
    |none,true=>match nZ st.ua a with
     |true=>bZ (st.pre++[(o.dst,x)]) λpre=>bZ (st.cls++[a]) λcls=>bZ (iQ obs st.obs) λobs=>bZ (rL st.Gg (nY st.i)) λb=>some ⟨st.i+1,pre,st.σ,cls,st.ua,b,obs⟩
     |false=>none
    |some σ',_=>match nZ st.Gg a with
     |true=>bZ (st.pre++[(o.dst,x)]) λpre=>bZ (st.cls++[a]) λcls=>bZ (iQ obs st.obs) λobs=>bZ (rL st.Gg (nY st.i)) λb=>bZ (rL st.ua (nY st.i)) λc=>some ⟨st.i+1,pre,σ',cls,c,b,obs⟩
     |false=>none
def Gh(T:List (Nat×TI))(CT:List (Nat×bE))(N:Nat)(ds:List (Nat×Bool))(all:List Oper)(φm:List (Nat×D×Bool)):List Oper->xv->Option xv
 |[],st=>some st
 |o::r,st=>match ni T CT N ds all φm st o with
  |some kF=>Gh T CT N ds all φm r kF
  |none=>none
def zt(T:List (Nat×TI))(CT:List (Nat×bE))(N:Nat)(ds:List (Nat×Bool))(all:List Oper)(φ:Fr)(σ:List ak):Option (Fr×List ak×List Prop) :=
 match mh all with
 |false=>none
 |true=>bZ (ly all φ) λφm=>match Gh T CT N ds all φm all ⟨0,[],σ,[],[],[],[]⟩ with
  |some st=>bZ (fT (λ_=>true) 0 st.pre (oZ all φ)) λφ'=>some (φ',st.σ,st.obs)
  |none=>none
end Go.AM
namespace Go.AM
open Go.Conc (G)
def jN:Oper:=⟨none,.move (.tmp 0),0,"",#[],none⟩
section
variable (T:List (Nat×TI))(CT:List (Nat×bE))(N:Nat)(ds:List (Nat×Bool))(all:List Oper)(φm:List (Nat×D×Bool))
def rM(st:xv):Nat->xv
 |0=>st
 |i+1=>(ni T CT N ds all φm (rM st i) (all.getD i jN)).getD (rM st i)
def FT(st:xv)(i:Nat):Fr:=fT (λj=>fE j (bt (all.getD i jN).after.toList)) 0 (rM T CT N ds all φm st i).pre (gZ (rM T CT N ds all φm st i).i all φm)
def zu(st:xv)(i:Nat):Option (D×Option (List ak)×List Prop):=zq T CT ds all (FT T CT N ds all φm st i) (rM T CT N ds all φm st i).σ (all.getD i jN)
def xD(st:xv)(i:Nat):D:=match zu T CT N ds all φm st i with|some (x,_,_)=>x|none=>.any
def kX(st:xv)(i:Nat):Bool:=match zu T CT N ds all φm st i with|some (_,some _,_)=>true|_=>false
def oD(st:xv)(i:Nat):Bool:=!Cd (FT T CT N ds all φm st i) (all.getD i jN)&&!kX T CT N ds all φm st i
def HU(st:xv)(i:Nat):List Bool:=AB (rM T CT N ds all φm st i).cls (bt (all.getD i jN).after.toList)
end
section
variable {T:List (Nat×TI)}{CT:List (Nat×bE)}{N:Nat}{ds:List (Nat×Bool)}{all:List Oper}{φm:List (Nat×D×Bool)}
structure CM (T:List (Nat×TI))(CT:List (Nat×bE))(N:Nat)(ds:List (Nat×Bool))(all:List Oper)(φm:List (Nat×D×Bool))(st kF:xv)(o:Oper)(x:D)(σ':Option (List ak))(obs:List Prop):Prop where
 dst:ij N o.dst=true
 lt:KN st.i (bt o.after.toList)=true
 op:zq T CT ds all (fT (λj=>fE j (bt o.after.toList)) 0 st.pre (gZ st.i all φm)) st.σ o=some (x,σ',obs)
 i:kF.i=st.i+1
 pre:kF.pre=st.pre++[(o.dst,x)]
 cls:kF.cls=st.cls++[AB st.cls (bt o.after.toList)]
 σ:kF.σ=σ'.getD st.σ
 obs:kF.obs=iQ obs st.obs
 R6:kF.ua=if σ'.isSome=true then rL st.ua (nY st.i) else st.ua
 nf:kF.Gg=if (Cd (fT (λj=>fE j (bt o.after.toList)) 0 st.pre (gZ st.i all φm)) o||σ'.isSome)=true then rL st.Gg (nY st.i) else st.Gg
 load:Cd (fT (λj=>fE j (bt o.after.toList)) 0 st.pre (gZ st.i all φm)) o=true->σ'.isSome=false->nZ st.ua (AB st.cls (bt o.after.toList))=true
 jf:σ'.isSome=true->nZ st.Gg (AB st.cls (bt o.after.toList))=true
theorem vr{st kF:xv}{o:Oper}(h:ni T CT N ds all φm st o=some kF):∃ x σ' obs,CM T CT N ds all φm st kF o x σ' obs:=by
 unfold ni at h;split at h
 ·cases h
 rename_i c
 simp only[bM] at h;split at h
 ·cases h
 rename_i a
 split at h
 ·cases h
 rename_i x σ' obs eC
 refine⟨x,σ',obs,?_⟩;cases σ' with
 |none =>
  cases b:Cd (fT (λj=>fE j (bt o.after.toList)) 0 st.pre (gZ st.i all φm)) o with
  |false =>
   simp only[b,bM] at h;cases h;exact⟨c,a,eC,rfl,rfl,rfl,rfl,rfl,by simp,by simp[b],by simp[b],by simp⟩
  |true =>
   simp only[b,bM] at h;split at h
   ·rename_i d
    cases h;exact⟨c,a,eC,rfl,rfl,rfl,rfl,rfl,by simp,by simp[b],λ_ _=>d,by simp⟩
   ·cases h
 |some σ' =>
  simp only[bM] at h;split at h
  ·rename_i d
   cases h;exact⟨c,a,eC,rfl,rfl,rfl,rfl,rfl,by simp,by simp,by simp,λ_=>d⟩
  ·cases h
theorem zv{st sf:xv}:∀ {rest:List Oper}{k:Nat},(∀ i,rest[i]?=all[k+i]?)->Gh T CT N ds all φm rest (rM T CT N ds all φm st k)=some sf ->
  (∀ i o,rest[i]?=some o->ni T CT N ds all φm (rM T CT N ds all φm st (k+i)) o=some (rM T CT N ds all φm st (k+i+1)))/\rM T CT N ds all φm st (k+rest.length)=sf
 |[],k,_,h=>by
  cases h;exact⟨by simp,rfl⟩
 |p::r,k,c,h=>by
  simp only[Gh] at h;have d:all[k]?=some p:=by have:=c 0;simpa using this.symm
  split at h
  ·rename_i b a
   have e:rM T CT N ds all φm st (k+1)=b:=by
    simp only[rM,List.getD_eq_getElem?_getD,d,cw,a]
   rw[<-e] at h;obtain⟨g,f⟩:=zv (rest:=r) (k:=k+1) (λi=>by have:=c (i+1);simpa[kq,iu 1] using this) h
   refine⟨λi o hi=>?_,by rw[<-f];congr 1;simp;omega⟩
   cases i with
   |zero=>simp at hi;subst hi;simpa[e] using a
   |succ i =>
    have:=g i o (by simpa using hi)
    rw[show k+(i+1)=k+1+i by omega]
    exact this
  ·cases h
theorem IN{j:Nat}:∀ {l:List Nat},fE j l=true->j∈l:=by
 intro l
 induction l with
 |nil=>intro h;cases h
 |cons a r c =>
  intro h;simp only[fE] at h;cases b:Nat.beq j a with
  |true=>rw[bn b];exact List.mem_cons_self
  |false=>simp[b] at h;exact nS _ (c h)
theorem CN{P:Program}{X:Cx P}(hf:P.follows Departure.mixedOrders=true)(hT:bV P T)(hC:aM X CT){ops:Array Oper}{φ φ':Fr}{σ σ':List ak}{obs:List Prop}(h:zt T CT N ds ops.toList φ σ=some (φ',σ',obs))(N2:aa obs){Q:Post}(hQ:Q .normal φ' σ')(id:Nat) :
  AW X N (.region id ops true) Q φ σ:=by
 unfold zt at h;split at h
 ·cases h
 rename_i Lm
 rw[bM] at h;split at h
 case h_2=>cases h
 rename_i sf o4
 rw[bM] at h;cases h;generalize W:ops.toList=all at *;generalize N3:ly all φ=φm at *;have z:∀ i:Nat,ops[i]?=all[i]?:=λi=>by rw[<-W,nR]
 have Cq:ops.size=all.length:=by rw[<-W];simp
 let g:xv:=⟨0,[],σ,[],[],[],[]⟩
 obtain⟨gD,M⟩:=zv (T:=T) (CT:=CT) (N:=N) (ds:=ds) (φm:=φm) (st:=g) (rest:=all) (k:=0) (λi=>by simp) o4
 simp only[ay] at gD M
 let F:=rM T CT N ds all φm g
 have q:∀ i o,all[i]?=some o->all.getD i jN=o:=λi o h=>by simp[List.getD_eq_getElem?_getD,h]
 have N4:∀ i o,all[i]?=some o->FT T CT N ds all φm g i=(fT (λj=>fE j (bt (o).after.toList)) 0 (F i).pre (gZ (F i).i all φm)):=λi o h=>by
  unfold FT;rw[q i o h]
 have n:∀ i o,all[i]?=some o->∃ S,CM T CT N ds all φm (F i) (F (i+1)) o (xD T CT N ds all φm g i) (if kX T CT N ds all φm g i=true then some (F (i+1)).σ else none) S:=by
  intro i o u;obtain⟨x,σ1,S,r⟩:=vr (gD i o u);have R:=r.op;have hR:zu T CT N ds all φm g i=some (x,σ1,S):=by
   unfold zu FT;rw[q i o u];exact R
  have hx:xD T CT N ds all φm g i=x:=by unfold xD;rw[hR]
  cases σ1 with
  |none =>
   have A:kX T CT N ds all φm g i=false:=by unfold kX;rw[hR]
   exact⟨S,by rw[hx,A];exact r⟩
  |some σ2 =>
   have A:kX T CT N ds all φm g i=true:=by unfold kX;rw[hR]
   have N5:(F (i+1)).σ=σ2:=r.σ;exact⟨S,by rw[hx,A,ar rfl,N5];exact r⟩
 have Y:∀ i,i<=all.length->(F i).i=i:=by
  intro i
  induction i with
  |zero=>intro _;rfl
  |succ i I =>
   intro hi;obtain⟨_,r⟩:=n i _ (aj (by omega))
   rw[r.i,I (by omega)]
 have Ln:∀ i,i<=all.length->∀ j,(F i).pre[j]?=if j<i then (all[j]?).map (λo=>(o.dst,xD T CT N ds all φm g j)) else none:=by
  intro i
  induction i with
  |zero=>intro _ j;simp[F,rM,g]
  |succ i I =>
   intro hi j;obtain⟨_,r⟩:=n i _ (aj (by omega))
   have hlen:(F i).pre.length=i:=by
    apply Nat.le_antisymm
    ·apply Nat.le_of_not_lt
     intro E;have:=I (by omega) i
     rw[an (by omega),List.getElem?_eq_none_iff] at this
     omega
    ·cases i with
     |zero=>omega
     |succ k =>
      have:=I (by omega) k
      rw[ar (by omega),aj (by omega:k<all.length)] at this
      exact(aF.1 this).1
   rw[r.pre]
   by_cases J:j<i
   ·rw[bS (by omega),I (by omega) j,ar J,ar (by omega)]
   ·rw[cv (by omega)]
    by_cases e:j=i
    ·subst e;simp[hlen,aj (by omega:j<all.length)]
    ·rw[an (by omega),jI (by simp;omega)]
 have N6:∀ i,i<=all.length->∀ j,(F i).cls[j]?=if j<i then some (HU T CT N ds all φm g j) else none:=by
  intro i
  induction i with
  |zero=>intro _ j;simp[F,rM,g]
  |succ i I =>
   intro hi j;obtain⟨_,r⟩:=n i _ (aj (by omega))
   have hlen:(F i).cls.length=i:=by
    apply Nat.le_antisymm
    ·apply Nat.le_of_not_lt
     intro E;have:=I (by omega) i
     rw[an (by omega),List.getElem?_eq_none_iff] at this
     omega
    ·cases i with
     |zero=>omega
     |succ k =>
      have:=I (by omega) k
      rw[ar (by omega)] at this
      exact(aF.1 this).1
   rw[r.cls]
   by_cases J:j<i
   ·rw[bS (by omega),I (by omega) j,ar J,ar (by omega)]
   ·rw[cv (by omega)]
    by_cases e:j=i
    ·subst e;rw[ar (by omega),hlen,Nat.sub_self]
     simp only[mv,HU,q j _ (aj (by omega:j<all.length))]
     rfl
    ·rw[an (by omega),jI (by simp;omega)]
 have N7:∀ i,i<=all.length->∀ j,bit (F i).ua j=(decide (j<i)&&kX T CT N ds all φm g j):=by
  intro i
  induction i with
  |zero=>intro _ j;simp[F,rM,g,bit]
  |succ i I =>
   intro hi j;obtain⟨_,r⟩:=n i _ (aj (by omega))
   rw[r.R6];cases A:kX T CT N ds all φm g i with
   |false =>
    simp only[fQ,aQ,Option.isSome_none];rw[I (by omega) j]
    by_cases e:j=i
    ·subst e;simp[A]
    ·have:(j<i+1)↔j<i:=by omega
     simp[this]
   |true =>
    simp only[aZ,Option.isSome_some];rw[jr,I (by omega) j,nh,Y i (by omega)]
    by_cases e:j=i
    ·subst e;simp[A]
    ·have:(j<i+1)↔j<i:=by omega
     have C:¬i=j:=λh=>e h.symm
     simp[this,C]
 have QC:∀ i,i<=all.length->∀ j,bit (F i).Gg j=(decide (j<i)&&!oD T CT N ds all φm g j):=by
  intro i
  induction i with
  |zero=>intro _ j;simp[F,rM,g,bit]
  |succ i I =>
   intro hi j;obtain⟨_,r⟩:=n i _ (aj (by omega))
   have Lo:(if kX T CT N ds all φm g i=true then some (F (i+1)).σ else none).isSome=kX T CT N ds all φm g i:=by cases kX T CT N ds all φm g i <;> rfl
   have Nh:oD T CT N ds all φm g i=!(Cd (fT (λj=>fE j (bt (all[i]'(by omega)).after.toList)) 0 (F i).pre (gZ (F i).i all φm)) (all[i]'(by omega))||kX T CT N ds all φm g i):=by
    unfold oD;rw[N4 i _ (aj (by omega)),q i _ (aj (by omega))]
    simp
   rw[r.nf,Lo];cases A:(Cd (fT (λj=>fE j (bt (all[i]'(by omega)).after.toList)) 0 (F i).pre (gZ (F i).i all φm)) (all[i]'(by omega))||kX T CT N ds all φm g i) with
   |false =>
    simp only[fQ,aQ];rw[I (by omega) j]
    by_cases e:j=i
    ·subst e;simp[Nh,A]
    ·have:(j<i+1)↔j<i:=by omega
     simp[this]
   |true =>
    simp only[aZ];rw[jr,I (by omega) j,nh,Y i (by omega)]
    by_cases e:j=i
    ·subst e;simp[Nh,A]
    ·have:(j<i+1)↔j<i:=by omega
     have C:¬i=j:=λh=>e h.symm
     simp[this,C]
 have Lp:∀ i,i<=all.length->aa (F i).obs:=by
  have back:∀ k i,i+k=all.length->aa (F i).obs:=by
   intro k
   induction k with
   |zero =>
    intro i hi;have:F i=sf:=by rw[<-M];simp[F,<-hi]
    rw[this];exact N2
   |succ k I =>
    intro i hi;obtain⟨_,r⟩:=n i _ (aj (by omega))
    have:=I (i+1) (by omega)
    rw[r.obs,aa.cat] at this;exact this.2
  intro i hi;exact back (all.length-i) i (by omega)
 have R7:∀ i o,all[i]?=some o->OA X N all o (FT T CT N ds all φm g i) (F i).σ (xD T CT N ds all φm g i) (F (i+1)).σ:=by
  intro i o u;have hi:i<all.length:=(aF.1 u).1;obtain⟨_,r⟩:=n i o u;have KO:=Lp (i+1) (by omega)
  rw[r.obs,aa.cat] at KO;have:=kG (P:=P) (N:=N) hT hC r.op KO.1;rw[r.σ];unfold FT;rw[q i o u];exact this
 let idx:Nat->Option Nat:=λt=>(List.range all.length).find? (λi=>decide ((all.getD i jN).dst=some t))
 have y:∀ t j,idx t=some j->∃ o,all[j]?=some o/\o.dst=some t:=by
  intro t j hj;have G:=List.find?_some hj;have C:j<all.length:=by simpa using List.mem_of_find?_eq_some hj
  refine⟨all[j],aj C,?_⟩;simpa[aj C] using G
 have K:∀ i o d,all[i]?=some o->o.dst=some d->idx d=some i:=by
  intro i o d u hd;have hi:i<all.length:=(aF.1 u).1;cases hx:idx d with
  |none =>
   have:=List.find?_eq_none.1 hx i (by simpa using hi)
   simp[u,hd] at this
  |some j =>
   obtain⟨p,Lq,IP⟩:=y d j hx;rw[nW Lm Lq u IP hd]
 have V:∀ t,lx t all=true↔∃ j,idx t=some j:=by
  intro t
  constructor
  ·intro h;obtain⟨i,o,G,C⟩:=lZ h;exact⟨i,K i o t G C⟩
  ·rintro⟨j,hj⟩;obtain⟨o,G,C⟩:=y t j hj;exact nd G C
 have O:∀ i o,all[i]?=some o->∀ e∈o.after,bT e=true->e.on<i:=by
  intro i o u e A hb;have hi:i<all.length:=(aF.1 u).1;obtain⟨_,r⟩:=n i o u;have:=xG r.lt e.on (dK.2 ⟨e,by simpa using A,hb,rfl⟩)
  rw[Y i (by omega)] at this
  exact this
 have HV:=O;have hd:qe X N ops φ (λi=>(F i).σ) (xD T CT N ds all φm g) (FT T CT N ds all φm g) (oD T CT N ds all φm g) (λi=>decide (i<all.length)&&kX T CT N ds all φm g i) (λi j=>i<all.length/\bit (HU T CT N ds all φm g i) j=true) idx (fT (λ_=>true) 0 sf.pre (oZ all φ)):=by
  refine⟨hf,?_,?_,?_,?_,?_,?_,?_,?_,?_,?_⟩
  ·intro i o u;rw[z] at u;exact HV i o u
  ·intro i o d u hd;rw[z] at u;obtain⟨_,r⟩:=n i o u;exact⟨K i o d u hd,gY r.dst d hd⟩
  ·intro d i h;obtain⟨o,G,C⟩:=y d i h;exact⟨o,by rw[z];exact G,C⟩
  ·intro i A;rcases bC i all.length with hi|hi
   ·obtain⟨_,r⟩:=n i _ (aj hi);have:kX T CT N ds all φm g i=false:=by simpa[hi] using A
    have hσ:=r.σ;rw[this] at hσ;simpa using hσ
   ·have h0:all.getD i jN=jN:=by simp[List.getD_eq_getElem?_getD,jI hi]
    show (F (i+1)).σ=(F i).σ;have:ni T CT N ds all φm (F i) jN=none∨∃ s',ni T CT N ds all φm (F i) jN=some s':=by
     cases ni T CT N ds all φm (F i) jN with
     |none=>exact .inl rfl
     |some s'=>exact .inr ⟨s',rfl⟩
    show ((ni T CT N ds all φm (F i) (all.getD i jN)).getD (F i)).σ=(F i).σ;rw[h0];rcases this with h|⟨s',h⟩
    ·rw[h];rfl
    ·rw[h];obtain⟨x,σ1,ob,r⟩:=vr h;have R:=r.op;have:σ1=none:=by
      unfold zq at R;simp only[jN,Gf,Ni,CO,j0] at R;cases R;rfl
     rw[cw,r.σ,this];rfl
  ·intro i o u _;rw[z] at u;have:=R7 i o u;rw[<-W] at this ⊢;exact this
  ·intro i o u U;rw[z] at u;have hi:i<all.length:=(aF.1 u).1;have B:Cd (fT (λj=>fE j (bt (o).after.toList)) 0 (F i).pre (gZ (F i).i all φm)) o=false/\kX T CT N ds all φm g i=false:=by
    unfold oD at U;rw[N4 i o u,q i o u] at U;simpa using U
   refine⟨by simp[B.2],λk=>?_⟩
   obtain⟨ob,r⟩:=n i o u;have R:=r.op;rw[B.2] at R;have N8:=CL B.1 (by simpa using R) (F k).σ
   have KO:=Lp (i+1) (by omega)
   rw[r.obs,aa.cat] at KO;have:=kG (P:=P) (N:=N) hT hC N8 KO.1;rw[W];unfold FT;rw[q i o u];exact this
  ·intro L hL i j ⟨hi,hb⟩;have eR:∀ i,i<all.length->L i->∀ e,e∈bt (all.getD i jN).after.toList->L e:=by
    intro i hi N9 e A;rw[q i _ (aj hi)] at A;obtain⟨e',G,C,rfl⟩:=dK.1 A;exact hL i all[i] (by rw[z];exact aj hi) N9 e' (by simpa using G) C
   have key:∀ i,i<all.length->∀ j,bit (HU T CT N ds all φm g i) j=true->(∀ e∈bt (all.getD i jN).after.toList,L e)->L j:=by
    intro i
    induction i using Nat.strongRecOn with
    |_ i I =>
     intro hi j hb QE;obtain⟨e,A,h⟩:=zr hb;have E:e<i:=by
      have HQ:=A;rw[q i _ (aj hi)] at HQ;obtain⟨e',G,C,rfl⟩:=dK.1 HQ;exact HV i _ (aj hi) e' (by simpa using G) C
     rcases h with rfl|⟨c,hc,KV⟩
     ·exact QE _ A
     ·have:=N6 i (by omega) e
      rw[ar E] at this;have R8:(F i).cls[e]?=some c:=hc;rw[R8] at this;cases this;exact I e E (by omega) j KV (eR e (by omega) (QE e A))
   refine⟨λN9=>key i hi j hb (eR i hi N9),all[i],by rw[z];exact aj hi,λOa=>key i hi j hb ?_⟩
   intro e A;rw[q i _ (aj hi)] at A;obtain⟨e',G,C,rfl⟩:=dK.1 A;exact Oa e' (by simpa using G) C
  ·intro i f hi FR A sj Nj;rw[Cq] at hi FR;have HQ:kX T CT N ds all φm g f=true:=by simpa[FR] using A
   rcases bC f i with E|M8
   ·refine .inl ⟨E,hi,?_⟩;obtain⟨_,r⟩:=n i _ (aj hi);have xu:HU T CT N ds all φm g i=AB (F i).cls (bt (all[i]).after.toList):=by unfold HU;rw[q i _ (aj hi)]
    rw[xu];cases Ob:kX T CT N ds all φm g i with
    |true =>
     have G:=r.jf (by rw[Ob];rfl)
     refine l0 G ?_;rw[QC i (by omega) f]
     have:oD T CT N ds all φm g f=false:=by unfold oD;simp[HQ]
     simp[E,this]
    |false =>
     have R9:Cd (fT (λj=>fE j (bt (all[i]).after.toList)) 0 (F i).pre (gZ (F i).i all φm)) all[i]=true:=by
      unfold oD at Nj;rw[N4 i _ (aj hi),q i _ (aj hi),Ob] at Nj;simpa using Nj
     have G:=r.load R9 (by rw[Ob];rfl)
     refine l0 G ?_;rw[N7 i (by omega) f]
     simp[E,HQ]
   ·have E:i<f:=by omega
    refine .inr ⟨E,FR,?_⟩;obtain⟨_,r⟩:=n f _ (aj FR);have xu:HU T CT N ds all φm g f=AB (F f).cls (bt (all[f]).after.toList):=by unfold HU;rw[q f _ (aj FR)]
    rw[xu];have G:=r.jf (by rw[HQ];rfl)
    refine l0 G ?_;rw[QC f (by omega) i]
    simp[E,Nj]
  ·intro i o u t σ s v Z;rw[z] at u;have hi:i<all.length:=(aF.1 u).1;unfold FT;rw[q i o u];rcases j1 (m:=λj=>fE j (bt o.after.toList)) (φ:=gZ (F i).i all φm) (t:=t) (l:=(F i).pre) (i:=0) with⟨j,x,G,C,h3⟩|h3
   ·have Oc:look (fT (λj=>fE j (bt o.after.toList)) 0 (rM T CT N ds all φm g i).pre (gZ (rM T CT N ds all φm g i).i all φm)) t=x:=h3
    rw[Oc];have hp:=Ln i (by omega) j
    rw[G] at hp;have J:j<i:=by
     apply Nat.lt_of_not_le;intro hle;rw[an (by omega)] at hp;cases hp
    rw[ar J,aj (by omega:j<all.length)] at hp
    simp only[gG,bG,kp] at hp;obtain⟨Lq,IP⟩:=hp;have H:=K j _ t (aj (by omega:j<all.length)) Lq.symm
    rw[H] at Z;simp only at Z;rw[ar] at Z
    ·rw[IP];exact Z
    ·have Od:j∈bt o.after.toList:=by
      simp only[ay] at C;exact IN C
     obtain⟨e,a,b,c⟩:=dK.1 Od;exact⟨e,by simpa using a,b,c⟩
   ·have Oc:look (fT (λj=>fE j (bt o.after.toList)) 0 (rM T CT N ds all φm g i).pre (gZ (rM T CT N ds all φm g i).i all φm)) t=look (gZ (F i).i all φm) t:=h3
    rw[Oc,Y i (by omega),<-N3,sk]
    split
    ·trivial
    ·rename_i Lr
     cases H:idx t with
     |some j =>
      have hD:=(V t).2 ⟨j,H⟩;have hN:o0 i t all=false:=by
       cases hn:o0 i t all with
       |false=>rfl
       |true=>exact absurd ⟨hD,hn⟩ Lr
      obtain⟨oj,Oe,Sa⟩:=y t j H;have hm:=IN (qg hN j oj Oe Sa);obtain⟨e,A,hb,heq⟩:=dK.1 hm;rw[H] at Z;simp only at Z;split at Z
      ·
       rename_i hex
       obtain⟨e2,Sb,Sc,Sd⟩:=hex;have b1:=O i o u e2 Sb Sc;have b2:=O j oj Oe e (by simpa using A) hb
       omega
      ·rw[ar ⟨oj,by rw[z];exact Oe,e,by simpa using A,hb,heq⟩] at Z
       exact Z
     |none=>simpa[H] using Z
  ·intro t σ s v Z;have hF:F all.length=sf:=M;rcases j1 (m:=λ_=>true) (φ:=oZ all φ) (t:=t) (l:=sf.pre) (i:=0) with⟨j,x,G,_,h3⟩|h3
   ·rw[h3];have hp:=Ln all.length (aq _) j;rw[hF,G] at hp;have J:j<all.length:=by
     apply Nat.lt_of_not_le;intro hle;rw[an (by omega)] at hp;cases hp
    rw[ar J,aj J] at hp;simp only[gG,bG,kp] at hp;obtain⟨Lq,IP⟩:=hp;rw[K j _ t (aj J) Lq.symm] at Z;rw[IP];exact Z
   ·rw[h3,iA];split
    ·trivial
    ·rename_i Lr
     cases H:idx t with
     |some j=>exact absurd ((V t).2 ⟨j,H⟩) Lr
     |none=>simpa[H] using Z
 intro s a Nh hh b kk cs SS hb Of;have IE:F ops.size=sf:=by rw[Cq];exact M
 refine .next rfl λs1 zo=>?_
 have zo:=X.fC zo;have Ls:=hh.rely zo;have Og:=Nh.rely zo hh;have IQ:Step σ s1 σ { s1 with w:={ s1.w with drawn:=s1.w.drawn+1 } }:=Step.same rfl rfl rfl rfl;have KL:ag σ { s1 with w:={ s1.w with drawn:=s1.w.drawn+1 } }:=Ls.same rfl;have Se:=zo.stepW.trans (IQ.mH Ls);refine⟨_,{ s1 with w:={ s1.w with drawn:=s1.w.drawn+1 } },#[],iJ,⟨⟨σ,σ,Ls,KL,IQ⟩,.nil⟩,?_⟩;simp only[Region.schedule,hf,Bool.true_or,aZ];refine hd.arr hb (s0:={ s1 with w:={ s1.w with drawn:=s1.w.drawn+1 } }) (λs2 a2 f2 C na=>?_) ops.size _ (by simp) ?_ ?_ 0 _ a (by omega) ?_ ?_ KL (.refl _ _) _
 ·simp only[IE] at f2 C na;exact Of .normal _ _ s2 a2 hQ f2 C (Se.trans na)
 ·simp
 ·intro i o u hi;simp[bP,jG] at hi;split at hi <;> simp at hi
 ·intro f FR Ux;simp[bP,jG];split <;> simp
 ·have B:=Og.mono (IQ.mH Ls) Ls.len;refine⟨B.size,B.defers,λt=>?_⟩
  unfold dy;cases H:idx t with
  |none=>exact B.slot t
  |some j =>
   simp only;rw[an]
   ·exact B.slot t
   ·simp[bP,jG];split <;> simp
end
end Go.AM
namespace Go.AM
section
variable {P:Program}{X:Cx P}{N:Nat}{Qf:Post}{K:List It}{φ:Fr}{σ:List ak}
theorem AK.draw{T:List (Nat×TI)}{CT:List (Nat×bE)}(c:P.follows Departure.mixedOrders=true)(b:bV P T)(hC:aM X CT){ds:List (Nat×Bool)}{ops:Array Oper}{φ':Fr}{σ':List ak}{obs:List Prop}{id:Nat}
  (h:zt T CT N ds ops.toList φ σ=some (φ',σ',obs)) (a:aa obs) (k:AK X N Qf K .normal φ' σ'):AK X N Qf (.code (.region id ops true)::K) .normal φ σ :=
 CN c b hC h a k id
end
def zL(T:List (Nat×TI))(CT:List (Nat×bE))(ds:List (Nat×Bool))(N:Nat)(K:List It)(φ:Fr)(σ:List ak):Option (List It×Fr×List ak×List Prop) :=
 match K with
 |[]=>none
 |.blk _::K=>some (K,φ,σ,[])
 |.ops _ []::K=>some (K,φ,σ,[])
 |.ops all (o::rest)::K=>match ij N o.dst with
  |true=>match zq T CT ds all φ σ o with
   |some (x,none,obs)=>bZ (mF o.dst x φ) λφ=>some (.ops all rest::K,φ,σ,obs)
   |some (x,some σ',obs)=>bZ (mF o.dst x φ) λφ=>some (.ops all rest::K,φ,σ',obs)
   |none=>none
  |false=>none
 |.code c::K=>match c with
  |.skip=>some (K,φ,σ,[])
  |.seq x y=>some (.code x::.code y::K,φ,σ,[])
  |.block id c=>some (.code c::.blk id::K,φ,σ,[])
  |.region id ops d=>match zw ds (id+1000000) with
   |some _=>none
   |none=>match d with
    |false=>some (.ops ops.toList ops.toList::K,φ,σ,[])
    |true=>match zt T CT N ds ops.toList φ σ with
     |some (φ',σ',obs)=>some (K,φ',σ',obs)
     |none=>none
  |.exit id=>match g7 id K with
   |some K'=>some (K',φ,σ,[])
   |none=>none
  |.cond (.tmp t) x y=>match look φ t with
   |.e (.one (.c (.bool true)))=>some (.code x::K,φ,σ,[])
   |.e (.one (.c (.bool false)))=>some (.code y::K,φ,σ,[])
   |_=>none
  |_=>none
theorem Dy{P:Program}{X:Cx P}(q:P.follows Departure.mixedOrders=true){T:List (Nat×TI)}(i:bV P T){CT:List (Nat×bE)}(d:aM X CT){ds:List (Nat×Bool)}{N:Nat}{Qf:Post}{K m:List It}{φ φ':Fr}{σ σ':List ak}{obs:List Prop}
  (h:zL T CT ds N K φ σ=some (m,φ',σ',obs)) (f:aa obs) (k:AK X N Qf m .normal φ' σ'):AK X N Qf K .normal φ σ:=by
 unfold zL at h;split at h
 ·cases h
 ·cases h;exact AK.Jo k
 ·cases h;exact AK.Jp k
 ·rename_i all o rest K0
  cases b:ij N o.dst with
  |false=>simp[b] at h
  |true =>
   simp only[b] at h;have l:=gY b;split at h
   ·rename_i x a g
    rw[bM] at h;cases h;exact gB.uu (kG i d g f) l k
   ·rename_i x σ1 a g
    rw[bM] at h;cases h;exact gB.uu (kG i d g f) l k
   ·cases h
 ·rename_i c K0
  split at h
  ·cases h;exact AK.skip k
  ·cases h;exact AK.seq k
  ·cases h;exact AK.block k
  ·split at h
   ·cases h
   ·split at h
    ·cases h;exact AK.region k
    ·split at h
     ·rename_i p σ1 a b
      cases h;exact AK.draw q i d b f k
     ·cases h
  ·split at h
   ·rename_i r n;cases h;exact AK.exit n k
   ·cases h
  ·rename_i t x y
   split at h
   ·rename_i j;cases h;exact AK.cond rfl j (λ_=>k) (λe=>by cases e)
   ·rename_i j;cases h;exact AK.cond rfl j (λe=>by cases e) (λ_=>k)
   ·cases h
  ·cases h
def c7(T:List (Nat×TI))(CT:List (Nat×bE))(ds:List (Nat×Bool))(N:Nat):Nat->List It->Fr->List ak->List Prop->Option (List It×Fr×List ak×List Prop)
 |0,K,φ,σ,obs=>bZ obs λobs=>some (K,φ,σ,obs)
 |n+1,K,φ,σ,obs=>match zL T CT ds N K φ σ with
  |some (a,φ',σ',o)=>c7 T CT ds N n a φ' σ' (iQ o obs)
  |none=>bZ obs λobs=>some (K,φ,σ,obs)
theorem zM{P:Program}{X:Cx P}(g:P.follows Departure.mixedOrders=true){T:List (Nat×TI)}(f:bV P T){CT:List (Nat×bE)}(e:aM X CT){ds:List (Nat×Bool)}{N:Nat}{Qf:Post}:∀ {n:Nat}{K b:List It}{φ φ':Fr}{σ σ':List ak}{obs xK:List Prop},
  c7 T CT ds N n K φ σ obs=some (b,φ',σ',xK)->aa xK->AK X N Qf b .normal φ' σ'->AK X N Qf K .normal φ σ/\aa obs
 |0,K,b,φ,φ',σ,σ',obs,xK,h,a,k=>by
  simp only[c7,bM] at h;cases h;exact⟨k,a⟩
 |n+1,K,b,φ,φ',σ,σ',obs,xK,h,a,k=>by
  simp only[c7] at h;cases d:zL T CT ds N K φ σ with
  |none =>
   simp only[d,bM] at h;cases h;exact⟨k,a⟩
  |some r =>
   obtain⟨l,j,σ1,m⟩:=r;simp only[d] at h;obtain⟨i,c⟩:=zM g f e h a k;rw[aa.cat] at c;exact⟨Dy g f e d c.1 i,c.2⟩
theorem AK.c7{P:Program}{X:Cx P}(e:P.follows Departure.mixedOrders=true){T:List (Nat×TI)}(d:bV P T){CT:List (Nat×bE)}(hC:aM X CT)(ds:List (Nat×Bool)){N:Nat}{Qf:Post}(n:Nat){K b:List It}{φ φ':Fr}{σ σ':List ak}{a:List Prop}
  (h:AM.c7 T CT ds N n K φ σ []=some (b,φ',σ',a)) (c:aa a) (k:AK X N Qf b .normal φ' σ'):AK X N Qf K .normal φ σ:=(zM e d hC h c k).1
section
variable {P:Program}{X:Cx P}{N:Nat}{Qf:Post}{K:List It}{φ:Fr}{σ:List ak}
def tX(a:List ResultVar)(ks:List Nat)(φ:Fr)(res:D):Option (List Prop) :=
 match rK φ a with
 |some ds=>match nb ds with
  |some d=>match vd ks.length res with
   |true=>FQ d (iN ks res)
   |false=>none
  |none=>none
 |none=>none
theorem AK.eF{fn:Func}{c:Nat}{res:D}{σ':List ak}(ks:List Nat){ps:List Prop}(h:tX fn.results.toList ks φ res=some ps)(f:aa ps)(i:jT ks σ=some σ')(b:kC σ'=true)(k:dn ks=true)(e:∀ j,j<c->ks[j]?=some j) :
  AK X N (aR fn c res σ') (.code .ret::K) .normal φ σ:=by
 refine AK.ret ⟨.inl rfl,ks,?_⟩;unfold tX at h;split at h
 ·rename_i ds CF
  split at h
  ·rename_i d g
   split at h
   ·rename_i a
    exact⟨ds,d,ps,CF,g,h,f,a,i,b,k,e⟩
   ·cases h
  ·cases h
 ·cases h
theorem AK.au{fn:Func}{res:D}{ps:List Prop}(h:tX fn.results.toList [] φ res=some ps)(a:aa ps):AK X N (aR fn 0 res []) (.code .ret::K) .normal φ σ :=
 AK.eF [] h a rfl rfl rfl (λj h=>by omega)
theorem aR.zero{fn:Func}{res:D}{ps:List Prop}(h:tX fn.results.toList [] φ res=some ps)(b:aa ps):aR fn 0 res [] .ret φ σ:=by
 refine⟨.inl rfl,[],?_⟩;unfold tX at h;split at h
 ·rename_i ds CF
  split at h
  ·rename_i d c
   split at h
   ·rename_i a
    exact⟨ds,d,ps,CF,c,h,b,a,rfl,rfl,rfl,λj h=>by omega⟩
   ·cases h
  ·cases h
 ·cases h
theorem AK.leave{id:Nat}{φ:Fr}{σ:List ak}{A:Fr->List ak->Prop}{Qr:Post}{K n m:List It}(h1:g7 id K=none)(h2:g7 id n=some m)(k:AK X N Qr m .normal φ σ) :
  AK X N (λe φ' σ'=>match e with
   |.normal=>A φ' σ'
   |e=>AK X N Qr n e φ' σ') (.code (.exit id)::K) .normal φ σ:=by
 have key:∀ {K:List It},g7 id K=none->∀ {Q:Post},Q (.exit id) φ σ->AK X N Q K (.exit id) φ σ:=by
  intro K
  induction K with
  |nil=>intro _ Q h;exact h
  |cons i r l =>
   intro d Q h;cases i with
   |code c=>exact l (by simpa[g7] using d) h
   |ops a b=>exact l (by simpa[g7] using d) h
   |blk j =>
    simp only[g7] at d;cases f:Nat.beq id j with
    |true=>simp[f] at d
    |false =>
     simp[f] at d;have g:id≠j:=λe=>by rw[e,ir] at f;cases f
     simp only[AK,g,aQ];exact l d h
 exact AW.exit (key h1 (AK.qu h2 k))
theorem AK.dN{φ:Fr}{σ:List ak}{A:Fr->List ak->Prop}{Qr:Post}{K a:List It}(k:Qr .ret φ σ) :
  AK X N (λe φ' σ'=>match e with
   |.normal=>A φ' σ'
   |e=>AK X N Qr a e φ' σ') (.code .ret::K) .normal φ σ:=AK.ret (AK.nx (Qf:=Qr) k)
theorem AK.again{S:Type}{I:S->Prop}{fr:S->Fr}{st:S->List ak}{a:S->Nat}{x:S}{Qr:Post}(y:S){ps:List Prop}(b:ny φ (fr y)=some ps)(g:aa ps)(f:I y)(c:a y<a x)(d:σ=st y) :
  AK X N (λe φ' σ'=>match e with
   |.normal=>∃ y,I y/\a y<a x/\nz φ' (fr y)/\σ'=st y
   |e=>Qr e φ' σ') [] .normal φ σ:=⟨y,f,c,cg b g,d⟩
theorem AK.qv{S:Type}{c:Code}(I:S->Prop)(fr:S->Fr)(st:S->List ak)(a:S->Nat)(x:S){ps:List Prop}(b:ny φ (fr x)=some ps)(g:aa ps)(f:I x)(d:st x=σ)
  (round:∀ x,I x->AK X N (λe φ' σ'=>match e with
   |.normal=>∃ y,I y/\a y<a x/\nz φ' (fr y)/\σ'=st y
   |e=>AK X N Qf K e φ' σ') [.code c] .normal (fr x) (st x)):AK X N Qf (.code (.loop c)::K) .normal φ σ :=
 AK.loop I fr st a x f (cg b g) d round
def Fits(args:List D)(σ:List ak):Prop:=∃ s vs,bX σ s vs args/\ag σ s
theorem Fits.at{args:List D}{σ:List ak}(h:Fits args σ){j:Nat}{d:D}(hj:args[j]?=some d):∃ s v,cd σ s v d:=by
 obtain⟨s,vs,b,_⟩:=h;obtain⟨_,a⟩:=bX.get b;have:=a j;rw[hj] at this;exact⟨s,_,this⟩
theorem Fits.str{args:List D}{σ:List ak}(h:Fits args σ)(j:Nat){l:List UInt8}(hj:args[j]?=some (.e (.one (.c (.str l))))):l.length<=9223372036854775807:=by
 obtain⟨s,v,a⟩:=h.at hj;cases ei a with
 |str h hl=>exact hl
theorem Fits.sl{args:List D}{σ:List ak}(h:Fits args σ)(j:Nat){t:Bool}{k n:Nat}{es:Nat->List C}(hj:args[j]?=some (.e (.one (.c (.sl t k n es))))):n<=9223372036854775807:=by
 obtain⟨s,v,d⟩:=h.at hj;cases ei d with
 |sl b off f a g=>omega
theorem Ev.body{f:FuncId}{fn:Func}{c:Code}{args:List D}{σ σ':List ak}{res:D}(e:P.funcs[f]?=some fn)(a:(fn.name== "runtime.NumGoroutine")=false)(d:fn.body=some c)(b:Nat.ble args.length fn.ntmps=true)
  (h:Fits args σ->AK X fn.ntmps (aR fn σ.length res σ') [.code c] .normal (iO 0 args) σ):Ev X f args σ res σ':=by
 refine⟨⟨fn,e,a,by rw[d];rfl⟩,λs vs hr hh=>?_⟩
 exact(Ev.intro e a d (c6 b) (AK.of_code (h ⟨s,vs,hr,hh⟩))).2 s vs hr hh
theorem AK.join{c:Code}{b:List It}(φ':Fr)(σ':List ak)(h:(∀ (a:Fr)(ps:List Prop),ny a φ'=some ps->aa ps->AK X N Qf (.code c::b) .normal a σ')->AK X N Qf K .normal φ σ)
  (k:AK X N Qf (.code c::b) .normal φ' σ'):AK X N Qf K .normal φ σ :=
 h λ_ _ h1 h2=>AW.le k (cg h1 h2)
end
end Go.AM
