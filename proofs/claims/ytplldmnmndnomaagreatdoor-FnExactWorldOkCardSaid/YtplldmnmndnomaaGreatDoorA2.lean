/-
  Part 2 of a machine of values without memory, proved sound over the model, and of contracts of the functions that the laws reach. Nothing is taken for granted: no condition.
-/
import Derived.Test.YtplldmnmndnomaaGreatDoorA1
import Derived.Lib.Strings
import Derived.Laws.Slices
import Derived.Orders
import Derived.Laws.StructEq
set_option linter.unusedVariables false
set_option linter.unusedSimpArgs false
set_option linter.defProp false
set_option linter.deprecated false
namespace Go.AM
open Go.Conc (G)
def ay(n:Nat)(f g:Nat->List C):Prop:=∀ i,i<n->f i=g i
theorem Flat.x4{M:Mem}{k n:Nat}{es es':Nat->List C}{vs:List Value}(h:Flat M k n es vs)(a:ay n es es'):Flat M k n es' vs :=
 ⟨h.len,λi hi=>by rw[<-a i hi];exact h.width i hi,λi hi j c hj=>h.rd i hi j c (by rw[a i hi];exact hj)⟩
def P5:C->C->Option (List Prop)
 |.int k n,.int k' n'=>match Bv k k' with|true=>some [n=n']|false=>none
 |.bool b,.bool b'=>some [b=b']
 |.str s,.str s'=>some [s=s']
 |.sl t k n es,.sl t' k' n' es'=>match Nat.beq k k' with
  |true=>match t,t' with
   |false,true=>none
   |_,_=>some [n=n',ay n es es']
  |false=>match t,t' with
   |true,_=>some [n=0,n'=0]
   |_,_=>none
 |.val x,.val y=>some [x=y]
 |x,y=>some [x=y]
theorem Kd{M:Mem}{v:Value}{x y:C}{ps:List Prop}(h:P5 x y=some ps)(c:aa ps)(r:Rd M v x):Rd M v y:=by
 unfold P5 at h;split at h
 ·rename_i k n k' n'
  cases d:Bv k k' <;> simp[d] at h
  subst h;cases uU d;cases (show n=n' from c)
  exact r
 ·cases h;rename_i b f;cases (show b=f from c);exact r
 ·cases h;rename_i b f;cases (show b=f from c);exact r
 ·rename_i t k n es t' k' n' es'
  cases d:Nat.beq k k' with
  |true =>
   simp only[d] at h;have e:=bk d;subst e;cases t <;> cases t' <;> simp at h
   all_goals (subst h;obtain⟨rfl,g⟩:=(show n=n'/\ay n es es' from c);first|exact r.x4 g|exact r.loose.x4 g)
  |false =>
   simp only[d] at h;cases t <;> simp at h
   subst h;obtain⟨rfl,rfl⟩:=(show n=0/\n'=0 from c)
   obtain⟨a,cap,vs,rfl,_,_,i,_⟩:=r.flat;have:=i rfl;subst this;exact Rd.iS
 ·cases h;rename_i x y;cases (show x=y from c);exact r
 ·cases h;cases c;exact r
def M3:A->A->Option (List Prop)
 |.c x,.c y=>P5 x y
 |.vec _ k n es,.c (.sl false k' n' es')=>match Nat.beq k k' with|true=>some [n=n',ay n es es']|false=>none
 |.vec l k n es,.vec l' k' n' es'=>match Nat.beq l l' with
  |true=>match Nat.beq k k' with|true=>some [n=n',ay n es es']|false=>none
  |false=>none
 |.ptr l o,.ptr l' o'=>match Nat.beq l l' with|true=>(match Nat.beq o o' with|true=>some []|false=>none)|false=>none
 |.ref l,.ref l'=>match Nat.beq l l' with|true=>some []|false=>none
 |.bp l w,.bp l' w'=>match Nat.beq l l' with|true=>some [w=w']|false=>none
 |_,.any=>some []
 |_,_=>none
theorem DW{σ:List ak}{s:St}{v:Value}{x y:A}{ps:List Prop}(h:M3 x y=some ps)(d:aa ps)(r:eQ σ s v x):eQ σ s v y:=by
 unfold M3 at h;split at h
 ·exact Kd h d r
 ·rename_i k n es k' n' es'
  cases b:Nat.beq k k' <;> simp[b] at h
  subst h;have e:=bk b;subst e;obtain⟨rfl,f⟩:=(show n=n'/\ay n es es' from d)
  exact r.1.x4 f
 ·rename_i l k n es l' k' n' es'
  cases a:Nat.beq l l' <;> simp[a] at h
  cases b:Nat.beq k k' <;> simp[b] at h
  subst h;have e:=bk b;have c:=bk a;subst e c;obtain⟨rfl,f⟩:=(show n=n'/\ay n es es' from d)
  exact⟨r.1.x4 f,r.2.1,r.2.2⟩
 ·rename_i l o l' o'
  cases a:Nat.beq l l' <;> simp[a] at h
  cases b:Nat.beq o o' <;> simp[b] at h
  have e:=bk b;have c:=bk a;subst e c;exact r
 ·rename_i l l'
  cases a:Nat.beq l l' <;> simp[a] at h
  have c:=bk a;subst c;exact r
 ·rename_i l w l' w'
  cases a:Nat.beq l l' <;> simp[a] at h
  have c:=bk a;subst c;subst h;cases (show w=w' from d)
  exact r
 ·exact eQ.cell r
 ·cases h
def iZ:List Prop->List Prop->List Prop
 |[],q=>q
 |p::r,q=>p::iZ r q
theorem aa.cat{p q:List Prop}:aa (iZ p q)↔aa p/\aa q:=by
 induction p with
 |nil=>simp[iZ,aa]
 |cons x r a=>simp only[iZ,aa.cons,a,and_assoc]
def I8:List A->List A->Option (List Prop)
 |[],[]=>some []
 |a::al,b::bs=>match M3 a b with
  |some p=>match I8 al bs with
   |some q=>some (iZ p q)
   |none=>none
  |none=>none
 |_,_=>none
theorem yv{σ:List ak}{s:St}:∀ {vs:List Value}{xs ys:List A}{ps:List Prop},I8 xs ys=some ps->aa ps->cu σ s vs xs->cu σ s vs ys
 |[],[],[],_,_,_,_=>trivial
 |_::_,[],_,_,_,_,h=>h.elim
 |[],_::_,_,_,_,_,h=>h.elim
 |[],[],_::_,_,h,_,_=>by simp[I8] at h
 |_::_,_::_,[],_,h,_,_=>by simp[I8] at h
 |v::vs,a::al,b::bs,ps,h,e,f=>by
  simp only[I8] at h;cases c:M3 a b with
  |none=>simp[c] at h
  |some p =>
   cases d:I8 al bs with
   |none=>simp[c,d] at h
   |some q =>
    simp[c,d] at h;subst h;rw[aa.cat] at e;exact⟨DW c e.1 f.1,yv d e.2 f.2⟩
def M4:E1->E1->Option (List Prop)
 |.one a,.one b=>M3 a b
 |.agg al,.agg bs=>I8 al bs
 |_,_=>none
theorem DX{σ:List ak}{s:St}{v:Value}{x y:E1}{ps:List Prop}(h:M4 x y=some ps)(a:aa ps)(r:jr σ s v x):jr σ s v y:=by
 cases x <;> cases y <;> simp only[M4,reduceCtorEq] at h
 ·exact DW h a r
 ·obtain⟨vs,c,b⟩:=r;exact⟨vs,c,yv h a b⟩
def yx:List E1->List E1->Option (List Prop)
 |[],[]=>some []
 |a::al,b::bs=>match M4 a b with
  |some p=>match yx al bs with
   |some q=>some (iZ p q)
   |none=>none
  |none=>none
 |_,_=>none
theorem Al{σ:List ak}{s:St}:∀ {vs:List Value}{xs ys:List E1}{ps:List Prop},yx xs ys=some ps->aa ps->dX σ s vs xs->dX σ s vs ys
 |[],[],[],_,_,_,_=>trivial
 |_::_,[],_,_,_,_,h=>h.elim
 |[],_::_,_,_,_,_,h=>h.elim
 |[],[],_::_,_,h,_,_=>by simp[yx] at h
 |_::_,_::_,[],_,h,_,_=>by simp[yx] at h
 |v::vs,a::al,b::bs,ps,h,e,f=>by
  simp only[yx] at h;cases c:M4 a b with
  |none=>simp[c] at h
  |some p =>
   cases d:yx al bs with
   |none=>simp[c,d] at h
   |some q =>
    simp[c,d] at h;subst h;rw[aa.cat] at e;exact⟨DX c e.1 f.1,Al d e.2 f.2⟩
def Dh:D->D->Option (List Prop)
 |.e x,.e y=>M4 x y
 |.eD xs,.eD ys=>yx xs ys
 |_,.any=>some []
 |_,_=>none
theorem qO{σ:List ak}{s:St}{v:Value}{x y:D}{ps:List Prop}(h:Dh x y=some ps)(a:aa ps)(r:b5 σ s v x):b5 σ s v y:=by
 cases x <;> cases y <;> simp only[Dh,reduceCtorEq] at h
 ·exact DX h a r
 ·trivial
 ·obtain⟨vs,c,b⟩:=r;exact⟨vs,c,Al h a b⟩
 ·trivial
 ·trivial
def nS(φ:Fr):Fr->Option (List Prop)
 |[]=>some []
 |(i,d)::r=>match Dh (look φ i) d with
  |some p=>match nS φ r with
   |some q=>some (iZ p q)
   |none=>none
  |none=>none
theorem cm{φ:Fr}:∀ {φ':Fr}{ps:List Prop},nS φ φ'=some ps->aa ps->nT φ φ'
 |[],_,_,_=>λ_ _ _ _ _=>trivial
 |(i,d)::r,ps,h,b=>by
  simp only[nS] at h;cases a:Dh (look φ i) d with
  |none=>simp[a] at h
  |some p =>
   cases c:nS φ r with
   |none=>simp[a,c] at h
   |some q =>
    simp[a,c] at h;subst h;rw[aa.cat] at b;intro σ s v t f;simp only[look];cases g:Nat.beq i t with
    |true =>
     have e:=bk g;subst e;exact qO a b.1 f
    |false=>exact cm c b.2 σ s v t f
def jZ(σ:List ak):Bool:=match cr σ with|true=>kp σ|false=>false
theorem sU{σ:List ak}(h:jZ σ=true):cr σ=true/\kp σ=true:=by
 unfold jZ at h;split at h
 ·rename_i a;exact⟨a,h⟩
 ·cases h
theorem j0.sS{σ:List ak}{s:St}:∀ {ds:List Deferred}{a:List Nat},j0 σ s ds a->∀ l∈a,σ[l]?=some .oc
 |[],[],_,l,hl=>by simp at hl
 |[],_::_,r,_,_=>r.elim
 |_::_,[],r,_,_=>r.elim
 |d::ds,c::a,⟨⟨h1,_⟩,_,b⟩,l,hl=>by
  rcases dy.1 hl with rfl|hl
  ·exact h1
  ·exact j0.sS b l hl
def aW(fn:Func)(a:Nat)(res:D)(σ':List ak):Post:=λe φ σ1 =>
 (e=.ret∨e=.normal)/\∃ ks ds d ps,sa φ fn.results.toList=some ds/\nB ds=some d/\Dh d (iC ks res)=some ps/\aa ps/\ux ks.length res=true /\
  iW ks σ1=some σ'/\jZ σ'=true/\dk ks=true/\(∀ j,j<a->ks[j]?=some j)
def vT(P:Program)(fn:Func)(a:Nat)(res:D)(σ':List ak):Post:=λe φ σ1 =>
 (e=.ret∨e=.normal)/\∃ ks d ps,vS P fn φ d/\Dh d (iC ks res)=some ps/\aa ps/\ux ks.length res=true /\
  iW ks σ1=some σ'/\jZ σ'=true/\dk ks=true/\(∀ j,j<a->ks[j]?=some j)
theorem aW.T5{P:Program}{fn:Func}{a:Nat}{res:D}{σ':List ak}{e:Exit}{φ:Fr}{σ1:List ak}(h:aW fn a res σ' e φ σ1):vT P fn a res σ' e φ σ1:=by
 obtain⟨b,ks,ds,d,ps,h1,h2,c⟩:=h;exact⟨b,ks,d,ps,vS.of h1 h2,c⟩
theorem fb.DY{P:Program}{ι:Type}{X:Cx P}{f:FuncId}{fn:Func}{c:Code}{args:List D}{σ:List ak}{σ':ι->List ak}{res:ι->D}(hf:P.funcs[f]?=some fn)(E:(fn.name== "runtime.NumGoroutine")=false)(m:fn.body=some c)(hlen:args.length<=fn.ntmps)
  (h:∀ s a,bg fn.ntmps σ s (gC 0 args) a->ag σ s->∀ (b:Frame) (k:List Item) (cs:List Frame) (S:Goroutine->St->Prop),b.kind≠.early->b.roundOf=none ->
  (∀ e φ' σ1 s' a',(∃ j,vT P fn σ.length (res j) (σ' j) e φ' σ1)->bg fn.ntmps σ1 s' φ' a'->ag σ1 s'->bq σ s σ1 s'->ends X S b k cs e a' s')->db X S (G (b.aT a (.code c::k)) cs) s):fb X f args σ res σ':=by
 refine⟨⟨fn,hf,E,by rw[m];rfl⟩,λs vs hr hh S cs hS=>?_⟩
 obtain⟨hl,hg⟩:=bZ.get hr
 let b:Frame:={ fn:=f,tmps:=#[],todo:=[],defers:=[],mode:=.run,kind:=.normal,roundOf:=none }
 have A:Frame.enter P f vs.toArray .normal=b.aT { tmps:=vs.toArray++Array.replicate (fn.ntmps-vs.toArray.size) undef,defers:=[] } [.code c]:=by
  simp[Frame.enter,Frame.aT,hf,m,b]
 rw[A];refine h s { tmps:=vs.toArray++Array.replicate (fn.ntmps-vs.toArray.size) undef,defers:=[] } ⟨by simp;omega,⟨[],ab⟩,λt=>?_⟩ hh b [] cs S (by simp[b]) rfl ?_
 ·rw[kY];simp only[kS,aV,jy];have:=hg t;rcases bC t vs.length with Y|LI
  ·have e:(vs.toArray++Array.replicate (fn.ntmps-vs.toArray.size) undef).getD t undef=(vs[t]?).getD undef:=by
    simp only[bA];rw[tQ (by simpa using Y)]
    simp
   rw[e];exact this
  ·rw[iL (by omega)]
   trivial
 ·rintro e φ' σ1 s1 a1 ⟨T,W,ks,d,ps,h1,h3,h4,h5,V,P6,h8,h9⟩ f' Q st;obtain⟨h7,Z⟩:=sU P6;have fin:∀ (fr:Frame) s2,aX s1 s2->fr.fn=f->fr.tmps=a1.tmps->fr.defers=a1.defers->fr.mode=.returning->fr.kind=.normal->db X S (G fr cs) s2:=by
   intro fr s2 nQ e1 e2 e3 e4 e5;have f2:=f'.rely nQ Q;have p:=Q.rely nQ;have g:=st.trans nQ.stepW;obtain⟨v,r2,r1⟩:=h1 f2;obtain⟨i,z⟩:=ur (l':=s2.β) V p.len;have r4:=(qO h3 h4 r2).sub V z h5;obtain⟨c1,c2⟩:=fj V;obtain⟨d1,d2⟩:=fj z;have C:∀ L∈i,L∈s2.β:=uz z;have F:ag (σ' T) { s2 with β:=i }:=by
    obtain⟨g1,_⟩:=p.sub V z h7 h8;refine⟨g1.mem,g1.len,λj B L H r=>?_,g1.eE,g1.lt,λb m=>⟨(p.own b m).1,λL r=>(p.own b m).2 L (C L r)⟩⟩
    exact dq.plain (σ:=σ' T) (s:={ s2 with β:=i,own:=uy s2 i }) (s':={ s2 with β:=i }) rfl rfl (hJ h7 B (aG H)) (g1.box j B L H r)
   have Hl:bq σ s (σ' T) { s2 with β:=i }:=by
    refine⟨g.size,g.ee,g.mem,g.gJ,λL r b m=>g.pT _ (C L r) b m,λl B L H r=>?_,g.os,g.tape,g.output,g.own⟩
    have hl:l<σ.length:=(aE.1 H).1;obtain⟨B',L',p1,p2,p3⟩:=g.box l B L H r;obtain⟨x,x1,O⟩:=c2 l l (h9 l hl);obtain⟨y,R,U⟩:=d2 l l (h9 l hl);rw[p1] at O;cases O;rw[p2] at U;cases U;exact⟨B',L',x1,R,p3⟩
   obtain⟨ls,I⟩:=f2.defers;refine mY ls fr s2 _ p.jF (by simp) e4 (by rw[e3];exact I.taken p) λN n=>?_
   have q:aX { s2 with β:=i } { N with β:=i }:=by
    refine⟨rfl,n.M,n.own,n.size,λb m=>n.ee b (m.imp id ?_),n.mem,n.os,n.tape,n.output⟩
    rintro⟨L,r,m⟩;obtain⟨j,hj,rfl⟩:=dH r;have J:j<ks.length:=by rw[<-d1];exact hj
    obtain⟨y,R,U⟩:=d2 j _ (aj J);obtain⟨x,x1,O⟩:=c2 j _ (aj J);rw[aj hj] at R;cases R;refine⟨_,_,U,λhc=>?_,m⟩
    rw[I.sS _ hc] at O;cases O;exact kq Z _ (aG x1) rfl
   have hG:er N { N with β:=i }:=⟨rfl,λ_ _ _ h=>h,λ_ _ _=>rfl,λb o v hv=>n.mem b o v (by rw[<-n.M];exact hv),λb m=>m.imp id λ⟨L,r,m⟩=>⟨L,by rw[n.β];exact C L r,m⟩⟩
   refine .ghost hG (hS T _ v _ ⟨e1,e4,rfl,e5,fn,by show P.funcs[fr.fn]?=_;rw[e1];exact hf,λw hw=>?_⟩ (r4.mono q.stepW.ext F.len) (F.rely q) (Hl.trans q.stepW))
   show (results fn fr.tmps).run P w=_/\∀ e∈(results fn fr.tmps).events P w #[],_;rw[e2];have K:∀ b o u,s2.M b o=some u->w.cell? ⟨b,o,none⟩=some u:=λb o u h=>hw b o u (by show N.M b o=some u;rw[n.M];exact h)
   refine⟨(r1 w K).1,λe W=>?_⟩
   obtain⟨b,o,u,q1,q2⟩:=(r1 w K).2 e W;exact⟨b,o,u,q1,by show N.M b o=some u;rw[n.M];exact q2⟩
  rcases W with rfl|rfl
  ·intro pre;exact .ctl Q rfl (λ_=>x6 rfl) λs2 nQ=>fin _ s2 nQ rfl rfl (gH _) rfl rfl
  ·exact .ctl Q rfl (λ_=>x7 rfl) λs2 nQ=>fin _ s2 nQ rfl rfl (gH _) rfl rfl
theorem fb.I7{P:Program}{ι:Type}{X:Cx P}{f:FuncId}{fn:Func}{c:Code}{args:List D}{σ:List ak}{σ':ι->List ak}{res:ι->D}(i:P.funcs[f]?=some fn)(d:(fn.name== "runtime.NumGoroutine")=false)(l:fn.body=some c)(g:args.length<=fn.ntmps)
  (h:∀ s a,bg fn.ntmps σ s (gC 0 args) a->ag σ s->∀ (b:Frame) (k:List Item) (cs:List Frame) (S:Goroutine->St->Prop),b.kind≠.early->b.roundOf=none ->
  (∀ e φ' σ1 s' a',(∃ j,aW fn σ.length (res j) (σ' j) e φ' σ1)->bg fn.ntmps σ1 s' φ' a'->ag σ1 s'->bq σ s σ1 s'->ends X S b k cs e a' s')->db X S (G (b.aT a (.code c::k)) cs) s):fb X f args σ res σ' :=
 fb.DY i d l g λs a f hh b k cs S h1 h2 hQ=>h s a f hh b k cs S h1 h2 λe φ' σ1 s' a' ⟨j,q⟩=>hQ e φ' σ1 s' a' ⟨j,q.T5⟩
theorem fb.JI{P:Program}{ι:Type}{X:Cx P}{f:FuncId}{fn:Func}{c:Code}{args:List D}{σ:List ak}{σ':ι->List ak}{res:ι->D}(l:P.funcs[f]?=some fn)(d:(fn.name== "runtime.NumGoroutine")=false)(i:fn.body=some c)(g:args.length<=fn.ntmps)
  (h:AW X fn.ntmps c (λe φ σ1=>∃ j,vT P fn σ.length (res j) (σ' j) e φ σ1) (gC 0 args) σ):fb X f args σ res σ' :=
 fb.DY l d i g λs a f hh b k cs S n _ m=>h s a f hh b k cs S n m
theorem fb.intro{P:Program}{ι:Type}{X:Cx P}{f:FuncId}{fn:Func}{c:Code}{args:List D}{σ:List ak}{σ':ι->List ak}{res:ι->D}(l:P.funcs[f]?=some fn)(d:(fn.name== "runtime.NumGoroutine")=false)(i:fn.body=some c)(g:args.length<=fn.ntmps)
  (h:AW X fn.ntmps c (λe φ σ1=>∃ j,aW fn σ.length (res j) (σ' j) e φ σ1) (gC 0 args) σ):fb X f args σ res σ' :=
 fb.I7 l d i g λs a f hh b k cs S n _ m=>h s a f hh b k cs S n m
theorem Ev.intro{P:Program}{X:Cx P}{f:FuncId}{fn:Func}{c:Code}{args:List D}{σ σ':List ak}{res:D}(d:P.funcs[f]?=some fn)(a:(fn.name== "runtime.NumGoroutine")=false)(e:fn.body=some c)(b:args.length<=fn.ntmps)
  (h:AW X fn.ntmps c (aW fn σ.length res σ') (gC 0 args) σ):Ev X f args σ res σ' :=
 (fb.intro d a e b (AW.mono h λ_ _ _ q=>⟨(),q⟩)).Df
end Go.AM
namespace Go.AM
inductive It where
 |code (c:Code)
 |blk (id:Nat)
 |ops (all rest:List Oper)
def AK{P:Program}(X:Cx P)(N:Nat)(Qf:Post):List It->Post
 |[],e,φ,σ=>Qf e φ σ
 |.code c::K,.normal,φ,σ=>AW X N c (AK X N Qf K) φ σ
 |.code _::K,e,φ,σ=>AK X N Qf K e φ σ
 |.blk id::K,.exit CW,φ,σ=>if CW=id then AK X N Qf K .normal φ σ else AK X N Qf K (.exit CW) φ σ
 |.blk _::K,e,φ,σ=>AK X N Qf K e φ σ
 |.ops all rest::K,.normal,φ,σ=>gA X N all rest (AK X N Qf K .normal) φ σ
 |.ops _ _::K,e,φ,σ=>AK X N Qf K e φ σ
section
variable {P:Program}{X:Cx P}{N:Nat}{Qf:Post}{K:List It}{φ:Fr}{σ:List ak}
theorem AK.of_code{c:Code}(h:AK X N Qf [.code c] .normal φ σ):AW X N c Qf φ σ:=h
theorem AK.skip(h:AK X N Qf K .normal φ σ):AK X N Qf (.code .skip::K) .normal φ σ:=AW.skip h
theorem AK.seq{x y:Code}(h:AK X N Qf (.code x::.code y::K) .normal φ σ):AK X N Qf (.code (.seq x y)::K) .normal φ σ:=by
 refine AW.seq (AW.mono h ?_);intro e φ' σ' q;cases e <;> exact q
theorem AK.block{id:Nat}{c:Code}(h:AK X N Qf (.code c::.blk id::K) .normal φ σ):AK X N Qf (.code (.block id c)::K) .normal φ σ:=by
 refine AW.block (AW.mono h ?_);intro e φ' σ' q;cases e <;> exact q
theorem AK.Kl{id:Nat}(h:AK X N Qf K .normal φ σ):AK X N Qf (.blk id::K) .normal φ σ:=h
theorem AK.region{id:Nat}{ops:Array Oper}(h:AK X N Qf (.ops ops.toList ops.toList::K) .normal φ σ):AK X N Qf (.code (.region id ops false)::K) .normal φ σ:=AW.region h
theorem AK.Km{all:List Oper}(h:AK X N Qf K .normal φ σ):AK X N Qf (.ops all []::K) .normal φ σ:=gA.nil h
theorem AK.nR:∀ {K:List It},Qf .ret φ σ->AK X N Qf K .ret φ σ
 |[],h=>h
 |.code _::K,h=>AK.nR (K:=K) h
 |.blk _::K,h=>AK.nR (K:=K) h
 |.ops _ _::K,h=>AK.nR (K:=K) h
theorem AK.ret(h:Qf .ret φ σ):AK X N Qf (.code .ret::K) .normal φ σ:=AW.ret (AK.nR h)
def hY(id:Nat):List It->Option (List It)
 |[]=>none
 |.blk i::K=>match Nat.beq id i with|true=>some K|false=>hY id K
 |_::K=>hY id K
theorem AK.qP{id:Nat}:∀ {K a:List It},hY id K=some a->AK X N Qf a .normal φ σ->AK X N Qf K (.exit id) φ σ
 |[],_,h,_=>by cases h
 |.blk i::K,a,h,q=>by
  simp only[hY] at h;cases b:Nat.beq id i with
  |true =>
   simp[b] at h;subst h;have e:=bk b;simp only[AK,e,aV];exact q
  |false =>
   simp[b] at h;have c:id≠i:=λe=>by rw[e,jX] at b;cases b
   simp only[AK,c,aM];exact AK.qP h q
 |.code _::K,a,h,q=>AK.qP (K:=K) h q
 |.ops _ _::K,a,h,q=>AK.qP (K:=K) h q
theorem AK.exit{id:Nat}{a:List It}(b:hY id K=some a)(h:AK X N Qf a .normal φ σ):AK X N Qf (.code (.exit id)::K) .normal φ σ:=AW.exit (AK.qP b h)
theorem AK.cond{c:Operand}{x y:Code}{b:Bool}{t:Nat}(d:c=.tmp t)(hl:look φ t=.e (.one (.c (.bool b))))
  (a:b=true->AK X N Qf (.code x::K) .normal φ σ) (f:b=false->AK X N Qf (.code y::K) .normal φ σ):AK X N Qf (.code (.cond c x y)::K) .normal φ σ:=AW.cond d hl a f
theorem AK.loop{S:Type}{c:Code}(I:S->Prop)(fr:S->Fr)(st:S->List ak)(a:S->Nat)(x:S)(g:I x)(d:nT φ (fr x))(b:st x=σ)
  (round:∀ x,I x->AK X N (λe φ' σ'=>match e with
   |.normal=>∃ y,I y/\a y<a x/\nT φ' (fr y)/\σ'=st y
   |e=>AK X N Qf K e φ' σ') [.code c] .normal (fr x) (st x)):AK X N Qf (.code (.loop c)::K) .normal φ σ:=by
 refine AW.loop I fr st a x g d b λy f=>AW.mono (round y f) ?_
 intro e φ' σ' q;cases e <;> exact q
end
def b6{α a:Type}:List α->(List α->Option a)->Option a
 |[],k=>k []
 |x::r,k=>b6 r λq=>k (x::q)
theorem bT{α b:Type}(l:List α)(k:List α->Option b):b6 l k=k l:=by
 induction l generalizing k with
 |nil=>rfl
 |cons x r a=>simp[b6,a]
def yj(φ:Fr)(all:List Oper)(j:Nat):Option (Option Bool) :=
 match en j all with
 |some oj=>match oj.dst with
  |some d=>match look φ d with
   |.e (.one (.c (.bool true)))=>some (some true)
   |.e (.one (.c (.bool false)))=>some (some false)
   |.eD []=>some none
   |_=>none
  |none=>none
 |none=>none
theorem sR{N:Nat}{φ:Fr}{all:List Oper}{j:Nat}{r:Option Bool}(h:yj φ all j=some r){σ:List ak}{s:St}{a:Act}(f:bg N σ s φ a):yielded all.toArray a.tmps j=r:=by
 unfold yj at h;rw[dg] at h;unfold yielded;cases l:all[j]? with
 |none=>simp[l] at h
 |some oj =>
  simp only[l] at h;simp only[gb,l,kN];cases o:oj.dst with
  |none=>simp[o] at h
  |some d =>
   simp only[o] at h;simp only[kN];have e:=f.slot d;have key:∀ v,a.tmps.getD d undef=v->v≠undef->a.tmps[d]?=some v:=by
    intro v c m;simp only[bA] at c;cases i:a.tmps[d]? with
    |none=>rw[i] at c;exact absurd c.symm m
    |some u=>rw[i] at c;simp at c;rw[c]
   split at h
   ·rename_i g
    cases h;rw[g] at e;have b:=eB e;generalize c:a.tmps.getD d undef=v at b;cases b;rw[key _ c (by simp[undef])]
   ·rename_i g
    cases h;rw[g] at e;have b:=eB e;generalize c:a.tmps.getD d undef=v at b;cases b;rw[key _ c (by simp[undef])]
   ·rename_i g
    cases h;rw[g] at e;obtain⟨vs,k,p⟩:=e;have n:vs=[]:=by cases vs with
     |nil=>rfl
     |cons _ _=>exact p.elim
    subst n;simp only[bA] at k;cases i:a.tmps[d]? with
    |none=>rfl
    |some u =>
     rw[i] at k;simp at k;subst k;rfl
   ·cases h
def Ox(T:List (Nat×TI))(φ:Fr)(σ:List ak)(o:Oper):Option (D×List ak×List Prop) :=
 match o.op with
 |.move x|.assign x=>some (bz φ x,σ,[])
 |.pick c a b=>match bz φ c with
  |.e (.one (.c (.bool true)))=>some (bz φ a,σ,[])
  |.e (.one (.c (.bool false)))=>some (bz φ b,σ,[])
  |_=>none
 |.binOp op _ x y _=>match bz φ x,bz φ y with
  |.e (.one (.c a)),.e (.one (.c b))=>match G1 op a b with
   |some (c,obs)=>some (.e (.one (.c c)),σ,obs)
   |none=>none
  |_,_=>none
 |.unOp op _ x=>match bz φ x with
  |.e (.one (.c a))=>match Ow op a with
   |some c=>some (.e (.one (.c c)),σ,[])
   |none=>none
  |_=>none
 |.extract x j=>match bz φ x with
  |.eD xs=>match en j xs with
   |some e=>some (.e e,σ,[])
   |none=>none
  |_=>none
 |.alloc E=>match aJ T E with
  |some i=>b6 (σ++[.cells E (i.zero.map A.c)]) λσ'=>some (.e (.one (.ptr σ.length 0)),σ',[])
  |none=>none
 |.box E x=>match k7 (bz φ x) with
  |some cs=>b6 (σ++[.cells E cs]) λσ'=>some (.e (.one (.ptr σ.length 0)),σ',[])
  |none=>none
 |.load t x=>match aJ T t with
  |some i=>match bz φ x with
   |.e (.one (.ptr l off))=>match en l σ with
    |some (.cells _ cs)=>match ki i (eR off cs) with
     |some e=>some (.e e,σ,[])
     |none=>none
    |_=>none
   |.e (.one (.c (.rp cs)))=>match ki i (cs.map A.c) with
    |some e=>some (.e e,σ,[])
    |none=>none
   |_=>none
  |none=>none
 |.store t x y=>match aJ T t with
  |some i=>match bz φ x with
   |.e (.one (.ptr l off))=>match en l σ with
    |some (.cells E cs)=>match k7 (bz φ y) with
     |some new=>match Nat.beq new.length i.size with
      |true=>match dv off new cs with
       |some lN=>b6 (cU.po l (.cells E lN) σ) λσ'=>some (.any,σ',[])
       |none=>none
      |false=>none
     |none=>none
    |_=>none
   |_=>none
  |none=>none
 |.fieldAddr t x f=>match gh T t f with
  |some (k,_)=>match bz φ x with
   |.e (.one (.ptr l off))=>some (.e (.one (.ptr l (off+k))),σ,[])
   |.e (.one (.c (.rp cs)))=>some (.e (.one (.c (.rp (eR k cs)))),σ,[])
   |_=>none
  |none=>none
 |.field t x f=>match gh T t f with
  |some (k,j)=>match bz φ x with
   |.e (.agg cs)=>match ki j (eR k cs) with
    |some e=>some (.e e,σ,[])
    |none=>none
   |_=>none
  |none=>none
 |.nilCheck x=>match bz φ x with
  |.e (.one (.ptr l off))=>some (.e (.one (.ptr l off)),σ,[])
  |.e (.one (.c (.rp cs)))=>some (.e (.one (.c (.rp cs))),σ,[])
  |_=>none
 |.build t parts=>match uI T (bz φ) t parts.toList with
  |some cs=>some (.e (.agg cs),σ,[])
  |none=>none
 |.buildSlice t n parts=>match G2 T (bz φ) t n parts.toList with
  |some (k,es)=>some (.e (.one (.c (.sl true k n λi=>es.getD i []))),σ,[])
  |none=>none
 |_=>none
theorem yl{P:Program}{T:List (Nat×TI)}(m:bX P T){φ:Fr}{σ σ':List ak}{o:Oper}{x:D}{obs:List Prop}(h:Ox T φ σ o=some (x,σ',obs))(v:aa obs):aH P o (bz φ) σ x σ':=by
 unfold Ox at h;split at h
 ·rename_i y d
  cases h;exact aH.move d
 ·rename_i y d
  cases h;exact aH.assign d
 ·rename_i c a b d
  split at h
  ·rename_i g;cases h;exact aH.pick d g
  ·rename_i g;cases h;exact aH.pick d g
  ·cases h
 ·rename_i op t y z ty d
  split at h
  ·rename_i a b s r
   split at h
   ·rename_i c u g;cases h;exact aH.binOp d s r g v
   ·cases h
  ·cases h
 ·rename_i op t y d
  split at h
  ·rename_i a s
   split at h
   ·rename_i c g;cases h;exact aH.unOp d s g
   ·cases h
  ·cases h
 ·rename_i y j d
  split at h
  ·rename_i xs hx
   split at h
   ·rename_i e w;cases h;exact aH.extract d hx (cT w)
   ·cases h
  ·cases h
 ·rename_i E d
  split at h
  ·rename_i i hi;rw[bT] at h;cases h;exact aH.alloc m d hi
  ·cases h
 ·rename_i E y d
  split at h
  ·rename_i cs g;rw[bT] at h;cases h;exact aH.box d g
  ·cases h
 ·rename_i t y d
  split at h
  ·rename_i i hi
   split at h
   ·rename_i l off hx
    split at h
    ·rename_i E cs hB
     split at h
     ·rename_i e p;cases h;exact aH.Ad m d hx (cT hB) hi p
     ·cases h
    ·cases h
   ·rename_i cs hx
    split at h
    ·rename_i e p;cases h;exact aH.DC m d hx hi p
    ·cases h
   ·cases h
  ·cases h
 ·rename_i t y z d
  split at h
  ·rename_i i hi
   split at h
   ·rename_i l off hx
    split at h
    ·rename_i E cs hB
     split at h
     ·rename_i new hn
      split at h
      ·rename_i r
       split at h
       ·rename_i B A
        rw[bT,jD] at h;cases h;exact aH.store m d hx (cT hB) hi hn (bk r) A
       ·cases h
      ·cases h
     ·cases h
    ·cases h
   ·cases h
  ·cases h
 ·rename_i t y f d
  split at h
  ·rename_i k j q
   split at h
   ·rename_i l off hx;cases h;exact aH.nL m d hx q
   ·rename_i cs hx;cases h;exact aH.oV m d hx q
   ·cases h
  ·cases h
 ·rename_i t y f d
  split at h
  ·rename_i k j q
   split at h
   ·rename_i cs hx
    split at h
    ·rename_i e p;cases h;exact aH.field m d hx q p
    ·cases h
   ·cases h
  ·cases h
 ·rename_i y d
  split at h
  ·rename_i l off hx;cases h;exact aH.oX d hx
  ·rename_i cs hx;cases h;exact aH.qI d hx
  ·cases h
 ·rename_i t parts d
  split at h
  ·rename_i cs g;cases h;exact aH.build m d g
  ·cases h
 ·rename_i t n parts d
  split at h
  ·rename_i k es g;cases h;exact aH.buildSlice m d g
  ·cases h
 ·cases h
def iu(N:Nat):Option Nat->Bool
 |some d=>Nat.ble (d+1) N
 |none=>true
theorem hO{N:Nat}{d:Option Nat}(h:iu N d=true):∀ t,d=some t->t<N:=by
 intro t a;subst a;exact cY h
theorem dr{all:List Oper}{o:Oper}(h:o.guard=none){a:Act}:Region.wanted o (yielded all.toArray a.tmps)=true:=by simp[Region.wanted,h]
section
variable {P:Program}{T:List (Nat×TI)}{o:Oper}{g:Operand->D}{σ:List ak}
def px(g:Operand->D):Option Operand->Option (Option Int)
 |none=>some none
 |some x=>match g x with
  |.e (.one (.c (.int _ j)))=>some (some j)
  |_=>none
theorem fM{s:St}{a:Operand->Value}(e:∀ y,b5 σ s (a y) (g y)){x:Option Operand}{b:Option Int}(h:px g x=some b):(x.map a=none/\b=none)∨∃ k j,x.map a=some (.int k j)/\b=some j:=by
 cases x with
 |none=>cases h;exact .inl ⟨rfl,rfl⟩
 |some y =>
  right
  simp only[px] at h;split at h
  ·rename_i k j c
   cases h;have:=e y;rw[c] at this;have:=eB this;generalize d:a y=v at this;cases this;exact⟨k,j,by simp[d],rfl⟩
  ·cases h
def cA(d:Nat):Option Int->Nat
 |none=>d
 |some j=>j.toNat
def il(n:Nat):Option Int->Option Int->List Prop
 |none,none=>[]
 |some l,none=>[0<=l,l<=n]
 |none,some h=>[0<=h,h<=n]
 |some l,some h=>[0<=l,l<=h,h<=n]
theorem kV{isS:Bool}{n cap:Nat}(q:n<=cap){lo hi:Option Value}{l h:Option Int}(i:(lo=none/\l=none)∨∃ k j,lo=some (.int k j)/\l=some j)(m:(hi=none/\h=none)∨∃ k j,hi=some (.int k j)/\h=some j)
  (b:aa (il n l h)) (w:World):(Instr.sliceBounds isS n cap lo hi none).run P w=.ok (cA 0 l,cA n h,cap) w/\cA 0 l<=cA n h/\cA n h<=n:=by
 rcases i with⟨rfl,rfl⟩|⟨d,l,rfl,rfl⟩ <;> rcases m with⟨rfl,rfl⟩|⟨f,h,rfl,rfl⟩
 ·exact⟨by simp[Instr.sliceBounds,cA],by simp[cA],by simp[cA]⟩
 ·obtain⟨a,c⟩:0<=h/\h<=(n:Int):=b;refine⟨?_,by simp[cA],by simp only[cA];omega⟩
  simp[Instr.sliceBounds,cA,run_sliceBound (P:=P) w f h cap _ a (by omega)]
 ·obtain⟨a,c⟩:0<=l/\l<=(n:Int):=b;refine⟨?_,by simp only[cA];omega,by simp[cA]⟩
  simp[Instr.sliceBounds,cA,run_sliceBound (P:=P) w d l n _ a c]
 ·obtain⟨a,c,p⟩:0<=l/\l<=h/\h<=(n:Int):=b;have e:((h.toNat:Nat):Int)=h:=ug (by omega)
  refine⟨?_,by simp only[cA];omega,by simp only[cA];omega⟩
  simp[Instr.sliceBounds,cA,run_sliceBound (P:=P) w f h cap _ (by omega) (by omega),run_sliceBound (P:=P) w d l h.toNat _ a (by omega)]
theorem eG(w:World)(k:IntKind) (i:Int)(y:Nat)(code:BoundsCode)(b:0<=i)(a:i<=(y:Int))(es:Array Event):(Instr.sliceBound (.int k i) y code).events P w es=es:=by
 simp[Instr.sliceBound,asIntOf,b,a]
theorem mf{isS:Bool}{n cap:Nat}{lo hi:Option Value}{l h:Option Int}(s:n<=cap)(m:(lo=none/\l=none)∨∃ k j,lo=some (.int k j)/\l=some j)(p:(hi=none/\h=none)∨∃ k j,hi=some (.int k j)/\h=some j)
  (b:aa (il n l h)) (w:World) (es:Array Event):(Instr.sliceBounds isS n cap lo hi none).events P w es=es:=by
 have r:∀ (isS:Bool) (v:Option Value) (d:Nat) (w:World) (es:Array Event),v=none->(Instr.sliceBounds isS n cap none none none).events P w es=es:=λisS v d w es _=>by simp[Instr.sliceBounds]
 rcases m with⟨rfl,rfl⟩|⟨i,l,rfl,rfl⟩ <;> rcases p with⟨rfl,rfl⟩|⟨c,h,rfl,rfl⟩
 ·simp[Instr.sliceBounds]
 ·obtain⟨a,f⟩:0<=h/\h<=(n:Int):=b;simp[Instr.sliceBounds,eG (P:=P) w c h cap _ a (by omega)]
 ·obtain⟨a,f⟩:0<=l/\l<=(n:Int):=b;simp[Instr.sliceBounds,eG (P:=P) w i l n _ a f]
 ·obtain⟨a,f,q⟩:0<=l/\l<=h/\h<=(n:Int):=b;have e:((h.toNat:Nat):Int)=h:=ug (by omega)
  simp[Instr.sliceBounds,run_sliceBound (P:=P) w c h cap _ (by omega) (by omega),eG (P:=P) w c h cap _ (by omega) (by omega),eG (P:=P) w i l h.toNat _ a (by omega)]
def nH(s:List UInt8):Option Int->Option Int->List UInt8
 |none,none=>s
 |some l,none=>s.drop l.toNat
 |none,some h=>s.take h.toNat
 |some l,some h=>(s.take h.toNat).drop l.toNat
theorem aH.Dx(B:bX P T){t:TypeId}{x:Operand}{lo hi:Option Operand}(h:o.op=.slice t x lo hi none){i:TI}(m:aJ T t=some i)(A:i.desc=.string){s:List UInt8}{l u:Option Int}
  (y:g x=.e (.one (.c (.str s)))) (hl:px g lo=some l) (q:px g hi=some u) (p:aa (il s.length l u)):aH P o g σ (.e (.one (.c (.str (nH s l u))))) σ:=by
 refine .quiet λst ρ hh hr=>?_
 have h1:=hr x;rw[y] at h1
 replace h1:=eB h1
 generalize j:ρ x=vx at h1;cases h1 with
 |@str sb _ v r =>
 have b:sb.size=s.length:=by rw[<-v];exact fx.symm
 obtain⟨z,d,f⟩:=kV (P:=P) (isS:=false) (n:=sb.size) (cap:=sb.size) (ar _) (fM hr hl) (fM hr q) (by rw[b];exact p) st.w
 have a:=(B t i m).run_underlying (w:=st.w);rw[A] at a;have k:=mf (P:=P) (isS:=false) (n:=sb.size) (cap:=sb.size) (ar _) (fM hr hl) (fM hr q) (by rw[b];exact p) st.w
 refine⟨.string (sb.extract (cA 0 l) (cA sb.size u)),?_,Rd.str ?_ ?_,by simp[execOp,h,j,Instr.sliceAt,a,Instr.slice,k]⟩
 ·simp[execOp,h,j,Instr.sliceAt,a,Instr.slice,z]
 ·rw[Lib.extract_data,v,b];rw[b] at d f;cases l <;> cases u <;> simp only[nH,cA] at d f ⊢
  ·simp
  ·simp
  ·rw[List.take_of_length_le (by simp)]
  ·rw[List.drop_take]
 ·cases l <;> cases u <;> simp only[nH,kI,List.length_take] <;> omega
def ou(l:Nat)(f:Nat->List C):Nat->List C:=λi=>f (l+i)
def JN(tt:Bool):Option Int->Bool
 |none=>tt
 |some _=>false
theorem aH.Ha(y:bX P T){t:TypeId}{x:Operand}{lo hi:Option Operand}(h:o.op=.slice t x lo hi none){i k:TI}{E:TypeId}(r:aJ T t=some i)(J:i.desc=.slice E)(Q:aJ T E=some k){tt:Bool}{n:Nat}{es:Nat->List C}{l u:Option Int}
  (N:∀ s v,b5 σ s v (g x)->Rd s.M v (.sl tt k.size n es)) (hl:px g lo=some l) (B:px g hi=some u) (F:aa (il n l u)) :
  aH P o g σ (.e (.one (.c (.sl (JN tt u) k.size (cA n u-cA 0 l) (ou (cA 0 l) es))))) σ:=by
 refine .quiet λst ρ hh hr=>?_
 have h1:=N st _ (hr x);obtain⟨a,cap,vs,q,m,H,G,R,S⟩:=h1.flat;rw[q] at h1;obtain⟨A,I,K⟩:=kV (P:=P) (isS:=true) m (fM hr hl) (fM hr B) F st.w;have d:=(y t i r).run_underlying (w:=st.w);rw[J] at d;refine⟨.slice (if cap=cA 0 l then a else a.map (·.add (cA 0 l*k.size))) (cA n u-cA 0 l) (cap-cA 0 l),?_,?_,by simp[execOp,h,q,Instr.sliceAt,d,Instr.slice,A,mf (P:=P) (isS:=true) m (fM hr hl) (fM hr B) F st.w]⟩
 ·simp[execOp,h,q,Instr.sliceAt,d,Instr.slice,A,(y E k Q).run_sizeOf]
 ·cases h1 with
  |sl b off f _ _ _ L O hm' GV =>
   refine Rd.sl b (off+cA 0 l*k.size) (λi j=>f (cA 0 l+i) j) (by omega) (by omega) ?_ (λi hi=>L _ (by omega)) (λz=>?_) (λi hi j c hj=>?_) (λi hi j c hj=>GV _ (by omega) j c hj)
   ·intro p;cases u with
    |none=>simp only[JN] at p;have:=G p;simp only[cA];omega
    |some u=>cases p
   ·rw[an (by omega),O (by omega)]
    simp[cg]
   ·have:=hm' (cA 0 l+i) (by omega) j c hj
    rw[show off+cA 0 l*k.size+i*k.size+j=off+(cA 0 l+i)*k.size+j by rw[ez];omega]
    exact this
theorem aH.G8(p:bX P T){b dst:TypeId}{x:Operand}(h:o.op=.convert b dst x){i m:TI}{k k':IntKind}{j:Int}(hi:aJ T b=some i)(l:aJ T dst=some m)(r:m.desc=.int k')(q:g x=.e (.one (.c (.int k j))))(n:aB k' j) :
  aH P o g σ (.e (.one (.c (.int k' j)))) σ:=by
 refine .quiet λst ρ hh hr=>?_
 have h1:=hr x;rw[q] at h1
 replace h1:=eB h1
 generalize f:ρ x=vx at h1;cases h1;have d:=(p b i hi).run_underlying (w:=st.w);have a:=(p dst m l).run_underlying (w:=st.w);rw[r] at a;exact⟨.int k' j,by simp[execOp,h,f,convert,d,a,Conv.intToInt,jB n],Rd.int n,by simp[execOp,h,f,convert,d,a,Conv.intToInt]⟩
theorem aH.G9(m:bX P T){b dst:TypeId}{x:Operand}(h:o.op=.convert b dst x){i l:TI}{s:List UInt8}(hi:aJ T b=some i)(k:aJ T dst=some l)(p:l.desc=.string)(n:g x=.e (.one (.c (.str s)))) :
  aH P o g σ (.e (.one (.c (.str s)))) σ:=by
 refine .quiet λst ρ hh hr=>?_
 have h1:=hr x;rw[n] at h1;have j:=eB h1;generalize d:ρ x=vx at j;cases j;have f:=(m b i hi).run_underlying (w:=st.w);have a:=(m dst l k).run_underlying (w:=st.w);rw[p] at a;exact⟨_,by simp[execOp,h,d,convert,f,a];rfl,by rw[<-d];exact h1,by simp[execOp,h,d,convert,f,a]⟩
def qF(f:Nat->List C):Nat->Nat->Option (List UInt8)
 |_,0=>some []
 |i,n+1=>match f i with
  |[.int .u8 v]=>match qF f (i+1) n with
   |some r=>some (UInt8.ofNat v.toNat::r)
   |none=>none
  |_=>none
theorem s9{M:Mem}{f:Nat->List C}:∀ {n i:Nat}{r:List UInt8}{vs:List Value},qF f i n=some r->vs.length=n->(∀ j,j<n->∀ c,(f (i+j))[0]?=some c->∃ v,vs[j]?=some v/\Rd M v c) ->
  ∃ xs:List Int,vs=xs.map (Value.int .u8)/\r=xs.map (λx=>UInt8.ofNat x.toNat)
 |0,i,r,vs,h,a,_=>by cases h;exact⟨[],by simpa using a,rfl⟩
 |n+1,i,r,[],h,a,_=>by simp at a
 |n+1,i,r,v::vs,h,a,b=>by
  simp only[qF] at h;split at h
  ·rename_i x e
   split at h
   ·rename_i q p
    cases h;obtain⟨u,d,s⟩:=b 0 (by omega) (.int .u8 x) (by simp[e])
    simp at d;subst d;cases s;obtain⟨xs,m,l⟩:=s9 (vs:=vs) p (by simpa using a) (λj t c k=>by
     have:=b (j+1) (by omega) c (by rw[show i+(j+1)=i+1+j by omega];exact k)
     simpa using this)
    exact⟨x::xs,by simp[m],by simp[l]⟩
   ·cases h
  ·cases h
theorem ll{P:Program}(w:World){F:Value->ByteArray->Sem (ForInStep ByteArray)}(a:∀ x s,F (.int .u8 x) s=pure (.yield (s.push (UInt8.ofNat x.toNat)))):∀ (xs:List Int)(s:ByteArray),
  (forIn (m:=Sem) (xs.map (Value.int .u8)) s F).run P w=.ok ⟨s.data++(xs.map λx=>UInt8.ofNat x.toNat).toArray⟩ w
 |[],s=>by simp
 |x::xs,s=>by
  simp only[iO,List.forIn_cons,a,aU,cd,bj];rw[ll w a xs]
  congr 2
  apply gI
  simp[ByteArray.push]
end
end Go.AM
namespace Go.AM
open Go.Conc (G)
def OA{P:Program}(X:Cx P)(N:Nat)(all:List Oper)(o:Oper)(φ:Fr)(σ:List ak)(x:D)(σ':List ak):Prop :=
 ∀ s a,bg N σ s φ a->ag σ s->∀ (b:Frame) (k:List Item) (cs:List Frame) (S:Goroutine->St->Prop) (i:Nat) (rest:List Nat),b.kind≠.early->all.toArray[i]?=some o ->
  (∀ v s',b5 σ' s' v x->ag σ' s'->bq σ s σ' s'->db X S (G (b.aT (a.put o.dst v) (.inRegion all.toArray rest::k)) cs) s')->db X S (G (b.aT a (.inRegion all.toArray (i::rest)::k)) cs) s
section
variable {P:Program}{X:Cx P}{N:Nat}{all rest:List Oper}{φ φ':Fr}{σ σ':List ak}{o:Oper}{x:D}
theorem OA.ju(n:∀ σ s a,bg N σ s φ a->Region.wanted o (yielded all.toArray a.tmps)=true)(h:aH P o (bz φ) σ x σ'):OA X N all o φ σ x σ':=by
 intro s a f hh b k cs S i rest q hi hK;refine yr q hi (n _ _ _ f) λg d=>?_
 have c:=hh.rely d;obtain⟨r,s',h1,h2,e,j,p⟩:=h g a.eval c (fK (f.rely d hh));have m:=d.stepW.trans (j.mG c);have l:mV g s' ((execOp a.eval o).events P g.w #[]):=⟨⟨σ,σ',c,e,j⟩,p⟩;cases r with
 |value v=>exact⟨_,s',v,h1,.inl rfl,l,hK v s' h2 e m⟩
 |skip=>simp only[M5] at h2;subst h2;exact⟨_,s',undef,h1,.inr ⟨rfl,rfl⟩,l,hK undef s' ab e m⟩
 |_=>exact h2.elim
theorem OA.pass(d:∀ σ s a,bg N σ s φ a->Region.wanted o (yielded all.toArray a.tmps)=false):OA X N all o φ σ (.eD []) σ:=by
 intro s a f hh b k cs S i rest g hi hK;exact .ctl hh rfl (λ_=>GK hi (d _ _ _ f)) λe c=>hK undef e ⟨[],rfl,ab⟩ (hh.rely c) c.stepW
theorem gA.uT{Q:Fr->List ak->Prop}(h:OA X N all o φ σ x σ')(d:∀ t,o.dst=some t->t<N)(k:gA X N all rest Q (mX o.dst x φ) σ'):gA X N all (o::rest) Q φ σ:=by
 intro s a f hh b kk cs S idx hb lM hQ;cases idx with
 |nil=>exact lM.elim
 |cons i idx =>
 refine h s a f hh b kk cs S i idx hb lM.1 λv s' hv j9 st=>k s' _ ?_ j9 b kk cs S idx hb lM.2 λc σ2 s2 a2 q e h2 nA=>hQ c σ2 s2 a2 q e h2 (st.trans nA)
 cases g:o.dst with
 |none=>exact f.mono st hh.len
 |some t=>exact(f.mono st hh.len).put (d t g) hv
end
abbrev bH:=List D->List ak->Option (D×List ak×List Prop)
def sW:List (Nat×bH)->Nat->Option bH
 |[],_=>none
 |(i,g)::r,f=>cond (Nat.beq i f) (some g) (sW r f)
def bU{P:Program}(X:Cx P)(f:FuncId)(g:bH):Prop:=∀ args σ res σ' obs,g args σ=some (res,σ',obs)->aa obs->Ev X f args σ res σ'
def aO{P:Program}(X:Cx P)(CT:List (Nat×bH)):Prop:=∀ f g,sW CT f=some g->bU X f g
theorem aO.nil{P:Program}{X:Cx P}:aO X []:=λ_ _ h=>by cases h
theorem aO.cons{P:Program}{X:Cx P}{f:FuncId}{g:bH}{CT:List (Nat×bH)}(h:bU X f g)(r:aO X CT):aO X ((f,g)::CT):=by
 intro b g2 h2;simp only[sW] at h2;cases a:Nat.beq f b with
 |true=>rw[a] at h2;cases h2;rw[<-bk a];exact h
 |false=>rw[a] at h2;exact r b g2 h2
def R2:A->List Nat->List Nat
 |.ptr l _,ks=>cond (fH l ks) ks (ks++[l])
 |.vec l _ _ _,ks=>cond (fH l ks) ks (ks++[l])
 |.ref l,ks=>cond (fH l ks) ks (ks++[l])
 |.bp l _,ks=>cond (fH l ks) ks (ks++[l])
 |_,ks=>ks
def R3:List A->List Nat->List Nat
 |[],ks=>ks
 |a::r,ks=>R3 r (R2 a ks)
def T6:D->List Nat->List Nat
 |.e (.one a),ks=>R2 a ks
 |.e (.agg cs),ks=>R3 cs ks
 |_,ks=>ks
def M6:List D->List Nat->List Nat
 |[],ks=>ks
 |a::r,ks=>M6 r (T6 a ks)
def vX(l:Nat):List Nat->Nat->Option Nat
 |[],_=>none
 |k::r,i=>match Nat.beq k l with|true=>some i|false=>vX l r (i+1)
theorem nU{l:Nat}:∀ {ks:List Nat}{i j:Nat},vX l ks i=some j->i<=j/\ks[j-i]?=some l
 |[],_,_,h=>by cases h
 |k::r,i,j,h=>by
  simp only[vX] at h;cases a:Nat.beq k l with
  |true=>rw[a] at h;cases h;exact⟨ar _,by simp[bk a]⟩
  |false =>
   rw[a] at h;obtain⟨c,b⟩:=nU h;refine⟨by omega,?_⟩
   rw[show j-i=(j-(i+1))+1 by omega]
   simpa using b
def LV(ks:List Nat):A->Option A
 |.ptr l o=>match vX l ks 0 with|some i=>some (.ptr i o)|none=>none
 |.ref l=>match vX l ks 0 with|some i=>some (.ref i)|none=>none
 |.bp l w=>match vX l ks 0 with|some i=>some (.bp i w)|none=>none
 |.vec _ _ _ _=>none
 |.c x=>some (.c x)
 |.any=>some .any
def OJ(ks:List Nat):List A->Option (List A)
 |[]=>some []
 |a::r=>match LV ks a with
  |some b=>match OJ ks r with
   |some q=>some (b::q)
   |none=>none
  |none=>none
def P7(ks:List Nat):D->Option D
 |.e (.one a)=>match LV ks a with|some b=>some (.e (.one b))|none=>none
 |.e (.agg cs)=>match OJ ks cs with|some b=>some (.e (.agg b))|none=>none
 |.eD _=>none
 |.any=>some .any
def Bw(ks:List Nat):List D->Option (List D)
 |[]=>some []
 |a::r=>match P7 ks a with
  |some b=>match Bw ks r with
   |some q=>some (b::q)
   |none=>none
  |none=>none
theorem DZ{ks:List Nat}{a b:A}(h:LV ks a=some b):lp ks b=a/\Bb ks.length b=true:=by
 cases a with
 |ptr l o =>
  simp only[LV] at h;split at h
  ·rename_i i hi
   cases h;obtain⟨_,d⟩:=nU hi;simp only[jy] at d;have e:i<ks.length:=(aE.1 d).1;exact⟨by simp[lp,dg,d],pI e⟩
  ·cases h
 |ref l =>
  simp only[LV] at h;split at h
  ·rename_i i hi
   cases h;obtain⟨_,d⟩:=nU hi;simp only[jy] at d;have e:i<ks.length:=(aE.1 d).1;exact⟨by simp[lp,dg,d],pI e⟩
  ·cases h
 |bp l w =>
  simp only[LV] at h;split at h
  ·rename_i i hi
   cases h;obtain⟨_,d⟩:=nU hi;simp only[jy] at d;have e:i<ks.length:=(aE.1 d).1;exact⟨by simp[lp,dg,d],pI e⟩
  ·cases h
 |vec l k n es=>cases h
 |c x=>cases h;exact⟨rfl,rfl⟩
 |any=>cases h;exact⟨rfl,rfl⟩
theorem D1{ks:List Nat}:∀ {a b:List A},OJ ks a=some b->vO ks b=a/\Bc ks.length b=true
 |[],b,h=>by cases h;exact⟨rfl,rfl⟩
 |a::r,b,h=>by
  simp only[OJ] at h;split at h
  ·rename_i x c
   split at h
   ·rename_i q f
    cases h;obtain⟨i,g⟩:=DZ c;obtain⟨e,d⟩:=D1 f;exact⟨by simp[vO,i,e],by simp[Bc,g,d]⟩
   ·cases h
  ·cases h
theorem Kf{ks:List Nat}{a b:D}(h:P7 ks a=some b):iC ks b=a/\ux ks.length b=true:=by
 unfold P7 at h;split at h
 ·rename_i a
  split at h
  ·rename_i x c;cases h;obtain⟨d,e⟩:=DZ c;exact⟨by simp[iC,uu,d],by simp[ux,De,e]⟩
  ·cases h
 ·rename_i cs
  split at h
  ·rename_i x c;cases h;obtain⟨d,e⟩:=D1 c;exact⟨by simp[iC,uu,d],by simp[ux,De,e]⟩
  ·cases h
 ·cases h
 ·cases h;exact⟨rfl,rfl⟩
theorem An{ks:List Nat}:∀ {a b:List D},Bw ks a=some b->jC ks b=a/\pn ks.length b=true
 |[],b,h=>by cases h;exact⟨rfl,rfl⟩
 |a::r,b,h=>by
  simp only[Bw] at h;split at h
  ·rename_i x c
   split at h
   ·rename_i q f
    cases h;obtain⟨i,g⟩:=Kf c;obtain⟨e,d⟩:=An f;exact⟨by simp[jC,i,e],by simp[pn,g,d]⟩
   ·cases h
  ·cases h
def Dv(CT:List (Nat×bH))(φ:Fr)(σ:List ak)(a:Operand)(xs:List Operand):Option (D×List ak×List Prop) :=
 match gT (bz φ a) with
 |none=>none
 |some (f,cap)=>match sW CT f with
  |none=>none
  |some g =>
   let args:=ny (xs.map (bz φ)++jE cap)
   let ks:=M6 args []
   match Bw ks args with
   |none=>none
   |some D2=>match iW ks σ with
    |none=>none
    |some σs=>match g D2 σs with
     |none=>none
     |some (res,σ1,obs)=>match cr σs,cr σ1,dk ks,Nat.ble ks.length σ1.length with
      |true,true,true,true=>some (iC (ks++lL σ.length (σ1.length-ks.length)) res,cU ks σ1 σ,obs)
      |_,_,_,_=>none
theorem OA.I9{P:Program}{X:Cx P}{N:Nat}{all:List Oper}{φ:Fr}{σ:List ak}{o:Oper}{CT:List (Nat×bH)}(hC:aO X CT){z:Operand}{xs:Array Operand}{F:Array TypeId}
  (O:∀ σ s a,bg N σ s φ a->Region.wanted o (yielded all.toArray a.tmps)=true) (M:o.op=.call { callee:=.value z,args:=xs,argTypes:=F }) {f:FuncId} {cap:List C} (A:gT (bz φ z)=some (f,cap)) {g:bH} (J:sW CT f=some g)
  {ks:List Nat} {d:List D} {m σ1:List ak} {res:D} {obs:List Prop} (H:Bw ks (ny (xs.toList.map (bz φ)++jE cap))=some d) (I:iW ks σ=some m) (q:g d m=some (res,σ1,obs))
  (R:cr m=true) (G:cr σ1=true) (T:dk ks=true) (E:ks.length<=σ1.length) (v:aa obs):OA X N all o φ σ (iC (ks++lL σ.length (σ1.length-ks.length)) res) (cU ks σ1 σ):=by
 obtain⟨n,B⟩:=An H;intro s a p hh b kk cs S i rest Q hi hK;have u:=hC f g J _ _ _ _ _ q v;have y:=fK p z;unfold gT at A;split at A
 case h_2=>cases A
 case h_1 f' L8 he =>
  cases A;rw[he] at y;have k:=eB y;generalize L:a.eval z=fv at k;cases k with
  |fn fs lN hl yd f1 f2 h1 h2 r1 r2 =>
   have K:fs=[]:=fu hl;subst K;have l:bZ σ s lN (jE cap):=nz (λj c hj=>⟨f2 j,h2 j (by rw[yd];exact(aE.1 hj).1),r2 j c hj⟩) yd
   have r:bZ σ s (xs.toList.map a.eval++lN) (jC ks d):=by
    rw[n];exact qy ((pX (fK p) xs.toList).append l)
   obtain⟨fn,t,h,e⟩:=u.1;exact Dg Q hi (O _ _ _ p) hh (λw=>(mh M t h e L w).1) (λw=>(mh M t h e L w).2) u r B I R G T E hK
theorem OA.call{P:Program}{X:Cx P}{N:Nat}{all:List Oper}{φ:Fr}{σ σ':List ak}{o:Oper}{CT:List (Nat×bH)}(hC:aO X CT){m:Operand}{xs:Array Operand}{j:Array TypeId}{x:D}{obs:List Prop}
  (n:∀ σ s a,bg N σ s φ a->Region.wanted o (yielded all.toArray a.tmps)=true) (p:o.op=.call { callee:=.value m,args:=xs,argTypes:=j })
  (b:Dv CT φ σ m xs.toList=some (x,σ',obs)) (c:aa obs):OA X N all o φ σ x σ':=by
 unfold Dv at b;split at b
 ·cases b
 rename_i f cap hf
 split at b
 ·cases b
 rename_i g i
 simp only at b;split at b
 ·cases b
 rename_i k d
 split at b
 ·cases b
 rename_i r e
 split at b
 ·cases b
 rename_i res σ1 P8 Kg
 split at b
 case h_2=>cases b
 rename_i q l t h
 cases b;exact OA.I9 hC n p hf i d e Kg q l t (cY h) c
theorem D3{d:D}(h:ux 0 d=true):iC [] d=d:=by
 have g:∀ {a:A},Bb 0 a=true->lp [] a=a:=by
  intro a b;cases a <;> simp only[Bb] at b <;> first|rfl|(simp at b)
 have j:∀ {l:List A},Bc 0 l=true->vO [] l=l:=by
  intro l
  induction l with
  |nil=>intro _;rfl
  |cons a r f =>
   intro h;simp only[Bc] at h;cases b:Bb 0 a with
   |false=>simp[b] at h
   |true=>simp only[b] at h;simp[vO,g b,f h]
 have i:∀ {a:E1},De 0 a=true->uu [] a=a:=by
  intro a b;cases a with
  |one a=>simp[uu,g b]
  |agg cs=>simp[uu,j b]
 have c:∀ {l:List E1},r9 0 l=true->sH [] l=l:=by
  intro l
  induction l with
  |nil=>intro _;rfl
  |cons a r f =>
   intro h;simp only[r9] at h;cases b:De 0 a with
   |false=>simp[b] at h
   |true=>simp only[b] at h;simp[sH,i b,f h]
 cases d with
 |e x=>simp[iC,i h]
 |eD xs=>simp[iC,c h]
 |any=>rfl
def vW(CT:List (Nat×bH))(φ:Fr)(a:Operand)(xs:List Operand):Option (D×List Prop) :=
 match gT (bz φ a) with
 |none=>none
 |some (f,cap)=>match sW CT f with
  |none=>none
  |some g=>match Bw [] (ny (xs.map (bz φ)++jE cap)) with
   |none=>none
   |some D2=>match g D2 [] with
    |some (res,[],obs)=>match ux 0 res with
     |true=>some (res,obs)
     |false=>none
    |_=>none
theorem OA.vW{P:Program}{X:Cx P}{N:Nat}{all:List Oper}{φ:Fr}{σ:List ak}{o:Oper}{CT:List (Nat×bH)}(hC:aO X CT){k:Operand}{xs:Array Operand}{i:Array TypeId}{x:D}{obs:List Prop}
  (l:∀ σ s a,bg N σ s φ a->Region.wanted o (yielded all.toArray a.tmps)=true) (m:o.op=.call { callee:=.value k,args:=xs,argTypes:=i })
  (b:AM.vW CT φ k xs.toList=some (x,obs)) (c:aa obs):OA X N all o φ σ x σ:=by
 unfold AM.vW at b;split at b
 ·cases b
 rename_i f cap hf
 split at b
 ·cases b
 rename_i g h
 split at b
 ·cases b
 rename_i j e
 split at b
 case h_2=>cases b
 rename_i res P8 Kg
 split at b
 case h_2=>cases b
 rename_i d
 cases b;have:=OA.I9 (σ:=σ) hC l m hf h e rfl Kg rfl rfl rfl (ar _) c;simpa[lL,D3 d,cU] using this
structure x0 (N:Nat)(σ:List ak)(s:St)(V:Nat->D)(a:Act):Prop where
 size:a.tmps.size=N
 defers:∃ ls,j0 σ s a.defers ls
 slot:∀ t,b5 σ s (a.tmps.getD t undef) (V t)
theorem x0.Bd{N:Nat}{σ:List ak}{s:St}{V:Nat->D}{φ:Fr}{a:Act}(f:x0 N σ s V a)(h:∀ t σ s v,b5 σ s v (V t)->b5 σ s v (look φ t)):bg N σ s φ a :=
 ⟨f.size,f.defers,λt=>h t _ _ _ (f.slot t)⟩
def bt(e:Edge):Bool:=Region.binds .any e
structure qA {P:Program}(X:Cx P)(N:Nat)(ops:Array Oper)(φ:Fr)(S:Nat->List ak)(x:Nat->D)(m:Nat->Fr)(free c:Nat->Bool)(p:Nat->Nat->Prop)(idx:Nat->Option Nat)(φ':Fr):Prop where
 du:P.follows Departure.mixedOrders=true
 back:∀ i o,ops[i]?=some o->∀ e∈o.after,bt e=true->e.on<i
 pr:∀ i o d,ops[i]?=some o->o.dst=some d->idx d=some i/\d<N
 lq:∀ d i,idx d=some i->∃ o,ops[i]?=some o/\o.dst=some d
 quiet:∀ i,c i=false->S (i+1)=S i
 one:∀ i o,ops[i]?=some o->free i=false->OA X N ops.toList o (m i) (S i) (x i) (S (i+1))
 all:∀ i o,ops[i]?=some o->free i=true->c i=false/\∀ k,OA X N ops.toList o (m i) (S k) (x i) (S k)
 cl:∀ L:Nat->Prop,(∀ i o,ops[i]?=some o->L i->∀ e∈o.after,bt e=true->L e.on)->∀ i j,p i j->(L i->L j)/\∃ o,ops[i]?=some o/\((∀ e∈o.after,bt e=true->L e.on)->L j)
 comp:∀ i f,i<ops.size->f<ops.size->c f=true->i≠f->free i=false->(f<i/\p i f)∨(i<f/\p f i)
 Gv:∀ i o,ops[i]?=some o->∀ t σ s v,b5 σ s v (match idx t with|some j=>(if ∃ e∈o.after,bt e=true/\e.on=j then x j else if ∃ oj,ops[j]?=some oj/\∃ e∈oj.after,bt e=true/\e.on=i then look φ t else .any)|none=>look φ t)->b5 σ s v (look (m i) t)
 fin:∀ t σ s v,b5 σ s v (match idx t with|some j=>x j|none=>look φ t)->b5 σ s v (look φ' t)
open Classical in
noncomputable def dh(φ:Fr)(x:Nat->D)(idx:Nat->Option Nat)(L:Array Bool)(t:Nat):D :=
 match idx t with
 |some j=>if L.getD j false=true then x j else look φ t
 |none=>look φ t
theorem mem_ready{ops:Array Oper}{L:Array Bool}{i:Nat}:i∈Region.ready .any ops L↔∃ o,ops[i]?=some o/\L.getD i true=false/\∀ e∈o.after,bt e=true->L.getD e.on false=true:=by
 unfold Region.ready;simp only[pP,l8,bF,iM]
 constructor
 ·rintro⟨b,f,a⟩;rw[bJ b] at a;simp only[gG,cp,Array.all_eq_true',kL,iM] at a;refine⟨ops[i],bJ b,f,λe g d=>?_⟩
  rcases a e g with h|h
  ·unfold bt at d;rw[d] at h;cases h
  ·exact h
 ·rintro⟨o,b,f,a⟩;have j:i<ops.size:=(dF.1 b).1;refine⟨j,f,?_⟩;rw[b];simp only[gG,cp,Array.all_eq_true',kL,iM];intro e g;cases d:Region.binds .any e with
  |false=>exact .inl rfl
  |true=>exact .inr (a e g d)
section
variable {P:Program}{X:Cx P}{N:Nat}{ops:Array Oper}{φ φ':Fr}{S:Nat->List ak}{x:Nat->D}{m:Nat->Fr}{free c:Nat->Bool}{p:Nat->Nat->Prop}{idx:Nat->Option Nat}
theorem qA.chain(h:qA X N ops φ S x m free c p idx φ'){i:Nat}:∀ {k:Nat},i<=k->(∀ g,i<=g->g<k->c g=false)->S k=S i
 |0,b,_=>by rw[show i=0 by omega]
 |k+1,b,a=>by
  rcases bC k i with hl|hl
  ·rw[show i=k+1 by omega]
  ·rw[h.quiet k (a k hl (by omega)),h.chain (k:=k) hl (λg h1 h2=>a g h1 (by omega))]
theorem qA.last(h:qA X N ops φ S x m free c p idx φ'){L:Array Bool}(b:∀ i,i<ops.size->L.getD i false=true){k:Nat}{s0 s:St}{a:Act}(u:k<=ops.size)
  (n:∀ f,f<ops.size->c f=true->(L.getD f false=true↔f<k)) (e:x0 N (S k) s (dh φ x idx L) a) (hh:ag (S k) s) (st:bq (S 0) s0 (S k) s) :
  bg N (S ops.size) s φ' a/\ag (S ops.size) s/\bq (S 0) s0 (S ops.size) s:=by
 have l:S ops.size=S k:=h.chain u (λg h1 h2=>by
  cases r:c g with
  |false=>rfl
  |true=>have:=(n g h2 r).1 (b g h2);omega)
 rw[<-l] at e hh st;refine⟨e.Bd λt σ s v d=>h.fin t σ s v ?_,hh,st⟩
 unfold dh at d;cases hi:idx t with
 |none=>simpa[hi] using d
 |some j =>
  simp only[hi] at d ⊢;obtain⟨o,q,_⟩:=h.lq _ _ hi;rw[aq (b j (dF.1 q).1)] at d;exact d
theorem bG{L:Array Bool}{i j:Nat}(hi:i<L.size):(L.setIfInBounds i true).getD j false=true↔j=i∨L.getD j false=true:=by
 simp only[bA]
 by_cases e:i=j
 ·subst e;rw[jR hi];simp
 ·rw[ic e]
  constructor
  ·exact .inr
  ·rintro(rfl|h)
   ·exact absurd rfl e
   ·exact h
theorem count_set:∀ {l:List Bool}{i:Nat},l[i]?=some false->((l.set i true).filter (λb=>!b)).length+1=(l.filter (λb=>!b)).length
 |[],_,h=>by simp at h
 |b::r,0,h=>by simp at h;subst h;simp
 |b::r,i+1,h=>by
  simp at h;have:=count_set (l:=r) h;cases b <;> simp[List.set_cons_succ] <;> omega
theorem qB(t:Nat)(L:Array Bool):Region.linearise.go .any ops 0 t L []=[]:=by simp[Region.linearise.go]
theorem iY(n t:Nat)(L:Array Bool):Region.linearise.go .any ops (n+1) t L []=match (Region.ready .any ops L)[t % (Region.ready .any ops L).length]? with
  |some i=>i::Region.linearise.go .any ops n (t / (Region.ready .any ops L).length) (L.setIfInBounds i true) []
  |none=>[]:=by
 simp only[Region.linearise.go]
 change (match (Region.ready .any ops L)[t % (Region.ready .any ops L).length]? with
   |some i=>Region.linearise.go .any ops n (t / (Region.ready .any ops L).length) (L.setIfInBounds i true) [i]
   |none=>[].reverse)=_
 cases (Region.ready .any ops L)[t % (Region.ready .any ops L).length]? with
 |none=>rfl
 |some i=>simp only[];rw[linearise_go_acc,List.reverse_singleton,List.singleton_append]
theorem qA.arr(h:qA X N ops φ S x m free c p idx φ'){SS:Goroutine->St->Prop}{b:Frame}{kk:List Item}{cs:List Frame}(E:b.kind≠.early){s0:St}
  (hQ:∀ s a,bg N (S ops.size) s φ' a->ag (S ops.size) s->bq (S 0) s0 (S ops.size) s->db X SS (G (b.aT a kk) cs) s) :
  ∀ (fuel:Nat) (L:Array Bool),L.size=ops.size->(L.toList.filter (λb=>!b)).length<=fuel ->
   (∀ i o,ops[i]?=some o->L.getD i false=true->∀ e∈o.after,bt e=true->L.getD e.on false=true) ->
   ∀ (k:Nat) (s:St) (a:Act),k<=ops.size->(∀ f,f<ops.size->c f=true->(L.getD f false=true↔f<k))->x0 N (S k) s (dh φ x idx L) a->ag (S k) s->bq (S 0) s0 (S k) s ->
   ∀ t,db X SS (G (b.aT a (.inRegion ops (Region.linearise.go .any ops fuel t L [])::kk)) cs) s:=by
 have fin:∀ (s:St) (a:Act),bg N (S ops.size) s φ' a->ag (S ops.size) s->bq (S 0) s0 (S ops.size) s->db X SS (G (b.aT a (.inRegion ops []::kk)) cs) s :=
  λs a a1 a2 a3=>.ctl a2 rfl (λ_=>dN) λs1 zX=>hQ s1 a (a1.rely zX a2) (a2.rely zX) (a3.trans zX.stepW)
 intro fuel
 induction fuel with
 |zero =>
  intro L hs hf xZ k s a hk C n hh st;have Q:∀ i,i<ops.size->L.getD i false=true:=by
   intro i hi;have hm:L[i]'(by omega)∈L.toList:=by simp
   cases E:L[i]'(by omega) with
   |true=>simp[bA,bJ (by omega:i<L.size),E]
   |false =>
    have:L[i]'(by omega)∈L.toList.filter (λb=>!b):=pP.2 ⟨hm,by simp[E]⟩
    have:=tV this;omega
  intro t;rw[qB];obtain⟨a1,a2,a3⟩:=h.last Q hk C n hh st;exact fin s a a1 a2 a3
 |succ fuel ih =>
  intro L hs hf xZ k s a hk C n hh st;intro t;rw[iY];cases O:(Region.ready .any ops L)[t % (Region.ready .any ops L).length]? with
  |none =>
   have hr:Region.ready .any ops L=[]:=by
    cases hr:Region.ready .any ops L with
    |nil=>rfl
    |cons y ys =>
     rw[hr] at O;have I:t % (y::ys).length<(y::ys).length:=jA _ (by simp)
     simp at O;simp at I;omega
   have Q:∀ i,i<ops.size->L.getD i false=true:=by
    intro i
    induction i using Nat.strongRecOn with
    |_ i O5 =>
     intro hi;cases E:L.getD i false with
     |true=>rfl
     |false =>
      have hm:i∈Region.ready .any ops L:=mem_ready.2 ⟨ops[i],bJ hi,by
       simpa[bA,bJ (by omega:i<L.size)] using E,λe z Tj=>by
       have:=h.back i _ (bJ hi) e z Tj;exact O5 _ this (by omega)⟩
      rw[hr] at hm;simp at hm
   obtain⟨a1,a2,a3⟩:=h.last Q hk C n hh st;exact fin s a a1 a2 a3
  |some i =>
   have hi:=aG O;obtain⟨o,V,RG,K⟩:=mem_ready.1 hi;have I:i<ops.size:=(dF.1 V).1;have B:¬L.getD i false=true:=by
    simp only[bA,bJ (by omega:i<L.size),cp] at RG ⊢
    simp[RG]
   have Mv:=h.cl (λj=>L.getD j false=true) xZ
   have H:∀ g,p g i->¬L.getD g false=true:=λg hg hL=>B ((Mv g i hg).1 hL)
   have RH:∀ g,p i g->L.getD g false=true:=λg hg=>by
    obtain⟨_,o',F,hq⟩:=Mv i g hg;rw[V] at F;cases F;exact hq K
   have Y:(L.setIfInBounds i true).size=ops.size:=by simp[hs]
   have W:((L.setIfInBounds i true).toList.filter (λb=>!b)).length<=fuel:=by
    have h1:L.toList[i]?=some false:=by
     rw[ly,bJ (by omega:i<L.size)]
     simpa[bA,bJ (by omega:i<L.size)] using B
    have:=count_set h1;rw[mP];omega
   have O6:∀ j o',ops[j]?=some o'->(L.setIfInBounds i true).getD j false=true->∀ e∈o'.after,bt e=true->(L.setIfInBounds i true).getD e.on false=true:=by
    intro j o' F hj e z E;rw[bG (by omega)] at hj ⊢
    rcases hj with rfl|hj
    ·rw[V] at F;cases F;exact .inr (K e z E)
    ·exact .inr (xZ j o' F hj e z E)
   have O7:bg N (S k) s (m i) a:=n.Bd λt σ s v J=>h.Gv i o V t σ s v (by
    unfold dh at J;cases r:idx t with
    |none=>simpa[r] using J
    |some j =>
     simp only[r] at J ⊢;split
     ·rename_i hex
      obtain⟨e,z,E,rfl⟩:=hex;rw[aq (K e z E)] at J;exact J
     ·split
      ·rename_i hex
       obtain⟨oj,u,e,z,E,heq⟩:=hex;have Om:¬L.getD j false=true:=λhL=>B (by have:=xZ j oj u hL e z E;rwa [heq] at this)
       rw[an Om] at J;exact J
      ·trivial)
   have zY:∀ (σ':List ak) (s':St) (v:Value),bq (S k) s σ' s'->b5 σ' s' v (x i)->x0 N σ' s' (dh φ x idx (L.setIfInBounds i true)) (a.put o.dst v):=by
    intro σ' s' v w J;cases hd:o.dst with
    |none =>
     refine⟨n.size,n.defers.imp λ_ h1=>h1.mono w.ext,λt=>?_⟩
     have q:=(n.slot t).mono w.ext hh.len;simp only[Act.put];unfold dh at q ⊢;cases r:idx t with
     |none=>simpa[r] using q
     |some j =>
      simp only[r] at q ⊢;obtain⟨oj,u,U⟩:=h.lq _ _ r;have sK:j≠i:=by rintro rfl;rw[V] at u;cases u;rw[hd] at U;cases U
      have:((L.setIfInBounds i true).getD j false=true)↔L.getD j false=true:=by rw[bG (by omega)];simp[sK]
      simp only[this];exact q
    |some d =>
     obtain⟨O8,O9⟩:=h.pr i o d V hd;refine⟨by simp[Act.put,n.size],n.defers.imp λ_ h1=>h1.mono w.ext,λt=>?_⟩
     simp only[Act.put]
     by_cases e:d=t
     ·subst e;have Pa:d<a.tmps.size:=by rw[n.size];exact O9
      simp only[bA,jR Pa,cp];unfold dh;simp only[O8];rw[aq ((bG (by omega)).2 (.inl rfl))]
      exact J
     ·have q:=(n.slot t).mono w.ext hh.len;simp only[bA] at q ⊢;rw[ic e];unfold dh at q ⊢;cases r:idx t with
      |none=>simpa[r] using q
      |some j =>
       simp only[r] at q ⊢;obtain⟨oj,u,U⟩:=h.lq _ _ r;have sK:j≠i:=by rintro rfl;rw[V] at u;cases u;rw[hd] at U;cases U;exact e rfl
       have:((L.setIfInBounds i true).getD j false=true)↔L.getD j false=true:=by rw[bG (by omega)];simp[sK]
       simp only[this];exact q
   have T:∀ (k':Nat),k'<=ops.size->OA X N ops.toList o (m i) (S k) (x i) (S k')->(∀ f,f<ops.size->c f=true->((L.setIfInBounds i true).getD f false=true↔f<k')) ->
     db X SS (G (b.aT a (.inRegion ops (i::Region.linearise.go .any ops fuel (t / (Region.ready .any ops L).length) (L.setIfInBounds i true) [])::kk)) cs) s:=by
    intro k' LM Tk Pb;have:=Tk s a O7 hh b kk cs SS i (Region.linearise.go .any ops fuel (t / (Region.ready .any ops L).length) (L.setIfInBounds i true) []) E (by simpa using V)
    simp only[jW] at this;exact this λv s' J j9 w=>ih _ Y W O6 k' s' _ LM Pb (zY _ _ _ w J) j9 (st.trans w) _
   have same:c i=false->∀ f,f<ops.size->c f=true->((L.setIfInBounds i true).getD f false=true↔f<k):=by
    intro hq f Gw M;rw[bG (by omega),<-C f Gw M]
    constructor
    ·rintro(rfl|h1)
     ·rw[hq] at M;cases M
     ·exact h1
    ·exact .inr
   cases l:free i with
   |true =>
    obtain⟨hq,Pc⟩:=h.all i o V l;exact T k hk (Pc k) (same hq)
   |false =>
    have A:=h.one i o V l;have Mw:S i=S k:=by
     rcases Nat.le_total k i with hle|hle
     ·refine h.chain hle λg h1 h2=>?_
      cases z:c g with
      |false=>rfl
      |true =>
       exfalso;rcases h.comp i g I (by omega) z (by omega) l with⟨_,Z⟩|⟨Z,_⟩
       ·have:=(C g (by omega) z).1 (RH g Z);omega
       ·omega
     ·refine(h.chain hle λg h1 h2=>?_).symm
      cases z:c g with
      |false=>rfl
      |true =>
       exfalso;have RI:=(C g (by omega) z).2 h2
       by_cases IS:g=i
       ·subst IS;exact B RI
       ·rcases h.comp i g I (by omega) z (λe=>IS e.symm) l with⟨Z,_⟩|⟨_,Z⟩
        ·omega
        ·exact H g Z RI
    rw[Mw] at A;cases Mx:c i with
    |false =>
     rw[h.quiet i Mx,Mw] at A;exact T k hk A (same Mx)
    |true =>
     refine T (i+1) (by omega) A λf Gw M=>?_
     rw[bG (by omega)]
     by_cases R:f=i
     ·subst R;simp
     ·simp only[R,false_or];rcases h.comp i f I Gw M (λe=>R e.symm) l with⟨h1,Z⟩|⟨h1,Z⟩
      ·exact⟨λ_=>by omega,λ_=>RH f Z⟩
      ·exact⟨λhL=>absurd hL (H f Z),λh2=>by omega⟩
end
end Go.AM
namespace Go.AM
def Ed(P:Program):List TypeDesc->List Field->Nat->Prop
 |[],[],_=>True
 |d::ds,f::fs,i=>f.name≠ "_"/\f.offset=i/\P.underlying f.type=some d/\(match d with|.int _|.string|.bool=>True|_=>False)/\Ed P ds fs (i+1)
 |_,_,_=>False
def Nb(d:Nat)(xs ys:Array Value)(f:Field)(_:Option Bool×Unit):Sem (ForInStep (Option Bool×Unit)) :=
 if f.name= "_" then pure (ForInStep.yield (none,()))
 else do
  let a<-part f.type xs f.offset
  let b<-part f.type ys f.offset
  let r<-Op.equalIn d f.type a b
  if r=false then pure (ForInStep.done (some false,())) else pure (ForInStep.yield (none,()))
theorem ld{P:Program}(w:World)(d:Nat)(xs ys:Array Value):∀ {ds:List TypeDesc}{fs:List Field}{i:Nat}{vs ws:List Value}{b:Bool},Ed P ds fs i->gk ds vs ws=some b->(∀ j v,vs[j]?=some v->xs[i+j]?=some v)->(∀ j v,ws[j]?=some v->ys[i+j]?=some v) ->
  (Op.eqFields (d+1) xs ys fs).run P w=.ok b w/\∀ es,(forIn fs (none,()) (Nb (d+1) xs ys)).events P w es=es
 |[],[],i,[],[],b,_,h,_,_=>by cases h;simp[Op.eqFields]
 |[],[],i,_::_,_,b,_,h,_,_=>by cases h
 |[],[],i,[],_::_,b,_,h,_,_=>by cases h
 |[],_::_,i,_,_,b,F,_,_,_=>F.elim
 |_::_,[],i,_,_,b,F,_,_,_=>F.elim
 |t::ds,f::fs,i,[],_,b,_,h,_,_=>by cases h
 |t::ds,f::fs,i,_::_,[],b,_,h,_,_=>by cases h
 |t::ds,f::fs,i,v::vs,u::us,b,⟨K,G,n,N,L⟩,h,I,J=>by
  simp only[gk] at h;cases c:m2 t v u with
  |none=>simp[c] at h
  |some a =>
   cases B:gk ds vs us with
   |none=>simp[c,B] at h
   |some b' =>
    simp[c,B] at h;subst h;obtain⟨O,A⟩:=ld w d xs ys L B (λj v s=>by have:=I (j+1) v (by simpa using s);rwa [show i+1+j=i+(j+1) by omega]) (λj v s=>by have:=J (j+1) v (by simpa using s);rwa [show i+1+j=i+(j+1) by omega])
    have e:xs[i]?=some v:=by simpa using I 0 v rfl
    have m:ys[i]?=some u:=by simpa using J 0 u rfl
    have p:(isAgg f.type).run P w=.ok false w:=by
     unfold isAgg underlying;cases t <;> simp at N <;> simp[n]
    have r:∀ (l:Array Value) (z:Value),l[i]?=some z->(part f.type l f.offset).run P w=.ok z w:=by
     intro l z C;unfold part;simp[p,G,C]
    have q:∀ (l:Array Value) (z:Value),l[i]?=some z->∀ es,(part f.type l f.offset).events P w es=es:=by
     intro l z C es;unfold part;simp[p,G,C]
    have E:∀ es,(Op.equalIn (d+1) f.type v u).events P w es=es:=by
     intro es;unfold m2 at c;split at c <;> first
      |(cases c;done)
      |(unfold Op.equalIn;simp[underlying,n];done)
      |(unfold Op.equalIn;simp[underlying,n];split <;> rfl)
    have H:(Op.equalIn (d+1) f.type v u).run P w=.ok a w:=by
     unfold m2 at c;split at c
     ·rename_i k k1 x Q y
      split at c
      ·rename_i M;subst M;cases c;exact run_equalIn_int w d f.type k1 k x y n
      ·cases c
     ·cases c;exact run_equalIn_string w d f.type _ _ n
     ·cases c;exact run_equalIn_bool w d f.type _ _ n
     ·cases c
    refine⟨?_,λes=>?_⟩
    ·rw[Op.eqFields.eq_2,aq K];simp only[aU,r xs v e,r ys u m,H,bj];cases a
     ·simp
     ·simp[O]
    ·rw[List.forIn_cons];simp only[Nb,K,aM,Sem.events_bind,aU,r xs v e,r ys u m,H,bj,Result.evThen_ok,q xs v e,q ys u m,E];cases a
     ·simp
     ·simpa using A es
theorem eF{P:Program}{t:TypeId}{fs:List Field}{ds:List TypeDesc}(f:P.underlying t=some (.struct fs.toArray))(d:P.stoodInHeld t=false)(k:P.eqGuardType P.depth t=false)(i:Ed P ds fs 0) :
  P.eqGuardType P.depth t=false/\∀ (w:World) (vs ws:List Value) (b:Bool),gk ds vs ws=some b->(Op.equal t (.agg vs.toArray) (.agg ws.toArray)).run P w=.ok b w/\∀ es,(Op.equal t (.agg vs.toArray) (.agg ws.toArray)).events P w es=es:=by
 refine⟨k,λw vs ws b h=>?_⟩
 have e:P.fieldsOf t=fs.toArray:=by unfold Program.fieldsOf;rw[f]
 have key:=ld w 9998 vs.toArray ws.toArray i h (λj v c=>by simpa using c) (λj v c=>by simpa using c)
 refine⟨?_,λes=>?_⟩
 rotate_left
 ·show (Op.equalIn (9999+1) t _ _).events P w es=es;have l:=key.2 es;unfold Op.equalIn;simp[underlying,f,d];show Result.evThen ((forIn fs (none,()) (Nb 9999 vs.toArray ws.toArray)).run P w) ((forIn fs (none,()) (Nb (9998+1) vs.toArray ws.toArray)).events P w es) _=es;rw[l];cases (forIn fs (none,()) (Nb 9999 vs.toArray ws.toArray)).run P w with
  |ok a w'=>obtain⟨o,_⟩:=a;cases o <;> rfl
  |halt x w'=>rfl
 show (Op.equalIn (9999+1) t _ _).run P w=_;rw[run_equalIn_agg w 9999 t _ _ (by rw[e];exact f) d,e]
 exact key.1
 all_goals exact ld w 9998 _ _ i h (λj v c=>by simpa using c) (λj v c=>by simpa using c)
def IX:List TypeDesc->List A->List A->Option Bool
 |[],[],[]=>some true
 |.int _::ds,.c (.int k a)::cs,.c (.int k' b)::es=>match Bv k k' with
  |true=>match IX ds cs es with
   |some r=>some ((a==b)&&r)
   |none=>none
  |false=>none
 |.string::ds,.c (.str a)::cs,.c (.str b)::es=>match IX ds cs es with
  |some r=>some ((a==b)&&r)
  |none=>none
 |.bool::ds,.c (.bool a)::cs,.c (.bool b)::es=>match IX ds cs es with
  |some r=>some ((a==b)&&r)
  |none=>none
 |_,_,_=>none
theorem yz{σ:List ak}{s:St}:∀ {ds:List TypeDesc}{cs es:List A}{b:Bool}{vs ws:List Value},IX ds cs es=some b->cu σ s vs cs->cu σ s ws es->gk ds vs ws=some b:=by
 intro ds
 induction ds with
 |nil =>
  intro cs es b vs ws h c e;cases cs <;> cases es <;> simp only[IX,reduceCtorEq] at h
  cases vs <;> cases ws <;> first|exact c.elim|exact e.elim|(simpa[gk] using h)
 |cons d ds ih =>
  intro cs es b vs ws h c e;unfold IX at h;split at h
  ·exact absurd (by assumption:d::ds=[]) (by simp)
  ·rename_i n f k a l k' b' es' heq
   cases heq;split at h
   ·rename_i m
    cases uU m;split at h
    ·rename_i r i
     cases h;cases vs with
     |nil=>exact c.elim
     |cons v vs=>cases ws with
      |nil=>exact e.elim
      |cons w ws =>
       obtain⟨v1,j⟩:=c;obtain⟨w1,w2⟩:=e;cases (show Rd s.M v (.int k a) from v1)
       cases (show Rd s.M w (.int k b') from w1)
       simp[gk,m2,ih i j w2]
    ·cases h
   ·cases h
  ·rename_i f a l b' es' heq
   cases heq;split at h
   ·rename_i r i
    cases h;cases vs with
    |nil=>exact c.elim
    |cons v vs=>cases ws with
     |nil=>exact e.elim
     |cons w ws =>
      obtain⟨v1,j⟩:=c;obtain⟨w1,w2⟩:=e;cases (show Rd s.M v (.str a) from v1) with
      |str hx _ =>
      cases (show Rd s.M w (.str b') from w1) with
      |str hy _ =>
      simp only[gk,m2,ih i j w2];subst hx hy;simp[ByteArray.toList_eq]
   ·cases h
  ·rename_i f a l b' es' heq
   cases heq;split at h
   ·rename_i r i
    cases h;cases vs with
    |nil=>exact c.elim
    |cons v vs=>cases ws with
     |nil=>exact e.elim
     |cons w ws =>
      obtain⟨v1,j⟩:=c;obtain⟨w1,w2⟩:=e;cases (show Rd s.M v (.bool a) from v1)
      cases (show Rd s.M w (.bool b') from w1)
      simp[gk,m2,ih i j w2]
   ·cases h
  ·cases h
section
variable {P:Program}{T:List (Nat×TI)}{o:Oper}{g:Operand->D}{σ:List ak}
def ja:BinOp->Bool->Option Bool
 |.eql,b=>some b
 |.neq,b=>some (!b)
 |_,_=>none
theorem o5{op:BinOp}{t:TypeId}{x y:Value}{w:World}{b c:Bool}(a:match x,y with|.agg _,.agg _=>True|.bool _,.bool _=>True|_,_=>False)(d:(Op.equal t x y).run P w=.ok b w)(h:ja op b=some c) :
  (binOp op t x y).run P w=.ok (.bool c) w:=by
 cases op <;> simp only[ja,reduceCtorEq,bL] at h
 ·subst h;cases x <;> cases y <;> simp only at a <;> simp[binOp,d]
 ·subst h;cases x <;> cases y <;> simp only at a <;> simp[binOp,d]
theorem lV{op:BinOp}{t:TypeId}{x y:Value}{w:World}{b c:Bool}(d:match x,y with|.agg _,.agg _=>True|.bool _,.bool _=>True|_,_=>False)(e:(Op.equal t x y).run P w=.ok b w)(a:∀ es,(Op.equal t x y).events P w es=es)(h:ja op b=some c)(es:Array Event) :
  (binOp op t x y).events P w es=es:=by
 cases op <;> simp only[ja,reduceCtorEq,bL] at h <;> (cases x <;> cases y <;> simp only at d <;> simp[binOp,a])
theorem q0(op:BinOp)(t:TypeId)(x y:Operand)(xs ys:Array Value)(w:World)(a:P.eqGuardType P.depth t=false)(es:Array Event):(eqGuard op t x y (.agg xs) (.agg ys)).events P w es=es:=by
 cases op <;> simp[eqGuard,a]
theorem aH.structEq(v:bX P T){op:BinOp}{t ty:TypeId}{x y:Operand}(h:o.op=.binOp op t x y ty){i:TI}(hi:aJ T t=some i)(m:i.eq≠[]){cs es:List A}{b c:Bool}(u:g x=.e (.agg cs))(z:g y=.e (.agg es))
  (n:IX i.eq cs es=some b) (q:ja op b=some c):aH P o g σ (.e (.one (.c (.bool c)))) σ:=by
 refine .quiet λs B hh hr=>?_
 have h1:=hr x;have h2:=hr y;rw[u] at h1;rw[z] at h2;obtain⟨vs,p,f⟩:=h1;obtain⟨k,r,j⟩:=h2;obtain⟨l,heq⟩:=(v t i hi).eqs m;have a:=o5 (x:=.agg vs.toArray) (y:=.agg k.toArray) ab (heq s.w vs k b (yz n f j)).1 q;have d:=lV (x:=.agg vs.toArray) (y:=.agg k.toArray) ab (heq s.w vs k b (yz n f j)).1 (heq s.w vs k b (yz n f j)).2 q;refine⟨.bool c,?_,Rd.bool,by simp only[execOp,h,p,r,Sem.events_bind,run_eqGuard_agg s.w op t x y _ _ l,q0 op t x y _ _ s.w l,Result.evThen_ok,aU,bj,a,d,Sem.events_pure]⟩
 simp only[execOp,h,p,r,aU,run_eqGuard_agg s.w op t x y _ _ l,bj,a,cd]
theorem aH.JS(u:bX P T){op:BinOp}{t ty:TypeId}{x y:Operand}(h:o.op=.binOp op t x y ty){i:TI}(hi:aJ T t=some i)(r:i.desc=.bool){a b c:Bool}(q:g x=.e (.one (.c (.bool a))))(v:g y=.e (.one (.c (.bool b))))
  (n:ja op (a==b)=some c):aH P o g σ (.e (.one (.c (.bool c)))) σ:=by
 refine .quiet λs p hh hr=>?_
 have h1:=hr x;have h2:=hr y;rw[q] at h1;rw[v] at h2
 replace h1:=eB h1
 replace h2:=eB h2
 generalize k:p x=vx at h1;generalize j:p y=vy at h2;cases h1;cases h2;have m:P.underlying t=some .bool:=by rw[(u t i hi).LL,r]
 have d:=o5 (P:=P) (w:=s.w) (x:=.bool a) (y:=.bool b) ab (run_equal_bool s.w t a b m) n;have l:∀ es,(Op.equal t (.bool a) (.bool b)).events P s.w es=es:=λes=>by
  show (Op.equalIn (9999+1) t _ _).events P s.w es=es;unfold Op.equalIn;simp[underlying,m]
 have f:=lV (P:=P) (w:=s.w) (x:=.bool a) (y:=.bool b) ab (run_equal_bool s.w t a b m) l n;refine⟨.bool c,?_,Rd.bool,by simp only[execOp,h,k,j,Sem.events_bind,eqGuard_at_bool,Sem.events_pure,cd,Result.evThen_ok,aU,bj,d,f]⟩
 simp only[execOp,h,k,j,aU,eqGuard_at_bool,cd,bj,d]
theorem aH.ML{t ty:TypeId}{x y:Operand}(h:o.op=.binOp .xor t x y ty){a b:Int}(n:g x=.e (.one (.c (.int .i64 a))))(p:g y=.e (.one (.c (.int .i64 b))))(r:0<=a)(h1:0<=b) :
  aH P o g σ (.e (.one (.c (.int .i64 ((a.toNat ^^^ b.toNat:Nat):Int))))) σ:=by
 refine .quiet λs m hh hr=>?_
 have e1:=hr x;have e2:=hr y;rw[n] at e1;rw[p] at e2
 replace e1:=eB e1
 replace e2:=eB e2
 generalize k:m x=vx at e1;generalize j:m y=vy at e2;cases e1 with|int ha =>
 cases e2 with|int hb =>
 have q:a.toNat ^^^ b.toNat<2 ^ 63:=by
  apply Nat.xor_lt_two_pow <;> simp only[aB] at ha hb <;> omega
 have i:aB .i64 ((a.toNat ^^^ b.toNat:Nat):Int):=by simp only[aB];omega
 refine⟨.int .i64 ((a.toNat ^^^ b.toNat:Nat):Int),?_,.int i,?_⟩
 rotate_left
 ·simp only[execOp,h,k,j,Sem.events_bind,eu,gg,Result.evThen_ok,Go.binOp,cf,e9,aM,Op.intBits,aU,bj,cd,Sem.events_pure]
 have f:((BitVec.ofInt 64 a) ^^^ (BitVec.ofInt 64 b)).toNat=a.toNat ^^^ b.toNat:=by
  rw[BitVec.toNat_xor,BitVec.toNat_ofInt,BitVec.toNat_ofInt];simp only[aB] at ha hb
  congr 1 <;> omega
 have d:(BitVec.ofInt IntKind.i64.bits a ^^^ BitVec.ofInt IntKind.i64.bits b).toNat=a.toNat ^^^ b.toNat:=f;have l:(Go.binOp .xor t (.int .i64 a) (.int .i64 b)).run P s.w=.ok (.int .i64 ((a.toNat ^^^ b.toNat:Nat):Int)) s.w:=by
  simp only[Go.binOp,cf,e9,aM,Op.intBits,cd];rw[d,jB i]
 simp only[execOp,h,k,j,aU,eu,bj,l,cd]
theorem aH.Bf(A:bX P T){m dst:TypeId}{x:Operand}(h:o.op=.convert m dst x){i L J:TI}{E:TypeId}(hi:aJ T m=some i)(F:aJ T dst=some L)(U:i.desc=.slice E)(I:L.desc=.string)(Z:aJ T E=some J)(B:J.desc=.int .u8)
  {tt:Bool} {n:Nat} {es:Nat->List C} {r:List UInt8} (W:∀ s v,b5 σ s v (g x)->Rd s.M v (.sl tt 1 n es)) (S:qF es 0 n=some r):aH P o g σ (.e (.one (.c (.str r)))) σ:=by
 refine .kU λs ρ hh hr=>?_
 have h1:=W s _ (hr x);obtain⟨vs,N,b⟩:=cD (P:=P) hh h1;obtain⟨a,cap,V,q,O,R,_⟩:=h1.flat;have Q:n<=9223372036854775807:=by omega
 have t:vs.length=n:=by rw[N.len];omega
 obtain⟨xs,e1,e2⟩:=s9 (M:=s.M) (vs:=vs) S t (λj hj c X=>by
  obtain⟨v,Y,p2⟩:=N.rd j hj 0 c (by simpa using X)
  exact⟨v,by simpa using Y,p2⟩)
 have G:=(A m i hi).run_underlying (w:=s.w);have f:=(A dst L F).run_underlying (w:=s.w);have p:=(A E J Z).run_underlying (w:=s.w);rw[U] at G;rw[I] at f;rw[B] at p;have H:r.length<=9223372036854775807:=by
  rw[e2,iN];have:xs.length=n:=by rw[<-t,e1,iN]
  omega
 have k:∃ z:ByteArray,(Conv.bytesToString (.slice a n cap)).run P s.w=.ok (.string z) s.w/\z.data.toList=r:=by
  cases a with
  |none =>
   have u:r=[]:=by
    have:vs=[]:=by
     rw[q] at b;have h2:=b.1;simp[Builtin.firstCells] at h2;simpa using h2
    rw[this] at e1;have:xs=[]:=by simpa using e1.symm
    rw[e2,this];rfl
   exact⟨ByteArray.empty,by simp[Conv.bytesToString],by rw[u];rfl⟩
  |some ad =>
   rw[q] at b;have h2:=b.1;simp only[Builtin.firstCells,ma] at h2;refine⟨⟨#[]++(xs.map λx=>UInt8.ofNat x.toNat).toArray⟩,?_,by rw[e2];simp⟩
   simp only[Conv.bytesToString,aU,h2,bj,e1];rw[List.forIn_toArray,ll (P:=P) s.w (λ_ _=>rfl) xs ByteArray.empty]
   rfl
 obtain⟨z,y,K⟩:=k;refine⟨.string z,?_,Rd.str K H,?_⟩
 rotate_left
 ·intro e d;simp only[execOp,h,q,Sem.events_bind,convert,G,f,Result.evThen_ok,bj,p,y,aU,events_underlying,Sem.events_pure] at d;cases a with
  |none=>simp[Conv.bytesToString] at d
  |some ad =>
   have l:=fE (P:=P) hh (h1.x4 (λ_ _=>rfl)) (w:=s.w) rfl
   rw[q] at b l;have h2:=b.1;simp only[Builtin.firstCells,ma] at h2 l;unfold Conv.bytesToString at d;simp only at d;rw[Sem.events_bind,h2,Result.evThen_ok,bM.bind (P:=P) ?_ λ_=>.pure] at d
   ·exact qo (l e d)
   ·rw[List.forIn_toArray];refine bM.Ds (λx s=>?_) _ _
    split
    ·exact .pure
    ·exact .bind .stuck λ_=>.pure
 simp only[execOp,h,q,aU,convert,G,f,bj,p,y,cd]
end
def qG(g:Operand->D):List Operand->Option (List C)
 |[]=>some []
 |x::r=>match g x with
  |.e (.one (.c c))=>match qG g r with
   |some q=>some (c::q)
   |none=>none
  |_=>none
theorem q8{σ:List ak}{s:St}{b:Operand->Value}{g:Operand->D}(d:∀ y,b5 σ s (b y) (g y)):∀ {xs:List Operand}{cs:List C},qG g xs=some cs->xs.length=cs.length/\∀ (j:Nat)(c:C),cs[j]?=some c->∃ v,(xs.map b)[j]?=some v/\Rd s.M v c
 |[],cs,h=>by cases h;exact⟨rfl,by simp⟩
 |x::r,cs,h=>by
  simp only[qG] at h;split at h
  ·rename_i c e
   split at h
   ·rename_i q i
    cases h;obtain⟨l,k⟩:=q8 d i;refine⟨by simp[l],λj f a=>?_⟩
    cases j with
    |zero =>
     simp at a;subst a;have:=d x;rw[e] at this;exact⟨b x,by simp,eB this⟩
    |succ j=>exact(by simpa using k j f (by simpa using a))
   ·cases h
  ·cases h
section
variable {P:Program}{T:List (Nat×TI)}{o:Oper}{g:Operand->D}{σ:List ak}
theorem aH.makeFunc{fn:Fn}{a b:Array Operand}(h:o.op=.makeFunc fn a b){f i:List C}(q:qG g a.toList=some f)(m:qG g b.toList=some i):aH P o g σ (.e (.one (.c (.fn fn f i)))) σ:=by
 refine .quiet λs d hh hr=>?_
 obtain⟨l,k⟩:=q8 hr q;obtain⟨r,t⟩:=q8 hr m;have p:a.map d=(a.toList.map d).toArray:=by apply gI;simp
 have n:b.map d=(b.toList.map d).toArray:=by apply gI;simp
 refine⟨.func fn (a.toList.map d).toArray (b.toList.map d).toArray,?_,?_,by simp only[execOp,h,Instr.makeFunc];rfl⟩
 ·simp only[execOp,h,Instr.makeFunc,p,n];rfl
 ·refine Rd.fn _ _ (by simpa using l) (by simpa using r) (λj=>((a.toList.map d)[j]?).getD undef) (λj=>((b.toList.map d)[j]?).getD undef) ?_ ?_ ?_ ?_
  ·intro j hj;rw[aj hj];rfl
  ·intro j hj;rw[aj hj];rfl
  ·intro j c hj;obtain⟨v,h1,h2⟩:=k j c hj;rw[h1];exact h2
  ·intro j c hj;obtain⟨v,h1,h2⟩:=t j c hj;rw[h1];exact h2
def nJ:TypeDesc->Bool
 |.interface _=>true
 |_=>false
def p6(t:TypeId):D->Option C
 |.e (.one (.c c))=>some (.ifs t c)
 |.e (.agg cs)=>match eJ cs with
  |some q=>some (.Dj t q)
  |none=>none
 |_=>none
theorem yA{s:St}{v:Value}{t:TypeId}{d:D}{c:C}(h:p6 t d=some c)(r:b5 σ s v d):Rd s.M (.iface t v) c:=by
 unfold p6 at h;split at h
 ·cases h;exact Rd.ifs (eB r) (eB r).cell
 ·split at h
  ·rename_i q i
   cases h;obtain⟨vs,rfl,f⟩:=r;have b:=iK i f;refine Rd.Dj (by have:=b.length;simpa using this) (λj=>(vs[j]?).getD undef) (λj e=>by rw[aj e];rfl) λj c e=>?_
   obtain⟨v,l,k⟩:=b.get (j:=j) (a:=.c c) (by simp[e])
   rw[l];exact k
  ·cases h
 ·cases h
theorem aH.makeInterface(k:bX P T){t:TypeId}{x:Operand}(h:o.op=.makeInterface t x){i:TI}(hi:aJ T t=some i)(b:nJ i.desc=false){c:C}(f:p6 t (g x)=some c):aH P o g σ (.e (.one (.c c))) σ:=by
 refine .quiet λs j hh hr=>?_
 have d:=(k t i hi).run_underlying (w:=s.w);refine⟨.iface t (j x),?_,yA f (hr x),?_⟩
 rotate_left
 ·simp only[execOp,h,Instr.makeInterface,Sem.events_bind,aU,d,Result.evThen_ok,bj,events_underlying];cases a:i.desc <;> rw[a] at b <;> first|(cases b;done)|simp
 simp only[execOp,h,Instr.makeInterface,aU,d,bj];cases a:i.desc <;> rw[a] at b <;> first|(cases b;done)|simp
def ta(i:TI):Option E1:=match i.agg with
 |true=>some (.agg (i.zero.map A.c))
 |false=>none
theorem Ee{i:TI}{t:TypeId}(h:aC P t i){s:St}{e:E1}(b:ta i=some e):∃ z,(zeroValue t).run P s.w=.ok z s.w/\jr σ s z e:=by
 obtain⟨z,d,a⟩:=h.wB σ s;refine⟨z,d,?_⟩;obtain⟨n,j,m,r,q,l,p,⟨cs,f⟩,u⟩:=h.info;have c:j=z:=by
  have:(zeroValue t).run P s.w=.ok j s.w:=by simp[zeroValue,typeInfo,m,l]
  rw[this] at d;cases d;rfl
 subst c;unfold ta at b;cases k:i.agg with
 |true =>
  rw[k] at b f;simp only[aV] at f;cases b;rw[f] at a ⊢;exact⟨cs.toList,by simp,by simpa[Value.cells] using a⟩
 |false=>rw[k] at b;cases b
def ml(t:TypeId)(i:TI):C->Option (E1×Bool)
 |.ifs t' c=>match Nat.beq t' t with
  |true=>some (.one (.c c),true)
  |false=>match ta i with
   |some e=>some (e,false)
   |none=>none
 |.Dj t' cs=>match Nat.beq t' t with
  |true=>some (.agg (cs.map A.c),true)
  |false=>match ta i with
   |some e=>some (e,false)
   |none=>none
 |.kW=>match ta i with
  |some e=>some (e,false)
  |none=>none
 |_=>none
theorem aH.typeAssert(J:bX P T){x:Operand}{F t:TypeId}(h:o.op=.typeAssert x F t true){i:TI}(hi:aJ T t=some i)(K:nJ i.desc=false){c:C}(N:g x=.e (.one (.c c))){e:E1}{b:Bool}(d:ml t i c=some (e,b)) :
  aH P o g σ (.eD [e,.one (.c (.bool b))]) σ:=by
 refine .quiet λs E hh hr=>?_
 have h1:=hr x;rw[N] at h1
 replace h1:=eB h1
 generalize B:E x=vx at h1;have r:=(J t i hi).run_underlying (w:=s.w);have key:∀ (v:Value) (b:Bool),(Instr.typeAssert vx F t true).run P s.w=.ok (.tuple #[v,.bool b]) s.w->jr σ s v e->(Instr.typeAssert vx F t true).events P s.w #[]=#[]->∃ v,(execOp E o).run P s.w=.ok (.value v) s.w/\b5 σ s v (.eD [e,.one (.c (.bool b))])/\(execOp E o).events P s.w #[]=#[]:=by
  intro v b h1 h2 h3;refine⟨.tuple #[v,.bool b],?_,⟨[v,.bool b],rfl,h2,Rd.bool,ab⟩,by simp only[execOp,h,B,Sem.events_bind,h1,h3,Result.evThen_ok,Sem.events_pure]⟩
  simp only[execOp,h,B,aU,h1,bj,cd]
 have fail:∀ y,ta i=some y->(∀ z,(zeroValue t).run P s.w=.ok z s.w->(Instr.typeAssert vx F t true).run P s.w=.ok (.tuple #[z,.bool false]) s.w/\(Instr.typeAssert vx F t true).events P s.w #[]=#[])->e=y->b=false->∃ v,(execOp E o).run P s.w=.ok (.value v) s.w/\b5 σ s v (.eD [e,.one (.c (.bool b))])/\(execOp E o).events P s.w #[]=#[]:=by
  intro y q n G l;subst G l;obtain⟨z,h3,O⟩:=Ee (σ:=σ) (J t i hi) (s:=s) q;exact key z false (n z h3).1 O (n z h3).2
 have k:∀ m,i.desc≠.interface m:=by intro m e;rw[e] at K;cases K
 cases h1 with
 |@ifs t' v c h2 hc =>
  simp only[ml] at d;cases l:Nat.beq t' t with
  |true =>
   rw[l] at d;cases d;have I:=bk l;subst I;refine key v true ?_ h2 ?_ <;>
   ·unfold Instr.typeAssert;simp only[aU,r,bj,Sem.events_bind,Result.evThen_ok,events_underlying];cases a:i.desc <;> first|(exact absurd a (k _))|simp
  |false =>
   rw[l] at d;have p:t'≠t:=λe=>by subst e;rw[jX] at l;cases l
   simp only at d;split at d
   ·rename_i y q
    cases d;refine fail _ q (λz h3=>⟨?_,?_⟩) rfl rfl <;>
    ·unfold Instr.typeAssert;simp only[aU,r,bj,Sem.events_bind,Result.evThen_ok,events_underlying];cases a:i.desc <;> first|(exact absurd a (k _))|simp[p,h3]
   ·cases d
 |@Dj t' vs cs hl f Q H =>
  simp only[ml] at d;cases l:Nat.beq t' t with
  |true =>
   rw[l] at d;cases d;have I:=bk l;subst I;refine key (.agg vs.toArray) true ?_ ⟨vs,rfl,?_⟩ ?_
   rotate_left 2
   ·unfold Instr.typeAssert;simp only[r,Sem.events_bind,Result.evThen_ok,events_underlying];cases a:i.desc <;> first|(exact absurd a (k _))|simp
   ·unfold Instr.typeAssert;simp only[aU,r,bj];cases a:i.desc <;> first|(exact absurd a (k _))|simp
   ·have go:∀ (vs:List Value) (cs:List C),vs.length=cs.length->(∀ (j:Nat) (c:C),cs[j]?=some c->∃ v,vs[j]?=some v/\Rd s.M v c)->cu σ s vs (cs.map A.c):=by
     intro vs
     induction vs with
     |nil=>intro cs hl _;cases cs with|nil=>trivial|cons _ _=>simp at hl
     |cons v vs ih =>
      intro cs hl hg;cases cs with
      |nil=>simp at hl
      |cons c cs =>
       obtain⟨u,L,p2⟩:=hg 0 c rfl;simp at L;subst L;exact⟨p2,ih cs (by simpa using hl) (λj c hj=>by simpa using hg (j+1) c (by simpa using hj))⟩
    refine go vs cs hl λj c hj=>⟨f j,Q j ?_,H j c hj⟩
    rw[hl];exact(aE.1 hj).1
  |false =>
   rw[l] at d;have p:t'≠t:=λe=>by subst e;rw[jX] at l;cases l
   simp only at d;split at d
   ·rename_i y q
    cases d;refine fail _ q (λz h3=>⟨?_,?_⟩) rfl rfl <;>
    ·unfold Instr.typeAssert;simp only[aU,r,bj,Sem.events_bind,Result.evThen_ok,events_underlying];cases a:i.desc <;> first|(exact absurd a (k _))|simp[p,h3]
   ·cases d
 |kW =>
  simp only[ml] at d;split at d
  ·rename_i y q
   cases d;refine fail _ q (λz h3=>⟨?_,?_⟩) rfl rfl <;>
   ·unfold Instr.typeAssert;simp only[aU,r,bj,Sem.events_bind,Result.evThen_ok,events_underlying];cases a:i.desc <;> first|(exact absurd a (k _))|simp[h3]
  ·cases d
 |_=>simp[ml] at d
end
def vL(op:BinOp)(k:IntKind) (a:Int)(k':IntKind) (b:Int):Option (Int×List Prop) :=
 match k with
 |.u64=>match op with
  |.shl=>some (((a.toNat*2 ^ b.toNat % 18446744073709551616:Nat):Int),[0<=b,b<=64])
  |.shr=>some (((a.toNat / 2 ^ b.toNat:Nat):Int),[0<=b,b<=64])
  |.and=>match k' with|.u64=>some (((a.toNat &&& b.toNat:Nat):Int),[])|_=>none
  |.xor=>match k' with|.u64=>some (((a.toNat ^^^ b.toNat:Nat):Int),[])|_=>none
  |_=>none
 |_=>none
section
variable {P:Program}{T:List (Nat×TI)}{o:Oper}{d:Operand->D}{σ:List ak}
theorem bits_nat{a:Int}(h:aB .u64 a):(BitVec.ofInt IntKind.u64.bits a).toNat=a.toNat:=by
 rw[BitVec.toNat_ofInt];simp only[aB] at h;simp only[IntKind.bits];omega
theorem A8{op:BinOp}{k k':IntKind}{a b c:Int}{obs:List Prop}(t:TypeId)(f:vL op k a k' b=some (c,obs))(r:aa obs)(h:aB k a)(i:aB k' b)(w:World) :
  aB k c/\(Go.binOp op t (.int k a) (.int k' b)).run P w=.ok (.int k c) w/\(Go.binOp op t (.int k a) (.int k' b)).events P w #[]=#[]:=by
 unfold vL at f;split at f
 ·split at f
  ·cases f;obtain⟨u,s⟩:0<=b/\b<=64:=r;have v:a.toNat*2 ^ b.toNat % 18446744073709551616<18446744073709551616:=jA _ (by decide)
   simp only[aB] at h;refine⟨by simp only[aB];omega,?_⟩
   have n:IntKind.wrap .u64 (a*2 ^ (min b.toNat IntKind.u64.bits))=((a.toNat*2 ^ b.toNat % 18446744073709551616:Nat):Int):=by
    have l:min b.toNat IntKind.u64.bits=b.toNat:=by rw[show IntKind.u64.bits=64 from rfl];omega
    have j:a=(a.toNat:Int):=by omega
    rw[l,j];simp only[IntKind.wrap,IntKind.bits,IntKind.signed,az];have m:((a.toNat:Int)*2 ^ b.toNat)=((a.toNat*2 ^ b.toNat:Nat):Int):=by push_cast;rfl
    rw[m];simp
   simp only[Go.binOp,Op.shift,an (show ¬b<0 by omega),n]
   exact⟨rfl,rfl⟩
  ·cases f;obtain⟨u,s⟩:0<=b/\b<=64:=r;simp only[aB] at h;have p:a.toNat / 2 ^ b.toNat<=a.toNat:=Nat.div_le_self _ _;refine⟨by simp only[aB];generalize a.toNat / 2 ^ b.toNat=q at p ⊢;omega,?_⟩
   have n:a.fdiv (2 ^ (min b.toNat IntKind.u64.bits))=((a.toNat / 2 ^ b.toNat:Nat):Int):=by
    have l:min b.toNat IntKind.u64.bits=b.toNat:=by rw[show IntKind.u64.bits=64 from rfl];omega
    have j:a=(a.toNat:Int):=by omega
    rw[l,j];have m:(2:Int) ^ b.toNat=((2 ^ b.toNat:Nat):Int):=by push_cast;rfl
    rw[m,az,Int.fdiv_eq_ediv_of_nonneg _ (Int.natCast_nonneg _)];rfl
   simp only[Go.binOp,Op.shift,an (show ¬b<0 by omega),n]
   exact⟨rfl,rfl⟩
  ·split at f
   ·cases f;have s:a.toNat &&& b.toNat<=a.toNat:=Nat.and_le_left;have g:aB .u64 ((a.toNat &&& b.toNat:Nat):Int):=by simp only[aB] at h ⊢;omega
    refine⟨g,?_⟩;have e:(BitVec.ofInt IntKind.u64.bits a &&& BitVec.ofInt IntKind.u64.bits b).toNat=a.toNat &&& b.toNat:=by rw[BitVec.toNat_and,bits_nat h,bits_nat i]
    simp only[Go.binOp,cf,e9,aM,Op.intBits,e,jB g];exact⟨rfl,rfl⟩
   ·cases f
  ·split at f
   ·cases f;have g:aB .u64 ((a.toNat ^^^ b.toNat:Nat):Int):=by
     simp only[aB] at h i ⊢;have:a.toNat ^^^ b.toNat<2 ^ 64:=Nat.xor_lt_two_pow (by omega) (by omega)
     omega
    refine⟨g,?_⟩;have e:(BitVec.ofInt IntKind.u64.bits a ^^^ BitVec.ofInt IntKind.u64.bits b).toNat=a.toNat ^^^ b.toNat:=by rw[BitVec.toNat_xor,bits_nat h,bits_nat i]
    simp only[Go.binOp,cf,e9,aM,Op.intBits,e,jB g];exact⟨rfl,rfl⟩
   ·cases f
  ·cases f
 ·cases f
theorem aH.bits{op:BinOp}{t ty:TypeId}{x y:Operand}{k k':IntKind}{a b c:Int}{obs:List Prop}(h:o.op=.binOp op t x y ty)(m:d x=.e (.one (.c (.int k a))))(q:d y=.e (.one (.c (.int k' b))))(r:vL op k a k' b=some (c,obs))(l:aa obs) :
  aH P o d σ (.e (.one (.c (.int k c)))) σ:=by
 refine .quiet λs i hh hr=>?_
 have h1:=hr x;have h2:=hr y;rw[m] at h1;rw[q] at h2
 replace h1:=eB h1
 replace h2:=eB h2
 generalize g:i x=vx at h1;generalize f:i y=vy at h2;cases h1 with|int ha =>
 cases h2 with|int hb =>
 obtain⟨p,j,n⟩:=A8 (P:=P) t r l ha hb s.w;exact⟨.int k c,by simp only[execOp,h,aU,g,f,eu,bj,j,cd],.int p,by simp[execOp,h,g,f,eu,gg,j,n]⟩
end
end Go.AM
namespace Go.AM
open Go.Conc (G)
def fX(i:Nat)(ci:List C)(es:Nat->List C):Nat->List C:=λj=>if j=i then ci else es j
def om(lo hi:Nat)(z:List C)(es:Nat->List C):Nat->List C:=λj=>if lo<=j/\j<hi then z else es j
section
variable {P:Program}{T:List (Nat×TI)}{o:Oper}{B:Operand->D}{σ:List ak}{s:St}{l g:Nat}{E:TypeId}{k n:Nat}{es:Nat->List C}
theorem Eh(t:ag σ s)(e:σ[l]?=some (.buf E k n es)){k' i f:Nat}{v:Value}(p:eQ σ s v (.bp l (.el g k' i f)))(q:g=n) :
  ∃ b c vs zs,s.β[l]?=some ⟨.slice (some ⟨b,0,none⟩) 0 c,[b]⟩/\v=.pointer (some ⟨b,i*k'+f,none⟩)/\s.w.heap[b]?=some (.cells (vs++zs).toArray E (0,0))/\(vs++zs).length=c*k/\n<=c/\c<=9223372036854775807/\Flat s.M k n es vs/\∀ o,s.M b o=none:=by
 obtain⟨G,⟨b,c,d,m⟩,_,u⟩:=p;obtain⟨L,h,a⟩:=(u _ _ _ _ e).2 q;rw[d] at a;rcases t.box l _ L e h with⟨_,rfl⟩|⟨F,H,vs,zs,rfl,j,y,r,A,x,z⟩
 ·cases a
 ·cases a;exact⟨b,c,vs,zs,h,m,j,y,r,A,x,z⟩
theorem Ei{g:Nat->Value}:∀ {ds:List C}{m:Nat},(∀ j c,ds[j]?=some c->Rd s.M (g (m+j)) c)->cu σ s ((List.range ds.length).map λj=>g (m+j)) (ds.map A.c)
 |[],m,_=>trivial
 |d::ds,m,h=>by
  rw[fa,tU];refine⟨h 0 d rfl,?_⟩;have:=Ei (ds:=ds) (m:=m+1) (λj c a=>by have:=h (j+1) c (by simpa using a);rwa [show m+1+j=m+(j+1) by omega])
  simpa[Function.comp_def,iz,iB 1] using this
theorem aH.Pw(H:bX P T){t:TypeId}{x y:Operand}(h:o.op=.indexAddr t x y){i f:TI}{E:TypeId}(hi:aJ T t=some i)(N:i.desc=.slice E)(S:aJ T E=some f)
  {q m:Nat} {j:Int} {kk:IntKind} (O:B x=.e (.one (.bp l (.sl g f.size q m)))) (R:B y=.e (.one (.c (.int kk j)))) (V:0<=j) (h1:j<m):aH P o B σ (.e (.one (.bp l (.el g f.size (q+j.toNat) 0)))) σ:=by
 refine .quiet λs I hh hr=>?_
 have p:=hr x;rw[O] at p;have h2:=hr y;rw[R] at h2
 replace h2:=eB h2
 generalize u:I y=vy at h2;cases h2;have d:=p
 change eQ σ s (I x) (.bp l _) at d
 obtain⟨lv,⟨a,a0,cap,L,M,Q,U,K,z,A⟩,v,F⟩:=d;obtain⟨b,rfl,rfl⟩:=A (by omega)
 have J:=(H t i hi).run_underlying (w:=s.w);rw[N] at J;obtain⟨r,rfl⟩:∃ r:Nat,j=r:=⟨j.toNat,by omega⟩
 have G:r<m:=by omega
 refine⟨.pointer (some ⟨b,(q+r)*f.size,none⟩),?_,⟨lv,⟨b,L,z,by simp⟩,v,F⟩,?_⟩ <;>
 simp[execOp,h,M,u,Instr.indexAt,asIntOf,J,(H E f S).run_sizeOf,cg,G,ez]
theorem aH.JV(v:bX P T){t:TypeId}{x:Operand}{f:Nat}(h:o.op=.fieldAddr t x f){c i q off:Nat}{j:TI}(y:B x=.e (.one (.bp l (.el g c i q))))(u:gh T t f=some (off,j)):aH P o B σ (.e (.one (.bp l (.el g c i (q+off))))) σ:=by
 refine .quiet λs z hh hr=>?_
 have h1:=hr x;rw[y] at h1;have a:=h1
 change eQ σ s (z x) (.bp l _) at a
 obtain⟨lv,⟨b,w,d,r⟩,p,m⟩:=a;exact⟨.pointer (some ⟨b,i*c+q+off,none⟩),by simp[execOp,h,r,jK v u],⟨lv,⟨b,w,d,by rw[iz]⟩,p,m⟩,by simp[execOp,h,r,la v u]⟩
theorem aH.Px{x:Operand}(h:o.op=.nilCheck x){j i q:Nat}(m:B x=.e (.one (.bp l (.el g j i q)))):aH P o B σ (.e (.one (.bp l (.el g j i q)))) σ:=by
 refine .quiet λs f hh hr=>?_
 have h1:=hr x;rw[m] at h1;have c:=h1;have a:=h1
 change eQ σ s (f x) (.bp l _) at a
 obtain⟨lv,⟨b,u,p,d⟩,t,r⟩:=a;exact⟨f x,by simp[execOp,h,d],c,by simp[execOp,h,d]⟩
theorem aH.Py(F:bX P T){x:Operand}{b:Array TypeId}{t:TypeId}(h:o.op=.call { callee:=.builtin .len,args:=#[x],argTypes:=b })(z:b[0]?=some t){i:TI}{E:TypeId}(hi:aJ T t=some i)(y:i.desc=.slice E)
  {A q m:Nat} (p:B x=.e (.one (.bp l (.sl g A q m)))):aH P o B σ (.e (.one (.c (.int .i64 m)))) σ:=by
 refine .quiet λs v hh hr=>?_
 have h1:=hr x;rw[p] at h1;have d:=h1
 change eQ σ s (v x) (.bp l _) at d
 obtain⟨lv,⟨a,a0,cap,L,j,r,K,u,G,H⟩,J,I⟩:=d;have f:=(F t i hi).run_underlying (w:=s.w);rw[y] at f;refine⟨.int .i64 m,?_,Rd.int (by simp only[aB];omega),?_⟩ <;>
 simp[execOp,h,resolve,invoke,builtin,Builtin.len_,j,f,goInt,z]
theorem aH.sliceB(G:bX P T){t:TypeId}{x:Operand}{lo hi:Option Operand}(h:o.op=.slice t x lo hi none){i j:TI}{E:TypeId}(z:aJ T t=some i)(O:i.desc=.slice E)(S:aJ T E=some j){q m:Nat}{d u:Option Int}
  (R:B x=.e (.one (.bp l (.sl g j.size q m)))) (hl:px B lo=some d) (K:px B hi=some u) (L:aa (il m d u)):aH P o B σ (.e (.one (.bp l (.sl g j.size (q+cA 0 d) (cA m u-cA 0 d))))) σ:=by
 refine .quiet λst ρ hh hr=>?_
 have h1:=hr x;rw[R] at h1;have f:=h1
 change eQ σ st (ρ x) (.bp l _) at f
 obtain⟨lv,⟨a,a0,cap,M,H,p,U,r,y,A⟩,v,F⟩:=f;obtain⟨J,N,Q⟩:=kV (P:=P) (isS:=true) p (fM hr hl) (fM hr K) L st.w;have c:=(G t i z).run_underlying (w:=st.w);rw[O] at c;refine⟨.slice (if cap=cA 0 d then a else a.map (·.add (cA 0 d*j.size))) (cA m u-cA 0 d) (cap-cA 0 d),?_,⟨lv,⟨_,a0,_,M,rfl,by omega,by omega,r,y,λI=>?_⟩,v,F⟩,by simp[execOp,h,H,Instr.sliceAt,c,Instr.slice,J,mf (P:=P) (isS:=true) p (fM hr hl) (fM hr K) L st.w]⟩
 ·simp[execOp,h,H,Instr.sliceAt,c,Instr.slice,J,(G E j S).run_sizeOf]
 ·obtain⟨b,rfl,rfl⟩:=A (by omega)
  refine⟨b,rfl,?_⟩;rw[an (by omega)]
  simp[cg,ez]
theorem aH.MM(K:bX P T){t:TypeId}{x:Operand}(h:o.op=.load t x){i f:Nat}{G:TI}{e:E1}(R:B x=.e (.one (.bp l (.el g k i f))))(F:g=n)(hl:σ[l]?=some (.buf E k n es))(hi:aJ T t=some G)(L:ki G ((eR f (es i)).map A.c)=some e)(q:i<n):aH P o B σ (.e e) σ:=by
 refine .kU λs Q hh hr=>?_
 have h1:=hr x;rw[R] at h1;obtain⟨b,Y,vs,Z,S,N,p,W,X,U,J,hM⟩:=Eh hh hl h1 F;have hw:=J.width i q
 let g:Nat->Value:=λj=>vs.getD (i*k+j) undef
 have F:∀ j c,(eR f (es i))[j]?=some c->vs[i*k+(f+j)]?=some (g (f+j))/\Rd s.M (g (f+j)) c:=by
  intro j c hj;rw[ky,l6] at hj;obtain⟨v,v1,V⟩:=J.rd i q (f+j) c hj;have:g (f+j)=v:=by simp[g,List.getD_eq_getElem?_getD,v1]
  exact⟨by rw[this,v1],by rw[this];exact V⟩
 have H:=Ei (σ:=σ) (s:=s) (g:=g) (ds:=eR f (es i)) (m:=f) (λj c hj=>(F j c hj).2)
 have a:∀ (j:Nat) (v:Value),((List.range (eR f (es i)).length).map λj=>g (f+j))[j]?=some v->s.w.cell? ⟨b,i*k+f+j,none⟩=some v:=by
  intro j v hj;simp only[kM] at hj
  by_cases d:j<(eR f (es i)).length
  ·simp[d] at hj;subst hj;have h2:=(F j _ (aj d)).1;simp only[World.cell?,p];have z:=(aE.1 h2).1;rw[show i*k+f+j=i*k+(f+j) by omega]
   simpa[bS z] using h2
  ·simp[d] at hj
 obtain⟨v,u,I⟩:=lT (s:=s) (σ:=σ) (P:=P) (K t G hi) (b:=b) (off:=i*k+f) (e:=e) a H L;refine⟨v,by simp[execOp,h,N,Instr.loadAt,Instr.sureAddr,u],I,λO y=>?_⟩
 have r:O∈(loadVar t ⟨b,i*k+f,none⟩).events P s.w #[]:=by
  have e:execOp Q o=(do pure (.value (<-loadVar t ⟨b,i*k+f,none⟩))):=by simp[execOp,h,N,Instr.loadAt,Instr.sureAddr]
  rw[e] at y;simpa[u] using y
 obtain⟨j,hj,rfl⟩:=gL (K t G hi) (n:=(eR f (es i)).length) (λj hj=>⟨_,a j (g (f+j)) (by simp[hj])⟩) (by have:=nC L;simpa using this) O r
 exact nw (aG S) (by simp)
theorem Flat.put{M:Mem}{vs kX:List Value}{i f:Nat}{cc ci:List C}(h:Flat M k n es vs)(hi:i<n)(t:dv f cc (es i)=some ci)(hl:kX.length=cc.length)(r:∀ (j:Nat)(c:C),cc[j]?=some c->∃ v,kX[j]?=some v/\Rd M v c) :
  i*k+f+kX.length<=vs.length/\Flat M k n (fX i ci es) (vs.take (i*k+f)++kX++vs.drop (i*k+f+kX.length)):=by
 obtain⟨h1,h2⟩:=mo t;have F:=h.width i hi;have A:i*k+k<=n*k:=by
  have:=eb k (show i+1<=n by omega)
  rwa [ez,l9] at this
 have u:=h.len;have m:i*k+f+kX.length<=vs.length:=by omega
 have d:∀ p,(vs.take (i*k+f)++kX++vs.drop (i*k+f+kX.length))[p]?=if p<i*k+f then vs[p]? else if p<i*k+f+kX.length then kX[p-(i*k+f)]? else vs[p]?:=by
  intro p;have w:(vs.take (i*k+f)).length=i*k+f:=by simp;omega
  by_cases c1:p<i*k+f
  ·rw[aq c1,c9,bS (by omega),dx,aq c1]
  ·rw[an c1]
   by_cases c2:p<i*k+f+kX.length
   ·rw[aq c2,c9,cj (by omega),bS (by omega),w]
   ·rw[an c2,cj (by simp;omega),l6]
    congr 1
    simp;omega
 refine⟨m,⟨by simp;omega,λb a=>?_,λb a j c hj=>?_⟩⟩
 ·simp only[fX];split
  ·rw[h2];simp;omega
  ·exact h.width b a
 ·simp only[fX] at hj;rw[d];split at hj
  ·rename_i e
   subst e;rw[h2] at hj
   by_cases c1:j<f
   ·rw[c9,bS (by simp;omega),dx,aq c1] at hj
    rw[aq (by omega)]
    exact h.rd b hi j c hj
   ·by_cases c2:j<f+cc.length
    ·rw[c9,cj (by simp;omega),bS (by simp;omega)] at hj
     obtain⟨v,v1,x⟩:=r _ c hj;refine⟨v,?_,x⟩;rw[an (by omega),aq (by omega),<-v1]
     congr 1
     simp;omega
    ·rw[cj (by simp;omega),l6] at hj
     rw[an (by omega),an (by omega)]
     refine h.rd b hi j c ?_;rw[<-hj]
     congr 1
     simp;omega
  ·rename_i e
   have z:j<k:=by have:=(aE.1 hj).1;have:=h.width b a;omega
   rcases bC b i with q|y
   ·have:(b+1)*k<=i*k:=eb k q;rw[ez,l9] at this;rw[aq (by omega)]
    exact h.rd b a j c hj
   ·have:(i+1)*k<=b*k:=eb k (by omega)
    rw[ez,l9] at this;rw[an (by omega),an (by omega)]
    exact h.rd b a j c hj
theorem ag.cU(hh:ag σ s)(hl:σ[l]?=some (.buf E k n es)){b:Nat}{vs zs r6:List Value}{f:Nat}(q:s.β[l]?=some ⟨.slice (some ⟨b,0,none⟩) 0 f,[b]⟩)(y:(vs++zs).length=f*k)(u:n<=f)(x:f<=9223372036854775807){es':Nat->List C}(i:s.w.heap[b]?=some (.cells (vs++zs).toArray E (0,0)))(G:Flat s.M k n es' r6)(H:r6.length=vs.length)(F:∀ o,s.M b o=none) :
  ag (σ.set l (.buf E k n es')) { s with w:=s.w.setRow b (r6++zs).toArray }/\Step σ s (σ.set l (.buf E k n es')) { s with w:=s.w.setRow b (r6++zs).toArray }:=by
 have p:(s.w.setRow b (r6++zs).toArray).heap[b]?=some (.cells (r6++zs).toArray E (0,0)):=setRow_heap s.w b _ _ E _ i;have d:∀ a,a≠b->(s.w.setRow b (r6++zs).toArray).heap[a]?=s.w.heap[a]?:=λa c=>setRow_other s.w b a _ c
 have m:s.β.set l ⟨.slice (some ⟨b,0,none⟩) 0 f,[b]⟩=s.β:=by
  apply lB
  intro j
  by_cases e:l=j
  ·subst e;rw[br (aE.1 q).1,q]
  ·rw[b7 e]
 obtain⟨z,A⟩:=hh.iP (M':=s.M) (w':=s.w.setRow b (r6++zs).toArray) (B':=.buf E k n es') (L':=⟨.slice (some ⟨b,0,none⟩) 0 f,[b]⟩) hl q ⟨λ_=>rfl,ar _⟩ (by simp[World.setRow])
  (λa c J=>d a (by rintro rfl;exact J (by simp))) (λ_ _ _ _=>rfl) (λ_ _ _ h=>h) (λa I v t=>by
   have r:a≠b:=by rintro rfl;rw[F] at t;cases t
   have:=hh.mem a I v t;rw[<-this];simp only[World.cell?];rw[d a r]) (λa c=>⟨.inl c,by have:=hh.lt _ (aG q) a c;simpa[World.setRow] using this⟩) rfl rfl rfl
  (.inr ⟨b,f,r6,zs,rfl,p,by simp only[bc] at y ⊢;omega,u,x,G,F⟩)
 rw[m] at z A;exact⟨z,A⟩
theorem nN{α:Type}:∀ {new l:List α},new.length=l.length->dv 0 new l=some new
 |[],[],_=>rfl
 |[],_::_,h=>by simp at h
 |_::_,[],h=>by simp at h
 |n::ns,c::cs,h=>by simp only[dv,nN (new:=ns) (l:=cs) (by simpa using h)]
theorem aH.Dz(U:bX P T){t:TypeId}{x y:Operand}(h:o.op=.store t x y){i f:Nat}{z:TI}{new:List A}{cc ci:List C}(hx:B x=.e (.one (.bp l (.el g k i f))))(hg:g=n)(hl:σ[l]?=some (.buf E k n es))(hi:aJ T t=some z)(hy:k7 (B y)=some new)(hn:new.length=z.size)(M:eJ new=some cc)(K:(es i).length=k->dv f cc (es i)=some ci)(q:i<n) :
  aH P o B σ .any (σ.set l (.buf E k n (fX i ci es))):=by
 intro s c hh hr;have h1:=hr x;rw[hx] at h1;obtain⟨b,c0,vs,F,Y,V,a,Q,R,N,S,X⟩:=Eh hh hl h1 hg;have m:=mn hy (hr y);have u:=iK M m;have O:=cu.closed u;have J:(c y).cells.toList.length=cc.length:=by have:=u.length;simpa using this
 replace K:=K (S.width i q)
 obtain⟨q1,q2⟩:=S.put q K J O;have G:(c y).cells.size=z.size:=by rw[<-hn,<-m.length,fx]
 obtain⟨Z,t2⟩:=hh.cU hl Y Q R N a q2 (by simp only[bc,List.length_take,kI];omega) X
 have p:=run_storeCells_at P b (i*k+f) E (c y).cells.toList 0 (vs++F).toArray s.w a (by simp only[mU,bc];omega) m.cell
 have I:((vs++F).toArray.toList.take (i*k+f+0)++(c y).cells.toList++(vs++F).toArray.toList.drop (i*k+f+0+(c y).cells.toList.length))=vs.take (i*k+f)++(c y).cells.toList++vs.drop (i*k+f+(c y).cells.toList.length)++F:=by
  rw[ud,ey,List.take_append_of_le_length (by omega),List.drop_append_of_le_length (by omega),c9,c9,c9]
 rw[I] at p;refine⟨.skip,_,?_,rfl,Z,t2,?_⟩
 ·simp[execOp,h,V,Instr.storeAt,Instr.sureAddr,storeVar,(U t z hi).run_sizeOf,G,p]
 ·intro W d;have e:execOp c o=(do storeVar t ⟨b,i*k+f,none⟩ (c y);pure .skip):=by simp[execOp,h,V,Instr.storeAt,Instr.sureAddr]
  rw[e] at d;have H:W∈(storeCells ⟨b,i*k+f,none⟩ (c y).cells.toList).events P s.w #[]:=by
   simp only[storeVar,Sem.events_bind,(U t z hi).run_sizeOf,G,Result.evThen_ok,events_sizeOf,cf,e9,aM,aU,bj,Sem.events_pure] at d;generalize (storeCells ⟨b,i*k+f,none⟩ (c y).cells.toList).run P s.w=r at d;cases r with
   |ok v w'=>simpa using d
   |halt x w'=>simpa using d
  rcases dL (c y).cells.toList 0 (vs++F).toArray s.w #[] a (by simp only[mU,bc];omega) m.cell W H with L|⟨j,_,_,rfl⟩
  ·simp at L
  ·exact mb (aG Y) (by simp) (X _)
end
section
variable {σ:List ak}
theorem ag.C8{s:St}(hh:ag σ s){b:Nat}{vs:List Value}(i:∀ o,s.M b o=none)(h:∀ o v,vs[o]?=some v->s.w.cell? ⟨b,o,none⟩=some v) :
  ag (σ.map λ_=>.dead) { s with M:=λa o=>if a=b then vs[o]? else s.M a o }/\∀ a o v,s.M a o=some v->(if a=b then vs[o]? else s.M a o)=some v:=by
 have f:=hh.jF;refine⟨⟨λa o v c=>?_,f.len,λl B L g j=>?_,f.eE,f.lt,f.own⟩,λa o v c=>?_⟩
 ·by_cases e:a=b
  ·subst e;simp only[aV] at c;exact h o v c
  ·simp only[e,aM] at c;exact f.mem a o v c
 ·have:=aG g;simp at this;rw[<-this.2];trivial
 ·by_cases e:a=b
  ·subst e;rw[i] at c;cases c
  ·simp only[e,aM];exact c
theorem eW.Ej{s:St}{M':Mem}{b:Nat}{es:Array Event}(h:eW { s with M:=M' } es){L:Loc}(k:L∈s.β)(n:b∈L.bs)(p:∀ f o v,s.M f o=some v->M' f o=some v)(i:∀ f o v,M' f o=some v->f=b∨s.M f o=some v):eW s es:=by
 intro e q;have h1:=h e q;unfold lF at h1 ⊢;split at h1
 ·obtain⟨m,l,c⟩:=h1;refine⟨m,l,?_⟩;rcases c with c|⟨c,j⟩|⟨c,v,j⟩
  ·exact .inl c
  ·refine .inr (.inl ⟨c,λg=>?_⟩)
   have:=j g
   rename_i a _
   cases r:s.M a.block a.off with
   |none=>rfl
   |some v=>have h2:=p _ _ _ r;simp only at this;rw[this] at h2;cases h2
  ·rcases i _ _ _ j with h2|h2
   ·exact .inr (.inl ⟨⟨L,k,by rw[h2];exact n⟩,λg=>by rw[c] at g;cases g⟩)
   ·exact .inr (.inr ⟨c,v,h2⟩)
 all_goals exact h1
end
def GB(k:Nat)(f:Nat->Nat->Value):Nat->List C:=λi=>(List.range k).map λj=>.val (f i j)
theorem qc{k:Nat}{f:Nat->Nat->Value}{i j:Nat}{c:C}(h:(GB k f i)[j]?=some c):j<k/\c=.val (f i j):=by
 have a:j<k:=by
  have:=(aE.1 h).1;simpa[GB] using this
 simp[GB,a] at h;exact⟨a,h.symm⟩
theorem Ek{k:Nat}{f:Nat->Nat->Value}{i j:Nat}(h:j<k):(GB k f i)[j]?=some (.val (f i j)):=by simp[GB,h]
theorem Rd.exact{M:Mem}{v:Value}{t:Bool}{k n:Nat}{es:Nat->List C}(h:Rd M v (.sl t k n es)) :
  ∃ f:Nat->Nat->Value,Rd M v (.sl t k n (GB k f))/\(∀ i,i<n->(es i).length=k)/\∀ i,i<n->∀ j c,(es i)[j]?=some c->Rd M (f i j) c:=by
 cases h with
 |sl b off f e p q m r s l =>
  have a:∀ i,i<n->∀ j,j<k->∃ c,(es i)[j]?=some c:=λi hi j hj=>⟨_,aj (by rw[m i hi];exact hj)⟩
  refine⟨f,.sl b off f e p q (λi _=>by simp[GB]) r (λi hi j c hj=>?_) (λi hi j c hj=>?_),m,l⟩
  ·obtain⟨h1,_⟩:=qc hj;obtain⟨g,h2⟩:=a i hi j h1;exact s i hi j g h2
  ·obtain⟨h1,rfl⟩:=qc hj;obtain⟨g,h2⟩:=a i hi j h1;exact .val (l i hi j g h2).cell
theorem uX{σ:List ak}{s:St}{l:Nat}{E:TypeId}{k n:Nat}{es:Nat->List C}{L:Loc}{a c:Option Addr}{cap:Nat}(e:σ[l]?=some (.buf E k n es))(g:s.β[l]?=some L)(f:L.v=.slice c 0 cap)(q:n<=cap)(i:cap<=9223372036854775807)
  (p:0<cap->∃ b,c=some ⟨b,0,none⟩/\a=some ⟨b,0,none⟩):eQ σ s (.slice a n cap) (.bp l (.sl n k 0 n)) :=
 ⟨L.v,⟨a,c,cap,cap,rfl,q,by omega,i,f,λh=>by obtain⟨b,m,j⟩:=p h;exact⟨b,m,by simp[j]⟩⟩,(aE.1 e).1,λr k' n' es' he=>by
  rw[e] at he;cases he;exact⟨ar _,λ_=>⟨L,g,rfl⟩⟩⟩
set_option maxHeartbeats 1000000 in
theorem aH.G6{P:Program}{o:Oper}{d:Operand->D}{σ:List ak}{x y:Operand}{E:TypeId}{g:TI}(h:vJ P o x y E g){l n q:Nat}{tx:Bool}{es es':Nat->List C}
  (hx:d x=.e (.one (.bp l (.sl n g.size 0 n)))) (hl:σ[l]?=some (.buf E g.size n es)) (hy:∀ s v,b5 σ s v (d y)->Rd s.M v (.sl tx g.size q es')) (O:(n+q)*g.bytes<=140737488355328) :
  aH P o d σ (.e (.one (.bp l (.sl (n+q) g.size 0 (n+q))))) (σ.set l (.buf E g.size (n+q) (cz n es es'))):=by
 intro s ρ hh hr;obtain⟨t,t2,i,i2,ho,hi,hd,B,z⟩:=h.op;have F:l<σ.length:=(aE.1 hl).1;have h1:=hr x;rw[hx] at h1
 change eQ σ s (ρ x) (.bp l _) at h1
 obtain⟨lv,⟨a,a0,cap,r,hv,Q,IG,R,Gz,Uh⟩,_,Ui⟩:=h1;obtain⟨L,hL,I⟩:=(Ui _ _ _ _ hl).2 rfl;rw[Gz] at I;have Oy:r=cap:=by omega
 subst Oy;have W:0<r->∃ b,a0=some ⟨b,0,none⟩/\a=some ⟨b,0,none⟩:=λh=>by obtain⟨b,e1,e2⟩:=Uh h;exact⟨b,e1,by simpa using e2⟩
 have h2:=hy s _ (hr y);have G:l<s.β.length:=(aE.1 hL).1;have S:=aG hL;have U:=hh.box l _ L hl hL;rw[dM ho,hv];have row:0<r->∃ b vs zs,a=some ⟨b,0,none⟩/\L=⟨.slice (some ⟨b,0,none⟩) 0 r,[b]⟩/\s.w.heap[b]?=some (.cells (vs++zs).toArray E (0,0))/\(vs++zs).length=r*g.size/\Flat s.M g.size n es vs/\∀ o,s.M b o=none:=by
  intro K;obtain⟨b,e1,e2⟩:=W K;rcases U with⟨_,rfl⟩|⟨p,c1,vs,zs,rfl,h3,h4,h5,h6,h7,h8⟩
  ·cases I;omega
  ·rw[e1] at I;cases I;exact⟨b,vs,zs,e2,rfl,h3,h4,h7,h8⟩
 by_cases h0:q=0
 ·subst h0;have m:=ik (P:=P) (ty:=o.type) hi hd B z h.elem hh (a:=a) Q h2;simp only[ey];have ha:ay n es (cz n es es'):=λi hi=>by simp[cz,hi]
  have Oj:dq (σ.set l (.buf E g.size n (cz n es es'))) ⟨s.β.set l L,s.M,s.w,s.own⟩ (.buf E g.size n (cz n es es')) L:=by
   rcases U with h3|⟨p,c1,vs,zs,h2,h3,h4,h5,h6,h7,h8⟩
   ·exact .inl h3
   ·exact .inr ⟨p,c1,vs,zs,h2,h3,h4,h5,h6,h7.x4 ha,h8⟩
  have Bm:=hh.iP (M':=s.M) (w':=s.w) (B':=.buf E g.size n (cz n es es')) (L':=L) hl hL ⟨λ_=>rfl,ar _⟩ (ar _) (λ_ _ _=>rfl) (λ_ _ _ _=>rfl) (λ_ _ _ h=>h) hh.mem
   (λb O=>⟨.inl O,hh.lt L S b O⟩) rfl rfl rfl Oj
  refine⟨.value (.slice a n r),_,?_,?_,Bm.1,Bm.2,dC (iR hi hd B z h.elem hh Q h2)⟩
  ·simp[m]
  ·exact uX (E:=E) (by rw[br F]) (by simp only;rw[br G]) I Q R W
 ·by_cases k:n+q<=r
  ·obtain⟨b,vs,zs,rfl,rfl,hw,u,hF,hM⟩:=row (by omega)
   obtain⟨f,JA,m⟩:=j7 (P:=P) (ty:=o.type) hi hd B z h.elem hh hw u h2 k;have OZ:vs.length=n*g.size:=hF.len;have SL:f.length=q*g.size:=JA.len;have RA:n*g.size+q*g.size<=r*g.size:=by rw[<-ez];exact eb _ k
   have Y:((vs++zs).take (n*g.size)++f++(vs++zs).drop (n*g.size+f.length))=(vs++f)++zs.drop f.length:=by
    rw[<-OZ];simp[List.drop_append]
   rw[Y] at m;have Qj:=setRow_heap s.w b _ ((vs++f)++zs.drop f.length).toArray E _ hw;have V:∀ p,p≠b->(s.w.setRow b ((vs++f)++zs.drop f.length).toArray).heap[p]?=s.w.heap[p]?:=λp N=>setRow_other s.w b p _ N
   obtain⟨t1,Qk⟩:=hh.iP (M':=s.M) (w':=s.w.setRow b ((vs++f)++zs.drop f.length).toArray) (B':=.buf E g.size (n+q) (cz n es es')) (L':=⟨.slice (some ⟨b,0,none⟩) 0 r,[b]⟩) hl hL ⟨λ_=>rfl,by omega⟩ (by simp[World.setRow])
    (λp N hn=>V p (by rintro rfl;exact hn (by simp))) (λ_ _ _ _=>rfl) (λ_ _ _ h=>h) (λp o' v Z=>by
     have sK:p≠b:=by intro e;rw[e,hM] at Z;cases Z
     have:=hh.mem p o' v Z;rw[<-this];simp only[World.cell?];rw[V p sK]) (λp N=>⟨.inl N,by have:=hh.lt _ S p N;simpa[World.setRow] using this⟩) rfl rfl rfl
    (.inr ⟨b,r,vs++f,zs.drop f.length,rfl,Qj,by simp only[bc,kI] at u ⊢;omega,k,R,hF.append JA,hM⟩)
   refine⟨.value (.slice (some ⟨b,0,none⟩) (n+q) r),_,?_,?_,t1,Qk,dC (lG hi hd B z h.elem hh hw u h2 k S (by simp) (λo _=>hM o))⟩
   ·simp[m]
   ·exact uX (E:=E) (by rw[br F]) (by simp only;rw[br G]) rfl k R λ_=>⟨b,rfl,rfl⟩
  ·have hg:r<n+q:=by omega
   obtain⟨f2,Uj,J5,nQ⟩:=h2.exact;have dV:∃ (M':Mem) (f0:Nat->Nat->Value),ag (σ.map λ_=>.dead) { s with M:=M' }/\(∀ p o v,s.M p o=some v->M' p o=some v)/\Rd M' (.slice a n r) (.sl false g.size n (GB g.size f0))/\(∀ {es},eW { s with M:=M' } es->eW s es) /\
     (∀ i,i<n->(es i).length=g.size)/\∀ i,i<n->∀ j c,(es i)[j]?=some c->Rd s.M (f0 i j) c:=by
    by_cases K:0<r
    ·obtain⟨b,vs,zs,rfl,rfl,hw,u,hF,hM⟩:=row K;obtain⟨c1,c2⟩:=hh.C8 (b:=b) (vs:=vs) hM (λo v ho=>by
      simp only[World.cell?,hw];have:o<vs.length:=(aE.1 ho).1;simpa[bS this] using ho)
     have J:∀ i,i<n->∀ j c,(es i)[j]?=some c->vs[i*g.size+j]?=some (vs.getD (i*g.size+j) undef)/\Rd s.M (vs.getD (i*g.size+j) undef) c:=by
      intro i hi j c hj;obtain⟨v,v1,v2⟩:=hF.rd i hi j c hj;have e:vs.getD (i*g.size+j) undef=v:=by simp[List.getD_eq_getElem?_getD,v1]
      exact⟨by rw[e,v1],by rw[e];exact v2⟩
     have Nd:∀ i,i<n->∀ j,j<g.size->∃ c,(es i)[j]?=some c:=λi hi j hj=>⟨_,aj (by rw[hF.width i hi];exact hj)⟩
     refine⟨_,λi j=>vs.getD (i*g.size+j) undef,c1,c2,.sl b 0 (λi j=>vs.getD (i*g.size+j) undef) Q R (by simp) (λi _=>by simp[GB]) (λ_=>rfl) (λi hi j c hj=>?_) (λi hi j c hj=>?_),λhe=>?_,hF.width,λi hi j c hj=>(J i hi j c hj).2⟩
     ·obtain⟨e1,_⟩:=qc hj;obtain⟨c',e2⟩:=Nd i hi j e1;simp only[aw,aV];exact(J i hi j c' e2).1
     ·obtain⟨e1,rfl⟩:=qc hj;obtain⟨c',e2⟩:=Nd i hi j e1;exact .val (J i hi j c' e2).2.cell
     ·exact he.Ej (b:=b) S (by simp) c2 λp o v hv=>by
       by_cases e:p=b
       ·exact .inl e
       ·simp only[e,aM] at hv;exact .inr hv
    ·have e1:r=0:=by omega
     have e2:n=0:=by omega
     subst e1 e2;have A:=hh.jF;exact⟨s.M,λ_ _=>undef,⟨A.mem,A.len,A.box,A.eE,A.lt,A.own⟩,λ_ _ _ h=>h,Rd.iS,λh=>h,λi hi=>by omega,λi hi=>by omega⟩
   obtain⟨M',f0,c1,c2,hR,Uk,Si,Ul⟩:=dV;have Sj:Rd ({ s with M:=M' }:St).M (ρ y) (.sl tx g.size q (GB g.size f2)):=Uj.mono c2;obtain⟨r6,zs,H,X,LK,Ol,hlen,m⟩:=iQ (P:=P) (s:={ s with M:=M' }) (ty:=o.type) hi hd B z h.elem c1 hR Sj hg O h.bytes;have Me:=jY (P:=P) (s:={ s with M:=M' }) (ty:=o.type) hi hd B z h.elem c1 hR Sj hg O h.bytes;have Um:Flat s.M g.size (n+q) (cz n es es') r6:=by
    refine⟨X.len,λi hi=>?_,λi hi j c hj=>?_⟩
    ·by_cases e:i<n
     ·simp only[cz,e,aV];exact Si i e
     ·simp only[cz,e,aM];exact J5 _ (by omega)
    ·by_cases e:i<n
     ·simp only[cz,e,aV] at hj;have Mq:j<g.size:=by have:=(aE.1 hj).1;rw[Si i e] at this;exact this
      obtain⟨v,v1,v2⟩:=X.rd i hi j (.val (f0 i j)) (by simp only[cz,e,aV];exact Ek Mq)
      rw[Rd.ft v2] at v1;exact⟨_,v1,Ul i e j c hj⟩
     ·simp only[cz,e,aM] at hj;have Mq:j<g.size:=by have:=(aE.1 hj).1;rw[J5 _ (by omega)] at this;exact this
      obtain⟨v,v1,v2⟩:=X.rd i hi j (.val (f2 (i-n) j)) (by simp only[cz,e,aM];exact Ek Mq)
      rw[Rd.ft v2] at v1;exact⟨_,v1,nQ _ (by omega) j c hj⟩
   have nM:∀ o,s.M s.w.heap.size o=none:=λo=>by
    cases hm:s.M s.w.heap.size o with
    |none=>rfl
    |some v=>have:=hh.block hm;omega
   obtain⟨t1,Qk⟩:=hh.iP (M':=s.M) (w':=s.w.drew.alloc (.cells (r6++zs).toArray E)) (B':=.buf E g.size (n+q) (cz n es es')) (L':=⟨.slice (some ⟨s.w.heap.size,0,none⟩) 0 H,[s.w.heap.size]⟩) hl hL
    ⟨λe=>absurd e (by omega),by omega⟩ (by simp) (λb O _=>bP s.w.drew _ O) (λ_ _ _ _=>rfl) (λ_ _ _ h=>h) (λb o v hm=>by
     have oR:=hh.block hm;rw[<-hh.mem b o v hm];simp only[World.cell?];rw[bP s.w.drew _ oR];rfl) (λb O=>by
     simp at O;subst O;exact⟨.inr (ar _),by simp⟩) rfl rfl rfl (.inr ⟨s.w.heap.size,H,r6,zs,rfl,cC s.w.drew _,hlen,LK,Ol,Um,nM⟩)
   refine⟨.value (.slice (some ⟨s.w.heap.size,0,none⟩) (n+q) H),_,?_,?_,t1,Qk,dC (Uk Me)⟩
   ·simp only at m;simp[m]
   ·exact uX (E:=E) (by rw[br F]) (by simp only;rw[br G]) rfl LK Ol λ_=>⟨_,rfl,rfl⟩
section
variable {P:Program}{T:List (Nat×TI)}{o:Oper}{d:Operand->D}{σ:List ak}
theorem aH.Pz(m:bX P T){x:Operand}{b:Array TypeId}{t:TypeId}(h:o.op=.call { callee:=.builtin .len,args:=#[x],argTypes:=b })(l:b[0]?=some t){i:TI}{E:TypeId}(hi:aJ T t=some i)(k:i.desc=.slice E)
  {a:Option Addr} {n cap:Nat} (j:d x=.e (.one (.c (.val (.slice a n cap))))) (q:n<=9223372036854775807):aH P o d σ (.e (.one (.c (.int .i64 n)))) σ:=by
 refine .quiet λs p hh hr=>?_
 have h1:=hr x;rw[j] at h1;have g:=Rd.ft (eB h1);have f:=(m t i hi).run_underlying (w:=s.w);rw[k] at f;refine⟨.int .i64 n,?_,Rd.int (by simp only[aB];omega),?_⟩ <;>
 simp[execOp,h,resolve,invoke,builtin,Builtin.len_,g,f,goInt,l]
theorem aH.vX(p:bX P T){t:TypeId}{x y:Operand}(h:o.op=.indexAddr t x y){i g:TI}{E:TypeId}(hi:aJ T t=some i)(v:i.desc=.slice E)(A:aJ T E=some g)
  {b off n cap:Nat} {j:Int} {kk:IntKind} (r:d x=.e (.one (.c (.val (.slice (some ⟨b,off,none⟩) n cap))))) (z:d y=.e (.one (.c (.int kk j)))) (B:0<=j) (h1:j<n):aH P o d σ (.e (.one (.c (.val (.pointer (some ⟨b,off+j.toNat*g.size,none⟩)))))) σ:=by
 refine .quiet λs u hh hr=>?_
 have a:=hr x;rw[r] at a;have q:=Rd.ft (eB a);have h2:=hr y;rw[z] at h2
 replace h2:=eB h2
 generalize k:u y=vy at h2;cases h2;have m:=(p t i hi).run_underlying (w:=s.w);rw[v] at m;obtain⟨f,rfl⟩:∃ f:Nat,j=f:=⟨j.toNat,by omega⟩
 have l:f<n:=by omega
 refine⟨.pointer (some ⟨b,off+f*g.size,none⟩),?_,Rd.val rfl,?_⟩ <;>
 simp[execOp,h,q,k,Instr.indexAt,asIntOf,m,(p E g A).run_sizeOf,cg,l]
theorem aH.JW(i:bX P T){t:TypeId}{x:Operand}{f:Nat}(h:o.op=.fieldAddr t x f){b off k:Nat}{j:TI}(l:d x=.e (.one (.c (.val (.pointer (some ⟨b,off,none⟩))))))(g:gh T t f=some (k,j)):aH P o d σ (.e (.one (.c (.val (.pointer (some ⟨b,off+k,none⟩)))))) σ:=by
 refine .quiet λs m hh hr=>?_
 have h1:=hr x;rw[l] at h1;have a:=Rd.ft (eB h1);exact⟨.pointer (some ⟨b,off+k,none⟩),by simp[execOp,h,a,jK i g],Rd.val rfl,by simp[execOp,h,a,la i g]⟩
theorem aH.slice3(J:bX P T){t:TypeId}{x y z:Operand}(h:o.op=.slice t x none (some y) (some z)){i N:TI}{E:TypeId}(H:aJ T t=some i)(R:i.desc=.slice E)(Y:aJ T E=some N){tt:Bool}{k n:Nat}{es:Nat->List C}{r u:IntKind}{j m:Int}
  (V:∀ s v,b5 σ s v (d x)->Rd s.M v (.sl tt k n es)) (W:d y=.e (.one (.c (.int r j)))) (S:d z=.e (.one (.c (.int u m)))) (F:0<=j) (h1:j<=m) (h2:m<=n):aH P o d σ (.e (.one (.c (.sl false k j.toNat es)))) σ:=by
 refine .quiet λst ρ hh hr=>?_
 have q:=V st _ (hr x);have g:=hr y;rw[W] at g
 replace g:=eB g
 generalize A:ρ y=vy at g;cases g;have p:=hr z;rw[S] at p
 replace p:=eB p
 generalize B:ρ z=vz at p;cases p;obtain⟨a,cap,vs,G,I,O,ht,Z,hm⟩:=q.flat;rw[G] at q;have l:=(J t i H).run_underlying (w:=st.w);rw[R] at l;have em:((m.toNat:Nat):Int)=m:=ug (by omega)
 have L:(Instr.sliceBounds true n cap none (some (.int r j)) (some (.int u m))).run P st.w=.ok (0,j.toNat,m.toNat) st.w:=by
  simp[Instr.sliceBounds,run_sliceBound (P:=P) st.w u m cap _ (by omega) (by omega),run_sliceBound (P:=P) st.w r j m.toNat _ F (by omega)]
 have Q:(Instr.sliceBounds true n cap none (some (.int r j)) (some (.int u m))).events P st.w #[]=#[]:=by
  simp[Instr.sliceBounds,run_sliceBound (P:=P) st.w u m cap _ (by omega) (by omega),run_sliceBound (P:=P) st.w r j m.toNat _ F (by omega),eG (P:=P) st.w u m cap _ (by omega) (by omega),eG (P:=P) st.w r j m.toNat _ F (by omega)]
 refine⟨.slice a j.toNat m.toNat,?_,?_,by simp[execOp,h,G,A,B,Instr.sliceAt,l,Instr.slice,L,Q]⟩
 ·simp[execOp,h,G,A,B,Instr.sliceAt,l,Instr.slice,L,(J E N Y).run_sizeOf];intro _;rcases a with _|⟨b,off,sp⟩ <;> simp[Addr.add]
 ·cases q with
  |sl b off f _ _ _ U X hm' GV =>
   exact Rd.sl b off f (by omega) (by omega) (by simp) (λi hi=>U i (by omega)) (λK=>X (by omega)) (λi hi j c hj=>hm' i (by omega) j c hj) (λi hi j c hj=>GV i (by omega) j c hj)
end
section drop
variable {σ1 rest:List ak}{s:St}
def St.cut(s:St)(n:Nat):St:={ s with β:=s.β.take n }
theorem eQ.drop{v:Value}{a:A}(r:eQ (σ1++rest) s v a)(d:Bb σ1.length a=true):eQ σ1 (s.cut σ1.length) v a:=by
 have lt:∀ {l:Nat},Nat.ble (l+1) σ1.length=true->l<σ1.length:=λh=>cY h
 cases a with
 |c x=>exact r
 |any=>exact r
 |ptr l o =>
  have hl:=lt d;obtain⟨g,L,b,p,f⟩:=r;refine⟨λB i=>g B (by rw[bS hl];exact i),L,b,?_,f⟩
  simp only[St.cut,dx,hl,aV];exact p
 |ref l =>
  have hl:=lt d;obtain⟨g,L,p,f⟩:=r;refine⟨λB i=>g B (by rw[bS hl];exact i),L,?_,f⟩
  simp only[St.cut,dx,hl,aV];exact p
 |bp l w =>
  have hl:=lt d;obtain⟨lv,g,_,f⟩:=r;refine⟨lv,g,hl,λE k' n' es' i=>?_⟩
  obtain⟨h1,h2⟩:=f E k' n' es' (by rw[bS hl];exact i)
  refine⟨h1,λe=>?_⟩
  obtain⟨L,m,j⟩:=h2 e;refine⟨L,?_,j⟩;simp only[St.cut,dx,hl,aV];exact m
 |vec l k n es =>
  have hl:=lt d;obtain⟨g,_,f⟩:=r;refine⟨g,hl,λE k' n' es' i=>?_⟩
  obtain⟨h1,h2⟩:=f E k' n' es' (by rw[bS hl];exact i)
  refine⟨h1,λe=>?_⟩
  obtain⟨L,m,j⟩:=h2 e;refine⟨L,?_,j⟩;simp only[St.cut,dx,hl,aV];exact m
theorem cu.se:∀ {vs:List Value}{cs:List A},cu (σ1++rest) s vs cs->Bc σ1.length cs=true->cu σ1 (s.cut σ1.length) vs cs
 |[],[],_,_=>trivial
 |[],_::_,r,_=>r.elim
 |_::_,[],r,_=>r.elim
 |v::vs,c::cs,r,h=>by
  simp only[Bc] at h;cases a:Bb σ1.length c with
  |false=>simp[a] at h
  |true=>simp only[a] at h;exact⟨r.1.drop a,cu.se r.2 h⟩
theorem jr.se{v:Value}{e:E1}(r:jr (σ1++rest) s v e)(h:De σ1.length e=true):jr σ1 (s.cut σ1.length) v e:=by
 cases e with
 |one a=>exact eQ.drop r h
 |agg cs=>obtain⟨vs,h1,h2⟩:=r;exact⟨vs,h1,cu.se h2 h⟩
theorem dX.se:∀ {vs:List Value}{cs:List E1},dX (σ1++rest) s vs cs->r9 σ1.length cs=true->dX σ1 (s.cut σ1.length) vs cs
 |[],[],_,_=>trivial
 |[],_::_,r,_=>r.elim
 |_::_,[],r,_=>r.elim
 |v::vs,c::cs,r,h=>by
  simp only[r9] at h;cases a:De σ1.length c with
  |false=>simp[a] at h
  |true=>simp only[a] at h;exact⟨jr.se r.1 a,dX.se r.2 h⟩
theorem b5.drop{v:Value}{d:D}(r:b5 (σ1++rest) s v d)(h:ux σ1.length d=true):b5 σ1 (s.cut σ1.length) v d:=by
 cases d with
 |e x=>exact jr.se r h
 |eD xs=>obtain⟨vs,h1,h2⟩:=r;exact⟨vs,h1,dX.se h2 h⟩
 |any=>trivial
theorem bq.drop{a:List ak}{s0:St}(st:bq a s0 (σ1++rest) s)(d:a.length<=σ1.length):bq a s0 σ1 (s.cut σ1.length):=by
 refine⟨st.size,st.ee,st.mem,st.gJ,λL c b f=>st.pT L (jU c) b f,?_,st.os,st.tape,st.output,st.own⟩
 intro l B L e c;obtain⟨B',L',h1,h2,g⟩:=st.box l B L e c;have hl:l<σ1.length:=bm (aE.1 e).1 d;rw[bS hl] at h1;exact⟨B',L',h1,by simp only[St.cut,dx,hl,aV];exact h2,g⟩
theorem eQ.nG{σ:List ak}{v:Value}{a:A}(hl:s.β.length=σ.length)(r:eQ σ s v a):Bb σ.length a=true:=by
 have ok:∀ {l:Nat},l<σ.length->Nat.ble (l+1) σ.length=true:=λh=>pI h
 have lt:∀ {l:Nat} {L:Loc},s.β[l]?=some L->l<σ.length:=λh=>by rw[<-hl];exact(aE.1 h).1
 cases a with
 |c x=>rfl
 |any=>rfl
 |ptr l o=>obtain⟨_,L,b,d,_⟩:=r;exact ok (lt d)
 |ref l=>obtain⟨_,L,d,_⟩:=r;exact ok (lt d)
 |bp l w=>obtain⟨lv,_,h,_⟩:=r;exact ok h
 |vec l k n es=>exact ok r.2.1
theorem cu.nG{σ:List ak}(hl:s.β.length=σ.length):∀ {vs:List Value}{cs:List A},cu σ s vs cs->Bc σ.length cs=true
 |[],[],_=>rfl
 |[],_::_,r=>r.elim
 |_::_,[],r=>r.elim
 |v::vs,c::cs,r=>by simp only[Bc,r.1.nG hl];exact cu.nG hl r.2
theorem jr.nG{σ:List ak}(hl:s.β.length=σ.length){v:Value}{e:E1}(r:jr σ s v e):De σ.length e=true:=by
 cases e with
 |one a=>exact eQ.nG hl r
 |agg cs=>obtain⟨vs,_,h⟩:=r;exact cu.nG hl h
theorem dX.nG{σ:List ak}(hl:s.β.length=σ.length):∀ {vs:List Value}{cs:List E1},dX σ s vs cs->r9 σ.length cs=true
 |[],[],_=>rfl
 |[],_::_,r=>r.elim
 |_::_,[],r=>r.elim
 |v::vs,c::cs,r=>by simp only[r9,jr.nG hl r.1];exact dX.nG hl r.2
theorem b5.nG{σ:List ak}(hl:s.β.length=σ.length){v:Value}{d:D}(r:b5 σ s v d):ux σ.length d=true:=by
 cases d with
 |e x=>exact jr.nG hl r
 |eD xs=>obtain⟨vs,_,h⟩:=r;exact dX.nG hl h
 |any=>rfl
theorem ag.MH{s0:St}(j:ag σ1 s0)(h:ag (σ1++rest) s):ag σ1 (s.cut σ1.length):=by
 have hl:σ1.length<=s.β.length:=by rw[h.len];simp
 refine⟨h.mem,by simp[St.cut,hl],?_,?_,?_,λb g=>⟨(h.own b g).1,λL c=>(h.own b g).2 L (jU c)⟩⟩
 ·intro l B L m c;have f:l<σ1.length:=(aE.1 m).1;simp only[St.cut,dx,f,aV] at c;have a:=h.box l B L (by rw[bS f];exact m) c
  have e:∃ p,s0.β[l]?=some p:=⟨_,aj (by rw[j.len];exact f)⟩
  obtain⟨p,e⟩:=e;have i:=j.box l B p m e;cases B with
  |cells E cs =>
   obtain⟨b,vs,h1,h2,q,o⟩:=a;obtain⟨_,_,_,_,g3,_⟩:=i;exact⟨b,vs,h1,h2,cu.se q (g3.nG j.len),o⟩
  |vec E k n es=>exact a
  |cQ H=>exact a
  |dead=>trivial
  |loop N φ r =>
   obtain⟨l',tmps,fn,w,h1,h2,q,o,v⟩:=a;obtain⟨_,_,_,_,_,_,_,g4,_⟩:=i;exact⟨l',tmps,fn,w,h1,h2,q,λt=>(o t).drop ((g4 t).nG j.len),v⟩
  |oc=>exact a
  |buf E k n es=>exact a
 ·intro l l' L L' c d b g u;simp only[St.cut,dx] at c d;split at c <;> split at d <;> first|exact h.eE l l' L L' c d b g u|(cases c;done)|(cases d;done)
 ·intro L c b g;exact h.lt L (jU c) b g
theorem OA.MI{P:Program}{X:Cx P}{N:Nat}{all:List Oper}{o:Oper}{φ:Fr}{σ:List ak}{E:TypeId}{k n:Nat}{es:Nat->List C}(h:OA X N all o φ σ (.e (.one (.vec σ.length k n es))) (σ++[.vec E k n es])):OA X N all o φ σ (.e (.one (.c (.sl false k n es)))) σ:=by
 intro s a f hh b kk cs S i rest d hi hK;refine h s a f hh b kk cs S i rest d hi λv s' hv j9 st=>?_
 have g:er s' (s'.cut σ.length):=⟨rfl,λ_ _ _ h=>h,λ_ _ _=>rfl,j9.mem,λb d=>d.imp id λ⟨L,j,d⟩=>⟨L,jU j,d⟩⟩
 exact .ghost g (hK v (s'.cut σ.length) hv.1 (hh.MH j9) (st.drop (ar _)))
end drop
end Go.AM
namespace Go.AM
section force
variable {p:Type}
def qD:C->(C->Option p)->Option p
 |.int k n,q=>q (.int k n)
 |.bool b,q=>q (.bool b)
 |.str s,q=>q (.str s)
 |.sl true k n es,q=>q (.sl true k n es)
 |.sl false k n es,q=>q (.sl false k n es)
 |.rp cs,q=>b6 cs λcs=>q (.rp cs)
 |.Dj t cs,q=>b6 cs λcs=>q (.Dj t cs)
 |.fn f a b,q=>b6 a λa=>b6 b λb=>q (.fn f a b)
 |c,q=>q c
theorem Be(c:C)(q:C->Option p):qD c q=q c:=by
 cases c with
 |sl t=>cases t <;> rfl
 |rp cs=>simp[qD,bT]
 |Dj t cs=>simp[qD,bT]
 |fn f a b=>simp[qD,bT]
 |_=>rfl
def qE:A->(A->Option p)->Option p
 |.c x,q=>qD x λx=>q (.c x)
 |.ptr l o,q=>q (.ptr l o)
 |.vec l k n es,q=>q (.vec l k n es)
 |.ref l,q=>q (.ref l)
 |.bp l (.sl g k o n),q=>q (.bp l (.sl g k o n))
 |.bp l (.el g k i f),q=>q (.bp l (.el g k i f))
 |.any,q=>q .any
theorem sM(a:A)(q:A->Option p):qE a q=q a:=by
 cases a with
 |bp l w=>cases w <;> simp[qE]
 |_=>simp[qE,Be]
def pZ:List A->(List A->Option p)->Option p
 |[],q=>q []
 |a::r,q=>qE a λa=>pZ r λr=>q (a::r)
theorem yf(l:List A)(q:List A->Option p):pZ l q=q l:=by
 induction l generalizing q with
 |nil=>rfl
 |cons a r b=>simp[pZ,sM,b]
def uG:E1->(E1->Option p)->Option p
 |.one a,q=>qE a λa=>q (.one a)
 |.agg cs,q=>pZ cs λcs=>q (.agg cs)
theorem sO(a:E1)(q:E1->Option p):uG a q=q a:=by cases a <;> simp[uG,sM,yf]
def p0:List E1->(List E1->Option p)->Option p
 |[],q=>q []
 |a::r,q=>uG a λa=>p0 r λr=>q (a::r)
theorem yg(l:List E1)(q:List E1->Option p):p0 l q=q l:=by
 induction l generalizing q with
 |nil=>rfl
 |cons a r b=>simp[p0,sO,b]
def kZ:D->(D->Option p)->Option p
 |.e x,q=>uG x λx=>q (.e x)
 |.eD xs,q=>p0 xs λxs=>q (.eD xs)
 |.any,q=>q .any
theorem kr(a:D)(q:D->Option p):kZ a q=q a:=by cases a <;> simp[kZ,sO,yg]
end force
def uH:D->Option (Bool×Nat×Nat×(Nat->List C))
 |.e (.one (.c (.sl t k n es)))=>some (t,k,n,es)
 |.e (.one (.vec _ k n es))=>some (false,k,n,es)
 |_=>none
theorem k6{d:D}{t:Bool}{k n:Nat}{es:Nat->List C}(h:uH d=some (t,k,n,es))(σ:List ak)(s:St)(v:Value)(r:b5 σ s v d):Rd s.M v (.sl t k n es):=by
 unfold uH at h;split at h
 ·cases h;exact r
 ·cases h;exact r.1
 ·cases h
def fA(l:List UInt8) (j:Int):UInt8:=l.getD j.toNat 0
def JM(T:List (Nat×TI))(t:TypeId)(d:D):Option D :=
 match aJ T t with
 |none=>none
 |some i=>match i.desc with
  |.slice _=>match uH d with
   |some (_,_,n,_)=>some (.e (.one (.c (.int .i64 n))))
   |none=>none
  |.string=>match d with
   |.e (.one (.c (.str s)))=>some (.e (.one (.c (.int .i64 s.length))))
   |_=>none
  |_=>none
def Dt(T:List (Nat×TI))(a b:TypeId)(d:D):Option (D×List Prop) :=
 match aJ T a with
 |none=>none
 |some i1=>match aJ T b with
  |none=>none
  |some i2=>match i2.desc with
   |.int k'=>match d with
    |.e (.one (.c (.int _ j)))=>some (.e (.one (.c (.int k' j))),[aB k' j])
    |_=>none
   |.string=>match d with
    |.e (.one (.c (.str s)))=>some (.e (.one (.c (.str s))),[])
    |d=>match i1.desc with
     |.slice E=>match aJ T E with
      |some ie=>match ie.desc with
       |.int .u8=>match uH d with
        |some (_,k,n,es)=>match Nat.beq k 1 with
         |true=>match qF es 0 n with
          |some r=>some (.e (.one (.c (.str r))),[])
          |none=>none
         |false=>none
        |none=>none
       |_=>none
      |none=>none
     |_=>none
   |_=>none
def yh(T:List (Nat×TI))(a:Operand->D)(t:TypeId)(x:Operand)(lo hi:Option Operand):Option (D×List Prop) :=
 match aJ T t with
 |none=>none
 |some i=>match px a lo with
  |none=>none
  |some l=>match px a hi with
   |none=>none
   |some u=>match i.desc with
    |.string=>match a x with
     |.e (.one (.c (.str s)))=>some (.e (.one (.c (.str (nH s l u)))),il s.length l u)
     |_=>none
    |.slice E=>match aJ T E with
     |none=>none
     |some ie=>match uH (a x) with
      |some (tt,k,n,es)=>match Nat.beq k ie.size with
       |true=>some (.e (.one (.c (.sl (JN tt u) ie.size (cA n u-cA 0 l) (ou (cA 0 l) es)))),il n l u)
       |false=>none
      |none=>none
    |_=>none
def sQ(op:BinOp)(k:IntKind) (a:Int)(k':IntKind) (b:Int):Option (D×List Prop) :=
 match vL op k a k' b with
 |some (c,obs)=>some (.e (.one (.c (.int k c))),obs)
 |none=>none
theorem nI{op:BinOp}{k k':IntKind}{a b:Int}{d:D}{obs:List Prop}(h:sQ op k a k' b=some (d,obs)):∃ c,d=.e (.one (.c (.int k c)))/\vL op k a k' b=some (c,obs):=by
 unfold sQ at h;split at h
 ·rename_i c f g;cases h;exact⟨c,rfl,g⟩
 ·cases h
def IW(T:List (Nat×TI))(op:BinOp)(t:TypeId)(x y:D):Option (D×List Prop) :=
 match x,y with
 |.e (.one (.c (.bool a))),.e (.one (.c (.bool b)))=>match aJ T t with
  |some i=>match i.desc with
   |.bool=>match ja op (a==b) with
    |some c=>some (.e (.one (.c (.bool c))),[])
    |none=>none
   |_=>none
  |none=>none
 |.e (.one (.c a)),.e (.one (.c b))=>match op with
  |.xor=>match a,b with
   |.int .i64 a,.int .i64 b=>some (.e (.one (.c (.int .i64 ((a.toNat ^^^ b.toNat:Nat):Int)))),[0<=a,0<=b])
   |.int .u64 a,.int k' b=>sQ .xor .u64 a k' b
   |_,_=>none
  |.shl=>match a,b with
   |.int k a,.int k' b=>sQ .shl k a k' b
   |_,_=>none
  |.shr=>match a,b with
   |.int k a,.int k' b=>sQ .shr k a k' b
   |_,_=>none
  |.and=>match a,b with
   |.int k a,.int k' b=>sQ .and k a k' b
   |_,_=>none
  |_=>match G1 op a b with
   |some (c,obs)=>some (.e (.one (.c c)),obs)
   |none=>none
 |.e (.agg cs),.e (.agg es)=>match aJ T t with
  |some i=>match i.eq with
   |[]=>none
   |d::ds=>match IX (d::ds) cs es with
    |some b=>match ja op b with
     |some c=>some (.e (.one (.c (.bool c))),[])
     |none=>none
    |none=>none
  |none=>none
 |_,_=>none
def Oq(T:List (Nat×TI))(CT:List (Nat×bH))(φ:Fr)(o:Oper):Option (D×List Prop) :=
 match o.op with
 |.move x|.assign x=>some (bz φ x,[])
 |.index t x y=>match aJ T t with
  |some i=>match i.desc with
   |.string=>match bz φ x,bz φ y with
    |.e (.one (.c (.str l))),.e (.one (.c (.int _ j)))=>some (.e (.one (.c (.int .u8 (fA l j).toNat))),[0<=j,j<l.length])
    |_,_=>none
   |_=>none
  |none=>none
 |.indexAddr t x y=>match aJ T t with
  |some i=>match i.desc with
   |.slice E=>match aJ T E with
    |some ie=>match uH (bz φ x),bz φ y with
     |some (_,k,n,es),.e (.one (.c (.int _ j)))=>match Nat.beq k ie.size with
      |true=>some (.e (.one (.c (.rp (es j.toNat)))),[0<=j,j<n])
      |false=>none
     |_,_=>none
    |none=>none
   |_=>none
  |none=>none
 |.slice t x lo hi none=>yh T (bz φ) t x lo hi
 |.convert src dst x=>Dt T src dst (bz φ x)
 |.call c=>match c.callee with
  |.builtin .len=>match c.args.toList,c.argTypes[0]? with
   |[x],some t=>match JM T t (bz φ x) with
    |some d=>some (d,[])
    |none=>none
   |_,_=>none
  |.value fo=>vW CT φ fo c.args.toList
  |_=>none
 |.pick c a b=>match bz φ c with
  |.e (.one (.c (.bool true)))=>some (bz φ a,[])
  |.e (.one (.c (.bool false)))=>some (bz φ b,[])
  |_=>none
 |.binOp op t x y _=>IW T op t (bz φ x) (bz φ y)
 |.unOp op _ x=>match bz φ x with
  |.e (.one (.c a))=>match Ow op a with
   |some c=>some (.e (.one (.c c)),[])
   |none=>none
  |_=>none
 |.extract x j=>match bz φ x with
  |.eD xs=>match en j xs with
   |some e=>some (.e e,[])
   |none=>none
  |_=>none
 |.fieldAddr t x f=>match gh T t f with
  |some (k,_)=>match bz φ x with
   |.e (.one (.ptr l off))=>some (.e (.one (.ptr l (off+k))),[])
   |.e (.one (.c (.rp cs)))=>some (.e (.one (.c (.rp (eR k cs)))),[])
   |_=>none
  |none=>none
 |.field t x f=>match gh T t f with
  |some (k,j)=>match bz φ x with
   |.e (.agg cs)=>match ki j (eR k cs) with
    |some e=>some (.e e,[])
    |none=>none
   |_=>none
  |none=>none
 |.nilCheck x=>match bz φ x with
  |.e (.one (.ptr l off))=>some (.e (.one (.ptr l off)),[])
  |.e (.one (.c (.rp cs)))=>some (.e (.one (.c (.rp cs))),[])
  |_=>none
 |.build t parts=>match uI T (bz φ) t parts.toList with
  |some cs=>some (.e (.agg cs),[])
  |none=>none
 |.buildSlice t n parts=>match G2 T (bz φ) t n parts.toList with
  |some (k,es)=>some (.e (.one (.c (.sl true k n λi=>es.getD i []))),[])
  |none=>none
 |.makeFunc fn a b=>match qG (bz φ) a.toList with
  |some ca=>match qG (bz φ) b.toList with
   |some cb=>some (.e (.one (.c (.fn fn ca cb))),[])
   |none=>none
  |none=>none
 |.makeInterface t x=>match aJ T t with
  |some i=>match nJ i.desc with
   |false=>match p6 t (bz φ x) with
    |some c=>some (.e (.one (.c c)),[])
    |none=>none
   |true=>none
  |none=>none
 |.typeAssert x _ t true=>match aJ T t with
  |some i=>match nJ i.desc with
   |false=>match bz φ x with
    |.e (.one (.c c))=>match ml t i c with
     |some (e,b)=>some (.eD [e,.one (.c (.bool b))],[])
     |none=>none
    |_=>none
   |true=>none
  |none=>none
 |_=>none
def Dm(T:List (Nat×TI))(φ:Fr)(σ:List ak)(t:TypeId)(x:Operand):Option D :=
 match aJ T t with
 |some i=>match bz φ x with
  |.e (.one (.ptr l off))=>match en l σ with
   |some (.cells _ cs)=>match ki i (eR off cs) with
    |some e=>some (.e e)
    |none=>none
   |_=>none
  |.e (.one (.c (.rp cs)))=>match ki i (cs.map A.c) with
   |some e=>some (.e e)
   |none=>none
  |_=>none
 |none=>none
def Pu(T:List (Nat×TI))(φ:Fr)(o:Oper):Option (D×List Prop) :=
 match o.op with
 |.indexAddr t x y=>match aJ T t with
  |some i=>match i.desc with
   |.slice E=>match aJ T E with
    |some ie=>match bz φ x,bz φ y with
     |.e (.one (.bp l (.sl g k q m))),.e (.one (.c (.int _ j)))=>match Nat.beq k ie.size with
      |true=>some (.e (.one (.bp l (.el g ie.size (q+j.toNat) 0))),[0<=j,j<m])
      |false=>none
     |.e (.one (.c (.val (.slice (some ⟨b,off,none⟩) n _)))),.e (.one (.c (.int _ j)))=>some (.e (.one (.c (.val (.pointer (some ⟨b,off+j.toNat*ie.size,none⟩))))),[0<=j,j<n])
     |_,_=>none
    |none=>none
   |_=>none
  |none=>none
 |.fieldAddr t x f=>match gh T t f with
  |some (k,_)=>match bz φ x with
   |.e (.one (.bp l (.el g a i q)))=>some (.e (.one (.bp l (.el g a i (q+k)))),[])
   |.e (.one (.c (.val (.pointer (some ⟨b,off,none⟩)))))=>some (.e (.one (.c (.val (.pointer (some ⟨b,off+k,none⟩))))),[])
   |_=>none
  |none=>none
 |.nilCheck x=>match bz φ x with
  |.e (.one (.bp l (.el g a i q)))=>some (.e (.one (.bp l (.el g a i q))),[])
  |_=>none
 |.slice t x lo hi none=>match aJ T t with
  |none=>none
  |some i=>match px (bz φ) lo with
   |none=>none
   |some lw=>match px (bz φ) hi with
    |none=>none
    |some u=>match i.desc with
     |.slice E=>match aJ T E with
      |none=>none
      |some ie=>match bz φ x with
       |.e (.one (.bp l (.sl g k q m)))=>match Nat.beq k ie.size with
        |true=>some (.e (.one (.bp l (.sl g ie.size (q+cA 0 lw) (cA m u-cA 0 lw)))),il m lw u)
        |false=>none
       |_=>none
     |_=>none
 |.slice t x none (some y) (some z)=>match aJ T t with
  |none=>none
  |some i=>match i.desc with
   |.slice E=>match aJ T E with
    |none=>none
    |some _=>match uH (bz φ x),bz φ y,bz φ z with
     |some (_,k,n,es),.e (.one (.c (.int _ j))),.e (.one (.c (.int _ m)))=>some (.e (.one (.c (.sl false k j.toNat es))),[0<=j,j<=m,m<=n])
     |_,_,_=>none
   |_=>none
 |.call c=>match c.callee with
  |.builtin .len=>match c.args.toList,c.argTypes[0]? with
   |[x],some t=>match aJ T t with
    |some i=>match i.desc with
     |.slice _=>match bz φ x with
      |.e (.one (.bp _ (.sl _ _ _ m)))=>some (.e (.one (.c (.int .i64 m))),[])
      |.e (.one (.c (.val (.slice _ n _))))=>some (.e (.one (.c (.int .i64 n))),[n<=9223372036854775807])
      |_=>none
     |_=>none
    |none=>none
   |_,_=>none
  |_=>none
 |_=>none
def uE(T:List (Nat×TI))(φ:Fr)(σ:List ak)(t:TypeId)(x:Operand):Option (D×List Prop) :=
 match aJ T t with
 |some it=>match bz φ x with
  |.e (.one (.bp l (.el g k i f)))=>match en l σ with
   |some (.buf _ k' n es)=>match Nat.beq k' k with
    |true=>match ki it ((eR f (es i)).map A.c) with
     |some e=>some (.e e,[g=n,i<n])
     |none=>none
    |false=>none
   |_=>none
  |_=>none
 |none=>none
def Du:Nat->List C->Nat->Bool
 |0,cc,k=>Nat.beq cc.length k
 |_+1,_,_=>false
def uJ(T:List (Nat×TI))(φ:Fr)(σ:List ak)(t:TypeId)(x y:Operand):Option (D×List ak×List Prop) :=
 match aJ T t with
 |some it=>match bz φ x with
  |.e (.one (.bp l (.el g k i f)))=>match en l σ with
   |some (.buf E k' n es)=>match Nat.beq k' k with
    |true=>match k7 (bz φ y) with
     |some new=>match Nat.beq new.length it.size with
      |true=>match eJ new with
       |some cc=>match Du f cc k with
        |true=>b6 (cU.po l (.buf E k' n (fX i cc es)) σ) λσ'=>some (.any,σ',[g=n,i<n])
        |false=>match dv f cc (es i) with
         |some ci=>b6 (cU.po l (.buf E k' n (fX i ci es)) σ) λσ'=>some (.any,σ',[g=n,i<n])
         |none=>none
       |none=>none
      |false=>none
     |none=>none
    |false=>none
   |_=>none
  |_=>none
 |none=>none
def GY(T:List (Nat×TI))(CT:List (Nat×bH))(φ:Fr)(σ:List ak)(o:Oper):Option (D×List Prop) :=
 match o.op with
 |.load t x=>match Dm T φ σ t x with
  |some d=>some (d,[])
  |none=>uE T φ σ t x
 |_=>match Oq T CT φ o with
  |some r=>some r
  |none=>Pu T φ o
def JO(T:List (Nat×TI))(a:Operand->D)(σ:List ak)(x y:Operand)(t b:TypeId):Option (D×List ak×List Prop) :=
 match aJ T t with
 |none=>none
 |some i=>match aJ T b with
  |none=>none
  |some i2=>match i.desc with
   |.slice E=>match i2.desc with
    |.slice E2=>match Nat.beq E2 E with
     |false=>none
     |true=>match aJ T E with
      |none=>none
      |some ie=>match Nat.ble 1 ie.bytes,Nat.ble 1 ie.size with
       |true,true=>match uH (a y) with
        |none=>none
        |some (_,k',m,es')=>match Nat.beq k' ie.size with
         |false=>none
         |true=>match a x with
          |.e (.one (.c (.sl true k n es)))=>match Nat.beq k ie.size with
           |true=>b6 (σ++[.vec E ie.size (n+m) (cz n es es')]) λσ'=>some (.e (.one (.vec σ.length ie.size (n+m) (cz n es es'))),σ',[(n+m)*ie.bytes<=140737488355328,n=0∨0<m])
           |false=>match Nat.beq n 0 with
            |true=>b6 (σ++[.vec E ie.size (n+m) (cz n es es')]) λσ'=>some (.e (.one (.vec σ.length ie.size (n+m) (cz n es es'))),σ',[(n+m)*ie.bytes<=140737488355328,n=0∨0<m])
            |false=>none
          |.e (.one (.vec l k n es))=>match en l σ with
           |some (.vec E' k2 n2 LO)=>match Nat.beq E' E,Nat.beq k ie.size,Nat.beq k2 ie.size with
            |true,true,true=>b6 (cU.po l (.vec E ie.size (n+m) (cz n es es')) σ) λσ'=>some (.e (.one (.vec l ie.size (n+m) (cz n es es'))),σ',[n2=n,LO=es,(n+m)*ie.bytes<=140737488355328])
            |_,_,_=>none
           |_=>none
          |.e (.one (.bp l (.sl g k 0 n)))=>match en l σ with
           |some (.buf E' k2 n2 LO)=>match Nat.beq E' E,Nat.beq k ie.size,Nat.beq k2 ie.size with
            |true,true,true=>b6 (cU.po l (.buf E ie.size (n2+m) (cz n2 LO es')) σ) λσ'=>some (.e (.one (.bp l (.sl (n2+m) ie.size 0 (n2+m)))),σ',[g=n2,n=n2,(n2+m)*ie.bytes<=140737488355328])
            |_,_,_=>none
           |_=>none
          |_=>none
       |_,_=>none
    |_=>none
   |_=>none
def My(T:List (Nat×TI))(CT:List (Nat×bH))(φ:Fr)(σ:List ak)(o:Oper):Option (D×List ak×List Prop) :=
 match o.op with
 |.alloc _|.box _ _=>Ox T φ σ o
 |.store t x y=>match Ox T φ σ o with
  |some r=>some r
  |none=>uJ T φ σ t x y
 |.call c=>match c.callee with
  |.builtin .append=>match c.args.toList,c.argTypes.toList with
   |[x,y],[t,a]=>JO T (bz φ) σ x y t a
   |_,_=>none
  |.value fo=>Dv CT φ σ fo c.args.toList
  |_=>none
 |_=>none
def JP(T:List (Nat×TI))(a:Operand->D)(x y:Operand)(t b:TypeId):Option (D×List Prop) :=
 match aJ T t with
 |none=>none
 |some i=>match aJ T b with
  |none=>none
  |some i2=>match i.desc with
   |.slice E=>match i2.desc with
    |.slice E2=>match Nat.beq E2 E with
     |false=>none
     |true=>match aJ T E with
      |none=>none
      |some ie=>match Nat.ble 1 ie.bytes,Nat.ble 1 ie.size with
       |true,true=>match uH (a y) with
        |none=>none
        |some (_,k',m,es')=>match Nat.beq k' ie.size with
         |false=>none
         |true=>match a x with
          |.e (.one (.c (.sl true k n es)))=>match Nat.beq n 0 with
           |true=>some (.e (.one (.c (.sl false ie.size (n+m) (cz n es es')))),[(n+m)*ie.bytes<=140737488355328,n=0∨0<m])
           |false=>none
          |_=>none
       |_,_=>none
    |_=>none
   |_=>none
def Pv(T:List (Nat×TI))(φ:Fr)(o:Oper):Option (D×List Prop) :=
 match o.op with
 |.call c=>match c.callee with
  |.builtin .append=>match c.args.toList,c.argTypes.toList with
   |[x,y],[t,a]=>JP T (bz φ) x y t a
   |_,_=>none
  |_=>none
 |_=>none
def Ac:List (Nat×Bool)->Nat->Option Bool
 |[],_=>none
 |(i,b)::r,t=>match Nat.beq i t with|true=>some b|false=>Ac r t
def Pd(ds:List (Nat×Bool)):Option Nat->Bool
 |none=>false
 |some t=>match Ac ds (2000000+t) with
  |some true=>true
  |_=>false
def Dr(ds:List (Nat×Bool))(d:Option Nat)(x:D)(obs:List Prop):Option (D×List Prop) :=
 match d with
 |none=>some (x,obs)
 |some t=>match Ac ds t with
  |none=>some (x,obs)
  |some b=>match x with
   |.e (.one (.c (.bool e)))=>some (.e (.one (.c (.bool b))),iZ obs [e=b])
   |_=>none
theorem G3{ds:List (Nat×Bool)}{d:Option Nat}{x y:D}{obs yi:List Prop}(h:Dr ds d x obs=some (y,yi))(a:aa yi):y=x/\aa obs:=by
 unfold Dr at h;split at h
 ·cases h;exact⟨rfl,a⟩
 ·split at h
  ·cases h;exact⟨rfl,a⟩
  ·split at h
   ·cases h;rw[aa.cat] at a;have:_=_:=a.2;subst this;exact⟨rfl,a.1⟩
   ·cases h
def zZ(T:List (Nat×TI))(CT:List (Nat×bH))(ds:List (Nat×Bool))(all:List Oper)(φ:Fr)(σ:List ak)(o:Oper):Option (D×Option (List ak)×List Prop) :=
 let go:Option (D×Option (List ak)×List Prop):=match GY T CT φ σ o with
  |some (x,obs)=>match Dr ds o.dst x obs with
   |some (y,a)=>kZ y λy=>some (y,none,a)
   |none=>none
  |none=>match Pd ds o.dst with
   |true=>match Pv T φ o with
    |some (x,obs)=>kZ x λx=>some (x,none,obs)
    |none=>none
   |false=>match My T CT φ σ o with
    |some (x,σ',obs)=>kZ x λx=>some (x,some σ',obs)
    |none=>none
 match o.guard with
 |none=>go
 |some (j,b)=>match yj φ all j with
  |some (some b')=>match b,b' with
   |true,true=>go
   |false,false=>go
   |_,_=>some (.eD [],none,[])
  |some none=>some (.eD [],none,[])
  |none=>none
section
variable {P:Program}{X:Cx P}{T:List (Nat×TI)}{CT:List (Nat×bH)}{N:Nat}{all:List Oper}{φ:Fr}{σ:List ak}{o:Oper}
theorem G4(f:bX P T)(B:∀ σ s a,bg N σ s φ a->Region.wanted o (yielded all.toArray a.tmps)=true){x y:Operand}{t e:TypeId}{d:D}{obs:List Prop}(I:o.op=.call { callee:=.builtin .append,args:=#[x,y],argTypes:=#[t,e] })
  (h:JP T (bz φ) x y t e=some (d,obs)) (b:aa obs):OA X N all o φ σ d σ:=by
 unfold JP at h;split at h
 ·cases h
 rename_i i hi
 split at h
 ·cases h
 rename_i A j
 split at h
 case h_2=>cases h
 rename_i E K
 split at h
 case h_2=>cases h
 rename_i F l
 split at h
 ·cases h
 rename_i z
 have G:=bk z;subst G;split at h
 ·cases h
 rename_i C u
 split at h
 case h_2=>cases h
 rename_i g q
 have c:vJ P o x y F C:=⟨⟨t,e,i,A,I,f t i hi,K,f e A j,l⟩,f _ _ u,by have:=cY g;omega,by have:=cY q;omega⟩
 split at h
 ·cases h
 rename_i L k' m es' hy
 split at h
 ·cases h
 rename_i r
 have J:=bk r;subst J;have w:=λs v=>k6 hy σ s v
 split at h
 ·rename_i k n es hx
  split at h
  ·rename_i H
   cases h;exact(OA.ju B (aH.lH c hx (.inr (bk H)) w b.1 b.2)).MI
  ·cases h
 ·cases h
theorem G5(r:bX P T){R:Operand->D}{x y:Operand}{t f:TypeId}{d:D}{σ':List ak}{obs:List Prop}(ho:o.op=.call { callee:=.builtin .append,args:=#[x,y],argTypes:=#[t,f] })
  (h:JO T R σ x y t f=some (d,σ',obs)) (a:aa obs):aH P o R σ d σ':=by
 unfold JO at h;split at h
 ·cases h
 rename_i i hi
 split at h
 ·cases h
 rename_i S F
 split at h
 case h_2=>cases h
 rename_i E hE
 split at h
 case h_2=>cases h
 rename_i V G
 split at h
 ·cases h
 rename_i M
 have Y:=bk M;subst Y;split at h
 ·cases h
 rename_i U K
 split at h
 case h_2=>cases h
 rename_i B H
 have b:vJ P o x y V U:=⟨⟨t,f,i,S,ho,r t i hi,hE,r f S F,G⟩,r _ _ K,by have:=cY B;omega,by have:=cY H;omega⟩
 split at h
 ·cases h
 rename_i tx k' m es' hy
 split at h
 ·cases h
 rename_i I
 have ek:=bk I;subst ek;have c:=λs v=>k6 hy σ s v
 split at h
 ·rename_i k n es hx
  split at h
  ·rename_i W
   rw[bT] at h;cases h;exact aH.lH b hx (.inl (bk W)) c a.1 a.2
  ·split at h
   ·rename_i hn
    rw[bT] at h;cases h;exact aH.lH b hx (.inr (bk hn)) c a.1 a.2
   ·cases h
 ·rename_i l k n es hx
  split at h
  ·rename_i Z k2 j e C
   split at h
   ·rename_i L z q
    rw[bT,jD] at h;cases h;obtain⟨w,u,O⟩:j=n/\e=es/\_:=a;subst w;subst u;have J:=bk L;subst J;have A:=bk z;have Q:=bk q;subst Q;subst A;exact aH.A7 b hx (cT C) c O
   ·cases h
  ·cases h
 ·rename_i l g k n hx
  split at h
  ·rename_i Z k2 j e C
   split at h
   ·rename_i L z q
    rw[bT,jD] at h;cases h;obtain⟨w,u,O⟩:g=j/\n=j/\_:=a;subst w;subst u;have J:=bk L;subst J;have A:=bk z;have Q:=bk q;subst Q;subst A;exact aH.G6 b hx (cT C) c O
   ·cases h
  ·cases h
 ·cases h
theorem G7(f:bX P T){g:Operand->D}{x:Operand}{a:Array TypeId}{t:TypeId}{d:D}(c:o.op=.call { callee:=.builtin .len,args:=#[x],argTypes:=a })(e:a[0]?=some t)(h:JM T t (g x)=some d):aH P o g σ d σ:=by
 unfold JM at h;split at h
 ·cases h
 rename_i i hi
 split at h
 ·rename_i E b
  split at h
  ·rename_i tt k n es hs
   cases h;exact aH.MK f c e hi b (λs v=>k6 hs σ s v)
  ·cases h
 ·rename_i b
  split at h
  ·rename_i s hs
   cases h;exact aH.JQ f c e hi b hs
  ·cases h
 ·cases h
theorem Dw(t:bX P T){u:Operand->D}{c b:TypeId}{x:Operand}{d:D}{obs:List Prop}(g:o.op=.convert c b x)(h:Dt T c b (u x)=some (d,obs))(f:aa obs):aH P o u σ d σ:=by
 unfold Dt at h;split at h
 ·cases h
 rename_i i hi
 split at h
 ·cases h
 rename_i A a
 split at h
 ·rename_i k' hd
  split at h
  ·rename_i k j l
   cases h;exact aH.G8 t g hi a hd l f
  ·cases h
 ·rename_i hd
  split at h
  ·rename_i s l
   cases h;exact aH.G9 t g hi a hd l
  ·split at h
   ·rename_i E m
    split at h
    ·rename_i B z
     split at h
     ·rename_i q
      split at h
      ·rename_i tt k n es hs
       split at h
       ·rename_i y
        have e:=bk y;subst e;split at h
        ·rename_i r w
         cases h;exact aH.Bf t g hi a m hd z q (λs v=>k6 hs σ s v) w
        ·cases h
       ·cases h
      ·cases h
     ·cases h
    ·cases h
   ·cases h
 ·cases h
theorem Bg(m:bX P T){q:Operand->D}{t:TypeId}{x:Operand}{lo hi:Option Operand}{d:D}{obs:List Prop}(f:o.op=.slice t x lo hi none)(h:yh T q t x lo hi=some (d,obs))(a:aa obs):aH P o q σ d σ:=by
 unfold yh at h;split at h
 ·cases h
 rename_i i b
 split at h
 ·cases h
 rename_i l g
 split at h
 ·cases h
 rename_i u j
 split at h
 ·rename_i c
  split at h
  ·rename_i s r
   cases h;exact aH.Dx m f b c r g j a
  ·cases h
 ·rename_i E c
  split at h
  ·cases h
  rename_i z y
  split at h
  ·rename_i tt k n es hs
   split at h
   ·rename_i w
    cases h;have e:=bk w;subst e;exact aH.Ha m f b c y (λs v=>k6 hs σ s v) g j a
   ·cases h
  ·cases h
 ·cases h
theorem qH{α:Type}{xs:Array α}{x:α}(h:xs.toList=[x]):xs=#[x]:=gI h
theorem nK{α:Type}{xs:Array α}{x y:α}(h:xs.toList=[x,y]):xs=#[x,y]:=gI h
theorem JR(B:bX P T)(hC:aO X CT){d:D}{obs:List Prop}(h:Oq T CT φ o=some (d,obs))(g:aa obs)(r:∀ σ s a,bg N σ s φ a->Region.wanted o (yielded all.toArray a.tmps)=true):OA X N all o φ σ d σ:=by
 unfold Oq at h;split at h
 ·rename_i x C;cases h;exact OA.ju r (aH.move C)
 ·rename_i x C;cases h;exact OA.ju r (aH.assign C)
 ·rename_i t x y C
  split at h
  ·rename_i i hi
   split at h
   ·rename_i G
    split at h
    ·rename_i l k j w J
     cases h;obtain⟨Z,Q⟩:0<=j/\j<(l.length:Int):=g;have:=aH.Dy (σ:=σ) (m:=j.toNat) B C hi G w J (by omega) (by omega)
     have e:fA l j=l[j.toNat]'(by omega):=by simp[fA,List.getD_eq_getElem?_getD,aj (by omega:j.toNat<l.length)]
     rw[e];exact OA.ju r this
    ·cases h
   ·cases h
  ·cases h
 ·rename_i t x y C
  split at h
  ·rename_i i hi
   split at h
   ·rename_i E G
    split at h
    ·rename_i ie hE
     split at h
     ·rename_i tt k n es k2 j w J
      split at h
      ·rename_i V
       cases h;obtain⟨Z,Q⟩:0<=j/\j<(n:Int):=g;have e:=bk V;subst e;exact OA.ju r (aH.indexAddr (m:=j.toNat) B C hi G hE (λs v=>k6 w σ s v) J (by omega) (by omega))
      ·cases h
     ·cases h
    ·cases h
   ·cases h
  ·cases h
 ·rename_i t x lo hi C
  exact OA.ju r (Bg B C h g)
 ·rename_i W L x C
  exact OA.ju r (Dw B C h g)
 ·rename_i c C
  obtain⟨Y,args,U⟩:=c;simp only at h;split at h
  ·split at h
   ·rename_i x t w O
    split at h
    ·rename_i d' S
     cases h;have:=qH w;subst this;exact OA.ju r (G7 B C O S)
    ·cases h
   ·cases h
  ·exact OA.vW hC r C h g
  ·cases h
 ·rename_i c a b q
  split at h
  ·rename_i u;cases h;exact OA.ju r (aH.pick q u)
  ·rename_i u;cases h;exact OA.ju r (aH.pick q u)
  ·cases h
 ·rename_i op t y z ty q
  unfold IW at h;split at h
  ·rename_i a b A F
   split at h
   ·rename_i i hi
    split at h
    ·rename_i G
     split at h
     ·rename_i c u;cases h;exact OA.ju r (aH.JS B q hi G A F u)
     ·cases h
    ·cases h
   ·cases h
  ·rename_i a b _ A F
   split at h
   ·split at h
    ·rename_i _ _ a' b' _ _
     cases h;exact OA.ju r (aH.ML q A F g.1 g.2)
    ·obtain⟨c,rfl,u⟩:=nI h;exact OA.ju r (aH.bits q A F u g)
    ·cases h
   ·split at h
    ·obtain⟨c,rfl,u⟩:=nI h;exact OA.ju r (aH.bits q A F u g)
    ·cases h
   ·split at h
    ·obtain⟨c,rfl,u⟩:=nI h;exact OA.ju r (aH.bits q A F u g)
    ·cases h
   ·split at h
    ·obtain⟨c,rfl,u⟩:=nI h;exact OA.ju r (aH.bits q A F u g)
    ·cases h
   ·split at h
    ·rename_i c K u;cases h;exact OA.ju r (aH.binOp q A F u g)
    ·cases h
  ·rename_i cs es A F
   split at h
   ·rename_i i hi
    split at h
    ·cases h
    ·rename_i d ds RK
     split at h
     ·rename_i b I
      split at h
      ·rename_i c u;cases h;exact OA.ju r (aH.structEq B q hi (by rw[RK];simp) A F (by rw[RK];exact I) u)
      ·cases h
     ·cases h
   ·cases h
  ·cases h
 ·rename_i op t y q
  split at h
  ·rename_i a A
   split at h
   ·rename_i c u;cases h;exact OA.ju r (aH.unOp q A u)
   ·cases h
  ·cases h
 ·rename_i y j q
  split at h
  ·rename_i xs w
   split at h
   ·rename_i e M;cases h;exact OA.ju r (aH.extract q w (cT M))
   ·cases h
  ·cases h
 ·rename_i t y f q
  split at h
  ·rename_i k j H
   split at h
   ·rename_i l off w;cases h;exact OA.ju r (aH.nL B q w H)
   ·rename_i cs w;cases h;exact OA.ju r (aH.oV B q w H)
   ·cases h
  ·cases h
 ·rename_i t y f q
  split at h
  ·rename_i k j H
   split at h
   ·rename_i cs w
    split at h
    ·rename_i e R;cases h;exact OA.ju r (aH.field B q w H R)
    ·cases h
   ·cases h
  ·cases h
 ·rename_i y q
  split at h
  ·rename_i l off w;cases h;exact OA.ju r (aH.oX q w)
  ·rename_i cs w;cases h;exact OA.ju r (aH.qI q w)
  ·cases h
 ·rename_i t parts q
  split at h
  ·rename_i cs u;cases h;exact OA.ju r (aH.build B q u)
  ·cases h
 ·rename_i t n parts q
  split at h
  ·rename_i k es u;cases h;exact OA.ju r (aH.buildSlice B q u)
  ·cases h
 ·rename_i fn a b q
  split at h
  ·rename_i ca A
   split at h
   ·rename_i cb F;cases h;exact OA.ju r (aH.makeFunc q A F)
   ·cases h
  ·cases h
 ·rename_i t x q
  split at h
  ·rename_i i hi
   split at h
   ·rename_i G
    split at h
    ·rename_i c u;cases h;exact OA.ju r (aH.makeInterface B q hi G u)
    ·cases h
   ·cases h
  ·cases h
 ·rename_i x xt t q
  split at h
  ·rename_i i hi
   split at h
   ·rename_i G
    split at h
    ·rename_i c w
     split at h
     ·rename_i e b A;cases h;exact OA.ju r (aH.typeAssert B q hi G w A)
     ·cases h
    ·cases h
   ·cases h
  ·cases h
 ·cases h
theorem JU(C:bX P T){d:D}{obs:List Prop}(h:Pu T φ o=some (d,obs))(r:aa obs):aH P o (bz φ) σ d σ:=by
 unfold Pu at h;split at h
 ·rename_i t x y A
  split at h
  ·rename_i i hi
   split at h
   ·rename_i E B
    split at h
    ·rename_i O H
     split at h
     ·rename_i l g k q m kk j w J
      split at h
      ·rename_i L
       cases h;obtain⟨K,I⟩:0<=j/\j<(m:Int):=r;have e:=bk L;subst e;exact aH.Pw C A hi B H w J K I
      ·cases h
     ·rename_i b off n cap kk j w J
      cases h;obtain⟨K,I⟩:0<=j/\j<(n:Int):=r;exact aH.vX C A hi B H w J K I
     ·cases h
    ·cases h
   ·cases h
  ·cases h
 ·rename_i t x f A
  split at h
  ·rename_i k j Q
   split at h
   ·rename_i l g U i q w
    cases h;exact aH.JV C A w Q
   ·rename_i b off w
    cases h;exact aH.JW C A w Q
   ·cases h
  ·cases h
 ·rename_i x A
  split at h
  ·rename_i l g U i q w
   cases h;exact aH.Px A w
  ·cases h
 ·rename_i t x lo hi A
  split at h
  ·cases h
  rename_i i G
  split at h
  ·cases h
  rename_i lw S
  split at h
  ·cases h
  rename_i u V
  split at h
  ·rename_i E B
   split at h
   ·cases h
   rename_i O H
   split at h
   ·rename_i l g k q m w
    split at h
    ·rename_i L
     cases h;have e:=bk L;subst e;exact aH.sliceB C A G B H w S V r
    ·cases h
   ·cases h
  ·cases h
 ·rename_i t x y z A
  split at h
  ·cases h
  rename_i i G
  split at h
  ·rename_i E B
   split at h
   ·cases h
   rename_i O H
   split at h
   ·rename_i tt k n es kj j km m w J W
    cases h;obtain⟨K,I,R⟩:0<=j/\j<=m/\m<=(n:Int):=r;exact aH.slice3 C A G B H (λs v=>k6 w σ s v) J W K I R
   ·cases h
  ·cases h
 ·rename_i c A
  obtain⟨Z,args,Y⟩:=c;simp only at h;split at h
  ·split at h
   ·rename_i x t w M
    split at h
    ·rename_i i hi
     split at h
     ·rename_i E B
      split at h
      ·rename_i l g k q m F
       cases h;have:=qH w;subst this;exact aH.Py C A M hi B F
      ·rename_i a n cap F
       cases h;have:=qH w;subst this;exact aH.Pz C A M hi B F r
      ·cases h
     ·cases h
    ·cases h
   ·cases h
  ·cases h
 ·cases h
theorem Bh(j:bX P T){t:TypeId}{x:Operand}(b:o.op=.load t x){d:D}{obs:List Prop}(h:uE T φ σ t x=some (d,obs))(a:aa obs):aH P o (bz φ) σ d σ:=by
 unfold uE at h;split at h
 ·rename_i r hi
  split at h
  ·rename_i l g k i f c
   split at h
   ·rename_i E k' n es hB
    split at h
    ·rename_i q
     have e:=bk q;subst e;split at h
     ·rename_i e m
      cases h;exact aH.MM j b c a.1 (cT hB) hi m a.2
     ·cases h
    ·cases h
   ·cases h
  ·cases h
 ·cases h
theorem yk(m:bX P T){t:TypeId}{x y:Operand}(c:o.op=.store t x y){d:D}{σ':List ak}{obs:List Prop}(h:uJ T φ σ t x y=some (d,σ',obs))(a:aa obs):aH P o (bz φ) σ d σ':=by
 unfold uJ at h;split at h
 ·rename_i v hi
  split at h
  ·rename_i l g k i f j
   split at h
   ·rename_i E k' n es hB
    split at h
    ·rename_i u
     have e:=bk u;subst e;split at h
     ·rename_i new hy
      split at h
      ·rename_i q
       split at h
       ·rename_i cc Oy
        split at h
        ·rename_i r
         rw[bT,jD] at h;cases h;have b:f=0/\cc.length=k':=by
          cases f with
          |zero=>exact⟨rfl,bk r⟩
          |succ f=>simp[Du] at r
         obtain⟨rfl,b⟩:=b;exact aH.Dz m c j a.1 (cT hB) hi hy (bk q) Oy (λs=>nN (by rw[s,b])) a.2
        ·split at h
         ·rename_i ci Ts
          rw[bT,jD] at h;cases h;exact aH.Dz m c j a.1 (cT hB) hi hy (bk q) Oy (λ_=>Ts) a.2
         ·cases h
       ·cases h
      ·cases h
     ·cases h
    ·cases h
   ·cases h
  ·cases h
 ·cases h
theorem JX(g:bX P T)(n:aO X CT){d:D}{obs:List Prop}(h:GY T CT φ σ o=some (d,obs))(c:aa obs)(f:∀ σ s a,bg N σ s φ a->Region.wanted o (yielded all.toArray a.tmps)=true):OA X N all o φ σ d σ:=by
 unfold GY at h;split at h
 ·rename_i t y k
  split at h
  ·rename_i q b
   cases h;unfold Dm at b;split at b
   ·rename_i i hi
    split at b
    ·rename_i l off hx
     split at b
     ·rename_i E cs hB
      split at b
      ·rename_i e j;cases b;exact OA.ju f (aH.Ad g k hx (cT hB) hi j)
      ·cases b
     ·cases b
    ·rename_i cs hx
     split at b
     ·rename_i e j;cases b;exact OA.ju f (aH.DC g k hx hi j)
     ·cases b
    ·cases b
   ·cases b
  ·exact OA.ju f (Bh g k h c)
 ·split at h
  ·rename_i r m
   cases h;exact JR g n m c f
  ·exact OA.ju f (JU g h c)
theorem JY(f:bX P T)(l:aO X CT){d:D}{σ':List ak}{obs:List Prop}(h:My T CT φ σ o=some (d,σ',obs))(b:aa obs)(e:∀ σ s a,bg N σ s φ a->Region.wanted o (yielded all.toArray a.tmps)=true):OA X N all o φ σ d σ':=by
 unfold My at h;split at h
 ·exact OA.ju e (yl f h b)
 ·exact OA.ju e (yl f h b)
 ·rename_i t x y q
  split at h
  ·rename_i r k
   cases h;exact OA.ju e (yl f k b)
  ·exact OA.ju e (yk f q h b)
 ·rename_i c g
  obtain⟨n,args,m⟩:=c;simp only at h;split at h
  ·split at h
   ·rename_i x y t u i j
    have:=nK i;subst this;have:=nK j;subst this;exact OA.ju e (G5 f g h b)
   ·cases h
  ·exact OA.call l e g h b
  ·cases h
 ·cases h
theorem k5(n:bX P T)(w:aO X CT){ds:List (Nat×Bool)}{d:D}{σ':Option (List ak)}{obs:List Prop}(h:zZ T CT ds all φ σ o=some (d,σ',obs))(g:aa obs):OA X N all o φ σ d (σ'.getD σ):=by
 have go:(∀ σ s a,bg N σ s φ a->Region.wanted o (yielded all.toArray a.tmps)=true)->(match GY T CT φ σ o with
  |some (x,obs)=>match Dr ds o.dst x obs with
   |some (y,m)=>kZ y λy=>some (y,none,m)
   |none=>none
  |none=>match Pd ds o.dst with
   |true=>match Pv T φ o with
    |some (x,obs)=>kZ x λx=>some (x,none,obs)
    |none=>none
   |false=>match My T CT φ σ o with
    |some (x,σ',obs)=>kZ x λx=>some (x,some σ',obs)
    |none=>none)=some (d,σ',obs)->OA X N all o φ σ d (σ'.getD σ):=by
  intro q h;split at h
  ·rename_i x k A
   split at h
   ·rename_i y u C
    rw[kr] at h;cases h;obtain⟨rfl,B⟩:=G3 C g;exact JX n w A B q
   ·cases h
  ·split at h
   ·split at h
    ·rename_i x k e
     rw[kr] at h;cases h;unfold Pv at e;split at e
     ·rename_i c H
      obtain⟨G,args,E⟩:=c;simp only at e;split at e
      ·split at e
       ·rename_i x y t I F z
        have:=nK F;subst this;have:=nK z;subst this;exact G4 n q H e g
       ·cases e
      ·cases e
     ·cases e
    ·cases h
   ·split at h
    ·rename_i x σ1 k e
     rw[kr] at h;cases h;exact JY n w e g q
    ·cases h
 unfold zZ at h;simp only at h;split at h
 ·rename_i i
  exact go (λ_ _ _ _=>dr i) h
 ·rename_i j b i
  split at h
  ·rename_i v l
   have r:∀ σ s a,bg N σ s φ a->Region.wanted o (yielded all.toArray a.tmps)=(some v==some b):=λσ s a f=>by simp only[Region.wanted,i,sR l f]
   split at h
   ·exact go (λσ s a f=>(r σ s a f).trans rfl) h
   ·exact go (λσ s a f=>(r σ s a f).trans rfl) h
   ·cases h;refine OA.pass (λσ s a f=>(r σ s a f).trans ?_)
    cases b <;> cases v <;> simp_all
  ·rename_i l
   cases h;exact OA.pass (λσ s a f=>by simp only[Region.wanted,i,sR l f];rfl)
  ·cases h
end
def CQ(φ:Fr)(o:Oper):Bool:=match o.op with
 |.load _ x=>match bz φ x with
  |.e (.one (.c (.rp _)))=>false
  |_=>true
 |_=>false
theorem Dl{T:List (Nat×TI)}{CT:List (Nat×bH)}{φ:Fr}{σ σ2:List ak}{o:Oper}(h:CQ φ o=false):GY T CT φ σ o=GY T CT φ σ2 o:=by
 unfold GY;split
 ·rename_i t x a
  simp only[CQ,a] at h;split at h
  ·rename_i cs hx
   simp only[Dm,uE,hx]
  ·cases h
 ·rfl
theorem Dn{T:List (Nat×TI)}{CT:List (Nat×bH)}{ds:List (Nat×Bool)}{all:List Oper}{φ:Fr}{σ:List ak}{o:Oper}{d:D}{obs:List Prop}(h:CQ φ o=false)(a:zZ T CT ds all φ σ o=some (d,none,obs))(σ2:List ak) :
  zZ T CT ds all φ σ2 o=some (d,none,obs):=by
 unfold zZ at a ⊢;simp only at a ⊢;rw[Dl (σ2:=σ) h];cases c:GY T CT φ σ o with
 |some r=>simp only[c] at a ⊢;exact a
 |none =>
  simp only[c] at a ⊢;cases f:Pd ds o.dst with
  |true=>simp only[f] at a ⊢;exact a
  |false =>
   simp only[f] at a ⊢;have key:∀ {y:Option (D×Option (List ak)×List Prop)},(match My T CT φ σ o with|some (x,σ',obs)=>kZ x λx=>some (x,some σ',obs)|none=>none)=y->y≠some (d,none,obs):=by
    intro y b e;subst e;split at b
    ·rw[kr] at b;cases b
    ·cases b
   split at a
   ·exact absurd rfl (key a)
   ·split at a
    ·split at a
     ·exact absurd rfl (key a)
     ·exact absurd rfl (key a)
     ·exact a
    ·exact a
    ·cases a
def lO(t:Nat):List Oper->Bool
 |[]=>false
 |o::r=>match o.dst with
  |some d=>match Nat.beq d t with|true=>true|false=>lO t r
  |none=>lO t r
theorem nD{t:Nat}:∀ {l:List Oper}{i:Nat}{o:Oper},l[i]?=some o->o.dst=some t->lO t l=true
 |[],_,_,h,_=>by simp at h
 |p::r,0,o,h,a=>by
  simp at h;subst h;simp[lO,a,jX]
 |p::r,i+1,o,h,a=>by
  have:=nD (l:=r) (by simpa using h) a
  simp only[lO];split
  ·split <;> simp[this]
  ·exact this
theorem mi{t:Nat}:∀ {l:List Oper},lO t l=true->∃ (i:Nat)(o:Oper),l[i]?=some o/\o.dst=some t
 |[],h=>by cases h
 |p::r,h=>by
  simp only[lO] at h;split at h
  ·rename_i d c
   split at h
   ·rename_i e
    exact⟨0,p,rfl,by rw[c,bk e]⟩
   ·obtain⟨i,o,a,b⟩:=mi h;exact⟨i+1,o,by simpa using a,b⟩
  ·obtain⟨i,o,a,b⟩:=mi h;exact⟨i+1,o,by simpa using a,b⟩
def mH:List Oper->Bool
 |[]=>true
 |o::r=>match o.dst with
  |some d=>match lO d r with|true=>false|false=>mH r
  |none=>mH r
theorem oo{t:Nat}:∀ {l:List Oper}{i j:Nat}{o p:Oper},mH l=true->l[i]?=some o->l[j]?=some p->o.dst=some t->p.dst=some t->i=j
 |[],_,_,_,_,_,h,_,_,_=>by simp at h
 |q::r,0,0,_,_,_,_,_,_,_=>rfl
 |q::r,0,j+1,o,p,a,c,b,d1,d2=>by
  simp at c;subst c;simp only[mH,d1] at a;rw[nD (l:=r) (by simpa using b) d2] at a
  cases a
 |q::r,i+1,0,o,p,a,c,b,d1,d2=>by
  simp at b;subst b;simp only[mH,d2] at a;rw[nD (l:=r) (by simpa using c) d1] at a
  cases a
 |q::r,i+1,j+1,o,p,a,c,b,d1,d2=>by
  have:mH r=true:=by
   simp only[mH] at a;split at a
   ·split at a
    ·cases a
    ·exact a
   ·exact a
  have f:r[i]?=some o:=by simpa using c
  have d:r[j]?=some p:=by simpa using b
  have e:=oo this f d d1 d2;omega
def pt(all:List Oper):Fr->Fr
 |[]=>[]
 |(t,d)::r=>match lO t all with|true=>pt all r|false=>(t,d)::pt all r
theorem iJ{all:List Oper}{t:Nat}:∀ {φ:Fr},look (pt all φ) t=if lO t all=true then .any else look φ t
 |[]=>by simp[pt,look]
 |(u,d)::r=>by
  simp only[pt]
  by_cases c:Nat.beq u t=true
  ·have e:=bk c;subst e;cases b:lO u all with
   |true=>simp only;rw[iJ];simp[b]
   |false=>simp[look]
  ·have a:Nat.beq u t=false:=by cases h:Nat.beq u t with|true=>exact absurd h c|false=>rfl
   cases b:lO u all with
   |true=>simp only;rw[iJ];simp[look,a]
   |false=>simp only[look,a,cond];rw[iJ]
def bu:List Edge->List Nat
 |[]=>[]
 |e::r=>match e.ground with
  |.textOnly _=>bu r
  |.gcOnly _=>bu r
  |_=>e.on::bu r
theorem dO{j:Nat}:∀ {l:List Edge},j∈bu l↔∃ e∈l,bt e=true/\e.on=j
 |[]=>by simp[bu]
 |e::r=>by
  have k:=dO (j:=j) (l:=r);have yes:bu (e::r)=e.on::bu r->bt e=true->(j∈bu (e::r)↔∃ d∈e::r,bt d=true/\d.on=j):=by
   intro i g;rw[i,dy,k]
   constructor
   ·rintro(h|⟨d,a,b,c⟩)
    ·exact⟨e,List.mem_cons_self,g,h.symm⟩
    ·exact⟨d,mT _ a,b,c⟩
   ·rintro⟨d,a,b,c⟩;rcases dy.1 a with rfl|a
    ·exact .inl c.symm
    ·exact .inr ⟨d,a,b,c⟩
  have no:bu (e::r)=bu r->bt e=false->(j∈bu (e::r)↔∃ d∈e::r,bt d=true/\d.on=j):=by
   intro i g;rw[i,k]
   constructor
   ·rintro⟨d,a,b,c⟩;exact⟨d,mT _ a,b,c⟩
   ·rintro⟨d,a,b,c⟩;rcases dy.1 a with rfl|a
    ·rw[g] at b;cases b
    ·exact⟨d,a,b,c⟩
  cases f:e.ground with
  |textOnly w=>exact no (by simp only[bu,f]) (by unfold bt Region.binds;rw[f];rfl)
  |gcOnly w=>exact no (by simp only[bu,f]) (by unfold bt Region.binds;rw[f];rfl)
  |_=>exact yes (by simp only[bu,f]) (by unfold bt Region.binds;rw[f])
def pv(i t:Nat):List Oper->Bool
 |[]=>false
 |o::r=>match o.dst with
  |some d=>match Nat.beq d t with
   |true=>match fH i (bu o.after.toList) with
    |true=>pv i t r
    |false=>true
   |false=>pv i t r
  |none=>pv i t r
theorem qC{i t:Nat}:∀ {l:List Oper},pv i t l=false->∀ (j:Nat)(o:Oper),l[j]?=some o->o.dst=some t->fH i (bu o.after.toList)=true
 |[],_,j,o,h,_=>by simp at h
 |p::r,h,0,o,a,b=>by
  simp at a;subst a;simp only[pv,b,jX] at h;cases c:fH i (bu p.after.toList) with
  |true=>rfl
  |false=>simp[c] at h
 |p::r,h,j+1,o,a,b=>by
  have:pv i t r=false:=by
   simp only[pv] at h;split at h
   ·split at h
    ·split at h
     ·exact h
     ·cases h
    ·exact h
   ·exact h
  exact qC this j o (by simpa using a) b
def lP(all:List Oper):Fr->List (Nat×D×Bool)
 |[]=>[]
 |(t,d)::r=>match lO t all with
  |true=>(t,d,true)::lP all r
  |false=>(t,d,false)::lP all r
def hU(i:Nat)(all:List Oper):List (Nat×D×Bool)->Fr
 |[]=>[]
 |(t,d,b)::r=>match b with
  |false=>(t,d)::hU i all r
  |true=>match pv i t all with
   |true=>hU i all r
   |false=>(t,d)::hU i all r
theorem sL{i:Nat}{all:List Oper}{t:Nat}:∀ {φ:Fr},look (hU i all (lP all φ)) t=if lO t all=true/\pv i t all=true then .any else look φ t
 |[]=>by simp[lP,hU,look]
 |(u,d)::r=>by
  have h:=sL (i:=i) (all:=all) (t:=t) (φ:=r);have c:look ((u,d)::hU i all (lP all r)) t=if Nat.beq u t=true then d else look (hU i all (lP all r)) t:=by
   simp only[look];cases Nat.beq u t <;> rfl
  have a:look ((u,d)::r) t=if Nat.beq u t=true then d else look r t:=by simp only[look];cases Nat.beq u t <;> rfl
  cases f:lO u all with
  |false =>
   simp only[lP,f,hU];rw[c,a,h]
   by_cases b:Nat.beq u t=true
   ·have e:=bk b;subst e;simp[f]
   ·simp[b]
  |true =>
   cases g:pv i u all with
   |true =>
    simp only[lP,f,hU,g];rw[a,h]
    by_cases b:Nat.beq u t=true
    ·have e:=bk b;subst e;simp[f,g]
    ·simp[b]
   |false =>
    simp only[lP,f,hU,g];rw[c,a,h]
    by_cases b:Nat.beq u t=true
    ·have e:=bk b;subst e;simp[g]
    ·simp[b]
def fR(m:Nat->Bool):Nat->List (Option Nat×D)->Fr->Fr
 |_,[],φ=>φ
 |i,(d,x)::r,φ=>match m i with
  |true=>match d with
   |some t=>(t,x)::fR m (i+1) r φ
   |none=>fR m (i+1) r φ
  |false=>fR m (i+1) r φ
theorem kt{m:Nat->Bool}{φ:Fr}{t:Nat}:∀ {l:List (Option Nat×D)}{i:Nat},(∃ j x,l[j]?=some (some t,x)/\m (i+j)=true/\look (fR m i l φ) t=x)∨look (fR m i l φ) t=look φ t
 |[],i=>.inr rfl
 |(d,x)::r,i=>by
  have g:=kt (m:=m) (φ:=φ) (t:=t) (l:=r) (i:=i+1);have step:look (fR m i ((d,x)::r) φ) t=look (fR m (i+1) r φ) t->((∃ j b,((d,x)::r)[j]?=some (some t,b)/\m (i+j)=true/\look (fR m i ((d,x)::r) φ) t=b)∨look (fR m i ((d,x)::r) φ) t=look φ t):=by
   intro e;rw[e];rcases g with⟨j,b,o,n,k⟩|h
   ·exact .inl ⟨j+1,b,by simpa using o,by rw[show i+(j+1)=i+1+j by omega];exact n,k⟩
   ·exact .inr h
  cases a:m i with
  |false=>exact step (by simp[fR,a])
  |true =>
   cases d with
   |none=>exact step (by simp[fR,a])
   |some u =>
    by_cases f:Nat.beq u t=true
    ·have e:=bk f;subst e;exact .inl ⟨0,x,rfl,by simpa using a,by simp[fR,a,look]⟩
    ·have c:Nat.beq u t=false:=by cases h:Nat.beq u t with|true=>exact absurd h f|false=>rfl
     exact step (by simp[fR,a,look,c])
structure x3 where
 i:Nat
 pre:List (Option Nat×D)
 σ:List ak
 cls:List (List Bool)
 uF:List Bool
 GZ:List Bool
 obs:List Prop
def LP(i:Nat):List Nat->Bool
 |[]=>true
 |k::r=>match Nat.blt k i with|true=>LP i r|false=>false
theorem ye{i:Nat}:∀ {l:List Nat},LP i l=true->∀ k∈l,k<i
 |[],_,k,h=>by simp at h
 |x::r,h,k,b=>by
  simp only[LP] at h;cases a:Nat.blt x i with
  |false=>simp[a] at h
  |true =>
   simp only[a] at h;rcases dy.1 b with rfl|b
   ·exact cY a
   ·exact ye h k b
def bit:List Bool->Nat->Bool
 |[],_=>false
 |b::_,0=>b
 |_::r,n+1=>bit r n
def sc:List Bool->List Bool->List Bool
 |[],b=>b
 |true::a,[]=>true::a
 |false::a,[]=>false::a
 |true::a,_::b=>true::sc a b
 |false::a,true::b=>true::sc a b
 |false::a,false::b=>false::sc a b
theorem jG:∀ {a b:List Bool}{j:Nat},bit (sc a b) j=(bit a j||bit b j)
 |[],b,j=>by simp[sc,bit]
 |true::a,[],j=>by simp[sc,bit]
 |false::a,[],j=>by simp[sc,bit]
 |true::a,c::b,0=>by simp[sc,bit]
 |true::a,c::b,j+1=>by simp only[sc,bit];exact jG
 |false::a,true::b,0=>by simp[sc,bit]
 |false::a,true::b,j+1=>by simp only[sc,bit];exact jG
 |false::a,false::b,0=>by simp[sc,bit]
 |false::a,false::b,j+1=>by simp only[sc,bit];exact jG
def oq:Nat->List Bool
 |0=>[true]
 |n+1=>false::oq n
theorem nE:∀ {n j:Nat},bit (oq n) j=decide (n=j)
 |0,0=>rfl
 |0,j+1=>by simp[oq,bit]
 |n+1,0=>by simp[oq,bit]
 |n+1,j+1=>by simp only[oq,bit,nE];simp
def z0(a:List (List Bool)):List Nat->List Bool
 |[]=>[]
 |e::r=>match en e a with
  |some c=>sc (sc c (oq e)) (z0 a r)
  |none=>sc (oq e) (z0 a r)
theorem z8{b:List (List Bool)}{j:Nat}:∀ {l:List Nat},bit (z0 b l) j=true->∃ e∈l,e=j∨∃ c,b[e]?=some c/\bit c j=true
 |[],h=>by simp[z0,bit] at h
 |e::r,h=>by
  simp only[z0,dg] at h;have d:∀ {a:Nat},bit (oq e) a=true->e=a:=by
   intro a h;rw[nE] at h;simpa using h
  have rest:bit (z0 b r) j=true->∃ f∈e::r,f=j∨∃ c,b[f]?=some c/\bit c j=true:=by
   intro h;obtain⟨f,k,i⟩:=z8 h;exact⟨f,mT _ k,i⟩
  split at h
  ·rename_i c g
   rw[jG,jG,kL,kL] at h;rcases h with(h|h)|h
   ·exact⟨e,by simp,.inr ⟨c,g,h⟩⟩
   ·exact⟨e,by simp,.inl (d h)⟩
   ·exact rest h
  ·rw[jG,kL] at h;rcases h with h|h
   ·exact⟨e,by simp,.inl (d h)⟩
   ·exact rest h
def ot:List Bool->List Bool->Bool
 |[],_=>true
 |true::a,true::b=>ot a b
 |true::_,_=>false
 |false::a,_::b=>ot a b
 |false::a,[]=>ot a []
theorem mj:∀ {a b:List Bool}{j:Nat},ot a b=true->bit a j=true->bit b j=true
 |[],b,j,_,d=>by simp[bit] at d
 |true::a,true::b,0,_,_=>rfl
 |true::a,true::b,j+1,h,d=>by simp only[bit] at d ⊢;exact mj (by simpa[ot] using h) d
 |true::a,false::b,j,h,_=>by simp[ot] at h
 |true::a,[],j,h,_=>by simp[ot] at h
 |false::a,c::b,0,_,d=>by simp[bit] at d
 |false::a,c::b,j+1,h,d=>by simp only[bit] at d ⊢;exact mj (by simpa[ot] using h) d
 |false::a,[],0,_,d=>by simp[bit] at d
 |false::a,[],j+1,h,d=>by
  simp only[bit] at d;have:=mj (j:=j) (by simpa[ot] using h) d
  simp[bit] at this
def nF(T:List (Nat×TI))(CT:List (Nat×bH))(N:Nat)(ds:List (Nat×Bool))(all:List Oper)(φm:List (Nat×D×Bool))(st:x3)(o:Oper):Option x3 :=
 match iu N o.dst with
 |false=>none
 |true =>
  b6 (bu o.after.toList) λes =>
  match LP st.i es with
  |false=>none
  |true=>match zZ T CT ds all (fR (λj=>fH j es) 0 st.pre (hU st.i all φm)) st.σ o with
   |none=>none
   |some (x,σ',obs) =>
    b6 (z0 st.cls es) λa =>
    match σ',CQ (fR (λj=>fH j es) 0 st.pre (hU st.i all φm)) o with
    |none,false=>b6 (st.pre++[(o.dst,x)]) λpre=>b6 (st.cls++[a]) λcls=>b6 (iZ obs st.obs) λobs=>some ⟨st.i+1,pre,st.σ,cls,st.uF,st.GZ,obs⟩
    |none,true=>match ot st.uF a with
     |true=>b6 (st.pre++[(o.dst,x)]) λpre=>b6 (st.cls++[a]) λcls=>b6 (iZ obs st.obs) λobs=>b6 (sc st.GZ (oq st.i)) λb=>some ⟨st.i+1,pre,st.σ,cls,st.uF,b,obs⟩
     |false=>none
    |some σ',_=>match ot st.GZ a with
     |true=>b6 (st.pre++[(o.dst,x)]) λpre=>b6 (st.cls++[a]) λcls=>b6 (iZ obs st.obs) λobs=>b6 (sc st.GZ (oq st.i)) λb=>b6 (sc st.uF (oq st.i)) λc=>some ⟨st.i+1,pre,σ',cls,c,b,obs⟩
     |false=>none
def G0(T:List (Nat×TI))(CT:List (Nat×bH))(N:Nat)(ds:List (Nat×Bool))(all:List Oper)(φm:List (Nat×D×Bool)):List Oper->x3->Option x3
 |[],st=>some st
 |o::r,st=>match nF T CT N ds all φm st o with
  |some js=>G0 T CT N ds all φm r js
  |none=>none
def z9(T:List (Nat×TI))(CT:List (Nat×bH))(N:Nat)(ds:List (Nat×Bool))(all:List Oper)(φ:Fr)(σ:List ak):Option (Fr×List ak×List Prop) :=
 match mH all with
 |false=>none
 |true=>b6 (lP all φ) λφm=>match G0 T CT N ds all φm all ⟨0,[],σ,[],[],[],[]⟩ with
  |some st=>b6 (fR (λ_=>true) 0 st.pre (pt all φ)) λφ'=>some (φ',st.σ,st.obs)
  |none=>none
end Go.AM
namespace Go.AM
open Go.Conc (G)
def j1:Oper:=⟨none,.move (.tmp 0),0,"",#[],none⟩
section
variable (T:List (Nat×TI))(CT:List (Nat×bH))(N:Nat)(ds:List (Nat×Bool))(all:List Oper)(φm:List (Nat×D×Bool))
def sd(st:x3):Nat->x3
 |0=>st
 |i+1=>(nF T CT N ds all φm (sd st i) (all.getD i j1)).getD (sd st i)
def Gx(st:x3)(i:Nat):Fr:=fR (λj=>fH j (bu (all.getD i j1).after.toList)) 0 (sd T CT N ds all φm st i).pre (hU (sd T CT N ds all φm st i).i all φm)
def Aa(st:x3)(i:Nat):Option (D×Option (List ak)×List Prop):=zZ T CT ds all (Gx T CT N ds all φm st i) (sd T CT N ds all φm st i).σ (all.getD i j1)
def xD(st:x3)(i:Nat):D:=match Aa T CT N ds all φm st i with|some (x,_,_)=>x|none=>.any
def lr(st:x3)(i:Nat):Bool:=match Aa T CT N ds all φm st i with|some (_,some _,_)=>true|_=>false
def oU(st:x3)(i:Nat):Bool:=!CQ (Gx T CT N ds all φm st i) (all.getD i j1)&&!lr T CT N ds all φm st i
def IT(st:x3)(i:Nat):List Bool:=z0 (sd T CT N ds all φm st i).cls (bu (all.getD i j1).after.toList)
end
section
variable {T:List (Nat×TI)}{CT:List (Nat×bH)}{N:Nat}{ds:List (Nat×Bool)}{all:List Oper}{φm:List (Nat×D×Bool)}
structure Dp (T:List (Nat×TI))(CT:List (Nat×bH))(N:Nat)(ds:List (Nat×Bool))(all:List Oper)(φm:List (Nat×D×Bool))(st js:x3)(o:Oper)(x:D)(σ':Option (List ak))(obs:List Prop):Prop where
 dst:iu N o.dst=true
 lt:LP st.i (bu o.after.toList)=true
 op:zZ T CT ds all (fR (λj=>fH j (bu o.after.toList)) 0 st.pre (hU st.i all φm)) st.σ o=some (x,σ',obs)
 i:js.i=st.i+1
 pre:js.pre=st.pre++[(o.dst,x)]
 cls:js.cls=st.cls++[z0 st.cls (bu o.after.toList)]
 σ:js.σ=σ'.getD st.σ
 obs:js.obs=iZ obs st.obs
 Tl:js.uF=if σ'.isSome=true then sc st.uF (oq st.i) else st.uF
 nf:js.GZ=if (CQ (fR (λj=>fH j (bu o.after.toList)) 0 st.pre (hU st.i all φm)) o||σ'.isSome)=true then sc st.GZ (oq st.i) else st.GZ
 load:CQ (fR (λj=>fH j (bu o.after.toList)) 0 st.pre (hU st.i all φm)) o=true->σ'.isSome=false->ot st.uF (z0 st.cls (bu o.after.toList))=true
 jq:σ'.isSome=true->ot st.GZ (z0 st.cls (bu o.after.toList))=true
theorem vV{st js:x3}{o:Oper}(h:nF T CT N ds all φm st o=some js):∃ x σ' obs,Dp T CT N ds all φm st js o x σ' obs:=by
 unfold nF at h;split at h
 ·cases h
 rename_i d
 simp only[bT] at h;split at h
 ·cases h
 rename_i a
 split at h
 ·cases h
 rename_i x σ' obs eH
 refine⟨x,σ',obs,?_⟩;cases σ' with
 |none =>
  cases b:CQ (fR (λj=>fH j (bu o.after.toList)) 0 st.pre (hU st.i all φm)) o with
  |false =>
   simp only[b,bT] at h;cases h;exact⟨d,a,eH,rfl,rfl,rfl,rfl,rfl,by simp,by simp[b],by simp[b],by simp⟩
  |true =>
   simp only[b,bT] at h;split at h
   ·rename_i c
    cases h;exact⟨d,a,eH,rfl,rfl,rfl,rfl,rfl,by simp,by simp[b],λ_ _=>c,by simp⟩
   ·cases h
 |some σ' =>
  simp only[bT] at h;split at h
  ·rename_i c
   cases h;exact⟨d,a,eH,rfl,rfl,rfl,rfl,rfl,by simp,by simp,by simp,λ_=>c⟩
  ·cases h
theorem Ab{st sf:x3}:∀ {rest:List Oper}{k:Nat},(∀ i,rest[i]?=all[k+i]?)->G0 T CT N ds all φm rest (sd T CT N ds all φm st k)=some sf ->
  (∀ i o,rest[i]?=some o->nF T CT N ds all φm (sd T CT N ds all φm st (k+i)) o=some (sd T CT N ds all φm st (k+i+1)))/\sd T CT N ds all φm st (k+rest.length)=sf
 |[],k,_,h=>by
  cases h;exact⟨by simp,rfl⟩
 |p::r,k,c,h=>by
  simp only[G0] at h;have d:all[k]?=some p:=by have:=c 0;simpa using this.symm
  split at h
  ·rename_i b a
   have e:sd T CT N ds all φm st (k+1)=b:=by
    simp only[sd,List.getD_eq_getElem?_getD,d,cp,a]
   rw[<-e] at h;obtain⟨g,f⟩:=Ab (rest:=r) (k:=k+1) (λi=>by have:=c (i+1);simpa[iz,iB 1] using this) h
   refine⟨λi o hi=>?_,by rw[<-f];congr 1;simp;omega⟩
   cases i with
   |zero=>simp at hi;subst hi;simpa[e] using a
   |succ i =>
    have:=g i o (by simpa using hi)
    rw[show k+(i+1)=k+1+i by omega]
    exact this
  ·cases h
theorem JK{j:Nat}:∀ {l:List Nat},fH j l=true->j∈l:=by
 intro l
 induction l with
 |nil=>intro h;cases h
 |cons a r c =>
  intro h;simp only[fH] at h;cases b:Nat.beq j a with
  |true=>rw[bk b];exact List.mem_cons_self
  |false=>simp[b] at h;exact mT _ (c h)
theorem Dq{P:Program}{X:Cx P}(hf:P.follows Departure.mixedOrders=true)(hT:bX P T)(hC:aO X CT){ops:Array Oper}{φ φ':Fr}{σ σ':List ak}{obs:List Prop}(h:z9 T CT N ds ops.toList φ σ=some (φ',σ',obs))(Pe:aa obs){Q:Post}(hQ:Q .normal φ' σ')(id:Nat) :
  AW X N (.region id ops true) Q φ σ:=by
 unfold z9 at h;split at h
 ·cases h
 rename_i Mz
 rw[bT] at h;split at h
 case h_2=>cases h
 rename_i sf pw
 rw[bT] at h;cases h;generalize W:ops.toList=all at *;generalize Pf:lP all φ=φm at *;have y:∀ i:Nat,ops[i]?=all[i]?:=λi=>by rw[<-W,ly]
 have IH:ops.size=all.length:=by rw[<-W];simp
 let g:x3:=⟨0,[],σ,[],[],[],[]⟩
 obtain⟨gD,K⟩:=Ab (T:=T) (CT:=CT) (N:=N) (ds:=ds) (φm:=φm) (st:=g) (rest:=all) (k:=0) (λi=>by simp) pw
 simp only[aw] at gD K
 let F:=sd T CT N ds all φm g
 have q:∀ i o,all[i]?=some o->all.getD i j1=o:=λi o h=>by simp[List.getD_eq_getElem?_getD,h]
 have Pg:∀ i o,all[i]?=some o->Gx T CT N ds all φm g i=(fR (λj=>fH j (bu (o).after.toList)) 0 (F i).pre (hU (F i).i all φm)):=λi o h=>by
  unfold Gx;rw[q i o h]
 have n:∀ i o,all[i]?=some o->∃ R,Dp T CT N ds all φm (F i) (F (i+1)) o (xD T CT N ds all φm g i) (if lr T CT N ds all φm g i=true then some (F (i+1)).σ else none) R:=by
  intro i o u;obtain⟨x,σ1,R,r⟩:=vV (gD i o u);have S:=r.op;have hR:Aa T CT N ds all φm g i=some (x,σ1,R):=by
   unfold Aa Gx;rw[q i o u];exact S
  have hx:xD T CT N ds all φm g i=x:=by unfold xD;rw[hR]
  cases σ1 with
  |none =>
   have A:lr T CT N ds all φm g i=false:=by unfold lr;rw[hR]
   exact⟨R,by rw[hx,A];exact r⟩
  |some σ2 =>
   have A:lr T CT N ds all φm g i=true:=by unfold lr;rw[hR]
   have Ph:(F (i+1)).σ=σ2:=r.σ;exact⟨R,by rw[hx,A,aq rfl,Ph];exact r⟩
 have Z:∀ i,i<=all.length->(F i).i=i:=by
  intro i
  induction i with
  |zero=>intro _;rfl
  |succ i M =>
   intro hi;obtain⟨_,r⟩:=n i _ (aj (by omega))
   rw[r.i,M (by omega)]
 have MA:∀ i,i<=all.length->∀ j,(F i).pre[j]?=if j<i then (all[j]?).map (λo=>(o.dst,xD T CT N ds all φm g j)) else none:=by
  intro i
  induction i with
  |zero=>intro _ j;simp[F,sd,g]
  |succ i M =>
   intro hi j;obtain⟨_,r⟩:=n i _ (aj (by omega))
   have hlen:(F i).pre.length=i:=by
    apply Nat.le_antisymm
    ·apply Nat.le_of_not_lt
     intro E;have:=M (by omega) i
     rw[an (by omega),List.getElem?_eq_none_iff] at this
     omega
    ·cases i with
     |zero=>omega
     |succ k =>
      have:=M (by omega) k
      rw[aq (by omega),aj (by omega:k<all.length)] at this
      exact(aE.1 this).1
   rw[r.pre]
   by_cases O:j<i
   ·rw[bS (by omega),M (by omega) j,aq O,aq (by omega)]
   ·rw[cj (by omega)]
    by_cases e:j=i
    ·subst e;simp[hlen,aj (by omega:j<all.length)]
    ·rw[an (by omega),iL (by simp;omega)]
 have Pj:∀ i,i<=all.length->∀ j,(F i).cls[j]?=if j<i then some (IT T CT N ds all φm g j) else none:=by
  intro i
  induction i with
  |zero=>intro _ j;simp[F,sd,g]
  |succ i M =>
   intro hi j;obtain⟨_,r⟩:=n i _ (aj (by omega))
   have hlen:(F i).cls.length=i:=by
    apply Nat.le_antisymm
    ·apply Nat.le_of_not_lt
     intro E;have:=M (by omega) i
     rw[an (by omega),List.getElem?_eq_none_iff] at this
     omega
    ·cases i with
     |zero=>omega
     |succ k =>
      have:=M (by omega) k
      rw[aq (by omega)] at this
      exact(aE.1 this).1
   rw[r.cls]
   by_cases O:j<i
   ·rw[bS (by omega),M (by omega) j,aq O,aq (by omega)]
   ·rw[cj (by omega)]
    by_cases e:j=i
    ·subst e;rw[aq (by omega),hlen,Nat.sub_self]
     simp only[mR,IT,q j _ (aj (by omega:j<all.length))]
     rfl
    ·rw[an (by omega),iL (by simp;omega)]
 have Pk:∀ i,i<=all.length->∀ j,bit (F i).uF j=(decide (j<i)&&lr T CT N ds all φm g j):=by
  intro i
  induction i with
  |zero=>intro _ j;simp[F,sd,g,bit]
  |succ i M =>
   intro hi j;obtain⟨_,r⟩:=n i _ (aj (by omega))
   rw[r.Tl];cases A:lr T CT N ds all φm g i with
   |false =>
    simp only[fO,aM,Option.isSome_none];rw[M (by omega) j]
    by_cases e:j=i
    ·subst e;simp[A]
    ·have:(j<i+1)↔j<i:=by omega
     simp[this]
   |true =>
    simp only[aV,Option.isSome_some];rw[jG,M (by omega) j,nE,Z i (by omega)]
    by_cases e:j=i
    ·subst e;simp[A]
    ·have:(j<i+1)↔j<i:=by omega
     have C:¬i=j:=λh=>e h.symm
     simp[this,C]
 have RJ:∀ i,i<=all.length->∀ j,bit (F i).GZ j=(decide (j<i)&&!oU T CT N ds all φm g j):=by
  intro i
  induction i with
  |zero=>intro _ j;simp[F,sd,g,bit]
  |succ i M =>
   intro hi j;obtain⟨_,r⟩:=n i _ (aj (by omega))
   have MB:(if lr T CT N ds all φm g i=true then some (F (i+1)).σ else none).isSome=lr T CT N ds all φm g i:=by cases lr T CT N ds all φm g i <;> rfl
   have LQ:oU T CT N ds all φm g i=!(CQ (fR (λj=>fH j (bu (all[i]'(by omega)).after.toList)) 0 (F i).pre (hU (F i).i all φm)) (all[i]'(by omega))||lr T CT N ds all φm g i):=by
    unfold oU;rw[Pg i _ (aj (by omega)),q i _ (aj (by omega))]
    simp
   rw[r.nf,MB];cases A:(CQ (fR (λj=>fH j (bu (all[i]'(by omega)).after.toList)) 0 (F i).pre (hU (F i).i all φm)) (all[i]'(by omega))||lr T CT N ds all φm g i) with
   |false =>
    simp only[fO,aM];rw[M (by omega) j]
    by_cases e:j=i
    ·subst e;simp[LQ,A]
    ·have:(j<i+1)↔j<i:=by omega
     simp[this]
   |true =>
    simp only[aV];rw[jG,M (by omega) j,nE,Z i (by omega)]
    by_cases e:j=i
    ·subst e;simp[LQ,A]
    ·have:(j<i+1)↔j<i:=by omega
     have C:¬i=j:=λh=>e h.symm
     simp[this,C]
 have MC:∀ i,i<=all.length->aa (F i).obs:=by
  have back:∀ k i,i+k=all.length->aa (F i).obs:=by
   intro k
   induction k with
   |zero =>
    intro i hi;have:F i=sf:=by rw[<-K];simp[F,<-hi]
    rw[this];exact Pe
   |succ k M =>
    intro i hi;obtain⟨_,r⟩:=n i _ (aj (by omega))
    have:=M (i+1) (by omega)
    rw[r.obs,aa.cat] at this;exact this.2
  intro i hi;exact back (all.length-i) i (by omega)
 have Tm:∀ i o,all[i]?=some o->OA X N all o (Gx T CT N ds all φm g i) (F i).σ (xD T CT N ds all φm g i) (F (i+1)).σ:=by
  intro i o u;have hi:i<all.length:=(aE.1 u).1;obtain⟨_,r⟩:=n i o u;have LR:=MC (i+1) (by omega)
  rw[r.obs,aa.cat] at LR;have:=k5 (P:=P) (N:=N) hT hC r.op LR.1;rw[r.σ];unfold Gx;rw[q i o u];exact this
 let idx:Nat->Option Nat:=λt=>(List.range all.length).find? (λi=>decide ((all.getD i j1).dst=some t))
 have z:∀ t j,idx t=some j->∃ o,all[j]?=some o/\o.dst=some t:=by
  intro t j hj;have G:=List.find?_some hj;have C:j<all.length:=by simpa using List.mem_of_find?_eq_some hj
  refine⟨all[j],aj C,?_⟩;simpa[aj C] using G
 have J:∀ i o d,all[i]?=some o->o.dst=some d->idx d=some i:=by
  intro i o d u hd;have hi:i<all.length:=(aE.1 u).1;cases hx:idx d with
  |none =>
   have:=List.find?_eq_none.1 hx i (by simpa using hi)
   simp[u,hd] at this
  |some j =>
   obtain⟨p,MD,ME⟩:=z d j hx;rw[oo Mz MD u ME hd]
 have V:∀ t,lO t all=true↔∃ j,idx t=some j:=by
  intro t
  constructor
  ·intro h;obtain⟨i,o,G,C⟩:=mi h;exact⟨i,J i o t G C⟩
  ·rintro⟨j,hj⟩;obtain⟨o,G,C⟩:=z t j hj;exact nD G C
 have I:∀ i o,all[i]?=some o->∀ e∈o.after,bt e=true->e.on<i:=by
  intro i o u e A hb;have hi:i<all.length:=(aE.1 u).1;obtain⟨_,r⟩:=n i o u;have:=ye r.lt e.on (dO.2 ⟨e,by simpa using A,hb,rfl⟩)
  rw[Z i (by omega)] at this
  exact this
 have IU:=I;have hd:qA X N ops φ (λi=>(F i).σ) (xD T CT N ds all φm g) (Gx T CT N ds all φm g) (oU T CT N ds all φm g) (λi=>decide (i<all.length)&&lr T CT N ds all φm g i) (λi j=>i<all.length/\bit (IT T CT N ds all φm g i) j=true) idx (fR (λ_=>true) 0 sf.pre (pt all φ)):=by
  refine⟨hf,?_,?_,?_,?_,?_,?_,?_,?_,?_,?_⟩
  ·intro i o u;rw[y] at u;exact IU i o u
  ·intro i o d u hd;rw[y] at u;obtain⟨_,r⟩:=n i o u;exact⟨J i o d u hd,hO r.dst d hd⟩
  ·intro d i h;obtain⟨o,G,C⟩:=z d i h;exact⟨o,by rw[y];exact G,C⟩
  ·intro i A;rcases bC i all.length with hi|hi
   ·obtain⟨_,r⟩:=n i _ (aj hi);have:lr T CT N ds all φm g i=false:=by simpa[hi] using A
    have hσ:=r.σ;rw[this] at hσ;simpa using hσ
   ·have h0:all.getD i j1=j1:=by simp[List.getD_eq_getElem?_getD,iL hi]
    show (F (i+1)).σ=(F i).σ;have:nF T CT N ds all φm (F i) j1=none∨∃ s',nF T CT N ds all φm (F i) j1=some s':=by
     cases nF T CT N ds all φm (F i) j1 with
     |none=>exact .inl rfl
     |some s'=>exact .inr ⟨s',rfl⟩
    show ((nF T CT N ds all φm (F i) (all.getD i j1)).getD (F i)).σ=(F i).σ;rw[h0];rcases this with h|⟨s',h⟩
    ·rw[h];rfl
    ·rw[h];obtain⟨x,σ1,ob,r⟩:=vV h;have S:=r.op;have:σ1=none:=by
      unfold zZ at S;simp only[j1,GY,Oq,Dr,kr] at S;cases S;rfl
     rw[cp,r.σ,this];rfl
  ·intro i o u _;rw[y] at u;have:=Tm i o u;rw[<-W] at this ⊢;exact this
  ·intro i o u U;rw[y] at u;have hi:i<all.length:=(aE.1 u).1;have B:CQ (fR (λj=>fH j (bu (o).after.toList)) 0 (F i).pre (hU (F i).i all φm)) o=false/\lr T CT N ds all φm g i=false:=by
    unfold oU at U;rw[Pg i o u,q i o u] at U;simpa using U
   refine⟨by simp[B.2],λk=>?_⟩
   obtain⟨ob,r⟩:=n i o u;have S:=r.op;rw[B.2] at S;have Pl:=Dn B.1 (by simpa using S) (F k).σ
   have LR:=MC (i+1) (by omega)
   rw[r.obs,aa.cat] at LR;have:=k5 (P:=P) (N:=N) hT hC Pl LR.1;rw[W];unfold Gx;rw[q i o u];exact this
  ·intro L hL i j ⟨hi,hb⟩;have eY:∀ i,i<all.length->L i->∀ e,e∈bu (all.getD i j1).after.toList->L e:=by
    intro i hi Pm e A;rw[q i _ (aj hi)] at A;obtain⟨e',G,C,rfl⟩:=dO.1 A;exact hL i all[i] (by rw[y];exact aj hi) Pm e' (by simpa using G) C
   have key:∀ i,i<all.length->∀ j,bit (IT T CT N ds all φm g i) j=true->(∀ e∈bu (all.getD i j1).after.toList,L e)->L j:=by
    intro i
    induction i using Nat.strongRecOn with
    |_ i M =>
     intro hi j hb Ot;obtain⟨e,A,h⟩:=z8 hb;have E:e<i:=by
      have Gu:=A;rw[q i _ (aj hi)] at Gu;obtain⟨e',G,C,rfl⟩:=dO.1 Gu;exact IU i _ (aj hi) e' (by simpa using G) C
     rcases h with rfl|⟨c,hc,L5⟩
     ·exact Ot _ A
     ·have:=Pj i (by omega) e
      rw[aq E] at this;have Tn:(F i).cls[e]?=some c:=hc;rw[Tn] at this;cases this;exact M e E (by omega) j L5 (eY e (by omega) (Ot e A))
   refine⟨λPm=>key i hi j hb (eY i hi Pm),all[i],by rw[y];exact aj hi,λPn=>key i hi j hb ?_⟩
   intro e A;rw[q i _ (aj hi)] at A;obtain⟨e',G,C,rfl⟩:=dO.1 A;exact Pn e' (by simpa using G) C
  ·intro i f hi Gw A sK Ou;rw[IH] at hi Gw;have Gu:lr T CT N ds all φm g f=true:=by simpa[Gw] using A
   rcases bC f i with E|LI
   ·refine .inl ⟨E,hi,?_⟩;obtain⟨_,r⟩:=n i _ (aj hi);have xZ:IT T CT N ds all φm g i=z0 (F i).cls (bu (all[i]).after.toList):=by unfold IT;rw[q i _ (aj hi)]
    rw[xZ];cases Po:lr T CT N ds all φm g i with
    |true =>
     have G:=r.jq (by rw[Po];rfl)
     refine mj G ?_;rw[RJ i (by omega) f]
     have:oU T CT N ds all φm g f=false:=by unfold oU;simp[Gu]
     simp[E,this]
    |false =>
     have Ov:CQ (fR (λj=>fH j (bu (all[i]).after.toList)) 0 (F i).pre (hU (F i).i all φm)) all[i]=true:=by
      unfold oU at Ou;rw[Pg i _ (aj hi),q i _ (aj hi),Po] at Ou;simpa using Ou
     have G:=r.load Ov (by rw[Po];rfl)
     refine mj G ?_;rw[Pk i (by omega) f]
     simp[E,Gu]
   ·have E:i<f:=by omega
    refine .inr ⟨E,Gw,?_⟩;obtain⟨_,r⟩:=n f _ (aj Gw);have xZ:IT T CT N ds all φm g f=z0 (F f).cls (bu (all[f]).after.toList):=by unfold IT;rw[q f _ (aj Gw)]
    rw[xZ];have G:=r.jq (by rw[Gu];rfl)
    refine mj G ?_;rw[RJ f (by omega) i]
    simp[E,Ou]
  ·intro i o u t σ s v Y;rw[y] at u;have hi:i<all.length:=(aE.1 u).1;unfold Gx;rw[q i o u];rcases kt (m:=λj=>fH j (bu o.after.toList)) (φ:=hU (F i).i all φm) (t:=t) (l:=(F i).pre) (i:=0) with⟨j,x,G,C,h3⟩|h3
   ·have Pp:look (fR (λj=>fH j (bu o.after.toList)) 0 (sd T CT N ds all φm g i).pre (hU (sd T CT N ds all φm g i).i all φm)) t=x:=h3
    rw[Pp];have hp:=MA i (by omega) j
    rw[G] at hp;have O:j<i:=by
     apply Nat.lt_of_not_le;intro hle;rw[an (by omega)] at hp;cases hp
    rw[aq O,aj (by omega:j<all.length)] at hp
    simp only[gG,bL,iy] at hp;obtain⟨MD,ME⟩:=hp;have H:=J j _ t (aj (by omega:j<all.length)) MD.symm
    rw[H] at Y;simp only at Y;rw[aq] at Y
    ·rw[ME];exact Y
    ·have Pq:j∈bu o.after.toList:=by
      simp only[aw] at C;exact JK C
     obtain⟨e,a,b,c⟩:=dO.1 Pq;exact⟨e,by simpa using a,b,c⟩
   ·have Pp:look (fR (λj=>fH j (bu o.after.toList)) 0 (sd T CT N ds all φm g i).pre (hU (sd T CT N ds all φm g i).i all φm)) t=look (hU (F i).i all φm) t:=h3
    rw[Pp,Z i (by omega),<-Pf,sL]
    split
    ·trivial
    ·rename_i MF
     cases H:idx t with
     |some j =>
      have hD:=(V t).2 ⟨j,H⟩;have hN:pv i t all=false:=by
       cases hn:pv i t all with
       |false=>rfl
       |true=>exact absurd ⟨hD,hn⟩ MF
      obtain⟨oj,Pr,To⟩:=z t j H;have hm:=JK (qC hN j oj Pr To);obtain⟨e,A,hb,heq⟩:=dO.1 hm;rw[H] at Y;simp only at Y;split at Y
      ·
       rename_i hex
       obtain⟨e2,O1,Tp,Tq⟩:=hex;have b1:=I i o u e2 O1 Tp;have b2:=I j oj Pr e (by simpa using A) hb
       omega
      ·rw[aq ⟨oj,by rw[y];exact Pr,e,by simpa using A,hb,heq⟩] at Y
       exact Y
     |none=>simpa[H] using Y
  ·intro t σ s v Y;have hF:F all.length=sf:=K;rcases kt (m:=λ_=>true) (φ:=pt all φ) (t:=t) (l:=sf.pre) (i:=0) with⟨j,x,G,_,h3⟩|h3
   ·rw[h3];have hp:=MA all.length (ar _) j;rw[hF,G] at hp;have O:j<all.length:=by
     apply Nat.lt_of_not_le;intro hle;rw[an (by omega)] at hp;cases hp
    rw[aq O,aj O] at hp;simp only[gG,bL,iy] at hp;obtain⟨MD,ME⟩:=hp;rw[J j _ t (aj O) MD.symm] at Y;rw[ME];exact Y
   ·rw[h3,iJ];split
    ·trivial
    ·rename_i MF
     cases H:idx t with
     |some j=>exact absurd ((V t).2 ⟨j,H⟩) MF
     |none=>simpa[H] using Y
 intro s a LQ hh b kk cs SS hb Tr;have JA:F ops.size=sf:=by rw[IH];exact K
 refine .next rfl λs1 zX=>?_
 have zX:=X.fG zX;have MG:=hh.rely zX;have Ps:=LQ.rely zX hh;have JL:Step σ s1 σ { s1 with w:={ s1.w with drawn:=s1.w.drawn+1 } }:=Step.same rfl rfl rfl rfl;have LN:ag σ { s1 with w:={ s1.w with drawn:=s1.w.drawn+1 } }:=MG.same rfl;have Pt:=zX.stepW.trans (JL.mG MG);refine⟨_,{ s1 with w:={ s1.w with drawn:=s1.w.drawn+1 } },#[],iT,⟨⟨σ,σ,MG,LN,JL⟩,.nil⟩,?_⟩;simp only[Region.schedule,hf,Bool.true_or,aV];refine hd.arr hb (s0:={ s1 with w:={ s1.w with drawn:=s1.w.drawn+1 } }) (λs2 a2 f2 C nA=>?_) ops.size _ (by simp) ?_ ?_ 0 _ a (by omega) ?_ ?_ LN (.refl _ _) _
 ·simp only[JA] at f2 C nA;exact Tr .normal _ _ s2 a2 hQ f2 C (Pt.trans nA)
 ·simp
 ·intro i o u hi;simp[bA,jS] at hi;split at hi <;> simp at hi
 ·intro f Gw VL;simp[bA,jS];split <;> simp
 ·have B:=Ps.mono (JL.mG MG) MG.len;refine⟨B.size,B.defers,λt=>?_⟩
  unfold dh;cases H:idx t with
  |none=>exact B.slot t
  |some j =>
   simp only;rw[an]
   ·exact B.slot t
   ·simp[bA,jS];split <;> simp
end
end Go.AM
namespace Go.AM
section
variable {P:Program}{X:Cx P}{N:Nat}{Qf:Post}{K:List It}{φ:Fr}{σ:List ak}
theorem AK.draw{T:List (Nat×TI)}{CT:List (Nat×bH)}(b:P.follows Departure.mixedOrders=true)(c:bX P T)(hC:aO X CT){ds:List (Nat×Bool)}{ops:Array Oper}{φ':Fr}{σ':List ak}{obs:List Prop}{id:Nat}
  (h:z9 T CT N ds ops.toList φ σ=some (φ',σ',obs)) (a:aa obs) (k:AK X N Qf K .normal φ' σ'):AK X N Qf (.code (.region id ops true)::K) .normal φ σ :=
 Dq b c hC h a k id
end
def Aq(T:List (Nat×TI))(CT:List (Nat×bH))(ds:List (Nat×Bool))(N:Nat)(K:List It)(φ:Fr)(σ:List ak):Option (List It×Fr×List ak×List Prop) :=
 match K with
 |[]=>none
 |.blk _::K=>some (K,φ,σ,[])
 |.ops _ []::K=>some (K,φ,σ,[])
 |.ops all (o::rest)::K=>match iu N o.dst with
  |true=>match zZ T CT ds all φ σ o with
   |some (x,none,obs)=>b6 (mX o.dst x φ) λφ=>some (.ops all rest::K,φ,σ,obs)
   |some (x,some σ',obs)=>b6 (mX o.dst x φ) λφ=>some (.ops all rest::K,φ,σ',obs)
   |none=>none
  |false=>none
 |.code c::K=>match c with
  |.skip=>some (K,φ,σ,[])
  |.seq x y=>some (.code x::.code y::K,φ,σ,[])
  |.block id c=>some (.code c::.blk id::K,φ,σ,[])
  |.region id ops d=>match Ac ds (id+1000000) with
   |some _=>none
   |none=>match d with
    |false=>some (.ops ops.toList ops.toList::K,φ,σ,[])
    |true=>match z9 T CT N ds ops.toList φ σ with
     |some (φ',σ',obs)=>some (K,φ',σ',obs)
     |none=>none
  |.exit id=>match hY id K with
   |some K'=>some (K',φ,σ,[])
   |none=>none
  |.cond (.tmp t) x y=>match look φ t with
   |.e (.one (.c (.bool true)))=>some (.code x::K,φ,σ,[])
   |.e (.one (.c (.bool false)))=>some (.code y::K,φ,σ,[])
   |_=>none
  |_=>none
theorem Ef{P:Program}{X:Cx P}(n:P.follows Departure.mixedOrders=true){T:List (Nat×TI)}(i:bX P T){CT:List (Nat×bH)}(j:aO X CT){ds:List (Nat×Bool)}{N:Nat}{Qf:Post}{K m:List It}{φ φ':Fr}{σ σ':List ak}{obs:List Prop}
  (h:Aq T CT ds N K φ σ=some (m,φ',σ',obs)) (d:aa obs) (k:AK X N Qf m .normal φ' σ'):AK X N Qf K .normal φ σ:=by
 unfold Aq at h;split at h
 ·cases h
 ·cases h;exact AK.Kl k
 ·cases h;exact AK.Km k
 ·rename_i all o rest K0
  cases b:iu N o.dst with
  |false=>simp[b] at h
  |true =>
   simp only[b] at h;have l:=hO b;split at h
   ·rename_i x a g
    rw[bT] at h;cases h;exact gA.uT (k5 i j g d) l k
   ·rename_i x σ1 a g
    rw[bT] at h;cases h;exact gA.uT (k5 i j g d) l k
   ·cases h
 ·rename_i c K0
  split at h
  ·cases h;exact AK.skip k
  ·cases h;exact AK.seq k
  ·cases h;exact AK.block k
  ·split at h
   ·cases h
   ·split at h
    ·cases h;exact AK.region k
    ·split at h
     ·rename_i p σ1 a b
      cases h;exact AK.draw n i j b d k
     ·cases h
  ·split at h
   ·rename_i r q;cases h;exact AK.exit q k
   ·cases h
  ·rename_i t x y
   split at h
   ·rename_i f;cases h;exact AK.cond rfl f (λ_=>k) (λe=>by cases e)
   ·rename_i f;cases h;exact AK.cond rfl f (λe=>by cases e) (λ_=>k)
   ·cases h
  ·cases h
def dc(T:List (Nat×TI))(CT:List (Nat×bH))(ds:List (Nat×Bool))(N:Nat):Nat->List It->Fr->List ak->List Prop->Option (List It×Fr×List ak×List Prop)
 |0,K,φ,σ,obs=>b6 obs λobs=>some (K,φ,σ,obs)
 |n+1,K,φ,σ,obs=>match Aq T CT ds N K φ σ with
  |some (a,φ',σ',o)=>dc T CT ds N n a φ' σ' (iZ o obs)
  |none=>b6 obs λobs=>some (K,φ,σ,obs)
theorem Ar{P:Program}{X:Cx P}(e:P.follows Departure.mixedOrders=true){T:List (Nat×TI)}(f:bX P T){CT:List (Nat×bH)}(g:aO X CT){ds:List (Nat×Bool)}{N:Nat}{Qf:Post}:∀ {n:Nat}{K b:List It}{φ φ':Fr}{σ σ':List ak}{obs yi:List Prop},
  dc T CT ds N n K φ σ obs=some (b,φ',σ',yi)->aa yi->AK X N Qf b .normal φ' σ'->AK X N Qf K .normal φ σ/\aa obs
 |0,K,b,φ,φ',σ,σ',obs,yi,h,a,k=>by
  simp only[dc,bT] at h;cases h;exact⟨k,a⟩
 |n+1,K,b,φ,φ',σ,σ',obs,yi,h,a,k=>by
  simp only[dc] at h;cases c:Aq T CT ds N K φ σ with
  |none =>
   simp only[c,bT] at h;cases h;exact⟨k,a⟩
  |some r =>
   obtain⟨m,i,σ1,l⟩:=r;simp only[c] at h;obtain⟨j,d⟩:=Ar e f g h a k;rw[aa.cat] at d;exact⟨Ef e f g c d.1 j,d.2⟩
theorem AK.dc{P:Program}{X:Cx P}(d:P.follows Departure.mixedOrders=true){T:List (Nat×TI)}(e:bX P T){CT:List (Nat×bH)}(hC:aO X CT)(ds:List (Nat×Bool)){N:Nat}{Qf:Post}(n:Nat){K b:List It}{φ φ':Fr}{σ σ':List ak}{a:List Prop}
  (h:AM.dc T CT ds N n K φ σ []=some (b,φ',σ',a)) (c:aa a) (k:AK X N Qf b .normal φ' σ'):AK X N Qf K .normal φ σ:=(Ar d e hC h c k).1
section
variable {P:Program}{X:Cx P}{N:Nat}{Qf:Post}{K:List It}{φ:Fr}{σ:List ak}
def uC(a:List ResultVar)(ks:List Nat)(φ:Fr)(res:D):Option (List Prop) :=
 match sa φ a with
 |some ds=>match nB ds with
  |some d=>match ux ks.length res with
   |true=>Dh d (iC ks res)
   |false=>none
  |none=>none
 |none=>none
theorem AK.eK{fn:Func}{c:Nat}{res:D}{σ':List ak}(ks:List Nat){ps:List Prop}(h:uC fn.results.toList ks φ res=some ps)(e:aa ps)(f:iW ks σ=some σ')(b:jZ σ'=true)(k:dk ks=true)(i:∀ j,j<c->ks[j]?=some j) :
  AK X N (aW fn c res σ') (.code .ret::K) .normal φ σ:=by
 refine AK.ret ⟨.inl rfl,ks,?_⟩;unfold uC at h;split at h
 ·rename_i ds Di
  split at h
  ·rename_i d g
   split at h
   ·rename_i a
    exact⟨ds,d,ps,Di,g,h,e,a,f,b,k,i⟩
   ·cases h
  ·cases h
 ·cases h
theorem AK.au{fn:Func}{res:D}{ps:List Prop}(h:uC fn.results.toList [] φ res=some ps)(a:aa ps):AK X N (aW fn 0 res []) (.code .ret::K) .normal φ σ :=
 AK.eK [] h a rfl rfl rfl (λj h=>by omega)
theorem aW.zero{fn:Func}{res:D}{ps:List Prop}(h:uC fn.results.toList [] φ res=some ps)(c:aa ps):aW fn 0 res [] .ret φ σ:=by
 refine⟨.inl rfl,[],?_⟩;unfold uC at h;split at h
 ·rename_i ds Di
  split at h
  ·rename_i d b
   split at h
   ·rename_i a
    exact⟨ds,d,ps,Di,b,h,c,a,rfl,rfl,rfl,λj h=>by omega⟩
   ·cases h
  ·cases h
 ·cases h
theorem AK.leave{id:Nat}{φ:Fr}{σ:List ak}{A:Fr->List ak->Prop}{Qr:Post}{K m n:List It}(h1:hY id K=none)(h2:hY id m=some n)(k:AK X N Qr n .normal φ σ) :
  AK X N (λe φ' σ'=>match e with
   |.normal=>A φ' σ'
   |e=>AK X N Qr m e φ' σ') (.code (.exit id)::K) .normal φ σ:=by
 have key:∀ {K:List It},hY id K=none->∀ {Q:Post},Q (.exit id) φ σ->AK X N Q K (.exit id) φ σ:=by
  intro K
  induction K with
  |nil=>intro _ Q h;exact h
  |cons i r g =>
   intro d Q h;cases i with
   |code c=>exact g (by simpa[hY] using d) h
   |ops a b=>exact g (by simpa[hY] using d) h
   |blk j =>
    simp only[hY] at d;cases f:Nat.beq id j with
    |true=>simp[f] at d
    |false =>
     simp[f] at d;have l:id≠j:=λe=>by rw[e,jX] at f;cases f
     simp only[AK,l,aM];exact g d h
 exact AW.exit (key h1 (AK.qP h2 k))
theorem AK.dW{φ:Fr}{σ:List ak}{A:Fr->List ak->Prop}{Qr:Post}{K a:List It}(k:Qr .ret φ σ) :
  AK X N (λe φ' σ'=>match e with
   |.normal=>A φ' σ'
   |e=>AK X N Qr a e φ' σ') (.code .ret::K) .normal φ σ:=AK.ret (AK.nR (Qf:=Qr) k)
theorem AK.again{S:Type}{I:S->Prop}{fr:S->Fr}{st:S->List ak}{a:S->Nat}{x:S}{Qr:Post}(y:S){ps:List Prop}(c:nS φ (fr y)=some ps)(f:aa ps)(g:I y)(d:a y<a x)(b:σ=st y) :
  AK X N (λe φ' σ'=>match e with
   |.normal=>∃ y,I y/\a y<a x/\nT φ' (fr y)/\σ'=st y
   |e=>Qr e φ' σ') [] .normal φ σ:=⟨y,g,d,cm c f,b⟩
theorem AK.qQ{S:Type}{c:Code}(I:S->Prop)(fr:S->Fr)(st:S->List ak)(a:S->Nat)(x:S){ps:List Prop}(d:nS φ (fr x)=some ps)(f:aa ps)(g:I x)(b:st x=σ)
  (round:∀ x,I x->AK X N (λe φ' σ'=>match e with
   |.normal=>∃ y,I y/\a y<a x/\nT φ' (fr y)/\σ'=st y
   |e=>AK X N Qf K e φ' σ') [.code c] .normal (fr x) (st x)):AK X N Qf (.code (.loop c)::K) .normal φ σ :=
 AK.loop I fr st a x g (cm d f) b round
def Fits(args:List D)(σ:List ak):Prop:=∃ s vs,bZ σ s vs args/\ag σ s
theorem Fits.at{args:List D}{σ:List ak}(h:Fits args σ){j:Nat}{d:D}(hj:args[j]?=some d):∃ s v,b5 σ s v d:=by
 obtain⟨s,vs,b,_⟩:=h;obtain⟨_,a⟩:=bZ.get b;have:=a j;rw[hj] at this;exact⟨s,_,this⟩
theorem Fits.str{args:List D}{σ:List ak}(h:Fits args σ)(j:Nat){l:List UInt8}(hj:args[j]?=some (.e (.one (.c (.str l))))):l.length<=9223372036854775807:=by
 obtain⟨s,v,a⟩:=h.at hj;cases eB a with
 |str h hl=>exact hl
theorem Fits.sl{args:List D}{σ:List ak}(h:Fits args σ)(j:Nat){t:Bool}{k n:Nat}{es:Nat->List C}(hj:args[j]?=some (.e (.one (.c (.sl t k n es))))):n<=9223372036854775807:=by
 obtain⟨s,v,d⟩:=h.at hj;cases eB d with
 |sl b off f a g=>omega
theorem Ev.body{f:FuncId}{fn:Func}{c:Code}{args:List D}{σ σ':List ak}{res:D}(d:P.funcs[f]?=some fn)(a:(fn.name== "runtime.NumGoroutine")=false)(e:fn.body=some c)(b:Nat.ble args.length fn.ntmps=true)
  (h:Fits args σ->AK X fn.ntmps (aW fn σ.length res σ') [.code c] .normal (gC 0 args) σ):Ev X f args σ res σ':=by
 refine⟨⟨fn,d,a,by rw[e];rfl⟩,λs vs hr hh=>?_⟩
 exact(Ev.intro d a e (cY b) (AK.of_code (h ⟨s,vs,hr,hh⟩))).2 s vs hr hh
theorem AK.join{c:Code}{b:List It}(φ':Fr)(σ':List ak)(h:(∀ (a:Fr)(ps:List Prop),nS a φ'=some ps->aa ps->AK X N Qf (.code c::b) .normal a σ')->AK X N Qf K .normal φ σ)
  (k:AK X N Qf (.code c::b) .normal φ' σ'):AK X N Qf K .normal φ σ :=
 h λ_ _ h1 h2=>AW.le k (cm h1 h2)
end
end Go.AM
