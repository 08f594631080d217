/-
  Part 2 of a machine of values without memory, proved sound over the model, and of contracts of the functions that the laws reach. Nothing is taken for granted: no condition.
-/
import Derived.Test.YtcdlknpnfnggfaaGreatDoorA1
import Derived.Lib.Strings
import Derived.Laws.Slices
import Derived.Laws.StructEq
import Derived.Orders
set_option linter.unusedVariables false
set_option linter.unusedSimpArgs false
set_option linter.defProp false
set_option linter.deprecated false
namespace Go.AM
open Go.Conc (G)
def au(n:Nat)(f g:Nat->List C):Prop:=∀ i,i<n->f i=g i
theorem Flat.zJ{M:Mem}{k n:Nat}{es es':Nat->List C}{vs:List Value}(h:Flat M k n es vs)(a:au n es es'):Flat M k n es' vs :=
 ⟨h.len,λi hi=>by rw[<-a i hi];exact h.width i hi,λi hi j c hj=>h.rd i hi j c (by rw[a i hi];exact hj)⟩
def R9:C->C->Option (List Prop)
 |.int k n,.int k' n'=>match CZ k k' with|true=>some [n=n']|false=>none
 |.bool b,.bool b'=>some [b=b']
 |.str s,.str s'=>some [s=s']
 |.sl t k n es,.sl t' k' n' es'=>match Nat.beq k k' with
  |true=>match t,t' with
   |false,true=>none
   |_,_=>some [n=n',au n es es']
  |false=>match t,t' with
   |true,_=>some [n=0,n'=0]
   |_,_=>none
 |.val x,.val y=>some [x=y]
 |x,y=>some [x=y]
theorem LW{M:Mem}{v:Value}{x y:C}{ps:List Prop}(h:R9 x y=some ps)(c:aa ps)(r:Rd M v x):Rd M v y:=by
 unfold R9 at h;split at h
 ·rename_i k n k' n'
  cases d:CZ k k' <;> simp[d] at h
  subst h;cases xn d;cases (show n=n' from c)
  exact r
 ·cases h;rename_i b f;cases (show b=f from c);exact r
 ·cases h;rename_i b f;cases (show b=f from c);exact r
 ·rename_i t k n es t' k' n' es'
  cases d:Nat.beq k k' with
  |true =>
   simp only[d] at h;have e:=aO d;subst e;cases t <;> cases t' <;> simp at h
   all_goals (subst h;obtain⟨rfl,g⟩:=(show n=n'/\au n es es' from c);first|exact r.zJ g|exact r.loose.zJ g)
  |false =>
   simp only[d] at h;cases t <;> simp at h
   subst h;obtain⟨rfl,rfl⟩:=(show n=0/\n'=0 from c)
   obtain⟨a,cap,vs,rfl,_,_,i,_⟩:=r.flat;have:=i rfl;subst this;exact Rd.jv
 ·cases h;rename_i x y;cases (show x=y from c);exact r
 ·cases h;cases c;exact r
def ON:A->A->Option (List Prop)
 |.c x,.c y=>R9 x y
 |.vec _ k n es,.c (.sl false k' n' es')=>match Nat.beq k k' with|true=>some [n=n',au n es es']|false=>none
 |.vec l k n es,.vec l' k' n' es'=>match Nat.beq l l' with
  |true=>match Nat.beq k k' with|true=>some [n=n',au n es es']|false=>none
  |false=>none
 |.ptr l o,.ptr l' o'=>match Nat.beq l l' with|true=>(match Nat.beq o o' with|true=>some []|false=>none)|false=>none
 |.ref l,.ref l'=>match Nat.beq l l' with|true=>some []|false=>none
 |.bp l w,.bp l' w'=>match Nat.beq l l' with|true=>some [w=w']|false=>none
 |_,.any=>some []
 |_,_=>none
theorem Fy{σ:List aj}{s:St}{v:Value}{x y:A}{ps:List Prop}(h:ON x y=some ps)(d:aa ps)(r:gd σ s v x):gd σ s v y:=by
 unfold ON at h;split at h
 ·exact LW h d r
 ·rename_i k n es k' n' es'
  cases b:Nat.beq k k' <;> simp[b] at h
  subst h;have e:=aO b;subst e;obtain⟨rfl,f⟩:=(show n=n'/\au n es es' from d)
  exact r.1.zJ f
 ·rename_i l k n es l' k' n' es'
  cases a:Nat.beq l l' <;> simp[a] at h
  cases b:Nat.beq k k' <;> simp[b] at h
  subst h;have e:=aO b;have c:=aO a;subst e c;obtain⟨rfl,f⟩:=(show n=n'/\au n es es' from d)
  exact⟨r.1.zJ f,r.2.1,r.2.2⟩
 ·rename_i l o l' o'
  cases a:Nat.beq l l' <;> simp[a] at h
  cases b:Nat.beq o o' <;> simp[b] at h
  have e:=aO b;have c:=aO a;subst e c;exact r
 ·rename_i l l'
  cases a:Nat.beq l l' <;> simp[a] at h
  have c:=aO a;subst c;exact r
 ·rename_i l w l' w'
  cases a:Nat.beq l l' <;> simp[a] at h
  have c:=aO a;subst c;subst h;cases (show w=w' from d)
  exact r
 ·exact gd.cell r
 ·cases h
def j6:List Prop->List Prop->List Prop
 |[],q=>q
 |p::r,q=>p::j6 r q
theorem aa.cat{p q:List Prop}:aa (j6 p q)↔aa p/\aa q:=by
 induction p with
 |nil=>simp[j6,aa]
 |cons x r a=>simp only[j6,aa.cons,a,and_assoc]
def KC:List A->List A->Option (List Prop)
 |[],[]=>some []
 |a::al,b::bs=>match ON a b with
  |some p=>match KC al bs with
   |some q=>some (j6 p q)
   |none=>none
  |none=>none
 |_,_=>none
theorem Aj{σ:List aj}{s:St}:∀ {vs:List Value}{xs ys:List A}{ps:List Prop},KC xs ys=some ps->aa ps->cW σ s vs xs->cW σ s vs ys
 |[],[],[],_,_,_,_=>trivial
 |_::_,[],_,_,_,_,h=>h.elim
 |[],_::_,_,_,_,_,h=>h.elim
 |[],[],_::_,_,h,_,_=>by simp[KC] at h
 |_::_,_::_,[],_,h,_,_=>by simp[KC] at h
 |v::vs,a::al,b::bs,ps,h,e,f=>by
  simp only[KC] at h;cases c:ON a b with
  |none=>simp[c] at h
  |some p =>
   cases d:KC al bs with
   |none=>simp[c,d] at h
   |some q =>
    simp[c,d] at h;subst h;rw[aa.cat] at e;exact⟨Fy c e.1 f.1,Aj d e.2 f.2⟩
def OO:E1->E1->Option (List Prop)
 |.one a,.one b=>ON a b
 |.agg al,.agg bs=>KC al bs
 |_,_=>none
theorem Fz{σ:List aj}{s:St}{v:Value}{x y:E1}{ps:List Prop}(h:OO x y=some ps)(a:aa ps)(r:kE σ s v x):kE σ s v y:=by
 cases x <;> cases y <;> simp only[OO,reduceCtorEq] at h
 ·exact Fy h a r
 ·obtain⟨vs,c,b⟩:=r;exact⟨vs,c,Aj h a b⟩
def Al:List E1->List E1->Option (List Prop)
 |[],[]=>some []
 |a::al,b::bs=>match OO a b with
  |some p=>match Al al bs with
   |some q=>some (j6 p q)
   |none=>none
  |none=>none
 |_,_=>none
theorem BV{σ:List aj}{s:St}:∀ {vs:List Value}{xs ys:List E1}{ps:List Prop},Al xs ys=some ps->aa ps->ey σ s vs xs->ey σ s vs ys
 |[],[],[],_,_,_,_=>trivial
 |_::_,[],_,_,_,_,h=>h.elim
 |[],_::_,_,_,_,_,h=>h.elim
 |[],[],_::_,_,h,_,_=>by simp[Al] at h
 |_::_,_::_,[],_,h,_,_=>by simp[Al] at h
 |v::vs,a::al,b::bs,ps,h,e,f=>by
  simp only[Al] at h;cases c:OO a b with
  |none=>simp[c] at h
  |some p =>
   cases d:Al al bs with
   |none=>simp[c,d] at h
   |some q =>
    simp[c,d] at h;subst h;rw[aa.cat] at e;exact⟨Fz c e.1 f.1,BV d e.2 f.2⟩
def zU:D->D->Option (List Prop)
 |.e x,.e y=>OO x y
 |.dH xs,.dH ys=>Al xs ys
 |_,.any=>some []
 |_,_=>none
theorem o0{σ:List aj}{s:St}{v:Value}{x y:D}{ps:List Prop}(h:zU x y=some ps)(a:aa ps)(r:cd σ s v x):cd σ s v y:=by
 cases x <;> cases y <;> simp only[zU,reduceCtorEq] at h
 ·exact Fz h a r
 ·trivial
 ·obtain⟨vs,c,b⟩:=r;exact⟨vs,c,BV h a b⟩
 ·trivial
 ·trivial
def qf(φ:Fr):Fr->Option (List Prop)
 |[]=>some []
 |(i,d)::r=>match zU (look φ i) d with
  |some p=>match qf φ r with
   |some q=>some (j6 p q)
   |none=>none
  |none=>none
theorem cR{φ:Fr}:∀ {a:Fr}{ps:List Prop},qf φ a=some ps->aa ps->oE φ a
 |[],_,_,_=>λ_ _ _ _ _=>trivial
 |(i,d)::r,ps,h,c=>by
  simp only[qf] at h;cases b:zU (look φ i) d with
  |none=>simp[b] at h
  |some p =>
   cases f:qf φ r with
   |none=>simp[b,f] at h
   |some q =>
    simp[b,f] at h;subst h;rw[aa.cat] at c;intro σ s v t g;simp only[look];cases j:Nat.beq i t with
    |true =>
     have e:=aO j;subst e;exact o0 b c.1 g
    |false=>exact cR f c.2 σ s v t g
def kH(σ:List aj):Bool:=match cy σ with|true=>ld σ|false=>false
theorem vE{σ:List aj}(h:kH σ=true):cy σ=true/\ld σ=true:=by
 unfold kH at h;split at h
 ·rename_i a;exact⟨a,h⟩
 ·cases h
theorem lG.vC{σ:List aj}{s:St}:∀ {ds:List Deferred}{a:List Nat},lG σ s ds a->∀ l∈a,σ[l]?=some .qv
 |[],[],_,l,hl=>by simp at hl
 |[],_::_,r,_,_=>r.elim
 |_::_,[],r,_,_=>r.elim
 |d::ds,c::a,⟨⟨h1,_⟩,_,b⟩,l,hl=>by
  rcases dr.1 hl with rfl|hl
  ·exact h1
  ·exact lG.vC b l hl
def cv(fn:Func)(a:Nat)(res:D)(σ':List aj):Post:=λe φ σ1 =>
 (e=.ret∨e=.normal)/\∃ ks ds d ps,u5 φ fn.results.toList=some ds/\pU ds=some d/\zU d (jd ks res)=some ps/\aa ps/\tj ks.length res=true /\
  jS ks σ1=some σ'/\kH σ'=true/\dv ks=true/\(∀ j,j<a->ks[j]?=some j)
def yr(P:Program)(fn:Func)(a:Nat)(res:D)(σ':List aj):Post:=λe φ σ1 =>
 (e=.ret∨e=.normal)/\∃ ks d ps,yq P fn φ d/\zU d (jd ks res)=some ps/\aa ps/\tj ks.length res=true /\
  jS ks σ1=some σ'/\kH σ'=true/\dv ks=true/\(∀ j,j<a->ks[j]?=some j)
theorem cv.WZ{P:Program}{fn:Func}{a:Nat}{res:D}{σ':List aj}{e:Exit}{φ:Fr}{σ1:List aj}(h:cv fn a res σ' e φ σ1):yr P fn a res σ' e φ σ1:=by
 obtain⟨b,ks,ds,d,ps,h1,h2,c⟩:=h;exact⟨b,ks,d,ps,yq.of h1 h2,c⟩
theorem cf.FA{P:Program}{ι:Type}{X:Cx P}{f:FuncId}{fn:Func}{c:Code}{args:List D}{σ:List aj}{σ':ι->List aj}{res:ι->D}(hf:P.funcs[f]?=some fn)(O:(fn.name== "runtime.NumGoroutine")=false)(m:fn.body=some c)(hlen:args.length<=fn.ntmps)
  (h:∀ s a,bg fn.ntmps σ s (iy 0 args) a->ag σ s->∀ (b:Frame) (k:List Item) (cs:List Frame) (S:Goroutine->St->Prop),b.kind≠.early->b.roundOf=none ->
  (∀ e E σ1 s' a',(∃ j,yr P fn σ.length (res j) (σ' j) e E σ1)->bg fn.ntmps σ1 s' E a'->ag σ1 s'->bo σ s σ1 s'->ends X S b k cs e a' s')->dn X S (G (b.aT a (.code c::k)) cs) s):cf X f args σ res σ':=by
 refine⟨⟨fn,hf,O,by rw[m];rfl⟩,λs vs hr hh S cs hS=>?_⟩
 obtain⟨hl,hg⟩:=bC.get hr
 let b:Frame:={ fn:=f,tmps:=#[],todo:=[],defers:=[],mode:=.run,kind:=.normal,roundOf:=none }
 have A:Frame.enter P f vs.toArray .normal=b.aT { tmps:=vs.toArray++Array.replicate (fn.ntmps-vs.toArray.size) undef,defers:=[] } [.code c]:=by
  simp[Frame.enter,Frame.aT,hf,m,b]
 rw[A];refine h s { tmps:=vs.toArray++Array.replicate (fn.ntmps-vs.toArray.size) undef,defers:=[] } ⟨by simp;omega,⟨[],ab⟩,λt=>?_⟩ hh b [] cs S (by simp[b]) rfl ?_
 ·rw[mH];simp only[fH,aX,k6];have:=hg t;rcases bz t vs.length with oV|No
  ·have e:(vs.toArray++Array.replicate (fn.ntmps-vs.toArray.size) undef).getD t undef=(vs[t]?).getD undef:=by
    simp only[bM];rw[wD (by simpa using oV)]
    simp
   rw[e];exact this
  ·rw[eQ (by omega)]
   trivial
 ·rintro e E σ1 s1 a1 ⟨V,Z,ks,d,ps,h1,h3,h4,h5,T,Sa,h8,h9⟩ f' U st;obtain⟨h7,Sb⟩:=vE Sa;have fin:∀ (fr:Frame) s2,br s1 s2->fr.fn=f->fr.tmps=a1.tmps->fr.defers=a1.defers->fr.mode=.returning->fr.kind=.normal->dn X S (G fr cs) s2:=by
   intro fr s2 qe e1 e2 e3 e4 e5;have f2:=f'.rely qe U;have p:=U.rely qe;have g:=st.trans qe.stepW;obtain⟨v,r2,r1⟩:=h1 f2;obtain⟨i,z⟩:=wU (l':=s2.β) T p.len;have r4:=(o0 h3 h4 r2).sub T z h5;obtain⟨c1,c2⟩:=gA T;obtain⟨d1,d2⟩:=gA z;have C:∀ L∈i,L∈s2.β:=wY z;have K:ag (σ' V) { s2 with β:=i }:=by
    obtain⟨N,_⟩:=p.sub T z h7 h8;refine⟨N.mem,N.len,λj B L R r=>?_,N.fe,N.lt,λb m=>⟨(p.own b m).1,λL r=>(p.own b m).2 L (C L r)⟩⟩
    exact dT.plain (σ:=σ' V) (s:={ s2 with β:=i,own:=wX s2 i }) (s':={ s2 with β:=i }) rfl rfl (jy h7 B (aE R)) (N.box j B L R r)
   have IX:bo σ s (σ' V) { s2 with β:=i }:=by
    refine⟨g.size,g.eC,g.mem,g.ij,λL r b m=>g.rM _ (C L r) b m,λl B L R r=>?_,g.os,g.tape,g.output,g.own⟩
    have hl:l<σ.length:=(aD.1 R).1;obtain⟨B',L',p1,p2,p3⟩:=g.box l B L R r;obtain⟨x,x1,F⟩:=c2 l l (h9 l hl);obtain⟨y,Y,W⟩:=d2 l l (h9 l hl);rw[p1] at F;cases F;rw[p2] at W;cases W;exact⟨B',L',x1,Y,p3⟩
   obtain⟨ls,Q⟩:=f2.defers;refine o4 ls fr s2 _ p.k9 (by simp) e4 (by rw[e3];exact Q.taken p) λH n=>?_
   have q:br { s2 with β:=i } { H with β:=i }:=by
    refine⟨rfl,n.M,n.own,n.size,λb m=>n.eC b (m.imp id ?_),n.mem,n.os,n.tape,n.output⟩
    rintro⟨L,r,m⟩;obtain⟨j,hj,rfl⟩:=cJ r;have I:j<ks.length:=by rw[<-d1];exact hj
    obtain⟨y,Y,W⟩:=d2 j _ (ai I);obtain⟨x,x1,F⟩:=c2 j _ (ai I);rw[ai hj] at Y;cases Y;refine⟨_,_,W,λhc=>?_,m⟩
    rw[Q.vC _ hc] at F;cases F;exact lO Sb _ (aE x1) rfl
   have hG:dX H { H with β:=i }:=⟨rfl,λ_ _ _ h=>h,λ_ _ _=>rfl,λb o v hv=>n.mem b o v (by rw[<-n.M];exact hv),λb m=>m.imp id λ⟨L,r,m⟩=>⟨L,by rw[n.β];exact C L r,m⟩⟩
   refine .ghost hG (hS V _ v _ ⟨e1,e4,rfl,e5,fn,by show P.funcs[fr.fn]?=_;rw[e1];exact hf,λw hw=>?_⟩ (r4.mono q.stepW.ext K.len) (K.rely q) (IX.trans q.stepW))
   show (results fn fr.tmps).run P w=_/\∀ e∈(results fn fr.tmps).events P w #[],_;rw[e2];have J:∀ b o u,s2.M b o=some u->w.cell? ⟨b,o,none⟩=some u:=λb o u h=>hw b o u (by show H.M b o=some u;rw[n.M];exact h)
   refine⟨(r1 w J).1,λe Z=>?_⟩
   obtain⟨b,o,u,q1,q2⟩:=(r1 w J).2 e Z;exact⟨b,o,u,q1,by show H.M b o=some u;rw[n.M];exact q2⟩
  rcases Z with rfl|rfl
  ·intro pre;exact .ctl U rfl (λ_=>zL rfl) λs2 qe=>fin _ s2 qe rfl rfl (iV _) rfl rfl
  ·exact .ctl U rfl (λ_=>zM rfl) λs2 qe=>fin _ s2 qe rfl rfl (iV _) rfl rfl
theorem cf.KB{P:Program}{ι:Type}{X:Cx P}{f:FuncId}{fn:Func}{c:Code}{args:List D}{σ:List aj}{σ':ι->List aj}{res:ι->D}(l:P.funcs[f]?=some fn)(i:(fn.name== "runtime.NumGoroutine")=false)(m:fn.body=some c)(g:args.length<=fn.ntmps)
  (h:∀ s a,bg fn.ntmps σ s (iy 0 args) a->ag σ s->∀ (b:Frame) (k:List Item) (cs:List Frame) (S:Goroutine->St->Prop),b.kind≠.early->b.roundOf=none ->
  (∀ e d σ1 s' a',(∃ j,cv fn σ.length (res j) (σ' j) e d σ1)->bg fn.ntmps σ1 s' d a'->ag σ1 s'->bo σ s σ1 s'->ends X S b k cs e a' s')->dn X S (G (b.aT a (.code c::k)) cs) s):cf X f args σ res σ' :=
 cf.FA l i m g λs a f hh b k cs S h1 h2 hQ=>h s a f hh b k cs S h1 h2 λe d σ1 s' a' ⟨j,q⟩=>hQ e d σ1 s' a' ⟨j,q.WZ⟩
theorem cf.EP{P:Program}{ι:Type}{X:Cx P}{f:FuncId}{fn:Func}{c:Code}{args:List D}{σ:List aj}{σ':ι->List aj}{res:ι->D}(i:P.funcs[f]?=some fn)(g:(fn.name== "runtime.NumGoroutine")=false)(n:fn.body=some c)(d:args.length<=fn.ntmps)
  (h:AW X fn.ntmps c (λe φ σ1=>∃ j,yr P fn σ.length (res j) (σ' j) e φ σ1) (iy 0 args) σ):cf X f args σ res σ' :=
 cf.FA i g n d λs a f hh b k cs S m _ l=>h s a f hh b k cs S m l
theorem cf.intro{P:Program}{ι:Type}{X:Cx P}{f:FuncId}{fn:Func}{c:Code}{args:List D}{σ:List aj}{σ':ι->List aj}{res:ι->D}(i:P.funcs[f]?=some fn)(g:(fn.name== "runtime.NumGoroutine")=false)(n:fn.body=some c)(d:args.length<=fn.ntmps)
  (h:AW X fn.ntmps c (λe φ σ1=>∃ j,cv fn σ.length (res j) (σ' j) e φ σ1) (iy 0 args) σ):cf X f args σ res σ' :=
 cf.KB i g n d λs a f hh b k cs S m _ l=>h s a f hh b k cs S m l
theorem Ev.intro{P:Program}{X:Cx P}{f:FuncId}{fn:Func}{c:Code}{args:List D}{σ σ':List aj}{res:D}(d:P.funcs[f]?=some fn)(b:(fn.name== "runtime.NumGoroutine")=false)(e:fn.body=some c)(a:args.length<=fn.ntmps)
  (h:AW X fn.ntmps c (cv fn σ.length res σ') (iy 0 args) σ):Ev X f args σ res σ' :=
 (cf.intro d b e a (AW.mono h λ_ _ _ q=>⟨(),q⟩)).tm
end Go.AM
namespace Go.AM
inductive It where
 |code (c:Code)
 |blk (id:Nat)
 |ops (all rest:List Oper)
def AK{P:Program}(X:Cx P)(N:Nat)(Qf:Post):List It->Post
 |[],e,φ,σ=>Qf e φ σ
 |.code c::K,.normal,φ,σ=>AW X N c (AK X N Qf K) φ σ
 |.code _::K,e,φ,σ=>AK X N Qf K e φ σ
 |.blk id::K,.exit Ek,φ,σ=>if Ek=id then AK X N Qf K .normal φ σ else AK X N Qf K (.exit Ek) φ σ
 |.blk _::K,e,φ,σ=>AK X N Qf K e φ σ
 |.ops all rest::K,.normal,φ,σ=>dM X N all rest (AK X N Qf K .normal) φ σ
 |.ops _ _::K,e,φ,σ=>AK X N Qf K e φ σ
section
variable {P:Program}{X:Cx P}{N:Nat}{Qf:Post}{K:List It}{φ:Fr}{σ:List aj}
theorem AK.of_code{c:Code}(h:AK X N Qf [.code c] .normal φ σ):AW X N c Qf φ σ:=h
theorem AK.skip(h:AK X N Qf K .normal φ σ):AK X N Qf (.code .skip::K) .normal φ σ:=AW.skip h
theorem AK.seq{x y:Code}(h:AK X N Qf (.code x::.code y::K) .normal φ σ):AK X N Qf (.code (.seq x y)::K) .normal φ σ:=by
 refine AW.seq (AW.mono h ?_);intro e a σ' q;cases e <;> exact q
theorem AK.block{id:Nat}{c:Code}(h:AK X N Qf (.code c::.blk id::K) .normal φ σ):AK X N Qf (.code (.block id c)::K) .normal φ σ:=by
 refine AW.block (AW.mono h ?_);intro e a σ' q;cases e <;> exact q
theorem AK.FU{id:Nat}(h:AK X N Qf K .normal φ σ):AK X N Qf (.blk id::K) .normal φ σ:=h
theorem AK.region{id:Nat}{ops:Array Oper}(h:AK X N Qf (.ops ops.toList ops.toList::K) .normal φ σ):AK X N Qf (.code (.region id ops false)::K) .normal φ σ:=AW.region h
theorem AK.FV{all:List Oper}(h:AK X N Qf K .normal φ σ):AK X N Qf (.ops all []::K) .normal φ σ:=dM.nil h
theorem AK.tM:∀ {K:List It},Qf .ret φ σ->AK X N Qf K .ret φ σ
 |[],h=>h
 |.code _::K,h=>AK.tM (K:=K) h
 |.blk _::K,h=>AK.tM (K:=K) h
 |.ops _ _::K,h=>AK.tM (K:=K) h
theorem AK.ret(h:Qf .ret φ σ):AK X N Qf (.code .ret::K) .normal φ σ:=AW.ret (AK.tM h)
def iT(id:Nat):List It->Option (List It)
 |[]=>none
 |.blk i::K=>match Nat.beq id i with|true=>some K|false=>iT id K
 |_::K=>iT id K
theorem AK.tL{id:Nat}:∀ {K a:List It},iT id K=some a->AK X N Qf a .normal φ σ->AK X N Qf K (.exit id) φ σ
 |[],_,h,_=>by cases h
 |.blk i::K,a,h,q=>by
  simp only[iT] at h;cases b:Nat.beq id i with
  |true =>
   simp[b] at h;subst h;have e:=aO b;simp only[AK,e,aX];exact q
  |false =>
   simp[b] at h;have c:id≠i:=λe=>by rw[e,gT] at b;cases b
   simp only[AK,c,aW];exact AK.tL h q
 |.code _::K,a,h,q=>AK.tL (K:=K) h q
 |.ops _ _::K,a,h,q=>AK.tL (K:=K) h q
theorem AK.exit{id:Nat}{a:List It}(b:iT id K=some a)(h:AK X N Qf a .normal φ σ):AK X N Qf (.code (.exit id)::K) .normal φ σ:=AW.exit (AK.tL b h)
theorem AK.cond{c:Operand}{x y:Code}{b:Bool}{t:Nat}(f:c=.tmp t)(hl:look φ t=.e (.one (.c (.bool b))))
  (d:b=true->AK X N Qf (.code x::K) .normal φ σ) (a:b=false->AK X N Qf (.code y::K) .normal φ σ):AK X N Qf (.code (.cond c x y)::K) .normal φ σ:=AW.cond f hl d a
theorem AK.loop{S:Type}{c:Code}(I:S->Prop)(fr:S->Fr)(st:S->List aj)(b:S->Nat)(x:S)(h:I x)(d:oE φ (fr x))(f:st x=σ)
  (round:∀ x,I x->AK X N (λe a σ'=>match e with
   |.normal=>∃ y,I y/\b y<b x/\oE a (fr y)/\σ'=st y
   |e=>AK X N Qf K e a σ') [.code c] .normal (fr x) (st x)):AK X N Qf (.code (.loop c)::K) .normal φ σ:=by
 refine AW.loop I fr st b x h d f λy g=>AW.mono (round y g) ?_
 intro e a σ' q;cases e <;> exact q
end
def cp{α a:Type}:List α->(List α->Option a)->Option a
 |[],k=>k []
 |x::r,k=>cp r λq=>k (x::q)
theorem b8{α a:Type}(l:List α)(k:List α->Option a):cp l k=k l:=by
 induction l generalizing k with
 |nil=>rfl
 |cons x r b=>simp[cp,b]
def tA(φ:Fr)(all:List Oper)(j:Nat):Option (Option Bool) :=
 match eW j all with
 |some oj=>match oj.dst with
  |some d=>match look φ d with
   |.e (.one (.c (.bool true)))=>some (some true)
   |.e (.one (.c (.bool false)))=>some (some false)
   |.dH []=>some none
   |_=>none
  |none=>none
 |none=>none
theorem kp{N:Nat}{φ:Fr}{all:List Oper}{j:Nat}{r:Option Bool}(h:tA φ all j=some r){σ:List aj}{s:St}{a:Act}(f:bg N σ s φ a):yielded all.toArray a.tmps j=r:=by
 unfold tA at h;rw[dY] at h;unfold yielded;cases m:all[j]? with
 |none=>simp[m] at h
 |some oj =>
  simp only[m] at h;simp only[il,m,jZ];cases o:oj.dst with
  |none=>simp[o] at h
  |some d =>
   simp only[o] at h;simp only[jZ];have e:=f.slot d;have key:∀ v,a.tmps.getD d undef=v->v≠undef->a.tmps[d]?=some v:=by
    intro v c n;simp only[bM] at c;cases i:a.tmps[d]? with
    |none=>rw[i] at c;exact absurd c.symm n
    |some u=>rw[i] at c;simp at c;rw[c]
   split at h
   ·rename_i g
    cases h;rw[g] at e;have b:=eX e;generalize c:a.tmps.getD d undef=v at b;cases b;rw[key _ c (by simp[undef])]
   ·rename_i g
    cases h;rw[g] at e;have b:=eX e;generalize c:a.tmps.getD d undef=v at b;cases b;rw[key _ c (by simp[undef])]
   ·rename_i g
    cases h;rw[g] at e;obtain⟨vs,k,p⟩:=e;have l:vs=[]:=by cases vs with
     |nil=>rfl
     |cons _ _=>exact p.elim
    subst l;simp only[bM] at k;cases i:a.tmps[d]? with
    |none=>rfl
    |some u =>
     rw[i] at k;simp at k;subst k;rfl
   ·cases h
def NB(T:List (Nat×TI))(φ:Fr)(σ:List aj)(o:Oper):Option (D×List aj×List Prop) :=
 match o.op with
 |.move x|.assign x=>some (bn φ x,σ,[])
 |.pick c a b=>match bn φ c with
  |.e (.one (.c (.bool true)))=>some (bn φ a,σ,[])
  |.e (.one (.c (.bool false)))=>some (bn φ b,σ,[])
  |_=>none
 |.binOp op _ x y _=>match bn φ x,bn φ y with
  |.e (.one (.c a)),.e (.one (.c b))=>match IA op a b with
   |some (c,obs)=>some (.e (.one (.c c)),σ,obs)
   |none=>none
  |_,_=>none
 |.unOp op _ x=>match bn φ x with
  |.e (.one (.c a))=>match Ql op a with
   |some c=>some (.e (.one (.c c)),σ,[])
   |none=>none
  |_=>none
 |.extract x j=>match bn φ x with
  |.dH xs=>match eW j xs with
   |some e=>some (.e e,σ,[])
   |none=>none
  |_=>none
 |.alloc E=>match aQ T E with
  |some i=>cp (σ++[.cells E (i.zero.map A.c)]) λσ'=>some (.e (.one (.ptr σ.length 0)),σ',[])
  |none=>none
 |.box E x=>match lF (bn φ x) with
  |some cs=>cp (σ++[.cells E cs]) λσ'=>some (.e (.one (.ptr σ.length 0)),σ',[])
  |none=>none
 |.load t x=>match aQ T t with
  |some i=>match bn φ x with
   |.e (.one (.ptr l off))=>match eW l σ with
    |some (.cells _ cs)=>match lM i (gh off cs) with
     |some e=>some (.e e,σ,[])
     |none=>none
    |_=>none
   |.e (.one (.c (.rp cs)))=>match lM i (cs.map A.c) with
    |some e=>some (.e e,σ,[])
    |none=>none
   |_=>none
  |none=>none
 |.store t x y=>match aQ T t with
  |some i=>match bn φ x with
   |.e (.one (.ptr l off))=>match eW l σ with
    |some (.cells E cs)=>match lF (bn φ y) with
     |some new=>match Nat.beq new.length i.size with
      |true=>match dL off new cs with
       |some kU=>cp (dt.rR l (.cells E kU) σ) λσ'=>some (.any,σ',[])
       |none=>none
      |false=>none
     |none=>none
    |_=>none
   |_=>none
  |none=>none
 |.fieldAddr t x f=>match iz T t f with
  |some (k,_)=>match bn φ x with
   |.e (.one (.ptr l off))=>some (.e (.one (.ptr l (off+k))),σ,[])
   |.e (.one (.c (.rp cs)))=>some (.e (.one (.c (.rp (gh k cs)))),σ,[])
   |_=>none
  |none=>none
 |.field t x f=>match iz T t f with
  |some (k,j)=>match bn φ x with
   |.e (.agg cs)=>match lM j (gh k cs) with
    |some e=>some (.e e,σ,[])
    |none=>none
   |_=>none
  |none=>none
 |.nilCheck x=>match bn φ x with
  |.e (.one (.ptr l off))=>some (.e (.one (.ptr l off)),σ,[])
  |.e (.one (.c (.rp cs)))=>some (.e (.one (.c (.rp cs))),σ,[])
  |_=>none
 |.build t parts=>match xd T (bn φ) t parts.toList with
  |some cs=>some (.e (.agg cs),σ,[])
  |none=>none
 |.buildSlice t n parts=>match IB T (bn φ) t n parts.toList with
  |some (k,es)=>some (.e (.one (.c (.sl true k n λi=>es.getD i []))),σ,[])
  |none=>none
 |_=>none
theorem qE{P:Program}{T:List (Nat×TI)}(m:cz P T){φ:Fr}{σ σ':List aj}{o:Oper}{x:D}{obs:List Prop}(h:NB T φ σ o=some (x,σ',obs))(A:aa obs):aM P o (bn φ) σ x σ':=by
 unfold NB at h;split at h
 ·rename_i y d
  cases h;exact aM.move d
 ·rename_i y d
  cases h;exact aM.assign d
 ·rename_i c a b d
  split at h
  ·rename_i g;cases h;exact aM.pick d g
  ·rename_i g;cases h;exact aM.pick d g
  ·cases h
 ·rename_i op t y z ty d
  split at h
  ·rename_i a b r s
   split at h
   ·rename_i c u g;cases h;exact aM.binOp d r s g A
   ·cases h
  ·cases h
 ·rename_i op t y d
  split at h
  ·rename_i a r
   split at h
   ·rename_i c g;cases h;exact aM.unOp d r g
   ·cases h
  ·cases h
 ·rename_i y j d
  split at h
  ·rename_i xs hx
   split at h
   ·rename_i e w;cases h;exact aM.extract d hx (c9 w)
   ·cases h
  ·cases h
 ·rename_i E d
  split at h
  ·rename_i i hi;rw[b8] at h;cases h;exact aM.alloc m d hi
  ·cases h
 ·rename_i E y d
  split at h
  ·rename_i cs g;rw[b8] at h;cases h;exact aM.box d g
  ·cases h
 ·rename_i t y d
  split at h
  ·rename_i i hi
   split at h
   ·rename_i l off hx
    split at h
    ·rename_i E cs hB
     split at h
     ·rename_i e p;cases h;exact aM.BM m d hx (c9 hB) hi p
     ·cases h
    ·cases h
   ·rename_i cs hx
    split at h
    ·rename_i e p;cases h;exact aM.Fb m d hx hi p
    ·cases h
   ·cases h
  ·cases h
 ·rename_i t y z d
  split at h
  ·rename_i i hi
   split at h
   ·rename_i l off hx
    split at h
    ·rename_i E cs hB
     split at h
     ·rename_i new hn
      split at h
      ·rename_i s
       split at h
       ·rename_i v B
        rw[b8,la] at h;cases h;exact aM.store m d hx (c9 hB) hi hn (aO s) B
       ·cases h
      ·cases h
     ·cases h
    ·cases h
   ·cases h
  ·cases h
 ·rename_i t y f d
  split at h
  ·rename_i k j q
   split at h
   ·rename_i l off hx;cases h;exact aM.qa m d hx q
   ·rename_i cs hx;cases h;exact aM.rl m d hx q
   ·cases h
  ·cases h
 ·rename_i t y f d
  split at h
  ·rename_i k j q
   split at h
   ·rename_i cs hx
    split at h
    ·rename_i e p;cases h;exact aM.field m d hx q p
    ·cases h
   ·cases h
  ·cases h
 ·rename_i y d
  split at h
  ·rename_i l off hx;cases h;exact aM.rm d hx
  ·rename_i cs hx;cases h;exact aM.tC d hx
  ·cases h
 ·rename_i t parts d
  split at h
  ·rename_i cs g;cases h;exact aM.build m d g
  ·cases h
 ·rename_i t n parts d
  split at h
  ·rename_i k es g;cases h;exact aM.buildSlice m d g
  ·cases h
 ·cases h
def gg(N:Nat):Option Nat->Bool
 |some d=>Nat.ble (d+1) N
 |none=>true
def step1(T:List (Nat×TI))(N:Nat)(K:List It)(φ:Fr)(σ:List aj):Option (List It×Fr×List aj×List Prop) :=
 match K with
 |[]=>none
 |.blk _::K=>some (K,φ,σ,[])
 |.ops _ []::K=>some (K,φ,σ,[])
 |.ops all (o::rest)::K=>match gg N o.dst with
  |true=>match o.guard with
   |none=>match NB T φ σ o with
    |some (x,σ',obs)=>some (.ops all rest::K,iP o.dst x φ,σ',obs)
    |none=>none
   |some (j,b)=>match tA φ all j with
    |some (some b')=>match b,b' with
     |true,true|false,false=>match NB T φ σ o with
      |some (x,σ',obs)=>some (.ops all rest::K,iP o.dst x φ,σ',obs)
      |none=>none
     |_,_=>some (.ops all rest::K,iP o.dst (.dH []) φ,σ,[])
    |some none=>some (.ops all rest::K,iP o.dst (.dH []) φ,σ,[])
    |none=>none
  |false=>none
 |.code c::K=>match c with
  |.skip=>some (K,φ,σ,[])
  |.seq x y=>some (.code x::.code y::K,φ,σ,[])
  |.block id c=>some (.code c::.blk id::K,φ,σ,[])
  |.region _ ops false=>some (.ops ops.toList ops.toList::K,φ,σ,[])
  |.exit id=>match iT id K with
   |some K'=>some (K',φ,σ,[])
   |none=>none
  |.cond (.tmp t) x y=>match look φ t with
   |.e (.one (.c (.bool true)))=>some (.code x::K,φ,σ,[])
   |.e (.one (.c (.bool false)))=>some (.code y::K,φ,σ,[])
   |_=>none
  |_=>none
theorem et{N:Nat}{d:Option Nat}(h:gg N d=true):∀ t,d=some t->t<N:=by
 intro t a;subst a;exact cA h
theorem cw{all:List Oper}{o:Oper}(h:o.guard=none){a:Act}:Region.wanted o (yielded all.toArray a.tmps)=true:=by simp[Region.wanted,h]
theorem dM.KG{P:Program}{X:Cx P}{N:Nat}{all rest:List Oper}{Q:Fr->List aj->Prop}{φ:Fr}{σ:List aj}{o:Oper}
  (c:∀ σ s a,bg N σ s φ a->Region.wanted o (yielded all.toArray a.tmps)=false) (b:∀ t,o.dst=some t->t<N)
  (k:dM X N all rest Q (iP o.dst (.dH []) φ) σ):dM X N all (o::rest) Q φ σ:=dM.KF (x:=.dH []) (λ_ _=>⟨[],rfl,ab⟩) c _ rfl b k
theorem FW{P:Program}{X:Cx P}{T:List (Nat×TI)}(q:cz P T){N:Nat}{Qf:Post}{K z:List It}{φ g:Fr}{σ σ':List aj}{obs:List Prop}(h:step1 T N K φ σ=some (z,g,σ',obs))(m:aa obs)
  (k:AK X N Qf z .normal g σ'):AK X N Qf K .normal φ σ:=by
 unfold step1 at h;split at h
 ·cases h
 ·cases h;exact AK.FU k
 ·cases h;exact AK.FV k
 ·rename_i all o rest K0
  cases r:gg N o.dst with
  |false=>simp[r] at h
  |true =>
   simp only[r] at h;have i:=et r;split at h
   ·rename_i l
    split at h
    ·rename_i x σ1 IY he
     cases h;exact dM.op (λ_ _ _ _=>cw l) (qE q he m) _ rfl i k
    ·cases h
   ·rename_i j b l
    split at h
    ·rename_i v d
     have n:∀ σ s a,bg N σ s φ a->Region.wanted o (yielded all.toArray a.tmps)=(some v==some b):=λσ s a f=>by simp only[Region.wanted,l,kp d f]
     split at h
     ·split at h
      ·rename_i x σ1 IY he
       cases h;exact dM.op (λσ s a f=>(n σ s a f).trans rfl) (qE q he m) _ rfl i k
      ·cases h
     ·split at h
      ·rename_i x σ1 IY he
       cases h;exact dM.op (λσ s a f=>(n σ s a f).trans rfl) (qE q he m) _ rfl i k
      ·cases h
     ·rename_i w u
      cases h;refine dM.KG (λσ s a f=>(n σ s a f).trans ?_) i k
      cases b <;> cases v <;> simp_all
    ·rename_i d
     cases h;exact dM.KG (λσ s a f=>by simp only[Region.wanted,l,kp d f];rfl) i k
    ·cases h
 ·rename_i c K0
  split at h
  ·cases h;exact AK.skip k
  ·cases h;exact AK.seq k
  ·cases h;exact AK.block k
  ·cases h;exact AK.region k
  ·split at h
   ·rename_i B A;cases h;exact AK.exit A k
   ·cases h
  ·rename_i t x y
   split at h
   ·rename_i p;cases h;exact AK.cond rfl p (λ_=>k) (λe=>by cases e)
   ·rename_i p;cases h;exact AK.cond rfl p (λe=>by cases e) (λ_=>k)
   ·cases h
  ·cases h
def run(T:List (Nat×TI))(N:Nat):Nat->List It->Fr->List aj->List Prop->Option (List It×Fr×List aj×List Prop)
 |0,K,φ,σ,obs=>cp obs λobs=>some (K,φ,σ,obs)
 |n+1,K,φ,σ,obs=>match step1 T N K φ σ with
  |some (b,a,σ',o)=>run T N n b a σ' (j6 o obs)
  |none=>cp obs λobs=>some (K,φ,σ,obs)
theorem FX{P:Program}{X:Cx P}{T:List (Nat×TI)}(f:cz P T){N:Nat}{Qf:Post}:∀ {n:Nat}{K c:List It}{φ a:Fr}{σ σ':List aj}{obs rU:List Prop},run T N n K φ σ obs=some (c,a,σ',rU)->aa rU->AK X N Qf c .normal a σ'->AK X N Qf K .normal φ σ/\aa obs
 |0,K,c,φ,a,σ,σ',obs,rU,h,b,k=>by
  simp only[run,b8] at h;cases h;exact⟨k,b⟩
 |n+1,K,c,φ,a,σ,σ',obs,rU,h,b,k=>by
  simp only[run] at h;cases d:step1 T N K φ σ with
  |none =>
   simp only[d,b8] at h;cases h;exact⟨k,b⟩
  |some r =>
   obtain⟨l,g,σ1,j⟩:=r;simp only[d] at h;obtain⟨i,e⟩:=FX f h b k;rw[aa.cat] at e;exact⟨FW f d e.1 i,e.2⟩
theorem AK.run{P:Program}{X:Cx P}{T:List (Nat×TI)}(e:cz P T){N:Nat}{Qf:Post}(n:Nat){K c:List It}{φ b:Fr}{σ σ':List aj}{a:List Prop}(h:AM.run T N n K φ σ []=some (c,b,σ',a))(d:aa a)
  (k:AK X N Qf c .normal b σ'):AK X N Qf K .normal φ σ:=(FX e h d k).1
section
variable {P:Program}{T:List (Nat×TI)}{o:Oper}{g:Operand->D}{σ:List aj}
def rT(g:Operand->D):Option Operand->Option (Option Int)
 |none=>some none
 |some x=>match g x with
  |.e (.one (.c (.int _ j)))=>some (some j)
  |_=>none
theorem gX{s:St}{a:Operand->Value}(d:∀ y,cd σ s (a y) (g y)){x:Option Operand}{b:Option Int}(h:rT g x=some b):(x.map a=none/\b=none)∨∃ k j,x.map a=some (.int k j)/\b=some j:=by
 cases x with
 |none=>cases h;exact .inl ⟨rfl,rfl⟩
 |some y =>
  right
  simp only[rT] at h;split at h
  ·rename_i k j e
   cases h;have:=d y;rw[e] at this;have:=eX this;generalize c:a y=v at this;cases this;exact⟨k,j,by simp[c],rfl⟩
  ·cases h
def bT(d:Nat):Option Int->Nat
 |none=>d
 |some j=>j.toNat
def jc(n:Nat):Option Int->Option Int->List Prop
 |none,none=>[]
 |some l,none=>[0<=l,l<=n]
 |none,some h=>[0<=h,h<=n]
 |some l,some h=>[0<=l,l<=h,h<=n]
theorem my{isS:Bool}{n cap:Nat}(p:n<=cap){lo hi:Option Value}{l h:Option Int}(m:(lo=none/\l=none)∨∃ k j,lo=some (.int k j)/\l=some j)(i:(hi=none/\h=none)∨∃ k j,hi=some (.int k j)/\h=some j)
  (b:aa (jc n l h)) (w:World):(Instr.sliceBounds isS n cap lo hi none).run P w=.ok (bT 0 l,bT n h,cap) w/\bT 0 l<=bT n h/\bT n h<=n:=by
 rcases m with⟨rfl,rfl⟩|⟨f,l,rfl,rfl⟩ <;> rcases i with⟨rfl,rfl⟩|⟨d,h,rfl,rfl⟩
 ·exact⟨by simp[Instr.sliceBounds,bT],by simp[bT],by simp[bT]⟩
 ·obtain⟨a,c⟩:0<=h/\h<=(n:Int):=b;refine⟨?_,by simp[bT],by simp only[bT];omega⟩
  simp[Instr.sliceBounds,bT,run_sliceBound (P:=P) w d h cap _ a (by omega)]
 ·obtain⟨a,c⟩:0<=l/\l<=(n:Int):=b;refine⟨?_,by simp only[bT];omega,by simp[bT]⟩
  simp[Instr.sliceBounds,bT,run_sliceBound (P:=P) w f l n _ a c]
 ·obtain⟨a,c,q⟩:0<=l/\l<=h/\h<=(n:Int):=b;have e:((h.toNat:Nat):Int)=h:=wO (by omega)
  refine⟨?_,by simp only[bT];omega,by simp only[bT];omega⟩
  simp[Instr.sliceBounds,bT,run_sliceBound (P:=P) w d h cap _ (by omega) (by omega),run_sliceBound (P:=P) w f l h.toNat _ a (by omega)]
theorem fT(w:World)(k:IntKind) (i:Int)(y:Nat)(code:BoundsCode)(b:0<=i)(a:i<=(y:Int))(es:Array Event):(Instr.sliceBound (.int k i) y code).events P w es=es:=by
 simp[Instr.sliceBound,asIntOf,b,a]
theorem oi{isS:Bool}{n cap:Nat}{lo hi:Option Value}{l h:Option Int}(r:n<=cap)(p:(lo=none/\l=none)∨∃ k j,lo=some (.int k j)/\l=some j)(m:(hi=none/\h=none)∨∃ k j,hi=some (.int k j)/\h=some j)
  (b:aa (jc n l h)) (w:World) (es:Array Event):(Instr.sliceBounds isS n cap lo hi none).events P w es=es:=by
 have q:∀ (isS:Bool) (v:Option Value) (d:Nat) (w:World) (es:Array Event),v=none->(Instr.sliceBounds isS n cap none none none).events P w es=es:=λisS v d w es _=>by simp[Instr.sliceBounds]
 rcases p with⟨rfl,rfl⟩|⟨i,l,rfl,rfl⟩ <;> rcases m with⟨rfl,rfl⟩|⟨c,h,rfl,rfl⟩
 ·simp[Instr.sliceBounds]
 ·obtain⟨a,f⟩:0<=h/\h<=(n:Int):=b;simp[Instr.sliceBounds,fT (P:=P) w c h cap _ a (by omega)]
 ·obtain⟨a,f⟩:0<=l/\l<=(n:Int):=b;simp[Instr.sliceBounds,fT (P:=P) w i l n _ a f]
 ·obtain⟨a,f,s⟩:0<=l/\l<=h/\h<=(n:Int):=b;have e:((h.toNat:Nat):Int)=h:=wO (by omega)
  simp[Instr.sliceBounds,run_sliceBound (P:=P) w c h cap _ (by omega) (by omega),fT (P:=P) w c h cap _ (by omega) (by omega),fT (P:=P) w i l h.toNat _ a (by omega)]
def qD(s:List UInt8):Option Int->Option Int->List UInt8
 |none,none=>s
 |some l,none=>s.drop l.toNat
 |none,some h=>s.take h.toNat
 |some l,some h=>(s.take h.toNat).drop l.toNat
theorem aM.E8(A:cz P T){t:TypeId}{x:Operand}{lo hi:Option Operand}(h:o.op=.slice t x lo hi none){i:TI}(k:aQ T t=some i)(B:i.desc=.string){s:List UInt8}{l u:Option Int}
  (y:g x=.e (.one (.c (.str s)))) (hl:rT g lo=some l) (q:rT g hi=some u) (r:aa (jc s.length l u)):aM P o g σ (.e (.one (.c (.str (qD s l u))))) σ:=by
 refine .quiet λst ρ hh hr=>?_
 have h1:=hr x;rw[y] at h1
 replace h1:=eX h1
 generalize d:ρ x=vx at h1;cases h1 with
 |@str sb _ p v =>
 have b:sb.size=s.length:=by rw[<-p];exact fU.symm
 obtain⟨z,f,j⟩:=my (P:=P) (isS:=false) (n:=sb.size) (cap:=sb.size) (ar _) (gX hr hl) (gX hr q) (by rw[b];exact r) st.w
 have a:=(A t i k).run_underlying (w:=st.w);rw[B] at a;have m:=oi (P:=P) (isS:=false) (n:=sb.size) (cap:=sb.size) (ar _) (gX hr hl) (gX hr q) (by rw[b];exact r) st.w
 refine⟨.string (sb.extract (bT 0 l) (bT sb.size u)),?_,Rd.str ?_ ?_,by simp[execOp,h,d,Instr.sliceAt,a,Instr.slice,m]⟩
 ·simp[execOp,h,d,Instr.sliceAt,a,Instr.slice,z]
 ·rw[Lib.extract_data,p,b];rw[b] at f j;cases l <;> cases u <;> simp only[qD,bT] at f j ⊢
  ·simp
  ·simp
  ·rw[wF (by simp)]
  ·rw[List.drop_take]
 ·cases l <;> cases u <;> simp only[qD,gj,List.length_take] <;> omega
def j7(l:Nat)(f:Nat->List C):Nat->List C:=λi=>f (l+i)
def Iz(tt:Bool):Option Int->Bool
 |none=>tt
 |some _=>false
theorem aM.IK(A:cz P T){t:TypeId}{x:Operand}{lo hi:Option Operand}(h:o.op=.slice t x lo hi none){i k:TI}{E:TypeId}(q:aQ T t=some i)(J:i.desc=.slice E)(I:aQ T E=some k){tt:Bool}{n:Nat}{es:Nat->List C}{l u:Option Int}
  (L:∀ s v,cd σ s v (g x)->Rd s.M v (.sl tt k.size n es)) (hl:rT g lo=some l) (y:rT g hi=some u) (z:aa (jc n l u)) :
  aM P o g σ (.e (.one (.c (.sl (Iz tt u) k.size (bT n u-bT 0 l) (j7 (bT 0 l) es))))) σ:=by
 refine .quiet λst ρ hh hr=>?_
 have h1:=L st _ (hr x);obtain⟨a,cap,vs,r,m,H,G,S,R⟩:=h1.flat;rw[r] at h1;obtain⟨F,N,O⟩:=my (P:=P) (isS:=true) m (gX hr hl) (gX hr y) z st.w;have d:=(A t i q).run_underlying (w:=st.w);rw[J] at d;refine⟨.slice (if cap=bT 0 l then a else a.map (·.add (bT 0 l*k.size))) (bT n u-bT 0 l) (cap-bT 0 l),?_,?_,by simp[execOp,h,r,Instr.sliceAt,d,Instr.slice,F,oi (P:=P) (isS:=true) m (gX hr hl) (gX hr y) z st.w]⟩
 ·simp[execOp,h,r,Instr.sliceAt,d,Instr.slice,F,(A E k I).run_sizeOf]
 ·cases h1 with
  |sl b off f _ _ _ Q K hm' LK =>
   refine Rd.sl b (off+bT 0 l*k.size) (λi j=>f (bT 0 l+i) j) (by omega) (by omega) ?_ (λi hi=>Q _ (by omega)) (λB=>?_) (λi hi j c hj=>?_) (λi hi j c hj=>LK _ (by omega) j c hj)
   ·intro p;cases u with
    |none=>simp only[Iz] at p;have:=G p;simp only[bT];omega
    |some u=>cases p
   ·rw[ak (by omega),K (by omega)]
    simp[cO]
   ·have:=hm' (bT 0 l+i) (by omega) j c hj
    rw[show off+bT 0 l*k.size+i*k.size+j=off+(bT 0 l+i)*k.size+j by rw[eT];omega]
    exact this
theorem aM.II(n:cz P T){a dst:TypeId}{x:Operand}(h:o.op=.convert a dst x){i i2:TI}{k k':IntKind}{j:Int}(hi:aQ T a=some i)(l:aQ T dst=some i2)(q:i2.desc=.int k')(p:g x=.e (.one (.c (.int k j))))(m:aJ k' j) :
  aM P o g σ (.e (.one (.c (.int k' j)))) σ:=by
 refine .quiet λst ρ hh hr=>?_
 have h1:=hr x;rw[p] at h1
 replace h1:=eX h1
 generalize d:ρ x=vx at h1;cases h1;have f:=(n a i hi).run_underlying (w:=st.w);have b:=(n dst i2 l).run_underlying (w:=st.w);rw[q] at b;exact⟨.int k' j,by simp[execOp,h,d,convert,f,b,Conv.intToInt,k8 m],Rd.int m,by simp[execOp,h,d,convert,f,b,Conv.intToInt]⟩
theorem aM.IJ(l:cz P T){b dst:TypeId}{x:Operand}(h:o.op=.convert b dst x){i i2:TI}{s:List UInt8}(hi:aQ T b=some i)(k:aQ T dst=some i2)(n:i2.desc=.string)(m:g x=.e (.one (.c (.str s)))) :
  aM P o g σ (.e (.one (.c (.str s)))) σ:=by
 refine .quiet λst ρ hh hr=>?_
 have h1:=hr x;rw[m] at h1;have f:=eX h1;generalize a:ρ x=vx at f;cases f;have j:=(l b i hi).run_underlying (w:=st.w);have d:=(l dst i2 k).run_underlying (w:=st.w);rw[n] at d;exact⟨_,by simp[execOp,h,a,convert,j,d];rfl,by rw[<-a];exact h1,by simp[execOp,h,a,convert,j,d]⟩
def tw(f:Nat->List C):Nat->Nat->Option (List UInt8)
 |_,0=>some []
 |i,n+1=>match f i with
  |[.int .u8 v]=>match tw f (i+1) n with
   |some r=>some (UInt8.ofNat v.toNat::r)
   |none=>none
  |_=>none
theorem vL{M:Mem}{f:Nat->List C}:∀ {n i:Nat}{r:List UInt8}{vs:List Value},tw f i n=some r->vs.length=n->(∀ j,j<n->∀ c,(f (i+j))[0]?=some c->∃ v,vs[j]?=some v/\Rd M v c) ->
  ∃ xs:List Int,vs=xs.map (Value.int .u8)/\r=xs.map (λx=>UInt8.ofNat x.toNat)
 |0,i,r,vs,h,a,_=>by cases h;exact⟨[],by simpa using a,rfl⟩
 |n+1,i,r,[],h,a,_=>by simp at a
 |n+1,i,r,v::vs,h,a,b=>by
  simp only[tw] at h;split at h
  ·rename_i x e
   split at h
   ·rename_i q p
    cases h;obtain⟨u,d,m⟩:=b 0 (by omega) (.int .u8 x) (by simp[e])
    simp at d;subst d;cases m;obtain⟨xs,k,s⟩:=vL (vs:=vs) p (by simpa using a) (λj t c l=>by
     have:=b (j+1) (by omega) c (by rw[show i+(j+1)=i+1+j by omega];exact l)
     simpa using this)
    exact⟨x::xs,by simp[k],by simp[s]⟩
   ·cases h
  ·cases h
theorem mZ{P:Program}(w:World){F:Value->ByteArray->Sem (ForInStep ByteArray)}(a:∀ x s,F (.int .u8 x) s=pure (.yield (s.push (UInt8.ofNat x.toNat)))):∀ (xs:List Int)(s:ByteArray),
  (forIn (m:=Sem) (xs.map (Value.int .u8)) s F).run P w=.ok ⟨s.data++(xs.map λx=>UInt8.ofNat x.toNat).toArray⟩ w
 |[],s=>by simp
 |x::xs,s=>by
  simp only[j0,List.forIn_cons,a,bm,cY,bP];rw[mZ w a xs]
  congr 2
  apply gy
  simp[ByteArray.push]
end
def FQ(P:Program):List TypeDesc->List Field->Nat->Prop
 |[],[],_=>True
 |d::ds,f::fs,i=>f.name≠ "_"/\f.offset=i/\P.underlying f.type=some d/\(match d with|.int _|.string|.bool=>True|_=>False)/\FQ P ds fs (i+1)
 |_,_,_=>False
def OT(d:Nat)(xs ys:Array Value)(f:Field)(_:Option Bool×Unit):Sem (ForInStep (Option Bool×Unit)) :=
 if f.name= "_" then pure (ForInStep.yield (none,()))
 else do
  let a<-part f.type xs f.offset
  let b<-part f.type ys f.offset
  let r<-Op.equalIn d f.type a b
  if r=false then pure (ForInStep.done (some false,())) else pure (ForInStep.yield (none,()))
theorem mO{P:Program}(w:World)(d:Nat)(xs ys:Array Value):∀ {ds:List TypeDesc}{fs:List Field}{i:Nat}{vs ws:List Value}{b:Bool},FQ P ds fs i->iE ds vs ws=some b->(∀ j v,vs[j]?=some v->xs[i+j]?=some v)->(∀ j v,ws[j]?=some v->ys[i+j]?=some v) ->
  (Op.eqFields (d+1) xs ys fs).run P w=.ok b w/\∀ es,(forIn fs (none,()) (OT (d+1) xs ys)).events P w es=es
 |[],[],i,[],[],b,_,h,_,_=>by cases h;simp[Op.eqFields]
 |[],[],i,_::_,_,b,_,h,_,_=>by cases h
 |[],[],i,[],_::_,b,_,h,_,_=>by cases h
 |[],_::_,i,_,_,b,B,_,_,_=>B.elim
 |_::_,[],i,_,_,b,B,_,_,_=>B.elim
 |t::ds,f::fs,i,[],_,b,_,h,_,_=>by cases h
 |t::ds,f::fs,i,_::_,[],b,_,h,_,_=>by cases h
 |t::ds,f::fs,i,v::vs,u::us,b,⟨J,K,n,L,M⟩,h,I,G=>by
  simp only[iE] at h;cases c:pe t v u with
  |none=>simp[c] at h
  |some a =>
   cases F:iE ds vs us with
   |none=>simp[c,F] at h
   |some b' =>
    simp[c,F] at h;subst h;obtain⟨N,E⟩:=mO w d xs ys M F (λj v s=>by have:=I (j+1) v (by simpa using s);rwa [show i+1+j=i+(j+1) by omega]) (λj v s=>by have:=G (j+1) v (by simpa using s);rwa [show i+1+j=i+(j+1) by omega])
    have e:xs[i]?=some v:=by simpa using I 0 v rfl
    have m:ys[i]?=some u:=by simpa using G 0 u rfl
    have p:(isAgg f.type).run P w=.ok false w:=by
     unfold isAgg underlying;cases t <;> simp at L <;> simp[n]
    have r:∀ (l:Array Value) (z:Value),l[i]?=some z->(part f.type l f.offset).run P w=.ok z w:=by
     intro l z C;unfold part;simp[p,K,C]
    have q:∀ (l:Array Value) (z:Value),l[i]?=some z->∀ es,(part f.type l f.offset).events P w es=es:=by
     intro l z C es;unfold part;simp[p,K,C]
    have A:∀ es,(Op.equalIn (d+1) f.type v u).events P w es=es:=by
     intro es;unfold pe at c;split at c <;> first
      |(cases c;done)
      |(unfold Op.equalIn;simp[underlying,n];done)
      |(unfold Op.equalIn;simp[underlying,n];split <;> rfl)
    have H:(Op.equalIn (d+1) f.type v u).run P w=.ok a w:=by
     unfold pe at c;split at c
     ·rename_i k k1 x Q y
      split at c
      ·rename_i O;subst O;cases c;exact run_equalIn_int w d f.type k1 k x y n
      ·cases c
     ·cases c;exact run_equalIn_string w d f.type _ _ n
     ·cases c;exact run_equalIn_bool w d f.type _ _ n
     ·cases c
    refine⟨?_,λes=>?_⟩
    ·rw[Op.eqFields.eq_2,an J];simp only[bm,r xs v e,r ys u m,H,bP];cases a
     ·simp
     ·simp[N]
    ·rw[List.forIn_cons];simp only[OT,J,aW,Sem.events_bind,bm,r xs v e,r ys u m,H,bP,Result.evThen_ok,q xs v e,q ys u m,A];cases a
     ·simp
     ·simpa using E es
theorem jD{P:Program}{t:TypeId}{fs:List Field}{ds:List TypeDesc}(f:P.underlying t=some (.struct fs.toArray))(d:P.stoodInHeld t=false)(k:P.eqGuardType P.depth t=false)(i:FQ P ds fs 0) :
  P.eqGuardType P.depth t=false/\∀ (w:World) (vs ws:List Value) (b:Bool),iE ds vs ws=some b->(Op.equal t (.agg vs.toArray) (.agg ws.toArray)).run P w=.ok b w/\∀ es,(Op.equal t (.agg vs.toArray) (.agg ws.toArray)).events P w es=es:=by
 refine⟨k,λw vs ws b h=>?_⟩
 have e:P.fieldsOf t=fs.toArray:=by unfold Program.fieldsOf;rw[f]
 have key:=mO w 9998 vs.toArray ws.toArray i h (λj v c=>by simpa using c) (λj v c=>by simpa using c)
 refine⟨?_,λes=>?_⟩
 rotate_left
 ·show (Op.equalIn (9999+1) t _ _).events P w es=es;have l:=key.2 es;unfold Op.equalIn;simp[underlying,f,d];show Result.evThen ((forIn fs (none,()) (OT 9999 vs.toArray ws.toArray)).run P w) ((forIn fs (none,()) (OT (9998+1) vs.toArray ws.toArray)).events P w es) _=es;rw[l];cases (forIn fs (none,()) (OT 9999 vs.toArray ws.toArray)).run P w with
  |ok a w'=>obtain⟨o,_⟩:=a;cases o <;> rfl
  |halt x w'=>rfl
 show (Op.equalIn (9999+1) t _ _).run P w=_;rw[run_equalIn_agg w 9999 t _ _ (by rw[e];exact f) d,e]
 exact key.1
 all_goals exact mO w 9998 _ _ i h (λj v c=>by simpa using c) (λj v c=>by simpa using c)
def Kt:List TypeDesc->List A->List A->Option Bool
 |[],[],[]=>some true
 |.int _::ds,.c (.int k a)::cs,.c (.int k' b)::es=>match CZ k k' with
  |true=>match Kt ds cs es with
   |some r=>some ((a==b)&&r)
   |none=>none
  |false=>none
 |.string::ds,.c (.str a)::cs,.c (.str b)::es=>match Kt ds cs es with
  |some r=>some ((a==b)&&r)
  |none=>none
 |.bool::ds,.c (.bool a)::cs,.c (.bool b)::es=>match Kt ds cs es with
  |some r=>some ((a==b)&&r)
  |none=>none
 |_,_,_=>none
theorem An{σ:List aj}{s:St}:∀ {ds:List TypeDesc}{cs es:List A}{b:Bool}{vs ws:List Value},Kt ds cs es=some b->cW σ s vs cs->cW σ s ws es->iE ds vs ws=some b:=by
 intro ds
 induction ds with
 |nil =>
  intro cs es b vs ws h c e;cases cs <;> cases es <;> simp only[Kt,reduceCtorEq] at h
  cases vs <;> cases ws <;> first|exact c.elim|exact e.elim|(simpa[iE] using h)
 |cons d ds ih =>
  intro cs es b vs ws h c e;unfold Kt at h;split at h
  ·exact absurd (by assumption:d::ds=[]) (by simp)
  ·rename_i n l k a f k' b' es' heq
   cases heq;split at h
   ·rename_i m
    cases xn m;split at h
    ·rename_i r j
     cases h;cases vs with
     |nil=>exact c.elim
     |cons v vs=>cases ws with
      |nil=>exact e.elim
      |cons w ws =>
       obtain⟨v1,i⟩:=c;obtain⟨w1,w2⟩:=e;cases (show Rd s.M v (.int k a) from v1)
       cases (show Rd s.M w (.int k b') from w1)
       simp[iE,pe,ih j i w2]
    ·cases h
   ·cases h
  ·rename_i l a f b' es' heq
   cases heq;split at h
   ·rename_i r j
    cases h;cases vs with
    |nil=>exact c.elim
    |cons v vs=>cases ws with
     |nil=>exact e.elim
     |cons w ws =>
      obtain⟨v1,i⟩:=c;obtain⟨w1,w2⟩:=e;cases (show Rd s.M v (.str a) from v1) with
      |str hx _ =>
      cases (show Rd s.M w (.str b') from w1) with
      |str hy _ =>
      simp only[iE,pe,ih j i w2];subst hx hy;simp[ByteArray.toList_eq]
   ·cases h
  ·rename_i l a f b' es' heq
   cases heq;split at h
   ·rename_i r j
    cases h;cases vs with
    |nil=>exact c.elim
    |cons v vs=>cases ws with
     |nil=>exact e.elim
     |cons w ws =>
      obtain⟨v1,i⟩:=c;obtain⟨w1,w2⟩:=e;cases (show Rd s.M v (.bool a) from v1)
      cases (show Rd s.M w (.bool b') from w1)
      simp[iE,pe,ih j i w2]
   ·cases h
  ·cases h
section
variable {P:Program}{T:List (Nat×TI)}{o:Oper}{g:Operand->D}{σ:List aj}
def kI:BinOp->Bool->Option Bool
 |.eql,b=>some b
 |.neq,b=>some (!b)
 |_,_=>none
theorem ru{op:BinOp}{t:TypeId}{x y:Value}{w:World}{b c:Bool}(d:match x,y with|.agg _,.agg _=>True|.bool _,.bool _=>True|_,_=>False)(a:(Op.equal t x y).run P w=.ok b w)(h:kI op b=some c) :
  (binOp op t x y).run P w=.ok (.bool c) w:=by
 cases op <;> simp only[kI,reduceCtorEq,bO] at h
 ·subst h;cases x <;> cases y <;> simp only at d <;> simp[binOp,a]
 ·subst h;cases x <;> cases y <;> simp only at d <;> simp[binOp,a]
theorem nP{op:BinOp}{t:TypeId}{x y:Value}{w:World}{b c:Bool}(d:match x,y with|.agg _,.agg _=>True|.bool _,.bool _=>True|_,_=>False)(e:(Op.equal t x y).run P w=.ok b w)(a:∀ es,(Op.equal t x y).events P w es=es)(h:kI op b=some c)(es:Array Event) :
  (binOp op t x y).events P w es=es:=by
 cases op <;> simp only[kI,reduceCtorEq,bO] at h <;> (cases x <;> cases y <;> simp only at d <;> simp[binOp,a])
theorem tX(op:BinOp)(t:TypeId)(x y:Operand)(xs ys:Array Value)(w:World)(a:P.eqGuardType P.depth t=false)(es:Array Event):(eqGuard op t x y (.agg xs) (.agg ys)).events P w es=es:=by
 cases op <;> simp[eqGuard,a]
theorem aM.structEq(z:cz P T){op:BinOp}{t ty:TypeId}{x y:Operand}(h:o.op=.binOp op t x y ty){i:TI}(hi:aQ T t=some i)(n:i.eq≠[]){cs es:List A}{b c:Bool}(u:g x=.e (.agg cs))(v:g y=.e (.agg es))
  (l:Kt i.eq cs es=some b) (q:kI op b=some c):aM P o g σ (.e (.one (.c (.bool c)))) σ:=by
 refine .quiet λs B hh hr=>?_
 have h1:=hr x;have h2:=hr y;rw[u] at h1;rw[v] at h2;obtain⟨vs,r,d⟩:=h1;obtain⟨k,p,j⟩:=h2;obtain⟨m,heq⟩:=(z t i hi).eqs n;have a:=ru (x:=.agg vs.toArray) (y:=.agg k.toArray) ab (heq s.w vs k b (An l d j)).1 q;have f:=nP (x:=.agg vs.toArray) (y:=.agg k.toArray) ab (heq s.w vs k b (An l d j)).1 (heq s.w vs k b (An l d j)).2 q;refine⟨.bool c,?_,Rd.bool,by simp only[execOp,h,r,p,Sem.events_bind,run_eqGuard_agg s.w op t x y _ _ m,tX op t x y _ _ s.w m,Result.evThen_ok,bm,bP,a,f,Sem.events_pure]⟩
 simp only[execOp,h,r,p,bm,run_eqGuard_agg s.w op t x y _ _ m,bP,a,cY]
theorem aM.Lx(u:cz P T){op:BinOp}{t ty:TypeId}{x y:Operand}(h:o.op=.binOp op t x y ty){i:TI}(hi:aQ T t=some i)(v:i.desc=.bool){a b c:Bool}(q:g x=.e (.one (.c (.bool a))))(r:g y=.e (.one (.c (.bool b))))
  (p:kI op (a==b)=some c):aM P o g σ (.e (.one (.c (.bool c)))) σ:=by
 refine .quiet λs n hh hr=>?_
 have h1:=hr x;have h2:=hr y;rw[q] at h1;rw[r] at h2
 replace h1:=eX h1
 replace h2:=eX h2
 generalize j:n x=vx at h1;generalize k:n y=vy at h2;cases h1;cases h2;have m:P.underlying t=some .bool:=by rw[(u t i hi).Nv,v]
 have d:=ru (P:=P) (w:=s.w) (x:=.bool a) (y:=.bool b) ab (run_equal_bool s.w t a b m) p;have l:∀ es,(Op.equal t (.bool a) (.bool b)).events P s.w es=es:=λes=>by
  show (Op.equalIn (9999+1) t _ _).events P s.w es=es;unfold Op.equalIn;simp[underlying,m]
 have f:=nP (P:=P) (w:=s.w) (x:=.bool a) (y:=.bool b) ab (run_equal_bool s.w t a b m) l p;refine⟨.bool c,?_,Rd.bool,by simp only[execOp,h,j,k,Sem.events_bind,eqGuard_at_bool,Sem.events_pure,cY,Result.evThen_ok,bm,bP,d,f]⟩
 simp only[execOp,h,j,k,bm,eqGuard_at_bool,cY,bP,d]
theorem aM.Ox{t ty:TypeId}{x y:Operand}(h:o.op=.binOp .xor t x y ty){a b:Int}(n:g x=.e (.one (.c (.int .i64 a))))(p:g y=.e (.one (.c (.int .i64 b))))(r:0<=a)(h1:0<=b) :
  aM P o g σ (.e (.one (.c (.int .i64 ((a.toNat ^^^ b.toNat:Nat):Int))))) σ:=by
 refine .quiet λs m hh hr=>?_
 have e1:=hr x;have e2:=hr y;rw[n] at e1;rw[p] at e2
 replace e1:=eX e1
 replace e2:=eX e2
 generalize i:m x=vx at e1;generalize j:m y=vy at e2;cases e1 with|int ha =>
 cases e2 with|int hb =>
 have q:a.toNat ^^^ b.toNat<2 ^ 63:=by
  apply Nat.xor_lt_two_pow <;> simp only[aJ] at ha hb <;> omega
 have k:aJ .i64 ((a.toNat ^^^ b.toNat:Nat):Int):=by simp only[aJ];omega
 refine⟨.int .i64 ((a.toNat ^^^ b.toNat:Nat):Int),?_,.int k,?_⟩
 rotate_left
 ·simp only[execOp,h,i,j,Sem.events_bind,fC,iw,Result.evThen_ok,Go.binOp,bY,en,aW,Op.intBits,bm,bP,cY,Sem.events_pure]
 have f:((BitVec.ofInt 64 a) ^^^ (BitVec.ofInt 64 b)).toNat=a.toNat ^^^ b.toNat:=by
  rw[BitVec.toNat_xor,BitVec.toNat_ofInt,BitVec.toNat_ofInt];simp only[aJ] at ha hb
  congr 1 <;> omega
 have d:(BitVec.ofInt IntKind.i64.bits a ^^^ BitVec.ofInt IntKind.i64.bits b).toNat=a.toNat ^^^ b.toNat:=f;have l:(Go.binOp .xor t (.int .i64 a) (.int .i64 b)).run P s.w=.ok (.int .i64 ((a.toNat ^^^ b.toNat:Nat):Int)) s.w:=by
  simp only[Go.binOp,bY,en,aW,Op.intBits,cY];rw[d,k8 k]
 simp only[execOp,h,i,j,bm,fC,bP,l,cY]
theorem aM.CJ(J:cz P T){f dst:TypeId}{x:Operand}(h:o.op=.convert f dst x){i i2 ie:TI}{E:TypeId}(hi:aQ T f=some i)(G:aQ T dst=some i2)(U:i.desc=.slice E)(A:i2.desc=.string)(S:aQ T E=some ie)(I:ie.desc=.int .u8)
  {tt:Bool} {n:Nat} {es:Nat->List C} {r:List UInt8} (V:∀ s v,cd σ s v (g x)->Rd s.M v (.sl tt 1 n es)) (X:tw es 0 n=some r):aM P o g σ (.e (.one (.c (.str r)))) σ:=by
 refine .nA λs Y hh hr=>?_
 have h1:=V s _ (hr x);obtain⟨vs,L,b⟩:=dj (P:=P) hh h1;obtain⟨a,cap,Q,u,K,O,_⟩:=h1.flat;have N:n<=9223372036854775807:=by omega
 have t:vs.length=n:=by rw[L.len];omega
 obtain⟨xs,e1,e2⟩:=vL (M:=s.M) (vs:=vs) X t (λj hj c W=>by
  obtain⟨v,R,p2⟩:=L.rd j hj 0 c (by simpa using W)
  exact⟨v,by simpa using R,p2⟩)
 have B:=(J f i hi).run_underlying (w:=s.w);have m:=(J dst i2 G).run_underlying (w:=s.w);have k:=(J E ie S).run_underlying (w:=s.w);rw[U] at B;rw[A] at m;rw[I] at k;have F:r.length<=9223372036854775807:=by
  rw[e2,ku];have:xs.length=n:=by rw[<-t,e1,ku]
  omega
 have p:∃ z:ByteArray,(Conv.bytesToString (.slice a n cap)).run P s.w=.ok (.string z) s.w/\z.data.toList=r:=by
  cases a with
  |none =>
   have q:r=[]:=by
    have:vs=[]:=by
     rw[u] at b;have h2:=b.1;simp[Builtin.firstCells] at h2;simpa using h2
    rw[this] at e1;have:xs=[]:=by simpa using e1.symm
    rw[e2,this];rfl
   exact⟨ByteArray.empty,by simp[Conv.bytesToString],by rw[q];rfl⟩
  |some ad =>
   rw[u] at b;have h2:=b.1;simp only[Builtin.firstCells,n9] at h2;refine⟨⟨#[]++(xs.map λx=>UInt8.ofNat x.toNat).toArray⟩,?_,by rw[e2];simp⟩
   simp only[Conv.bytesToString,bm,h2,bP,e1];rw[List.forIn_toArray,mZ (P:=P) s.w (λ_ _=>rfl) xs ByteArray.empty]
   rfl
 obtain⟨z,y,H⟩:=p;refine⟨.string z,?_,Rd.str H F,?_⟩
 rotate_left
 ·intro e d;simp only[execOp,h,u,Sem.events_bind,convert,B,m,Result.evThen_ok,bP,k,y,bm,events_underlying,Sem.events_pure] at d;cases a with
  |none=>simp[Conv.bytesToString] at d
  |some ad =>
   have l:=gL (P:=P) hh (h1.zJ (λ_ _=>rfl)) (w:=s.w) rfl
   rw[u] at b l;have h2:=b.1;simp only[Builtin.firstCells,n9] at h2 l;unfold Conv.bytesToString at d;simp only at d;rw[Sem.events_bind,h2,Result.evThen_ok,bR.bind (P:=P) ?_ λ_=>.pure] at d
   ·exact s9 (l e d)
   ·rw[List.forIn_toArray];refine bR.E3 (λx s=>?_) _ _
    split
    ·exact .pure
    ·exact .bind .stuck λ_=>.pure
 simp only[execOp,h,u,bm,convert,B,m,bP,k,y,cY]
end
def tz(g:Operand->D):List Operand->Option (List C)
 |[]=>some []
 |x::r=>match g x with
  |.e (.one (.c c))=>match tz g r with
   |some q=>some (c::q)
   |none=>none
  |_=>none
theorem tY{σ:List aj}{s:St}{b:Operand->Value}{g:Operand->D}(d:∀ y,cd σ s (b y) (g y)):∀ {xs:List Operand}{cs:List C},tz g xs=some cs->xs.length=cs.length/\∀ (j:Nat)(c:C),cs[j]?=some c->∃ v,(xs.map b)[j]?=some v/\Rd s.M v c
 |[],cs,h=>by cases h;exact⟨rfl,by simp⟩
 |x::r,cs,h=>by
  simp only[tz] at h;split at h
  ·rename_i c e
   split at h
   ·rename_i q l
    cases h;obtain⟨f,k⟩:=tY d l;refine⟨by simp[f],λj i a=>?_⟩
    cases j with
    |zero =>
     simp at a;subst a;have:=d x;rw[e] at this;exact⟨b x,by simp,eX this⟩
    |succ j=>exact(by simpa using k j i (by simpa using a))
   ·cases h
  ·cases h
section
variable {P:Program}{T:List (Nat×TI)}{o:Oper}{g:Operand->D}{σ:List aj}
theorem aM.makeFunc{fn:Fn}{a b:Array Operand}(h:o.op=.makeFunc fn a b){i f:List C}(p:tz g a.toList=some i)(q:tz g b.toList=some f):aM P o g σ (.e (.one (.c (.fn fn i f)))) σ:=by
 refine .quiet λs d hh hr=>?_
 obtain⟨t,r⟩:=tY hr p;obtain⟨l,m⟩:=tY hr q;have k:a.map d=(a.toList.map d).toArray:=by apply gy;simp
 have n:b.map d=(b.toList.map d).toArray:=by apply gy;simp
 refine⟨.func fn (a.toList.map d).toArray (b.toList.map d).toArray,?_,?_,by simp only[execOp,h,Instr.makeFunc];rfl⟩
 ·simp only[execOp,h,Instr.makeFunc,k,n];rfl
 ·refine Rd.fn _ _ (by simpa using t) (by simpa using l) (λj=>((a.toList.map d)[j]?).getD undef) (λj=>((b.toList.map d)[j]?).getD undef) ?_ ?_ ?_ ?_
  ·intro j hj;rw[ai hj];rfl
  ·intro j hj;rw[ai hj];rfl
  ·intro j c hj;obtain⟨v,h1,h2⟩:=r j c hj;rw[h1];exact h2
  ·intro j c hj;obtain⟨v,h1,h2⟩:=m j c hj;rw[h1];exact h2
def p6:TypeDesc->Bool
 |.interface _=>true
 |_=>false
def sQ(t:TypeId):D->Option C
 |.e (.one (.c c))=>some (.ifs t c)
 |.e (.agg cs)=>match fW cs with
  |some q=>some (.ES t q)
  |none=>none
 |_=>none
theorem Ao{s:St}{v:Value}{t:TypeId}{d:D}{c:C}(h:sQ t d=some c)(r:cd σ s v d):Rd s.M (.iface t v) c:=by
 unfold sQ at h;split at h
 ·cases h;exact Rd.ifs (eX r) (eX r).cell
 ·split at h
  ·rename_i q l
   cases h;obtain⟨vs,rfl,i⟩:=r;have b:=kq l i;refine Rd.ES (by have:=b.length;simpa using this) (λj=>(vs[j]?).getD undef) (λj e=>by rw[ai e];rfl) λj c e=>?_
   obtain⟨v,f,k⟩:=b.get (j:=j) (a:=.c c) (by simp[e])
   rw[f];exact k
  ·cases h
 ·cases h
theorem aM.makeInterface(k:cz P T){t:TypeId}{x:Operand}(h:o.op=.makeInterface t x){i:TI}(hi:aQ T t=some i)(b:p6 i.desc=false){c:C}(j:sQ t (g x)=some c):aM P o g σ (.e (.one (.c c))) σ:=by
 refine .quiet λs f hh hr=>?_
 have d:=(k t i hi).run_underlying (w:=s.w);refine⟨.iface t (f x),?_,Ao j (hr x),?_⟩
 rotate_left
 ·simp only[execOp,h,Instr.makeInterface,Sem.events_bind,bm,d,Result.evThen_ok,bP,events_underlying];cases a:i.desc <;> rw[a] at b <;> first|(cases b;done)|simp
 simp only[execOp,h,Instr.makeInterface,bm,d,bP];cases a:i.desc <;> rw[a] at b <;> first|(cases b;done)|simp
def vM(i:TI):Option E1:=match i.agg with
 |true=>some (.agg (i.zero.map A.c))
 |false=>none
theorem FR{i:TI}{t:TypeId}(h:aN P t i){s:St}{e:E1}(a:vM i=some e):∃ z,(zeroValue t).run P s.w=.ok z s.w/\kE σ s z e:=by
 obtain⟨z,c,b⟩:=h.yN σ s;refine⟨z,c,?_⟩;obtain⟨l,k,m,u,r,n,q,⟨cs,f⟩,p⟩:=h.info;have d:k=z:=by
  have:(zeroValue t).run P s.w=.ok k s.w:=by simp[zeroValue,typeInfo,m,n]
  rw[this] at c;cases c;rfl
 subst d;unfold vM at a;cases j:i.agg with
 |true =>
  rw[j] at a f;simp only[aX] at f;cases a;rw[f] at b ⊢;exact⟨cs.toList,by simp,by simpa[Value.cells] using b⟩
 |false=>rw[j] at a;cases a
def oq(t:TypeId)(i:TI):C->Option (E1×Bool)
 |.ifs t' c=>match Nat.beq t' t with
  |true=>some (.one (.c c),true)
  |false=>match vM i with
   |some e=>some (e,false)
   |none=>none
 |.ES t' cs=>match Nat.beq t' t with
  |true=>some (.agg (cs.map A.c),true)
  |false=>match vM i with
   |some e=>some (e,false)
   |none=>none
 |.mz=>match vM i with
  |some e=>some (e,false)
  |none=>none
 |_=>none
theorem aM.typeAssert(L:cz P T){x:Operand}{B t:TypeId}(h:o.op=.typeAssert x B t true){i:TI}(hi:aQ T t=some i)(K:p6 i.desc=false){c:C}(Q:g x=.e (.one (.c c))){e:E1}{b:Bool}(d:oq t i c=some (e,b)) :
  aM P o g σ (.dH [e,.one (.c (.bool b))]) σ:=by
 refine .quiet λs F hh hr=>?_
 have h1:=hr x;rw[Q] at h1
 replace h1:=eX h1
 generalize E:F x=vx at h1;have r:=(L t i hi).run_underlying (w:=s.w);have key:∀ (v:Value) (b:Bool),(Instr.typeAssert vx B t true).run P s.w=.ok (.tuple #[v,.bool b]) s.w->kE σ s v e->(Instr.typeAssert vx B t true).events P s.w #[]=#[]->∃ v,(execOp F o).run P s.w=.ok (.value v) s.w/\cd σ s v (.dH [e,.one (.c (.bool b))])/\(execOp F o).events P s.w #[]=#[]:=by
  intro v b h1 h2 h3;refine⟨.tuple #[v,.bool b],?_,⟨[v,.bool b],rfl,h2,Rd.bool,ab⟩,by simp only[execOp,h,E,Sem.events_bind,h1,h3,Result.evThen_ok,Sem.events_pure]⟩
  simp only[execOp,h,E,bm,h1,bP,cY]
 have fail:∀ y,vM i=some y->(∀ z,(zeroValue t).run P s.w=.ok z s.w->(Instr.typeAssert vx B t true).run P s.w=.ok (.tuple #[z,.bool false]) s.w/\(Instr.typeAssert vx B t true).events P s.w #[]=#[])->e=y->b=false->∃ v,(execOp F o).run P s.w=.ok (.value v) s.w/\cd σ s v (.dH [e,.one (.c (.bool b))])/\(execOp F o).events P s.w #[]=#[]:=by
  intro y q n I l;subst I l;obtain⟨z,h3,N⟩:=FR (σ:=σ) (L t i hi) (s:=s) q;exact key z false (n z h3).1 N (n z h3).2
 have k:∀ m,i.desc≠.interface m:=by intro m e;rw[e] at K;cases K
 cases h1 with
 |@ifs t' v c h2 hc =>
  simp only[oq] at d;cases l:Nat.beq t' t with
  |true =>
   rw[l] at d;cases d;have H:=aO l;subst H;refine key v true ?_ h2 ?_ <;>
   ·unfold Instr.typeAssert;simp only[bm,r,bP,Sem.events_bind,Result.evThen_ok,events_underlying];cases a:i.desc <;> first|(exact absurd a (k _))|simp
  |false =>
   rw[l] at d;have p:t'≠t:=λe=>by subst e;rw[gT] at l;cases l
   simp only at d;split at d
   ·rename_i y q
    cases d;refine fail _ q (λz h3=>⟨?_,?_⟩) rfl rfl <;>
    ·unfold Instr.typeAssert;simp only[bm,r,bP,Sem.events_bind,Result.evThen_ok,events_underlying];cases a:i.desc <;> first|(exact absurd a (k _))|simp[p,h3]
   ·cases d
 |@ES t' vs cs hl f O G =>
  simp only[oq] at d;cases l:Nat.beq t' t with
  |true =>
   rw[l] at d;cases d;have H:=aO l;subst H;refine key (.agg vs.toArray) true ?_ ⟨vs,rfl,?_⟩ ?_
   rotate_left 2
   ·unfold Instr.typeAssert;simp only[r,Sem.events_bind,Result.evThen_ok,events_underlying];cases a:i.desc <;> first|(exact absurd a (k _))|simp
   ·unfold Instr.typeAssert;simp only[bm,r,bP];cases a:i.desc <;> first|(exact absurd a (k _))|simp
   ·have go:∀ (vs:List Value) (cs:List C),vs.length=cs.length->(∀ (j:Nat) (c:C),cs[j]?=some c->∃ v,vs[j]?=some v/\Rd s.M v c)->cW σ s vs (cs.map A.c):=by
     intro vs
     induction vs with
     |nil=>intro cs hl _;cases cs with|nil=>trivial|cons _ _=>simp at hl
     |cons v vs ih =>
      intro cs hl hg;cases cs with
      |nil=>simp at hl
      |cons c cs =>
       obtain⟨u,J,p2⟩:=hg 0 c rfl;simp at J;subst J;exact⟨p2,ih cs (by simpa using hl) (λj c hj=>by simpa using hg (j+1) c (by simpa using hj))⟩
    refine go vs cs hl λj c hj=>⟨f j,O j ?_,G j c hj⟩
    rw[hl];exact(aD.1 hj).1
  |false =>
   rw[l] at d;have p:t'≠t:=λe=>by subst e;rw[gT] at l;cases l
   simp only at d;split at d
   ·rename_i y q
    cases d;refine fail _ q (λz h3=>⟨?_,?_⟩) rfl rfl <;>
    ·unfold Instr.typeAssert;simp only[bm,r,bP,Sem.events_bind,Result.evThen_ok,events_underlying];cases a:i.desc <;> first|(exact absurd a (k _))|simp[p,h3]
   ·cases d
 |mz =>
  simp only[oq] at d;split at d
  ·rename_i y q
   cases d;refine fail _ q (λz h3=>⟨?_,?_⟩) rfl rfl <;>
   ·unfold Instr.typeAssert;simp only[bm,r,bP,Sem.events_bind,Result.evThen_ok,events_underlying];cases a:i.desc <;> first|(exact absurd a (k _))|simp[h3]
  ·cases d
 |_=>simp[oq] at d
end
end Go.AM
namespace Go.AM
open Go.Conc (G)
def OA{P:Program}(X:Cx P)(N:Nat)(all:List Oper)(o:Oper)(φ:Fr)(σ:List aj)(x:D)(σ':List aj):Prop :=
 ∀ s a,bg N σ s φ a->ag σ s->∀ (b:Frame) (k:List Item) (cs:List Frame) (S:Goroutine->St->Prop) (i:Nat) (rest:List Nat),b.kind≠.early->all.toArray[i]?=some o ->
  (∀ v s',cd σ' s' v x->ag σ' s'->bo σ s σ' s'->dn X S (G (b.aT (a.put o.dst v) (.inRegion all.toArray rest::k)) cs) s')->dn X S (G (b.aT a (.inRegion all.toArray (i::rest)::k)) cs) s
section
variable {P:Program}{X:Cx P}{N:Nat}{all rest:List Oper}{φ m:Fr}{σ σ':List aj}{o:Oper}{x:D}
theorem OA.le(h:OA X N all o m σ x σ')(hl:oE φ m):OA X N all o φ σ x σ':=λs a f hh=>h s a (f.le hl) hh
theorem OA.kJ(p:∀ σ s a,bg N σ s φ a->Region.wanted o (yielded all.toArray a.tmps)=true)(h:aM P o (bn φ) σ x σ'):OA X N all o φ σ x σ':=by
 intro s a f hh b k cs S i rest r hi hK;refine tJ r hi (p _ _ _ f) λg d=>?_
 have c:=hh.rely d;obtain⟨q,s',h1,h2,e,n,t⟩:=h g a.eval c (cV (f.rely d hh));have j:=d.stepW.trans (n.lD c);have l:oB g s' ((execOp a.eval o).events P g.w #[]):=⟨⟨σ,σ',c,e,n⟩,t⟩;cases q with
 |value v=>exact⟨_,s',v,h1,.inl rfl,l,hK v s' h2 e j⟩
 |skip=>simp only[LZ] at h2;subst h2;exact⟨_,s',undef,h1,.inr ⟨rfl,rfl⟩,l,hK undef s' ab e j⟩
 |_=>exact h2.elim
theorem OA.pass(e:∀ σ s a,bg N σ s φ a->Region.wanted o (yielded all.toArray a.tmps)=false):OA X N all o φ σ (.dH []) σ:=by
 intro s a f hh b k cs S i rest g hi hK;exact .ctl hh rfl (λ_=>Bo hi (e _ _ _ f)) λd c=>hK undef d ⟨[],rfl,ab⟩ (hh.rely c) c.stepW
theorem dM.rW{Q:Fr->List aj->Prop}(h:OA X N all o φ σ x σ')(d:∀ t,o.dst=some t->t<N)(k:dM X N all rest Q (iP o.dst x φ) σ'):dM X N all (o::rest) Q φ σ:=by
 intro s a f hh b kk cs S idx hb fK hQ;cases idx with
 |nil=>exact fK.elim
 |cons i idx =>
 refine h s a f hh b kk cs S i idx hb fK.1 λv s' hv ia st=>k s' _ ?_ ia b kk cs S idx hb fK.2 λc σ2 s2 a2 q g h2 lB=>hQ c σ2 s2 a2 q g h2 (st.trans lB)
 cases e:o.dst with
 |none=>exact f.mono st hh.len
 |some t=>exact(f.mono st hh.len).put (d t e) hv
end
abbrev c7:=List D->List aj->Option (D×List aj×List Prop)
def vF:List (Nat×c7)->Nat->Option c7
 |[],_=>none
 |(i,g)::r,f=>cond (Nat.beq i f) (some g) (vF r f)
def dw{P:Program}(X:Cx P)(f:FuncId)(g:c7):Prop:=∀ args σ res σ' obs,g args σ=some (res,σ',obs)->aa obs->Ev X f args σ res σ'
def aY{P:Program}(X:Cx P)(CT:List (Nat×c7)):Prop:=∀ f g,vF CT f=some g->dw X f g
theorem aY.nil{P:Program}{X:Cx P}:aY X []:=λ_ _ h=>by cases h
theorem aY.cons{P:Program}{X:Cx P}{f:FuncId}{g:c7}{CT:List (Nat×c7)}(h:dw X f g)(r:aY X CT):aY X ((f,g)::CT):=by
 intro b g2 h2;simp only[vF] at h2;cases a:Nat.beq f b with
 |true=>rw[a] at h2;cases h2;rw[<-aO a];exact h
 |false=>rw[a] at h2;exact r b g2 h2
def UI:A->List Nat->List Nat
 |.ptr l _,ks=>cond (dZ l ks) ks (ks++[l])
 |.vec l _ _ _,ks=>cond (dZ l ks) ks (ks++[l])
 |.ref l,ks=>cond (dZ l ks) ks (ks++[l])
 |.bp l _,ks=>cond (dZ l ks) ks (ks++[l])
 |_,ks=>ks
def UJ:List A->List Nat->List Nat
 |[],ks=>ks
 |a::r,ks=>UJ r (UI a ks)
def W0:D->List Nat->List Nat
 |.e (.one a),ks=>UI a ks
 |.e (.agg cs),ks=>UJ cs ks
 |_,ks=>ks
def OP:List D->List Nat->List Nat
 |[],ks=>ks
 |a::r,ks=>OP r (W0 a ks)
def yw(l:Nat):List Nat->Nat->Option Nat
 |[],_=>none
 |k::r,i=>match Nat.beq k l with|true=>some i|false=>yw l r (i+1)
theorem qg{l:Nat}:∀ {ks:List Nat}{i j:Nat},yw l ks i=some j->i<=j/\ks[j-i]?=some l
 |[],_,_,h=>by cases h
 |k::r,i,j,h=>by
  simp only[yw] at h;cases a:Nat.beq k l with
  |true=>rw[a] at h;cases h;exact⟨ar _,by simp[aO a]⟩
  |false =>
   rw[a] at h;obtain⟨c,b⟩:=qg h;refine⟨by omega,?_⟩
   rw[show j-i=(j-(i+1))+1 by omega]
   simpa using b
def NF(ks:List Nat):A->Option A
 |.ptr l o=>match yw l ks 0 with|some i=>some (.ptr i o)|none=>none
 |.ref l=>match yw l ks 0 with|some i=>some (.ref i)|none=>none
 |.bp l w=>match yw l ks 0 with|some i=>some (.bp i w)|none=>none
 |.vec _ _ _ _=>none
 |.c x=>some (.c x)
 |.any=>some .any
def Qv(ks:List Nat):List A->Option (List A)
 |[]=>some []
 |a::r=>match NF ks a with
  |some b=>match Qv ks r with
   |some q=>some (b::q)
   |none=>none
  |none=>none
def Sd(ks:List Nat):D->Option D
 |.e (.one a)=>match NF ks a with|some b=>some (.e (.one b))|none=>none
 |.e (.agg cs)=>match Qv ks cs with|some b=>some (.e (.agg b))|none=>none
 |.dH _=>none
 |.any=>some .any
def C0(ks:List Nat):List D->Option (List D)
 |[]=>some []
 |a::r=>match Sd ks a with
  |some b=>match C0 ks r with
   |some q=>some (b::q)
   |none=>none
  |none=>none
theorem FB{ks:List Nat}{a b:A}(h:NF ks a=some b):nb ks b=a/\CG ks.length b=true:=by
 cases a with
 |ptr l o =>
  simp only[NF] at h;split at h
  ·rename_i i hi
   cases h;obtain⟨_,d⟩:=qg hi;simp only[k6] at d;have e:i<ks.length:=(aD.1 d).1;exact⟨by simp[nb,dY,d],pq e⟩
  ·cases h
 |ref l =>
  simp only[NF] at h;split at h
  ·rename_i i hi
   cases h;obtain⟨_,d⟩:=qg hi;simp only[k6] at d;have e:i<ks.length:=(aD.1 d).1;exact⟨by simp[nb,dY,d],pq e⟩
  ·cases h
 |bp l w =>
  simp only[NF] at h;split at h
  ·rename_i i hi
   cases h;obtain⟨_,d⟩:=qg hi;simp only[k6] at d;have e:i<ks.length:=(aD.1 d).1;exact⟨by simp[nb,dY,d],pq e⟩
  ·cases h
 |vec l k n es=>cases h
 |c x=>cases h;exact⟨rfl,rfl⟩
 |any=>cases h;exact⟨rfl,rfl⟩
theorem FC{ks:List Nat}:∀ {a b:List A},Qv ks a=some b->ym ks b=a/\CH ks.length b=true
 |[],b,h=>by cases h;exact⟨rfl,rfl⟩
 |a::r,b,h=>by
  simp only[Qv] at h;split at h
  ·rename_i x c
   split at h
   ·rename_i q g
    cases h;obtain⟨d,f⟩:=FB c;obtain⟨e,i⟩:=FC g;exact⟨by simp[ym,d,e],by simp[CH,f,i]⟩
   ·cases h
  ·cases h
theorem L5{ks:List Nat}{a b:D}(h:Sd ks a=some b):jd ks b=a/\tj ks.length b=true:=by
 unfold Sd at h;split at h
 ·rename_i a
  split at h
  ·rename_i x e;cases h;obtain⟨d,c⟩:=FB e;exact⟨by simp[jd,wV,d],by simp[tj,EL,c]⟩
  ·cases h
 ·rename_i cs
  split at h
  ·rename_i x e;cases h;obtain⟨d,c⟩:=FC e;exact⟨by simp[jd,wV,d],by simp[tj,EL,c]⟩
  ·cases h
 ·cases h
 ·cases h;exact⟨rfl,rfl⟩
theorem BW{ks:List Nat}:∀ {a b:List D},C0 ks a=some b->ix ks b=a/\oD ks.length b=true
 |[],b,h=>by cases h;exact⟨rfl,rfl⟩
 |a::r,b,h=>by
  simp only[C0] at h;split at h
  ·rename_i x c
   split at h
   ·rename_i q g
    cases h;obtain⟨d,f⟩:=L5 c;obtain⟨e,i⟩:=BW g;exact⟨by simp[ix,d,e],by simp[oD,f,i]⟩
   ·cases h
  ·cases h
def E6(CT:List (Nat×c7))(φ:Fr)(σ:List aj)(a:Operand)(xs:List Operand):Option (D×List aj×List Prop) :=
 match eu (bn φ a) with
 |none=>none
 |some (f,cap)=>match vF CT f with
  |none=>none
  |some g =>
   let args:=oI (xs.map (bn φ)++fO cap)
   let ks:=OP args []
   match C0 ks args with
   |none=>none
   |some FD=>match jS ks σ with
    |none=>none
    |some σs=>match g FD σs with
     |none=>none
     |some (res,σ1,obs)=>match cy σs,cy σ1,dv ks,Nat.ble ks.length σ1.length with
      |true,true,true,true=>some (jd (ks++mG σ.length (σ1.length-ks.length)) res,dt ks σ1 σ,obs)
      |_,_,_,_=>none
theorem OA.KD{P:Program}{X:Cx P}{N:Nat}{all:List Oper}{φ:Fr}{σ:List aj}{o:Oper}{CT:List (Nat×c7)}(hC:aY X CT){A:Operand}{xs:Array Operand}{K:Array TypeId}
  (R:∀ σ s a,bg N σ s φ a->Region.wanted o (yielded all.toArray a.tmps)=true) (M:o.op=.call { callee:=.value A,args:=xs,argTypes:=K }) {f:FuncId} {cap:List C} (B:eu (bn φ A)=some (f,cap)) {g:c7} (I:vF CT f=some g)
  {ks:List Nat} {d:List D} {p σ1:List aj} {res:D} {obs:List Prop} (L:C0 ks (oI (xs.toList.map (bn φ)++fO cap))=some d) (E:jS ks σ=some p) (v:g d p=some (res,σ1,obs))
  (T:cy p=true) (G:cy σ1=true) (Q:dv ks=true) (H:ks.length<=σ1.length) (y:aa obs):OA X N all o φ σ (jd (ks++mG σ.length (σ1.length-ks.length)) res) (dt ks σ1 σ):=by
 obtain⟨l,J⟩:=BW L;intro s a q hh b kk cs S i rest U hi hK;have r:=hC f g I _ _ _ _ _ v y;have z:=cV q A;unfold eu at B;split at B
 case h_2=>cases B
 case h_1 f' Eo he =>
  cases B;rw[he] at z;have k:=eX z;generalize O:a.eval A=fv at k;cases k with
  |fn fs kU hl uX f1 f2 h1 h2 r1 r2 =>
   have F:fs=[]:=dq hl;subst F;have n:bC σ s kU (fO cap):=ky (λj c hj=>⟨f2 j,h2 j (by rw[uX];exact(aD.1 hj).1),r2 j c hj⟩) uX
   have t:bC σ s (xs.toList.map a.eval++kU) (ix ks d):=by
    rw[l];exact pT ((mr (cV q) xs.toList).append n)
   obtain⟨fn,u,h,e⟩:=r.1;exact EN U hi (R _ _ _ q) hh (λw=>(fS M u h e O w).1) (λw=>(fS M u h e O w).2) r t J E T G Q H hK
theorem OA.call{P:Program}{X:Cx P}{N:Nat}{all:List Oper}{φ:Fr}{σ σ':List aj}{o:Oper}{CT:List (Nat×c7)}(hC:aY X CT){n:Operand}{xs:Array Operand}{i:Array TypeId}{x:D}{obs:List Prop}
  (p:∀ σ s a,bg N σ s φ a->Region.wanted o (yielded all.toArray a.tmps)=true) (t:o.op=.call { callee:=.value n,args:=xs,argTypes:=i })
  (b:E6 CT φ σ n xs.toList=some (x,σ',obs)) (c:aa obs):OA X N all o φ σ x σ':=by
 unfold E6 at b;split at b
 ·cases b
 rename_i f cap hf
 split at b
 ·cases b
 rename_i g j
 simp only at b;split at b
 ·cases b
 rename_i l k
 split at b
 ·cases b
 rename_i q d
 split at b
 ·cases b
 rename_i res σ1 IY L6
 split at b
 case h_2=>cases b
 rename_i r e u h
 cases b;exact OA.KD hC p t hf j k d L6 r e u (cA h) c
theorem yK{d:D}(h:tj 0 d=true):jd [] d=d:=by
 have i:∀ {a:A},CG 0 a=true->nb [] a=a:=by
  intro a b;cases a <;> simp only[CG] at b <;> first|rfl|(simp at b)
 have j:∀ {l:List A},CH 0 l=true->ym [] l=l:=by
  intro l
  induction l with
  |nil=>intro _;rfl
  |cons a r c =>
   intro h;simp only[CH] at h;cases b:CG 0 a with
   |false=>simp[b] at h
   |true=>simp only[b] at h;simp[ym,i b,c h]
 have g:∀ {a:E1},EL 0 a=true->wV [] a=a:=by
  intro a b;cases a with
  |one a=>simp[wV,i b]
  |agg cs=>simp[wV,j b]
 have f:∀ {l:List E1},u4 0 l=true->vt [] l=l:=by
  intro l
  induction l with
  |nil=>intro _;rfl
  |cons a r c =>
   intro h;simp only[u4] at h;cases b:EL 0 a with
   |false=>simp[b] at h
   |true=>simp only[b] at h;simp[vt,g b,c h]
 cases d with
 |e x=>simp[jd,g h]
 |dH xs=>simp[jd,f h]
 |any=>rfl
def yv(CT:List (Nat×c7))(φ:Fr)(a:Operand)(xs:List Operand):Option (D×List Prop) :=
 match eu (bn φ a) with
 |none=>none
 |some (f,cap)=>match vF CT f with
  |none=>none
  |some g=>match C0 [] (oI (xs.map (bn φ)++fO cap)) with
   |none=>none
   |some FD=>match g FD [] with
    |some (res,[],obs)=>match tj 0 res with
     |true=>some (res,obs)
     |false=>none
    |_=>none
theorem OA.yv{P:Program}{X:Cx P}{N:Nat}{all:List Oper}{φ:Fr}{σ:List aj}{o:Oper}{CT:List (Nat×c7)}(hC:aY X CT){k:Operand}{xs:Array Operand}{d:Array TypeId}{x:D}{obs:List Prop}
  (l:∀ σ s a,bg N σ s φ a->Region.wanted o (yielded all.toArray a.tmps)=true) (n:o.op=.call { callee:=.value k,args:=xs,argTypes:=d })
  (b:AM.yv CT φ k xs.toList=some (x,obs)) (c:aa obs):OA X N all o φ σ x σ:=by
 unfold AM.yv at b;split at b
 ·cases b
 rename_i f cap hf
 split at b
 ·cases b
 rename_i g e
 split at b
 ·cases b
 rename_i j h
 split at b
 case h_2=>cases b
 rename_i res IY L6
 split at b
 case h_2=>cases b
 rename_i i
 cases b;have:=OA.KD (σ:=σ) hC l n hf e h rfl L6 rfl rfl rfl (ar _) c;simpa[mG,yK i,dt] using this
def mY(i:Nat)(ci:List C)(es:Nat->List C):Nat->List C:=λj=>if j=i then ci else es j
def nC(lo hi:Nat)(z:List C)(es:Nat->List C):Nat->List C:=λj=>if lo<=j/\j<hi then z else es j
section
variable {P:Program}{T:List (Nat×TI)}{o:Oper}{B:Operand->D}{σ:List aj}{s:St}{l g:Nat}{E:TypeId}{k n:Nat}{es:Nat->List C}
theorem F1(t:ag σ s)(e:σ[l]?=some (.buf E k n es)){k' i f:Nat}{v:Value}(y:gd σ s v (.bp l (.el g k' i f)))(r:g=n) :
  ∃ b c vs zs,s.β[l]?=some ⟨.slice (some ⟨b,0,none⟩) 0 c,[b]⟩/\v=.pointer (some ⟨b,i*k'+f,none⟩)/\s.w.heap[b]?=some (.cells (vs++zs).toArray E (0,0))/\(vs++zs).length=c*k/\n<=c/\c<=9223372036854775807/\Flat s.M k n es vs/\∀ o,s.M b o=none:=by
 obtain⟨F,⟨b,c,d,A⟩,_,x⟩:=y;obtain⟨L,h,a⟩:=(x _ _ _ _ e).2 r;rw[d] at a;rcases t.box l _ L e h with⟨_,rfl⟩|⟨G,H,vs,zs,rfl,q,u,z,m,j,p⟩
 ·cases a
 ·cases a;exact⟨b,c,vs,zs,h,A,q,u,z,m,j,p⟩
theorem F2{g:Nat->Value}:∀ {ds:List C}{m:Nat},(∀ j c,ds[j]?=some c->Rd s.M (g (m+j)) c)->cW σ s ((List.range ds.length).map λj=>g (m+j)) (ds.map A.c)
 |[],m,_=>trivial
 |d::ds,m,h=>by
  rw[cM,wG];refine⟨h 0 d rfl,?_⟩;have:=F2 (ds:=ds) (m:=m+1) (λj c a=>by have:=h (j+1) c (by simpa using a);rwa [show m+1+j=m+(j+1) by omega])
  simpa[Function.comp_def,kZ,j3 1] using this
theorem aM.Ry(I:cz P T){t:TypeId}{x y:Operand}(h:o.op=.indexAddr t x y){i f:TI}{E:TypeId}(hi:aQ T t=some i)(U:i.desc=.slice E)(L:aQ T E=some f)
  {q m:Nat} {j:Int} {kk:IntKind} (M:B x=.e (.one (.bp l (.sl g f.size q m)))) (K:B y=.e (.one (.c (.int kk j)))) (V:0<=j) (h1:j<m):aM P o B σ (.e (.one (.bp l (.el g f.size (q+j.toNat) 0)))) σ:=by
 refine .quiet λs J hh hr=>?_
 have p:=hr x;rw[M] at p;have h2:=hr y;rw[K] at h2
 replace h2:=eX h2
 generalize G:J y=vy at h2;cases h2;have d:=p
 change gd σ s (J x) (.bp l _) at d
 obtain⟨lv,⟨a,a0,cap,S,O,R,N,Q,A,u⟩,F,v⟩:=d;obtain⟨b,rfl,rfl⟩:=u (by omega)
 have H:=(I t i hi).run_underlying (w:=s.w);rw[U] at H;obtain⟨r,rfl⟩:∃ r:Nat,j=r:=⟨j.toNat,by omega⟩
 have z:r<m:=by omega
 refine⟨.pointer (some ⟨b,(q+r)*f.size,none⟩),?_,⟨lv,⟨b,S,A,by simp⟩,F,v⟩,?_⟩ <;>
 simp[execOp,h,O,G,Instr.indexAt,asIntOf,H,(I E f L).run_sizeOf,cO,z,eT]
theorem aM.Lz(u:cz P T){t:TypeId}{x:Operand}{f:Nat}(h:o.op=.fieldAddr t x f){p i q off:Nat}{j:TI}(w:B x=.e (.one (.bp l (.el g p i q))))(r:iz T t f=some (off,j)):aM P o B σ (.e (.one (.bp l (.el g p i (q+off))))) σ:=by
 refine .quiet λs z hh hr=>?_
 have h1:=hr x;rw[w] at h1;have a:=h1
 change gd σ s (z x) (.bp l _) at a
 obtain⟨lv,⟨b,y,c,v⟩,m,d⟩:=a;exact⟨.pointer (some ⟨b,i*p+q+off,none⟩),by simp[execOp,h,v,lk u r],⟨lv,⟨b,y,c,by rw[kZ]⟩,m,d⟩,by simp[execOp,h,v,mN u r]⟩
theorem aM.Rz{x:Operand}(h:o.op=.nilCheck x){f i q:Nat}(p:B x=.e (.one (.bp l (.el g f i q)))):aM P o B σ (.e (.one (.bp l (.el g f i q)))) σ:=by
 refine .quiet λs d hh hr=>?_
 have h1:=hr x;rw[p] at h1;have c:=h1;have a:=h1
 change gd σ s (d x) (.bp l _) at a
 obtain⟨lv,⟨b,u,m,j⟩,t,r⟩:=a;exact⟨d x,by simp[execOp,h,j],c,by simp[execOp,h,j]⟩
theorem aM.RA(I:cz P T){x:Operand}{d:Array TypeId}{t:TypeId}(h:o.op=.call { callee:=.builtin .len,args:=#[x],argTypes:=d })(y:d[0]?=some t){i:TI}{E:TypeId}(hi:aQ T t=some i)(J:i.desc=.slice E)
  {H q m:Nat} (u:B x=.e (.one (.bp l (.sl g H q m)))):aM P o B σ (.e (.one (.c (.int .i64 m)))) σ:=by
 refine .quiet λs F hh hr=>?_
 have h1:=hr x;rw[u] at h1;have b:=h1
 change gd σ s (F x) (.bp l _) at b
 obtain⟨lv,⟨a,a0,cap,L,K,j,A,r,p,v⟩,G,z⟩:=b;have f:=(I t i hi).run_underlying (w:=s.w);rw[J] at f;refine⟨.int .i64 m,?_,Rd.int (by simp only[aJ];omega),?_⟩ <;>
 simp[execOp,h,resolve,invoke,builtin,Builtin.len_,K,f,goInt,y]
theorem aM.sliceB(J:cz P T){t:TypeId}{x:Operand}{lo hi:Option Operand}(h:o.op=.slice t x lo hi none){i f:TI}{E:TypeId}(z:aQ T t=some i)(U:i.desc=.slice E)(M:aQ T E=some f){q m:Nat}{d u:Option Int}
  (N:B x=.e (.one (.bp l (.sl g f.size q m)))) (hl:rT B lo=some d) (G:rT B hi=some u) (I:aa (jc m d u)):aM P o B σ (.e (.one (.bp l (.sl g f.size (q+bT 0 d) (bT m u-bT 0 d))))) σ:=by
 refine .quiet λst ρ hh hr=>?_
 have h1:=hr x;rw[N] at h1;have p:=h1
 change gd σ st (ρ x) (.bp l _) at p
 obtain⟨lv,⟨a,a0,cap,S,K,j,O,A,y,r⟩,F,v⟩:=p;obtain⟨H,Q,R⟩:=my (P:=P) (isS:=true) j (gX hr hl) (gX hr G) I st.w;have c:=(J t i z).run_underlying (w:=st.w);rw[U] at c;refine⟨.slice (if cap=bT 0 d then a else a.map (·.add (bT 0 d*f.size))) (bT m u-bT 0 d) (cap-bT 0 d),?_,⟨lv,⟨_,a0,_,S,rfl,by omega,by omega,A,y,λL=>?_⟩,F,v⟩,by simp[execOp,h,K,Instr.sliceAt,c,Instr.slice,H,oi (P:=P) (isS:=true) j (gX hr hl) (gX hr G) I st.w]⟩
 ·simp[execOp,h,K,Instr.sliceAt,c,Instr.slice,H,(J E f M).run_sizeOf]
 ·obtain⟨b,rfl,rfl⟩:=r (by omega)
  refine⟨b,rfl,?_⟩;rw[ak (by omega)]
  simp[cO,eT]
theorem aM.yx(L:cz P T){t:TypeId}{x:Operand}(h:o.op=.load t x){i f:Nat}{G:TI}{e:E1}(S:B x=.e (.one (.bp l (.el g k i f))))(F:g=n)(hl:σ[l]?=some (.buf E k n es))(hi:aQ T t=some G)(J:lM G ((gh f (es i)).map A.c)=some e)(y:i<n):aM P o B σ (.e e) σ:=by
 refine .nA λs X hh hr=>?_
 have h1:=hr x;rw[S] at h1;obtain⟨b,c0,vs,Z,Q,N,p,U,R,W,O,Y⟩:=F1 hh hl h1 F;have hw:=O.width i y
 let g:Nat->Value:=λj=>vs.getD (i*k+j) undef
 have F:∀ j c,(gh f (es i))[j]?=some c->vs[i*k+(f+j)]?=some (g (f+j))/\Rd s.M (g (f+j)) c:=by
  intro j c hj;rw[lW,l9] at hj;obtain⟨v,v1,V⟩:=O.rd i y (f+j) c hj;have:g (f+j)=v:=by simp[g,List.getD_eq_getElem?_getD,v1]
  exact⟨by rw[this,v1],by rw[this];exact V⟩
 have I:=F2 (σ:=σ) (s:=s) (g:=g) (ds:=gh f (es i)) (m:=f) (λj c hj=>(F j c hj).2)
 have a:∀ (j:Nat) (v:Value),((List.range (gh f (es i)).length).map λj=>g (f+j))[j]?=some v->s.w.cell? ⟨b,i*k+f+j,none⟩=some v:=by
  intro j v hj;simp only[mb] at hj
  by_cases d:j<(gh f (es i)).length
  ·simp[d] at hj;subst hj;have h2:=(F j _ (ai d)).1;simp only[World.cell?,p];have u:=(aD.1 h2).1;rw[show i*k+f+j=i*k+(f+j) by omega]
   simpa[bc u] using h2
  ·simp[d] at hj
 obtain⟨v,r,H⟩:=nN (s:=s) (σ:=σ) (P:=P) (L t G hi) (b:=b) (off:=i*k+f) (e:=e) a I J;refine⟨v,by simp[execOp,h,N,Instr.loadAt,Instr.sureAddr,r],H,λK q=>?_⟩
 have z:K∈(loadVar t ⟨b,i*k+f,none⟩).events P s.w #[]:=by
  have e:execOp X o=(do pure (.value (<-loadVar t ⟨b,i*k+f,none⟩))):=by simp[execOp,h,N,Instr.loadAt,Instr.sureAddr]
  rw[e] at q;simpa[r] using q
 obtain⟨j,hj,rfl⟩:=jb (L t G hi) (n:=(gh f (es i)).length) (λj hj=>⟨_,a j (g (f+j)) (by simp[hj])⟩) (by have:=pW J;simpa using this) K z
 exact pO (aE Q) (by simp)
theorem Flat.put{M:Mem}{vs mE:List Value}{i f:Nat}{cc ci:List C}(h:Flat M k n es vs)(hi:i<n)(y:dL f cc (es i)=some ci)(hl:mE.length=cc.length)(A:∀ (j:Nat)(c:C),cc[j]?=some c->∃ v,mE[j]?=some v/\Rd M v c) :
  i*k+f+mE.length<=vs.length/\Flat M k n (mY i ci es) (vs.take (i*k+f)++mE++vs.drop (i*k+f+mE.length)):=by
 obtain⟨h1,h2⟩:=ov y;have G:=h.width i hi;have F:i*k+k<=n*k:=by
  have:=ee k (show i+1<=n by omega)
  rwa [eT,n8] at this
 have t:=h.len;have r:i*k+f+mE.length<=vs.length:=by omega
 have d:∀ p,(vs.take (i*k+f)++mE++vs.drop (i*k+f+mE.length))[p]?=if p<i*k+f then vs[p]? else if p<i*k+f+mE.length then mE[p-(i*k+f)]? else vs[p]?:=by
  intro p;have w:(vs.take (i*k+f)).length=i*k+f:=by simp;omega
  by_cases m:p<i*k+f
  ·rw[an m,di,bc (by omega),de,an m]
  ·rw[ak m]
   by_cases c2:p<i*k+f+mE.length
   ·rw[an c2,di,ck (by omega),bc (by omega),w]
   ·rw[ak c2,ck (by simp;omega),l9]
    congr 1
    simp;omega
 refine⟨r,⟨by simp;omega,λb a=>?_,λb a j c hj=>?_⟩⟩
 ·simp only[mY];split
  ·rw[h2];simp;omega
  ·exact h.width b a
 ·simp only[mY] at hj;rw[d];split at hj
  ·rename_i e
   subst e;rw[h2] at hj
   by_cases m:j<f
   ·rw[di,bc (by simp;omega),de,an m] at hj
    rw[an (by omega)]
    exact h.rd b hi j c hj
   ·by_cases c2:j<f+cc.length
    ·rw[di,ck (by simp;omega),bc (by simp;omega)] at hj
     obtain⟨v,v1,u⟩:=A _ c hj;refine⟨v,?_,u⟩;rw[ak (by omega),an (by omega),<-v1]
     congr 1
     simp;omega
    ·rw[ck (by simp;omega),l9] at hj
     rw[ak (by omega),ak (by omega)]
     refine h.rd b hi j c ?_;rw[<-hj]
     congr 1
     simp;omega
  ·rename_i e
   have z:j<k:=by have:=(aD.1 hj).1;have:=h.width b a;omega
   rcases bz b i with q|x
   ·have:(b+1)*k<=i*k:=ee k q;rw[eT,n8] at this;rw[an (by omega)]
    exact h.rd b a j c hj
   ·have:(i+1)*k<=b*k:=ee k (by omega)
    rw[eT,n8] at this;rw[ak (by omega),ak (by omega)]
    exact h.rd b a j c hj
theorem ag.dt(hh:ag σ s)(hl:σ[l]?=some (.buf E k n es)){b:Nat}{vs zs uV:List Value}{f:Nat}(q:s.β[l]?=some ⟨.slice (some ⟨b,0,none⟩) 0 f,[b]⟩)(u:(vs++zs).length=f*k)(t:n<=f)(y:f<=9223372036854775807){es':Nat->List C}(i:s.w.heap[b]?=some (.cells (vs++zs).toArray E (0,0)))(J:Flat s.M k n es' uV)(I:uV.length=vs.length)(z:∀ o,s.M b o=none) :
  ag (σ.set l (.buf E k n es')) { s with w:=s.w.setRow b (uV++zs).toArray }/\Step σ s (σ.set l (.buf E k n es')) { s with w:=s.w.setRow b (uV++zs).toArray }:=by
 have m:(s.w.setRow b (uV++zs).toArray).heap[b]?=some (.cells (uV++zs).toArray E (0,0)):=setRow_heap s.w b _ _ E _ i;have d:∀ a,a≠b->(s.w.setRow b (uV++zs).toArray).heap[a]?=s.w.heap[a]?:=λa c=>setRow_other s.w b a _ c
 have p:s.β.set l ⟨.slice (some ⟨b,0,none⟩) 0 f,[b]⟩=s.β:=by
  apply jK
  intro j
  by_cases e:l=j
  ·subst e;rw[bk (aD.1 q).1,q]
  ·rw[b6 e]
 obtain⟨F,A⟩:=hh.iv (M':=s.M) (w':=s.w.setRow b (uV++zs).toArray) (B':=.buf E k n es') (L':=⟨.slice (some ⟨b,0,none⟩) 0 f,[b]⟩) hl q ⟨λ_=>rfl,ar _⟩ (by simp[World.setRow])
  (λa c G=>d a (by rintro rfl;exact G (by simp))) (λ_ _ _ _=>rfl) (λ_ _ _ h=>h) (λa H v x=>by
   have r:a≠b:=by rintro rfl;rw[z] at x;cases x
   have:=hh.mem a H v x;rw[<-this];simp only[World.cell?];rw[d a r]) (λa c=>⟨.inl c,by have:=hh.lt _ (aE q) a c;simpa[World.setRow] using this⟩) rfl rfl rfl
  (.inr ⟨b,f,uV,zs,rfl,m,by simp only[ba] at u ⊢;omega,t,y,J,z⟩)
 rw[p] at F A;exact⟨F,A⟩
theorem qb{α:Type}:∀ {new l:List α},new.length=l.length->dL 0 new l=some new
 |[],[],_=>rfl
 |[],_::_,h=>by simp at h
 |_::_,[],h=>by simp at h
 |n::ns,c::cs,h=>by simp only[dL,qb (new:=ns) (l:=cs) (by simpa using h)]
theorem aM.Fa(W:cz P T){t:TypeId}{x y:Operand}(h:o.op=.store t x y){i f:Nat}{G:TI}{new:List A}{cc ci:List C}(hx:B x=.e (.one (.bp l (.el g k i f))))(hg:g=n)(hl:σ[l]?=some (.buf E k n es))(hi:aQ T t=some G)(hy:lF (B y)=some new)(hn:new.length=G.size)(L:fW new=some cc)(R:(es i).length=k->dL f cc (es i)=some ci)(F:i<n) :
  aM P o B σ .any (σ.set l (.buf E k n (mY i ci es))):=by
 intro s c hh hr;have h1:=hr x;rw[hx] at h1;obtain⟨b,c0,vs,q,V,X,a,O,N,Q,Y,S⟩:=F1 hh hl h1 hg;have m:=lK hy (hr y);have z:=kq L m;have K:=cW.closed z;have J:(c y).cells.toList.length=cc.length:=by have:=z.length;simpa using this
 replace R:=R (Y.width i F)
 obtain⟨q1,Z⟩:=Y.put F R J K;have u:(c y).cells.size=G.size:=by rw[<-hn,<-m.length,fU]
 obtain⟨t1,t2⟩:=hh.dt hl V O N Q a Z (by simp only[ba,List.length_take,gj];omega) S
 have p:=run_storeCells_at P b (i*k+f) E (c y).cells.toList 0 (vs++q).toArray s.w a (by simp only[mh,ba];omega) m.cell
 have H:((vs++q).toArray.toList.take (i*k+f+0)++(c y).cells.toList++(vs++q).toArray.toList.drop (i*k+f+0+(c y).cells.toList.length))=vs.take (i*k+f)++(c y).cells.toList++vs.drop (i*k+f+(c y).cells.toList.length)++q:=by
  rw[wN,gm,List.take_append_of_le_length (by omega),List.drop_append_of_le_length (by omega),di,di,di]
 rw[H] at p;refine⟨.skip,_,?_,rfl,t1,t2,?_⟩
 ·simp[execOp,h,X,Instr.storeAt,Instr.sureAddr,storeVar,(W t G hi).run_sizeOf,u,p]
 ·intro U d;have e:execOp c o=(do storeVar t ⟨b,i*k+f,none⟩ (c y);pure .skip):=by simp[execOp,h,X,Instr.storeAt,Instr.sureAddr]
  rw[e] at d;have I:U∈(storeCells ⟨b,i*k+f,none⟩ (c y).cells.toList).events P s.w #[]:=by
   simp only[storeVar,Sem.events_bind,(W t G hi).run_sizeOf,u,Result.evThen_ok,events_sizeOf,bY,en,aW,bm,bP,Sem.events_pure] at d;generalize (storeCells ⟨b,i*k+f,none⟩ (c y).cells.toList).run P s.w=r at d;cases r with
   |ok v w'=>simpa using d
   |halt x w'=>simpa using d
  rcases eh (c y).cells.toList 0 (vs++q).toArray s.w #[] a (by simp only[mh,ba];omega) m.cell U I with M|⟨j,_,_,rfl⟩
  ·simp at M
  ·exact mv (aE V) (by simp) (S _)
end
section
variable {σ:List aj}
theorem ag.zP{s:St}(hh:ag σ s){b:Nat}{vs:List Value}(g:∀ o,s.M b o=none)(h:∀ o v,vs[o]?=some v->s.w.cell? ⟨b,o,none⟩=some v) :
  ag (σ.map λ_=>.dead) { s with M:=λa o=>if a=b then vs[o]? else s.M a o }/\∀ a o v,s.M a o=some v->(if a=b then vs[o]? else s.M a o)=some v:=by
 have f:=hh.k9;refine⟨⟨λa o v c=>?_,f.len,λl B L i j=>?_,f.fe,f.lt,f.own⟩,λa o v c=>?_⟩
 ·by_cases e:a=b
  ·subst e;simp only[aX] at c;exact h o v c
  ·simp only[e,aW] at c;exact f.mem a o v c
 ·have:=aE i;simp at this;rw[<-this.2];trivial
 ·by_cases e:a=b
  ·subst e;rw[g] at c;cases c
  ·simp only[e,aW];exact c
theorem eK.yk{s:St}{M':Mem}{b:Nat}{es:Array Event}(h:eK { s with M:=M' } es){L:Loc}(n:L∈s.β)(p:b∈L.bs)(k:∀ f o v,s.M f o=some v->M' f o=some v)(j:∀ f o v,M' f o=some v->f=b∨s.M f o=some v):eK s es:=by
 intro e l;have h1:=h e l;unfold oU at h1 ⊢;split at h1
 ·obtain⟨r,q,c⟩:=h1;refine⟨r,q,?_⟩;rcases c with c|⟨c,i⟩|⟨c,v,i⟩
  ·exact .inl c
  ·refine .inr (.inl ⟨c,λg=>?_⟩)
   have:=i g
   rename_i a _
   cases m:s.M a.block a.off with
   |none=>rfl
   |some v=>have h2:=k _ _ _ m;simp only at this;rw[this] at h2;cases h2
  ·rcases j _ _ _ i with h2|h2
   ·exact .inr (.inl ⟨⟨L,n,by rw[h2];exact p⟩,λg=>by rw[c] at g;cases g⟩)
   ·exact .inr (.inr ⟨c,v,h2⟩)
 all_goals exact h1
end
def H3(k:Nat)(f:Nat->Nat->Value):Nat->List C:=λi=>(List.range k).map λj=>.val (f i j)
theorem sV{k:Nat}{f:Nat->Nat->Value}{i j:Nat}{c:C}(h:(H3 k f i)[j]?=some c):j<k/\c=.val (f i j):=by
 have a:j<k:=by
  have:=(aD.1 h).1;simpa[H3] using this
 simp[H3,a] at h;exact⟨a,h.symm⟩
theorem F3{k:Nat}{f:Nat->Nat->Value}{i j:Nat}(h:j<k):(H3 k f i)[j]?=some (.val (f i j)):=by simp[H3,h]
theorem Rd.exact{M:Mem}{v:Value}{t:Bool}{k n:Nat}{es:Nat->List C}(h:Rd M v (.sl t k n es)) :
  ∃ f:Nat->Nat->Value,Rd M v (.sl t k n (H3 k f))/\(∀ i,i<n->(es i).length=k)/\∀ i,i<n->∀ j c,(es i)[j]?=some c->Rd M (f i j) c:=by
 cases h with
 |sl b off f e s q m r p l =>
  have a:∀ i,i<n->∀ j,j<k->∃ c,(es i)[j]?=some c:=λi hi j hj=>⟨_,ai (by rw[m i hi];exact hj)⟩
  refine⟨f,.sl b off f e s q (λi _=>by simp[H3]) r (λi hi j c hj=>?_) (λi hi j c hj=>?_),m,l⟩
  ·obtain⟨h1,_⟩:=sV hj;obtain⟨g,h2⟩:=a i hi j h1;exact p i hi j g h2
  ·obtain⟨h1,rfl⟩:=sV hj;obtain⟨g,h2⟩:=a i hi j h1;exact .val (l i hi j g h2).cell
theorem xr{σ:List aj}{s:St}{l:Nat}{E:TypeId}{k n:Nat}{es:Nat->List C}{L:Loc}{a c:Option Addr}{cap:Nat}(e:σ[l]?=some (.buf E k n es))(j:s.β[l]?=some L)(p:L.v=.slice c 0 cap)(i:n<=cap)(m:cap<=9223372036854775807)
  (q:0<cap->∃ b,c=some ⟨b,0,none⟩/\a=some ⟨b,0,none⟩):gd σ s (.slice a n cap) (.bp l (.sl n k 0 n)) :=
 ⟨L.v,⟨a,c,cap,cap,rfl,i,by omega,m,p,λh=>by obtain⟨b,f,g⟩:=q h;exact⟨b,f,by simp[g]⟩⟩,(aD.1 e).1,λr k' n' es' he=>by
  rw[e] at he;cases he;exact⟨ar _,λ_=>⟨L,j,rfl⟩⟩⟩
set_option maxHeartbeats 1000000 in
theorem aM.IG{P:Program}{o:Oper}{d:Operand->D}{σ:List aj}{x y:Operand}{E:TypeId}{g:TI}(h:oH P o x y E g){l n q:Nat}{tx:Bool}{es es':Nat->List C}
  (hx:d x=.e (.one (.bp l (.sl n g.size 0 n)))) (hl:σ[l]?=some (.buf E g.size n es)) (hy:∀ s v,cd σ s v (d y)->Rd s.M v (.sl tx g.size q es')) (O:(n+q)*g.bytes<=140737488355328) :
  aM P o d σ (.e (.one (.bp l (.sl (n+q) g.size 0 (n+q))))) (σ.set l (.buf E g.size (n+q) (cj n es es'))):=by
 intro s ρ hh hr;obtain⟨t,t2,i,i2,ho,hi,hd,A,z⟩:=h.op;have K:l<σ.length:=(aD.1 hl).1;have h1:=hr x;rw[hx] at h1
 change gd σ s (ρ x) (.bp l _) at h1
 obtain⟨lv,⟨a,a0,cap,r,hv,R,Kh,S,HW,Xg⟩,_,Xh⟩:=h1;obtain⟨L,hL,H⟩:=(Xh _ _ _ _ hl).2 rfl;rw[HW] at H;have Nu:r=cap:=by omega
 subst Nu;have U:0<r->∃ b,a0=some ⟨b,0,none⟩/\a=some ⟨b,0,none⟩:=λh=>by obtain⟨b,e1,e2⟩:=Xg h;exact⟨b,e1,by simpa using e2⟩
 have h2:=hy s _ (hr y);have G:l<s.β.length:=(aD.1 hL).1;have Q:=aE hL;have V:=hh.box l _ L hl hL;rw[cu ho,hv];have row:0<r->∃ b vs zs,a=some ⟨b,0,none⟩/\L=⟨.slice (some ⟨b,0,none⟩) 0 r,[b]⟩/\s.w.heap[b]?=some (.cells (vs++zs).toArray E (0,0))/\(vs++zs).length=r*g.size/\Flat s.M g.size n es vs/\∀ o,s.M b o=none:=by
  intro N;obtain⟨b,e1,e2⟩:=U N;rcases V with⟨_,rfl⟩|⟨p,c1,vs,zs,rfl,h3,h4,h5,h6,h7,h8⟩
  ·cases H;omega
  ·rw[e1] at H;cases H;exact⟨b,vs,zs,e2,rfl,h3,h4,h7,h8⟩
 by_cases h0:q=0
 ·subst h0;have m:=jM (P:=P) (ty:=o.type) hi hd A z h.elem hh (a:=a) R h2;simp only[gm];have ha:au n es (cj n es es'):=λi hi=>by simp[cj,hi]
  have P9:dT (σ.set l (.buf E g.size n (cj n es es'))) ⟨s.β.set l L,s.M,s.w,s.own⟩ (.buf E g.size n (cj n es es')) L:=by
   rcases V with h3|⟨p,c1,vs,zs,h2,h3,h4,h5,h6,h7,h8⟩
   ·exact .inl h3
   ·exact .inr ⟨p,c1,vs,zs,h2,h3,h4,h5,h6,h7.zJ ha,h8⟩
  have CQ:=hh.iv (M':=s.M) (w':=s.w) (B':=.buf E g.size n (cj n es es')) (L':=L) hl hL ⟨λ_=>rfl,ar _⟩ (ar _) (λ_ _ _=>rfl) (λ_ _ _ _=>rfl) (λ_ _ _ h=>h) hh.mem
   (λb O=>⟨.inl O,hh.lt L Q b O⟩) rfl rfl rfl P9
  refine⟨.value (.slice a n r),_,?_,?_,CQ.1,CQ.2,dW (kz hi hd A z h.elem hh R h2)⟩
  ·simp[m]
  ·exact xr (E:=E) (by rw[bk K]) (by simp only;rw[bk G]) H R S U
 ·by_cases k:n+q<=r
  ·obtain⟨b,vs,zs,rfl,rfl,hw,u,hF,hM⟩:=row (by omega)
   obtain⟨f,Ld,m⟩:=iZ (P:=P) (ty:=o.type) hi hd A z h.elem hh hw u h2 k;have Kg:vs.length=n*g.size:=hF.len;have Qa:f.length=q*g.size:=Ld.len;have T6:n*g.size+q*g.size<=r*g.size:=by rw[<-eT];exact ee _ k
   have X:((vs++zs).take (n*g.size)++f++(vs++zs).drop (n*g.size+f.length))=(vs++f)++zs.drop f.length:=by
    rw[<-Kg];simp[sx]
   rw[X] at m;have Ll:=setRow_heap s.w b _ ((vs++f)++zs.drop f.length).toArray E _ hw;have W:∀ p,p≠b->(s.w.setRow b ((vs++f)++zs.drop f.length).toArray).heap[p]?=s.w.heap[p]?:=λp J=>setRow_other s.w b p _ J
   obtain⟨t1,Y⟩:=hh.iv (M':=s.M) (w':=s.w.setRow b ((vs++f)++zs.drop f.length).toArray) (B':=.buf E g.size (n+q) (cj n es es')) (L':=⟨.slice (some ⟨b,0,none⟩) 0 r,[b]⟩) hl hL ⟨λ_=>rfl,by omega⟩ (by simp[World.setRow])
    (λp J hn=>W p (by rintro rfl;exact hn (by simp))) (λ_ _ _ _=>rfl) (λ_ _ _ h=>h) (λp o' v Sq=>by
     have qA:p≠b:=by intro e;rw[e,hM] at Sq;cases Sq
     have:=hh.mem p o' v Sq;rw[<-this];simp only[World.cell?];rw[W p qA]) (λp J=>⟨.inl J,by have:=hh.lt _ Q p J;simpa[World.setRow] using this⟩) rfl rfl rfl
    (.inr ⟨b,r,vs++f,zs.drop f.length,rfl,Ll,by simp only[ba,gj] at u ⊢;omega,k,S,hF.append Ld,hM⟩)
   refine⟨.value (.slice (some ⟨b,0,none⟩) (n+q) r),_,?_,?_,t1,Y,dW (kA hi hd A z h.elem hh hw u h2 k Q (by simp) (λo _=>hM o))⟩
   ·simp[m]
   ·exact xr (E:=E) (by rw[bk K]) (by simp only;rw[bk G]) rfl k S λ_=>⟨b,rfl,rfl⟩
  ·have hg:r<n+q:=by omega
   obtain⟨f2,Xi,LN,qe⟩:=h2.exact;have fa:∃ (M':Mem) (f0:Nat->Nat->Value),ag (σ.map λ_=>.dead) { s with M:=M' }/\(∀ p o v,s.M p o=some v->M' p o=some v)/\Rd M' (.slice a n r) (.sl false g.size n (H3 g.size f0))/\(∀ {es},eK { s with M:=M' } es->eK s es) /\
     (∀ i,i<n->(es i).length=g.size)/\∀ i,i<n->∀ j c,(es i)[j]?=some c->Rd s.M (f0 i j) c:=by
    by_cases N:0<r
    ·obtain⟨b,vs,zs,rfl,rfl,hw,u,hF,hM⟩:=row N;obtain⟨c1,c2⟩:=hh.zP (b:=b) (vs:=vs) hM (λo v ho=>by
      simp only[World.cell?,hw];have:o<vs.length:=(aD.1 ho).1;simpa[bc this] using ho)
     have F:∀ i,i<n->∀ j c,(es i)[j]?=some c->vs[i*g.size+j]?=some (vs.getD (i*g.size+j) undef)/\Rd s.M (vs.getD (i*g.size+j) undef) c:=by
      intro i hi j c hj;obtain⟨v,v1,v2⟩:=hF.rd i hi j c hj;have e:vs.getD (i*g.size+j) undef=v:=by simp[List.getD_eq_getElem?_getD,v1]
      exact⟨by rw[e,v1],by rw[e];exact v2⟩
     have OU:∀ i,i<n->∀ j,j<g.size->∃ c,(es i)[j]?=some c:=λi hi j hj=>⟨_,ai (by rw[hF.width i hi];exact hj)⟩
     refine⟨_,λi j=>vs.getD (i*g.size+j) undef,c1,c2,.sl b 0 (λi j=>vs.getD (i*g.size+j) undef) R S (by simp) (λi _=>by simp[H3]) (λ_=>rfl) (λi hi j c hj=>?_) (λi hi j c hj=>?_),λhe=>?_,hF.width,λi hi j c hj=>(F i hi j c hj).2⟩
     ·obtain⟨e1,_⟩:=sV hj;obtain⟨c',e2⟩:=OU i hi j e1;simp only[aw,aX];exact(F i hi j c' e2).1
     ·obtain⟨e1,rfl⟩:=sV hj;obtain⟨c',e2⟩:=OU i hi j e1;exact .val (F i hi j c' e2).2.cell
     ·exact he.yk (b:=b) Q (by simp) c2 λp o v hv=>by
       by_cases e:p=b
       ·exact .inl e
       ·simp only[e,aW] at hv;exact .inr hv
    ·have e1:r=0:=by omega
     have e2:n=0:=by omega
     subst e1 e2;have B:=hh.k9;exact⟨s.M,λ_ _=>undef,⟨B.mem,B.len,B.box,B.fe,B.lt,B.own⟩,λ_ _ _ h=>h,Rd.jv,λh=>h,λi hi=>by omega,λi hi=>by omega⟩
   obtain⟨M',f0,c1,c2,hR,N7,Q0,Xj⟩:=fa;have UX:Rd ({ s with M:=M' }:St).M (ρ y) (.sl tx g.size q (H3 g.size f2)):=Xi.mono c2;obtain⟨uV,zs,I,Z,Nr,Ns,hlen,m⟩:=gn (P:=P) (s:={ s with M:=M' }) (ty:=o.type) hi hd A z h.elem c1 hR UX hg O h.bytes;have NZ:=gM (P:=P) (s:={ s with M:=M' }) (ty:=o.type) hi hd A z h.elem c1 hR UX hg O h.bytes;have Xk:Flat s.M g.size (n+q) (cj n es es') uV:=by
    refine⟨Z.len,λi hi=>?_,λi hi j c hj=>?_⟩
    ·by_cases e:i<n
     ·simp only[cj,e,aX];exact Q0 i e
     ·simp only[cj,e,aW];exact LN _ (by omega)
    ·by_cases e:i<n
     ·simp only[cj,e,aX] at hj;have Od:j<g.size:=by have:=(aD.1 hj).1;rw[Q0 i e] at this;exact this
      obtain⟨v,v1,v2⟩:=Z.rd i hi j (.val (f0 i j)) (by simp only[cj,e,aX];exact F3 Od)
      rw[Rd.fD v2] at v1;exact⟨_,v1,Xj i e j c hj⟩
     ·simp only[cj,e,aW] at hj;have Od:j<g.size:=by have:=(aD.1 hj).1;rw[LN _ (by omega)] at this;exact this
      obtain⟨v,v1,v2⟩:=Z.rd i hi j (.val (f2 (i-n) j)) (by simp only[cj,e,aW];exact F3 Od)
      rw[Rd.fD v2] at v1;exact⟨_,v1,qe _ (by omega) j c hj⟩
   have nM:∀ o,s.M s.w.heap.size o=none:=λo=>by
    cases hm:s.M s.w.heap.size o with
    |none=>rfl
    |some v=>have:=hh.block hm;omega
   obtain⟨t1,Y⟩:=hh.iv (M':=s.M) (w':=s.w.drew.alloc (.cells (uV++zs).toArray E)) (B':=.buf E g.size (n+q) (cj n es es')) (L':=⟨.slice (some ⟨s.w.heap.size,0,none⟩) 0 I,[s.w.heap.size]⟩) hl hL
    ⟨λe=>absurd e (by omega),by omega⟩ (by simp) (λb O _=>b7 s.w.drew _ O) (λ_ _ _ _=>rfl) (λ_ _ _ h=>h) (λb o v hm=>by
     have oV:=hh.block hm;rw[<-hh.mem b o v hm];simp only[World.cell?];rw[b7 s.w.drew _ oV];rfl) (λb O=>by
     simp at O;subst O;exact⟨.inr (ar _),by simp⟩) rfl rfl rfl (.inr ⟨s.w.heap.size,I,uV,zs,rfl,cU s.w.drew _,hlen,Nr,Ns,Xk,nM⟩)
   refine⟨.value (.slice (some ⟨s.w.heap.size,0,none⟩) (n+q) I),_,?_,?_,t1,Y,dW (N7 NZ)⟩
   ·simp only at m;simp[m]
   ·exact xr (E:=E) (by rw[bk K]) (by simp only;rw[bk G]) rfl Nr Ns λ_=>⟨_,rfl,rfl⟩
section
variable {P:Program}{T:List (Nat×TI)}{o:Oper}{d:Operand->D}{σ:List aj}
theorem aM.RB(k:cz P T){x:Operand}{b:Array TypeId}{t:TypeId}(h:o.op=.call { callee:=.builtin .len,args:=#[x],argTypes:=b })(j:b[0]?=some t){i:TI}{E:TypeId}(hi:aQ T t=some i)(l:i.desc=.slice E)
  {a:Option Addr} {n cap:Nat} (g:d x=.e (.one (.c (.val (.slice a n cap))))) (p:n<=9223372036854775807):aM P o d σ (.e (.one (.c (.int .i64 n)))) σ:=by
 refine .quiet λs q hh hr=>?_
 have h1:=hr x;rw[g] at h1;have m:=Rd.fD (eX h1);have f:=(k t i hi).run_underlying (w:=s.w);rw[l] at f;refine⟨.int .i64 n,?_,Rd.int (by simp only[aJ];omega),?_⟩ <;>
 simp[execOp,h,resolve,invoke,builtin,Builtin.len_,m,f,goInt,j]
theorem aM.yw(p:cz P T){t:TypeId}{x y:Operand}(h:o.op=.indexAddr t x y){i g:TI}{E:TypeId}(hi:aQ T t=some i)(z:i.desc=.slice E)(q:aQ T E=some g)
  {b off n cap:Nat} {j:Int} {kk:IntKind} (r:d x=.e (.one (.c (.val (.slice (some ⟨b,off,none⟩) n cap))))) (u:d y=.e (.one (.c (.int kk j)))) (B:0<=j) (h1:j<n):aM P o d σ (.e (.one (.c (.val (.pointer (some ⟨b,off+j.toNat*g.size,none⟩)))))) σ:=by
 refine .quiet λs v hh hr=>?_
 have a:=hr x;rw[r] at a;have A:=Rd.fD (eX a);have h2:=hr y;rw[u] at h2
 replace h2:=eX h2
 generalize k:v y=vy at h2;cases h2;have m:=(p t i hi).run_underlying (w:=s.w);rw[z] at m;obtain⟨f,rfl⟩:∃ f:Nat,j=f:=⟨j.toNat,by omega⟩
 have l:f<n:=by omega
 refine⟨.pointer (some ⟨b,off+f*g.size,none⟩),?_,Rd.val rfl,?_⟩ <;>
 simp[execOp,h,A,k,Instr.indexAt,asIntOf,m,(p E g q).run_sizeOf,cO,l]
theorem aM.LA(g:cz P T){t:TypeId}{x:Operand}{f:Nat}(h:o.op=.fieldAddr t x f){b off k:Nat}{j:TI}(l:d x=.e (.one (.c (.val (.pointer (some ⟨b,off,none⟩))))))(a:iz T t f=some (k,j)):aM P o d σ (.e (.one (.c (.val (.pointer (some ⟨b,off+k,none⟩)))))) σ:=by
 refine .quiet λs m hh hr=>?_
 have h1:=hr x;rw[l] at h1;have i:=Rd.fD (eX h1);exact⟨.pointer (some ⟨b,off+k,none⟩),by simp[execOp,h,i,lk g a],Rd.val rfl,by simp[execOp,h,i,mN g a]⟩
theorem aM.slice3(L:cz P T){t:TypeId}{x y z:Operand}(h:o.op=.slice t x none (some y) (some z)){i K:TI}{E:TypeId}(G:aQ T t=some i)(Y:i.desc=.slice E)(S:aQ T E=some K){tt:Bool}{k n:Nat}{es:Nat->List C}{r u:IntKind}{j m:Int}
  (V:∀ s v,cd σ s v (d x)->Rd s.M v (.sl tt k n es)) (O:d y=.e (.one (.c (.int r j)))) (W:d z=.e (.one (.c (.int u m)))) (F:0<=j) (h1:j<=m) (h2:m<=n):aM P o d σ (.e (.one (.c (.sl false k j.toNat es)))) σ:=by
 refine .quiet λst ρ hh hr=>?_
 have q:=V st _ (hr x);have l:=hr y;rw[O] at l
 replace l:=eX l
 generalize B:ρ y=vy at l;cases l;have p:=hr z;rw[W] at p
 replace p:=eX p
 generalize A:ρ z=vz at p;cases p;obtain⟨a,cap,vs,H,J,R,ht,hF,Z⟩:=q.flat;rw[H] at q;have g:=(L t i G).run_underlying (w:=st.w);rw[Y] at g;have em:((m.toNat:Nat):Int)=m:=wO (by omega)
 have I:(Instr.sliceBounds true n cap none (some (.int r j)) (some (.int u m))).run P st.w=.ok (0,j.toNat,m.toNat) st.w:=by
  simp[Instr.sliceBounds,run_sliceBound (P:=P) st.w u m cap _ (by omega) (by omega),run_sliceBound (P:=P) st.w r j m.toNat _ F (by omega)]
 have Q:(Instr.sliceBounds true n cap none (some (.int r j)) (some (.int u m))).events P st.w #[]=#[]:=by
  simp[Instr.sliceBounds,run_sliceBound (P:=P) st.w u m cap _ (by omega) (by omega),run_sliceBound (P:=P) st.w r j m.toNat _ F (by omega),fT (P:=P) st.w u m cap _ (by omega) (by omega),fT (P:=P) st.w r j m.toNat _ F (by omega)]
 refine⟨.slice a j.toNat m.toNat,?_,?_,by simp[execOp,h,H,B,A,Instr.sliceAt,g,Instr.slice,I,Q]⟩
 ·simp[execOp,h,H,B,A,Instr.sliceAt,g,Instr.slice,I,(L E K S).run_sizeOf];intro _;rcases a with _|⟨b,off,sp⟩ <;> simp[Addr.add]
 ·cases q with
  |sl b off f _ _ _ X U hm' LK =>
   exact Rd.sl b off f (by omega) (by omega) (by simp) (λi hi=>X i (by omega)) (λN=>U (by omega)) (λi hi j c hj=>hm' i (by omega) j c hj) (λi hi j c hj=>LK i (by omega) j c hj)
end
structure vu (N:Nat)(σ:List aj)(s:St)(V:Nat->D)(a:Act):Prop where
 size:a.tmps.size=N
 defers:∃ ls,lG σ s a.defers ls
 slot:∀ t,cd σ s (a.tmps.getD t undef) (V t)
theorem vu.yt{N:Nat}{σ:List aj}{s:St}{V:Nat->D}{φ:Fr}{a:Act}(f:vu N σ s V a)(h:∀ t σ s v,cd σ s v (V t)->cd σ s v (look φ t)):bg N σ s φ a :=
 ⟨f.size,f.defers,λt=>h t _ _ _ (f.slot t)⟩
def bd(e:Edge):Bool:=Region.binds .any e
structure tp {P:Program}(X:Cx P)(N:Nat)(ops:Array Oper)(φ:Fr)(S:Nat->List aj)(x:Nat->D)(p:Nat->Fr)(free c:Nat->Bool)(q:Nat->Nat->Prop)(idx:Nat->Option Nat)(m:Fr):Prop where
 nc:P.follows Departure.mixedOrders=true
 back:∀ i o,ops[i]?=some o->∀ e∈o.after,bd e=true->e.on<i
 nd:∀ i o d,ops[i]?=some o->o.dst=some d->idx d=some i/\d<N
 jN:∀ d i,idx d=some i->∃ o,ops[i]?=some o/\o.dst=some d
 quiet:∀ i,c i=false->S (i+1)=S i
 one:∀ i o,ops[i]?=some o->free i=false->OA X N ops.toList o (p i) (S i) (x i) (S (i+1))
 all:∀ i o,ops[i]?=some o->free i=true->c i=false/\∀ k,OA X N ops.toList o (p i) (S k) (x i) (S k)
 cl:∀ L:Nat->Prop,(∀ i o,ops[i]?=some o->L i->∀ e∈o.after,bd e=true->L e.on)->∀ i j,q i j->(L i->L j)/\∃ o,ops[i]?=some o/\((∀ e∈o.after,bd e=true->L e.on)->L j)
 comp:∀ i f,i<ops.size->f<ops.size->c f=true->i≠f->free i=false->(f<i/\q i f)∨(i<f/\q f i)
 zX:∀ i o,ops[i]?=some o->∀ t σ s v,cd σ s v (match idx t with|some j=>(if ∃ e∈o.after,bd e=true/\e.on=j then x j else if ∃ oj,ops[j]?=some oj/\∃ e∈oj.after,bd e=true/\e.on=i then look φ t else .any)|none=>look φ t)->cd σ s v (look (p i) t)
 fin:∀ t σ s v,cd σ s v (match idx t with|some j=>x j|none=>look φ t)->cd σ s v (look m t)
open Classical in
noncomputable def cX(φ:Fr)(x:Nat->D)(idx:Nat->Option Nat)(L:Array Bool)(t:Nat):D :=
 match idx t with
 |some j=>if L.getD j false=true then x j else look φ t
 |none=>look φ t
theorem mem_ready{ops:Array Oper}{L:Array Bool}{i:Nat}:i∈Region.ready .any ops L↔∃ o,ops[i]?=some o/\L.getD i true=false/\∀ e∈o.after,bd e=true->L.getD e.on false=true:=by
 unfold Region.ready;simp only[mm,n5,bq,jL]
 constructor
 ·rintro⟨a,j,b⟩;rw[bw a] at b;simp only[gk,cK,Array.all_eq_true',kv,jL] at b;refine⟨ops[i],bw a,j,λe f d=>?_⟩
  rcases b e f with h|h
  ·unfold bd at d;rw[d] at h;cases h
  ·exact h
 ·rintro⟨o,a,j,b⟩;have g:i<ops.size:=(dE.1 a).1;refine⟨g,j,?_⟩;rw[a];simp only[gk,cK,Array.all_eq_true',kv,jL];intro e f;cases d:Region.binds .any e with
  |false=>exact .inl rfl
  |true=>exact .inr (b e f d)
section
variable {P:Program}{X:Cx P}{N:Nat}{ops:Array Oper}{φ m:Fr}{S:Nat->List aj}{x:Nat->D}{p:Nat->Fr}{free c:Nat->Bool}{q:Nat->Nat->Prop}{idx:Nat->Option Nat}
theorem tp.chain(h:tp X N ops φ S x p free c q idx m){i:Nat}:∀ {k:Nat},i<=k->(∀ g,i<=g->g<k->c g=false)->S k=S i
 |0,b,_=>by rw[show i=0 by omega]
 |k+1,b,a=>by
  rcases bz k i with hl|hl
  ·rw[show i=k+1 by omega]
  ·rw[h.quiet k (a k hl (by omega)),h.chain (k:=k) hl (λg h1 h2=>a g h1 (by omega))]
theorem tp.last(h:tp X N ops φ S x p free c q idx m){L:Array Bool}(b:∀ i,i<ops.size->L.getD i false=true){k:Nat}{s0 s:St}{a:Act}(u:k<=ops.size)
  (l:∀ f,f<ops.size->c f=true->(L.getD f false=true↔f<k)) (d:vu N (S k) s (cX φ x idx L) a) (hh:ag (S k) s) (st:bo (S 0) s0 (S k) s) :
  bg N (S ops.size) s m a/\ag (S ops.size) s/\bo (S 0) s0 (S ops.size) s:=by
 have n:S ops.size=S k:=h.chain u (λg h1 h2=>by
  cases r:c g with
  |false=>rfl
  |true=>have:=(l g h2 r).1 (b g h2);omega)
 rw[<-n] at d hh st;refine⟨d.yt λt σ s v e=>h.fin t σ s v ?_,hh,st⟩
 unfold cX at e;cases hi:idx t with
 |none=>simpa[hi] using e
 |some j =>
  simp only[hi] at e ⊢;obtain⟨o,w,_⟩:=h.jN _ _ hi;rw[an (b j (dE.1 w).1)] at e;exact e
theorem bh{L:Array Bool}{i j:Nat}(hi:i<L.size):(L.setIfInBounds i true).getD j false=true↔j=i∨L.getD j false=true:=by
 simp only[bM]
 by_cases e:i=j
 ·subst e;rw[l6 hi];simp
 ·rw[kr e]
  constructor
  ·exact .inr
  ·rintro(rfl|h)
   ·exact absurd rfl e
   ·exact h
theorem count_set:∀ {l:List Bool}{i:Nat},l[i]?=some false->((l.set i true).filter (λb=>!b)).length+1=(l.filter (λb=>!b)).length
 |[],_,h=>by simp at h
 |b::r,0,h=>by simp at h;subst h;simp
 |b::r,i+1,h=>by
  simp at h;have:=count_set (l:=r) h;cases b <;> simp[List.set_cons_succ] <;> omega
theorem nE(t:Nat)(L:Array Bool):Region.linearise.go .any ops 0 t L []=[]:=by simp[Region.linearise.go]
theorem fQ(n t:Nat)(L:Array Bool):Region.linearise.go .any ops (n+1) t L []=match (Region.ready .any ops L)[t % (Region.ready .any ops L).length]? with
  |some i=>i::Region.linearise.go .any ops n (t / (Region.ready .any ops L).length) (L.setIfInBounds i true) []
  |none=>[]:=by
 simp only[Region.linearise.go]
 change (match (Region.ready .any ops L)[t % (Region.ready .any ops L).length]? with
   |some i=>Region.linearise.go .any ops n (t / (Region.ready .any ops L).length) (L.setIfInBounds i true) [i]
   |none=>[].reverse)=_
 cases (Region.ready .any ops L)[t % (Region.ready .any ops L).length]? with
 |none=>rfl
 |some i=>simp only[];rw[linearise_go_acc,List.reverse_singleton,wI]
theorem tp.arr(h:tp X N ops φ S x p free c q idx m){SS:Goroutine->St->Prop}{b:Frame}{kk:List Item}{cs:List Frame}(H:b.kind≠.early){s0:St}
  (hQ:∀ s a,bg N (S ops.size) s m a->ag (S ops.size) s->bo (S 0) s0 (S ops.size) s->dn X SS (G (b.aT a kk) cs) s) :
  ∀ (fuel:Nat) (L:Array Bool),L.size=ops.size->(L.toList.filter (λb=>!b)).length<=fuel ->
   (∀ i o,ops[i]?=some o->L.getD i false=true->∀ e∈o.after,bd e=true->L.getD e.on false=true) ->
   ∀ (k:Nat) (s:St) (a:Act),k<=ops.size->(∀ f,f<ops.size->c f=true->(L.getD f false=true↔f<k))->vu N (S k) s (cX φ x idx L) a->ag (S k) s->bo (S 0) s0 (S k) s ->
   ∀ t,dn X SS (G (b.aT a (.inRegion ops (Region.linearise.go .any ops fuel t L [])::kk)) cs) s:=by
 have fin:∀ (s:St) (a:Act),bg N (S ops.size) s m a->ag (S ops.size) s->bo (S 0) s0 (S ops.size) s->dn X SS (G (b.aT a (.inRegion ops []::kk)) cs) s :=
  λs a a1 a2 a3=>.ctl a2 rfl (λ_=>ei) λs1 zG=>hQ s1 a (a1.rely zG a2) (a2.rely zG) (a3.trans zG.stepW)
 intro fuel
 induction fuel with
 |zero =>
  intro L hs hf Y k s a hk E n hh st;have V:∀ i,i<ops.size->L.getD i false=true:=by
   intro i hi;have hm:L[i]'(by omega)∈L.toList:=by simp
   cases H:L[i]'(by omega) with
   |true=>simp[bM,bw (by omega:i<L.size),H]
   |false =>
    have:L[i]'(by omega)∈L.toList.filter (λb=>!b):=mm.2 ⟨hm,by simp[H]⟩
    have:=sc this;omega
  intro t;rw[nE];obtain⟨a1,a2,a3⟩:=h.last V hk E n hh st;exact fin s a a1 a2 a3
 |succ fuel ih =>
  intro L hs hf Y k s a hk E n hh st;intro t;rw[fQ];cases I:(Region.ready .any ops L)[t % (Region.ready .any ops L).length]? with
  |none =>
   have hr:Region.ready .any ops L=[]:=by
    cases hr:Region.ready .any ops L with
    |nil=>rfl
    |cons y ys =>
     rw[hr] at I;have U:t % (y::ys).length<(y::ys).length:=gU _ (by simp)
     simp at I;simp at U;omega
   have V:∀ i,i<ops.size->L.getD i false=true:=by
    intro i
    induction i using Nat.strongRecOn with
    |_ i Q7 =>
     intro hi;cases H:L.getD i false with
     |true=>rfl
     |false =>
      have hm:i∈Region.ready .any ops L:=mem_ready.2 ⟨ops[i],bw hi,by
       simpa[bM,bw (by omega:i<L.size)] using H,λe A We=>by
       have:=h.back i _ (bw hi) e A We;exact Q7 _ this (by omega)⟩
      rw[hr] at hm;simp at hm
   obtain⟨a1,a2,a3⟩:=h.last V hk E n hh st;exact fin s a a1 a2 a3
  |some i =>
   have hi:=aE I;obtain⟨o,W,Un,K⟩:=mem_ready.1 hi;have U:i<ops.size:=(dE.1 W).1;have C:¬L.getD i false=true:=by
    simp only[bM,bw (by omega:i<L.size),cK] at Un ⊢
    simp[Un]
   have Of:=h.cl (λj=>L.getD j false=true) Y
   have R:∀ g,q g i->¬L.getD g false=true:=λg hg hL=>C ((Of g i hg).1 hL)
   have Uo:∀ g,q i g->L.getD g false=true:=λg hg=>by
    obtain⟨_,o',F,hq⟩:=Of i g hg;rw[W] at F;cases F;exact hq K
   have Z:(L.setIfInBounds i true).size=ops.size:=by simp[hs]
   have Lp:((L.setIfInBounds i true).toList.filter (λb=>!b)).length<=fuel:=by
    have h1:L.toList[i]?=some false:=by
     rw[kt,bw (by omega:i<L.size)]
     simpa[bM,bw (by omega:i<L.size)] using C
    have:=count_set h1;rw[ly];omega
   have Q8:∀ j o',ops[j]?=some o'->(L.setIfInBounds i true).getD j false=true->∀ e∈o'.after,bd e=true->(L.setIfInBounds i true).getD e.on false=true:=by
    intro j o' F hj e A H;rw[bh (by omega)] at hj ⊢
    rcases hj with rfl|hj
    ·rw[W] at F;cases F;exact .inr (K e A H)
    ·exact .inr (Y j o' F hj e A H)
   have Q9:bg N (S k) s (p i) a:=n.yt λt σ s v T=>h.zX i o W t σ s v (by
    unfold cX at T;cases u:idx t with
    |none=>simpa[u] using T
    |some j =>
     simp only[u] at T ⊢;split
     ·rename_i hex
      obtain⟨e,A,H,rfl⟩:=hex;rw[an (K e A H)] at T;exact T
     ·split
      ·rename_i hex
       obtain⟨oj,z,e,A,H,heq⟩:=hex;have Qd:¬L.getD j false=true:=λhL=>C (by have:=Y j oj z hL e A H;rwa [heq] at this)
       rw[ak Qd] at T;exact T
      ·trivial)
   have BE:∀ (σ':List aj) (s':St) (v:Value),bo (S k) s σ' s'->cd σ' s' v (x i)->vu N σ' s' (cX φ x idx (L.setIfInBounds i true)) (a.put o.dst v):=by
    intro σ' s' v w T;cases hd:o.dst with
    |none =>
     refine⟨n.size,n.defers.imp λ_ h1=>h1.mono w.ext,λt=>?_⟩
     have r:=(n.slot t).mono w.ext hh.len;simp only[Act.put];unfold cX at r ⊢;cases u:idx t with
     |none=>simpa[u] using r
     |some j =>
      simp only[u] at r ⊢;obtain⟨oj,z,O⟩:=h.jN _ _ u;have qA:j≠i:=by rintro rfl;rw[W] at z;cases z;rw[hd] at O;cases O
      have:((L.setIfInBounds i true).getD j false=true)↔L.getD j false=true:=by rw[bh (by omega)];simp[qA]
      simp only[this];exact r
    |some d =>
     obtain⟨Ra,Rb⟩:=h.nd i o d W hd;refine⟨by simp[Act.put,n.size],n.defers.imp λ_ h1=>h1.mono w.ext,λt=>?_⟩
     simp only[Act.put]
     by_cases e:d=t
     ·subst e;have Rc:d<a.tmps.size:=by rw[n.size];exact Rb
      simp only[bM,l6 Rc,cK];unfold cX;simp only[Ra];rw[an ((bh (by omega)).2 (.inl rfl))]
      exact T
     ·have r:=(n.slot t).mono w.ext hh.len;simp only[bM] at r ⊢;rw[kr e];unfold cX at r ⊢;cases u:idx t with
      |none=>simpa[u] using r
      |some j =>
       simp only[u] at r ⊢;obtain⟨oj,z,O⟩:=h.jN _ _ u;have qA:j≠i:=by rintro rfl;rw[W] at z;cases z;rw[hd] at O;cases O;exact e rfl
       have:((L.setIfInBounds i true).getD j false=true)↔L.getD j false=true:=by rw[bh (by omega)];simp[qA]
       simp only[this];exact r
   have M:∀ (k':Nat),k'<=ops.size->OA X N ops.toList o (p i) (S k) (x i) (S k')->(∀ f,f<ops.size->c f=true->((L.setIfInBounds i true).getD f false=true↔f<k')) ->
     dn X SS (G (b.aT a (.inRegion ops (i::Region.linearise.go .any ops fuel (t / (Region.ready .any ops L).length) (L.setIfInBounds i true) [])::kk)) cs) s:=by
    intro k' Nw Wf Re;have:=Wf s a Q9 hh b kk cs SS i (Region.linearise.go .any ops fuel (t / (Region.ready .any ops L).length) (L.setIfInBounds i true) []) H (by simpa using W)
    simp only[gi] at this;exact this λv s' T ia w=>ih _ Z Lp Q8 k' s' _ Nw Re (BE _ _ _ w T) ia (st.trans w) _
   have same:c i=false->∀ f,f<ops.size->c f=true->((L.setIfInBounds i true).getD f false=true↔f<k):=by
    intro hq f HX J;rw[bh (by omega),<-E f HX J]
    constructor
    ·rintro(rfl|h1)
     ·rw[hq] at J;cases J
     ·exact h1
    ·exact .inr
   cases l:free i with
   |true =>
    obtain⟨hq,Rf⟩:=h.all i o W l;exact M k hk (Rf k) (same hq)
   |false =>
    have B:=h.one i o W l;have Og:S i=S k:=by
     rcases Nat.le_total k i with hle|hle
     ·refine h.chain hle λg h1 h2=>?_
      cases A:c g with
      |false=>rfl
      |true =>
       exfalso;rcases h.comp i g U (by omega) A (by omega) l with⟨_,hc⟩|⟨hc,_⟩
       ·have:=(E g (by omega) A).1 (Uo g hc);omega
       ·omega
     ·refine(h.chain hle λg h1 h2=>?_).symm
      cases A:c g with
      |false=>rfl
      |true =>
       exfalso;have Up:=(E g (by omega) A).2 h2
       by_cases Kn:g=i
       ·subst Kn;exact C Up
       ·rcases h.comp i g U (by omega) A (λe=>Kn e.symm) l with⟨hc,_⟩|⟨_,hc⟩
        ·omega
        ·exact R g hc Up
    rw[Og] at B;cases Oh:c i with
    |false =>
     rw[h.quiet i Oh,Og] at B;exact M k hk B (same Oh)
    |true =>
     refine M (i+1) (by omega) B λf HX J=>?_
     rw[bh (by omega)]
     by_cases Q:f=i
     ·subst Q;simp
     ·simp only[Q,false_or];rcases h.comp i f U HX J (λe=>Q e.symm) l with⟨h1,hc⟩|⟨h1,hc⟩
      ·exact⟨λ_=>by omega,λ_=>Uo f hc⟩
      ·exact⟨λhL=>absurd hL (R f hc),λh2=>by omega⟩
end
end Go.AM
namespace Go.AM
def ye(op:BinOp)(k:IntKind) (a:Int)(k':IntKind) (b:Int):Option (Int×List Prop) :=
 match k with
 |.u64=>match op with
  |.shl=>some (((a.toNat*2 ^ b.toNat % 18446744073709551616:Nat):Int),[0<=b,b<=64])
  |.shr=>some (((a.toNat / 2 ^ b.toNat:Nat):Int),[0<=b,b<=64])
  |.and=>match k' with|.u64=>some (((a.toNat &&& b.toNat:Nat):Int),[])|_=>none
  |.xor=>match k' with|.u64=>some (((a.toNat ^^^ b.toNat:Nat):Int),[])|_=>none
  |_=>none
 |_=>none
section
variable {P:Program}{T:List (Nat×TI)}{o:Oper}{d:Operand->D}{σ:List aj}
theorem bits_nat{a:Int}(h:aJ .u64 a):(BitVec.ofInt IntKind.u64.bits a).toNat=a.toNat:=by
 rw[BitVec.toNat_ofInt];simp only[aJ] at h;simp only[IntKind.bits];omega
theorem CC{op:BinOp}{k k':IntKind}{a b c:Int}{obs:List Prop}(t:TypeId)(f:ye op k a k' b=some (c,obs))(s:aa obs)(h:aJ k a)(m:aJ k' b)(w:World) :
  aJ k c/\(Go.binOp op t (.int k a) (.int k' b)).run P w=.ok (.int k c) w/\(Go.binOp op t (.int k a) (.int k' b)).events P w #[]=#[]:=by
 unfold ye at f;split at f
 ·split at f
  ·cases f;obtain⟨u,r⟩:0<=b/\b<=64:=s;have v:a.toNat*2 ^ b.toNat % 18446744073709551616<18446744073709551616:=gU _ (by decide)
   simp only[aJ] at h;refine⟨by simp only[aJ];omega,?_⟩
   have p:IntKind.wrap .u64 (a*2 ^ (min b.toNat IntKind.u64.bits))=((a.toNat*2 ^ b.toNat % 18446744073709551616:Nat):Int):=by
    have i:min b.toNat IntKind.u64.bits=b.toNat:=by rw[show IntKind.u64.bits=64 from rfl];omega
    have j:a=(a.toNat:Int):=by omega
    rw[i,j];simp only[IntKind.wrap,IntKind.bits,IntKind.signed,aF];have n:((a.toNat:Int)*2 ^ b.toNat)=((a.toNat*2 ^ b.toNat:Nat):Int):=by push_cast;rfl
    rw[n];simp
   simp only[Go.binOp,Op.shift,ak (show ¬b<0 by omega),p]
   exact⟨rfl,rfl⟩
  ·cases f;obtain⟨u,r⟩:0<=b/\b<=64:=s;simp only[aJ] at h;have l:a.toNat / 2 ^ b.toNat<=a.toNat:=Nat.div_le_self _ _;refine⟨by simp only[aJ];generalize a.toNat / 2 ^ b.toNat=q at l ⊢;omega,?_⟩
   have p:a.fdiv (2 ^ (min b.toNat IntKind.u64.bits))=((a.toNat / 2 ^ b.toNat:Nat):Int):=by
    have i:min b.toNat IntKind.u64.bits=b.toNat:=by rw[show IntKind.u64.bits=64 from rfl];omega
    have j:a=(a.toNat:Int):=by omega
    rw[i,j];have n:(2:Int) ^ b.toNat=((2 ^ b.toNat:Nat):Int):=by push_cast;rfl
    rw[n,aF,Int.fdiv_eq_ediv_of_nonneg _ (Int.natCast_nonneg _)];rfl
   simp only[Go.binOp,Op.shift,ak (show ¬b<0 by omega),p]
   exact⟨rfl,rfl⟩
  ·split at f
   ·cases f;have r:a.toNat &&& b.toNat<=a.toNat:=Nat.and_le_left;have g:aJ .u64 ((a.toNat &&& b.toNat:Nat):Int):=by simp only[aJ] at h ⊢;omega
    refine⟨g,?_⟩;have e:(BitVec.ofInt IntKind.u64.bits a &&& BitVec.ofInt IntKind.u64.bits b).toNat=a.toNat &&& b.toNat:=by rw[BitVec.toNat_and,bits_nat h,bits_nat m]
    simp only[Go.binOp,bY,en,aW,Op.intBits,e,k8 g];exact⟨rfl,rfl⟩
   ·cases f
  ·split at f
   ·cases f;have g:aJ .u64 ((a.toNat ^^^ b.toNat:Nat):Int):=by
     simp only[aJ] at h m ⊢;have:a.toNat ^^^ b.toNat<2 ^ 64:=Nat.xor_lt_two_pow (by omega) (by omega)
     omega
    refine⟨g,?_⟩;have e:(BitVec.ofInt IntKind.u64.bits a ^^^ BitVec.ofInt IntKind.u64.bits b).toNat=a.toNat ^^^ b.toNat:=by rw[BitVec.toNat_xor,bits_nat h,bits_nat m]
    simp only[Go.binOp,bY,en,aW,Op.intBits,e,k8 g];exact⟨rfl,rfl⟩
   ·cases f
  ·cases f
 ·cases f
theorem aM.bits{op:BinOp}{t ty:TypeId}{x y:Operand}{k k':IntKind}{a b c:Int}{obs:List Prop}(h:o.op=.binOp op t x y ty)(l:d x=.e (.one (.c (.int k a))))(m:d y=.e (.one (.c (.int k' b))))(n:ye op k a k' b=some (c,obs))(p:aa obs) :
  aM P o d σ (.e (.one (.c (.int k c)))) σ:=by
 refine .quiet λs j hh hr=>?_
 have h1:=hr x;have h2:=hr y;rw[l] at h1;rw[m] at h2
 replace h1:=eX h1
 replace h2:=eX h2
 generalize f:j x=vx at h1;generalize g:j y=vy at h2;cases h1 with|int ha =>
 cases h2 with|int hb =>
 obtain⟨q,i,r⟩:=CC (P:=P) t n p ha hb s.w;exact⟨.int k c,by simp only[execOp,h,bm,f,g,fC,bP,i,cY],.int q,by simp[execOp,h,f,g,fC,iw,i,r]⟩
end
end Go.AM
namespace Go.AM
open Go.Conc (G)
section drop
variable {σ1 rest:List aj}{s:St}
def St.cut(s:St)(n:Nat):St:={ s with β:=s.β.take n }
theorem gd.drop{v:Value}{a:A}(r:gd (σ1++rest) s v a)(d:CG σ1.length a=true):gd σ1 (s.cut σ1.length) v a:=by
 have lt:∀ {l:Nat},Nat.ble (l+1) σ1.length=true->l<σ1.length:=λh=>cA h
 cases a with
 |c x=>exact r
 |any=>exact r
 |ptr l o =>
  have hl:=lt d;obtain⟨g,L,b,j,i⟩:=r;refine⟨λB f=>g B (by rw[bc hl];exact f),L,b,?_,i⟩
  simp only[St.cut,de,hl,aX];exact j
 |ref l =>
  have hl:=lt d;obtain⟨g,L,j,i⟩:=r;refine⟨λB f=>g B (by rw[bc hl];exact f),L,?_,i⟩
  simp only[St.cut,de,hl,aX];exact j
 |bp l w =>
  have hl:=lt d;obtain⟨lv,g,_,i⟩:=r;refine⟨lv,g,hl,λE k' n' es' f=>?_⟩
  obtain⟨h1,h2⟩:=i E k' n' es' (by rw[bc hl];exact f)
  refine⟨h1,λe=>?_⟩
  obtain⟨L,m,p⟩:=h2 e;refine⟨L,?_,p⟩;simp only[St.cut,de,hl,aX];exact m
 |vec l k n es =>
  have hl:=lt d;obtain⟨g,_,i⟩:=r;refine⟨g,hl,λE k' n' es' f=>?_⟩
  obtain⟨h1,h2⟩:=i E k' n' es' (by rw[bc hl];exact f)
  refine⟨h1,λe=>?_⟩
  obtain⟨L,m,p⟩:=h2 e;refine⟨L,?_,p⟩;simp only[St.cut,de,hl,aX];exact m
theorem cW.u9:∀ {vs:List Value}{cs:List A},cW (σ1++rest) s vs cs->CH σ1.length cs=true->cW σ1 (s.cut σ1.length) vs cs
 |[],[],_,_=>trivial
 |[],_::_,r,_=>r.elim
 |_::_,[],r,_=>r.elim
 |v::vs,c::cs,r,h=>by
  simp only[CH] at h;cases a:CG σ1.length c with
  |false=>simp[a] at h
  |true=>simp only[a] at h;exact⟨r.1.drop a,cW.u9 r.2 h⟩
theorem kE.u9{v:Value}{e:E1}(r:kE (σ1++rest) s v e)(h:EL σ1.length e=true):kE σ1 (s.cut σ1.length) v e:=by
 cases e with
 |one a=>exact gd.drop r h
 |agg cs=>obtain⟨vs,h1,h2⟩:=r;exact⟨vs,h1,cW.u9 h2 h⟩
theorem ey.u9:∀ {vs:List Value}{cs:List E1},ey (σ1++rest) s vs cs->u4 σ1.length cs=true->ey σ1 (s.cut σ1.length) vs cs
 |[],[],_,_=>trivial
 |[],_::_,r,_=>r.elim
 |_::_,[],r,_=>r.elim
 |v::vs,c::cs,r,h=>by
  simp only[u4] at h;cases a:EL σ1.length c with
  |false=>simp[a] at h
  |true=>simp only[a] at h;exact⟨kE.u9 r.1 a,ey.u9 r.2 h⟩
theorem cd.drop{v:Value}{d:D}(r:cd (σ1++rest) s v d)(h:tj σ1.length d=true):cd σ1 (s.cut σ1.length) v d:=by
 cases d with
 |e x=>exact kE.u9 r h
 |dH xs=>obtain⟨vs,h1,h2⟩:=r;exact⟨vs,h1,ey.u9 h2 h⟩
 |any=>trivial
theorem bo.drop{σ0:List aj}{s0:St}(st:bo σ0 s0 (σ1++rest) s)(c:σ0.length<=σ1.length):bo σ0 s0 σ1 (s.cut σ1.length):=by
 refine⟨st.size,st.eC,st.mem,st.ij,λL a b e=>st.rM L (gH a) b e,?_,st.os,st.tape,st.output,st.own⟩
 intro l B L d a;obtain⟨B',L',h1,h2,f⟩:=st.box l B L d a;have hl:l<σ1.length:=bF (aD.1 d).1 c;rw[bc hl] at h1;exact⟨B',L',h1,by simp only[St.cut,de,hl,aX];exact h2,f⟩
theorem gd.pZ{σ:List aj}{v:Value}{a:A}(hl:s.β.length=σ.length)(r:gd σ s v a):CG σ.length a=true:=by
 have ok:∀ {l:Nat},l<σ.length->Nat.ble (l+1) σ.length=true:=λh=>pq h
 have lt:∀ {l:Nat} {L:Loc},s.β[l]?=some L->l<σ.length:=λh=>by rw[<-hl];exact(aD.1 h).1
 cases a with
 |c x=>rfl
 |any=>rfl
 |ptr l o=>obtain⟨_,L,b,d,_⟩:=r;exact ok (lt d)
 |ref l=>obtain⟨_,L,d,_⟩:=r;exact ok (lt d)
 |bp l w=>obtain⟨lv,_,h,_⟩:=r;exact ok h
 |vec l k n es=>exact ok r.2.1
theorem cW.pZ{σ:List aj}(hl:s.β.length=σ.length):∀ {vs:List Value}{cs:List A},cW σ s vs cs->CH σ.length cs=true
 |[],[],_=>rfl
 |[],_::_,r=>r.elim
 |_::_,[],r=>r.elim
 |v::vs,c::cs,r=>by simp only[CH,r.1.pZ hl];exact cW.pZ hl r.2
theorem kE.pZ{σ:List aj}(hl:s.β.length=σ.length){v:Value}{e:E1}(r:kE σ s v e):EL σ.length e=true:=by
 cases e with
 |one a=>exact gd.pZ hl r
 |agg cs=>obtain⟨vs,_,h⟩:=r;exact cW.pZ hl h
theorem ey.pZ{σ:List aj}(hl:s.β.length=σ.length):∀ {vs:List Value}{cs:List E1},ey σ s vs cs->u4 σ.length cs=true
 |[],[],_=>rfl
 |[],_::_,r=>r.elim
 |_::_,[],r=>r.elim
 |v::vs,c::cs,r=>by simp only[u4,kE.pZ hl r.1];exact ey.pZ hl r.2
theorem cd.pZ{σ:List aj}(hl:s.β.length=σ.length){v:Value}{d:D}(r:cd σ s v d):tj σ.length d=true:=by
 cases d with
 |e x=>exact kE.pZ hl r
 |dH xs=>obtain⟨vs,_,h⟩:=r;exact ey.pZ hl h
 |any=>rfl
theorem ag.Ot{s0:St}(j:ag σ1 s0)(h:ag (σ1++rest) s):ag σ1 (s.cut σ1.length):=by
 have hl:σ1.length<=s.β.length:=by rw[h.len];simp
 refine⟨h.mem,by simp[St.cut,hl],?_,?_,?_,λb g=>⟨(h.own b g).1,λL c=>(h.own b g).2 L (gH c)⟩⟩
 ·intro l B L q c;have e:l<σ1.length:=(aD.1 q).1;simp only[St.cut,de,e,aX] at c;have a:=h.box l B L (by rw[bc e];exact q) c
  have f:∃ p,s0.β[l]?=some p:=⟨_,ai (by rw[j.len];exact e)⟩
  obtain⟨p,f⟩:=f;have i:=j.box l B p q f;cases B with
  |cells E cs =>
   obtain⟨b,vs,h1,h2,o,u⟩:=a;obtain⟨_,_,_,_,g3,_⟩:=i;exact⟨b,vs,h1,h2,cW.u9 o (g3.pZ j.len),u⟩
  |vec E k n es=>exact a
  |cx H=>exact a
  |dead=>trivial
  |loop N φ r =>
   obtain⟨l',tmps,fn,v,h1,h2,o,u,w⟩:=a;obtain⟨_,_,_,_,_,_,_,g4,_⟩:=i;exact⟨l',tmps,fn,v,h1,h2,o,λt=>(u t).drop ((g4 t).pZ j.len),w⟩
  |qv=>exact a
  |buf E k n es=>exact a
 ·intro l l' L L' c d b g m;simp only[St.cut,de] at c d;split at c <;> split at d <;> first|exact h.fe l l' L L' c d b g m|(cases c;done)|(cases d;done)
 ·intro L c b g;exact h.lt L (gH c) b g
theorem OA.Ou{P:Program}{X:Cx P}{N:Nat}{all:List Oper}{o:Oper}{φ:Fr}{σ:List aj}{E:TypeId}{k n:Nat}{es:Nat->List C}(h:OA X N all o φ σ (.e (.one (.vec σ.length k n es))) (σ++[.vec E k n es])):OA X N all o φ σ (.e (.one (.c (.sl false k n es)))) σ:=by
 intro s a f hh b kk cs S i rest d hi hK;refine h s a f hh b kk cs S i rest d hi λv s' hv ia st=>?_
 have j:dX s' (s'.cut σ.length):=⟨rfl,λ_ _ _ h=>h,λ_ _ _=>rfl,ia.mem,λb d=>d.imp id λ⟨L,g,d⟩=>⟨L,gH g,d⟩⟩
 exact .ghost j (hK v (s'.cut σ.length) hv.1 (hh.Ot ia) (st.drop (ar _)))
end drop
end Go.AM
namespace Go.AM
section force
variable {p:Type}
def tu:C->(C->Option p)->Option p
 |.int k n,q=>q (.int k n)
 |.bool b,q=>q (.bool b)
 |.str s,q=>q (.str s)
 |.sl true k n es,q=>q (.sl true k n es)
 |.sl false k n es,q=>q (.sl false k n es)
 |.rp cs,q=>cp cs λcs=>q (.rp cs)
 |.ES t cs,q=>cp cs λcs=>q (.ES t cs)
 |.fn f a b,q=>cp a λa=>cp b λb=>q (.fn f a b)
 |c,q=>q c
theorem CI(c:C)(q:C->Option p):tu c q=q c:=by
 cases c with
 |sl t=>cases t <;> rfl
 |rp cs=>simp[tu,b8]
 |ES t cs=>simp[tu,b8]
 |fn f a b=>simp[tu,b8]
 |_=>rfl
def tv:A->(A->Option p)->Option p
 |.c x,q=>tu x λx=>q (.c x)
 |.ptr l o,q=>q (.ptr l o)
 |.vec l k n es,q=>q (.vec l k n es)
 |.ref l,q=>q (.ref l)
 |.bp l (.sl g k o n),q=>q (.bp l (.sl g k o n))
 |.bp l (.el g k i f),q=>q (.bp l (.el g k i f))
 |.any,q=>q .any
theorem vw(a:A)(q:A->Option p):tv a q=q a:=by
 cases a with
 |bp l w=>cases w <;> simp[tv]
 |_=>simp[tv,CI]
def sN:List A->(List A->Option p)->Option p
 |[],q=>q []
 |a::r,q=>tv a λa=>sN r λr=>q (a::r)
theorem zZ(l:List A)(q:List A->Option p):sN l q=q l:=by
 induction l generalizing q with
 |nil=>rfl
 |cons a r b=>simp[sN,vw,b]
def xb:E1->(E1->Option p)->Option p
 |.one a,q=>tv a λa=>q (.one a)
 |.agg cs,q=>sN cs λcs=>q (.agg cs)
theorem vA(a:E1)(q:E1->Option p):xb a q=q a:=by cases a <;> simp[xb,vw,zZ]
def sO:List E1->(List E1->Option p)->Option p
 |[],q=>q []
 |a::r,q=>xb a λa=>sO r λr=>q (a::r)
theorem z0(l:List E1)(q:List E1->Option p):sO l q=q l:=by
 induction l generalizing q with
 |nil=>rfl
 |cons a r b=>simp[sO,vA,b]
def mI:D->(D->Option p)->Option p
 |.e x,q=>xb x λx=>q (.e x)
 |.dH xs,q=>sO xs λxs=>q (.dH xs)
 |.any,q=>q .any
theorem lP(a:D)(q:D->Option p):mI a q=q a:=by cases a <;> simp[mI,vA,z0]
end force
def xc:D->Option (Bool×Nat×Nat×(Nat->List C))
 |.e (.one (.c (.sl t k n es)))=>some (t,k,n,es)
 |.e (.one (.vec _ k n es))=>some (false,k,n,es)
 |_=>none
theorem mJ{d:D}{t:Bool}{k n:Nat}{es:Nat->List C}(h:xc d=some (t,k,n,es))(σ:List aj)(s:St)(v:Value)(r:cd σ s v d):Rd s.M v (.sl t k n es):=by
 unfold xc at h;split at h
 ·cases h;exact r
 ·cases h;exact r.1
 ·cases h
def gJ(l:List UInt8) (j:Int):UInt8:=l.getD j.toNat 0
def Ls(T:List (Nat×TI))(t:TypeId)(d:D):Option D :=
 match aQ T t with
 |none=>none
 |some i=>match i.desc with
  |.slice _=>match xc d with
   |some (_,_,n,_)=>some (.e (.one (.c (.int .i64 n))))
   |none=>none
  |.string=>match d with
   |.e (.one (.c (.str s)))=>some (.e (.one (.c (.int .i64 s.length))))
   |_=>none
  |_=>none
def E4(T:List (Nat×TI))(b a:TypeId)(d:D):Option (D×List Prop) :=
 match aQ T b with
 |none=>none
 |some i1=>match aQ T a with
  |none=>none
  |some i2=>match i2.desc with
   |.int k'=>match d with
    |.e (.one (.c (.int _ j)))=>some (.e (.one (.c (.int k' j))),[aJ k' j])
    |_=>none
   |.string=>match d with
    |.e (.one (.c (.str s)))=>some (.e (.one (.c (.str s))),[])
    |d=>match i1.desc with
     |.slice E=>match aQ T E with
      |some ie=>match ie.desc with
       |.int .u8=>match xc d with
        |some (_,k,n,es)=>match Nat.beq k 1 with
         |true=>match tw es 0 n with
          |some r=>some (.e (.one (.c (.str r))),[])
          |none=>none
         |false=>none
        |none=>none
       |_=>none
      |none=>none
     |_=>none
   |_=>none
def z8(T:List (Nat×TI))(a:Operand->D)(t:TypeId)(x:Operand)(lo hi:Option Operand):Option (D×List Prop) :=
 match aQ T t with
 |none=>none
 |some i=>match rT a lo with
  |none=>none
  |some l=>match rT a hi with
   |none=>none
   |some u=>match i.desc with
    |.string=>match a x with
     |.e (.one (.c (.str s)))=>some (.e (.one (.c (.str (qD s l u)))),jc s.length l u)
     |_=>none
    |.slice E=>match aQ T E with
     |none=>none
     |some ie=>match xc (a x) with
      |some (tt,k,n,es)=>match Nat.beq k ie.size with
       |true=>some (.e (.one (.c (.sl (Iz tt u) ie.size (bT n u-bT 0 l) (j7 (bT 0 l) es)))),jc n l u)
       |false=>none
      |none=>none
    |_=>none
def Wn(d:Bool)(f:Operand->D)(x y:Operand):Option (D×List Prop) :=
 match f x,f y with
 |.e (.one (.c (.int .i64 a))),.e (.one (.c (.int .i64 b)))=>some (.e (.one (.c (.int .i64 (cond d (min a b) (max a b))))),[])
 |_,_=>none
def vB(op:BinOp)(k:IntKind) (a:Int)(k':IntKind) (b:Int):Option (D×List Prop) :=
 match ye op k a k' b with
 |some (c,obs)=>some (.e (.one (.c (.int k c))),obs)
 |none=>none
theorem p0{op:BinOp}{k k':IntKind}{a b:Int}{d:D}{obs:List Prop}(h:vB op k a k' b=some (d,obs)):∃ c,d=.e (.one (.c (.int k c)))/\ye op k a k' b=some (c,obs):=by
 unfold vB at h;split at h
 ·rename_i c f g;cases h;exact⟨c,rfl,g⟩
 ·cases h
def Ks(T:List (Nat×TI))(op:BinOp)(t:TypeId)(x y:D):Option (D×List Prop) :=
 match x,y with
 |.e (.one (.c (.bool a))),.e (.one (.c (.bool b)))=>match aQ T t with
  |some i=>match i.desc with
   |.bool=>match kI op (a==b) with
    |some c=>some (.e (.one (.c (.bool c))),[])
    |none=>none
   |_=>none
  |none=>none
 |.e (.one (.c a)),.e (.one (.c b))=>match op with
  |.xor=>match a,b with
   |.int .i64 a,.int .i64 b=>some (.e (.one (.c (.int .i64 ((a.toNat ^^^ b.toNat:Nat):Int)))),[0<=a,0<=b])
   |.int .u64 a,.int k' b=>vB .xor .u64 a k' b
   |_,_=>none
  |.shl=>match a,b with
   |.int k a,.int k' b=>vB .shl k a k' b
   |_,_=>none
  |.shr=>match a,b with
   |.int k a,.int k' b=>vB .shr k a k' b
   |_,_=>none
  |.and=>match a,b with
   |.int k a,.int k' b=>vB .and k a k' b
   |_,_=>none
  |_=>match IA op a b with
   |some (c,obs)=>some (.e (.one (.c c)),obs)
   |none=>none
 |.e (.agg cs),.e (.agg es)=>match aQ T t with
  |some i=>match i.eq with
   |[]=>none
   |d::ds=>match Kt (d::ds) cs es with
    |some b=>match kI op b with
     |some c=>some (.e (.one (.c (.bool c))),[])
     |none=>none
    |none=>none
  |none=>none
 |_,_=>none
def Qi(T:List (Nat×TI))(CT:List (Nat×c7))(φ:Fr)(o:Oper):Option (D×List Prop) :=
 match o.op with
 |.move x|.assign x=>some (bn φ x,[])
 |.index t x y=>match aQ T t with
  |some i=>match i.desc with
   |.string=>match bn φ x,bn φ y with
    |.e (.one (.c (.str l))),.e (.one (.c (.int _ j)))=>some (.e (.one (.c (.int .u8 (gJ l j).toNat))),[0<=j,j<l.length])
    |_,_=>none
   |_=>none
  |none=>none
 |.indexAddr t x y=>match aQ T t with
  |some i=>match i.desc with
   |.slice E=>match aQ T E with
    |some ie=>match xc (bn φ x),bn φ y with
     |some (_,k,n,es),.e (.one (.c (.int _ j)))=>match Nat.beq k ie.size with
      |true=>some (.e (.one (.c (.rp (es j.toNat)))),[0<=j,j<n])
      |false=>none
     |_,_=>none
    |none=>none
   |_=>none
  |none=>none
 |.slice t x lo hi none=>z8 T (bn φ) t x lo hi
 |.convert src dst x=>E4 T src dst (bn φ x)
 |.call c=>match c.callee with
  |.builtin .len=>match c.args.toList,c.argTypes[0]? with
   |[x],some t=>match Ls T t (bn φ x) with
    |some d=>some (d,[])
    |none=>none
   |_,_=>none
  |.value fo=>yv CT φ fo c.args.toList
  |_=>none
 |.pick c a b=>match bn φ c with
  |.e (.one (.c (.bool true)))=>some (bn φ a,[])
  |.e (.one (.c (.bool false)))=>some (bn φ b,[])
  |_=>none
 |.binOp op t x y _=>Ks T op t (bn φ x) (bn φ y)
 |.unOp op _ x=>match bn φ x with
  |.e (.one (.c a))=>match Ql op a with
   |some c=>some (.e (.one (.c c)),[])
   |none=>none
  |_=>none
 |.extract x j=>match bn φ x with
  |.dH xs=>match eW j xs with
   |some e=>some (.e e,[])
   |none=>none
  |_=>none
 |.fieldAddr t x f=>match iz T t f with
  |some (k,_)=>match bn φ x with
   |.e (.one (.ptr l off))=>some (.e (.one (.ptr l (off+k))),[])
   |.e (.one (.c (.rp cs)))=>some (.e (.one (.c (.rp (gh k cs)))),[])
   |_=>none
  |none=>none
 |.field t x f=>match iz T t f with
  |some (k,j)=>match bn φ x with
   |.e (.agg cs)=>match lM j (gh k cs) with
    |some e=>some (.e e,[])
    |none=>none
   |_=>none
  |none=>none
 |.nilCheck x=>match bn φ x with
  |.e (.one (.ptr l off))=>some (.e (.one (.ptr l off)),[])
  |.e (.one (.c (.rp cs)))=>some (.e (.one (.c (.rp cs))),[])
  |_=>none
 |.build t parts=>match xd T (bn φ) t parts.toList with
  |some cs=>some (.e (.agg cs),[])
  |none=>none
 |.buildSlice t n parts=>match IB T (bn φ) t n parts.toList with
  |some (k,es)=>some (.e (.one (.c (.sl true k n λi=>es.getD i []))),[])
  |none=>none
 |.makeFunc fn a b=>match tz (bn φ) a.toList with
  |some ca=>match tz (bn φ) b.toList with
   |some cb=>some (.e (.one (.c (.fn fn ca cb))),[])
   |none=>none
  |none=>none
 |.makeInterface t x=>match aQ T t with
  |some i=>match p6 i.desc with
   |false=>match sQ t (bn φ x) with
    |some c=>some (.e (.one (.c c)),[])
    |none=>none
   |true=>none
  |none=>none
 |.typeAssert x _ t true=>match aQ T t with
  |some i=>match p6 i.desc with
   |false=>match bn φ x with
    |.e (.one (.c c))=>match oq t i c with
     |some (e,b)=>some (.dH [e,.one (.c (.bool b))],[])
     |none=>none
    |_=>none
   |true=>none
  |none=>none
 |_=>none
def EV(T:List (Nat×TI))(φ:Fr)(σ:List aj)(t:TypeId)(x:Operand):Option D :=
 match aQ T t with
 |some i=>match bn φ x with
  |.e (.one (.ptr l off))=>match eW l σ with
   |some (.cells _ cs)=>match lM i (gh off cs) with
    |some e=>some (.e e)
    |none=>none
   |_=>none
  |.e (.one (.c (.rp cs)))=>match lM i (cs.map A.c) with
   |some e=>some (.e e)
   |none=>none
  |_=>none
 |none=>none
def Rw(T:List (Nat×TI))(φ:Fr)(o:Oper):Option (D×List Prop) :=
 match o.op with
 |.indexAddr t x y=>match aQ T t with
  |some i=>match i.desc with
   |.slice E=>match aQ T E with
    |some ie=>match bn φ x,bn φ y with
     |.e (.one (.bp l (.sl g k q m))),.e (.one (.c (.int _ j)))=>match Nat.beq k ie.size with
      |true=>some (.e (.one (.bp l (.el g ie.size (q+j.toNat) 0))),[0<=j,j<m])
      |false=>none
     |.e (.one (.c (.val (.slice (some ⟨b,off,none⟩) n _)))),.e (.one (.c (.int _ j)))=>some (.e (.one (.c (.val (.pointer (some ⟨b,off+j.toNat*ie.size,none⟩))))),[0<=j,j<n])
     |_,_=>none
    |none=>none
   |_=>none
  |none=>none
 |.fieldAddr t x f=>match iz T t f with
  |some (k,_)=>match bn φ x with
   |.e (.one (.bp l (.el g a i q)))=>some (.e (.one (.bp l (.el g a i (q+k)))),[])
   |.e (.one (.c (.val (.pointer (some ⟨b,off,none⟩)))))=>some (.e (.one (.c (.val (.pointer (some ⟨b,off+k,none⟩))))),[])
   |_=>none
  |none=>none
 |.nilCheck x=>match bn φ x with
  |.e (.one (.bp l (.el g a i q)))=>some (.e (.one (.bp l (.el g a i q))),[])
  |_=>none
 |.slice t x lo hi none=>match aQ T t with
  |none=>none
  |some i=>match rT (bn φ) lo with
   |none=>none
   |some lw=>match rT (bn φ) hi with
    |none=>none
    |some u=>match i.desc with
     |.slice E=>match aQ T E with
      |none=>none
      |some ie=>match bn φ x with
       |.e (.one (.bp l (.sl g k q m)))=>match Nat.beq k ie.size with
        |true=>some (.e (.one (.bp l (.sl g ie.size (q+bT 0 lw) (bT m u-bT 0 lw)))),jc m lw u)
        |false=>none
       |_=>none
     |_=>none
 |.slice t x none (some y) (some z)=>match aQ T t with
  |none=>none
  |some i=>match i.desc with
   |.slice E=>match aQ T E with
    |none=>none
    |some _=>match xc (bn φ x),bn φ y,bn φ z with
     |some (_,k,n,es),.e (.one (.c (.int _ j))),.e (.one (.c (.int _ m)))=>some (.e (.one (.c (.sl false k j.toNat es))),[0<=j,j<=m,m<=n])
     |_,_,_=>none
   |_=>none
 |.call c=>match c.callee with
  |.builtin .len=>match c.args.toList,c.argTypes[0]? with
   |[x],some t=>match aQ T t with
    |some i=>match i.desc with
     |.slice _=>match bn φ x with
      |.e (.one (.bp _ (.sl _ _ _ m)))=>some (.e (.one (.c (.int .i64 m))),[])
      |.e (.one (.c (.val (.slice _ n _))))=>some (.e (.one (.c (.int .i64 n))),[n<=9223372036854775807])
      |_=>none
     |_=>none
    |none=>none
   |_,_=>none
  |_=>none
 |_=>none
def w8(T:List (Nat×TI))(φ:Fr)(σ:List aj)(t:TypeId)(x:Operand):Option (D×List Prop) :=
 match aQ T t with
 |some it=>match bn φ x with
  |.e (.one (.bp l (.el g k i f)))=>match eW l σ with
   |some (.buf _ k' n es)=>match Nat.beq k' k with
    |true=>match lM it ((gh f (es i)).map A.c) with
     |some e=>some (.e e,[g=n,i<n])
     |none=>none
    |false=>none
   |_=>none
  |_=>none
 |none=>none
def E5:Nat->List C->Nat->Bool
 |0,cc,k=>Nat.beq cc.length k
 |_+1,_,_=>false
def xe(T:List (Nat×TI))(φ:Fr)(σ:List aj)(t:TypeId)(x y:Operand):Option (D×List aj×List Prop) :=
 match aQ T t with
 |some it=>match bn φ x with
  |.e (.one (.bp l (.el g k i f)))=>match eW l σ with
   |some (.buf E k' n es)=>match Nat.beq k' k with
    |true=>match lF (bn φ y) with
     |some new=>match Nat.beq new.length it.size with
      |true=>match fW new with
       |some cc=>match E5 f cc k with
        |true=>cp (dt.rR l (.buf E k' n (mY i cc es)) σ) λσ'=>some (.any,σ',[g=n,i<n])
        |false=>match dL f cc (es i) with
         |some ci=>cp (dt.rR l (.buf E k' n (mY i ci es)) σ) λσ'=>some (.any,σ',[g=n,i<n])
         |none=>none
       |none=>none
      |false=>none
     |none=>none
    |false=>none
   |_=>none
  |_=>none
 |none=>none
def Is(T:List (Nat×TI))(CT:List (Nat×c7))(φ:Fr)(σ:List aj)(o:Oper):Option (D×List Prop) :=
 match o.op with
 |.load t x=>match EV T φ σ t x with
  |some d=>some (d,[])
  |none=>w8 T φ σ t x
 |_=>match Qi T CT φ o with
  |some r=>some r
  |none=>Rw T φ o
def Lt(T:List (Nat×TI))(a:Operand->D)(σ:List aj)(x y:Operand)(t b:TypeId):Option (D×List aj×List Prop) :=
 match aQ T t with
 |none=>none
 |some i=>match aQ T b with
  |none=>none
  |some i2=>match i.desc with
   |.slice E=>match i2.desc with
    |.slice E2=>match Nat.beq E2 E with
     |false=>none
     |true=>match aQ T E with
      |none=>none
      |some ie=>match Nat.ble 1 ie.bytes,Nat.ble 1 ie.size with
       |true,true=>match xc (a y) with
        |none=>none
        |some (_,k',m,es')=>match Nat.beq k' ie.size with
         |false=>none
         |true=>match a x with
          |.e (.one (.c (.sl true k n es)))=>match Nat.beq k ie.size with
           |true=>cp (σ++[.vec E ie.size (n+m) (cj n es es')]) λσ'=>some (.e (.one (.vec σ.length ie.size (n+m) (cj n es es'))),σ',[(n+m)*ie.bytes<=140737488355328,n=0∨0<m])
           |false=>match Nat.beq n 0 with
            |true=>cp (σ++[.vec E ie.size (n+m) (cj n es es')]) λσ'=>some (.e (.one (.vec σ.length ie.size (n+m) (cj n es es'))),σ',[(n+m)*ie.bytes<=140737488355328,n=0∨0<m])
            |false=>none
          |.e (.one (.vec l k n es))=>match eW l σ with
           |some (.vec E' k2 n2 Nx)=>match Nat.beq E' E,Nat.beq k ie.size,Nat.beq k2 ie.size with
            |true,true,true=>cp (dt.rR l (.vec E ie.size (n+m) (cj n es es')) σ) λσ'=>some (.e (.one (.vec l ie.size (n+m) (cj n es es'))),σ',[n2=n,Nx=es,(n+m)*ie.bytes<=140737488355328])
            |_,_,_=>none
           |_=>none
          |.e (.one (.bp l (.sl g k 0 n)))=>match eW l σ with
           |some (.buf E' k2 n2 Nx)=>match Nat.beq E' E,Nat.beq k ie.size,Nat.beq k2 ie.size with
            |true,true,true=>cp (dt.rR l (.buf E ie.size (n2+m) (cj n2 Nx es')) σ) λσ'=>some (.e (.one (.bp l (.sl (n2+m) ie.size 0 (n2+m)))),σ',[g=n2,n=n2,(n2+m)*ie.bytes<=140737488355328])
            |_,_,_=>none
           |_=>none
          |_=>none
       |_,_=>none
    |_=>none
   |_=>none
def Oi(T:List (Nat×TI))(CT:List (Nat×c7))(φ:Fr)(σ:List aj)(o:Oper):Option (D×List aj×List Prop) :=
 match o.op with
 |.alloc _|.box _ _=>NB T φ σ o
 |.store t x y=>match NB T φ σ o with
  |some r=>some r
  |none=>xe T φ σ t x y
 |.call c=>match c.callee with
  |.builtin .append=>match c.args.toList,c.argTypes.toList with
   |[x,y],[t,a]=>Lt T (bn φ) σ x y t a
   |_,_=>none
  |.value fo=>E6 CT φ σ fo c.args.toList
  |_=>none
 |_=>none
def Lu(T:List (Nat×TI))(a:Operand->D)(x y:Operand)(t b:TypeId):Option (D×List Prop) :=
 match aQ T t with
 |none=>none
 |some i=>match aQ T b with
  |none=>none
  |some i2=>match i.desc with
   |.slice E=>match i2.desc with
    |.slice E2=>match Nat.beq E2 E with
     |false=>none
     |true=>match aQ T E with
      |none=>none
      |some ie=>match Nat.ble 1 ie.bytes,Nat.ble 1 ie.size with
       |true,true=>match xc (a y) with
        |none=>none
        |some (_,k',m,es')=>match Nat.beq k' ie.size with
         |false=>none
         |true=>match a x with
          |.e (.one (.c (.sl true k n es)))=>match Nat.beq n 0 with
           |true=>some (.e (.one (.c (.sl false ie.size (n+m) (cj n es es')))),[(n+m)*ie.bytes<=140737488355328,n=0∨0<m])
           |false=>none
          |_=>none
       |_,_=>none
    |_=>none
   |_=>none
def Rx(T:List (Nat×TI))(φ:Fr)(o:Oper):Option (D×List Prop) :=
 match o.op with
 |.call c=>match c.callee with
  |.builtin .append=>match c.args.toList,c.argTypes.toList with
   |[x,y],[t,a]=>Lu T (bn φ) x y t a
   |_,_=>none
  |_=>none
 |_=>none
def BL:List (Nat×Bool)->Nat->Option Bool
 |[],_=>none
 |(i,b)::r,t=>match Nat.beq i t with|true=>some b|false=>BL r t
def Rg(ds:List (Nat×Bool)):Option Nat->Bool
 |none=>false
 |some t=>match BL ds (2000000+t) with
  |some true=>true
  |_=>false
def EZ(ds:List (Nat×Bool))(d:Option Nat)(x:D)(obs:List Prop):Option (D×List Prop) :=
 match d with
 |none=>some (x,obs)
 |some t=>match BL ds t with
  |none=>some (x,obs)
  |some b=>match x with
   |.e (.one (.c (.bool e)))=>some (.e (.one (.c (.bool b))),j6 obs [e=b])
   |_=>none
theorem IC{ds:List (Nat×Bool)}{d:Option Nat}{x y:D}{obs rU:List Prop}(h:EZ ds d x obs=some (y,rU))(a:aa rU):y=x/\aa obs:=by
 unfold EZ at h;split at h
 ·cases h;exact⟨rfl,a⟩
 ·split at h
  ·cases h;exact⟨rfl,a⟩
  ·split at h
   ·cases h;rw[aa.cat] at a;have:_=_:=a.2;subst this;exact⟨rfl,a.1⟩
   ·cases h
def BF(T:List (Nat×TI))(CT:List (Nat×c7))(ds:List (Nat×Bool))(all:List Oper)(φ:Fr)(σ:List aj)(o:Oper):Option (D×Option (List aj)×List Prop) :=
 let go:Option (D×Option (List aj)×List Prop):=match Is T CT φ σ o with
  |some (x,obs)=>match EZ ds o.dst x obs with
   |some (y,a)=>mI y λy=>some (y,none,a)
   |none=>none
  |none=>match Rg ds o.dst with
   |true=>match Rx T φ o with
    |some (x,obs)=>mI x λx=>some (x,none,obs)
    |none=>none
   |false=>match Oi T CT φ σ o with
    |some (x,σ',obs)=>mI x λx=>some (x,some σ',obs)
    |none=>none
 match o.guard with
 |none=>go
 |some (j,b)=>match tA φ all j with
  |some (some b')=>match b,b' with
   |true,true=>go
   |false,false=>go
   |_,_=>some (.dH [],none,[])
  |some none=>some (.dH [],none,[])
  |none=>none
section
variable {P:Program}{X:Cx P}{T:List (Nat×TI)}{CT:List (Nat×c7)}{N:Nat}{all:List Oper}{φ:Fr}{σ:List aj}{o:Oper}
theorem ID(j:cz P T)(B:∀ σ s a,bg N σ s φ a->Region.wanted o (yielded all.toArray a.tmps)=true){x y:Operand}{t e:TypeId}{d:D}{obs:List Prop}(G:o.op=.call { callee:=.builtin .append,args:=#[x,y],argTypes:=#[t,e] })
  (h:Lu T (bn φ) x y t e=some (d,obs)) (b:aa obs):OA X N all o φ σ d σ:=by
 unfold Lu at h;split at h
 ·cases h
 rename_i i hi
 split at h
 ·cases h
 rename_i i2 IE
 split at h
 case h_2=>cases h
 rename_i E A
 split at h
 case h_2=>cases h
 rename_i F f
 split at h
 ·cases h
 rename_i w
 have H:=aO w;subst H;split at h
 ·cases h
 rename_i I q
 split at h
 case h_2=>cases h
 rename_i g l
 have c:oH P o x y F I:=⟨⟨t,e,i,i2,G,j t i hi,A,j e i2 IE,f⟩,j _ _ q,by have:=cA g;omega,by have:=cA l;omega⟩
 split at h
 ·cases h
 rename_i tx k' m es' hy
 split at h
 ·cases h
 rename_i r
 have C:=aO r;subst C;have u:=λs v=>mJ hy σ s v
 split at h
 ·rename_i k n es hx
  split at h
  ·rename_i z
   cases h;exact(OA.kJ B (aM.nw c hx (.inr (aO z)) u b.1 b.2)).Ou
  ·cases h
 ·cases h
theorem IF(H:cz P T){Q:Operand->D}{x y:Operand}{t j:TypeId}{d:D}{σ':List aj}{obs:List Prop}(Z:o.op=.call { callee:=.builtin .append,args:=#[x,y],argTypes:=#[t,j] })
  (h:Lt T Q σ x y t j=some (d,σ',obs)) (a:aa obs):aM P o Q σ d σ':=by
 unfold Lt at h;split at h
 ·cases h
 rename_i i hi
 split at h
 ·cases h
 rename_i i2 IE
 split at h
 case h_2=>cases h
 rename_i E S
 split at h
 case h_2=>cases h
 rename_i Y q
 split at h
 ·cases h
 rename_i O
 have eE:=aO O;subst eE;split at h
 ·cases h
 rename_i ie K
 split at h
 case h_2=>cases h
 rename_i G I
 have b:oH P o x y Y ie:=⟨⟨t,j,i,i2,Z,H t i hi,S,H j i2 IE,q⟩,H _ _ K,by have:=cA G;omega,by have:=cA I;omega⟩
 split at h
 ·cases h
 rename_i tx k' m es' hy
 split at h
 ·cases h
 rename_i L
 have V:=aO L;subst V;have c:=λs v=>mJ hy σ s v
 split at h
 ·rename_i k n es hx
  split at h
  ·rename_i hk
   rw[b8] at h;cases h;exact aM.nw b hx (.inl (aO hk)) c a.1 a.2
  ·split at h
   ·rename_i R
    rw[b8] at h;cases h;exact aM.nw b hx (.inr (aO R)) c a.1 a.2
   ·cases h
 ·rename_i l k n es hx
  split at h
  ·rename_i U W f e r
   split at h
   ·rename_i F M u
    rw[b8,la] at h;cases h;obtain⟨w,J,B⟩:f=n/\e=es/\_:=a;subst w;subst J;have z:=aO F;subst z;have A:=aO M;have C:=aO u;subst C;subst A;exact aM.CB b hx (c9 r) c B
   ·cases h
  ·cases h
 ·rename_i l g k n hx
  split at h
  ·rename_i U W f e r
   split at h
   ·rename_i F M u
    rw[b8,la] at h;cases h;obtain⟨w,J,B⟩:g=f/\n=f/\_:=a;subst w;subst J;have z:=aO F;subst z;have A:=aO M;have C:=aO u;subst C;subst A;exact aM.IG b hx (c9 r) c B
   ·cases h
  ·cases h
 ·cases h
theorem IH(g:cz P T){c:Operand->D}{x:Operand}{a:Array TypeId}{t:TypeId}{d:D}(f:o.op=.call { callee:=.builtin .len,args:=#[x],argTypes:=a })(e:a[0]?=some t)(h:Ls T t (c x)=some d):aM P o c σ d σ:=by
 unfold Ls at h;split at h
 ·cases h
 rename_i i hi
 split at h
 ·rename_i E b
  split at h
  ·rename_i tt k n es hs
   cases h;exact aM.Ow g f e hi b (λs v=>mJ hs σ s v)
  ·cases h
 ·rename_i b
  split at h
  ·rename_i s hs
   cases h;exact aM.Lv g f e hi b hs
  ·cases h
 ·cases h
theorem E7(m:cz P T){t:Operand->D}{c a:TypeId}{x:Operand}{d:D}{obs:List Prop}(g:o.op=.convert c a x)(h:E4 T c a (t x)=some (d,obs))(b:aa obs):aM P o t σ d σ:=by
 unfold E4 at h;split at h
 ·cases h
 rename_i i hi
 split at h
 ·cases h
 rename_i i2 IE
 split at h
 ·rename_i k' hd
  split at h
  ·rename_i k j f
   cases h;exact aM.II m g hi IE hd f b
  ·cases h
 ·rename_i hd
  split at h
  ·rename_i s f
   cases h;exact aM.IJ m g hi IE hd f
  ·split at h
   ·rename_i E q
    split at h
    ·rename_i z u
     split at h
     ·rename_i l
      split at h
      ·rename_i tt k n es hs
       split at h
       ·rename_i w
        have e:=aO w;subst e;split at h
        ·rename_i r y
         cases h;exact aM.CJ m g hi IE q hd u l (λs v=>mJ hs σ s v) y
        ·cases h
       ·cases h
      ·cases h
     ·cases h
    ·cases h
   ·cases h
 ·cases h
theorem CK(q:cz P T){f:Operand->D}{t:TypeId}{x:Operand}{lo hi:Option Operand}{d:D}{obs:List Prop}(j:o.op=.slice t x lo hi none)(h:z8 T f t x lo hi=some (d,obs))(a:aa obs):aM P o f σ d σ:=by
 unfold z8 at h;split at h
 ·cases h
 rename_i i b
 split at h
 ·cases h
 rename_i l m
 split at h
 ·cases h
 rename_i u g
 split at h
 ·rename_i c
  split at h
  ·rename_i s w
   cases h;exact aM.E8 q j b c w m g a
  ·cases h
 ·rename_i E c
  split at h
  ·cases h
  rename_i z r
  split at h
  ·rename_i tt k n es hs
   split at h
   ·rename_i y
    cases h;have e:=aO y;subst e;exact aM.IK q j b c r (λs v=>mJ hs σ s v) m g a
   ·cases h
  ·cases h
 ·cases h
theorem tB{α:Type}{xs:Array α}{x:α}(h:xs.toList=[x]):xs=#[x]:=gy h
theorem p9{α:Type}{xs:Array α}{x y:α}(h:xs.toList=[x,y]):xs=#[x,y]:=gy h
theorem Lw(C:cz P T)(Z:aY X CT){d:D}{obs:List Prop}(h:Qi T CT φ o=some (d,obs))(g:aa obs)(r:∀ σ s a,bg N σ s φ a->Region.wanted o (yielded all.toArray a.tmps)=true):OA X N all o φ σ d σ:=by
 unfold Qi at h;split at h
 ·rename_i x B;cases h;exact OA.kJ r (aM.move B)
 ·rename_i x B;cases h;exact OA.kJ r (aM.assign B)
 ·rename_i t x y B
  split at h
  ·rename_i i hi
   split at h
   ·rename_i G
    split at h
    ·rename_i l k j w I
     cases h;obtain⟨V,h2⟩:0<=j/\j<(l.length:Int):=g;have:=aM.E9 (σ:=σ) (m:=j.toNat) C B hi G w I (by omega) (by omega)
     have e:gJ l j=l[j.toNat]'(by omega):=by simp[gJ,List.getD_eq_getElem?_getD,ai (by omega:j.toNat<l.length)]
     rw[e];exact OA.kJ r this
    ·cases h
   ·cases h
  ·cases h
 ·rename_i t x y B
  split at h
  ·rename_i i hi
   split at h
   ·rename_i E G
    split at h
    ·rename_i ie S
     split at h
     ·rename_i tt k n es k2 j w I
      split at h
      ·rename_i Y
       cases h;obtain⟨V,h2⟩:0<=j/\j<(n:Int):=g;have e:=aO Y;subst e;exact OA.kJ r (aM.indexAddr (m:=j.toNat) C B hi G S (λs v=>mJ w σ s v) I (by omega) (by omega))
      ·cases h
     ·cases h
    ·cases h
   ·cases h
  ·cases h
 ·rename_i t x lo hi B
  exact OA.kJ r (CK C B h g)
 ·rename_i R L x B
  exact OA.kJ r (E7 C B h g)
 ·rename_i c B
  obtain⟨U,args,Qb⟩:=c;simp only at h;split at h
  ·split at h
   ·rename_i x t w O
    split at h
    ·rename_i d' Q
     cases h;have:=tB w;subst this;exact OA.kJ r (IH C B O Q)
    ·cases h
   ·cases h
  ·exact OA.yv Z r B h g
  ·cases h
 ·rename_i c a b q
  split at h
  ·rename_i u;cases h;exact OA.kJ r (aM.pick q u)
  ·rename_i u;cases h;exact OA.kJ r (aM.pick q u)
  ·cases h
 ·rename_i op t y z ty q
  unfold Ks at h;split at h
  ·rename_i a b A F
   split at h
   ·rename_i i hi
    split at h
    ·rename_i G
     split at h
     ·rename_i c u;cases h;exact OA.kJ r (aM.Lx C q hi G A F u)
     ·cases h
    ·cases h
   ·cases h
  ·rename_i a b _ A F
   split at h
   ·split at h
    ·rename_i _ _ a' b' _ _
     cases h;exact OA.kJ r (aM.Ox q A F g.1 g.2)
    ·obtain⟨c,rfl,u⟩:=p0 h;exact OA.kJ r (aM.bits q A F u g)
    ·cases h
   ·split at h
    ·obtain⟨c,rfl,u⟩:=p0 h;exact OA.kJ r (aM.bits q A F u g)
    ·cases h
   ·split at h
    ·obtain⟨c,rfl,u⟩:=p0 h;exact OA.kJ r (aM.bits q A F u g)
    ·cases h
   ·split at h
    ·obtain⟨c,rfl,u⟩:=p0 h;exact OA.kJ r (aM.bits q A F u g)
    ·cases h
   ·split at h
    ·rename_i c K u;cases h;exact OA.kJ r (aM.binOp q A F u g)
    ·cases h
  ·rename_i cs es A F
   split at h
   ·rename_i i hi
    split at h
    ·cases h
    ·rename_i d ds Ut
     split at h
     ·rename_i b J
      split at h
      ·rename_i c u;cases h;exact OA.kJ r (aM.structEq C q hi (by rw[Ut];simp) A F (by rw[Ut];exact J) u)
      ·cases h
     ·cases h
   ·cases h
  ·cases h
 ·rename_i op t y q
  split at h
  ·rename_i a A
   split at h
   ·rename_i c u;cases h;exact OA.kJ r (aM.unOp q A u)
   ·cases h
  ·cases h
 ·rename_i y j q
  split at h
  ·rename_i xs w
   split at h
   ·rename_i e M;cases h;exact OA.kJ r (aM.extract q w (c9 M))
   ·cases h
  ·cases h
 ·rename_i t y f q
  split at h
  ·rename_i k j H
   split at h
   ·rename_i l off w;cases h;exact OA.kJ r (aM.qa C q w H)
   ·rename_i cs w;cases h;exact OA.kJ r (aM.rl C q w H)
   ·cases h
  ·cases h
 ·rename_i t y f q
  split at h
  ·rename_i k j H
   split at h
   ·rename_i cs w
    split at h
    ·rename_i e W;cases h;exact OA.kJ r (aM.field C q w H W)
    ·cases h
   ·cases h
  ·cases h
 ·rename_i y q
  split at h
  ·rename_i l off w;cases h;exact OA.kJ r (aM.rm q w)
  ·rename_i cs w;cases h;exact OA.kJ r (aM.tC q w)
  ·cases h
 ·rename_i t parts q
  split at h
  ·rename_i cs u;cases h;exact OA.kJ r (aM.build C q u)
  ·cases h
 ·rename_i t n parts q
  split at h
  ·rename_i k es u;cases h;exact OA.kJ r (aM.buildSlice C q u)
  ·cases h
 ·rename_i fn a b q
  split at h
  ·rename_i ca A
   split at h
   ·rename_i cb F;cases h;exact OA.kJ r (aM.makeFunc q A F)
   ·cases h
  ·cases h
 ·rename_i t x q
  split at h
  ·rename_i i hi
   split at h
   ·rename_i G
    split at h
    ·rename_i c u;cases h;exact OA.kJ r (aM.makeInterface C q hi G u)
    ·cases h
   ·cases h
  ·cases h
 ·rename_i x xt t q
  split at h
  ·rename_i i hi
   split at h
   ·rename_i G
    split at h
    ·rename_i c w
     split at h
     ·rename_i e b A;cases h;exact OA.kJ r (aM.typeAssert C q hi G w A)
     ·cases h
    ·cases h
   ·cases h
  ·cases h
 ·cases h
theorem Ly(C:cz P T){d:D}{obs:List Prop}(h:Rw T φ o=some (d,obs))(r:aa obs):aM P o (bn φ) σ d σ:=by
 unfold Rw at h;split at h
 ·rename_i t x y A
  split at h
  ·rename_i i hi
   split at h
   ·rename_i E B
    split at h
    ·rename_i Q H
     split at h
     ·rename_i l g k q m kk j w I
      split at h
      ·rename_i L
       cases h;obtain⟨J,K⟩:0<=j/\j<(m:Int):=r;have e:=aO L;subst e;exact aM.Ry C A hi B H w I J K
      ·cases h
     ·rename_i b off n cap kk j w I
      cases h;obtain⟨J,K⟩:0<=j/\j<(n:Int):=r;exact aM.yw C A hi B H w I J K
     ·cases h
    ·cases h
   ·cases h
  ·cases h
 ·rename_i t x f A
  split at h
  ·rename_i k j O
   split at h
   ·rename_i l g Z i q w
    cases h;exact aM.Lz C A w O
   ·rename_i b off w
    cases h;exact aM.LA C A w O
   ·cases h
  ·cases h
 ·rename_i x A
  split at h
  ·rename_i l g Z i q w
   cases h;exact aM.Rz A w
  ·cases h
 ·rename_i t x lo hi A
  split at h
  ·cases h
  rename_i i F
  split at h
  ·cases h
  rename_i lw S
  split at h
  ·cases h
  rename_i u R
  split at h
  ·rename_i E B
   split at h
   ·cases h
   rename_i Q H
   split at h
   ·rename_i l g k q m w
    split at h
    ·rename_i L
     cases h;have e:=aO L;subst e;exact aM.sliceB C A F B H w S R r
    ·cases h
   ·cases h
  ·cases h
 ·rename_i t x y z A
  split at h
  ·cases h
  rename_i i F
  split at h
  ·rename_i E B
   split at h
   ·cases h
   rename_i Q H
   split at h
   ·rename_i tt k n es kj j km m w I W
    cases h;obtain⟨J,K,U⟩:0<=j/\j<=m/\m<=(n:Int):=r;exact aM.slice3 C A F B H (λs v=>mJ w σ s v) I W J K U
   ·cases h
  ·cases h
 ·rename_i c A
  obtain⟨V,args,Y⟩:=c;simp only at h;split at h
  ·split at h
   ·rename_i x t w M
    split at h
    ·rename_i i hi
     split at h
     ·rename_i E B
      split at h
      ·rename_i l g k q m G
       cases h;have:=tB w;subst this;exact aM.RA C A M hi B G
      ·rename_i a n cap G
       cases h;have:=tB w;subst this;exact aM.RB C A M hi B G r
      ·cases h
     ·cases h
    ·cases h
   ·cases h
  ·cases h
 ·cases h
theorem CL(q:cz P T){t:TypeId}{x:Operand}(m:o.op=.load t x){d:D}{obs:List Prop}(h:w8 T φ σ t x=some (d,obs))(a:aa obs):aM P o (bn φ) σ d σ:=by
 unfold w8 at h;split at h
 ·rename_i r hi
  split at h
  ·rename_i l g k i f b
   split at h
   ·rename_i E k' n es hB
    split at h
    ·rename_i j
     have e:=aO j;subst e;split at h
     ·rename_i e c
      cases h;exact aM.yx q m b a.1 (c9 hB) hi c a.2
     ·cases h
    ·cases h
   ·cases h
  ·cases h
 ·cases h
theorem z9(q:cz P T){t:TypeId}{x y:Operand}(j:o.op=.store t x y){d:D}{σ':List aj}{obs:List Prop}(h:xe T φ σ t x y=some (d,σ',obs))(a:aa obs):aM P o (bn φ) σ d σ':=by
 unfold xe at h;split at h
 ·rename_i v hi
  split at h
  ·rename_i l g k i f c
   split at h
   ·rename_i E k' n es hB
    split at h
    ·rename_i s
     have e:=aO s;subst e;split at h
     ·rename_i new hy
      split at h
      ·rename_i m
       split at h
       ·rename_i cc Nu
        split at h
        ·rename_i r
         rw[b8,la] at h;cases h;have b:f=0/\cc.length=k':=by
          cases f with
          |zero=>exact⟨rfl,aO r⟩
          |succ f=>simp[E5] at r
         obtain⟨rfl,b⟩:=b;exact aM.Fa q j c a.1 (c9 hB) hi hy (aO m) Nu (λu=>qb (by rw[u,b])) a.2
        ·split at h
         ·rename_i ci RD
          rw[b8,la] at h;cases h;exact aM.Fa q j c a.1 (c9 hB) hi hy (aO m) Nu (λ_=>RD) a.2
         ·cases h
       ·cases h
      ·cases h
     ·cases h
    ·cases h
   ·cases h
  ·cases h
 ·cases h
theorem LB(g:cz P T)(n:aY X CT){d:D}{obs:List Prop}(h:Is T CT φ σ o=some (d,obs))(c:aa obs)(f:∀ σ s a,bg N σ s φ a->Region.wanted o (yielded all.toArray a.tmps)=true):OA X N all o φ σ d σ:=by
 unfold Is at h;split at h
 ·rename_i t y j
  split at h
  ·rename_i q b
   cases h;unfold EV at b;split at b
   ·rename_i i hi
    split at b
    ·rename_i l off hx
     split at b
     ·rename_i E cs hB
      split at b
      ·rename_i e k;cases b;exact OA.kJ f (aM.BM g j hx (c9 hB) hi k)
      ·cases b
     ·cases b
    ·rename_i cs hx
     split at b
     ·rename_i e k;cases b;exact OA.kJ f (aM.Fb g j hx hi k)
     ·cases b
    ·cases b
   ·cases b
  ·exact OA.kJ f (CL g j h c)
 ·split at h
  ·rename_i r m
   cases h;exact Lw g n m c f
  ·exact OA.kJ f (Ly g h c)
theorem LC(f:cz P T)(m:aY X CT){d:D}{σ':List aj}{obs:List Prop}(h:Oi T CT φ σ o=some (d,σ',obs))(b:aa obs)(e:∀ σ s a,bg N σ s φ a->Region.wanted o (yielded all.toArray a.tmps)=true):OA X N all o φ σ d σ':=by
 unfold Oi at h;split at h
 ·exact OA.kJ e (qE f h b)
 ·exact OA.kJ e (qE f h b)
 ·rename_i t x y k
  split at h
  ·rename_i r i
   cases h;exact OA.kJ e (qE f i b)
  ·exact OA.kJ e (z9 f k h b)
 ·rename_i c g
  obtain⟨q,args,n⟩:=c;simp only at h;split at h
  ·split at h
   ·rename_i x y t u j l
    have:=p9 j;subst this;have:=p9 l;subst this;exact OA.kJ e (IF f g h b)
   ·cases h
  ·exact OA.call m e g h b
  ·cases h
 ·cases h
theorem gp(q:cz P T)(w:aY X CT){ds:List (Nat×Bool)}{d:D}{σ':Option (List aj)}{obs:List Prop}(h:BF T CT ds all φ σ o=some (d,σ',obs))(g:aa obs):OA X N all o φ σ d (σ'.getD σ):=by
 have go:(∀ σ s a,bg N σ s φ a->Region.wanted o (yielded all.toArray a.tmps)=true)->(match Is T CT φ σ o with
  |some (x,obs)=>match EZ ds o.dst x obs with
   |some (y,m)=>mI y λy=>some (y,none,m)
   |none=>none
  |none=>match Rg ds o.dst with
   |true=>match Rx T φ o with
    |some (x,obs)=>mI x λx=>some (x,none,obs)
    |none=>none
   |false=>match Oi T CT φ σ o with
    |some (x,σ',obs)=>mI x λx=>some (x,some σ',obs)
    |none=>none)=some (d,σ',obs)->OA X N all o φ σ d (σ'.getD σ):=by
  intro n h;split at h
  ·rename_i x k B
   split at h
   ·rename_i y v G
    rw[lP] at h;cases h;obtain⟨rfl,H⟩:=IC G g;exact LB q w B H n
   ·cases h
  ·split at h
   ·split at h
    ·rename_i x k e
     rw[lP] at h;cases h;unfold Rx at e;split at e
     ·rename_i c E
      obtain⟨A,args,F⟩:=c;simp only at e;split at e
      ·split at e
       ·rename_i x y t I C z
        have:=p9 C;subst this;have:=p9 z;subst this;exact ID q n E e g
       ·cases e
      ·cases e
     ·cases e
    ·cases h
   ·split at h
    ·rename_i x σ1 k e
     rw[lP] at h;cases h;exact LC q w e g n
    ·cases h
 unfold BF at h;simp only at h;split at h
 ·rename_i i
  exact go (λ_ _ _ _=>cw i) h
 ·rename_i j b i
  split at h
  ·rename_i u l
   have r:∀ σ s a,bg N σ s φ a->Region.wanted o (yielded all.toArray a.tmps)=(some u==some b):=λσ s a f=>by simp only[Region.wanted,i,kp l f]
   split at h
   ·exact go (λσ s a f=>(r σ s a f).trans rfl) h
   ·exact go (λσ s a f=>(r σ s a f).trans rfl) h
   ·cases h;refine OA.pass (λσ s a f=>(r σ s a f).trans ?_)
    cases b <;> cases u <;> simp_all
  ·rename_i l
   cases h;exact OA.pass (λσ s a f=>by simp only[Region.wanted,i,kp l f];rfl)
  ·cases h
end
def Eh(φ:Fr)(o:Oper):Bool:=match o.op with
 |.load _ x=>match bn φ x with
  |.e (.one (.c (.rp _)))=>false
  |_=>true
 |_=>false
theorem EU{T:List (Nat×TI)}{CT:List (Nat×c7)}{φ:Fr}{σ σ2:List aj}{o:Oper}(h:Eh φ o=false):Is T CT φ σ o=Is T CT φ σ2 o:=by
 unfold Is;split
 ·rename_i t x a
  simp only[Eh,a] at h;split at h
  ·rename_i cs hx
   simp only[EV,w8,hx]
  ·cases h
 ·rfl
theorem EW{T:List (Nat×TI)}{CT:List (Nat×c7)}{ds:List (Nat×Bool)}{all:List Oper}{φ:Fr}{σ:List aj}{o:Oper}{d:D}{obs:List Prop}(h:Eh φ o=false)(a:BF T CT ds all φ σ o=some (d,none,obs))(σ2:List aj) :
  BF T CT ds all φ σ2 o=some (d,none,obs):=by
 unfold BF at a ⊢;simp only at a ⊢;rw[EU (σ2:=σ) h];cases c:Is T CT φ σ o with
 |some r=>simp only[c] at a ⊢;exact a
 |none =>
  simp only[c] at a ⊢;cases f:Rg ds o.dst with
  |true=>simp only[f] at a ⊢;exact a
  |false =>
   simp only[f] at a ⊢;have key:∀ {y:Option (D×Option (List aj)×List Prop)},(match Oi T CT φ σ o with|some (x,σ',obs)=>mI x λx=>some (x,some σ',obs)|none=>none)=y->y≠some (d,none,obs):=by
    intro y b e;subst e;split at b
    ·rw[lP] at b;cases b
    ·cases b
   split at a
   ·exact absurd rfl (key a)
   ·split at a
    ·split at a
     ·exact absurd rfl (key a)
     ·exact absurd rfl (key a)
     ·exact a
    ·exact a
    ·cases a
def lQ(t:Nat):List Oper->Bool
 |[]=>false
 |o::r=>match o.dst with
  |some d=>match Nat.beq d t with|true=>true|false=>lQ t r
  |none=>lQ t r
theorem lf{t:Nat}:∀ {l:List Oper}{i:Nat}{o:Oper},l[i]?=some o->o.dst=some t->lQ t l=true
 |[],_,_,h,_=>by simp at h
 |p::r,0,o,h,a=>by
  simp at h;subst h;simp[lQ,a,gT]
 |p::r,i+1,o,h,a=>by
  have:=lf (l:=r) (by simpa using h) a
  simp only[lQ];split
  ·split <;> simp[this]
  ·exact this
theorem je{t:Nat}:∀ {l:List Oper},lQ t l=true->∃ (i:Nat)(o:Oper),l[i]?=some o/\o.dst=some t
 |[],h=>by cases h
 |p::r,h=>by
  simp only[lQ] at h;split at h
  ·rename_i d c
   split at h
   ·rename_i e
    exact⟨0,p,rfl,by rw[c,aO e]⟩
   ·obtain⟨i,o,b,a⟩:=je h;exact⟨i+1,o,by simpa using b,a⟩
  ·obtain⟨i,o,b,a⟩:=je h;exact⟨i+1,o,by simpa using b,a⟩
def jT:List Oper->Bool
 |[]=>true
 |o::r=>match o.dst with
  |some d=>match lQ d r with|true=>false|false=>jT r
  |none=>jT r
theorem ko{t:Nat}:∀ {l:List Oper}{i j:Nat}{o p:Oper},jT l=true->l[i]?=some o->l[j]?=some p->o.dst=some t->p.dst=some t->i=j
 |[],_,_,_,_,_,h,_,_,_=>by simp at h
 |q::r,0,0,_,_,_,_,_,_,_=>rfl
 |q::r,0,j+1,o,p,a,b,c,d1,d2=>by
  simp at b;subst b;simp only[jT,d1] at a;rw[lf (l:=r) (by simpa using c) d2] at a
  cases a
 |q::r,i+1,0,o,p,a,b,c,d1,d2=>by
  simp at c;subst c;simp only[jT,d2] at a;rw[lf (l:=r) (by simpa using b) d1] at a
  cases a
 |q::r,i+1,j+1,o,p,a,b,c,d1,d2=>by
  have:jT r=true:=by
   simp only[jT] at a;split at a
   ·split at a
    ·cases a
    ·exact a
   ·exact a
  have d:r[i]?=some o:=by simpa using b
  have f:r[j]?=some p:=by simpa using c
  have e:=ko this d f d1 d2;omega
def nh(all:List Oper):Fr->Fr
 |[]=>[]
 |(t,d)::r=>match lQ t all with|true=>nh all r|false=>(t,d)::nh all r
theorem eF{all:List Oper}{t:Nat}:∀ {φ:Fr},look (nh all φ) t=if lQ t all=true then .any else look φ t
 |[]=>by simp[nh,look]
 |(u,d)::r=>by
  simp only[nh]
  by_cases c:Nat.beq u t=true
  ·have e:=aO c;subst e;cases b:lQ u all with
   |true=>simp only;rw[eF];simp[b]
   |false=>simp[look]
  ·have a:Nat.beq u t=false:=by cases h:Nat.beq u t with|true=>exact absurd h c|false=>rfl
   cases b:lQ u all with
   |true=>simp only;rw[eF];simp[look,a]
   |false=>simp only[look,a,cond];rw[eF]
def aV:List Edge->List Nat
 |[]=>[]
 |e::r=>match e.ground with
  |.textOnly _=>aV r
  |.gcOnly _=>aV r
  |_=>e.on::aV r
theorem bG{j:Nat}:∀ {l:List Edge},j∈aV l↔∃ e∈l,bd e=true/\e.on=j
 |[]=>by simp[aV]
 |e::r=>by
  have k:=bG (j:=j) (l:=r);have yes:aV (e::r)=e.on::aV r->bd e=true->(j∈aV (e::r)↔∃ d∈e::r,bd d=true/\d.on=j):=by
   intro g i;rw[g,dr,k]
   constructor
   ·rintro(h|⟨d,a,b,c⟩)
    ·exact⟨e,lz,i,h.symm⟩
    ·exact⟨d,im _ a,b,c⟩
   ·rintro⟨d,a,b,c⟩;rcases dr.1 a with rfl|a
    ·exact .inl c.symm
    ·exact .inr ⟨d,a,b,c⟩
  have no:aV (e::r)=aV r->bd e=false->(j∈aV (e::r)↔∃ d∈e::r,bd d=true/\d.on=j):=by
   intro g i;rw[g,k]
   constructor
   ·rintro⟨d,a,b,c⟩;exact⟨d,im _ a,b,c⟩
   ·rintro⟨d,a,b,c⟩;rcases dr.1 a with rfl|a
    ·rw[i] at b;cases b
    ·exact⟨d,a,b,c⟩
  cases f:e.ground with
  |textOnly w=>exact no (by simp only[aV,f]) (by unfold bd Region.binds;rw[f];rfl)
  |gcOnly w=>exact no (by simp only[aV,f]) (by unfold bd Region.binds;rw[f];rfl)
  |_=>exact yes (by simp only[aV,f]) (by unfold bd Region.binds;rw[f])
def rS(i t:Nat):List Oper->Bool
 |[]=>false
 |o::r=>match o.dst with
  |some d=>match Nat.beq d t with
   |true=>match dZ i (aV o.after.toList) with
    |true=>rS i t r
    |false=>true
   |false=>rS i t r
  |none=>rS i t r
theorem tq{i t:Nat}:∀ {l:List Oper},rS i t l=false->∀ (j:Nat)(o:Oper),l[j]?=some o->o.dst=some t->dZ i (aV o.after.toList)=true
 |[],_,j,o,h,_=>by simp at h
 |p::r,h,0,o,a,b=>by
  simp at a;subst a;simp only[rS,b,gT] at h;cases c:dZ i (aV p.after.toList) with
  |true=>rfl
  |false=>simp[c] at h
 |p::r,h,j+1,o,a,b=>by
  have:rS i t r=false:=by
   simp only[rS] at h;split at h
   ·split at h
    ·split at h
     ·exact h
     ·cases h
    ·exact h
   ·exact h
  exact tq this j o (by simpa using a) b
def nF(all:List Oper):Fr->List (Nat×D×Bool)
 |[]=>[]
 |(t,d)::r=>match lQ t all with
  |true=>(t,d,true)::nF all r
  |false=>(t,d,false)::nF all r
def jA(i:Nat)(all:List Oper):List (Nat×D×Bool)->Fr
 |[]=>[]
 |(t,d,b)::r=>match b with
  |false=>(t,d)::jA i all r
  |true=>match rS i t all with
   |true=>jA i all r
   |false=>(t,d)::jA i all r
theorem vv{i:Nat}{all:List Oper}{t:Nat}:∀ {φ:Fr},look (jA i all (nF all φ)) t=if lQ t all=true/\rS i t all=true then .any else look φ t
 |[]=>by simp[nF,jA,look]
 |(u,d)::r=>by
  have h:=vv (i:=i) (all:=all) (t:=t) (φ:=r);have b:look ((u,d)::jA i all (nF all r)) t=if Nat.beq u t=true then d else look (jA i all (nF all r)) t:=by
   simp only[look];cases Nat.beq u t <;> rfl
  have a:look ((u,d)::r) t=if Nat.beq u t=true then d else look r t:=by simp only[look];cases Nat.beq u t <;> rfl
  cases f:lQ u all with
  |false =>
   simp only[nF,f,jA];rw[b,a,h]
   by_cases c:Nat.beq u t=true
   ·have e:=aO c;subst e;simp[f]
   ·simp[c]
  |true =>
   cases g:rS i u all with
   |true =>
    simp only[nF,f,jA,g];rw[a,h]
    by_cases c:Nat.beq u t=true
    ·have e:=aO c;subst e;simp[f,g]
    ·simp[c]
   |false =>
    simp only[nF,f,jA,g];rw[b,a,h]
    by_cases c:Nat.beq u t=true
    ·have e:=aO c;subst e;simp[g]
    ·simp[c]
def hU(m:Nat->Bool):Nat->List (Option Nat×D)->Fr->Fr
 |_,[],φ=>φ
 |i,(d,x)::r,φ=>match m i with
  |true=>match d with
   |some t=>(t,x)::hU m (i+1) r φ
   |none=>hU m (i+1) r φ
  |false=>hU m (i+1) r φ
theorem fj{m:Nat->Bool}{φ:Fr}{t:Nat}:∀ {l:List (Option Nat×D)}{i:Nat},(∃ j x,l[j]?=some (some t,x)/\m (i+j)=true/\look (hU m i l φ) t=x)∨look (hU m i l φ) t=look φ t
 |[],i=>.inr rfl
 |(d,x)::r,i=>by
  have g:=fj (m:=m) (φ:=φ) (t:=t) (l:=r) (i:=i+1);have step:look (hU m i ((d,x)::r) φ) t=look (hU m (i+1) r φ) t->((∃ j b,((d,x)::r)[j]?=some (some t,b)/\m (i+j)=true/\look (hU m i ((d,x)::r) φ) t=b)∨look (hU m i ((d,x)::r) φ) t=look φ t):=by
   intro e;rw[e];rcases g with⟨j,b,k,o,n⟩|h
   ·exact .inl ⟨j+1,b,by simpa using k,by rw[show i+(j+1)=i+1+j by omega];exact o,n⟩
   ·exact .inr h
  cases a:m i with
  |false=>exact step (by simp[hU,a])
  |true =>
   cases d with
   |none=>exact step (by simp[hU,a])
   |some u =>
    by_cases f:Nat.beq u t=true
    ·have e:=aO f;subst e;exact .inl ⟨0,x,rfl,by simpa using a,by simp[hU,a,look]⟩
    ·have c:Nat.beq u t=false:=by cases h:Nat.beq u t with|true=>exact absurd h f|false=>rfl
     exact step (by simp[hU,a,look,c])
structure zH where
 i:Nat
 pre:List (Option Nat×D)
 σ:List aj
 cls:List (List Bool)
 w9:List Bool
 Iu:List Bool
 obs:List Prop
def Ny(i:Nat):List Nat->Bool
 |[]=>true
 |k::r=>match Nat.blt k i with|true=>Ny i r|false=>false
theorem zY{i:Nat}:∀ {l:List Nat},Ny i l=true->∀ k∈l,k<i
 |[],_,k,h=>by simp at h
 |x::r,h,k,b=>by
  simp only[Ny] at h;cases a:Nat.blt x i with
  |false=>simp[a] at h
  |true =>
   simp only[a] at h;rcases dr.1 b with rfl|b
   ·exact cA a
   ·exact zY h k b
def bit:List Bool->Nat->Bool
 |[],_=>false
 |b::_,0=>b
 |_::r,n+1=>bit r n
def u6:List Bool->List Bool->List Bool
 |[],b=>b
 |true::a,[]=>true::a
 |false::a,[]=>false::a
 |true::a,_::b=>true::u6 a b
 |false::a,true::b=>true::u6 a b
 |false::a,false::b=>false::u6 a b
theorem lg:∀ {a b:List Bool}{j:Nat},bit (u6 a b) j=(bit a j||bit b j)
 |[],b,j=>by simp[u6,bit]
 |true::a,[],j=>by simp[u6,bit]
 |false::a,[],j=>by simp[u6,bit]
 |true::a,c::b,0=>by simp[u6,bit]
 |true::a,c::b,j+1=>by simp only[u6,bit];exact lg
 |false::a,true::b,0=>by simp[u6,bit]
 |false::a,true::b,j+1=>by simp only[u6,bit];exact lg
 |false::a,false::b,0=>by simp[u6,bit]
 |false::a,false::b,j+1=>by simp only[u6,bit];exact lg
def qB:Nat->List Bool
 |0=>[true]
 |n+1=>false::qB n
theorem pX:∀ {n j:Nat},bit (qB n) j=decide (n=j)
 |0,0=>rfl
 |0,j+1=>by simp[qB,bit]
 |n+1,0=>by simp[qB,bit]
 |n+1,j+1=>by simp only[qB,bit,pX];simp
def BG(a:List (List Bool)):List Nat->List Bool
 |[]=>[]
 |e::r=>match eW e a with
  |some c=>u6 (u6 c (qB e)) (BG a r)
  |none=>u6 (qB e) (BG a r)
theorem xa{b:List (List Bool)}{j:Nat}:∀ {l:List Nat},bit (BG b l) j=true->∃ e∈l,e=j∨∃ c,b[e]?=some c/\bit c j=true
 |[],h=>by simp[BG,bit] at h
 |e::r,h=>by
  simp only[BG,dY] at h;have d:∀ {a:Nat},bit (qB e) a=true->e=a:=by
   intro a h;rw[pX] at h;simpa using h
  have rest:bit (BG b r) j=true->∃ f∈e::r,f=j∨∃ c,b[f]?=some c/\bit c j=true:=by
   intro h;obtain⟨f,g,k⟩:=xa h;exact⟨f,im _ g,k⟩
  split at h
  ·rename_i c i
   rw[lg,lg,kv,kv] at h;rcases h with(h|h)|h
   ·exact⟨e,by simp,.inr ⟨c,i,h⟩⟩
   ·exact⟨e,by simp,.inl (d h)⟩
   ·exact rest h
  ·rw[lg,kv] at h;rcases h with h|h
   ·exact⟨e,by simp,.inl (d h)⟩
   ·exact rest h
def qC:List Bool->List Bool->Bool
 |[],_=>true
 |true::a,true::b=>qC a b
 |true::_,_=>false
 |false::a,_::b=>qC a b
 |false::a,[]=>qC a []
theorem oo:∀ {a b:List Bool}{j:Nat},qC a b=true->bit a j=true->bit b j=true
 |[],b,j,_,d=>by simp[bit] at d
 |true::a,true::b,0,_,_=>rfl
 |true::a,true::b,j+1,h,d=>by simp only[bit] at d ⊢;exact oo (by simpa[qC] using h) d
 |true::a,false::b,j,h,_=>by simp[qC] at h
 |true::a,[],j,h,_=>by simp[qC] at h
 |false::a,c::b,0,_,d=>by simp[bit] at d
 |false::a,c::b,j+1,h,d=>by simp only[bit] at d ⊢;exact oo (by simpa[qC] using h) d
 |false::a,[],0,_,d=>by simp[bit] at d
 |false::a,[],j+1,h,d=>by
  simp only[bit] at d;have:=oo (j:=j) (by simpa[qC] using h) d
  simp[bit] at this
def pY(T:List (Nat×TI))(CT:List (Nat×c7))(N:Nat)(ds:List (Nat×Bool))(all:List Oper)(φm:List (Nat×D×Bool))(st:zH)(o:Oper):Option zH :=
 match gg N o.dst with
 |false=>none
 |true =>
  cp (aV o.after.toList) λes =>
  match Ny st.i es with
  |false=>none
  |true=>match BF T CT ds all (hU (λj=>dZ j es) 0 st.pre (jA st.i all φm)) st.σ o with
   |none=>none
   |some (x,σ',obs) =>
    cp (BG st.cls es) λa =>
    match σ',Eh (hU (λj=>dZ j es) 0 st.pre (jA st.i all φm)) o with
    |none,false=>cp (st.pre++[(o.dst,x)]) λpre=>cp (st.cls++[a]) λcls=>cp (j6 obs st.obs) λobs=>some ⟨st.i+1,pre,st.σ,cls,st.w9,st.Iu,obs⟩
    |none,true=>match qC st.w9 a with
     |true=>cp (st.pre++[(o.dst,x)]) λpre=>cp (st.cls++[a]) λcls=>cp (j6 obs st.obs) λobs=>cp (u6 st.Iu (qB st.i)) λb=>some ⟨st.i+1,pre,st.σ,cls,st.w9,b,obs⟩
     |false=>none
    |some σ',_=>match qC st.Iu a with
     |true=>cp (st.pre++[(o.dst,x)]) λpre=>cp (st.cls++[a]) λcls=>cp (j6 obs st.obs) λobs=>cp (u6 st.Iu (qB st.i)) λb=>cp (u6 st.w9 (qB st.i)) λc=>some ⟨st.i+1,pre,σ',cls,c,b,obs⟩
     |false=>none
def Iv(T:List (Nat×TI))(CT:List (Nat×c7))(N:Nat)(ds:List (Nat×Bool))(all:List Oper)(φm:List (Nat×D×Bool)):List Oper->zH->Option zH
 |[],st=>some st
 |o::r,st=>match pY T CT N ds all φm st o with
  |some jO=>Iv T CT N ds all φm r jO
  |none=>none
def BH(T:List (Nat×TI))(CT:List (Nat×c7))(N:Nat)(ds:List (Nat×Bool))(all:List Oper)(φ:Fr)(σ:List aj):Option (Fr×List aj×List Prop) :=
 match jT all with
 |false=>none
 |true=>cp (nF all φ) λφm=>match Iv T CT N ds all φm all ⟨0,[],σ,[],[],[],[]⟩ with
  |some st=>cp (hU (λ_=>true) 0 st.pre (nh all φ)) λa=>some (a,st.σ,st.obs)
  |none=>none
end Go.AM
namespace Go.AM
open Go.Conc (G)
def dN:Oper:=⟨none,.move (.tmp 0),0,"",#[],none⟩
section
variable (T:List (Nat×TI))(CT:List (Nat×c7))(N:Nat)(ds:List (Nat×Bool))(all:List Oper)(φm:List (Nat×D×Bool))
def u7(st:zH):Nat->zH
 |0=>st
 |i+1=>(pY T CT N ds all φm (u7 st i) (all.getD i dN)).getD (u7 st i)
def HY(st:zH)(i:Nat):Fr:=hU (λj=>dZ j (aV (all.getD i dN).after.toList)) 0 (u7 T CT N ds all φm st i).pre (jA (u7 T CT N ds all φm st i).i all φm)
def BI(st:zH)(i:Nat):Option (D×Option (List aj)×List Prop):=BF T CT ds all (HY T CT N ds all φm st i) (u7 T CT N ds all φm st i).σ (all.getD i dN)
def xD(st:zH)(i:Nat):D:=match BI T CT N ds all φm st i with|some (x,_,_)=>x|none=>.any
def ni(st:zH)(i:Nat):Bool:=match BI T CT N ds all φm st i with|some (_,some _,_)=>true|_=>false
def rj(st:zH)(i:Nat):Bool:=!Eh (HY T CT N ds all φm st i) (all.getD i dN)&&!ni T CT N ds all φm st i
def Ko(st:zH)(i:Nat):List Bool:=BG (u7 T CT N ds all φm st i).cls (aV (all.getD i dN).after.toList)
end
section
variable {T:List (Nat×TI)}{CT:List (Nat×c7)}{N:Nat}{ds:List (Nat×Bool)}{all:List Oper}{φm:List (Nat×D×Bool)}
structure EX (T:List (Nat×TI))(CT:List (Nat×c7))(N:Nat)(ds:List (Nat×Bool))(all:List Oper)(φm:List (Nat×D×Bool))(st jO:zH)(o:Oper)(x:D)(σ':Option (List aj))(obs:List Prop):Prop where
 dst:gg N o.dst=true
 lt:Ny st.i (aV o.after.toList)=true
 op:BF T CT ds all (hU (λj=>dZ j (aV o.after.toList)) 0 st.pre (jA st.i all φm)) st.σ o=some (x,σ',obs)
 i:jO.i=st.i+1
 pre:jO.pre=st.pre++[(o.dst,x)]
 cls:jO.cls=st.cls++[BG st.cls (aV o.after.toList)]
 σ:jO.σ=σ'.getD st.σ
 obs:jO.obs=j6 obs st.obs
 Wh:jO.w9=if σ'.isSome=true then u6 st.w9 (qB st.i) else st.w9
 nf:jO.Iu=if (Eh (hU (λj=>dZ j (aV o.after.toList)) 0 st.pre (jA st.i all φm)) o||σ'.isSome)=true then u6 st.Iu (qB st.i) else st.Iu
 load:Eh (hU (λj=>dZ j (aV o.after.toList)) 0 st.pre (jA st.i all φm)) o=true->σ'.isSome=false->qC st.w9 (BG st.cls (aV o.after.toList))=true
 j5:σ'.isSome=true->qC st.Iu (BG st.cls (aV o.after.toList))=true
theorem yu{st jO:zH}{o:Oper}(h:pY T CT N ds all φm st o=some jO):∃ x σ' obs,EX T CT N ds all φm st jO o x σ' obs:=by
 unfold pY at h;split at h
 ·cases h
 rename_i d
 simp only[b8] at h;split at h
 ·cases h
 rename_i a
 split at h
 ·cases h
 rename_i x σ' obs fP
 refine⟨x,σ',obs,?_⟩;cases σ' with
 |none =>
  cases b:Eh (hU (λj=>dZ j (aV o.after.toList)) 0 st.pre (jA st.i all φm)) o with
  |false =>
   simp only[b,b8] at h;cases h;exact⟨d,a,fP,rfl,rfl,rfl,rfl,rfl,by simp,by simp[b],by simp[b],by simp⟩
  |true =>
   simp only[b,b8] at h;split at h
   ·rename_i c
    cases h;exact⟨d,a,fP,rfl,rfl,rfl,rfl,rfl,by simp,by simp[b],λ_ _=>c,by simp⟩
   ·cases h
 |some σ' =>
  simp only[b8] at h;split at h
  ·rename_i c
   cases h;exact⟨d,a,fP,rfl,rfl,rfl,rfl,rfl,by simp,by simp,by simp,λ_=>c⟩
  ·cases h
theorem BJ{st sf:zH}:∀ {rest:List Oper}{k:Nat},(∀ i,rest[i]?=all[k+i]?)->Iv T CT N ds all φm rest (u7 T CT N ds all φm st k)=some sf ->
  (∀ i o,rest[i]?=some o->pY T CT N ds all φm (u7 T CT N ds all φm st (k+i)) o=some (u7 T CT N ds all φm st (k+i+1)))/\u7 T CT N ds all φm st (k+rest.length)=sf
 |[],k,_,h=>by
  cases h;exact⟨by simp,rfl⟩
 |p::r,k,c,h=>by
  simp only[Iv] at h;have d:all[k]?=some p:=by have:=c 0;simpa using this.symm
  split at h
  ·rename_i b a
   have e:u7 T CT N ds all φm st (k+1)=b:=by
    simp only[u7,List.getD_eq_getElem?_getD,d,cK,a]
   rw[<-e] at h;obtain⟨f,g⟩:=BJ (rest:=r) (k:=k+1) (λi=>by have:=c (i+1);simpa[kZ,j3 1] using this) h
   refine⟨λi o hi=>?_,by rw[<-g];congr 1;simp;omega⟩
   cases i with
   |zero=>simp at hi;subst hi;simpa[e] using a
   |succ i =>
    have:=f i o (by simpa using hi)
    rw[show k+(i+1)=k+1+i by omega]
    exact this
  ·cases h
theorem tr{j:Nat}:∀ {l:List Nat},dZ j l=true->j∈l:=by
 intro l
 induction l with
 |nil=>intro h;cases h
 |cons a r c =>
  intro h;simp only[dZ] at h;cases b:Nat.beq j a with
  |true=>rw[aO b];exact lz
  |false=>simp[b] at h;exact im _ (c h)
theorem EY{P:Program}{X:Cx P}(hf:P.follows Departure.mixedOrders=true)(hT:cz P T)(hC:aY X CT){ops:Array Oper}{φ φ':Fr}{σ σ':List aj}{obs:List Prop}(h:BH T CT N ds ops.toList φ σ=some (φ',σ',obs))(Rh:aa obs){Q:Post}(hQ:Q .normal φ' σ')(id:Nat) :
  AW X N (.region id ops true) Q φ σ:=by
 unfold BH at h;split at h
 ·cases h
 rename_i Oj
 rw[b8] at h;split at h
 case h_2=>cases h
 rename_i sf pP
 rw[b8] at h;cases h;generalize Y:ops.toList=all at *;generalize Ri:nF all φ=φm at *;have y:∀ i:Nat,ops[i]?=all[i]?:=λi=>by rw[<-Y,kt]
 have Eg:ops.size=all.length:=by rw[<-Y];simp
 let g:zH:=⟨0,[],σ,[],[],[],[]⟩
 obtain⟨iR,I⟩:=BJ (T:=T) (CT:=CT) (N:=N) (ds:=ds) (φm:=φm) (st:=g) (rest:=all) (k:=0) (λi=>by simp) pP
 simp only[aw] at iR I
 let F:=u7 T CT N ds all φm g
 have q:∀ i o,all[i]?=some o->all.getD i dN=o:=λi o h=>by simp[List.getD_eq_getElem?_getD,h]
 have Rj:∀ i o,all[i]?=some o->HY T CT N ds all φm g i=(hU (λj=>dZ j (aV (o).after.toList)) 0 (F i).pre (jA (F i).i all φm)):=λi o h=>by
  unfold HY;rw[q i o h]
 have n:∀ i o,all[i]?=some o->∃ S,EX T CT N ds all φm (F i) (F (i+1)) o (xD T CT N ds all φm g i) (if ni T CT N ds all φm g i=true then some (F (i+1)).σ else none) S:=by
  intro i o u;obtain⟨x,σ1,S,r⟩:=yu (iR i o u);have R:=r.op;have hR:BI T CT N ds all φm g i=some (x,σ1,S):=by
   unfold BI HY;rw[q i o u];exact R
  have hx:xD T CT N ds all φm g i=x:=by unfold xD;rw[hR]
  cases σ1 with
  |none =>
   have A:ni T CT N ds all φm g i=false:=by unfold ni;rw[hR]
   exact⟨S,by rw[hx,A];exact r⟩
  |some σ2 =>
   have A:ni T CT N ds all φm g i=true:=by unfold ni;rw[hR]
   have Rl:(F (i+1)).σ=σ2:=r.σ;exact⟨S,by rw[hx,A,an rfl,Rl];exact r⟩
 have V:∀ i,i<=all.length->(F i).i=i:=by
  intro i
  induction i with
  |zero=>intro _;rfl
  |succ i K =>
   intro hi;obtain⟨_,r⟩:=n i _ (ai (by omega))
   rw[r.i,K (by omega)]
 have Ol:∀ i,i<=all.length->∀ j,(F i).pre[j]?=if j<i then (all[j]?).map (λo=>(o.dst,xD T CT N ds all φm g j)) else none:=by
  intro i
  induction i with
  |zero=>intro _ j;simp[F,u7,g]
  |succ i K =>
   intro hi j;obtain⟨_,r⟩:=n i _ (ai (by omega))
   have hlen:(F i).pre.length=i:=by
    apply Nat.le_antisymm
    ·apply Nat.le_of_not_lt
     intro G;have:=K (by omega) i
     rw[ak (by omega),r9] at this
     omega
    ·cases i with
     |zero=>omega
     |succ k =>
      have:=K (by omega) k
      rw[an (by omega),ai (by omega:k<all.length)] at this
      exact(aD.1 this).1
   rw[r.pre]
   by_cases M:j<i
   ·rw[bc (by omega),K (by omega) j,an M,an (by omega)]
   ·rw[ck (by omega)]
    by_cases e:j=i
    ·subst e;simp[hlen,ai (by omega:j<all.length)]
    ·rw[ak (by omega),eQ (by simp;omega)]
 have Rm:∀ i,i<=all.length->∀ j,(F i).cls[j]?=if j<i then some (Ko T CT N ds all φm g j) else none:=by
  intro i
  induction i with
  |zero=>intro _ j;simp[F,u7,g]
  |succ i K =>
   intro hi j;obtain⟨_,r⟩:=n i _ (ai (by omega))
   have hlen:(F i).cls.length=i:=by
    apply Nat.le_antisymm
    ·apply Nat.le_of_not_lt
     intro G;have:=K (by omega) i
     rw[ak (by omega),r9] at this
     omega
    ·cases i with
     |zero=>omega
     |succ k =>
      have:=K (by omega) k
      rw[an (by omega)] at this
      exact(aD.1 this).1
   rw[r.cls]
   by_cases M:j<i
   ·rw[bc (by omega),K (by omega) j,an M,an (by omega)]
   ·rw[ck (by omega)]
    by_cases e:j=i
    ·subst e;rw[an (by omega),hlen,n6]
     simp only[l8,Ko,q j _ (ai (by omega:j<all.length))]
     rfl
    ·rw[ak (by omega),eQ (by simp;omega)]
 have Rn:∀ i,i<=all.length->∀ j,bit (F i).w9 j=(decide (j<i)&&ni T CT N ds all φm g j):=by
  intro i
  induction i with
  |zero=>intro _ j;simp[F,u7,g,bit]
  |succ i K =>
   intro hi j;obtain⟨_,r⟩:=n i _ (ai (by omega))
   rw[r.Wh];cases A:ni T CT N ds all φm g i with
   |false =>
    simp only[gI,aW,Option.isSome_none];rw[K (by omega) j]
    by_cases e:j=i
    ·subst e;simp[A]
    ·have:(j<i+1)↔j<i:=by omega
     simp[this]
   |true =>
    simp only[aX,Option.isSome_some];rw[lg,K (by omega) j,pX,V i (by omega)]
    by_cases e:j=i
    ·subst e;simp[A]
    ·have:(j<i+1)↔j<i:=by omega
     have C:¬i=j:=λh=>e h.symm
     simp[this,C]
 have Uq:∀ i,i<=all.length->∀ j,bit (F i).Iu j=(decide (j<i)&&!rj T CT N ds all φm g j):=by
  intro i
  induction i with
  |zero=>intro _ j;simp[F,u7,g,bit]
  |succ i K =>
   intro hi j;obtain⟨_,r⟩:=n i _ (ai (by omega))
   have Om:(if ni T CT N ds all φm g i=true then some (F (i+1)).σ else none).isSome=ni T CT N ds all φm g i:=by cases ni T CT N ds all φm g i <;> rfl
   have zF:rj T CT N ds all φm g i=!(Eh (hU (λj=>dZ j (aV (all[i]'(by omega)).after.toList)) 0 (F i).pre (jA (F i).i all φm)) (all[i]'(by omega))||ni T CT N ds all φm g i):=by
    unfold rj;rw[Rj i _ (ai (by omega)),q i _ (ai (by omega))]
    simp
   rw[r.nf,Om];cases A:(Eh (hU (λj=>dZ j (aV (all[i]'(by omega)).after.toList)) 0 (F i).pre (jA (F i).i all φm)) (all[i]'(by omega))||ni T CT N ds all φm g i) with
   |false =>
    simp only[gI,aW];rw[K (by omega) j]
    by_cases e:j=i
    ·subst e;simp[zF,A]
    ·have:(j<i+1)↔j<i:=by omega
     simp[this]
   |true =>
    simp only[aX];rw[lg,K (by omega) j,pX,V i (by omega)]
    by_cases e:j=i
    ·subst e;simp[zF,A]
    ·have:(j<i+1)↔j<i:=by omega
     have C:¬i=j:=λh=>e h.symm
     simp[this,C]
 have On:∀ i,i<=all.length->aa (F i).obs:=by
  have back:∀ k i,i+k=all.length->aa (F i).obs:=by
   intro k
   induction k with
   |zero =>
    intro i hi;have:F i=sf:=by rw[<-I];simp[F,<-hi]
    rw[this];exact Rh
   |succ k K =>
    intro i hi;obtain⟨_,r⟩:=n i _ (ai (by omega))
    have:=K (i+1) (by omega)
    rw[r.obs,aa.cat] at this;exact this.2
  intro i hi;exact back (all.length-i) i (by omega)
 have Wi:∀ i o,all[i]?=some o->OA X N all o (HY T CT N ds all φm g i) (F i).σ (xD T CT N ds all φm g i) (F (i+1)).σ:=by
  intro i o u;have hi:i<all.length:=(aD.1 u).1;obtain⟨_,r⟩:=n i o u;have Kp:=On (i+1) (by omega)
  rw[r.obs,aa.cat] at Kp;have:=gp (P:=P) (N:=N) hT hC r.op Kp.1;rw[r.σ];unfold HY;rw[q i o u];exact this
 let idx:Nat->Option Nat:=λt=>(List.range all.length).find? (λi=>decide ((all.getD i dN).dst=some t))
 have z:∀ t j,idx t=some j->∃ o,all[j]?=some o/\o.dst=some t:=by
  intro t j hj;have E:=pD hj;have C:j<all.length:=by simpa using nZ hj
  refine⟨all[j],ai C,?_⟩;simpa[ai C] using E
 have O:∀ i o d,all[i]?=some o->o.dst=some d->idx d=some i:=by
  intro i o d u hd;have hi:i<all.length:=(aD.1 u).1;cases hx:idx d with
  |none =>
   have:=kW.1 hx i (by simpa using hi)
   simp[u,hd] at this
  |some j =>
   obtain⟨p,Iw,BK⟩:=z d j hx;rw[ko Oj Iw u BK hd]
 have W:∀ t,lQ t all=true↔∃ j,idx t=some j:=by
  intro t
  constructor
  ·intro h;obtain⟨i,o,E,C⟩:=je h;exact⟨i,O i o t E C⟩
  ·rintro⟨j,hj⟩;obtain⟨o,E,C⟩:=z t j hj;exact lf E C
 have J:∀ i o,all[i]?=some o->∀ e∈o.after,bd e=true->e.on<i:=by
  intro i o u e A hb;have hi:i<all.length:=(aD.1 u).1;obtain⟨_,r⟩:=n i o u;have:=zY r.lt e.on (bG.2 ⟨e,by simpa using A,hb,rfl⟩)
  rw[V i (by omega)] at this
  exact this
 have Kq:=J;have hd:tp X N ops φ (λi=>(F i).σ) (xD T CT N ds all φm g) (HY T CT N ds all φm g) (rj T CT N ds all φm g) (λi=>decide (i<all.length)&&ni T CT N ds all φm g i) (λi j=>i<all.length/\bit (Ko T CT N ds all φm g i) j=true) idx (hU (λ_=>true) 0 sf.pre (nh all φ)):=by
  refine⟨hf,?_,?_,?_,?_,?_,?_,?_,?_,?_,?_⟩
  ·intro i o u;rw[y] at u;exact Kq i o u
  ·intro i o d u hd;rw[y] at u;obtain⟨_,r⟩:=n i o u;exact⟨O i o d u hd,et r.dst d hd⟩
  ·intro d i h;obtain⟨o,E,C⟩:=z d i h;exact⟨o,by rw[y];exact E,C⟩
  ·intro i A;rcases bz i all.length with hi|hi
   ·obtain⟨_,r⟩:=n i _ (ai hi);have:ni T CT N ds all φm g i=false:=by simpa[hi] using A
    have hσ:=r.σ;rw[this] at hσ;simpa using hσ
   ·have h0:all.getD i dN=dN:=by simp[List.getD_eq_getElem?_getD,eQ hi]
    show (F (i+1)).σ=(F i).σ;have:pY T CT N ds all φm (F i) dN=none∨∃ s',pY T CT N ds all φm (F i) dN=some s':=by
     cases pY T CT N ds all φm (F i) dN with
     |none=>exact .inl rfl
     |some s'=>exact .inr ⟨s',rfl⟩
    show ((pY T CT N ds all φm (F i) (all.getD i dN)).getD (F i)).σ=(F i).σ;rw[h0];rcases this with h|⟨s',h⟩
    ·rw[h];rfl
    ·rw[h];obtain⟨x,σ1,ob,r⟩:=yu h;have R:=r.op;have:σ1=none:=by
      unfold BF at R;simp only[dN,Is,Qi,EZ,lP] at R;cases R;rfl
     rw[cK,r.σ,this];rfl
  ·intro i o u _;rw[y] at u;have:=Wi i o u;rw[<-Y] at this ⊢;exact this
  ·intro i o u U;rw[y] at u;have hi:i<all.length:=(aD.1 u).1;have B:Eh (hU (λj=>dZ j (aV (o).after.toList)) 0 (F i).pre (jA (F i).i all φm)) o=false/\ni T CT N ds all φm g i=false:=by
    unfold rj at U;rw[Rj i o u,q i o u] at U;simpa using U
   refine⟨by simp[B.2],λk=>?_⟩
   obtain⟨ob,r⟩:=n i o u;have R:=r.op;rw[B.2] at R;have Ro:=EW B.1 (by simpa using R) (F k).σ
   have Kp:=On (i+1) (by omega)
   rw[r.obs,aa.cat] at Kp;have:=gp (P:=P) (N:=N) hT hC Ro Kp.1;rw[Y];unfold HY;rw[q i o u];exact this
  ·intro L hL i j ⟨hi,hb⟩;have gf:∀ i,i<all.length->L i->∀ e,e∈aV (all.getD i dN).after.toList->L e:=by
    intro i hi Rp e A;rw[q i _ (ai hi)] at A;obtain⟨e',E,C,rfl⟩:=bG.1 A;exact hL i all[i] (by rw[y];exact ai hi) Rp e' (by simpa using E) C
   have key:∀ i,i<all.length->∀ j,bit (Ko T CT N ds all φm g i) j=true->(∀ e∈aV (all.getD i dN).after.toList,L e)->L j:=by
    intro i
    induction i using Nat.strongRecOn with
    |_ i K =>
     intro hi j hb NA;obtain⟨e,A,h⟩:=xa hb;have G:e<i:=by
      have HV:=A;rw[q i _ (ai hi)] at HV;obtain⟨e',E,C,rfl⟩:=bG.1 HV;exact Kq i _ (ai hi) e' (by simpa using E) C
     rcases h with rfl|⟨c,hc,Ef⟩
     ·exact NA _ A
     ·have:=Rm i (by omega) e
      rw[an G] at this;have Wj:(F i).cls[e]?=some c:=hc;rw[Wj] at this;cases this;exact K e G (by omega) j Ef (gf e (by omega) (NA e A))
   refine⟨λRp=>key i hi j hb (gf i hi Rp),all[i],by rw[y];exact ai hi,λRq=>key i hi j hb ?_⟩
   intro e A;rw[q i _ (ai hi)] at A;obtain⟨e',E,C,rfl⟩:=bG.1 A;exact Rq e' (by simpa using E) C
  ·intro i f hi HX A qA Qj;rw[Eg] at hi HX;have HV:ni T CT N ds all φm g f=true:=by simpa[HX] using A
   rcases bz f i with G|No
   ·refine .inl ⟨G,hi,?_⟩;obtain⟨_,r⟩:=n i _ (ai hi);have zE:Ko T CT N ds all φm g i=BG (F i).cls (aV (all[i]).after.toList):=by unfold Ko;rw[q i _ (ai hi)]
    rw[zE];cases Rr:ni T CT N ds all φm g i with
    |true =>
     have E:=r.j5 (by rw[Rr];rfl)
     refine oo E ?_;rw[Uq i (by omega) f]
     have:rj T CT N ds all φm g f=false:=by unfold rj;simp[HV]
     simp[G,this]
    |false =>
     have Qk:Eh (hU (λj=>dZ j (aV (all[i]).after.toList)) 0 (F i).pre (jA (F i).i all φm)) all[i]=true:=by
      unfold rj at Qj;rw[Rj i _ (ai hi),q i _ (ai hi),Rr] at Qj;simpa using Qj
     have E:=r.load Qk (by rw[Rr];rfl)
     refine oo E ?_;rw[Rn i (by omega) f]
     simp[G,HV]
   ·have G:i<f:=by omega
    refine .inr ⟨G,HX,?_⟩;obtain⟨_,r⟩:=n f _ (ai HX);have zE:Ko T CT N ds all φm g f=BG (F f).cls (aV (all[f]).after.toList):=by unfold Ko;rw[q f _ (ai HX)]
    rw[zE];have E:=r.j5 (by rw[HV];rfl)
    refine oo E ?_;rw[Uq f (by omega) i]
    simp[G,Qj]
  ·intro i o u t σ s v Z;rw[y] at u;have hi:i<all.length:=(aD.1 u).1;unfold HY;rw[q i o u];rcases fj (m:=λj=>dZ j (aV o.after.toList)) (φ:=jA (F i).i all φm) (t:=t) (l:=(F i).pre) (i:=0) with⟨j,x,E,C,h3⟩|h3
   ·have Rs:look (hU (λj=>dZ j (aV o.after.toList)) 0 (u7 T CT N ds all φm g i).pre (jA (u7 T CT N ds all φm g i).i all φm)) t=x:=h3
    rw[Rs];have hp:=Ol i (by omega) j
    rw[E] at hp;have M:j<i:=by
     apply Nat.lt_of_not_le;intro hle;rw[ak (by omega)] at hp;cases hp
    rw[an M,ai (by omega:j<all.length)] at hp
    simp only[gk,bO,hJ] at hp;obtain⟨Iw,BK⟩:=hp;have H:=O j _ t (ai (by omega:j<all.length)) Iw.symm
    rw[H] at Z;simp only at Z;rw[an] at Z
    ·rw[BK];exact Z
    ·have Rt:j∈aV o.after.toList:=by
      simp only[aw] at C;exact tr C
     obtain⟨e,a,b,c⟩:=bG.1 Rt;exact⟨e,by simpa using a,b,c⟩
   ·have Rs:look (hU (λj=>dZ j (aV o.after.toList)) 0 (u7 T CT N ds all φm g i).pre (jA (u7 T CT N ds all φm g i).i all φm)) t=look (jA (F i).i all φm) t:=h3
    rw[Rs,V i (by omega),<-Ri,vv]
    split
    ·trivial
    ·rename_i Oo
     cases H:idx t with
     |some j =>
      have hD:=(W t).2 ⟨j,H⟩;have hN:rS i t all=false:=by
       cases hn:rS i t all with
       |false=>rfl
       |true=>exact absurd ⟨hD,hn⟩ Oo
      obtain⟨oj,Ru,Wk⟩:=z t j H;have hm:=tr (tq hN j oj Ru Wk);obtain⟨e,A,hb,heq⟩:=bG.1 hm;rw[H] at Z;simp only at Z;split at Z
      ·
       rename_i hex
       obtain⟨e2,Rv,Wl,Wm⟩:=hex;have b1:=J i o u e2 Rv Wl;have b2:=J j oj Ru e (by simpa using A) hb
       omega
      ·rw[an ⟨oj,by rw[y];exact Ru,e,by simpa using A,hb,heq⟩] at Z
       exact Z
     |none=>simpa[H] using Z
  ·intro t σ s v Z;have hF:F all.length=sf:=I;rcases fj (m:=λ_=>true) (φ:=nh all φ) (t:=t) (l:=sf.pre) (i:=0) with⟨j,x,E,_,h3⟩|h3
   ·rw[h3];have hp:=Ol all.length (ar _) j;rw[hF,E] at hp;have M:j<all.length:=by
     apply Nat.lt_of_not_le;intro hle;rw[ak (by omega)] at hp;cases hp
    rw[an M,ai M] at hp;simp only[gk,bO,hJ] at hp;obtain⟨Iw,BK⟩:=hp;rw[O j _ t (ai M) Iw.symm] at Z;rw[BK];exact Z
   ·rw[h3,eF];split
    ·trivial
    ·rename_i Oo
     cases H:idx t with
     |some j=>exact absurd ((W t).2 ⟨j,H⟩) Oo
     |none=>simpa[H] using Z
 intro s a zF hh b kk cs SS hb Ix;have Ld:F ops.size=sf:=by rw[Eg];exact I
 refine .next rfl λs1 zG=>?_
 have zG:=X.fz zG;have Oq:=hh.rely zG;have Lq:=zF.rely zG hh;have Lr:Step σ s1 σ { s1 with w:={ s1.w with drawn:=s1.w.drawn+1 } }:=Step.same rfl rfl rfl rfl;have yb:ag σ { s1 with w:={ s1.w with drawn:=s1.w.drawn+1 } }:=Oq.same rfl;have Iy:=zG.stepW.trans (Lr.lD Oq);refine⟨_,{ s1 with w:={ s1.w with drawn:=s1.w.drawn+1 } },#[],fi,⟨⟨σ,σ,Oq,yb,Lr⟩,.nil⟩,?_⟩;simp only[Region.schedule,hf,n7,aX];refine hd.arr hb (s0:={ s1 with w:={ s1.w with drawn:=s1.w.drawn+1 } }) (λs2 a2 f2 C lB=>?_) ops.size _ (by simp) ?_ ?_ 0 _ a (by omega) ?_ ?_ yb (.refl _ _) _
 ·simp only[Ld] at f2 C lB;exact Ix .normal _ _ s2 a2 hQ f2 C (Iy.trans lB)
 ·simp
 ·intro i o u hi;simp[bM,eP] at hi;split at hi <;> simp at hi
 ·intro f HX Us;simp[bM,eP];split <;> simp
 ·have B:=Lq.mono (Lr.lD Oq) Oq.len;refine⟨B.size,B.defers,λt=>?_⟩
  unfold cX;cases H:idx t with
  |none=>exact B.slot t
  |some j =>
   simp only;rw[ak]
   ·exact B.slot t
   ·simp[bM,eP];split <;> simp
end
end Go.AM
namespace Go.AM
section
variable {P:Program}{X:Cx P}{N:Nat}{Qf:Post}{K:List It}{φ:Fr}{σ:List aj}
theorem AK.draw{T:List (Nat×TI)}{CT:List (Nat×c7)}(c:P.follows Departure.mixedOrders=true)(d:cz P T)(hC:aY X CT){ds:List (Nat×Bool)}{ops:Array Oper}{a:Fr}{σ':List aj}{obs:List Prop}{id:Nat}
  (h:BH T CT N ds ops.toList φ σ=some (a,σ',obs)) (b:aa obs) (k:AK X N Qf K .normal a σ'):AK X N Qf (.code (.region id ops true)::K) .normal φ σ :=
 EY c d hC h b k id
end
def B4(T:List (Nat×TI))(CT:List (Nat×c7))(ds:List (Nat×Bool))(N:Nat)(K:List It)(φ:Fr)(σ:List aj):Option (List It×Fr×List aj×List Prop) :=
 match K with
 |[]=>none
 |.blk _::K=>some (K,φ,σ,[])
 |.ops _ []::K=>some (K,φ,σ,[])
 |.ops all (o::rest)::K=>match gg N o.dst with
  |true=>match BF T CT ds all φ σ o with
   |some (x,none,obs)=>cp (iP o.dst x φ) λφ=>some (.ops all rest::K,φ,σ,obs)
   |some (x,some σ',obs)=>cp (iP o.dst x φ) λφ=>some (.ops all rest::K,φ,σ',obs)
   |none=>none
  |false=>none
 |.code c::K=>match c with
  |.skip=>some (K,φ,σ,[])
  |.seq x y=>some (.code x::.code y::K,φ,σ,[])
  |.block id c=>some (.code c::.blk id::K,φ,σ,[])
  |.region id ops d=>match BL ds (id+1000000) with
   |some _=>none
   |none=>match d with
    |false=>some (.ops ops.toList ops.toList::K,φ,σ,[])
    |true=>match BH T CT N ds ops.toList φ σ with
     |some (a,σ',obs)=>some (K,a,σ',obs)
     |none=>none
  |.exit id=>match iT id K with
   |some K'=>some (K',φ,σ,[])
   |none=>none
  |.cond (.tmp t) x y=>match look φ t with
   |.e (.one (.c (.bool true)))=>some (.code x::K,φ,σ,[])
   |.e (.one (.c (.bool false)))=>some (.code y::K,φ,σ,[])
   |_=>none
  |_=>none
theorem FY{P:Program}{X:Cx P}(p:P.follows Departure.mixedOrders=true){T:List (Nat×TI)}(f:cz P T){CT:List (Nat×c7)}(i:aY X CT){ds:List (Nat×Bool)}{N:Nat}{Qf:Post}{K n:List It}{φ b:Fr}{σ σ':List aj}{obs:List Prop}
  (h:B4 T CT ds N K φ σ=some (n,b,σ',obs)) (j:aa obs) (k:AK X N Qf n .normal b σ'):AK X N Qf K .normal φ σ:=by
 unfold B4 at h;split at h
 ·cases h
 ·cases h;exact AK.FU k
 ·cases h;exact AK.FV k
 ·rename_i all o rest K0
  cases d:gg N o.dst with
  |false=>simp[d] at h
  |true =>
   simp only[d] at h;have m:=et d;split at h
   ·rename_i x a g
    rw[b8] at h;cases h;exact dM.rW (gp f i g j) m k
   ·rename_i x σ1 a g
    rw[b8] at h;cases h;exact dM.rW (gp f i g j) m k
   ·cases h
 ·rename_i c K0
  split at h
  ·cases h;exact AK.skip k
  ·cases h;exact AK.seq k
  ·cases h;exact AK.block k
  ·split at h
   ·cases h
   ·split at h
    ·cases h;exact AK.region k
    ·split at h
     ·rename_i q σ1 a d
      cases h;exact AK.draw p f i d j k
     ·cases h
  ·split at h
   ·rename_i s r;cases h;exact AK.exit r k
   ·cases h
  ·rename_i t x y
   split at h
   ·rename_i l;cases h;exact AK.cond rfl l (λ_=>k) (λe=>by cases e)
   ·rename_i l;cases h;exact AK.cond rfl l (λe=>by cases e) (λ_=>k)
   ·cases h
  ·cases h
def qh(T:List (Nat×TI))(CT:List (Nat×c7))(ds:List (Nat×Bool))(N:Nat):Nat->List It->Fr->List aj->List Prop->Option (List It×Fr×List aj×List Prop)
 |0,K,φ,σ,obs=>cp obs λobs=>some (K,φ,σ,obs)
 |n+1,K,φ,σ,obs=>match B4 T CT ds N K φ σ with
  |some (b,a,σ',o)=>qh T CT ds N n b a σ' (j6 o obs)
  |none=>cp obs λobs=>some (K,φ,σ,obs)
theorem B5{P:Program}{X:Cx P}(f:P.follows Departure.mixedOrders=true){T:List (Nat×TI)}(g:cz P T){CT:List (Nat×c7)}(i:aY X CT){ds:List (Nat×Bool)}{N:Nat}{Qf:Post}:∀ {n:Nat}{K c:List It}{φ a:Fr}{σ σ':List aj}{obs rU:List Prop},
  qh T CT ds N n K φ σ obs=some (c,a,σ',rU)->aa rU->AK X N Qf c .normal a σ'->AK X N Qf K .normal φ σ/\aa obs
 |0,K,c,φ,a,σ,σ',obs,rU,h,b,k=>by
  simp only[qh,b8] at h;cases h;exact⟨k,b⟩
 |n+1,K,c,φ,a,σ,σ',obs,rU,h,b,k=>by
  simp only[qh] at h;cases d:B4 T CT ds N K φ σ with
  |none =>
   simp only[d,b8] at h;cases h;exact⟨k,b⟩
  |some r =>
   obtain⟨o,j,σ1,m⟩:=r;simp only[d] at h;obtain⟨l,e⟩:=B5 f g i h b k;rw[aa.cat] at e;exact⟨FY f g i d e.1 l,e.2⟩
theorem AK.qh{P:Program}{X:Cx P}(d:P.follows Departure.mixedOrders=true){T:List (Nat×TI)}(e:cz P T){CT:List (Nat×c7)}(hC:aY X CT)(ds:List (Nat×Bool)){N:Nat}{Qf:Post}(n:Nat){K c:List It}{φ b:Fr}{σ σ':List aj}{a:List Prop}
  (h:AM.qh T CT ds N n K φ σ []=some (c,b,σ',a)) (f:aa a) (k:AK X N Qf c .normal b σ'):AK X N Qf K .normal φ σ:=(B5 d e hC h f k).1
section
variable {P:Program}{X:Cx P}{N:Nat}{Qf:Post}{K:List It}{φ:Fr}{σ:List aj}
def w6(rs:List ResultVar)(ks:List Nat)(φ:Fr)(res:D):Option (List Prop) :=
 match u5 φ rs with
 |some ds=>match pU ds with
  |some d=>match tj ks.length res with
   |true=>zU d (jd ks res)
   |false=>none
  |none=>none
 |none=>none
theorem AK.cZ{fn:Func}{c:Nat}{res:D}{σ':List aj}(ks:List Nat){ps:List Prop}(h:w6 fn.results.toList ks φ res=some ps)(e:aa ps)(i:jS ks σ=some σ')(a:kH σ'=true)(g:dv ks=true)(f:∀ j,j<c->ks[j]?=some j) :
  AK X N (cv fn c res σ') (.code .ret::K) .normal φ σ:=by
 refine AK.ret ⟨.inl rfl,ks,?_⟩;unfold w6 at h;split at h
 ·rename_i ds EO
  split at h
  ·rename_i d k
   split at h
   ·rename_i b
    exact⟨ds,d,ps,EO,k,h,e,b,i,a,g,f⟩
   ·cases h
  ·cases h
 ·cases h
theorem AK.aK{fn:Func}{res:D}{ps:List Prop}(h:w6 fn.results.toList [] φ res=some ps)(a:aa ps):AK X N (cv fn 0 res []) (.code .ret::K) .normal φ σ :=
 AK.cZ [] h a rfl rfl rfl (λj h=>by omega)
theorem cv.zero{fn:Func}{res:D}{ps:List Prop}(h:w6 fn.results.toList [] φ res=some ps)(c:aa ps):cv fn 0 res [] .ret φ σ:=by
 refine⟨.inl rfl,[],?_⟩;unfold w6 at h;split at h
 ·rename_i ds EO
  split at h
  ·rename_i d b
   split at h
   ·rename_i a
    exact⟨ds,d,ps,EO,b,h,c,a,rfl,rfl,rfl,λj h=>by omega⟩
   ·cases h
  ·cases h
 ·cases h
theorem AK.leave{id:Nat}{φ:Fr}{σ:List aj}{A:Fr->List aj->Prop}{Qr:Post}{K n K2:List It}(h1:iT id K=none)(h2:iT id n=some K2)(k:AK X N Qr K2 .normal φ σ) :
  AK X N (λe f σ'=>match e with
   |.normal=>A f σ'
   |e=>AK X N Qr n e f σ') (.code (.exit id)::K) .normal φ σ:=by
 have key:∀ {K:List It},iT id K=none->∀ {Q:Post},Q (.exit id) φ σ->AK X N Q K (.exit id) φ σ:=by
  intro K
  induction K with
  |nil=>intro _ Q h;exact h
  |cons i r l =>
   intro d Q h;cases i with
   |code c=>exact l (by simpa[iT] using d) h
   |ops a b=>exact l (by simpa[iT] using d) h
   |blk j =>
    simp only[iT] at d;cases g:Nat.beq id j with
    |true=>simp[g] at d
    |false =>
     simp[g] at d;have m:id≠j:=λe=>by rw[e,gT] at g;cases g
     simp only[AK,m,aW];exact l d h
 exact AW.exit (key h1 (AK.tL h2 k))
theorem AK.jC{φ:Fr}{σ:List aj}{A:Fr->List aj->Prop}{Qr:Post}{K b:List It}(k:Qr .ret φ σ) :
  AK X N (λe a σ'=>match e with
   |.normal=>A a σ'
   |e=>AK X N Qr b e a σ') (.code .ret::K) .normal φ σ:=AK.ret (AK.tM (Qf:=Qr) k)
theorem AK.again{S:Type}{I:S->Prop}{fr:S->Fr}{st:S->List aj}{b:S->Nat}{x:S}{Qr:Post}(y:S){ps:List Prop}(d:qf φ (fr y)=some ps)(g:aa ps)(h:I y)(c:b y<b x)(f:σ=st y) :
  AK X N (λe a σ'=>match e with
   |.normal=>∃ y,I y/\b y<b x/\oE a (fr y)/\σ'=st y
   |e=>Qr e a σ') [] .normal φ σ:=⟨y,h,c,cR d g,f⟩
theorem AK.tN{S:Type}{c:Code}(I:S->Prop)(fr:S->Fr)(st:S->List aj)(b:S->Nat)(x:S){ps:List Prop}(d:qf φ (fr x)=some ps)(g:aa ps)(h:I x)(f:st x=σ)
  (round:∀ x,I x->AK X N (λe a σ'=>match e with
   |.normal=>∃ y,I y/\b y<b x/\oE a (fr y)/\σ'=st y
   |e=>AK X N Qf K e a σ') [.code c] .normal (fr x) (st x)):AK X N Qf (.code (.loop c)::K) .normal φ σ :=
 AK.loop I fr st b x h (cR d g) f round
def Fits(args:List D)(σ:List aj):Prop:=∃ s vs,bC σ s vs args/\ag σ s
theorem Fits.at{args:List D}{σ:List aj}(h:Fits args σ){j:Nat}{d:D}(hj:args[j]?=some d):∃ s v,cd σ s v d:=by
 obtain⟨s,vs,a,_⟩:=h;obtain⟨_,b⟩:=bC.get a;have:=b j;rw[hj] at this;exact⟨s,_,this⟩
theorem Fits.str{args:List D}{σ:List aj}(h:Fits args σ)(j:Nat){l:List UInt8}(hj:args[j]?=some (.e (.one (.c (.str l))))):l.length<=9223372036854775807:=by
 obtain⟨s,v,a⟩:=h.at hj;cases eX a with
 |str h hl=>exact hl
theorem Fits.int{args:List D}{σ:List aj}(h:Fits args σ)(j:Nat){k:IntKind}{n:Int}(hj:args[j]?=some (.e (.one (.c (.int k n))))):aJ k n:=by
 obtain⟨s,v,a⟩:=h.at hj;cases eX a with
 |int h=>exact h
theorem Fits.sl{args:List D}{σ:List aj}(h:Fits args σ)(j:Nat){t:Bool}{k n:Nat}{es:Nat->List C}(hj:args[j]?=some (.e (.one (.c (.sl t k n es))))):n<=9223372036854775807:=by
 obtain⟨s,v,d⟩:=h.at hj;cases eX d with
 |sl b off f a g=>omega
theorem Ev.body{f:FuncId}{fn:Func}{c:Code}{args:List D}{σ σ':List aj}{res:D}(d:P.funcs[f]?=some fn)(a:(fn.name== "runtime.NumGoroutine")=false)(e:fn.body=some c)(b:Nat.ble args.length fn.ntmps=true)
  (h:Fits args σ->AK X fn.ntmps (cv fn σ.length res σ') [.code c] .normal (iy 0 args) σ):Ev X f args σ res σ':=by
 refine⟨⟨fn,d,a,by rw[e];rfl⟩,λs vs hr hh=>?_⟩
 exact(Ev.intro d a e (cA b) (AK.of_code (h ⟨s,vs,hr,hh⟩))).2 s vs hr hh
theorem AK.join{c:Code}{d:List It}(b:Fr)(σ':List aj)(h:(∀ (a:Fr)(ps:List Prop),qf a b=some ps->aa ps->AK X N Qf (.code c::d) .normal a σ')->AK X N Qf K .normal φ σ)
  (k:AK X N Qf (.code c::d) .normal b σ'):AK X N Qf K .normal φ σ :=
 h λ_ _ h1 h2=>AW.le k (cR h1 h2)
end
end Go.AM
