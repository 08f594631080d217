/-
  Part 3 of a machine of values without memory, proved sound over the model, and of contracts of the functions that the laws reach. Nothing is taken for granted: no condition.
-/
import Derived.Test.YtcdlknpnfnggfaaGreatDoorA2
import Derived.MapKept
import Derived.Maps.RangeRun
import Derived.Laws.MakeOwn
import Derived.Lib.SliceRun
import Derived.Test.YtcdlknpnfnggfaaGreatDoorProg
set_option linter.unusedVariables false
set_option linter.unusedSimpArgs false
set_option linter.defProp false
set_option linter.deprecated false
namespace Go.AM
open Go.Conc (G)
def yI(σ σ':List aj):Prop:=∀ (s:St),ag σ s->ag σ' s/\Step σ s σ' s/\∀ (v:Value)(d:D),cd σ s v d->cd σ' s v d
theorem yI.refl(σ:List aj):yI σ σ:=λ_ h=>⟨h,.refl _ _,λ_ _ r=>r⟩
def R8:aj->aj->Option (List Prop)
 |.vec E k n es,.vec E' k' n' es'=>match Nat.beq E E',Nat.beq k k' with
  |true,true=>some [n=n',au n es es']
  |_,_=>none
 |.cells E cs,.cells E' kU=>match Nat.beq E E' with
  |true=>KC cs kU
  |false=>none
 |.dead,.dead=>some []
 |.cx H,.cx H'=>some [H=H']
 |.loop N φ r,.loop N' φ' r'=>some [aj.loop N φ r=aj.loop N' φ' r']
 |.qv,.qv=>some []
 |.buf E k n es,.buf E' k' n' es'=>match Nat.beq E E',Nat.beq k k' with
  |true,true=>some [n=n',au n es es']
  |_,_=>none
 |_,_=>none
def rV:List aj->List aj->Option (List Prop)
 |[],[]=>some []
 |a::r,b::q=>match R8 a b with
  |some p=>match rV r q with
   |some ps=>some (j6 p ps)
   |none=>none
  |none=>none
 |_,_=>none
def IW(B B':aj):Prop :=
 (∀ E k n es,B=.vec E k n es->∃ es',B'=.vec E k n es'/\au n es es')/\((∀ E k n es,B≠.vec E k n es)->(∀ E k n es,B'≠.vec E k n es)/\(B=B'∨(∃ E cs kU,B=.cells E cs/\B'=.cells E kU/\∀ σ s vs,cW σ s vs cs->cW σ s vs kU)∨∃ E k n es es',B=.buf E k n es/\B'=.buf E k n es'/\au n es es'))
theorem LV{B B':aj}{ps:List Prop}(h:R8 B B'=some ps)(b:aa ps):IW B B':=by
 unfold R8 at h;split at h
 ·rename_i E k n es E' k' n' es'
  split at h
  ·rename_i d j
   cases h;have a:=aO d;have g:=aO j;obtain⟨i,l⟩:n=n'/\au n es es':=b;subst a g i;refine⟨λE0 k0 n0 Um he=>?_,λo=>absurd rfl (o _ _ _ _)⟩
   cases he;exact⟨es',rfl,l⟩
  ·cases h
 ·rename_i E cs E' kU
  split at h
  ·rename_i d
   have a:=aO d;subst a;exact⟨λ_ _ _ _ he=>(by cases he),λ_=>⟨λ_ _ _ _ he=>(by cases he),.inr (.inl ⟨E,cs,kU,rfl,rfl,λσ s vs r=>Aj h b r⟩)⟩⟩
  ·cases h
 ·exact⟨λ_ _ _ _ he=>(by cases he),λ_=>⟨λ_ _ _ _ he=>(by cases he),.inl rfl⟩⟩
 ·cases h
  rename_i H H'
  have e:H=H':=b;subst e;exact⟨λ_ _ _ _ he=>(by cases he),λ_=>⟨λ_ _ _ _ he=>(by cases he),.inl rfl⟩⟩
 ·cases h
  rename_i N φ r m f r'
  have e:aj.loop N φ r=aj.loop m f r':=b;exact⟨λ_ _ _ _ he=>(by cases he),λ_=>⟨λ_ _ _ _ he=>(by cases he),.inl e⟩⟩
 ·exact⟨λ_ _ _ _ he=>(by cases he),λ_=>⟨λ_ _ _ _ he=>(by cases he),.inl rfl⟩⟩
 ·rename_i E k n es E' k' n' es'
  split at h
  ·rename_i d j
   cases h;have a:=aO d;have g:=aO j;obtain⟨i,l⟩:n=n'/\au n es es':=b;subst a g i;exact⟨λ_ _ _ _ he=>(by cases he),λ_=>⟨λ_ _ _ _ he=>(by cases he),.inr (.inr ⟨E,k,n,es,es',rfl,rfl,l⟩)⟩⟩
  ·cases h
 ·cases h
theorem yJ:∀ {σ σ':List aj}{ps:List Prop},rV σ σ'=some ps->aa ps->σ'.length=σ.length/\∀ (l:Nat)(B B':aj),σ[l]?=some B->σ'[l]?=some B'->IW B B'
 |[],[],_,_,_=>⟨rfl,λl B B' h=>by simp at h⟩
 |[],_::_,_,h,_=>by cases h
 |_::_,[],_,h,_=>by cases h
 |a::r,b::q,ps,h,d=>by
  simp only[rV] at h;split at h
  ·rename_i p e
   split at h
   ·rename_i p2 h2
    cases h;rw[aa.cat] at d;obtain⟨f,g⟩:=yJ h2 d.2;refine⟨by simp[f],λl B B' hB jR=>?_⟩
    cases l with
    |zero=>simp at hB jR;subst hB jR;exact LV e d.1
    |succ l=>exact g l B B' (by simpa using hB) (by simpa using jR)
   ·cases h
  ·cases h
theorem lj{σ σ':List aj}{ps:List Prop}(h:rV σ σ'=some ps)(hp:aa ps):yI σ σ':=by
 obtain⟨S,hg⟩:=yJ h hp;intro s Q;have R:∀ (l:Nat) (B:aj),σ[l]?=some B->∃ B',σ'[l]?=some B'/\IW B B':=by
  intro l B i;have u:l<σ'.length:=by rw[S];exact(aD.1 i).1
  exact⟨σ'[l],ai u,hg l B _ i (ai u)⟩
 have get:∀ (l:Nat) (B':aj),σ'[l]?=some B'->∃ B,σ[l]?=some B/\IW B B':=by
  intro l B' i;have u:l<σ.length:=by rw[<-S];exact(aD.1 i).1
  exact⟨σ[l],ai u,hg l _ B' (ai u) i⟩
 have j:∀ (l:Nat),(∀ B,σ[l]?=some B->B.gr=false)->∀ B,σ'[l]?=some B->B.gr=false:=by
  intro l hn B' he;obtain⟨B,i,p⟩:=get l _ he;have y:=hn B i;rcases(p.2 (λE k n es e=>by rw[e] at y;cases y)).2 with rfl|⟨E,cs,M,rfl,rfl,_⟩|⟨E,k,n,es,es',rfl,rfl,_⟩
  ·exact y
  ·rfl
  ·cases y
 have F:∀ (l:Nat) E k n es,σ'[l]?=some (aj.buf E k n es)->∃ es',σ[l]?=some (aj.buf E k n es'):=by
  intro l E k n es he;obtain⟨B,i,p⟩:=get l _ he
  by_cases q:∃ E k n es,B=aj.vec E k n es
  ·obtain⟨E1,k1,n1,V,rfl⟩:=q;obtain⟨es',f,_⟩:=p.1 _ _ _ _ rfl;cases f
  ·rcases(p.2 (λE k n es e=>q ⟨E,k,n,es,e⟩)).2 with rfl|⟨E,cs,M,rfl,h,_⟩|⟨E,k,n,es,es',rfl,h,_⟩
   ·exact⟨es,i⟩
   ·cases h
   ·cases h;exact⟨_,i⟩
 have I:∀ (l:Nat) E k n es,σ'[l]?=some (aj.vec E k n es)->∃ es',σ[l]?=some (aj.vec E k n es'):=by
  intro l E k n es he;obtain⟨B,i,p⟩:=get l _ he
  by_cases q:∃ E k n es,B=aj.vec E k n es
  ·obtain⟨E1,k1,n1,V,rfl⟩:=q;obtain⟨es',f,_⟩:=p.1 _ _ _ _ rfl;cases f;exact⟨V,i⟩
  ·exact absurd rfl ((p.2 (λE k n es e=>q ⟨E,k,n,es,e⟩)).1 E k n es)
 have U:∀ (v:Value) (a:A),gd σ s v a->gd σ' s v a:=by
  intro v a r;cases a with
  |c x=>exact r
  |ptr l o=>exact⟨j l r.1,r.2⟩
  |vec l k n es =>
   refine⟨r.1,by rw[S];exact r.2.1,λE k' n' es' he=>?_⟩
   obtain⟨J,g⟩:=I l E k' n' es' he;exact r.2.2 E k' n' J g
  |ref l=>exact⟨j l r.1,r.2⟩
  |bp l w =>
   obtain⟨lv,r1,r2,r3⟩:=r;refine⟨lv,r1,by rw[S];exact r2,λE k' n' es' he=>?_⟩
   obtain⟨J,g⟩:=F l E k' n' es' he;exact r3 E k' n' J g
  |any=>exact r
 have z:∀ (vs:List Value) (cs:List A),cW σ s vs cs->cW σ' s vs cs:=by
  intro vs
  induction vs with
  |nil=>intro cs r;cases cs with|nil=>trivial|cons _ _=>exact r.elim
  |cons v vs ih=>intro cs r;cases cs with|nil=>exact r.elim|cons c cs=>exact⟨U _ _ r.1,ih _ r.2⟩
 have Y:∀ (v:Value) (e:E1),kE σ s v e->kE σ' s v e:=by
  intro v e r;cases e with
  |one a=>exact U _ _ r
  |agg cs=>obtain⟨vs,f,g⟩:=r;exact⟨vs,f,z _ _ g⟩
 have W:∀ (vs:List Value) (cs:List E1),ey σ s vs cs->ey σ' s vs cs:=by
  intro vs
  induction vs with
  |nil=>intro cs r;cases cs with|nil=>trivial|cons _ _=>exact r.elim
  |cons v vs ih=>intro cs r;cases cs with|nil=>exact r.elim|cons c cs=>exact⟨Y _ _ r.1,ih _ r.2⟩
 have T:∀ (v:Value) (d:D),cd σ s v d->cd σ' s v d:=by
  intro v d r;cases d with
  |e x=>exact Y _ _ r
  |dH xs=>obtain⟨vs,f,g⟩:=r;exact⟨vs,f,W _ _ g⟩
  |any=>trivial
 refine⟨⟨Q.mem,by rw[Q.len,S],?_,Q.fe,Q.lt,Q.own⟩,⟨ar _,λ_ _ _=>rfl,λ_ _ _ h=>h,λ_ _ _ _=>rfl,λL h b m=>.inr ⟨L,h,m⟩,?_,rfl,rfl,rfl,rfl⟩,T⟩
 ·intro l B' L O hL;obtain⟨B,i,p⟩:=get l B' O;have m:=Q.box l B L i hL
  by_cases q:∃ E k n es,B=aj.vec E k n es
  ·obtain⟨E,k,n,es,rfl⟩:=q;obtain⟨es',rfl,he⟩:=p.1 _ _ _ _ rfl;refine⟨m.1.zJ he,?_⟩;rcases m.2 with⟨f,g⟩|f
   ·exact .inl ⟨f,g.zJ he⟩
   ·exact .inr f
  ·rcases(p.2 (λE k n es e=>q ⟨E,k,n,es,e⟩)).2 with rfl|⟨E,cs,M,rfl,rfl,Z⟩|⟨E,k,n,es,es',rfl,rfl,Z⟩
   ·cases B with
    |cells E cs=>obtain⟨b,vs,f,g,C,G⟩:=m;exact⟨b,vs,f,g,z _ _ C,G⟩
    |vec E k n es=>exact absurd ⟨E,k,n,es,rfl⟩ q
    |cx H=>exact m
    |dead=>trivial
    |loop N φ r=>obtain⟨l,tmps,fn,df,f,g,C,G,h5⟩:=m;exact⟨l,tmps,fn,df,f,g,C,λt=>T _ _ (G t),h5⟩
    |qv=>exact m
    |buf E k n es=>exact m
   ·obtain⟨b,vs,f,g,C,G⟩:=m;exact⟨b,vs,f,g,z _ _ (Z _ _ _ C),G⟩
   ·rcases m with m|⟨b,c0,vs,zs,f,g,C,G,h5,h6,h7⟩
    ·exact .inl m
    ·exact .inr ⟨b,c0,vs,zs,f,g,C,G,h5,h6.zJ Z,h7⟩
 ·intro l B L i hL;obtain⟨B',O,p⟩:=R l B i;refine⟨B',L,O,hL,?_⟩
  by_cases q:∃ E k n es,B=aj.vec E k n es
  ·obtain⟨E,k,n,es,rfl⟩:=q;obtain⟨es',rfl,he⟩:=p.1 _ _ _ _ rfl;exact⟨λ_=>rfl,ar _⟩
  ·rcases(p.2 (λE k n es e=>q ⟨E,k,n,es,e⟩)).2 with rfl|⟨E,cs,M,rfl,rfl,Z⟩|⟨E,k,n,es,es',rfl,rfl,_⟩
   ·exact gD.refl _ _
   ·exact rfl
   ·exact⟨λ_=>rfl,ar _⟩
section
variable {P:Program}{X:Cx P}{N:Nat}{Qf:Post}{K:List It}{φ:Fr}{σ:List aj}{c:Code}
theorem AW.ghost{Q:Post}{d:Fr}{σ':List aj}(h:∀ s a,bg N σ s φ a->ag σ s->∃ s':St,s'.w=s.w/\bg N σ' s' d a/\ag σ' s'/\Step σ s σ' s')(k:AW X N c Q d σ'):AW X N c Q φ σ:=by
 intro s a l hh b kk cs S o m;obtain⟨s',p,j,f,st⟩:=h s a l hh;have g:=st.lD hh;refine .ghost (.of hh f p g) ?_;exact k s' a j f b kk cs S o λe i σ2 s2 a2 q n h2 lB=>m e i σ2 s2 a2 q n h2 (g.trans lB)
theorem AK.ghost{b:Fr}{σ':List aj}(h:∀ s a,bg N σ s φ a->ag σ s->∃ s':St,s'.w=s.w/\bg N σ' s' b a/\ag σ' s'/\Step σ s σ' s')(k:AK X N Qf (.code c::K) .normal b σ'):AK X N Qf (.code c::K) .normal φ σ :=
 AW.ghost h k
theorem bg.bs{σ':List aj}{s:St}{a:Act}(b:yI σ σ')(f:bg N σ s φ a)(hh:ag σ s):bg N σ' s φ a:=⟨f.size,f.defers.imp λ_ h1=>h1.mono (b s hh).2.1.ext,λt=>(b s hh).2.2 _ _ (f.slot t)⟩
theorem AK.norm(σ':List aj){ps:List Prop}(h:rV σ σ'=some ps)(b:aa ps)(k:AK X N Qf (.code c::K) .normal φ σ'):AK X N Qf (.code c::K) .normal φ σ :=
 AK.ghost (λs a d hh=>⟨s,rfl,d.bs (lj h b) hh,(lj h b s hh).1,(lj h b s hh).2.1⟩) k
theorem AK.iS(t:Nat)(E:TypeId)(k:Nat){k' n:Nat}{es:Nat->List C}(h:look φ t=.e (.one (.c (.sl true k' n es))))(d:n=0)
  (kk:AK X N Qf (.code c::K) .normal ((t,.e (.one (.vec σ.length k n es)))::φ) (σ++[.vec E k n es])):AK X N Qf (.code c::K) .normal φ σ:=by
 refine AK.ghost (λs a b hh=>?_) kk
 have g:=b.slot t;rw[h] at g;have h1:=Rd.sI (k:=k') (k':=k) (.inr d) (eX g);have f:dT (σ++[.vec E k n es]) { s with β:=s.β++[⟨a.tmps.getD t undef,[]⟩] } (.vec E k n es) ⟨a.tmps.getD t undef,[]⟩:=⟨h1.loose,.inl ⟨⟨rfl,d⟩,h1⟩⟩;obtain⟨i,g2⟩:=hh.hO (.refl _ _) rfl hh f (by simp)
 refine⟨{ s with β:=s.β++[⟨a.tmps.getD t undef,[]⟩] },rfl,⟨b.size,b.defers.imp λ_ h1=>h1.mono g2.ext,λu=>?_⟩,i,g2⟩
 simp only[look];cases j:Nat.beq t u with
 |false=>exact(b.slot u).mono g2.ext hh.len
 |true =>
  have e:=aO j;subst e;exact od (L:=⟨a.tmps.getD t undef,[]⟩) (by simp) (by simp[<-hh.len]) f
theorem AK.lV{S:Type}(I:S->Prop)(fr:S->Fr)(st:S->List aj)(k:S->Nat)(x:S){ps qs:List Prop}(w:qf φ (fr x)=some ps)(F:aa ps)(m:rV σ (st x)=some qs)(D:aa qs)(B:I x)
  (round:∀ x,I x->AK X N (λe i σ'=>match e with
   |.normal=>∃ y,I y/\k y<k x/\oE i (fr y)/\yI σ' (st y)
   |e=>AK X N Qf K e i σ') [.code c] .normal (fr x) (st x)):AK X N Qf (.code (.loop c)::K) .normal φ σ:=by
 intro s a E hh b kk cs SS hb hQ;have g:=lj m D;obtain⟨p,l,_⟩:=g s hh;refine tO (λn a' s'=>∃ y,I y/\bg N (st y) s' (fr y) a'/\ag (st y) s'/\bo σ s (st y) s'/\k y=n) ?_ ?_ ⟨x,B,(E.le (cR w F)).bs g hh,p,l.lD hh,rfl⟩
 ·rintro n a' s' ⟨y,u,r,h,d,e⟩;exact⟨st y,h,λJ h1=>⟨y,u,r.rely h1 h,h.rely h1,d.trans h1.stepW,e⟩⟩
 rintro n a' s' ⟨y,u,r,h,d,rfl⟩ G;refine round y u s' a' r h b (.inLoop c::kk) cs SS hb ?_;intro e C σ2 s2 a2 q A h2 lB;cases e with
 |normal =>
  obtain⟨z,H,v,j,f⟩:=q;obtain⟨t,o,_⟩:=f s2 h2;exact G a2 s2 (k z) v ⟨z,H,(A.le j).bs f h2,t,d.trans (lB.trans (o.lD h2)),rfl⟩
 |_=>exact ends.cons (λ_ _=>rfl) (by simp) (hQ _ _ _ _ _ q A h2 (d.trans lB))
theorem AK.gK{S:Type}{I:S->Prop}{fr:S->Fr}{st:S->List aj}{b:S->Nat}{x:S}{Qr:Post}(y:S){ps qs:List Prop}(f:qf φ (fr y)=some ps)(h:aa ps)(g:rV σ (st y)=some qs)(j:aa qs)(i:I y)(d:b y<b x) :
  AK X N (λe a σ'=>match e with
   |.normal=>∃ y,I y/\b y<b x/\oE a (fr y)/\yI σ' (st y)
   |e=>Qr e a σ') [] .normal φ σ:=⟨y,i,d,cR f h,lj g j⟩
end
theorem Ev.forget{P:Program}{X:Cx P}{f:FuncId}{args:List D}{res res':D}{σ':List aj}(h:Ev X f args [] res σ'){ps:List Prop}(i:zU res res'=some ps)(j:aa ps)(e:tj 0 res'=true):Ev X f args [] res' []:=by
 refine⟨h.1,λs vs hr hh S cs hS=>h.2 s vs hr hh S cs λfr v g hl hv h1 st=>?_⟩
 have o:s.β=[]:=dq hh.len;have m:dX g { g with β:=[] }:=⟨rfl,λ_ _ _ h=>h,λ_ _ _=>rfl,h1.mem,λb a=>.inl (by
  rcases a with a|⟨L,k,_⟩
  ·exact a
  ·simp at k)⟩
 refine .ghost m (hS fr v { g with β:=[] } (hl.mono λ_ _ _ h=>h) ?_ ⟨h1.mem,rfl,by simp,by simp,by simp,λb a=>⟨(h1.own b a).1,by simp⟩⟩ ⟨st.size,st.eC,st.mem,st.ij,by simp,λl B L n=>by simp at n,st.os,st.tape,st.output,st.own⟩)
 ·have h2:=o0 i j hv;have:=cd.sub (ks:=[]) (σ:=σ') (σ':=[]) (s:=g) (β':=[]) (d:=res') rfl rfl (by rw[yK e];exact h2) e
  exact this
section drop
variable {σ1 rest:List aj}{s:St}
def OM(n:Nat):aj->Bool
 |.cells _ cs=>CH n cs
 |.loop ..=>false
 |_=>true
def tK(n:Nat):List aj->Bool
 |[]=>true
 |a::r=>match OM n a with|true=>tK n r|false=>false
theorem yL{n:Nat}:∀ {l:List aj},tK n l=true->∀ B∈l,OM n B=true
 |[],_,B,a=>by simp at a
 |b::r,h,B,a=>by
  simp only[tK] at h;cases d:OM n b with
  |false=>simp[d] at h
  |true =>
   simp only[d] at h;rcases dr.1 a with rfl|a
   ·exact d
   ·exact yL h B a
theorem dT.rn{B:aj}{L:Loc}(a:OM σ1.length B=true)(h:dT (σ1++rest) s B L):dT σ1 (s.cut σ1.length) B L:=by
 cases B with
 |cells E cs =>
  obtain⟨b,vs,h1,h2,e,d⟩:=h;exact⟨b,vs,h1,h2,cW.u9 e a,d⟩
 |vec E k n es=>exact h
 |cx H=>exact h
 |dead=>trivial
 |loop N φ r=>simp[OM] at a
 |qv=>exact h
 |buf E k n es=>exact h
theorem ag.drop(h:ag (σ1++rest) s)(j:tK σ1.length σ1=true):ag σ1 (s.cut σ1.length):=by
 have hl:σ1.length<=s.β.length:=by rw[h.len];simp
 refine⟨h.mem,by simp[St.cut,hl],?_,?_,?_,λb e=>⟨(h.own b e).1,λL a=>(h.own b e).2 L (gH a)⟩⟩
 ·intro l B L i a;have f:l<σ1.length:=(aD.1 i).1;simp only[St.cut,de,f,aX] at a;exact dT.rn (rest:=rest) (yL j B (aE i)) (h.box l B L (by rw[bc f];exact i) a)
 ·intro l l' L L' a d b e g;simp only[St.cut,de] at a d;split at a <;> split at d <;> first|exact h.fe l l' L L' a d b e g|(cases a;done)|(cases d;done)
 ·intro L a b e;exact h.lt L (gH a) b e
theorem lG.drop(a:ld rest=true):∀ {ds:List Deferred}{b:List Nat},lG (σ1++rest) s ds b->lG σ1 (s.cut σ1.length) ds b
 |[],[],_=>trivial
 |[],_::_,r=>r.elim
 |_::_,[],r=>r.elim
 |d::ds,l::b,⟨⟨h1,L,r,h2,f⟩,g,e⟩=>by
  have hl:l<σ1.length:=by
   rcases bz l σ1.length with h|h
   ·exact h
   ·rw[ck h] at h1;exact absurd rfl (lO a _ (aE h1))
  rw[bc hl] at h1;exact⟨⟨h1,L,r,by simp only[St.cut,de,hl,aX];exact h2,f⟩,g,lG.drop a e⟩
def Ak(n:Nat)(σ:List aj):Bool:=match Nat.ble n σ.length with|true=>ld (σ.drop n)|false=>false
theorem vD{n:Nat}{σ:List aj}(h:Ak n σ=true):Nat.ble n σ.length=true/\ld (σ.drop n)=true:=by
 unfold Ak at h;split at h
 ·rename_i a;exact⟨a,h⟩
 ·cases h
end drop
def Fx(n:Nat):Fr->Bool
 |[]=>true
 |(_,d)::r=>match tj n d with|true=>Fx n r|false=>false
theorem ou{n:Nat}:∀ {φ:Fr}{t:Nat},Fx n φ=true->tj n (look φ t)=true
 |[],t,_=>rfl
 |(u,d)::r,t,h=>by
  simp only[Fx] at h;cases a:tj n d with
  |false=>simp[a] at h
  |true =>
   simp only[a] at h;simp only[look];cases Nat.beq u t with
   |true=>exact a
   |false=>exact ou h
section
variable {P:Program}{X:Cx P}{N:Nat}{Qf:Post}{K:List It}{φ:Fr}{σ:List aj}{c:Code}
def lH{S:Type}{P:Program}(X:Cx P)(N:Nat)(Qf:Post)(K:List It)(I:S->Prop)(b:S->Fr)(st:S->List aj)(d:S->Nat)(n:Nat)(x:S):Post:=λe a σ'=>match e with
 |.normal=>∃ y,I y/\d y<d x/\oE a (b y)/\Fx n (b y)=true/\∃ σ1 rest,σ'=σ1++rest/\σ1.length=n/\(tK n σ1=true/\ld rest=true)/\yI σ1 (st y)
 |e=>AK X N Qf K e a σ'
theorem AK.bA{S:Type}(n:Nat)(I:S->Prop)(fr:S->Fr)(st:S->List aj)(E:S->Nat)(x:S){ps qs:List Prop}(G:qf φ (fr x)=some ps)(W:aa ps)(r:rV σ (st x)=some qs)(U:aa qs)(hn:σ.length=n)(O:I x)
  (round:∀ x,I x->AK X N (lH X N Qf K I fr st E n x) [.code c] .normal (fr x) (st x)):AK X N Qf (.code (.loop c)::K) .normal φ σ:=by
 intro s a V hh b kk cs SS hb hQ;have f:=lj r U;obtain⟨u,o,_⟩:=f s hh;refine tO (λm a' s'=>∃ y,I y/\bg N (st y) s' (fr y) a'/\ag (st y) s'/\bo σ s (st y) s'/\E y=m) ?_ ?_ ⟨x,O,(V.le (cR G W)).bs f hh,u,o.lD hh,rfl⟩
 ·rintro n a' s' ⟨y,B,w,i,d,e⟩;exact⟨st y,i,λs1 h1=>⟨y,B,w.rely h1 i,i.rely h1,d.trans h1.stepW,e⟩⟩
 rintro m a' s' ⟨y,B,w,i,d,rfl⟩ Y;refine round y B s' a' w i b (.inLoop c::kk) cs SS hb ?_;intro e Q σ2 s2 a2 q J h2 lB;cases e with
 |normal =>
  obtain⟨z,Z,D,k,A,σ1,rest,rfl,g,⟨v,p⟩,l⟩:=q;have M:=h2.drop (by rw[g];exact v)
  obtain⟨H,j,F⟩:=l _ M;have C:=J.le k;have R:dX s2 (s2.cut σ1.length):=⟨rfl,λ_ _ _ h=>h,λ_ _ _=>rfl,h2.mem,λb hb=>hb.imp id λ⟨L,T,hb⟩=>⟨L,gH T,hb⟩⟩
  refine .ghost R (Y a2 (s2.cut σ1.length) (E z) D ⟨z,Z,⟨C.size,C.defers.imp λ_ h1=>(h1.drop p).mono j.ext,λt=>F _ _ ((C.slot t).drop (ou (by rw[g];exact A)))⟩,H,?_,rfl⟩)
  exact((d.trans lB).drop (by omega)).trans (j.lD M)
 |_=>exact ends.cons (λ_ _=>rfl) (by simp) (hQ _ _ _ _ _ q J h2 (d.trans lB))
theorem AK.ay{S:Type}{n:Nat}{I:S->Prop}{fr:S->Fr}{st:S->List aj}{e:S->Nat}{x:S}{l:List It}(y:S){ps qs:List Prop}(f:qf φ (fr y)=some ps)(i:aa ps)(h:Fx n (fr y)=true)(a:Ak n σ=true)(g:rV (σ.take n) (st y)=some qs)(j:aa qs)(b:tK n (σ.take n)=true)(k:I y)(d:e y<e x) :
  AK X N (lH X N Qf l I fr st e n x) [] .normal φ σ :=
 ⟨y,k,d,cR f i,h,σ.take n,σ.drop n,(nu n σ).symm,by simp[cA (vD a).1],⟨b,(vD a).2⟩,lj g j⟩
theorem AK.leaveD{S:Type}{n:Nat}{I:S->Prop}{fr:S->Fr}{st:S->List aj}{d:S->Nat}{x:S}{id:Nat}{f b K2:List It}(h1:iT id f=none)(h2:iT id b=some K2)(k:AK X N Qf K2 .normal φ σ) :
  AK X N (lH X N Qf b I fr st d n x) (.code (.exit id)::f) .normal φ σ :=
 AW.mono (AK.leave (A:=λa σ'=>lH X N Qf b I fr st d n x .normal a σ') h1 h2 k) λe a σ' q=>by
  have key:∀ (K:List It) e,AK X N (λe a σ'=>match e with
    |.normal=>lH X N Qf b I fr st d n x .normal a σ'
    |e=>AK X N Qf b e a σ') K e a σ'->AK X N (lH X N Qf b I fr st d n x) K e a σ':=by
   have e:(λe a σ'=>match e with
    |.normal=>lH X N Qf b I fr st d n x .normal a σ'
    |e=>AK X N Qf b e a σ')=lH X N Qf b I fr st d n x:=by
    funext e a σ';cases e <;> rfl
   intro K g h;rw[e] at h;exact h
  exact key _ _ q
theorem AK.jP{S:Type}{n:Nat}{I:S->Prop}{fr:S->Fr}{st:S->List aj}{d:S->Nat}{x:S}{a b:List It}(k:Qf .ret φ σ):AK X N (lH X N Qf b I fr st d n x) (.code .ret::a) .normal φ σ :=
 AK.ret (AK.tM (Qf:=Qf) k)
theorem bg.freeze(t l:Nat){E:TypeId}{cs:List A}{cc:List C}(F:look φ t=.e (.one (.ptr l 0)))(hl:eW l σ=some (.cells E cs))(O:fW cs=some cc)
  {s:St} {a:Act} (n:bg N σ s φ a) (hh:ag σ s):∃ s':St,s'.w=s.w/\bg N (σ.set l .dead) s' ((t,.e (.one (.c (.rp cc))))::φ) a/\ag (σ.set l .dead) s'/\Step σ s (σ.set l .dead) s':=by
 have x:=c9 hl;have m:l<σ.length:=(aD.1 x).1;have D:=n.slot t;rw[F] at D;obtain⟨_,L,b,r,k,J⟩:=D;obtain⟨f,vs,h1,h2,H,I⟩:=hh.box l _ L x r;subst h1;simp at k;subst k
 let s':St:={ s with M:=λy o=>if y=f then vs[o]? else s.M y o }
 have st:Step σ s (σ.set l .dead) s':=by
  refine⟨ar _,λ_ _ _=>rfl,?_,?_,λL h b i=>.inr ⟨L,h,i⟩,?_,rfl,rfl,rfl,rfl⟩
  ·intro b o v g;have d:b≠f:=λe=>by subst e;rw[I] at g;cases g
   show (if b=f then _ else _)=_
   rw[ak d];exact g
  ·intro b i G o;have d:b≠f:=λe=>G _ (aE r) (by simp[e])
   show (if b=f then _ else _)=_
   rw[ak d]
  ·intro l' B L' jR gf
   by_cases e:l=l'
   ·subst e;rw[x] at jR;cases jR;exact⟨.dead,L',by rw[bk m],gf,rfl⟩
   ·exact⟨B,L',by rw[b6 e];exact jR,gf,.refl _ _⟩
 refine⟨s',rfl,⟨n.size,n.defers.imp λ_ h1=>h1.mono st.ext,λu=>?_⟩,⟨?_,by simp[hh.len,s'],?_,hh.fe,hh.lt,hh.own⟩,st⟩
 ·simp only[look];cases i:Nat.beq t u with
  |false=>exact(n.slot u).mono st.ext hh.len
  |true =>
   have e:=aO i;subst e;rw[J];have z:=kq O H;refine Rd.rp f 0 (λj=>(vs[j]?).getD undef) ?_ ?_
   ·intro j c hj;obtain⟨v,q,_⟩:=z.get (j:=j) (a:=.c c) (by simp[hj])
    show (if f=f then _ else _)=_
    simp[q]
   ·intro j c hj;obtain⟨v,q,p2⟩:=z.get (j:=j) (a:=.c c) (by simp[hj])
    simp only[q,cK];exact Rd.mono st.mem p2
 ·intro b o v g
  by_cases e:b=f
  ·subst e;have hm':vs[o]?=some v:=by simpa[s'] using g
   show s.w.cell? _=_;simp[World.cell?,h2,hm']
  ·exact hh.mem b o v (by simpa[s',e] using g)
 ·intro l' B L' jR gf
  by_cases e:l=l'
  ·subst e;rw[bk m] at jR;cases jR;trivial
  ·rw[b6 e] at jR;refine(hh.box l' B L' jR gf).carry st.ext hh.len λb i=>⟨rfl,λo=>?_⟩
   have d:b≠f:=λp=>e (hh.fe l l' _ L' r gf b (by simp[p]) i)
   show (if b=f then _ else _)=_
   rw[ak d]
theorem AK.freeze(t l:Nat){E:TypeId}{cs:List A}{cc:List C}(d:look φ t=.e (.one (.ptr l 0)))(hl:eW l σ=some (.cells E cs))(f:fW cs=some cc)
  (kk:AK X N Qf (.code c::K) .normal ((t,.e (.one (.c (.rp cc))))::φ) (dt.rR l .dead σ)):AK X N Qf (.code c::K) .normal φ σ:=by
 rw[la] at kk;exact AK.ghost (λs a b hh=>bg.freeze t l d hl f b hh) kk
theorem AK.one{all rest:List Oper}{o:Oper}{x:D}{σ':List aj}(h:OA X N all o φ σ x σ')(a:gg N o.dst=true)(k:AK X N Qf (.ops all rest::K) .normal (iP o.dst x φ) σ'):AK X N Qf (.ops all (o::rest)::K) .normal φ σ :=
 dM.rW h (et a) k
end
end Go.AM
namespace Go.AM
theorem ag.j5{σ:List aj}{s:St}(h:ag σ s){l:Nat}{H H':Value->(Nat->Option Obj)->Prop}{L L':Loc}(E:σ[l]?=some (.cx H))(p:s.β[l]?=some L){w':World}(T:L'.v=L.v)
  (n:s.w.heap.size<=w'.heap.size) (D:∀ b,b<s.w.heap.size->b∉L.bs->w'.heap[b]?=s.w.heap[b]?) (g:∀ b∈L'.bs,b∈L.bs∨(s.w.heap.size<=b/\b<w'.heap.size))
  (F:∃ ch,H' L'.v ch/\(∀ (b:Nat) (o:Obj),ch b=some o->w'.heap[b]?=some o)/\(∀ b,b∈L'.bs↔(ch b).isSome=true)) (S:w'.os=s.w.os) (I:w'.tape=s.w.tape) (P:w'.output=s.w.output) :
  ag (σ.set l (.cx H')) ⟨s.β.set l L',s.M,w',s.own⟩/\Step σ s (σ.set l (.cx H')) ⟨s.β.set l L',s.M,w',s.own⟩:=by
 have x:l<σ.length:=(aD.1 E).1;have j:l<s.β.length:=by rw[h.len];exact x
 obtain⟨N,_,_,_,z⟩:=h.box l _ L E p;have r:∀ b∈L'.bs,∀ o,s.M b o=none:=by
  intro b m o;rcases g b m with h1|⟨h1,_⟩
  ·exact z b h1 o
  ·cases y:s.M b o with
   |none=>rfl
   |some v=>have:=h.block y;omega
 have st:Step σ s (σ.set l (.cx H')) ⟨s.β.set l L',s.M,w',s.own⟩:=by
  refine⟨n,?_,λ_ _ _ h=>h,λ_ _ _ _=>rfl,?_,?_,S,I,P,rfl⟩
  ·intro b i J;exact D b i (J L (aE p))
  ·intro d c b a;rcases oQ c with h1|h1
   ·exact .inr ⟨d,h1,a⟩
   ·subst h1;rcases g b a with h2|h2
    ·exact .inr ⟨L,aE p,h2⟩
    ·exact .inl h2.1
  ·intro l' B d f c
   by_cases e:l=l'
   ·subst e;rw[E] at f;cases f;rw[p] at c;cases c;exact⟨.cx H',L',by rw[bk x],by show (s.β.set l L')[l]?=_;rw[bk j],T⟩
   ·exact⟨B,d,by rw[b6 e];exact f,by show (s.β.set l L')[l']?=_;rw[b6 e];exact c,.refl _ _⟩
 have k:∀ (l':Nat) (d:Loc),(s.β.set l L')[l']?=some d->(l'=l/\d=L')∨(l≠l'/\s.β[l']?=some d):=by
  intro l' d h2
  by_cases e:l=l'
  ·subst e;rw[bk j] at h2;cases h2;exact .inl ⟨rfl,rfl⟩
  ·rw[b6 e] at h2;exact .inr ⟨e,h2⟩
 refine⟨⟨?_,by simp[h.len],?_,?_,?_,?_⟩,st⟩
 ·intro b o v y;have A:=h.block y;have C:b∉L.bs:=λq=>by rw[z b q o] at y;cases y
  rw[<-h.mem b o v y];simp only[World.cell?];rw[D b A C]
 ·intro l' B d f c;rcases k l' d c with⟨rfl,rfl⟩|⟨e,h2⟩
  ·rw[bk x] at f;cases f;obtain⟨ch,k1,O,U⟩:=F;exact⟨ch,k1,O,U,r⟩
  ·rw[b6 e] at f;refine(h.box l' B d f h2).carry st.ext h.len λb m=>⟨D b (h.lt d (aE h2) b m) λq=>e (h.fe l l' L d p h2 b q m),λ_=>rfl⟩
 ·intro Q K L1 d h1 h2 b i a;rcases k Q L1 h1 with⟨rfl,rfl⟩|⟨e1,u⟩ <;> rcases k K d h2 with⟨rfl,rfl⟩|⟨e2,t⟩
  ·rfl
  ·rcases g b i with q|q
   ·exact h.fe _ _ L d p t b q a
   ·have:=h.lt d (aE t) b a;omega
  ·rcases g b a with q|q
   ·exact h.fe _ _ L1 L u p b i q
   ·have:=h.lt L1 (aE u) b i;omega
  ·exact h.fe _ _ L1 d u t b i a
 ·intro d c b a;rcases oQ c with h1|h1
  ·exact bF (h.lt d h1 b a) n
  ·subst h1;rcases g b a with h2|h2
   ·exact bF (h.lt L (aE p) b h2) n
   ·exact h2.2
 ·intro b F;obtain⟨R,G⟩:=h.own b F;refine⟨bF R n,λd c a=>?_⟩
  rcases oQ c with h1|h1
  ·exact G d h1 a
  ·subst h1;rcases g b a with h2|h2
   ·exact G L (aE p) h2
   ·omega
section
variable {H H':Value->(Nat->Option Obj)->Prop}{s:St}
theorem FJ{l:Nat}:∀ B,([aj.cx H]:List aj)[l]?=some B->B.gr=false:=by
 cases l with
 |zero=>simp[aj.gr]
 |succ l=>simp
theorem C4{l:Nat}{E:TypeId}{k n:Nat}{es:Nat->List C}:([aj.cx H]:List aj)[l]?≠some (.buf E k n es):=by
 cases l with
 |zero=>simp
 |succ l=>simp
theorem C5{l:Nat}{E:TypeId}{k n:Nat}{es:Nat->List C}:([aj.cx H]:List aj)[l]?≠some (.vec E k n es):=by
 cases l with
 |zero=>simp
 |succ l=>simp
theorem gd.cx{v:Value}{a:A}(r:gd [.cx H] s v a):gd [.cx H'] s v a:=by
 cases a with
 |c x=>exact r
 |any=>exact r
 |ptr l o=>exact⟨FJ,r.2⟩
 |ref l=>exact⟨FJ,r.2⟩
 |bp l w=>obtain⟨lv,d,e,_⟩:=r;exact⟨lv,d,e,λ_ _ _ _ b=>absurd b C4⟩
 |vec l k n es=>exact⟨r.1,r.2.1,λ_ _ _ _ b=>absurd b C5⟩
theorem cW.cx:∀ {vs:List Value}{cs:List A},cW [.cx H] s vs cs->cW [.cx H'] s vs cs
 |[],[],_=>trivial
 |[],_::_,r=>r.elim
 |_::_,[],r=>r.elim
 |_::_,_::_,r=>⟨r.1.cx,cW.cx r.2⟩
theorem kE.cx{v:Value}{e:E1}(r:kE [.cx H] s v e):kE [.cx H'] s v e:=by
 cases e with
 |one a=>exact gd.cx r
 |agg cs=>obtain⟨vs,h1,h2⟩:=r;exact⟨vs,h1,cW.cx h2⟩
theorem ey.cx:∀ {vs:List Value}{cs:List E1},ey [.cx H] s vs cs->ey [.cx H'] s vs cs
 |[],[],_=>trivial
 |[],_::_,r=>r.elim
 |_::_,[],r=>r.elim
 |_::_,_::_,r=>⟨kE.cx r.1,ey.cx r.2⟩
theorem cd.cx{v:Value}{d:D}(r:cd [.cx H] s v d):cd [.cx H'] s v d:=by
 cases d with
 |e x=>exact kE.cx r
 |dH xs=>obtain⟨vs,h1,h2⟩:=r;exact⟨vs,h1,ey.cx h2⟩
 |any=>trivial
theorem lG.cx{ds:List Deferred}{a:List Nat}(h:lG [.cx H] s ds a):lG [.cx H'] s ds a:=by
 cases a with
 |nil=>cases ds with|nil=>trivial|cons d ds=>exact h.elim
 |cons l a =>
  have:=h.vC l (by simp)
  cases l <;> simp at this
theorem bg.cx{N:Nat}{φ:Fr}{a:Act}(f:bg N [.cx H] s φ a):bg N [.cx H'] s φ a:=⟨f.size,f.defers.imp λ_ h1=>h1.cx,λt=>(f.slot t).cx⟩
end
theorem cv.rY{fn:Func}{c:Nat}{res:D}{σ':List aj}{φ:Fr}{σ:List aj}(ks:List Nat){ps:List Prop}(h:w6 fn.results.toList ks φ res=some ps)(e:aa ps)(i:jS ks σ=some σ')(a:kH σ'=true)(g:dv ks=true)(f:∀ j,j<c->ks[j]?=some j) :
  cv fn c res σ' .normal φ σ:=by
 refine⟨.inr rfl,ks,?_⟩;unfold w6 at h;split at h
 ·rename_i ds EO
  split at h
  ·rename_i d k
   split at h
   ·rename_i b
    exact⟨ds,d,ps,EO,k,h,e,b,i,a,g,f⟩
   ·cases h
  ·cases h
 ·cases h
theorem AK.aC{P:Program}{X:Cx P}{N:Nat}{Qf:Post}{K:List It}{φ:Fr}{σ:List aj}{all rest:List Oper}{o:Oper}{m:Operand}{xs:Array Operand}{l:Array TypeId}{f:FuncId}{cap:List C}{a:List D}{b σ1:List aj}{res:D}(e:Ev X f a b res σ1)(ks:List Nat)
  (g:o.guard=none) (r:o.op=.call { callee:=.value m,args:=xs,argTypes:=l }) (n:eu (bn φ m)=some (f,cap)) (c:oI (xs.toList.map (bn φ)++fO cap)=ix ks a) (h:oD ks.length a=true)
  (d:jS ks σ=some b) (p:cy b=true) (i:cy σ1=true) (s:dv ks=true) (j:Nat.ble ks.length σ1.length=true) (q:gg N o.dst=true)
  (k:AK X N Qf (.ops all rest::K) .normal (iP o.dst (jd (ks++mG σ.length (σ1.length-ks.length)) res) φ) (dt ks σ1 σ)):AK X N Qf (.ops all (o::rest)::K) .normal φ σ :=
 dM.call (λ_ _ _ _=>cw g) r n ks e c h d p i s (cA j) o.dst rfl (et q) k
theorem AK.bZ{P:Program}{ι:Type}{X:Cx P}{N:Nat}{Qf:Post}{K:List It}{φ:Fr}{σ:List aj}{all rest:List Oper}{o:Oper}{n:Operand}{xs:Array Operand}{m:Array TypeId}{f:FuncId}{cap:List C}{a:List D}{b:List aj}{σ1:ι->List aj}{res:ι->D}(e:cf X f a b res σ1)(ks:List Nat)
  (g:o.guard=none) (s:o.op=.call { callee:=.value n,args:=xs,argTypes:=m }) (p:eu (bn φ n)=some (f,cap)) (c:oI (xs.toList.map (bn φ)++fO cap)=ix ks a) (h:oD ks.length a=true)
  (d:jS ks σ=some b) (q:cy b=true) (i:∀ j,cy (σ1 j)=true) (t:dv ks=true) (l:∀ j,Nat.ble ks.length (σ1 j).length=true) (r:gg N o.dst=true)
  (k:∀ j,AK X N Qf (.ops all rest::K) .normal (iP o.dst (jd (ks++mG σ.length ((σ1 j).length-ks.length)) (res j)) φ) (dt ks (σ1 j) σ)):AK X N Qf (.ops all (o::rest)::K) .normal φ σ :=
 dM.Kl (λ_ _ _ _=>cw g) s p ks e c h d q i t (λj=>cA (l j)) o.dst rfl (et r) k
def uW:List D->List D->Option (List Prop)
 |[],[]=>some []
 |a::al,b::bs=>match zU a b with
  |some p=>match uW al bs with
   |some q=>some (j6 p q)
   |none=>none
  |none=>none
 |_,_=>none
theorem sJ{σ:List aj}{s:St}:∀ {vs:List Value}{xs ys:List D}{ps:List Prop},uW xs ys=some ps->aa ps->bC σ s vs xs->bC σ s vs ys
 |[],[],[],_,_,_,_=>trivial
 |_::_,[],_,_,_,_,h=>h.elim
 |[],_::_,_,_,_,_,h=>h.elim
 |[],[],_::_,_,h,_,_=>by simp[uW] at h
 |_::_,_::_,[],_,h,_,_=>by simp[uW] at h
 |v::vs,a::al,b::bs,ps,h,e,f=>by
  simp only[uW] at h;cases c:zU a b with
  |none=>simp[c] at h
  |some p =>
   cases d:uW al bs with
   |none=>simp[c,d] at h
   |some q =>
    simp[c,d] at h;subst h;rw[aa.cat] at e;exact⟨o0 c e.1 f.1,sJ d e.2 f.2⟩
theorem AK.pV{P:Program}{ι:Type}{X:Cx P}{N:Nat}{Qf:Post}{K:List It}{φ:Fr}{σ:List aj}{all rest:List Oper}{o:Oper}{q:Operand}{xs:Array Operand}{n:Array TypeId}{f:FuncId}{cap:List C}{a:List D}{b:List aj}{σ1:ι->List aj}{res:ι->D}(e:cf X f a b res σ1)(ks:List Nat)
  (g:o.guard=none) (v:o.op=.call { callee:=.value q,args:=xs,argTypes:=n }) (r:eu (bn φ q)=some (f,cap)) {ps:List Prop} (c:uW (xs.toList.map (bn φ)++fO cap) (ix ks a)=some ps) (p:aa ps) (i:oD ks.length a=true)
  (d:jS ks σ=some b) (t:cy b=true) (l:∀ j,cy (σ1 j)=true) (w:dv ks=true) (m:∀ j,Nat.ble ks.length (σ1 j).length=true) (u:gg N o.dst=true)
  (k:∀ j,AK X N Qf (.ops all rest::K) .normal (iP o.dst (jd (ks++mG σ.length ((σ1 j).length-ks.length)) (res j)) φ) (dt ks (σ1 j) σ)):AK X N Qf (.ops all (o::rest)::K) .normal φ σ :=
 dM.Kk (λ_ _ _ _=>cw g) v r ks e (λs vs h=>sJ c p h) i d t l w (λj=>cA (m j)) o.dst rfl (et u) k
end Go.AM
namespace Go.AM
open Go.Conc (G)
theorem Ft{a:Act}{d:Nat}{v:Value}(h:d<a.tmps.size):(a.put (some d) v).tmps.getD d undef=v:=by
 simp[Act.put,bM,l6 h]
theorem kD{P:Program}{f:FuncId}{fn:Func}{e:Array Value->Sem Value}(b:P.funcs[f]?=some fn)(a:(fn.name== "runtime.NumGoroutine")=false)
  (i:fn.body.isNone=true) (g:Extern.findNext fn=none) (c:Extern.find fn=some e) (args:Array Value) (h:bR P (e args)) (w:World) (es:Array Event) :
  (callFunc f args).events P w es=es.push ⟨.mark (.extern f),false,true⟩:=by
 have d:fn.name≠ "runtime.NumGoroutine":=by simpa using a
 have j:fn.body=none:=by simpa using i
 simp[callFunc,b,d,j,g,c];rw[h w]
section
variable {P:Program}{X:Cx P}{N:Nat}{Qf:Post}{K:List It}{φ:Fr}{σ:List aj}{all rest:List Oper}{o:Oper}
theorem AK.hand{ι:Type}(x:ι->D)(σ':ι->List aj)(r:o.guard=none)(y:gg N o.dst=true)
  (h:∀ s a,bg N σ s φ a->ag σ s->∃ i e s' v,(execOp a.eval o).run P s.w=.ok e s'.w/\(e=.value v∨(e=.skip/\v=undef))/\cd (σ' i) s' v (x i)/\ag (σ' i) s'/\Step σ s (σ' i) s'/\eK s ((execOp a.eval o).events P s.w #[]))
  (k:∀ i,AK X N Qf (.ops all rest::K) .normal (iP o.dst (x i) φ) (σ' i)):AK X N Qf (.ops all (o::rest)::K) .normal φ σ:=by
 intro s a f hh b kk cs S idx hb fK hQ;cases idx with
 |nil=>exact fK.elim
 |cons j idx =>
 refine tJ hb fK.1 (cw r) λC d=>?_
 have c:=hh.rely d;have g:=f.rely d hh;obtain⟨i,e,s',v,h1,h2,A,p,n,z⟩:=h C a g c;have l:=n.lD c;refine⟨e,s',v,h1,h2,⟨⟨σ,σ' i,c,p,n⟩,z⟩,?_⟩;refine k i s' _ ?_ p b kk cs S idx hb fK.2 λm σ2 s2 a2 q u h2 st=>hQ m σ2 s2 a2 q u h2 ((d.stepW.trans l).trans st)
 cases B:o.dst with
 |none=>exact g.mono l c.len
 |some t=>exact(g.mono l c.len).put (et y t B) A
theorem AK.law{x:D}{σ':List aj}(h:aM P o (bn φ) σ x σ')(b:o.guard=none)(a:gg N o.dst=true)
  (k:AK X N Qf (.ops all rest::K) .normal (iP o.dst x φ) σ'):AK X N Qf (.ops all (o::rest)::K) .normal φ σ :=
 AK.one (.kJ (λ_ _ _ _=>cw b) h) a k
def Bv(all:List Oper)(φ:Fr)(o:Oper):Bool:=match o.guard with
 |none=>true
 |some (j,b)=>match tA φ all j with
  |some (some true)=>b
  |some (some false)=>!b
  |_=>false
theorem te{all:List Oper}{o:Oper}{φ:Fr}(h:Bv all φ o=true):∀ σ s a,bg N σ s φ a->Region.wanted o (yielded all.toArray a.tmps)=true:=by
 intro σ s a f;unfold Bv at h;split at h
 ·rename_i d;exact cw d
 ·rename_i j b d
  split at h
  ·rename_i c
   simp only[Region.wanted,d,kp c f,h];rfl
  ·rename_i c
   simp only[Region.wanted,d,kp c f];cases b
   ·rfl
   ·cases h
  ·cases h
end
end Go.AM
namespace Go.AM
inductive oZ where
 |nil (a:Option Addr)
 |row (b cap:Nat)
def kF(bf:oZ)(n:Nat):Value:=match bf with
 |.nil a=>.slice a 0 0
 |.row b cap=>.slice (some ⟨b,0,none⟩) n cap
def SB(E:TypeId)(bf:oZ)(xs:List Value):Value->(Nat->Option Obj)->Prop:=λv a=>v=.nilFunc/\(∀ x∈xs,cg x=true)/\match bf with
 |.nil _=>xs=[]/\a=λ_=>none
 |.row b cap=>xs.length<=cap/\cap<=9223372036854775807/\∃ c,(xs++c).length=cap/\a=λd=>if d=b then some (.cells (xs++c).toArray E (0,0)) else none
def yh(xs:List Value):Nat->List C:=λi=>[.val (xs.getD i undef)]
theorem SB.lookup{E:TypeId}{b cap:Nat}{xs:List Value}{v:Value}{ch:Nat->Option Obj}(h:SB E (.row b cap) xs v ch):∃ c,(xs++c).length=cap/\ch b=some (.cells (xs++c).toArray E (0,0))/\∀ a,(ch a).isSome=true↔a=b:=by
 obtain⟨_,_,_,_,c,h1,h2⟩:=h;refine⟨c,h1,by rw[h2];simp,λa=>?_⟩
 rw[h2]
 by_cases e:a=b <;> simp[e]
section
variable {P:Program}{X:Cx P}{N:Nat}{Qf:Post}{K:List It}{φ:Fr}{σ:List aj}{all rest:List Oper}{o:Oper}
theorem Rd.mE{M:Mem}{b cap:Nat}{xs zs:List Value}(f:∀ x∈xs,cg x=true)(hl:(xs++zs).length=cap)(d:cap<=9223372036854775807)(g:∀ o,M b o=xs[o]?):Rd M (.slice (some ⟨b,0,none⟩) xs.length cap) (.sl false 1 xs.length (yh xs)):=by
 refine Rd.ny (M:=M) (k:=1) (n:=xs.length) (es:=yh xs) (vs:=xs) (a:=some ⟨b,0,none⟩) (b:=b) (off:=0) (cap:=cap) (t:=false) ⟨by simp,λi _=>rfl,λi hi j c hj=>?_⟩ (λ_=>rfl) (by rw[<-hl];simp) d (by simp) (λp u e=>by rw[g,aw];exact e)
 cases j with
 |zero =>
  simp[yh] at hj;subst hj;refine⟨xs[i],by simp[hi],?_⟩
  simp[hi];exact .val (f _ (bJ hi))
 |succ j=>simp[yh] at hj
theorem AW.Lj{ι:Type}{c:Code}{Q:Post}{d:ι->Fr}{σ':ι->List aj}(h:∀ s a,bg N σ s φ a->ag σ s->∃ (i:ι)(s':St),s'.w=s.w/\bg N (σ' i) s' (d i) a/\ag (σ' i) s'/\Step σ s (σ' i) s')(k:∀ i,AW X N c Q (d i) (σ' i)):AW X N c Q φ σ:=by
 intro s a m hh b kk cs S r n;obtain⟨i,s',t,l,f,st⟩:=h s a m hh;have g:=st.lD hh;refine .ghost (.of hh f t g) ?_;exact k i s' a l f b kk cs S r λe j σ2 s2 a2 q p h2 lB=>n e j σ2 s2 a2 q p h2 (g.trans lB)
end
end Go.AM
namespace Go.AM
open Go.Conc (G)
def tc:C->Bool
 |.int _ _|.bool _|.str _|.j4|.mz|.uZ|.val _=>true
 |_=>false
def oY:A->Bool
 |.c x=>tc x
 |.any=>true
 |_=>false
def Ik:List A->Bool
 |[]=>true
 |a::r=>match oY a with|true=>Ik r|false=>false
def EA:E1->Bool
 |.one a=>oY a
 |.agg cs=>Ik cs
def Bq:List E1->Bool
 |[]=>true
 |a::r=>match EA a with|true=>Bq r|false=>false
def Li:D->Bool
 |.e x=>EA x
 |.dH xs=>Bq xs
 |.any=>true
section
variable {σ σ':List aj}{s s':St}
theorem om{M M':Mem}{v:Value}{c:C}(h:tc c=true)(r:Rd M v c):Rd M' v c:=by
 cases r <;> first|(simp[tc] at h;done)|skip
 case int h1=>exact .int h1
 case bool=>exact .bool
 case str h1 h2=>exact .str h1 h2
 case j4=>exact .j4
 case mz=>exact .mz
 case uZ=>exact .uZ
 case val h1=>exact .val h1
theorem Br{v:Value}{a:A}(h:oY a=true)(r:gd σ s v a):gd σ' s' v a:=by
 cases a with
 |c x=>exact om h r
 |any=>exact r
 |_=>simp[oY] at h
theorem Bt:∀ {vs:List Value}{cs:List A},Ik cs=true->cW σ s vs cs->cW σ' s' vs cs
 |[],[],_,_=>trivial
 |[],_::_,_,r=>r.elim
 |_::_,[],_,r=>r.elim
 |v::vs,c::cs,h,r=>by
  simp only[Ik] at h;cases a:oY c with
  |false=>simp[a] at h
  |true=>simp only[a] at h;exact⟨Br a r.1,Bt h r.2⟩
theorem sM{v:Value}{x:E1}(h:EA x=true)(r:kE σ s v x):kE σ' s' v x:=by
 cases x with
 |one a=>exact Br h r
 |agg cs=>obtain⟨vs,c,b⟩:=r;exact⟨vs,c,Bt h b⟩
theorem yf:∀ {vs:List Value}{cs:List E1},Bq cs=true->ey σ s vs cs->ey σ' s' vs cs
 |[],[],_,_=>trivial
 |[],_::_,_,r=>r.elim
 |_::_,[],_,r=>r.elim
 |v::vs,c::cs,h,r=>by
  simp only[Bq] at h;cases a:EA c with
  |false=>simp[a] at h
  |true=>simp only[a] at h;exact⟨sM a r.1,yf h r.2⟩
theorem Il{v:Value}{d:D}(h:Li d=true)(r:cd σ s v d):cd σ' s' v d:=by
 cases d with
 |e x=>exact sM h r
 |dH xs=>obtain⟨vs,b,a⟩:=r;exact⟨vs,b,yf h a⟩
 |any=>trivial
end
def zO:List aj->Bool
 |[]=>true
 |.cx _::r=>zO r
 |.dead::r=>zO r
 |_=>false
theorem yg:∀ {l:List aj},zO l=true->∀ B∈l,(∃ H,B=.cx H)∨B=.dead
 |[],_,B,a=>by simp at a
 |b::r,h,B,a=>by
  have c:((∃ H,b=.cx H)∨b=.dead)/\zO r=true:=by cases b <;> simp_all [zO]
  rcases dr.1 a with rfl|a
  ·exact c.1
  ·exact yg c.2 B a
def kB(σ:List aj)(lb:Nat)(u:Value)(k n:Nat)(es:Nat->List C):Prop :=
 ∀ s,ag σ s->∃ (L:Loc) (M':Mem),s.β[lb]?=some L/\(∀ b o v,s.M b o=some v->M' b o=some v)/\(∀ b,b∉L.bs->∀ o,M' b o=s.M b o)/\(∀ b o v,M' b o=some v->s.w.cell? ⟨b,o,none⟩=some v) /\
  (∀ b∈L.bs,∀ o,s.M b o=none)/\Rd M' u (.sl false k n es)
section
variable {P:Program}{X:Cx P}{N:Nat}{Qf:Post}{K:List It}{φ:Fr}{σ:List aj}{all rest:List Oper}{o:Oper}
theorem bC.setAt{σ:List aj}{s:St}{d:D}:∀ {vs:List Value}{ds:List D}{p:Nat}{v:Value},bC σ s vs ds->vs[p]?=some v->cd σ s v d->bC σ s vs (ds.set p d)
 |[],[],_,_,_,h,_=>by simp at h
 |[],_::_,_,_,h,_,_=>h.elim
 |_::_,[],_,_,h,_,_=>h.elim
 |u::vs,e::ds,0,v,h,a,b=>by simp at a;subst a;exact⟨b,h.2⟩
 |u::vs,e::ds,p+1,v,h,a,b=>⟨h.1,bC.setAt (p:=p) h.2 (by simpa using a) b⟩
def mD(σ:List aj)(ds Bu:List D):Prop :=
 ∀ s vs,ag σ s->bC σ s vs ds->∃ (B:Nat->Prop) (M':Mem),(∀ b,B b->∃ L∈s.β,b∈L.bs)/\(∀ b o v,s.M b o=some v->M' b o=some v)/\(∀ b,¬B b->∀ o,M' b o=s.M b o) /\
  (∀ b o v,M' b o=some v->s.w.cell? ⟨b,o,none⟩=some v)/\(∀ b,B b->∀ o,s.M b o=none)/\bC σ { s with M:=M' } vs Bu
theorem mD.refl(σ:List aj)(ds:List D):mD σ ds ds:=λs vs hh hr=>⟨λ_=>False,s.M,λ_ h=>h.elim,λ_ _ _ h=>h,λ_ _ _=>rfl,hh.mem,λ_ h=>h.elim,hr⟩
theorem mD.step{σ:List aj}{ds Bu:List D}(h:mD σ ds Bu)(p lb:Nat){u:Value}{k n:Nat}{es:Nat->List C}(A:Bu[p]?=some (.e (.one (.v u))))(hl:kB σ lb u k n es):mD σ ds (Bu.set p (.e (.one (.c (.sl false k n es))))):=by
 classical
 intro s vs hh hr;obtain⟨B,d,H,F,Q,x,R,y⟩:=h s vs hh hr;obtain⟨L,g,q,S,E,z,G,I⟩:=hl s hh;have h1:∀ b o v,d b o=some v->(d b o).or (g b o)=some v:=λb o v a=>by rw[a];rfl
 have h2:∀ b o v,g b o=some v->(d b o).or (g b o)=some v:=λb o v a=>by
  cases e:d b o with
  |none=>rw[a];rfl
  |some v' =>
   have m:=x b o v' e;have j:=z b o v a;rw[m] at j;cases j;rfl
 refine⟨λb=>B b∨b∈L.bs,λb o=>(d b o).or (g b o),?_,λb o v a=>h1 b o v (F b o v a),?_,?_,?_,?_⟩
 ·rintro b (f|f)
  ·exact H b f
  ·exact⟨L,aE q,f⟩
 ·intro b f o;have m:=Q b (λh=>f (.inl h)) o
  have j:=E b (λh=>f (.inr h)) o
  simp only[m,j,Option.or_self]
 ·intro b o v a;cases e:d b o with
  |none=>simp only[e,Option.none_or] at a;exact z b o v a
  |some v'=>simp only[e,Option.some_or] at a;cases a;exact x b o v e
 ·rintro b (f|f) o
  ·exact R b f o
  ·exact G b f o
 ·have e1:Ext σ { s with M:=d } σ { s with M:=λb o=>(d b o).or (g b o) }:=⟨h1,λl B L O q=>⟨B,L,O,q,.refl _ _⟩⟩
  have J:=y.mono e1 hh.len;obtain⟨t,w⟩:=bC.get y;have i:p<vs.length:=by rw[t];exact(aD.1 A).1
  have r:vs[p]?=some u:=by
   have:=w p;rw[A,ai i] at this;have:=Rd.fD (show Rd d vs[p] (.val u) from this)
   rw[ai i,this]
  exact J.setAt r (show cd σ { s with M:=λb o=>(d b o).or (g b o) } u (.e (.one (.c (.sl false k n es)))) from Rd.mono h2 I)
set_option maxHeartbeats 1000000 in
theorem AK.CF [X.kB] {ι:Type}{fo:Operand}{xs:Array Operand}{Qb:Array TypeId}{f:FuncId}{cap:List C}{x:List D}{res:ι->D}{σ1:ι->List aj}(NZ:cf X f x [] res σ1){Bu:List D}
  (VP:Bv all φ o=true) (ho:o.op=.call { callee:=.value fo,args:=xs,argTypes:=Qb }) (hf:eu (bn φ fo)=some (f,cap)) (hl:mD σ (xs.toList.map (bn φ)++fO cap) Bu)
  {ps:List Prop} (Z:uW Bu (ix [] x)=some ps) (VQ:aa ps) (VR:oD 0 x=true) (Bw:∀ j,Li (res j)=true) (fP:∀ j,zO (σ1 j)=true) (hN:gg N o.dst=true)
  (kk:∀ j,AK X N Qf (.ops all rest::K) .normal (iP o.dst (res j) φ) (σ++σ1 j)):AK X N Qf (.ops all (o::rest)::K) .normal φ σ:=by
 intro s a zF hh b kx cs S idx hb fK hQ;cases idx with
 |nil=>exact fK.elim
 |cons i idx =>
 obtain⟨hi,fK⟩:=fK;have Qc:=cV zF fo;unfold eu at hf;split at hf
 case h_2=>cases hf
 case h_1 f' Eo he =>
  cases hf;rw[he] at Qc;have V:=eX Qc;generalize y:a.eval fo=fv at V;cases V with
  |fn fs kU VS N0 f1 f2 h1 h2 r1 r2 =>
   have QO:fs=[]:=dq VS;subst QO;have N1:bC σ s kU (fO cap):=ky (λj c hj=>⟨f2 j,h2 j (by rw[N0];exact(aD.1 hj).1),r2 j c hj⟩) N0
   have W:bC σ s (xs.toList.map a.eval++kU) (xs.toList.map (bn φ)++fO cap):=(mr (cV zF) xs.toList).append N1;generalize EB:xs.toList.map a.eval++kU=vs at W;obtain⟨⟨fn,Nt,Y,J⟩,N2⟩:=NZ;have pP:∀ w,(execOp a.eval o).run P w=.ok (.enter f vs.toArray) w:=λw=>by rw[<-EB];exact(fS ho Nt Y J y w).1
   have QP:∀ w,(execOp a.eval o).events P w #[]=#[]:=λw=>(fS ho Nt Y J y w).2
   refine .next rfl λm zG=>?_
   have hr:=X.fz zG;have e:=hh.rely hr;have QQ:=zF.rely hr hh;have N3:bC σ m vs (xs.toList.map (bn φ)++fO cap):=W.mono hr.stepW.ext hh.len;obtain⟨B,M',T9,m1,m2,m3,m4,m5⟩:=hl m vs e N3
   let I:St:={ m with β:=[],M:=M',own:=λb=>m.own b∨∃ L∈m.β,b∈L.bs }
   have VT:ag [] I:=by
    refine⟨m3,rfl,by simp,by simp[I],by simp[I],λb hb=>⟨?_,by simp[I]⟩⟩
    rcases hb with hb|⟨L',p,hb⟩
    ·exact(e.own b hb).1
    ·exact e.lt L' p b hb
   have QR:dX m I:=by
    refine⟨rfl,m1,λb hb o=>m2 b (λA=>by obtain⟨L,hL,Cz⟩:=T9 b A;exact hb L hL Cz) o,m3,λb hb=>?_⟩
    rcases hb with hb|⟨L',p,_⟩
    ·exact hb
    ·simp[I] at p
   have T:bC [] I vs x:=by
    have a3:=sJ Z VQ m5;exact(bC.sub (ks:=[]) (σ:=σ) (σ':=[]) (s:={ m with M:=M' }) (β':=[]) rfl rfl a3 VR).mono (σ:=[]) (s:={ m with β:=[],M:=M' }) (σ':=[]) (s':=I) ⟨λ_ _ _ h=>h,λl B L A hL=>by simp at A⟩ rfl
   refine⟨_,m,_,nv hi (te VP _ _ _ QQ) hb (pP m.w),⟨⟨σ,σ,e,e,.refl _ _⟩,eK.seen (by rw[QP];exact .nil)⟩,.ghost QR (N2 I vs T VT S _ λj fr v s2 HW mo yb lB=>?_)⟩
   refine oc (cs:=cs) (c:=b.aT a (.inRegion all.toArray (i::idx)::kx)) yb HW λz QS=>?_
   have u:=yb.rely QS;have r:=lB.trans QS.stepW;have N4:=mo.mono QS.stepW.ext yb.len
   classical
   let E:Mem:=λb o=>if B b then m.M b o else z.M b o
   have n:∀ b,(m.own b∨∃ L∈m.β,b∈L.bs)->z.own b:=λb hb=>by rw[r.own];exact hb
   have Ua:lC z { z with M:=E }:=by
    refine⟨rfl,rfl,rfl,λb o v y=>?_,λb o v y=>?_⟩
    ·simp only[E] at y;split at y
     ·rename_i d;rw[m4 b d] at y;cases y
     ·exact y
    ·by_cases d:B b
     ·exact .inr (n b (.inr (T9 b d)))
     ·left;simp only[E,d,aW];exact y
   refine .forget Cx.kB.ok Ua ?_;have QT:∀ b o v,E b o=some v->z.M b o=some v:=Ua.less
   let s5:St:={ z with M:=E,β:=m.β++z.β,own:=m.own }
   have Ub:∀ b o v,m.M b o=some v->E b o=some v:=λb o v y=>by
    by_cases d:B b
    ·rw[m4 b d] at y;cases y
    ·simp only[E,d,aW];exact r.mem b o v (m1 b o v y)
   have Uc:∀ b,b<m.w.heap.size->∀ o,E b o=m.M b o:=λb hb o=>by
    by_cases d:B b
    ·simp only[E,d,aX]
    ·simp only[E,d,aW];rw[r.ij b hb (by simp[I]) o];exact m2 b d o
   have N5:z.β.length=(σ1 j).length:=u.len;have ex:Ext σ m (σ++σ1 j) s5:=by
    refine⟨Ub,λl B L A hL=>⟨B,L,?_,?_,.refl _ _⟩⟩
    ·rw[bc (aD.1 A).1,A]
    ·show (m.β++z.β)[l]?=_;rw[bc (aD.1 hL).1,hL]
   have Eg:m.w.heap.size<=z.w.heap.size:=r.size;have G:∀ (l:Nat) (L':Loc),(m.β++z.β)[l]?=some L'->(l<m.β.length/\m.β[l]?=some L')∨(m.β.length<=l/\z.β[l-m.β.length]?=some L'):=λl L' h=>by
    rcases bz l m.β.length with Q|O
    ·rw[bc Q] at h;exact .inl ⟨Q,h⟩
    ·rw[ck O] at h;exact .inr ⟨O,h⟩
   have VU:ag (σ++σ1 j) s5:=by
    refine⟨λb o v y=>u.mem b o v (QT b o v y),by simp[s5,e.len,N5],?_,?_,?_,?_⟩
    ·intro l B L' A p;rcases G l L' p with⟨Q,h1⟩|⟨O,h1⟩
     ·rw[bc (by rw[<-e.len];exact Q)] at A
      exact(e.box l B L' A h1).carry ex e.len λg d=>⟨r.eC g (.inr ⟨L',aE h1,d⟩),Uc g (e.lt L' (aE h1) g d)⟩
     ·rw[ck (by rw[<-e.len];exact O),<-e.len] at A
      have VV:=u.box _ B L' A h1;rcases yg (fP j) B (aE A) with⟨H,rfl⟩|rfl
      ·obtain⟨ch,c1,c2,c3,c4⟩:=VV;refine⟨ch,c1,c2,c3,λg d o=>?_⟩
       cases hm:E g o with
       |none=>exact hm
       |some v=>have:=QT _ _ _ hm;rw[c4 g d] at this;cases this
      ·trivial
    ·intro l l' L1 L2 VW VX g R U;rcases G l L1 VW with⟨Q,h1⟩|⟨O,h1⟩ <;> rcases G l' L2 VX with⟨VY,h2⟩|⟨VZ,h2⟩
     ·exact e.fe l l' L1 L2 h1 h2 g R U
     ·exact absurd U ((u.own g (n g (.inr ⟨L1,aE h1,R⟩))).2 L2 (aE h2))
     ·exact absurd R ((u.own g (n g (.inr ⟨L2,aE h2,U⟩))).2 L1 (aE h1))
     ·have:=u.fe _ _ L1 L2 h1 h2 g R U;omega
    ·intro L' p g d;rcases dF.1 p with h|h
     ·exact bF (e.lt L' h g d) Eg
     ·exact u.lt L' h g d
    ·intro g d;refine⟨bF (e.own g d).1 Eg,λL' p=>?_⟩
     rcases dF.1 p with h|h
     ·exact(e.own g d).2 L' h
     ·exact(u.own g (n g (.inl d))).2 L' h
   have V0:dX { z with M:=E } s5:=by
    refine⟨rfl,λ_ _ _ h=>h,λ_ _ _=>rfl,λb o v y=>u.mem b o v (QT b o v y),λg d=>?_⟩
    rcases d with d|⟨L',p,d⟩
    ·exact .inl (n g (.inl d))
    ·rcases dF.1 p with h|h
     ·exact .inl (n g (.inr ⟨L',h,d⟩))
     ·exact .inr ⟨L',h,d⟩
   have QU:bo σ m (σ++σ1 j) s5:=by
    refine⟨Eg,λg d=>r.eC g (.inl d),Ub,λg d _ o=>Uc g d o,λL' p g d=>?_,ex.box,r.os,r.tape,r.output,rfl⟩
    rcases dF.1 p with h|h
    ·exact .inr ⟨L',h,d⟩
    ·rcases r.rM L' h g d with h1|⟨L0,h1,_⟩
     ·exact .inl h1
     ·simp[I] at h1
   refine .ghost V0 ?_;have F:=iY (b:=b) (a:=a) (k:=kx) all.toArray i idx v;rw[hi] at F;simp only[jZ] at F;rw[F];refine kk j s5 _ ?_ VU b kx cs S idx hb fK λφ2 σ2 s6 a2 q f2 h2 st=>hQ φ2 σ2 s6 a2 q f2 h2 ((hr.stepW.trans QU).trans st)
   cases hd:o.dst with
   |none=>exact QQ.mono QU e.len
   |some t=>exact(QQ.mono QU e.len).put (et hN t hd) (Il (Bw j) N4)
set_option maxHeartbeats 1000000 in
theorem AK.EC [X.kB] {ι:Type}{r:Operand}{xs:Array Operand}{l:Array TypeId}{f:FuncId}{cap:List C}{a:List D}{res:ι->D}{σ1:ι->List aj}(g:cf X f a [] res σ1)(lb p:Nat){u:Value}{k n:Nat}{es:Nat->List C}
  (h:Bv all φ o=true) (y:o.op=.call { callee:=.value r,args:=xs,argTypes:=l }) (t:eu (bn φ r)=some (f,cap)) (w:(xs.toList.map (bn φ)++fO cap)[p]?=some (.e (.one (.v u)))) (hl:kB σ lb u k n es)
  {ps:List Prop} (d:uW ((xs.toList.map (bn φ)++fO cap).set p (.e (.one (.c (.sl false k n es))))) (ix [] a)=some ps) (q:aa ps) (i:oD 0 a=true) (b:∀ j,Li (res j)=true) (m:∀ j,zO (σ1 j)=true) (x:gg N o.dst=true)
  (kk:∀ j,AK X N Qf (.ops all rest::K) .normal (iP o.dst (res j) φ) (σ++σ1 j)):AK X N Qf (.ops all (o::rest)::K) .normal φ σ :=
 AK.CF g h y t ((mD.refl _ _).step p lb w hl) d q i b m x kk
end
end Go.AM
namespace Go.AM
def gz(E:TypeId)(k:Nat)(bf:oZ)(n:Nat)(xs:List Value):Value->(Nat->Option Obj)->Prop:=λv a=>v=.nilFunc/\(∀ x∈xs,cg x=true)/\xs.length=n*k/\match bf with
 |.nil _=>n=0/\a=λ_=>none
 |.row b cap=>n<=cap/\cap<=9223372036854775807/\∃ c,(xs++c).length=cap*k/\a=λd=>if d=b then some (.cells (xs++c).toArray E (0,0)) else none
def qx(k:Nat)(xs:List Value):Nat->List C:=λi=>((xs.drop (i*k)).take k).map .val
theorem yi{k n i:Nat}{xs:List Value}(a:xs.length=n*k)(hi:i<n):(qx k xs i).length=k:=by
 have:i*k+k<=n*k:=by rw[<-iW];exact ee _ hi
 simp[qx,a];omega
theorem yj{k i j:Nat}{xs:List Value}{c:C}(h:(qx k xs i)[j]?=some c):∃ u,xs[i*k+j]?=some u/\c=.val u:=by
 simp only[qx,mb,de,l9] at h;split at h
 ·cases a:xs[i*k+j]? with
  |none=>rw[a] at h;cases h
  |some u=>rw[a] at h;cases h;exact⟨u,rfl,rfl⟩
 ·cases h
theorem gz.lookup{E:TypeId}{k b cap n:Nat}{xs:List Value}{v:Value}{ch:Nat->Option Obj}(h:gz E k (.row b cap) n xs v ch):∃ c,(xs++c).length=cap*k/\ch b=some (.cells (xs++c).toArray E (0,0))/\∀ a,(ch a).isSome=true↔a=b:=by
 obtain⟨_,_,_,_,_,c,h1,h2⟩:=h;refine⟨c,h1,by rw[h2];simp,λa=>?_⟩
 rw[h2]
 by_cases e:a=b <;> simp[e]
theorem Rd.N6{M:Mem}{b cap k n:Nat}{xs:List Value}(e:∀ x∈xs,cg x=true)(hl:xs.length=n*k)(g:n<=cap)(h:cap<=9223372036854775807)(f:∀ o,M b o=xs[o]?):Rd M (.slice (some ⟨b,0,none⟩) n cap) (.sl false k n (qx k xs)):=by
 refine Rd.ny (M:=M) (k:=k) (n:=n) (es:=qx k xs) (vs:=xs) (a:=some ⟨b,0,none⟩) (b:=b) (off:=0) (cap:=cap) (t:=false) ⟨hl,λi hi=>yi hl hi,λi hi j c hj=>?_⟩ (λ_=>rfl) g h (by simp) (λp u d=>by rw[f,aw];exact d)
 obtain⟨u,h1,rfl⟩:=yj hj;exact⟨u,h1,.val (e u (aE h1))⟩
section
variable {P:Program}{X:Cx P}{N:Nat}{Qf:Post}{K:List It}{φ:Fr}{σ:List aj}{all rest:List Oper}{o:Oper}
theorem gz.Bx{E:TypeId}{k n lb:Nat}{bf:oZ}{xs:List Value}(hl:σ[lb]?=some (.cx (gz E k bf n xs)))(es:Nat->List C)(e:∀ i,i<n->(es i).length=k/\∀ M j c x,(es i)[j]?=some c->xs[i*k+j]?=some x->Rd M x c):kB σ lb (kF bf n) k n es:=by
 intro s hh;have z:lb<σ.length:=(aD.1 hl).1;have q:lb<s.β.length:=by rw[hh.len];exact z
 have A:=ai q;generalize s.β[lb]=L at A;obtain⟨ch,G,g,F,f⟩:=hh.box lb _ L hl A;cases bf with
 |nil a0 =>
  obtain⟨_,_,_,rfl,_⟩:=G;exact⟨L,s.M,A,λ_ _ _ h=>h,λ_ _ _=>rfl,hh.mem,f,Rd.jv⟩
 |row b cap =>
  obtain⟨V,Q,d,J⟩:=G.lookup;obtain⟨R,H,l,r,D,_⟩:=G;have w:b∈L.bs:=(F b).2 (by rw[d];rfl)
  have m:=g b _ d;obtain⟨U,c2⟩:=hh.zP (b:=b) (vs:=xs) (f b w) (λo v O=>by
   simp only[World.cell?,m];have:o<xs.length:=(aD.1 O).1;simpa[bc this] using O)
  refine⟨L,λB o=>if B=b then xs[o]? else s.M B o,A,c2,λB I o=>ak (by rintro rfl;exact I w),U.mem,f,?_⟩
  refine Rd.ny (k:=k) (n:=n) (es:=es) (vs:=xs) (a:=some ⟨b,0,none⟩) (b:=b) (off:=0) (cap:=cap) (t:=false) ⟨l,λi hi=>(e i hi).1,λi hi j c hj=>?_⟩ (λ_=>rfl) r D (by simp) (λp u T=>by simpa using T)
  have S:j<k:=by rw[<-(e i hi).1];exact(aD.1 hj).1
  have y:i*k+j<xs.length:=by
   rw[l];have:i*k+k<=n*k:=by rw[<-iW];exact ee _ hi
   omega
  exact⟨xs[i*k+j],ai y,(e i hi).2 _ j c _ hj (ai y)⟩
set_option maxHeartbeats 1000000 in
theorem AK.zQ{k:Nat}{x y:Operand}{E:TypeId}{ie:TI}(h:oH P o x y E ie)(hs:ie.size=k){d:Nat}(hd:o.dst=some d)(hg:o.guard=none)(hN:gg N o.dst=true){l:Nat}{bf:oZ}{xs:List Value}{n:Nat}(r:bn φ x=.e (.one (.v (kF bf n))))
  (hl:σ[l]?=some (.cx (gz E k bf n xs))) {tx:Bool} {es':Nat->List C} (hy:bn φ y=.e (.one (.c (.sl tx k 1 es')))) {xv:List Value} (YH:xv.length=k) (Ue:∀ (M:Mem) (v:Value) (j:Nat) (c:C),(es' 0)[j]?=some c->Rd M v c->xv[j]?=some v/\cg v=true) (H:(n+1)*ie.bytes<=140737488355328)
  (kk:∀ p:oZ,AK X N Qf (.ops all rest::K) .normal ((d,.e (.one (.v (kF p (n+1)))))::φ) (σ.set l (.cx (gz E k p (n+1) (xs++xv))))):AK X N Qf (.ops all (o::rest)::K) .normal φ σ:=by
 refine AK.hand (ι:=oZ) (λp=>.e (.one (.v (kF p (n+1))))) (λp=>σ.set l (.cx (gz E k p (n+1) (xs++xv)))) hg hN ?_ λp=>by rw[hd];exact kk p
 intro s a hf hh;obtain⟨t,t2,i,i2,ho,hi,U,W,T⟩:=h.op;have ED:l<σ.length:=(aD.1 hl).1;have QV:l<s.β.length:=by rw[hh.len];exact ED
 have hL:=ai QV;generalize s.β[l]=L at hL;obtain⟨ch,hH,EE,Np,QW⟩:=hh.box l _ L hl hL;have QX:=aE hL;have S:=cV hf x;rw[r] at S;have S:=Rd.fD S;have hw:=cV hf y;rw[hy] at hw;have hw:=eX hw;have D:=hH.2.1;have A:=hH.2.2.1;have nM:∀ b,s.w.heap.size<=b->∀ o,s.M b o=none:=λb H o=>by
  cases hm:s.M b o with
  |none=>rfl
  |some v=>have:=hh.block hm;omega
 have mk:∀ (M':Mem) (a0:Option Addr) (cap:Nat),kF bf n=.slice a0 n cap->cap<n+1->ag (σ.map λ_=>.dead) { s with M:=M' }->(∀ g o v,s.M g o=some v->M' g o=some v) ->
   Rd M' (.slice a0 n cap) (.sl false k n (qx k xs))->(∀ {es},eK { s with M:=M' } es->eK s es) ->
   ∃ i nx s' v,(execOp a.eval o).run P s.w=.ok nx s'.w/\(nx=.value v∨(nx=.skip/\v=undef))/\cd (σ.set l (.cx (gz E k i (n+1) (xs++xv)))) s' v (.e (.one (.v (kF i (n+1)))))/\ag (σ.set l (.cx (gz E k i (n+1) (xs++xv)))) s'/\Step σ s (σ.set l (.cx (gz E k i (n+1) (xs++xv)))) s'/\eK s ((execOp a.eval o).events P s.w #[]):=by
  intro M' a0 cap Uf uY Ig V1 hR N7;have V:Rd ({ s with M:=M' }:St).M (a.eval y) (.sl tx ie.size 1 es'):=by rw[hs];exact hw.mono V1
  have Ug:Rd ({ s with M:=M' }:St).M (.slice a0 n cap) (.sl false ie.size n (qx k xs)):=by rw[hs];exact hR
  obtain⟨vs,B,O,R,f2,f3,f4,f5⟩:=gn (P:=P) (s:={ s with M:=M' }) (ty:=o.type) hi U W T h.elem Ig Ug V uY H h.bytes;have f6:=gM (P:=P) (s:={ s with M:=M' }) (ty:=o.type) hi U W T h.elem Ig Ug V uY H h.bytes;rw[hs] at R f4;have Kg:vs.length=(n+1)*k:=R.len;have zE:xs.length+k=(n+1)*k:=by rw[A,iW]
  have V2:0<k:=by have:=h.size;omega
  have I:∀ j,j<k->∃ v,vs[n*k+j]?=some v/\xv[j]?=some v/\cg v=true:=λj hj=>by
   have Lk:=R.width n (by omega)
   have Uh:cj n (qx k xs) es' n=es' 0:=by simp[cj]
   rw[Uh] at Lk;obtain⟨v,v1,z⟩:=R.rd n (by omega) j ((es' 0)[j]'(by omega)) (by rw[Uh];exact ai (by omega))
   have:=Ue _ _ j _ (ai (by omega)) z
   exact⟨v,v1,this.1,this.2⟩
  have EB:vs=xs++xv:=by
   apply jK
   intro q
   by_cases e:q<xs.length
   ·have hi:q / k<n:=pv (by rw[iX,<-A];exact e)
    have QY:q / k*k+q % k=q:=py q k;have V3:=yi (k:=k) A hi;have V4:cj n (qx k xs) es' (q / k)=qx k xs (q / k):=by simp[cj,hi]
    have Ui:q % k<(qx k xs (q / k)).length:=by rw[V3];exact gU _ V2
    obtain⟨v,v1,z⟩:=R.rd (q / k) (by omega) (q % k) ((qx k xs (q / k))[q % k]) (by rw[V4];exact ai Ui)
    obtain⟨u,u1,u2⟩:=yj (ai Ui);rw[u2] at z;rw[QY] at v1 u1;rw[bc e,v1,u1,Rd.fD z]
   ·rw[ck (by omega)]
    by_cases e2:q<xs.length+k
    ·obtain⟨v,v1,z,_⟩:=I (q-xs.length) (by omega)
     rw[z,<-v1];congr 1;rw[<-A];omega
    ·rw[eQ (by omega),eQ (by omega)]
  subst EB;have J:∀ x∈xv,cg x=true:=λx r=>by
   obtain⟨j,hj,rfl⟩:=cJ r;obtain⟨v,_,z,v3⟩:=I j (by omega)
   rw[ai hj] at z;cases z;exact v3
  let w':World:=s.w.drew.alloc (.cells (xs++xv++B).toArray E)
  have Ll:w'.heap[s.w.heap.size]?=some (.cells (xs++xv++B).toArray E (0,0)):=cU s.w.drew _;have Eg:w'.heap.size=s.w.heap.size+1:=by show (s.w.drew.heap.push _).size=_;simp
  obtain⟨t1,QZ⟩:=hh.j5 (l:=l) (H':=gz E k (.row s.w.heap.size O) (n+1) (xs++xv)) (L':=⟨L.v,[s.w.heap.size]⟩) (w':=w') hl hL rfl (by omega)
   (λb H _=>b7 s.w.drew _ H) (λb H=>by simp at H;subst H;exact .inr ⟨ar _,by omega⟩)
   ⟨λg=>if g=s.w.heap.size then some (.cells (xs++xv++B).toArray E (0,0)) else none,⟨hH.1,λx r=>by
    rcases dF.1 r with r|r
    ·exact D x r
    ·exact J x r,by simp only[ba];omega,f2,f3,B,by rw[f4],rfl⟩,λb o H=>by
    by_cases e:b=s.w.heap.size
    ·subst e;simp only[aX] at H;cases H;exact Ll
    ·simp[e] at H,λb=>by by_cases e:b=s.w.heap.size <;> simp[e]⟩ rfl rfl rfl
  refine⟨.row s.w.heap.size O,.value (.slice (some ⟨s.w.heap.size,0,none⟩) (n+1) O),_,_,?_,.inl rfl,Rd.val rfl,t1,QZ,?_⟩
  ·rw[cu ho,S,Uf];simp only[bm,cY];have V5:(Builtin.append_ #[t,t2] o.type #[.slice a0 n cap,a.eval y]).run P s.w=_:=f5;rw[V5];rfl
  ·rw[cu ho,S,Uf];exact dW (N7 f6)
 cases bf with
 |nil a0 =>
  obtain⟨_,_,_,rfl,_⟩:=hH;refine mk s.M a0 0 rfl (by simp) (by have:=hh.k9;exact⟨this.mem,this.len,this.box,this.fe,this.lt,this.own⟩) (λ_ _ _ h=>h) Rd.jv (λh=>h)
 |row b cap =>
  obtain⟨B,Y,Z,N8⟩:=hH.lookup;obtain⟨Ib,_,_,uY,Ef,_⟩:=hH;have Q:b∈L.bs:=(Np b).2 (by rw[Z];rfl)
  have F:=EE b _ Z;have Uj:=QW b Q;have N9:b<s.w.heap.size:=hh.lt L QX b Q;have Nu:∀ o v,xs[o]?=some v->s.w.cell? ⟨b,o,none⟩=some v:=by
   intro o v ho;simp only[World.cell?,F];have:o<xs.length:=(aD.1 ho).1;simpa[bc this] using ho
  obtain⟨c1,c2⟩:=hh.zP (b:=b) (vs:=xs) Uj Nu;have N7:∀ {es:Array Event},eK { s with M:=λg o=>if g=b then xs[o]? else s.M g o } es->eK s es:=λhe =>
   he.yk (b:=b) QX Q c2 λg o v S=>by
    by_cases e:g=b
    ·exact .inl e
    ·simp only[e,aW] at S;exact .inr S
  have hR:=Rd.N6 (M:=λg o=>if g=b then xs[o]? else s.M g o) (b:=b) (cap:=cap) (xs:=xs) D A uY Ef (λo=>by simp)
  by_cases G:n+1<=cap
  ·have V:Rd ({ s with M:=λg o=>if g=b then xs[o]? else s.M g o }:St).M (a.eval y) (.sl tx ie.size 1 es'):=by rw[hs];exact hw.mono c2
   obtain⟨f,R,f2⟩:=iZ (P:=P) (s:={ s with M:=λg o=>if g=b then xs[o]? else s.M g o }) (ty:=o.type) (n:=n) (b:=b) (cap:=cap) hi U W T h.elem c1 F (by rw[hs,Y]) V G
   have f6:=kA (P:=P) (s:=s) (ty:=o.type) (n:=n) (b:=b) (cap:=cap) hi U W T h.elem hh F (by rw[hs,Y]) (x:=a.eval y) (tx:=tx) (es':=es') (by rw[hs];exact hw) G QX Q (λo _=>Uj o)
   rw[hs] at R f2;have Qa:f.length=k:=by have:=R.len;omega
   have Q0:=R.width 0 (by omega)
   have I:∀ j,j<k->∃ v,f[j]?=some v/\xv[j]?=some v/\cg v=true:=λj hj=>by
    obtain⟨v,v1,z⟩:=R.rd 0 (by omega) j ((es' 0)[j]'(by omega)) (ai (by omega))
    have:=Ue _ _ j _ (ai (by omega)) z
    simp only[Nat.zero_mul,aw] at v1;exact⟨v,v1,this.1,this.2⟩
   have Oa:f=xv:=by
    apply jK
    intro q
    by_cases e:q<k
    ·obtain⟨v,v1,z,_⟩:=I q e;rw[v1,z]
    ·rw[eQ (by omega),eQ (by omega)]
   subst Oa;have J:∀ x∈f,cg x=true:=λx r=>by
    obtain⟨j,hj,rfl⟩:=cJ r;obtain⟨v,_,z,v3⟩:=I j (by omega)
    rw[ai hj] at z;cases z;exact v3
   have YI:n*k+k<=cap*k:=by rw[<-iW];exact ee _ G
   have YJ:k<=B.length:=by simp only[ba] at Y;omega
   have Ob:((xs++B).take (n*k)++f++(xs++B).drop (n*k+f.length))=xs++f++B.drop k:=by
    rw[<-A,Qa];simp[sx]
   rw[Ob] at f2;have Lm:(s.w.setRow b (xs++f++B.drop k).toArray).heap[b]?=some (.cells (xs++f++B.drop k).toArray E (0,0)):=setRow_heap s.w b _ _ E _ F;have tf:∀ g,g≠b->(s.w.setRow b (xs++f++B.drop k).toArray).heap[g]?=s.w.heap[g]?:=λg m=>setRow_other s.w b g _ m
   obtain⟨t1,QZ⟩:=hh.j5 (l:=l) (H':=gz E k (.row b cap) (n+1) (xs++f)) (L':=L) (w':=s.w.setRow b (xs++f++B.drop k).toArray) hl hL rfl (by simp)
    (λg m hn=>tf g (by rintro rfl;exact hn Q)) (λg m=>.inl m)
    ⟨λg=>if g=b then some (.cells (xs++f++B.drop k).toArray E (0,0)) else none,⟨Ib,λx r=>by
     rcases dF.1 r with r|r
     ·exact D x r
     ·exact J x r,by simp only[ba];rw[A,Qa,iW],G,Ef,B.drop k,by simp only[ba,gj] at Y ⊢;omega,rfl⟩,λg o m=>by
     by_cases e:g=b
     ·subst e;simp only[aX] at m;cases m;exact Lm
     ·simp[e] at m,λg=>by
     rw[Np g,N8 g]
     by_cases e:g=b <;> simp[e]⟩ rfl rfl rfl
   refine⟨.row b cap,.value (.slice (some ⟨b,0,none⟩) (n+1) cap),_,_,?_,.inl rfl,Rd.val rfl,t1,QZ,?_⟩
   ·rw[cu ho,S];simp only[bm,cY,kF];have V6:(Builtin.append_ #[t,t2] o.type #[.slice (some ⟨b,0,none⟩) n cap,a.eval y]).run P s.w=_:=f2;rw[V6];rfl
   ·rw[cu ho,S];exact dW f6
  ·exact mk _ (some ⟨b,0,none⟩) cap rfl (by omega) c1 c2 hR N7
theorem AK.Im(t:Nat)(E:TypeId)(k:Nat){i:Nat}{es:Nat->List C}{c:Code}(g:look φ t=.e (.one (.c (.sl true i 0 es))))
  (kk:∀ bf:oZ,AK X N Qf (.code c::K) .normal ((t,.e (.one (.v (kF bf 0))))::φ) (σ++[.cx (gz E k bf 0 [])])):AK X N Qf (.code c::K) .normal φ σ:=by
 refine AW.Lj (λs a d hh=>?_) kk
 have f:=d.slot t;rw[g] at f;obtain⟨a0,cap,vs,l,_,_,b,_,_⟩:=(eX f).flat;have b:=b rfl;subst b;obtain⟨h,g2⟩:=hh.hO (B:=.cx (gz E k (.nil a0) 0 [])) (L:=⟨.nilFunc,[]⟩) (.refl _ _) rfl hh ⟨λ_=>none,⟨rfl,by simp,by simp,rfl,rfl⟩,by simp,by simp,by simp⟩ (by simp)
 refine⟨.nil a0,{ s with β:=s.β++[⟨.nilFunc,[]⟩] },rfl,⟨d.size,d.defers.imp λ_ h1=>h1.mono g2.ext,λu=>?_⟩,h,g2⟩
 simp only[look];cases j:Nat.beq t u with
 |false=>exact(d.slot u).mono g2.ext hh.len
 |true =>
  have e:=aO j;subst e;show Rd _ _ _;rw[l];exact Rd.val rfl
theorem AK.tg(t l:Nat){E:TypeId}{k n:Nat}{bf:oZ}{xs:List Value}(es:Nat->List C){c:Code}(z:look φ t=.e (.one (.v (kF bf n))))(hl:σ[l]?=some (.cx (gz E k bf n xs)))(m:∀ i,i<n->(es i).length=k/\∀ M j c x,(es i)[j]?=some c->xs[i*k+j]?=some x->Rd M x c)
  (kk:AK X N Qf (.code c::K) .normal ((t,.e (.one (.c (.sl false k n es))))::φ) (σ.set l .dead)):AK X N Qf (.code c::K) .normal φ σ:=by
 refine AK.ghost (λs a g hh=>?_) kk
 obtain⟨L,M',q,p,w,y,H,F⟩:=gz.Bx hl es m s hh;have d:l<σ.length:=(aD.1 hl).1;have r:=g.slot t;rw[z] at r;have G:=Rd.fD r;have ex:Ext σ s (σ.set l .dead) { s with M:=M' }:=by
  refine⟨p,λl' B L' jR gf=>?_⟩
  by_cases e:l=l'
  ·subst e;rw[hl] at jR;cases jR;exact⟨.dead,L',by rw[bk d],gf,rfl⟩
  ·exact⟨B,L',by rw[b6 e];exact jR,gf,.refl _ _⟩
 have st:Step σ s (σ.set l .dead) { s with M:=M' }:=by
  refine⟨ar _,λ_ _ _=>rfl,p,λb _ A o=>w b (A L (aE q)) o,λL h b f=>.inr ⟨L,h,f⟩,ex.box,rfl,rfl,rfl,rfl⟩
 refine⟨{ s with M:=M' },rfl,⟨g.size,g.defers.imp λ_ h1=>h1.mono st.ext,λu=>?_⟩,⟨y,by simp[hh.len],?_,hh.fe,hh.lt,hh.own⟩,st⟩
 ·simp only[look];cases f:Nat.beq t u with
  |false=>exact(g.slot u).mono st.ext hh.len
  |true =>
   have e:=aO f;subst e;show Rd _ _ _;rw[G];exact F
 ·intro l' B L' jR gf
  by_cases e:l=l'
  ·subst e;rw[bk d] at jR;cases jR;trivial
  ·rw[b6 e] at jR;exact(hh.box l' B L' jR gf).carry ex hh.len λb f=>⟨rfl,w b λD=>e (hh.fe l l' L L' q gf b D f)⟩
end
end Go.AM
namespace Go.AM
open Go.Conc (G)
structure c6 (k n:Nat)(es:Nat->List C)(xs:List Value):Prop where
 len:xs.length=n*k
 wid:∀ i,i<n->(es i).length=k
 at':∀ i,i<n->∀ j c,(es i)[j]?=some c->∃ x,xs[i*k+j]?=some x/\∀ M,Rd M x c
theorem c6.rd{k n:Nat}{es:Nat->List C}{xs:List Value}(h:c6 k n es xs):∀ i,i<n->(es i).length=k/\∀ M j c x,(es i)[j]?=some c->xs[i*k+j]?=some x->Rd M x c:=λi hi =>
 ⟨h.wid i hi,λM j c x hj hx=>by obtain⟨y,h1,h2⟩:=h.at' i hi j c hj;rw[hx] at h1;cases h1;exact h2 M⟩
def EJ(v:Value):A->A
 |.vec 0 _ _ _=>.v v
 |a=>a
def By(v:Value):E1->E1
 |.one a=>.one (EJ v a)
 |e=>e
def wT(v:Value):List E1->List E1
 |[]=>[]
 |a::r=>By v a::wT v r
def Bz(v:Value):D->D
 |.e x=>.e (By v x)
 |.dH xs=>.dH (wT v xs)
 |.any=>.any
def gV(n:Nat):A->Bool
 |.vec 0 _ b _=>Nat.beq b n
 |a=>oY a
def mF(n:Nat):E1->Bool
 |.one a=>gV n a
 |e=>EA e
def kG(n:Nat):List E1->Bool
 |[]=>true
 |a::r=>match mF n a with|true=>kG n r|false=>false
def pR(n:Nat):D->Bool
 |.e x=>mF n x
 |.dH xs=>kG n xs
 |.any=>true
section
variable {σ':List aj}{s s':St}{E:TypeId}{k n:Nat}{es:Nat->List C}{L:Loc}
theorem FZ(i:s.β[0]?=some L){v:Value}{a:A}(h:gV n a=true)(r:gd [aj.vec E k n es] s v a):gd σ' s' v (EJ L.v a):=by
 cases a with
 |c x=>exact om h r
 |any=>exact r
 |vec l k' n' es' =>
  cases l with
  |zero =>
   obtain⟨g,_,b⟩:=r;have b:=b E k n es rfl;have e:=aO h;obtain⟨L',d,f⟩:=b.2 e.symm;rw[i] at d;cases d;show Rd _ _ _;rw[f];exact .val (f▸g.cell)
  |succ l=>simp[gV,oY] at h
 |ptr=>simp[gV,oY] at h
 |ref=>simp[gV,oY] at h
 |bp=>simp[gV,oY] at h
theorem yO(b:s.β[0]?=some L){v:Value}{x:E1}(h:mF n x=true)(r:kE [aj.vec E k n es] s v x):kE σ' s' v (By L.v x):=by
 cases x with
 |one a=>exact FZ b h r
 |agg cs=>exact sM (x:=.agg cs) h r
theorem vN(b:s.β[0]?=some L):∀ {vs:List Value}{cs:List E1},kG n cs=true->ey [aj.vec E k n es] s vs cs->ey σ' s' vs (wT L.v cs)
 |[],[],_,_=>trivial
 |[],_::_,_,r=>r.elim
 |_::_,[],_,r=>r.elim
 |v::vs,c::cs,h,r=>by
  simp only[kG] at h;cases a:mF n c with
  |false=>simp[a] at h
  |true=>simp only[a] at h;exact⟨yO b a r.1,vN b h r.2⟩
theorem yP(a:s.β[0]?=some L){v:Value}{d:D}(h:pR n d=true)(r:cd [aj.vec E k n es] s v d):cd σ' s' v (Bz L.v d):=by
 cases d with
 |e x=>exact yO a h r
 |dH xs=>obtain⟨vs,c,b⟩:=r;exact⟨vs,c,vN a h b⟩
 |any=>trivial
end
theorem List.vc{α:Type}{l:List α}{n i:Nat}(h:i<n):(l.take n)[i]?=l[i]?:=by simp[h]
def sU:List ResultVar->Bool
 |[]=>true
 |.tmp _::r=>sU r
 |.cell _ _::_=>false
theorem rv{P:Program}{a:Act}:∀ {rs:List ResultVar},sU rs=true->∃ vs,(∀ w,(rs.mapM (eZ a)).run P w=Result.ok vs w)/\bR P (rs.mapM (eZ a))
 |[],_=>⟨[],by simp,by rw[List.mapM_nil];exact .pure⟩
 |.tmp t::r,h=>by
  obtain⟨vs,c,b⟩:=rv (P:=P) (a:=a) (rs:=r) h;refine⟨a.tmps.getD t undef::vs,λw=>?_,?_⟩
  ·simp only[jo,bm,eZ,cY,bP,c]
  ·rw[jo];exact .bind .pure λ_=>.bind b λ_=>.pure
theorem rO.tmp{P:Program}{f:FuncId}{fn:Func}{fr:Frame}{v:Value}{s s':St}(h:rO P f fr v s)(j:P.funcs[f]?=some fn)(p:sU fn.results.toList=true)(m:∀ b o u,s.M b o=some u->s.w.cell? ⟨b,o,none⟩=some u):rO P f fr v s':=by
 obtain⟨h1,h2,t,x,c,d,q⟩:=h;have e:c=fn:=by rw[h1,j] at d;cases d;rfl
 subst e
 let a:Act:={ tmps:=fr.tmps,defers:=[] }
 obtain⟨vs,k1,l⟩:=rv (P:=P) (a:=a) p;have e1:∀ w,(c.results.mapM (eZ a)).run P w=Result.ok vs.toArray w:=λw=>by
  rw[oR];simp only[Sem.run_map,k1,bP]
 have e2:∀ w,(results c fr.tmps).run P w=.ok (if h:vs.toArray.size=1 then vs.toArray[0] else .tuple vs.toArray) w:=λw=>by
  unfold results;rw[bm];refine(cn (λr=>Result.andThen r _) (e1 w)).trans ?_
  simp
 have e3:bR P (results c fr.tmps):=by
  unfold results;have e:bR P (c.results.mapM (eZ a)):=by
   rw[oR];exact .map l
  exact .bind e λ_=>.pure
 have i:=(q s.w m).1;rw[e2] at i;cases i;exact⟨h1,h2,t,x,c,d,λw _=>⟨e2 w,λe g=>by rw[e3 w #[]] at g;simp at g⟩⟩
set_option maxHeartbeats 1000000 in
theorem Ev.thaw{P:Program}{X:Cx P} [X.kB] {f:FuncId}{args:List D}{res:D}{E:TypeId}{k n:Nat}{es:Nat->List C}(h:Ev X f args [] res [.vec E k n es]){fn:Func}(hf:P.funcs[f]?=some fn)(ht:sU fn.results.toList=true)(Qx:pR n res=true)
  (U:∀ i,i<n->(es i).length=k/\∀ c∈es i,tc c=true) :
  cf (ι:={ q:oZ×List Value // c6 k n es q.2 }) X f args [] (λq=>Bz (kF q.1.1 n) res) (λq=>[.cx (gz E k q.1.1 n q.1.2)]):=by
 refine⟨h.1,λs vs hr hh S cs hS=>h.2 s vs hr hh S cs λfr v s' hl mo ia st=>?_⟩
 have Si:s.β=[]:=dq hh.len;have y:s'.β.length=1:=ia.len;obtain⟨L,A⟩:∃ L,s'.β=[L]:=by
  match hq:s'.β with
  |[L]=>exact⟨L,rfl⟩
  |[]=>rw[hq] at y;cases y
  |_::_::_=>rw[hq] at y;simp at y
 have hL:s'.β[0]?=some L:=by rw[A];rfl
 obtain⟨J,Z⟩:=ia.box 0 _ L rfl hL;rcases Z with⟨⟨Np,Xa⟩,H⟩|⟨b,cap,cells,NA,G,zE,Bw⟩
 ·subst Xa;obtain⟨a,cap,YX,hv,uY,Ef,Xb,_⟩:=H.flat;have Y:cap=0:=Xb rfl;subst Y
  let r:St:={ s' with β:=[⟨.nilFunc,[]⟩] }
  have hg:dX s' r:=⟨rfl,λ_ _ _ h=>h,λ_ _ _=>rfl,ia.mem,λb K=>by
   rcases K with K|⟨L',g,K⟩
   ·exact .inl K
   ·simp[r] at g;subst g;simp at K⟩
  have I:c6 k 0 es []:=⟨by simp,λi hi=>by omega,λi hi=>by omega⟩
  refine .ghost hg (hS ⟨(.nil a,[]),I⟩ fr v r (hl.tmp hf ht ia.mem) ?_ ?_ ?_)
  ·have:=yP (σ':=[aj.cx (gz E k (.nil a) 0 [])]) (s':=r) hL Qx mo;rw[hv] at this;exact this
  ·refine⟨ia.mem,rfl,λl B L' hB g=>?_,?_,by simp[r],λb K=>⟨(ia.own b K).1,by simp[r]⟩⟩
   ·cases l with
    |zero=>cases hB;cases g;exact⟨λ_=>none,⟨rfl,by simp,by simp,rfl,rfl⟩,by simp,by simp,by simp⟩
    |succ l=>simp at hB
   ·intro l l' L1 L2 h1 h2 b J Z;cases l with
    |zero=>cases h1;simp at J
    |succ l=>simp[r] at h1
  ·refine⟨st.size,st.eC,st.mem,st.ij,λL' g b K=>?_,λl B L' hB=>by simp at hB,st.os,st.tape,st.output,st.own⟩
   simp[r] at g;subst g;simp at K
 ·subst NA;have UQ:b∈(⟨.slice (some ⟨b,0,none⟩) n cap,[b]⟩:Loc).bs:=by simp
  have T:s.w.heap.size<=b:=by
   rcases st.rM _ (by rw[A];simp) b UQ with h1|⟨L0,h1,_⟩
   ·exact h1
   ·rw[Si] at h1;simp at h1
  have N9:b<s'.w.heap.size:=ia.lt _ (by rw[A];simp) b UQ
  obtain⟨a1,Xc,t,Xd,z,Sj,_,hF,hm⟩:=J.flat;cases Xd;have F:t.length=n*k:=hF.len;have Sk:∀ p u,t[p]?=some u->cells[p]?=some u:=λp u Q=>by
   obtain⟨b1,QM,e,Le⟩:=hm p u Q;cases e;have:=ia.mem _ _ _ Le;simp only[World.cell?,G] at this;simpa using this
  have YY:n*k<=cells.length:=by rw[zE];exact ee _ z
  have R:cells.take (n*k)=t:=by
   apply jK
   intro p
   by_cases Q:p<n*k
   ·rw[List.vc Q,ai (by omega:p<t.length),Sk p _ (ai (by omega))]
   ·rw[eQ (by simp;omega),eQ (by omega)]
  have O:t++cells.drop (n*k)=cells:=by rw[<-R,nu]
  have I:c6 k n es t:=by
   refine⟨F,λi hi=>(U i hi).1,λi hi j c hj=>?_⟩
   obtain⟨u,u1,u2⟩:=hF.rd i hi j c hj;exact⟨u,u1,λM=>om ((U i hi).2 c (aE hj)) u2⟩
  have W:∀ x∈t,cg x=true:=λx hx=>by
   obtain⟨p,Q,rfl⟩:=cJ hx;have hk:0<k:=by
    rcases iq k with e|e
    ·subst e;simp at F;rw[F] at Q;simp at Q
    ·exact e
   have hi:p / k<n:=pv (by rw[iX,<-F];exact Q)
   have QY:p / k*k+p % k=p:=py p k;have hj:p % k<(es (p / k)).length:=by rw[(U _ hi).1];exact gU _ hk
   obtain⟨u,u1,u2⟩:=I.at' _ hi _ _ (ai hj);rw[QY,ai Q] at u1;cases u1;exact(u2 s.M).cell
  have V:∀ m o v',s.M m o=some v'->m≠b:=λm o v' hm' e=>by
   have:=hh.block hm';omega
  let N:Mem:=λm o=>if m=b then none else s'.M m o
  let s1:St:={ s' with β:=[],own:=λx=>s'.own x∨x=b }
  let s2:St:={ s1 with M:=N }
  let r:St:={ s' with β:=[⟨.nilFunc,[b]⟩],M:=N }
  have Sl:∀ m o v',N m o=some v'->s'.M m o=some v':=λm o v' h'=>by
   simp only[N] at h';split at h'
   ·cases h'
   ·exact h'
  have QR:dX s' s1:=⟨rfl,λ_ _ _ h=>h,λ_ _ _=>rfl,ia.mem,λm d=>by
   rcases d with(d|d)|⟨L',g,_⟩
   ·exact .inl d
   ·exact .inr ⟨_,by rw[A];simp;rfl,by rw[d];simp⟩
   ·simp[s1] at g⟩
  have Us:lC s1 s2:=⟨rfl,rfl,rfl,Sl,λm o v' h'=>by
   by_cases e:m=b
   ·exact .inr (.inr e)
   ·left;simp only[s2,N,e,aW];exact h'⟩
  have Xe:dX s2 r:=⟨rfl,λ_ _ _ h=>h,λ_ _ _=>rfl,λm o v' h'=>ia.mem _ _ _ (Sl _ _ _ h'),λm d=>by
   rcases d with d|⟨L',g,d⟩
   ·exact .inl (.inl d)
   ·simp[r] at g;subst g;simp at d;exact .inl (.inr d)⟩
  refine .ghost QR (.forget Cx.kB.ok Us (.ghost Xe (hS ⟨(.row b cap,t),I⟩ fr v r (hl.tmp hf ht ia.mem) ?_ ?_ ?_)))
  ·exact yP (L:=⟨.slice (some ⟨b,0,none⟩) n cap,[b]⟩) hL Qx mo
  ·refine⟨λm o v' h'=>ia.mem _ _ _ (Sl _ _ _ h'),rfl,λl B L' hB g=>?_,?_,λL' g m d=>?_,λm d=>⟨(ia.own m d).1,λL' g=>?_⟩⟩
   ·cases l with
    |zero =>
     cases hB;cases g;refine⟨λm=>if m=b then some (.cells (t++cells.drop (n*k)).toArray E (0,0)) else none,⟨rfl,W,F,z,Sj,cells.drop (n*k),?_,rfl⟩,λm o d=>?_,λm=>?_,λm d o=>?_⟩
     ·exact(cn List.length O).trans zE
     ·by_cases e:m=b
      ·subst e;simp only[aX] at d;cases d;rw[O];exact G
      ·simp[e] at d
     ·by_cases e:m=b <;> simp[e]
     ·simp at d;subst d;simp[r,N]
    |succ l=>simp at hB
   ·intro l l' L1 L2 h1 h2 m J Z;cases l with
    |zero=>cases l' with
     |zero=>rfl
     |succ l'=>simp[r] at h2
    |succ l=>simp[r] at h1
   ·simp[r] at g;subst g;simp at d;subst d;exact N9
   ·simp[r] at g;subst g;have:=(ia.own m d).2 _ (by rw[A];simp;rfl)
    simpa using this
  ·refine⟨st.size,st.eC,λm o v' h'=>?_,λm d hn o=>?_,λL' g m d=>?_,λl B L' hB=>by simp at hB,st.os,st.tape,st.output,st.own⟩
   ·simp only[r,N,ak (V m o v' h')];exact st.mem _ _ _ h'
   ·have:m≠b:=by omega
    simp only[r,N,ak this];exact st.ij m d hn o
   ·simp[r] at g;subst g;simp at d;subst d;exact .inl T
section
variable {P:Program}{X:Cx P}{N:Nat}{Qf:Post}{K:List It}{φ:Fr}{σ:List aj}{all rest:List Oper}{o:Oper}
theorem AK.EF{p:Prop}(h:∀ s,ag σ s->p)(k:p->AK X N Qf (.ops all rest::K) .normal φ σ):AK X N Qf (.ops all rest::K) .normal φ σ :=
 λs a b hh=>k (h s hh) s a b hh
theorem gz.len{E:TypeId}{k n l:Nat}{bf:oZ}{xs:List Value}(hl:σ[l]?=some (.cx (gz E k bf n xs)))(s:St)(hh:ag σ s):xs.length=n*k/\n<=9223372036854775807/\(0<n->∃ b cap,bf=.row b cap)/\∀ a,bf=.nil a->n=0:=by
 have c:l<s.β.length:=by rw[hh.len];exact(aD.1 hl).1
 obtain⟨ch,f,_⟩:=hh.box l _ _ hl (ai c);cases bf with
 |nil a=>obtain⟨_,_,d,rfl,_⟩:=f;exact⟨d,by omega,λh=>by omega,λ_ _=>rfl⟩
 |row b cap=>obtain⟨_,_,d,j,i,_⟩:=f;exact⟨d,by omega,λ_=>⟨b,cap,rfl⟩,λa e=>by cases e⟩
def pQ:List A->Bool
 |[]=>true
 |.c x::r=>match tc x with|true=>pQ r|false=>false
 |_=>false
def lE(vs:List Value)(cs:List A):Prop:=vs.length=cs.length/\∀ (j:Nat)(c:C),cs[j]?=some (A.c c)->∃ v,vs[j]?=some v/\∀ M,Rd M v c
theorem lE.of{σ:List aj}{s:St}:∀ {vs:List Value}{cs:List A},pQ cs=true->cW σ s vs cs->lE vs cs
 |[],[],_,_=>⟨rfl,λj c h=>by simp at h⟩
 |[],_::_,_,r=>r.elim
 |_::_,[],_,r=>r.elim
 |v::vs,.c x::cs,h,r=>by
  simp only[pQ] at h;cases a:tc x with
  |false=>simp[a] at h
  |true =>
   simp only[a] at h;obtain⟨h1,h2⟩:=lE.of h r.2;refine⟨by simp[h1],λj c hj=>?_⟩
   cases j with
   |zero=>simp at hj;subst hj;exact⟨v,rfl,λM=>om a r.1⟩
   |succ j=>simp at hj;obtain⟨u,b,d⟩:=h2 j c hj;exact⟨u,by simpa using b,d⟩
 |_::_,.ptr _ _::_,h,_=>by simp[pQ] at h
 |_::_,.vec _ _ _ _::_,h,_=>by simp[pQ] at h
 |_::_,.ref _::_,h,_=>by simp[pQ] at h
 |_::_,.bp _ _::_,h,_=>by simp[pQ] at h
 |_::_,.any::_,h,_=>by simp[pQ] at h
theorem cW.cg{σ:List aj}{s:St}:∀ {vs:List Value}{cs:List A},cW σ s vs cs->∀ v∈vs,AM.cg v=true
 |[],[],_,v,h=>by simp at h
 |[],_::_,r,_,_=>r.elim
 |_::_,[],r,_,_=>r.elim
 |u::vs,c::cs,r,v,h=>by
  rcases dr.1 h with rfl|h
  ·exact gd.cell r.1
  ·exact cW.cg r.2 v h
theorem AK.zR{T:List (Nat×TI)}(hT:cz P T)(l:Nat){t:TypeId}{x y:Operand}{E:TypeId}{k n b cap off:Nat}{xs:List Value}{new:List A}{i:TI}(h:o.op=.store t x y)(hi:aQ T t=some i)(q:bn φ x=.e (.one (.v (.pointer (some ⟨b,off,none⟩)))))(hy:lF (bn φ y)=some new)(O:new.length=i.size)(Q1:pQ new=true)
  (hl:σ[l]?=some (.cx (gz E k (.row b cap) n xs))) (Oc:off+new.length<=xs.length) (hg:o.guard=none) (hN:gg N o.dst=true)
  (kk:∀ vs,lE vs new->AK X N Qf (.ops all rest::K) .normal (iP o.dst .any φ) (σ.set l (.cx (gz E k (.row b cap) n (xs.take off++vs++xs.drop (off+vs.length)))))):AK X N Qf (.ops all (o::rest)::K) .normal φ σ:=by
 refine AK.hand (ι:={ vs:List Value // lE vs new }) (λ_=>.any) (λvs=>σ.set l (.cx (gz E k (.row b cap) n (xs.take off++vs.1++xs.drop (off+vs.1.length))))) hg hN (λs a hf hh=>?_) λvs=>kk vs.1 vs.2
 have Y:=cV hf x;rw[q] at Y;have Y:=Rd.fD Y;have B:=lK hy (cV hf y);have ED:l<σ.length:=(aD.1 hl).1;have V:l<s.β.length:=by rw[hh.len];exact ED
 have hL:=ai V;generalize s.β[l]=L at hL;obtain⟨ch,hH,M,Q,QW⟩:=hh.box l _ L hl hL;obtain⟨f,Q2,D,S⟩:=gz.lookup hH;obtain⟨Ib,z,Uk,W,Ef,_⟩:=hH;have J:b∈L.bs:=(Q b).2 (by rw[D];rfl)
 have p:=M b _ D
 let vs:=(a.eval y).cells.toList
 have Z:lE vs new:=lE.of Q1 B;have Kg:vs.length=new.length:=Z.1;have G:off+0+vs.length<=(xs++f).toArray.size:=by simp;omega
 have H:=run_storeCells_at P b off E vs 0 (xs++f).toArray s.w p G B.cell;simp only[gm] at H;have I:(xs++f).take off++vs++(xs++f).drop (off+vs.length)=(xs.take off++vs++xs.drop (off+vs.length))++f:=by
  have e1:off-xs.length=0:=by omega
  have e2:off+vs.length-xs.length=0:=by omega
  simp only[List.take_append,sx,e1,e2,List.take_zero,List.drop_zero,iV,di]
 rw[I] at H;have F:(xs.take off++vs++xs.drop (off+vs.length)).length=xs.length:=by
  simp only[ba,List.length_take,gj];omega
 have Lm:=setRow_heap s.w b (xs++f).toArray ((xs.take off++vs++xs.drop (off+vs.length))++f).toArray E (0,0) p;have tf:∀ d,d≠b->(s.w.setRow b ((xs.take off++vs++xs.drop (off+vs.length))++f).toArray).heap[d]?=s.w.heap[d]?:=λd c=>setRow_other s.w b d _ c
 obtain⟨t1,t2⟩:=hh.j5 (l:=l) (H':=gz E k (.row b cap) n (xs.take off++vs++xs.drop (off+vs.length))) (L':=L) (w':=s.w.setRow b ((xs.take off++vs++xs.drop (off+vs.length))++f).toArray) hl hL rfl (by simp)
  (λd c hn=>tf d (by rintro rfl;exact hn J)) (λd c=>.inl c)
  ⟨λd=>if d=b then some (.cells ((xs.take off++vs++xs.drop (off+vs.length))++f).toArray E (0,0)) else none,⟨Ib,λx q=>by
   rcases dF.1 q with q|q
   ·rcases dF.1 q with q|q
    ·exact z x (gH q)
    ·exact cW.cg B x q
   ·exact z x (si q),by rw[F];exact Uk,W,Ef,f,by rw[ba,F,<-ba];exact Q2,rfl⟩,λd o c=>by
   by_cases e:d=b
   ·subst e;simp only[aX] at c;cases c;exact Lm
   ·simp[e] at c,λd=>by
   rw[Q d,S d]
   by_cases e:d=b <;> simp[e]⟩ rfl rfl rfl
 have R:(a.eval y).cells.size=i.size:=by rw[<-O,<-Kg];exact fU.symm
 refine⟨⟨vs,Z⟩,.skip,_,undef,?_,.inr ⟨rfl,rfl⟩,ab,t1,t2,?_⟩
 ·have U:(storeCells ⟨b,off,none⟩ (a.eval y).cells.toList).run P s.w=_:=H;simp[execOp,h,Y,Instr.storeAt,Instr.sureAddr,storeVar,(hT t i hi).run_sizeOf,R,U]
 ·intro ev m;have e:execOp a.eval o=(do storeVar t ⟨b,off,none⟩ (a.eval y);pure .skip):=by simp[execOp,h,Y,Instr.storeAt,Instr.sureAddr]
  rw[e] at m;have Q3:ev∈(storeCells ⟨b,off,none⟩ (a.eval y).cells.toList).events P s.w #[]:=by
   simp only[storeVar,Sem.events_bind,(hT t i hi).run_sizeOf,R,Result.evThen_ok,events_sizeOf,bY,en,aW,bm,bP,Sem.events_pure] at m;generalize (storeCells ⟨b,off,none⟩ (a.eval y).cells.toList).run P s.w=r at m;cases r with
   |ok v w'=>simpa using m
   |halt x w'=>simpa using m
  rcases eh (a.eval y).cells.toList 0 (xs++f).toArray s.w #[] p G B.cell ev Q3 with Ig|⟨j,_,_,rfl⟩
  ·simp at Ig
  ·exact mv (aE hL) J (QW b J _)
theorem AK.swap(i j:Nat){H1 H2:Value->(Nat->Option Obj)->Prop}{c:Code}(S:i≠j)(hi:σ[i]?=some (.cx H1))(hj:σ[j]?=some (.cx H2))(h1:∀ v ch,H1 v ch->v=.nilFunc)(h2:∀ v ch,H2 v ch->v=.nilFunc)
  (kk:AK X N Qf (.code c::K) .normal φ ((σ.set i (.cx H2)).set j (.cx H1))):AK X N Qf (.code c::K) .normal φ σ:=by
 refine AK.ghost (λs a I hh=>?_) kk
 have A:i<σ.length:=(aD.1 hi).1;have D:j<σ.length:=(aD.1 hj).1;have y:i<s.β.length:=by rw[hh.len];exact A
 have E:j<s.β.length:=by rw[hh.len];exact D
 obtain⟨z,p⟩:∃ L,s.β[i]?=some L:=⟨_,ai y⟩;obtain⟨x,r⟩:∃ L,s.β[j]?=some L:=⟨_,ai E⟩;have O:=hh.box i _ z hi p;have M:=hh.box j _ x hj r;have R:z.v=.nilFunc:=by obtain⟨ch,H,_⟩:=O;exact h1 _ _ H
 have Q:x.v=.nilFunc:=by obtain⟨ch,H,_⟩:=M;exact h2 _ _ H
 let s':St:={ s with β:=(s.β.set i x).set j z }
 have F:∀ l,((σ.set i (.cx H2)).set j (.cx H1))[l]?=if l=j then some (.cx H1) else if l=i then some (.cx H2) else σ[l]?:=λl=>by
  by_cases e:j=l
  ·subst e;rw[bk (by simpa using D),an rfl]
  ·rw[b6 e,ak (fJ e)]
   by_cases f:i=l
   ·subst f;rw[bk A,an rfl]
   ·rw[b6 f,ak (fJ f)]
 have w:∀ l,s'.β[l]?=if l=j then some z else if l=i then some x else s.β[l]?:=λl=>by
  show ((s.β.set i x).set j z)[l]?=_
  by_cases e:j=l
  ·subst e;rw[bk (by simpa using E),an rfl]
  ·rw[b6 e,ak (fJ e)]
   by_cases f:i=l
   ·subst f;rw[bk y,an rfl]
   ·rw[b6 f,ak (fJ f)]
 have G:∀ L∈s'.β,L∈s.β:=λL d=>by
  obtain⟨l,hl,rfl⟩:=cJ d;have:=w l;rw[ai hl] at this;split at this
  ·rw[lA this];exact aE p
  ·split at this
   ·rw[lA this];exact aE r
   ·exact aE this.symm
 have ex:Ext σ s ((σ.set i (.cx H2)).set j (.cx H1)) s':=by
  refine⟨λ_ _ _ h=>h,λl B L m d=>?_⟩
  rw[F,w]
  by_cases e:l=j
  ·subst e;rw[hj] at m;cases m;rw[r] at d;cases d;exact⟨.cx H1,z,by simp,by simp,by show z.v=_;rw[R,Q]⟩
  ·by_cases f:l=i
   ·subst f;rw[hi] at m;cases m;rw[p] at d;cases d;exact⟨.cx H2,x,by simp[e],by simp[e],by show x.v=_;rw[R,Q]⟩
   ·exact⟨B,L,by simp[e,f,m],by simp[e,f,d],.refl _ _⟩
 have st:Step σ s ((σ.set i (.cx H2)).set j (.cx H1)) s':=by
  exact⟨ar _,λ_ _ _=>rfl,λ_ _ _ h=>h,λ_ _ _ _=>rfl,λL h b t=>.inr ⟨L,G L h,t⟩,ex.box,rfl,rfl,rfl,rfl⟩
 refine⟨s',rfl,⟨I.size,I.defers.imp λ_ h1=>h1.mono ex,λu=>(I.slot u).mono ex hh.len⟩,⟨hh.mem,by simp[s',hh.len],?_,?_,λL d b t=>hh.lt L (G L d) b t,λb t=>⟨(hh.own b t).1,λL d=>(hh.own b t).2 L (G L d)⟩⟩,st⟩
 ·intro l B L m d;rw[F] at m;rw[w] at d;split at m
  ·rename_i e
   rw[an e] at d;cases m;cases d;exact O
  ·rename_i e
   rw[ak e] at d;split at m
   ·rename_i f
    rw[an f] at d;cases m;cases d;exact M
   ·rename_i f
    rw[ak f] at d;exact(hh.box l B L m d).carry ex hh.len λb t=>⟨rfl,λ_=>rfl⟩
 ·intro l l' L1 L2 q1 q2 b t J;rw[w] at q1 q2;have key:∀ l L,(if l=j then some z else if l=i then some x else s.β[l]?)=some L->s.β[if l=j then i else if l=i then j else l]?=some L:=λl L q=>by
   split at q
   ·cases q;rename_i e;rw[an e];exact p
   ·rename_i e
    split at q
    ·cases q;rename_i f;rw[ak e,an f];exact r
    ·rename_i f;rw[ak e,ak f];exact q
  have:=hh.fe _ _ L1 L2 (key l L1 q1) (key l' L2 q2) b t J
  by_cases e1:l=j <;> by_cases e2:l'=j <;> by_cases e3:l=i <;> by_cases T:l'=i <;> simp_all
theorem AK.EG{T:List (Nat×TI)}(hT:cz P T){t:TypeId}{x y:Operand}{i p:TI}{E:TypeId}{n:Nat}{Z Q:IntKind}(h:o.op=.makeSlice t x y)(hi:aQ T t=some i)(hd:i.desc=.slice E)(hE:aQ T E=some p)
  (hx:bn φ x=.e (.one (.c (.int Z n)))) (hy:bn φ y=.e (.one (.c (.int Q n)))) (B:n*p.bytes<=140737488355328) (V7:n<=140737488355328) (hg:o.guard=none) (hN:gg N o.dst=true)
  (kk:∀ b xs,AK X N Qf (.ops all rest::K) .normal (iP o.dst (.e (.one (.v (kF (.row b n) n)))) φ) (σ++[.cx (gz E p.size (.row b n) n xs)])):AK X N Qf (.ops all (o::rest)::K) .normal φ σ:=by
 refine AK.hand (ι:=Nat×List Value) (λq=>.e (.one (.v (kF (.row q.1 n) n)))) (λq=>σ++[.cx (gz E p.size (.row q.1 n) n q.2)]) hg hN (λs a hf hh=>?_) λq=>kk q.1 q.2
 have l:=cV hf x;rw[hx] at l;have l:=eX l;generalize I:a.eval x=vx at l;cases l;have m:=cV hf y;rw[hy] at m;have m:=eX m;generalize G:a.eval y=vy at m;cases m;have j:=(hT t i hi).Nv;rw[hd] at j;obtain⟨f,z,L,z2,z3,z4,z5,z6,z7⟩:=(hT E p hE).info;have d:(f.bytes:Int)*(n:Int)<=281474976710656:=by
  have h':((f.bytes*n:Nat):Int)<=281474976710656:=by rw[z3,iX];omega
  rwa [Int.natCast_mul] at h'
 have r:=run_make (P:=P) (w:=s.w) t E f z j L z4 Z Q n n (by omega) (pI _) d (by omega)
 simp only[aF] at r
 let xs:=(madeCells z.cells (n*f.size)).toList
 have H:xs.length=n*p.size:=by
  simp only[xs,fU,size_madeCells,z2]
 have V:∀ v∈z.cells.toList,cg v=true:=cW.cg (jw (σ:=σ) (s:=s) z5);have S:z.cells.toList.length=p.size:=by
  have:=cn List.length z5;simp only[ku] at this;rw[this,z7]
 have W:∀ v∈xs,cg v=true:=by
  intro v hv;simp only[xs,madeCells,Array.toList_map,k7] at hv;obtain⟨q,hq,rfl⟩:=hv;have J:0<z.cells.size:=by
   rcases iq z.cells.size with e|e
   ·have:p.size=0:=by rw[<-S];simpa using e
    rw[z2,this] at hq;simp at hq
   ·exact e
  rw[pG z.cells _ (gU _ J)];exact V _ (by simp)
 have hB:dT (σ++[.cx (gz E p.size (.row s.w.heap.size n) n xs)]) { s with w:=s.w.alloc (.cells xs.toArray E),β:=s.β++[⟨.nilFunc,[s.w.heap.size]⟩] } (.cx (gz E p.size (.row s.w.heap.size n) n xs)) ⟨.nilFunc,[s.w.heap.size]⟩:=by
  refine⟨λD=>if D=s.w.heap.size then some (.cells (xs++[]).toArray E (0,0)) else none,⟨rfl,W,H,ar _,by omega,[],by simp[H],rfl⟩,λD o d=>?_,λD=>?_,λD d o=>?_⟩
  ·by_cases e:D=s.w.heap.size
   ·subst e;simp only[aX] at d;cases d;rw[iV];exact cU s.w _
   ·simp[e] at d
  ·by_cases e:D=s.w.heap.size <;> simp[e]
  ·simp at d;subst d;cases R:s.M s.w.heap.size o with
   |none=>rfl
   |some v=>have:=hh.block R;omega
 have F:ag σ { s with w:=s.w.alloc (.cells xs.toArray E) }/\Step σ s σ { s with w:=s.w.alloc (.cells xs.toArray E) } :=
  hh.grow (by simp) (λb B=>b7 s.w _ B) (λb B o=>rfl) (λb B o v R=>by
   have:=hh.block R;omega) rfl rfl rfl
 obtain⟨g1,g2⟩:=F.1.hO F.2 rfl hh hB (λb B=>by
   simp at B;subst B;exact⟨ar _,by simp⟩)
 refine⟨(s.w.heap.size,xs),.value (.slice (some ⟨s.w.heap.size,0,none⟩) n n),_,_,?_,.inl rfl,Rd.val rfl,g1,g2,?_⟩
 ·simp[execOp,h,I,G,r,xs]
 ·have e:execOp a.eval o=(do pure (.value (<-Instr.makeSlice t (.int Z n) (.int Q n)))):=by simp[execOp,h,I,G]
  rw[e];refine dW ?_;intro e A;have hu:∀ u,(underlying t).run P u=.ok (.slice E) u:=λu=>by simp[underlying,j]
  have U:∀ u,(typeInfo E).run P u=.ok f u:=λu=>by simp[typeInfo,L]
  have O:∀ u,(zeroValue E).run P u=.ok z u:=λu=>by simp[zeroValue,typeInfo,L,z4]
  have Y:∀ u,(sizeOf E).run P u=.ok f.size u:=λu=>by simp[sizeOf,typeInfo,L]
  have wl:IntKind.i64.wrap (n:Int)=n:=by rw[IntKind.wrap_i64];omega
  have n1:¬(n:Int)<0:=by omega
  have n2:¬(281474976710656<(f.bytes:Int)*n):=by omega
  simp[Instr.makeSlice,hu,U,Y,asInt,asIntOf,wl,n1,n2] at A;rw[O] at A;simp only[Result.evThen_ok,(bR.newRow (P:=P)) _ _,ite_self] at A;unfold askRoom at A;split at A
  ·have:e=⟨.mark .noRoom,false,true⟩:=by simpa using A
   rw[this];exact .inl rfl
  ·simp at A
end
def Ki(k n:Nat)(es:Nat->List C):A->A
 |.vec 0 _ _ _=>.c (.sl false k n es)
 |a=>a
def EH(k n:Nat)(es:Nat->List C):E1->E1
 |.one a=>.one (Ki k n es a)
 |e=>e
def zS(k n:Nat)(es:Nat->List C):List E1->List E1
 |[]=>[]
 |a::r=>EH k n es a::zS k n es r
def Kj(k n:Nat)(es:Nat->List C):D->D
 |.e x=>.e (EH k n es x)
 |.dH xs=>.dH (zS k n es xs)
 |.any=>.any
section
variable {σ σ':List aj}{s s':St}{k n g:Nat}{es:Nat->List C}{u:Value}
theorem EI(b:Rd s'.M u (.sl false k n es)){v:Value}{a:A}(h:gV g a=true)(r:gd σ s v (EJ u a)):gd σ' s' v (Ki k n es a):=by
 cases a with
 |c x=>exact om h r
 |any=>exact r
 |vec l k' n' es' =>
  cases l with
  |zero=>have:=Rd.fD r;subst this;exact b
  |succ l=>simp[gV,oY] at h
 |ptr=>simp[gV,oY] at h
 |ref=>simp[gV,oY] at h
 |bp=>simp[gV,oY] at h
theorem yl(b:Rd s'.M u (.sl false k n es)){v:Value}{x:E1}(h:mF g x=true)(r:kE σ s v (By u x)):kE σ' s' v (EH k n es x):=by
 cases x with
 |one a=>exact EI (σ:=σ) (s:=s) b h r
 |agg cs=>exact sM (x:=.agg cs) h r
theorem vr(b:Rd s'.M u (.sl false k n es)):∀ {vs:List Value}{cs:List E1},kG g cs=true->ey σ s vs (wT u cs)->ey σ' s' vs (zS k n es cs)
 |[],[],_,_=>trivial
 |[],_::_,_,r=>r.elim
 |_::_,[],_,r=>r.elim
 |v::vs,c::cs,h,r=>by
  simp only[kG] at h;cases a:mF g c with
  |false=>simp[a] at h
  |true=>simp only[a] at h;exact⟨yl (σ:=σ) (s:=s) b a r.1,vr b h r.2⟩
theorem EK(a:Rd s'.M u (.sl false k n es)){v:Value}{d:D}(h:pR g d=true)(r:cd σ s v (Bz u d)):cd σ' s' v (Kj k n es d):=by
 cases d with
 |e x=>exact yl (σ:=σ) (s:=s) a h r
 |dH xs=>obtain⟨vs,c,b⟩:=r;exact⟨vs,c,vr (σ:=σ) (s:=s) a h b⟩
 |any=>trivial
end
theorem cf.Io{P:Program}{ι:Type}{X:Cx P}{f:FuncId}{args:List D}{d:D}{E:TypeId}{k n:Nat}{es:Nat->List C}{bf:ι->oZ}{xs:ι->List Value}(h:cf X f args [] (λi=>Bz (kF (bf i) n) d) (λi=>[.cx (gz E k (bf i) n (xs i))]))(r:∀ i,c6 k n es (xs i))(z:pR n d=true) :
  Ev X f args [] (Kj k n es d) []:=by
 refine⟨h.1,λs vs hr hh S cs hS=>h.2 s vs hr hh S cs λi fr v s' hl mo ia st=>?_⟩
 have q:s.β=[]:=dq hh.len;obtain⟨L,M',G,t,A,F,R,Q⟩:=gz.Bx (σ:=[.cx (gz E k (bf i) n (xs i))]) (lb:=0) rfl es (r i).rd s' ia;have c:s'.β.length=1:=ia.len;have p:s'.β=[L]:=by
  match x:s'.β with
  |[J]=>rw[x] at G;cases G;rfl
  |[]=>rw[x] at c;cases c
  |_::_::_=>rw[x] at c;simp at c
 let j:St:={ s' with β:=[],M:=M' }
 have m:∀ b∈L.bs,s.w.heap.size<=b:=λb e=>by
  rcases st.rM L (by rw[p];simp) b e with h1|⟨J,h1,_⟩
  ·exact h1
  ·rw[q] at h1;simp at h1
 have I:dX s' j:=⟨rfl,t,λb e o=>A b (e L (by rw[p];simp)) o,F,λb e=>by
  rcases e with e|⟨L',a,_⟩
  ·exact .inl e
  ·simp[j] at a⟩
 refine .ghost I (hS fr v j (hl.mono t) (EK (s':=j) Q z mo) ?_ ?_)
 ·exact⟨F,rfl,λl B L' hB=>by simp at hB,λl l' L1 L2 h1=>by simp[j] at h1,λL' a=>by simp[j] at a,λb e=>⟨(ia.own b e).1,λL' a=>by simp[j] at a⟩⟩
 ·refine⟨st.size,st.eC,λb o v O=>t _ _ _ (st.mem _ _ _ O),λb e H o=>?_,λL' a=>by simp[j] at a,λl B L' hB=>by simp at hB,st.os,st.tape,st.output,st.own⟩
  show M' b o=_;rw[A b (λy=>by have:=m b y;omega) o]
  exact st.ij b e H o
theorem rQ{α:Type}{xs vs:List α}{a:Nat}(h:a+vs.length<=xs.length)(p:Nat):(xs.take a++vs++xs.drop (a+vs.length))[p]?=if a<=p/\p<a+vs.length then vs[p-a]? else xs[p]?:=by
 have c:(xs.take a).length=a:=by simp;omega
 split
 ·rename_i d
  rw[di,ck (by omega),c,bc (by omega)]
 ·rename_i d
  rcases bz p a with b|b
  ·rw[di,bc (by omega),de,an b]
  ·rw[di,ck (by omega),c,ck (by omega),l9]
   congr 1;omega
theorem c6.dL{k n:Nat}{es es':Nat->List C}{xs vs:List Value}{new:List A}(h:c6 k n es xs)(i j:Nat)(hi:i<n)(t:lE vs new)(r:j+new.length<=k)(p:∀ a,a<n->a≠i->es' a=es a)(hl:(es' i).length=k)
  (y:∀ (q:Nat) (c:C),(es' i)[q]?=some c->(j<=q/\q<j+new.length/\new[q-j]?=some (A.c c))∨(¬(j<=q/\q<j+new.length)/\(es i)[q]?=some c)):c6 k n es' (xs.take (i*k+j)++vs++xs.drop (i*k+j+vs.length)):=by
 have D:i*k+k<=n*k:=by rw[<-iW];exact ee _ hi
 have w:=t.1;have B:=h.len;have d:i*k+j+vs.length<=xs.length:=by omega
 refine⟨by simp only[ba,List.length_take,gj];omega,λa b=>?_,λa b q c v=>?_⟩
 ·by_cases e:a=i
  ·subst e;exact hl
  ·rw[p a b e];exact h.wid a b
 ·rw[rQ d]
  by_cases e:a=i
  ·subst e;rcases y q c v with⟨h1,h2,z⟩|⟨h1,h2⟩
   ·rw[an (by omega),show a*k+q-(a*k+j)=q-j by omega]
    exact t.2 _ c z
   ·rw[ak (by omega)];exact h.at' a b q c h2
  ·have f:(es a)[q]?=some c:=by rw[<-p a b e];exact v
   have x:q<k:=by rw[<-h.wid a b];exact(aD.1 f).1
   rw[ak ?_]
   ·exact h.at' a b q c f
   ·rcases Nat.lt_or_gt_of_ne e with l|m
    ·have:a*k+k<=i*k:=by rw[<-iW];exact ee _ l
     omega
    ·have:i*k+k<=a*k:=by rw[<-iW];exact ee _ m
     omega
theorem c6.snoc{k n:Nat}{es es':Nat->List C}{xs vs:List Value}(h:c6 k n es xs)(d:∀ i,i<n->es' i=es i)(hl:(es' n).length=k)(l:vs.length=k)(m:∀ (q:Nat)(c:C),(es' n)[q]?=some c->∃ v,vs[q]?=some v/\∀ M,Rd M v c):c6 k (n+1) es' (xs++vs):=by
 have p:=h.len;refine⟨by simp only[ba];rw[iW];omega,λi hi=>?_,λi hi q c f=>?_⟩
 ·by_cases e:i=n
  ·subst e;exact hl
  ·rw[d i (by omega)];exact h.wid i (by omega)
 ·by_cases e:i=n
  ·subst e;rw[ck (by omega),show i*k+q-xs.length=q by omega]
   exact m q c f
  ·have a:i<n:=by omega
   have b:(es i)[q]?=some c:=by rw[<-d i a];exact f
   have j:q<k:=by rw[<-h.wid i a];exact(aD.1 b).1
   have:i*k+k<=n*k:=by rw[<-iW];exact ee _ a
   rw[bc (by omega)]
   exact h.at' i a q c b
def wZ(T:List (Nat×TI))(φ:Fr):List ResultVar->Option (List D)
 |[]=>some []
 |.tmp t::r=>match wZ T φ r with
  |some q=>some (look φ t::q)
  |none=>none
 |.cell ad t::r=>match wZ T φ r with
  |some q=>match look φ ad with
   |.e (.one (.c (.rp cs)))=>match aQ T t with
    |some i=>match lM i (cs.map A.c) with
     |some e=>some (.e e::q)
     |none=>none
    |none=>none
   |_=>none
  |none=>none
theorem w5{P:Program}{T:List (Nat×TI)}(R:cz P T){N:Nat}{σ:List aj}{s:St}{φ:Fr}{a:Act}(f:bg N σ s φ a):∀ {rs:List ResultVar}{ds:List D},wZ T φ rs=some ds ->
  ∃ vs,bC σ s vs ds/\∀ w,(∀ b o u,s.M b o=some u->w.cell? ⟨b,o,none⟩=some u)->(rs.mapM (eZ a)).run P w=Result.ok vs w/\∀ es,∀ e∈(rs.mapM (eZ a)).events P w es,e∈es∨∃ b o u,e=⟨.cell ⟨b,o,none⟩,false,false⟩/\s.M b o=some u
 |[],ds,h=>by cases h;exact⟨[],ab,λw _=>⟨by simp,λes e l=>.inl (by simpa using l)⟩⟩
 |.tmp t::r,ds,h=>by
  simp only[wZ] at h;cases F:wZ T φ r with
  |none=>simp[F] at h
  |some q =>
   simp[F] at h;subst h;obtain⟨vs,h1,h2⟩:=w5 R f F;refine⟨a.tmps.getD t undef::vs,⟨f.slot t,h1⟩,λw p=>?_⟩
   obtain⟨k1,Z⟩:=h2 w p;refine⟨by simp only[jo,bm,eZ,cY,bP,k1],λes e l=>Z es e ?_⟩
   simpa[jo,eZ,k1] using l
 |.cell ad t::r,ds,h=>by
  simp only[wZ] at h;cases F:wZ T φ r with
  |none=>simp[F] at h
  |some q =>
   simp only[F] at h;have hs:=f.slot ad;generalize look φ ad=x at h hs;split at h
   case h_2=>cases h
   rename_i cs
   cases hi:aQ T t with
   |none=>simp[hi] at h
   |some i =>
    simp only[hi] at h;cases k:lM i (cs.map A.c) with
    |none=>simp[k] at h
    |some e0 =>
     simp[k] at h;subst h;obtain⟨vs,h1,h2⟩:=w5 R f F;have Q:=eX hs;generalize Wa:a.tmps.getD ad undef=vx at Q;cases Q
     rename_i b off g S W
     let E:=(List.range cs.length).map g
     have O:cW σ s E (cs.map A.c):=by
      have key:∀ (n:Nat) (ds:List C),(∀ j c,ds[j]?=some c->Rd s.M (g (n+j)) c)->cW σ s ((List.range ds.length).map λj=>g (n+j)) (ds.map A.c):=by
       intro n ds
       induction ds generalizing n with
       |nil=>intro _;trivial
       |cons d ds ih =>
        intro hd;rw[cM,wG];refine⟨hd 0 d rfl,?_⟩;have:=ih (n+1) (λj c m=>by have:=hd (j+1) c (by simpa using m);rwa [show n+1+j=n+(j+1) by omega])
        simpa[Function.comp_def,kZ,j3 1] using this
      have:=key 0 cs (by simpa using W)
      simpa using this
     have y:∀ (j:Nat) (v:Value),E[j]?=some v->s.M b (off+j)=some v:=λj v m=>by
      simp only[E,mb] at m
      by_cases H:j<cs.length
      ·simp[H] at m;subst m;exact S j cs[j] (ai H)
      ·simp[H] at m
     let w0:World:={ s.w with heap:=s.w.heap }
     have J:∃ v,kE σ s v e0/\∀ w,(∀ b o u,s.M b o=some u->w.cell? ⟨b,o,none⟩=some u)->(loadVar t ⟨b,off,none⟩).run P w=.ok v w:=by
      have V:=R t i hi;cases Y:i.agg <;> simp only[lM,Y] at k
      ·cases G:eW 0 (cs.map A.c) with
       |none=>simp[G] at k
       |some a0 =>
        simp[G] at k;subst k;obtain⟨v,hv,Qe⟩:=O.get (c9 G);refine⟨v,Qe,λw p=>?_⟩
        have:=p _ _ _ (y 0 v hv);simp only[loadVar,bm,V.ja,bP,Y];simp at this;simp[run_load,this]
      ·cases G:mX i.size (cs.map A.c) with
       |none=>simp[G] at k
       |some r0 =>
        simp[G] at k;subst k;obtain⟨q1,q2⟩:=lN G;have B:=O.take i.size;rw[<-q1] at B;have hl:(E.take i.size).length=i.size:=by rw[B.length,q2]
        refine⟨.agg (E.take i.size).toArray,⟨E.take i.size,rfl,B⟩,λw p=>?_⟩
        have L:=run_loadCells_list (P:=P) w ⟨b,off,none⟩ (E.take i.size) (λj v m=>by
         rw[cO];refine p _ _ _ (y j v ?_);rw[de] at m;split at m
         ·exact m
         ·cases m)
        rw[hl] at L;simp only[loadVar,bm,V.ja,bP,Y];simp[V.run_sizeOf,L]
     obtain⟨v,U,I⟩:=J;refine⟨v::vs,⟨U,h1⟩,λw p=>?_⟩
     obtain⟨k1,Z⟩:=h2 w p;have z:(eZ a (.cell ad t))=loadVar t ⟨b,off,none⟩:=by
      simp[eZ,Wa,asAddr]
     refine⟨by simp only[jo,bm,z,I w p,cY,bP,k1],λes e l=>?_⟩
     rw[jo,z] at l;simp only[Sem.events_bind,I w p,Result.evThen_ok,k1,Sem.events_pure] at l;rcases Z _ e l with l|l
     ·rcases zK l with l|l
      ·exact .inl l
      ·obtain⟨j,m,rfl⟩:=jb (R t i hi) (w:=w) (n:=cs.length) (λj m=>⟨g j,p _ _ _ (S j cs[j] (ai m))⟩) (by have:=pW k;simpa using this) e l
       exact .inr ⟨b,off+j,g j,rfl,S j cs[j] (ai m)⟩
     ·exact .inr l
theorem yq.Qg{P:Program}{T:List (Nat×TI)}(j:cz P T){fn:Func}{φ:Fr}{ds:List D}{d:D}(h:wZ T φ fn.results.toList=some ds)(hj:pU ds=some d):yq P fn φ d:=by
 intro N σ s a f;obtain⟨vs,h1,h2⟩:=w5 j f h;refine⟨_,yp hj h1,λw k=>?_⟩
 obtain⟨k1,i⟩:=h2 w k;have e1:(fn.results.mapM (eZ a)).run P w=Result.ok vs.toArray w:=by
  rw[oR];simp only[Sem.run_map,k1,bP]
 have e2:∀ es,∀ e∈(fn.results.mapM (eZ a)).events P w es,e∈es∨∃ b o u,e=⟨.cell ⟨b,o,none⟩,false,false⟩/\s.M b o=some u:=by
  rw[oR];intro es e c;exact i es e (by simpa using c)
 constructor
 ·unfold results;rw[bm];refine(cn (λr=>Result.andThen r _) (Eq.trans ?_ e1)).trans ?_
  ·congr 2
  ·simp
 ·intro e c;have g:e∈(fn.results.mapM (eZ a)).events P w #[]:=by
   unfold results at c;rw[Sem.events_bind] at c
   change e∈((fn.results.mapM (eZ a)).run P w).evThen ((fn.results.mapM (eZ a)).events P w #[]) _ at c
   rw[e1] at c;simpa using c
  rcases e2 #[] e g with h|h
  ·simp at h
  ·exact h
section
variable {P:Program}{X:Cx P}{N:Nat}{K:List It}{φ:Fr}{σ:List aj}
def Iq(T:List (Nat×TI))(rs:List ResultVar)(ks:List Nat)(φ:Fr)(res:D):Option (List Prop) :=
 match wZ T φ rs with
 |some ds=>match pU ds with
  |some d=>match tj ks.length res with
   |true=>zU d (jd ks res)
   |false=>none
  |none=>none
 |none=>none
theorem AK.zV{T:List (Nat×TI)}(k:cz P T){fn:Func}{c:Nat}{res:D}{σ':List aj}(ks:List Nat){ps:List Prop}(h:Iq T fn.results.toList ks φ res=some ps)(e:aa ps)(g:jS ks σ=some σ')(a:kH σ'=true)(i:dv ks=true)(f:∀ j,j<c->ks[j]?=some j) :
  AK X N (yr P fn c res σ') (.code .ret::K) .normal φ σ:=by
 refine AK.ret ⟨.inl rfl,ks,?_⟩;unfold Iq at h;split at h
 ·rename_i ds EO
  split at h
  ·rename_i d l
   split at h
   ·rename_i b
    exact⟨d,ps,yq.Qg k EO l,h,e,b,g,a,i,f⟩
   ·cases h
  ·cases h
 ·cases h
theorem Ev.jz{f:FuncId}{fn:Func}{c:Code}{args:List D}{σ σ':List aj}{res:D}(d:P.funcs[f]?=some fn)(a:(fn.name== "runtime.NumGoroutine")=false)(e:fn.body=some c)(b:Nat.ble args.length fn.ntmps=true)
  (h:Fits args σ->AK X fn.ntmps (yr P fn σ.length res σ') [.code c] .normal (iy 0 args) σ):Ev X f args σ res σ':=by
 refine⟨⟨fn,d,a,by rw[e];rfl⟩,λs vs hr hh=>?_⟩
 have:=cf.EP (X:=X) (ι:=Unit) (σ':=λ_=>σ') (res:=λ_=>res) d a e (cA b) (AW.mono (AK.of_code (h ⟨s,vs,hr,hh⟩)) λ_ _ _ q=>⟨(),q⟩)
 exact this.tm.2 s vs hr hh
theorem cv.mk{fn:Func}{c:Nat}{res:D}{σ':List aj}(ks:List Nat){ps:List Prop}(h:w6 fn.results.toList ks φ res=some ps)(e:aa ps)(i:jS ks σ=some σ')(a:kH σ'=true)(g:dv ks=true)(f:∀ j,j<c->ks[j]?=some j):cv fn c res σ' .ret φ σ:=by
 refine⟨.inl rfl,ks,?_⟩;unfold w6 at h;split at h
 ·rename_i ds EO
  split at h
  ·rename_i d k
   split at h
   ·rename_i b
    exact⟨ds,d,ps,EO,k,h,e,b,i,a,g,f⟩
   ·cases h
  ·cases h
 ·cases h
end
theorem Cy{P:Program}{ι:Type}{X:Cx P}{S:Goroutine->St->Prop}{b:Frame}{k:List Item}{cs:List Frame}{a:Act}{s:St}{ops:Array Oper}{i:Nat}{rest:List Nat}{o:Oper}{σ:List aj}{σ1:ι->List aj}{f:FuncId}{d:List D}{res:ι->D}{vs:List Value}
  (B:b.kind≠.early) (A:ops[i]?=some o) (E:Region.wanted o (yielded ops a.tmps)=true) (z:ag σ s) (q:∀ w,(execOp a.eval o).run P w=.ok (.enter f vs.toArray) w) (p:∀ w,(execOp a.eval o).events P w #[]=#[])
  (r:cf X f d σ res σ1) (g:bC σ s vs d)
  (h:∀ j v s',cd (σ1 j) s' v (res j)->ag (σ1 j) s'->bo σ s (σ1 j) s'->dn X S (G (b.aT (a.put o.dst v) (.inRegion ops rest::k)) cs) s') :
  dn X S (G (b.aT a (.inRegion ops (i::rest)::k)) cs) s:=by
 obtain⟨_,l⟩:=r;refine .next rfl λy t=>?_
 have x:=X.fz t;have n:=z.rely x;have e:bC σ y vs d:=g.mono x.stepW.ext z.len;refine⟨_,y,_,nv A E B (q y.w),?_,l _ vs e n S _ λj F v s2 hl mo yb lB=>?_⟩
 ·refine⟨⟨σ,σ,n,n,.refl _ _⟩,eK.seen ?_⟩;rw[p];exact .nil
 refine oc (cs:=cs) (c:=b.aT a (.inRegion ops (i::rest)::k)) yb hl λC m=>?_
 have u:=iY (b:=b) (a:=a) (k:=k) ops i rest v;rw[A] at u;simp only[jZ] at u;rw[u];exact h j v C (mo.mono m.stepW.ext yb.len) (yb.rely m) (x.stepW.trans (lB.trans m.stepW))
theorem AK.mq{P:Program}{ι:Type}{X:Cx P}{N:Nat}{Qf:Post}{K:List It}{φ:Fr}{σ:List aj}{all rest:List Oper}{o:Oper}{y:Operand}{xs:Array Operand}{L:Array TypeId}{f:FuncId}{cap:List C}{d:List D}{σ1:ι->List aj}{res:ι->D}(p:cf X f d σ res σ1)
  (I:o.guard=none) (M:o.op=.call { callee:=.value y,args:=xs,argTypes:=L }) (z:eu (bn φ y)=some (f,cap)) {ps:List Prop} (m:uW (xs.toList.map (bn φ)++fO cap) d=some ps) (G:aa ps) (R:gg N o.dst=true)
  (k:∀ j,AK X N Qf (.ops all rest::K) .normal (iP o.dst (res j) φ) (σ1 j)):AK X N Qf (.ops all (o::rest)::K) .normal φ σ:=by
 intro s a g hh b kk cs S idx hb fK hQ;cases idx with
 |nil=>exact fK.elim
 |cons i idx =>
 obtain⟨hi,fK⟩:=fK;have x:=cV g y;unfold eu at z;split at z
 case h_2=>cases z
 case h_1 f' Eo he =>
  cases z;rw[he] at x;have l:=eX x;generalize O:a.eval y=fv at l;cases l with
  |fn fs kU hl uX f1 f2 h1 h2 r1 r2 =>
   have B:fs=[]:=dq hl;subst B;have n:bC σ s kU (fO cap):=ky (λj c hj=>⟨f2 j,h2 j (by rw[uX];exact(aD.1 hj).1),r2 j c hj⟩) uX
   have r:bC σ s (xs.toList.map a.eval++kU) d:=sJ m G ((mr (cV g) xs.toList).append n);obtain⟨fn,u,h,e⟩:=p.1;refine Cy hb hi (cw I) hh (λw=>(fS M u h e O w).1) (λw=>(fS M u h e O w).2) p r λj v s' hr ia st=>?_
   refine k j s' _ ?_ ia b kk cs S idx hb fK λE H T V q U Q A=>hQ E H T V q U Q (st.trans A)
   have J:=et R;cases F:o.dst with
   |none=>exact g.mono st hh.len
   |some t=>exact(g.mono st hh.len).put (J t F) hr
theorem B0{α:Type}{l:Nat}{x:α}:∀ {ks:List Nat}{a r:List α},jS ks a=some r->l∉ks->jS ks (a.set l x)=some r
 |[],a,r,h,_=>h
 |k::ks,a,r,h,c=>by
  simp only[dr,not_or] at c;simp only[jS,dY] at h ⊢;rw[b6 c.1];cases d:a[k]? with
  |none=>simp[d] at h
  |some y =>
   simp only[d] at h ⊢;cases b:jS ks a with
   |none=>simp[b] at h
   |some q=>rw[B0 b c.2];simp only[b] at h;exact h
theorem FT{k:Nat}{l:List Nat}(h:dZ k l=false):k∉l:=λa=>by rw[pS a] at h;cases h
def I7(T:List (Nat×TI))(fn:Func)(a:Nat)(res:D)(σ':List aj):Post:=λe φ σ1 =>
 (e=.ret∨e=.normal)/\∃ ks l E cs t ty it ps,fn.results.toList=[.cell t ty]/\aQ T ty=some it/\it.agg=true/\cs.length=it.size/\look φ t=.e (.one (.ptr l 0))/\σ1[l]?=some (.cells E cs)/\l∉ks /\
  zU (.e (.agg cs)) (jd ks res)=some ps/\aa ps/\tj ks.length res=true/\jS ks σ1=some σ'/\kH σ'=true/\dv ks=true/\(∀ j,j<a->ks[j]?=some j)
set_option maxHeartbeats 1000000 in
theorem cf.Mc{P:Program}{ι:Type}{X:Cx P}{T:List (Nat×TI)}(hT:cz P T){f:FuncId}{fn:Func}{c:Code}{args:List D}{σ:List aj}{σ':ι->List aj}{res:ι->D}(hf:P.funcs[f]?=some fn)(LS:(fn.name== "runtime.NumGoroutine")=false)(r:fn.body=some c)(hlen:args.length<=fn.ntmps)
  (h:∀ s a,bg fn.ntmps σ s (iy 0 args) a->ag σ s->∀ (b:Frame) (k:List Item) (cs:List Frame) (S:Goroutine->St->Prop),b.kind≠.early->b.roundOf=none ->
  (∀ e K σ1 s' a',(∃ j,I7 T fn σ.length (res j) (σ' j) e K σ1)->bg fn.ntmps σ1 s' K a'->ag σ1 s'->bo σ s σ1 s'->ends X S b k cs e a' s')->dn X S (G (b.aT a (.code c::k)) cs) s):cf X f args σ res σ':=by
 refine⟨⟨fn,hf,LS,by rw[r];rfl⟩,λs vs hr hh S cs hS=>?_⟩
 obtain⟨hl,hg⟩:=bC.get hr
 let b:Frame:={ fn:=f,tmps:=#[],todo:=[],defers:=[],mode:=.run,kind:=.normal,roundOf:=none }
 have N:Frame.enter P f vs.toArray .normal=b.aT { tmps:=vs.toArray++Array.replicate (fn.ntmps-vs.toArray.size) undef,defers:=[] } [.code c]:=by
  simp[Frame.enter,Frame.aT,hf,r,b]
 rw[N];refine h s { tmps:=vs.toArray++Array.replicate (fn.ntmps-vs.toArray.size) undef,defers:=[] } ⟨by simp;omega,⟨[],ab⟩,λt=>?_⟩ hh b [] cs S (by simp[b]) rfl ?_
 ·rw[mH];simp only[fH,aX,k6];have:=hg t;rcases bz t vs.length with oV|No
  ·have e:(vs.toArray++Array.replicate (fn.ntmps-vs.toArray.size) undef).getD t undef=(vs[t]?).getD undef:=by
    simp only[bM];rw[wD (by simpa using oV)]
    simp
   rw[e];exact this
  ·rw[eQ (by omega)]
   trivial
 ·rintro e K σ0 s0 a1 ⟨jj,he,ks,l,E,UK,t,ty,it,ps,q1,q2,q3,q4,q5,q6,q7,h3,h4,h5,W8,Sa,h8,h9⟩ f0 h0 RQ;obtain⟨h7,Sb⟩:=vE Sa;have F:=f0.slot t;rw[q5] at F;obtain⟨_,L,bb,q,W9,Sf⟩:=F;obtain⟨b2,d,NA,V,UL,hM⟩:=h0.box l _ L q6 q;subst NA;cases W9
  let M':Mem:=λp o=>if p=bb then d[o]? else s0.M p o
  have W:∀ o v,d[o]?=some v->s0.w.cell? ⟨bb,o,none⟩=some v:=λo v ho=>by simpa[World.cell?,V] using ho
  have Nq:∀ p o v,s0.M p o=some v->M' p o=some v:=λp o v H=>by
   by_cases e:p=bb
   ·subst e;rw[hM] at H;cases H
   ·simp only[M',e,aW];exact H
  have UM:∀ p o v,M' p o=some v->s0.w.cell? ⟨p,o,none⟩=some v:=λp o v H=>by
   by_cases e:p=bb
   ·subst e;simp only[M',aX] at H;exact W o v H
   ·simp only[M',e,aW] at H;exact h0.mem p o v H
  obtain⟨h',J⟩:=h0.iv (M':=M') (w':=s0.w) (B':=.dead) (L':=⟨.pointer (some ⟨bb,0,none⟩),[]⟩) q6 q rfl (ar _) (λ_ _ _=>rfl) (λp _ g o=>by
   simp at g;simp only[M',g,aW]) Nq UM (by simp) rfl rfl rfl ab
  have Qt:dX s0 ⟨s0.β.set l ⟨.pointer (some ⟨bb,0,none⟩),[]⟩,M',s0.w,s0.own⟩:=⟨rfl,Nq,λp g o=>by
   have:p≠bb:=by rintro rfl;exact g _ (aE q) (by simp)
   simp only[M',this,aW],UM,λp g=>by
   rcases g with g|⟨L',Z,g⟩
   ·exact .inl g
   ·rcases oQ Z with Z|rfl
    ·exact .inr ⟨L',Z,g⟩
    ·simp at g⟩
  have f':bg fn.ntmps (σ0.set l .dead) ⟨s0.β.set l ⟨.pointer (some ⟨bb,0,none⟩),[]⟩,M',s0.w,s0.own⟩ K a1:=⟨f0.size,f0.defers.imp λ_ h1=>h1.mono J.ext,λu=>(f0.slot u).mono J.ext h0.len⟩
  have h6:=B0 (x:=aj.dead) W8 q7;have Sg:cW (σ0.set l .dead) ⟨s0.β.set l ⟨.pointer (some ⟨bb,0,none⟩),[]⟩,M',s0.w,s0.own⟩ d UK:=UL.mono J.ext h0.len;have st:=RQ.trans (J.lD h0);have O:∀ w,(∀ b o u,M' b o=some u->w.cell? ⟨b,o,none⟩=some u)->(results fn a1.tmps).run P w=.ok (.agg d.toArray) w/\∀ e∈(results fn a1.tmps).events P w #[],∃ b o u,e=⟨.cell ⟨b,o,none⟩,false,false⟩/\M' b o=some u:=by
   intro w hw;have U:=hT ty it q2;have UN:d.length=it.size:=by rw[UL.length,q4]
   have OU:∀ j v,d[j]?=some v->w.cell? ⟨bb,0+j,none⟩=some v:=λj v hj=>hw _ _ _ (by simp only[M',aX,aw];exact hj)
   have Qk:=run_loadCells_list (P:=P) w ⟨bb,0,none⟩ d (λj v hj=>by rw[cO];exact OU j v hj)
   rw[UN] at Qk;have HW:(loadVar ty ⟨bb,0,none⟩).run P w=.ok (.agg d.toArray) w:=by
    simp only[loadVar,bm,U.ja,bP,q3];simp[U.run_sizeOf,Qk]
   have Qe:fn.results=#[.cell t ty]:=by apply gy;simpa using q1
   have Q:asAddr (a1.tmps[t]?.getD undef)=(pure ⟨bb,0,none⟩:Sem Addr):=by rw[<-bM,Sf];rfl
   refine⟨by simp[results,Qe,Q,HW],λe he=>?_⟩
   have HV:e∈(loadVar ty ⟨bb,0,none⟩).events P w #[]:=by
    simpa[results,Qe,Q,HW] using he
   obtain⟨j,hj,rfl⟩:=jb U (w:=w) (n:=d.length) (λj hj=>⟨_,OU j d[j] (ai hj)⟩) (by rw[q3,UN];simp) e HV
   exact⟨bb,0+j,d[j],rfl,by simp only[M',aX,aw];exact ai hj⟩
  have fin:∀ (fr:Frame) s2,br (⟨s0.β.set l ⟨.pointer (some ⟨bb,0,none⟩),[]⟩,M',s0.w,s0.own⟩:St) s2->fr.fn=f->fr.tmps=a1.tmps->fr.defers=a1.defers->fr.mode=.returning->fr.kind=.normal->dn X S (G fr cs) s2:=by
   intro fr s2 qe e1 e2 e3 e4 e5;have f2:=f'.rely qe h';have A:=h'.rely qe;have i:=st.trans qe.stepW;have r2:cd (σ0.set l .dead) s2 (.agg d.toArray) (.e (.agg UK)):=⟨d,rfl,Sg.mono qe.stepW.ext h'.len⟩;obtain⟨m,I⟩:=wU (l':=s2.β) h6 A.len;have r4:=(o0 h3 h4 r2).sub h6 I h5;obtain⟨c1,c2⟩:=gA h6;obtain⟨d1,d2⟩:=gA I;have Y:∀ L∈m,L∈s2.β:=wY I;have NI:ag (σ' jj) { s2 with β:=m }:=by
    obtain⟨g1,_⟩:=A.sub h6 I h7 h8;refine⟨g1.mem,g1.len,λj B L R q=>?_,g1.fe,g1.lt,λb r=>⟨(A.own b r).1,λL q=>(A.own b r).2 L (Y L q)⟩⟩
    exact dT.plain (σ:=σ' jj) (s:={ s2 with β:=m,own:=wX s2 m }) (s':={ s2 with β:=m }) rfl rfl (jy h7 B (aE R)) (g1.box j B L R q)
   have IX:bo σ s (σ' jj) { s2 with β:=m }:=by
    refine⟨i.size,i.eC,i.mem,i.ij,λL q b r=>i.rM _ (Y L q) b r,λl B L R q=>?_,i.os,i.tape,i.output,i.own⟩
    have hl:l<σ.length:=(aD.1 R).1;obtain⟨B',L',p1,p2,p3⟩:=i.box l B L R q;obtain⟨x,x1,x2⟩:=c2 l l (h9 l hl);obtain⟨y,y1,y2⟩:=d2 l l (h9 l hl);rw[p1] at x2;cases x2;rw[p2] at y2;cases y2;exact⟨B',L',x1,y1,p3⟩
   obtain⟨ls,LU⟩:=f2.defers;refine o4 ls fr s2 _ A.k9 (by intro B R;simp only[k7] at R;obtain⟨_,_,rfl⟩:=R;rfl) e4 (by rw[e3];exact LU.taken A) λs3 z=>?_
   have C:br { s2 with β:=m } { s3 with β:=m }:=by
    refine⟨rfl,z.M,z.own,z.size,λb r=>z.eC b (r.imp id ?_),z.mem,z.os,z.tape,z.output⟩
    rintro⟨L,q,r⟩;obtain⟨j,hj,rfl⟩:=cJ q;have UO:j<ks.length:=by rw[<-d1];exact hj
    obtain⟨y,y1,y2⟩:=d2 j _ (ai UO);obtain⟨x,x1,x2⟩:=c2 j _ (ai UO);rw[ai hj] at y1;cases y1;refine⟨_,_,y2,λhc=>?_,r⟩
    rw[LU.vC _ hc] at x2;cases x2;exact lO Sb _ (aE x1) rfl
   have hG:dX s3 { s3 with β:=m }:=⟨rfl,λ_ _ _ h=>h,λ_ _ _=>rfl,λb o v H=>z.mem b o v (by rw[<-z.M];exact H),λb r=>r.imp id λ⟨L,q,r⟩=>⟨L,by rw[z.β];exact Y L q,r⟩⟩
   have Qw:s2.M=M':=qe.M;refine .ghost hG (hS jj _ (.agg d.toArray) _ ⟨e1,e4,rfl,e5,fn,by show P.funcs[fr.fn]?=_;rw[e1];exact hf,λw hw=>?_⟩ (r4.mono C.stepW.ext NI.len) (NI.rely C) (IX.trans C.stepW))
   show (results fn fr.tmps).run P w=_/\∀ e∈(results fn fr.tmps).events P w #[],_;rw[e2];have UP:∀ b o u,M' b o=some u->w.cell? ⟨b,o,none⟩=some u:=λb o u h=>hw b o u (by show s3.M b o=some u;rw[z.M,Qw];exact h)
   refine⟨(O w UP).1,λe he=>?_⟩
   obtain⟨b,o,u,q1,q2⟩:=(O w UP).2 e he;exact⟨b,o,u,q1,by show s3.M b o=some u;rw[z.M,Qw];exact q2⟩
  rcases he with rfl|rfl
  ·intro pre;exact .ghost Qt (.ctl h' rfl (λ_=>zL rfl) λs2 qe=>fin _ s2 qe rfl rfl (iV _) rfl rfl)
  ·exact .ghost Qt (.ctl h' rfl (λ_=>zM rfl) λs2 qe=>fin _ s2 qe rfl rfl (iV _) rfl rfl)
theorem cf.jz{P:Program}{ι:Type}{X:Cx P}{T:List (Nat×TI)}(o:cz P T){f:FuncId}{fn:Func}{c:Code}{args:List D}{σ:List aj}{σ':ι->List aj}{res:ι->D}(i:P.funcs[f]?=some fn)(d:(fn.name== "runtime.NumGoroutine")=false)(l:fn.body=some c)(g:Nat.ble args.length fn.ntmps=true)
  (h:Fits args σ->AK X fn.ntmps (λe φ σ1=>∃ j,I7 T fn σ.length (res j) (σ' j) e φ σ1) [.code c] .normal (iy 0 args) σ):cf X f args σ res σ':=by
 refine⟨⟨fn,i,d,by rw[l];rfl⟩,λs0 vs hr Ig=>?_⟩
 have:=cf.Mc (X:=X) (σ':=σ') (res:=res) o i d l (cA g) λs a f hh b k cs S n _ m=>(show AW X fn.ntmps c _ (iy 0 args) σ from AK.of_code (h ⟨s0,vs,hr,Ig⟩)) s a f hh b k cs S n m
 exact this.2 s0 vs hr Ig
theorem cW.set{σ:List aj}{s:St}{a:A}{v:Value}:∀ {vs:List Value}{cs:List A}{j:Nat},cW σ s vs cs->vs[j]?=some v->gd σ s v a->cW σ s vs (cs.set j a)
 |[],[],_,_,h,_=>by simp at h
 |[],_::_,_,h,_,_=>h.elim
 |_::_,[],_,h,_,_=>h.elim
 |u::vs,c::cs,0,h,b,d=>by
  simp at b;subst b;exact⟨d,h.2⟩
 |u::vs,c::cs,j+1,h,b,d=>⟨h.1,cW.set h.2 (by simpa using b) d⟩
section
variable {P:Program}{X:Cx P}{N:Nat}{Qf:Post}{K:List It}{φ:Fr}{σ:List aj}{c:Code}
theorem AK.hZ(l j:Nat)(E k:Nat)(es':Nat->List C){E0:TypeId}{cs:List A}{k':Nat}{y:Nat->List C}(hl:eW l σ=some (.cells E0 cs))(hj:eW j cs=some (.c (.sl true k' 0 y)))
  (kk:AK X N Qf (.code c::K) .normal φ ((σ++[aj.vec E k 0 es']).set l (.cells E0 (cs.set j (.vec σ.length k 0 es'))))):AK X N Qf (.code c::K) .normal φ σ:=by
 refine AK.ghost (λs a z hh=>?_) kk
 have G:=c9 hl;have O:=c9 hj;have f:l<σ.length:=(aD.1 G).1;have d:l<s.β.length:=by rw[hh.len];exact f
 have t:=ai d;generalize s.β[l]=L at t;obtain⟨b,vs,x,g,q,Q⟩:=hh.box l _ L G t;obtain⟨v,V,T⟩:=q.get O;have h1:Rd s.M v (.sl true k 0 es'):=(Rd.sI (k:=k') (k':=k) (.inr rfl) T).zJ λi hi=>by omega
 have D:dT (σ++[aj.vec E k 0 es']) { s with β:=s.β++[⟨v,[]⟩] } (.vec E k 0 es') ⟨v,[]⟩:=⟨h1.loose,.inl ⟨⟨rfl,rfl⟩,h1⟩⟩;obtain⟨I,g2⟩:=hh.hO (.refl _ _) rfl hh D (by simp)
 have n:(σ++[aj.vec E k 0 es'])[l]?=some (.cells E0 cs):=by rw[bc f];exact G
 have m:(s.β++[(⟨v,[]⟩:Loc)])[l]?=some L:=by rw[bc d];exact t
 have r:(s.β++[(⟨v,[]⟩:Loc)]).set l L=s.β++[⟨v,[]⟩]:=by
  apply jK
  intro i
  by_cases e:l=i
  ·subst e;rw[bk (by simp;omega),m]
  ·rw[b6 e]
 have F:gD (.cells E0 cs) L (.cells E0 (cs.set j (.vec σ.length k 0 es'))) L:=rfl;have S:σ.length≠l:=by omega
 have o:dT ((σ++[aj.vec E k 0 es']).set l (.cells E0 (cs.set j (.vec σ.length k 0 es')))) ⟨(s.β++[(⟨v,[]⟩:Loc)]).set l L,s.M,s.w,s.own⟩ (.cells E0 (cs.set j (.vec σ.length k 0 es'))) L:=by
  rw[r];refine⟨b,vs,x,g,?_,Q⟩;have ex:Ext (σ++[aj.vec E k 0 es']) { s with β:=s.β++[⟨v,[]⟩] } ((σ++[aj.vec E k 0 es']).set l (.cells E0 (cs.set j (.vec σ.length k 0 es')))) { s with β:=s.β++[⟨v,[]⟩] }:=by
   refine⟨λ_ _ _ h=>h,λi B L' jR gf=>?_⟩
   by_cases e:l=i
   ·subst e;rw[n] at jR;cases jR;exact⟨_,L',bk (by simp;omega),gf,rfl⟩
   ·exact⟨B,L',by rw[b6 e];exact jR,gf,.refl _ _⟩
  have p:cW (σ++[aj.vec E k 0 es']) { s with β:=s.β++[⟨v,[]⟩] } vs cs:=q.mono g2.ext hh.len;refine cW.set (p.mono ex I.len) V ?_;refine⟨h1.loose,by simp,λZ Y W U h=>?_⟩
  rw[b6 (by omega),ck (by omega),n6] at h
  cases h;refine⟨ar _,λ_=>⟨⟨v,[]⟩,?_,rfl⟩⟩
  simp[<-hh.len]
 obtain⟨R,J⟩:=I.iv (M':=s.M) (w':=s.w) (L':=L) n m F (ar _) (λ_ _ _=>rfl) (λ_ _ _ _=>rfl) (λ_ _ _ h=>h) hh.mem (λb H=>⟨.inl H,hh.lt L (aE t) b H⟩) rfl rfl rfl o
 have st:=g2.trans J;exact⟨⟨(s.β++[(⟨v,[]⟩:Loc)]).set l L,s.M,s.w,s.own⟩,rfl,⟨z.size,z.defers.imp λ_ h1=>h1.mono st.ext,λu=>(z.slot u).mono st.ext hh.len⟩,R,st⟩
end
section
variable {P:Program}{X:Cx P}{N:Nat}{Qf:Post}{K:List It}{φ:Fr}{σ:List aj}{c:Code}
theorem xo{s:St}{E k k':Nat}{es e:Nat->List C}{v:Value}{σ':List aj}{β:List Loc}{l:Nat}(i:Rd s.M v (.sl true k' 0 e))(f:σ'[l]?=some (.buf E k 0 es))(d:β[l]?=some ⟨.slice none 0 0,[]⟩):gd σ' { s with β:=β } v (.bp l (.sl 0 k 0 0)):=by
 obtain⟨a,cap,vs,j,_,_,b,_,_⟩:=i.flat;have:=b rfl;subst this;refine⟨.slice none 0 0,⟨a,none,0,0,j,by omega,rfl,by omega,rfl,λh=>absurd h (by omega)⟩,(aD.1 f).1,λo m p g h=>?_⟩
 rw[f] at h;cases h;exact⟨ar _,λ_=>⟨_,d,rfl⟩⟩
theorem AK.OY(t:Nat)(E k:Nat)(es':Nat->List C){k':Nat}{d:Nat->List C}(g:look φ t=.e (.one (.c (.sl true k' 0 d))))
  (kk:AK X N Qf (.code c::K) .normal ((t,.e (.one (.bp σ.length (.sl 0 k 0 0))))::φ) (σ++[.buf E k 0 es'])):AK X N Qf (.code c::K) .normal φ σ:=by
 refine AK.ghost (λs a b hh=>?_) kk
 have f:=b.slot t;rw[g] at f;obtain⟨h,g2⟩:=hh.hO (B:=.buf E k 0 es') (L:=⟨.slice none 0 0,[]⟩) (.refl _ _) rfl hh (.inl ⟨rfl,rfl⟩) (by simp)
 refine⟨{ s with β:=s.β++[⟨.slice none 0 0,[]⟩] },rfl,⟨b.size,b.defers.imp λ_ h1=>h1.mono g2.ext,λu=>?_⟩,h,g2⟩
 simp only[look];cases i:Nat.beq t u with
 |false=>exact(b.slot u).mono g2.ext hh.len
 |true =>
  have e:=aO i;subst e;exact xo (E:=E) (es:=es') (eX f) (by simp) (by simp[<-hh.len])
theorem AK.lX(l j:Nat)(E k:Nat)(es':Nat->List C){E0:TypeId}{cs:List A}{k':Nat}{G:Nat->List C}(hl:eW l σ=some (.cells E0 cs))(hj:eW j cs=some (.c (.sl true k' 0 G)))
  (kk:AK X N Qf (.code c::K) .normal φ ((σ++[aj.buf E k 0 es']).set l (.cells E0 (cs.set j (.bp σ.length (.sl 0 k 0 0)))))):AK X N Qf (.code c::K) .normal φ σ:=by
 refine AK.ghost (λs a H hh=>?_) kk
 have J:=c9 hl;have S:=c9 hj;have g:l<σ.length:=(aD.1 J).1;have f:l<s.β.length:=by rw[hh.len];exact g
 have D:=ai f;generalize s.β[l]=L at D;obtain⟨b,vs,F,o,x,T⟩:=hh.box l _ L J D;obtain⟨v,W,V⟩:=x.get S
 let d:Loc:=⟨.slice none 0 0,[]⟩
 obtain⟨Q,g2⟩:=hh.hO (B:=.buf E k 0 es') (L:=d) (.refl _ _) rfl hh (.inl ⟨rfl,rfl⟩) (by simp[d])
 have q:(σ++[aj.buf E k 0 es'])[l]?=some (.cells E0 cs):=by rw[bc g];exact J
 have p:(s.β++[d])[l]?=some L:=by rw[bc f];exact D
 have z:(s.β++[d]).set l L=s.β++[d]:=by
  apply jK
  intro i
  by_cases e:l=i
  ·subst e;rw[bk (by simp;omega),p]
  ·rw[b6 e]
 have I:gD (.cells E0 cs) L (.cells E0 (cs.set j (.bp σ.length (.sl 0 k 0 0)))) L:=rfl;have r:dT ((σ++[aj.buf E k 0 es']).set l (.cells E0 (cs.set j (.bp σ.length (.sl 0 k 0 0))))) ⟨(s.β++[d]).set l L,s.M,s.w,s.own⟩ (.cells E0 (cs.set j (.bp σ.length (.sl 0 k 0 0)))) L:=by
  rw[z];refine⟨b,vs,F,o,?_,T⟩;have ex:Ext (σ++[aj.buf E k 0 es']) { s with β:=s.β++[d] } ((σ++[aj.buf E k 0 es']).set l (.cells E0 (cs.set j (.bp σ.length (.sl 0 k 0 0))))) { s with β:=s.β++[d] }:=by
   refine⟨λ_ _ _ h=>h,λi B L m y=>?_⟩
   by_cases e:l=i
   ·subst e;rw[q] at m;cases m;exact⟨_,L,bk (by simp;omega),y,rfl⟩
   ·exact⟨B,L,by rw[b6 e];exact m,y,.refl _ _⟩
  have t:cW (σ++[aj.buf E k 0 es']) { s with β:=s.β++[d] } vs cs:=x.mono g2.ext hh.len;exact cW.set (t.mono ex Q.len) W (xo (E:=E) (es:=es') V (by rw[b6 (by omega)];simp) (by simp[<-hh.len,d]))
 obtain⟨U,R⟩:=Q.iv (M':=s.M) (w':=s.w) (L':=L) q p I (ar _) (λ_ _ _=>rfl) (λ_ _ _ _=>rfl) (λ_ _ _ h=>h) hh.mem (λb O=>⟨.inl O,hh.lt L (aE D) b O⟩) rfl rfl rfl r
 have st:=g2.trans R;exact⟨⟨(s.β++[d]).set l L,s.M,s.w,s.own⟩,rfl,⟨H.size,H.defers.imp λ_ h1=>h1.mono st.ext,λu=>(H.slot u).mono st.ext hh.len⟩,U,st⟩
end
def C8:Nat->(Nat->List C)->Nat->List C
 |0,es=>es
 |o+1,es=>j7 (o+1) es
theorem B7(o:Nat)(es:Nat->List C)(i:Nat):C8 o es i=es (o+i):=by cases o <;> simp[C8,j7]
def xu(l k n:Nat)(es:Nat->List C)(a:A):Option (A×List Prop):=match CG l a with
 |true=>some (a,[])
 |false=>match a with
  |.bp l' (.sl g k' o m)=>match Nat.beq l' l,Nat.beq k' k with
   |true,true=>some (.c (.sl false k m (C8 o es)),[g=n,o+m<=n])
   |_,_=>none
  |_=>none
def xw(l k n:Nat)(es:Nat->List C):List A->Option (List A×List Prop)
 |[]=>some ([],[])
 |a::r=>match xu l k n es a with
  |some (a',p)=>match xw l k n es r with
   |some (r',q)=>some (a'::r',j6 p q)
   |none=>none
  |none=>none
def tZ(l k n:Nat)(es:Nat->List C):E1->Option (E1×List Prop)
 |.one a=>match xu l k n es a with|some (a,p)=>some (.one a,p)|none=>none
 |.agg cs=>match xw l k n es cs with|some (cs,p)=>some (.agg cs,p)|none=>none
def sW(l k n:Nat)(es:Nat->List C):List E1->Option (List E1×List Prop)
 |[]=>some ([],[])
 |a::r=>match tZ l k n es a with
  |some (a',p)=>match sW l k n es r with
   |some (r',q)=>some (a'::r',j6 p q)
   |none=>none
  |none=>none
def ua(l k n:Nat)(es:Nat->List C):D->Option (D×List Prop)
 |.e x=>match tZ l k n es x with|some (x,p)=>some (.e x,p)|none=>none
 |.dH xs=>match sW l k n es xs with|some (xs,p)=>some (.dH xs,p)|none=>none
 |.any=>some (.any,[])
section
variable {σ1:List aj}{s s2:St}{E k n:Nat}{es:Nat->List C}
structure kQ (σ1:List aj)(E k n:Nat)(es:Nat->List C)(s s2:St):Prop where
 eC:∀ v a,gd (σ1++[.buf E k n es]) s v a->CG σ1.length a=true->gd σ1 s2 v a
 Io:∀ v k' o m,gd (σ1++[.buf E k n es]) s v (.bp σ1.length (.sl n k' o m))->k'=k->o+m<=n->Rd s2.M v (.sl false k m (C8 o es))
theorem kQ.a(h:kQ σ1 E k n es s s2){v:Value}{a a':A}{ps:List Prop}(b:xu σ1.length k n es a=some (a',ps))(e:aa ps)(r:gd (σ1++[.buf E k n es]) s v a):gd σ1 s2 v a':=by
 unfold xu at b;split at b
 ·rename_i d;cases b;exact h.eC v a r d
 ·split at b
  ·rename_i l' g k' o m _
   split at b
   ·rename_i e1 e2
    cases b;have e1:=aO e1;have e2:=aO e2;subst e1 e2;obtain⟨rfl,h2⟩:g=n/\o+m<=n:=e;exact h.Io v _ _ _ r rfl h2
   ·cases b
  ·cases b
theorem kQ.l(h:kQ σ1 E k n es s s2):∀ {vs:List Value}{cs kU:List A}{ps:List Prop},xw σ1.length k n es cs=some (kU,ps)->aa ps->cW (σ1++[.buf E k n es]) s vs cs->cW σ1 s2 vs kU
 |[],[],_,_,b,_,_=>by cases b;trivial
 |[],_::_,_,_,_,_,r=>r.elim
 |_::_,[],_,_,_,_,r=>r.elim
 |v::vs,c::cs,kU,ps,b,d,r=>by
  simp only[xw] at b;split at b
  ·rename_i a' p h1
   split at b
   ·rename_i r' q h2
    cases b;rw[aa.cat] at d;exact⟨h.a h1 d.1 r.1,h.l h2 d.2 r.2⟩
   ·cases b
  ·cases b
theorem kQ.e(h:kQ σ1 E k n es s s2){v:Value}{x f:E1}{ps:List Prop}(b:tZ σ1.length k n es x=some (f,ps))(d:aa ps)(r:kE (σ1++[.buf E k n es]) s v x):kE σ1 s2 v f:=by
 cases x with
 |one a =>
  simp only[tZ] at b;split at b
  ·rename_i a' p h1;cases b;exact h.a h1 d r
  ·cases b
 |agg cs =>
  simp only[tZ] at b;split at b
  ·rename_i a' p h1;cases b
   obtain⟨vs,i,g⟩:=r;exact⟨vs,i,h.l h1 d g⟩
  ·cases b
theorem kQ.es'(h:kQ σ1 E k n es s s2):∀ {vs:List Value}{cs kU:List E1}{ps:List Prop},sW σ1.length k n es cs=some (kU,ps)->aa ps->ey (σ1++[.buf E k n es]) s vs cs->ey σ1 s2 vs kU
 |[],[],_,_,a,_,_=>by cases a;trivial
 |[],_::_,_,_,_,_,r=>r.elim
 |_::_,[],_,_,_,_,r=>r.elim
 |v::vs,c::cs,kU,ps,a,b,r=>by
  simp only[sW] at a;split at a
  ·rename_i a' p h1
   split at a
   ·rename_i r' q h2
    cases a;rw[aa.cat] at b;exact⟨h.e h1 b.1 r.1,h.es' h2 b.2 r.2⟩
   ·cases a
  ·cases a
theorem kQ.d(h:kQ σ1 E k n es s s2){v:Value}{x f:D}{ps:List Prop}(a:ua σ1.length k n es x=some (f,ps))(b:aa ps)(r:cd (σ1++[.buf E k n es]) s v x):cd σ1 s2 v f:=by
 cases x with
 |e x =>
  simp only[ua] at a;split at a
  ·rename_i a' p h1;cases a;exact h.e h1 b r
  ·cases a
 |dH xs =>
  simp only[ua] at a;split at a
  ·rename_i a' p h1;cases a
   obtain⟨vs,i,g⟩:=r;exact⟨vs,i,h.es' h1 b g⟩
  ·cases a
 |any=>cases a;trivial
theorem ag.Io(hh:ag (σ1++[.buf E k n es]) s)(H:tK σ1.length σ1=true) :
  ∃ s2:St,ag σ1 s2/\dX s s2/\kQ σ1 E k n es s s2/\∀ {σ0:List aj} {s0:St},bo σ0 s0 (σ1++[.buf E k n es]) s->σ0.length<=σ1.length->bo σ0 s0 σ1 s2:=by
 have F:(σ1++[aj.buf E k n es])[σ1.length]?=some (.buf E k n es):=by simp
 have W:s.β.length=σ1.length+1:=by rw[hh.len];simp
 have y:s.β[σ1.length]?=some s.β[σ1.length]:=ai (by omega)
 generalize s.β[σ1.length]=L at y;have A:=hh.box _ _ L F y;obtain⟨M',T,R,S,m4⟩:∃ M':Mem,(∀ b o v,s.M b o=some v->M' b o=some v)/\(∀ b,b∉L.bs->∀ o,M' b o=s.M b o)/\(∀ b o v,M' b o=some v->s.w.cell? ⟨b,o,none⟩=some v) /\
   (∀ v k' o m,gd (σ1++[.buf E k n es]) s v (.bp σ1.length (.sl n k' o m))->k'=k->o+m<=n->Rd M' v (.sl false k m (C8 o es))):=by
  rcases A with⟨rfl,rfl⟩|⟨b,c0,vs,zs,rfl,hw,Z,T6,Ef,V,Y⟩
  ·refine⟨s.M,λ_ _ _ h=>h,λ_ _ _=>rfl,hh.mem,λv k' o m r e x=>?_⟩
   obtain⟨lv,⟨a,a0,cap,c0,f,h1,h2,h3,t,U⟩,_,I⟩:=r;obtain⟨L',d,l⟩:=(I _ _ _ _ F).2 rfl;rw[y] at d;cases d;rw[t] at l;cases l;have:cap=0:=by omega
   subst this;have:m=0:=by omega
   subst this;rw[f];exact Rd.jv
  ·let M':Mem:=λg o=>if g=b then vs[o]? else s.M g o
   have O:∀ g o v,s.M g o=some v->M' g o=some v:=λg o v f=>by
    by_cases e:g=b
    ·subst e;rw[Y] at f;cases f
    ·simp only[M',e,aW];exact f
   refine⟨M',O,λg z o=>?_,λg o v f=>?_,λv k' o m r e x=>?_⟩
   ·simp at z;simp only[M',z,aW]
   ·by_cases e:g=b
    ·subst e;simp only[M',aX] at f;simp only[World.cell?,hw];have:o<vs.length:=(aD.1 f).1;simpa[bc this] using f
    ·simp only[M',e,aW] at f;exact hh.mem g o v f
   ·subst e;obtain⟨lv,⟨a,a0,cap,c1,f,h1,h2,h3,t,U⟩,_,I⟩:=r;obtain⟨L',d,l⟩:=(I _ _ _ _ F).2 rfl;rw[y] at d;cases d;rw[t] at l;cases l;rw[f];have q:∀ i,i<m->∀ j c,(C8 o es i)[j]?=some c->∃ u,vs[(o+i)*k'+j]?=some u/\Rd s.M u c:=λi hi j c hj=>by
     rw[B7] at hj;exact V.rd (o+i) (by omega) j c hj
    refine .sl b (o*k') (λi j=>(vs[(o+i)*k'+j]?).getD undef) h1 (by omega) (by simp) (λi hi=>by rw[B7];exact V.width _ (by omega)) (λhm=>?_) (λi hi j c hj=>?_) (λi hi j c hj=>?_)
    ·obtain⟨b1,e1,e2⟩:=U (by omega)
     cases e1;exact e2
    ·obtain⟨u,J,_⟩:=q i hi j c hj;simp only[M',aX];rw[show o*k'+i*k'+j=(o+i)*k'+j by rw[eT],J]
     rfl
    ·obtain⟨u,J,u2⟩:=q i hi j c hj;rw[J];exact u2.mono O
 have D:(σ1++[aj.buf E k n es]).set σ1.length .dead=σ1++[.dead]:=by simp
 obtain⟨Q,G⟩:=hh.iv (M':=M') (w':=s.w) (B':=.dead) (L':=⟨L.v,[]⟩) F y ab (ar _) (λ_ _ _=>rfl) (λb _ p o=>R b p o) T S (by simp) rfl rfl rfl ab
 rw[D] at Q G;have q3:=Q.drop (rest:=[.dead]) H;refine⟨_,q3,⟨rfl,T,λb p o=>R b (p L (aE y)) o,S,λb p=>?_⟩,⟨λv a r B=>?_,λv k' o m r e x=>m4 v k' o m r e x⟩,λ{σ0 s0} st hle=>(st.trans (G.lD hh)).drop (rest:=[.dead]) hle⟩
 ·rcases p with p|⟨L',d,p⟩
  ·exact .inl p
  ·have:=gH d;rcases oQ this with h|rfl
   ·exact .inr ⟨L',h,p⟩
   ·simp at p
 ·exact(r.mono G.ext hh.len).drop (rest:=[.dead]) B
end
theorem cf.ib{P:Program}{ι:Type}{X:Cx P}{f:FuncId}{args:List D}{σ:List aj}{res res':ι->D}{σ1:ι->List aj}{E k:Nat}{n:ι->Nat}{es:ι->Nat->List C}(h:cf X f args σ res (λi=>σ1 i++[.buf E k (n i) (es i)]))
  {ps:ι->List Prop} (g:∀ i,ua (σ1 i).length k (n i) (es i) (res i)=some (res' i,ps i)) (e:∀ i,aa (ps i)) (b:∀ i,tK (σ1 i).length (σ1 i)=true) (a:∀ i,σ.length<=(σ1 i).length):cf X f args σ res' σ1:=by
 refine⟨h.1,λs vs hr hh S cs hS=>h.2 s vs hr hh S cs λi fr v s' hl mo ia st=>?_⟩
 obtain⟨s2,j,c2,c3,c4⟩:=ia.Io (b i);exact .ghost c2 (hS i fr v s2 (hl.mono c2.mem) (c3.d (g i) (e i) mo) j (c4 st (a i)))
theorem Ev.ib{P:Program}{X:Cx P}{f:FuncId}{args:List D}{σ:List aj}{res res':D}{σ1:List aj}{E k n:Nat}{es:Nat->List C}(h:Ev X f args σ res (σ1++[.buf E k n es]))
  {ps:List Prop} (e:ua σ1.length k n es res=some (res',ps)) (d:aa ps) (b:tK σ1.length σ1=true) (a:σ.length<=σ1.length):Ev X f args σ res' σ1 :=
 (cf.ib (ι:=Unit) h.EM (λ_=>e) (λ_=>d) (λ_=>b) (λ_=>a)).tm
theorem Flat.Q5{M:Mem}{k n q m:Nat}{es Nx:Nat->List C}{vs mE:List Value}(h:Flat M k n es vs)(f:Flat M k m Nx mE)(g:q+m<=n) :
  Flat M k n (λi=>if q<=i/\i<q+m then Nx (i-q) else es i) (vs.take (q*k)++mE++vs.drop (q*k+mE.length)):=by
 have hl:=h.len;have s:=f.len;have u:q*k+m*k<=n*k:=by rw[<-eT];exact ee k g
 have t:(vs.take (q*k)).length=q*k:=by simp;omega
 have b:∀ p,(vs.take (q*k)++mE++vs.drop (q*k+mE.length))[p]?=if p<q*k then vs[p]? else if p<q*k+m*k then mE[p-q*k]? else vs[p]?:=by
  intro p
  by_cases a:p<q*k
  ·rw[an a,di,bc (by omega),de,an a]
  ·rw[ak a]
   by_cases c2:p<q*k+m*k
   ·rw[an c2,di,ck (by omega),bc (by omega),t]
   ·rw[ak c2,ck (by simp;omega),l9]
    congr 1
    simp;omega
 refine⟨by simp;omega,λi hi=>?_,λi hi j c hj=>?_⟩
 ·by_cases e:q<=i/\i<q+m
  ·rw[an e];exact f.width _ (by omega)
  ·rw[ak e];exact h.width i hi
 ·rw[b]
  by_cases e:q<=i/\i<q+m
  ·rw[an e] at hj;have l:j<k:=by have:=(aD.1 hj).1;rw[f.width _ (by omega)] at this;exact this
   have e1:q*k<=i*k:=ee k e.1;have e2:i*k+k<=q*k+m*k:=by rw[<-eT,<-iW];exact ee k e.2
   rw[ak (by omega),an (by omega)]
   obtain⟨v,v1,r⟩:=f.rd (i-q) (by omega) j c hj
   refine⟨v,?_,r⟩;rw[<-v1,Nat.sub_mul]
   congr 1
   omega
  ·rw[ak e] at hj;have l:j<k:=by have:=(aD.1 hj).1;rw[h.width i hi] at this;exact this
   have:i*k+j<q*k∨q*k+m*k<=i*k+j:=by
    by_cases a:i<q
    ·left
     have:i*k+k<=q*k:=by rw[<-iW];exact ee k a
     omega
    ·right
     have:(q+m)*k<=i*k:=ee k (by omega)
     rw[eT] at this;omega
   rcases this with a|a
   ·rw[an a];exact h.rd i hi j _ hj
   ·rw[ak (by omega),ak (by omega)];exact h.rd i hi j _ hj
section
variable {P:Program}{T:List (Nat×TI)}{o:Oper}{d:Operand->D}{σ:List aj}
theorem w7{x:Operand}{t:TypeId}(h:o.op=.call { callee:=.builtin .clear,args:=#[x],argTypes:=#[t] })(a:Operand->Value) :
  execOp a o=(do pure (.value (<-Builtin.clear_ #[t] o.type #[a x]))):=by
 simp[execOp,h,resolve,invoke,builtin]
theorem ER{M:Mem}{z:Value}{g:List C}{m k:Nat}(s:z.cells.toList.map qz=g.map some)(q:g.length=k):Flat M k m (λ_=>g) (Builtin.zeroCells z.cells m).toList:=by
 have b:z.cells.size=k:=by have:=cn List.length s;simp at this;omega
 have h:cW [] ⟨[],M,default,λ_=>False⟩ z.cells.toList (g.map A.c):=jw s
 refine⟨by simp[Builtin.zeroCells,b],λ_ _=>q,λi hi j c r=>?_⟩
 have p:j<k:=by rw[<-q];exact(aD.1 r).1
 obtain⟨v,v1,t⟩:=h.get (j:=j) (a:=A.c c) (by rw[mb,r];rfl)
 refine⟨v,?_,t⟩;have n:i*k+j<m*k:=by
  have:i*k+k<=m*k:=by rw[<-iW];exact ee k hi
  omega
 have e:(i*k+j) % k=j:=by rw[j3,Nat.add_mul_mod_self_right];exact Nat.mod_eq_of_lt p
 have f:j<z.cells.size:=by omega
 have u:z.cells[j]=v:=by
  rw[kt] at v1;rw[bw f] at v1;exact lA v1
 have l:z.cells[j]! = v:=by rw[pG z.cells j f,u]
 simp[Builtin.zeroCells,b,n,e,l]
theorem aM.zW(hT:cz P T){x:Operand}{t:TypeId}(h:o.op=.call { callee:=.builtin .clear,args:=#[x],argTypes:=#[t] }){i c:TI}{E:TypeId}(hi:aQ T t=some i)(hd:i.desc=.slice E)(hE:aQ T E=some c)
  {l n q m:Nat} {J:TypeId} {es:Nat->List C} (hx:d x=.e (.one (.bp l (.sl n c.size q m)))) (hl:σ[l]?=some (.buf J c.size n es)) (H:q+m<=n) :
  aM P o d σ .any (σ.set l (.buf J c.size n (nC q (q+m) c.zero es))):=by
 intro s ρ hh hr;have h1:=hr x;rw[hx] at h1
 change gd σ s (ρ x) (.bp l _) at h1
 obtain⟨lv,⟨a,a0,cap,c0,hv,Qh,Kh,YK,S,O⟩,_,Q⟩:=h1;obtain⟨L,V,r⟩:=(Q _ _ _ _ hl).2 rfl;rw[S] at r;have f:=(hT t i hi).Nv;rw[hd] at f;rw[w7 h,hv]
 by_cases hm:m=0
 ·subst hm;have hz:nC q (q+0) c.zero es=es:=by
   funext j
   simp only[nC];rw[ak (by omega)]
  have hs:σ.set l (.buf J c.size n es)=σ:=by
   apply jK
   intro j
   by_cases e:l=j
   ·subst e;rw[bk (aD.1 hl).1,hl]
   ·rw[b6 e]
  rw[hz,hs];refine⟨.value (.tuple #[]),s,?_,ab,hh,.refl _ _,?_⟩
  ·cases a <;> simp[Builtin.clear_,run_underlying f]
  ·intro R p;cases a <;> simp[Builtin.clear_,run_underlying f,Sem.events_bind] at p
 ·obtain⟨b,rfl,rfl⟩:=O (by omega)
  rcases hh.box l _ L hl V with⟨_,rfl⟩|⟨b',c1,vs,F,rfl,g,X,W,Y,hF,hM⟩
  ·cases r
  ·cases r;obtain⟨inf,z,z1,z2,z3,z4,z5,z6,z7⟩:=(hT E c hE).info;have A:=ER (M:=s.M) (m:=m) z5 z7;have hlen:(Builtin.zeroCells z.cells m).toList.length=m*c.size:=A.len;have Kg:=hF.len;have hb:q*c.size+m*c.size<=n*c.size:=by rw[<-eT];exact ee _ H
   have Z:=hF.Q5 A H;have he:(λi=>if q<=i/\i<q+m then (λ_=>c.zero) (i-q) else es i)=nC q (q+m) c.zero es:=rfl
   rw[he] at Z;obtain⟨t1,t2⟩:=hh.dt hl V X W Y g Z (by simp only[ba,List.length_take,gj];omega) hM
   have k:∀ v∈(Builtin.zeroCells z.cells m).toList,v.oneCell'=true:=A.cell;have y:=run_storeCells_at P b (q*c.size) J (Builtin.zeroCells z.cells m).toList 0 (vs++F).toArray s.w g (by simp only[mh,ba];omega) k
   have G:((vs++F).toArray.toList.take (q*c.size+0)++(Builtin.zeroCells z.cells m).toList++(vs++F).toArray.toList.drop (q*c.size+0+(Builtin.zeroCells z.cells m).toList.length))=vs.take (q*c.size)++(Builtin.zeroCells z.cells m).toList++vs.drop (q*c.size+(Builtin.zeroCells z.cells m).toList.length)++F:=by
    rw[wN,gm,List.take_append_of_le_length (by omega),List.drop_append_of_le_length (by omega),di,di,di]
   rw[G] at y;have B:∀ u,(zeroValue E).run P u=.ok z u:=λu=>by simp[zeroValue,typeInfo,z1,z4]
   have N:∀ u es,(zeroValue E).events P u es=es:=λu es=>by simp[zeroValue,typeInfo,z1,z4,Sem.events_bind]
   obtain⟨K,rfl⟩:∃ K,m=K+1:=⟨m-1,by omega⟩
   refine⟨.value (.tuple #[]),_,?_,ab,t1,t2,?_⟩
   ·simp[Builtin.clear_,run_underlying f,B,y]
   ·intro R p;have I:R∈(storeCells ⟨b,q*c.size,none⟩ (Builtin.zeroCells z.cells (K+1)).toList).events P s.w #[]:=by
     simp only[Builtin.clear_,Sem.events_bind,il,l8] at p;simpa[run_underlying f,B,N,y] using p
    rcases eh (Builtin.zeroCells z.cells (K+1)).toList 0 (vs++F).toArray s.w #[] g (by simp only[mh,ba];omega) k R I with U|⟨j,_,_,rfl⟩
    ·simp at U
    ·exact mv (aE V) (by simp) (hM _)
end
section
variable {P:Program}{X:Cx P}{N:Nat}{Qf:Post}{K:List It}{φ:Fr}{σ:List aj}{all rest:List Oper}{o:Oper}
theorem AK.LY{c:Fr}{σ':List aj}(h:∀ s a,bg N σ s φ a->ag σ s->∃ s':St,s'.w=s.w/\bg N σ' s' c a/\ag σ' s'/\Step σ s σ' s')(k:AK X N Qf (.ops all rest::K) .normal c σ'):AK X N Qf (.ops all rest::K) .normal φ σ:=by
 intro s a i hh b kk cs S idx hb fK hQ;obtain⟨s',l,g,d,st⟩:=h s a i hh;have e:=st.lD hh;refine .ghost (.of hh d l e) ?_;exact k s' a g d b kk cs S idx hb fK λf σ2 s2 a2 q j h2 lB=>hQ f σ2 s2 a2 q j h2 (e.trans lB)
theorem AK.tP(t:Nat)(E k:Nat)(es':Nat->List C){k':Nat}{d:Nat->List C}(g:look φ t=.e (.one (.c (.sl true k' 0 d))))
  (kk:AK X N Qf (.ops all rest::K) .normal ((t,.e (.one (.bp σ.length (.sl 0 k 0 0))))::φ) (σ++[.buf E k 0 es'])):AK X N Qf (.ops all rest::K) .normal φ σ:=by
 refine AK.LY (λs a b hh=>?_) kk
 have f:=b.slot t;rw[g] at f;obtain⟨h,g2⟩:=hh.hO (B:=.buf E k 0 es') (L:=⟨.slice none 0 0,[]⟩) (.refl _ _) rfl hh (.inl ⟨rfl,rfl⟩) (by simp)
 refine⟨{ s with β:=s.β++[⟨.slice none 0 0,[]⟩] },rfl,⟨b.size,b.defers.imp λ_ h1=>h1.mono g2.ext,λu=>?_⟩,h,g2⟩
 simp only[look];cases i:Nat.beq t u with
 |false=>exact(b.slot u).mono g2.ext hh.len
 |true =>
  have e:=aO i;subst e;exact xo (E:=E) (es:=es') (eX f) (by simp) (by simp[<-hh.len])
theorem AK.yM{T:List (Nat×TI)}(M:cz P T){t ty:TypeId}{x:Operand}{j g:Nat}(h:o.op=.binOp .eql t x (.const (.slice none j g)) ty){i:TI}{E:TypeId}(hi:aQ T t=some i)(J:i.desc=.slice E){tt:Bool}{k n:Nat}{es:Nat->List C}
  (B:bn φ x=.e (.one (.c (.sl tt k n es)))) (H:o.guard=none) (I:gg N o.dst=true)
  (kk:∀ b:Bool,(b=true->n=0)->AK X N Qf (.ops all rest::K) .normal (iP o.dst (.e (.one (.c (.bool b)))) φ) σ):AK X N Qf (.ops all (o::rest)::K) .normal φ σ:=by
 refine AK.hand (ι:={ b:Bool // b=true->n=0 }) (λb=>.e (.one (.c (.bool b.1)))) (λ_=>σ) H I (λs a A hh=>?_) λb=>kk b.1 b.2
 have m:=cV A x;rw[B] at m;obtain⟨ad,cap,vs,m,_,_,_,_,F⟩:=(eX m).flat;have d:=(M t i hi).Nv;rw[J] at d;have q:=eX (by have:=cV A x;rw[B] at this;exact this)
 have p:ad.isNone=true->n=0:=by
  intro z;rw[m] at q;cases q with
  |sl b off f D S O R L F u =>
   rcases iq n with v|v
   ·exact v
   ·rw[L v] at z;cases z
 refine⟨⟨ad.isNone,p⟩,.value (.bool ad.isNone),s,.bool ad.isNone,?_,.inl rfl,Rd.bool,hh,.refl _ _,?_⟩
 ·have u:(binOp .eql t (.slice ad n cap) (.slice none j g)).run P s.w=.ok (.bool ad.isNone) s.w:=Go.Lib.run_eql_slice_nil s.w t E ad n cap j g d;have l:∀ y,eqGuard .eql t x y (.slice ad n cap) (.slice none j g)=pure ():=λy=>by simp[eqGuard]
  have e1:a.eval (.const (.slice none j g))=.slice none j g:=rfl;simp only[execOp,h,m,e1,l];simp[u]
 ·have G:∀ es,(Op.equal t (.slice ad n cap) (.slice none j g)).events P s.w es=es:=λes=>by
   show (Op.equalIn (9999+1) t _ _).events P s.w es=es;unfold Op.equalIn;cases ad <;> simp[underlying,d]
  have u:(Op.equal t (.slice ad n cap) (.slice none j g)).run P s.w=.ok ad.isNone s.w:=by
   show (Op.equalIn (9999+1) t _ _).run P s.w=_;exact Go.Lib.run_equalIn_slice_nil s.w 9999 t E ad n cap j g d
  have l:∀ y,eqGuard .eql t x y (.slice ad n cap) (.slice none j g)=pure ():=λy=>by simp[eqGuard]
  have e1:a.eval (.const (.slice none j g))=.slice none j g:=rfl;intro Q r;exfalso;simp only[execOp,h,m,e1,l,binOp] at r;simp[u,G,Sem.events_bind] at r
end
end Go.AM
namespace Go.AM
open Go.Proofs
theorem aG{P:Program}{t:TypeId}{i:TypeInfo}(h:P.types[t]?=some i):P.info? t=some i:=by
 unfold Tables.info?;rw[an (dE.1 h).1];exact h
theorem cz.nil{P:Program}:cz P []:=λ_ _ h=>by cases h
theorem cz.cons{P:Program}{t:TypeId}{i:TI}{T:List (Nat×TI)}(h:aN P t i)(r:cz P T):cz P ((t,i)::T):=by
 intro b i2 h2;simp only[aQ] at h2;cases a:Nat.beq t b with
 |true=>rw[a] at h2;cases h2;rw[<-aO a];exact h
 |false=>rw[a] at h2;exact r b i2 h2
namespace R1
def i2:TI:=⟨1,8,false,TypeDesc.int IntKind.i64,[.int .i64 0],[]⟩
theorem g2:aN Tryz.prog 2 i2:=⟨Tryz.underlying2,rfl,⟨Tryz.t2,_,aG Tryz.type2,rfl,rfl,rfl,rfl,⟨#[],rfl⟩,rfl⟩,λh=>absurd rfl h⟩
def i3:TI:=⟨1,8,false,TypeDesc.int IntKind.i64,[.int .i64 0],[]⟩
theorem g3:aN Tryz.prog 3 i3:=⟨Tryz.underlying3,rfl,⟨Tryz.t3,_,aG Tryz.type3,rfl,rfl,rfl,rfl,⟨#[],rfl⟩,rfl⟩,λh=>absurd rfl h⟩
def i4:TI:=⟨1,1,false,TypeDesc.bool,[.bool false],[]⟩
theorem g4:aN Tryz.prog 4 i4:=⟨Tryz.underlying4,rfl,⟨Tryz.t4,_,aG Tryz.type4,rfl,rfl,rfl,rfl,⟨#[],rfl⟩,rfl⟩,λh=>absurd rfl h⟩
def i5:TI:=⟨1,1,false,TypeDesc.int IntKind.u8,[.int .u8 0],[]⟩
theorem g5:aN Tryz.prog 5 i5:=⟨Tryz.underlying5,rfl,⟨Tryz.t5,_,aG Tryz.type5,rfl,rfl,rfl,rfl,⟨#[],rfl⟩,rfl⟩,λh=>absurd rfl h⟩
def i6:TI:=⟨1,1,false,TypeDesc.int IntKind.u8,[.int .u8 0],[]⟩
theorem g6:aN Tryz.prog 6 i6:=⟨Tryz.underlying6,rfl,⟨Tryz.t6,_,aG Tryz.type6,rfl,rfl,rfl,rfl,⟨#[],rfl⟩,rfl⟩,λh=>absurd rfl h⟩
def i8:TI:=⟨4,24,true,TypeDesc.struct #[{ name:= "x",type:=2,offset:=0,embedded:=false,tag:= "",pkgPath:= "runtime",byteOffset:=0 },{ name:= "y",type:=3,offset:=1,embedded:=false,tag:= "",pkgPath:= "runtime",byteOffset:=8 },{ name:= "signed",type:=4,offset:=2,embedded:=false,tag:= "",pkgPath:= "runtime",byteOffset:=16 },{ name:= "code",type:=6,offset:=3,embedded:=false,tag:= "",pkgPath:= "runtime",byteOffset:=17 }],[.int .i64 0,.int .i64 0,.bool false,.int .u8 0],[]⟩
theorem g8:aN Tryz.prog 8 i8:=⟨Tryz.underlying8,rfl,⟨Tryz.t8,_,aG Tryz.type8,rfl,rfl,rfl,rfl,⟨_,rfl⟩,rfl⟩,λh=>absurd rfl h⟩
def i9:TI:=⟨1,16,false,TypeDesc.string,[.str []],[]⟩
theorem g9:aN Tryz.prog 9 i9:=⟨Tryz.underlying9,rfl,⟨Tryz.t9,_,aG Tryz.type9,rfl,rfl,rfl,rfl,⟨#[],rfl⟩,rfl⟩,λh=>absurd rfl h⟩
def i12:TI:=⟨1,8,false,TypeDesc.int IntKind.u64,[.int .u64 0],[]⟩
theorem XZ:aN Tryz.prog 12 i12:=⟨Tryz.underlying12,rfl,⟨Tryz.t12,_,aG Tryz.type12,rfl,rfl,rfl,rfl,⟨#[],rfl⟩,rfl⟩,λh=>absurd rfl h⟩
def i16:TI:=⟨1,8,false,TypeDesc.pointer 250,[.j4],[]⟩
theorem X0:aN Tryz.prog 16 i16:=⟨Tryz.underlying16,rfl,⟨Tryz.t16,_,aG Tryz.type16,rfl,rfl,rfl,rfl,⟨#[],rfl⟩,rfl⟩,λh=>absurd rfl h⟩
def i20:TI:=⟨1,16,false,TypeDesc.interface #[],[.mz],[]⟩
theorem X1:aN Tryz.prog 20 i20:=⟨Tryz.underlying20,rfl,⟨Tryz.t20,_,aG Tryz.type20,rfl,rfl,rfl,rfl,⟨#[],rfl⟩,rfl⟩,λh=>absurd rfl h⟩
def i21:TI:=⟨1,4,false,TypeDesc.int IntKind.i32,[.int .i32 0],[]⟩
theorem X2:aN Tryz.prog 21 i21:=⟨Tryz.underlying21,rfl,⟨Tryz.t21,_,aG Tryz.type21,rfl,rfl,rfl,rfl,⟨#[],rfl⟩,rfl⟩,λh=>absurd rfl h⟩
def i22:TI:=⟨1,24,false,TypeDesc.slice 5,[.sl true 0 0 (λ_=>[])],[]⟩
theorem X3:aN Tryz.prog 22 i22:=⟨Tryz.underlying22,rfl,⟨Tryz.t22,_,aG Tryz.type22,rfl,rfl,rfl,rfl,⟨#[],rfl⟩,rfl⟩,λh=>absurd rfl h⟩
def i23:TI:=⟨1,24,false,TypeDesc.slice 56,[.sl true 0 0 (λ_=>[])],[]⟩
theorem X4:aN Tryz.prog 23 i23:=⟨Tryz.underlying23,rfl,⟨Tryz.t23,_,aG Tryz.type23,rfl,rfl,rfl,rfl,⟨#[],rfl⟩,rfl⟩,λh=>absurd rfl h⟩
def i24:TI:=⟨1,24,false,TypeDesc.slice 39,[.sl true 0 0 (λ_=>[])],[]⟩
theorem X5:aN Tryz.prog 24 i24:=⟨Tryz.underlying24,rfl,⟨Tryz.t24,_,aG Tryz.type24,rfl,rfl,rfl,rfl,⟨#[],rfl⟩,rfl⟩,λh=>absurd rfl h⟩
def i25:TI:=⟨1,24,false,TypeDesc.slice 64,[.sl true 0 0 (λ_=>[])],[]⟩
theorem X6:aN Tryz.prog 25 i25:=⟨Tryz.underlying25,rfl,⟨Tryz.t25,_,aG Tryz.type25,rfl,rfl,rfl,rfl,⟨#[],rfl⟩,rfl⟩,λh=>absurd rfl h⟩
def i27:TI:=⟨3,72,true,TypeDesc.struct #[{ name:= "Packs",type:=23,offset:=0,embedded:=false,tag:= "",pkgPath:= "",byteOffset:=0 },{ name:= "Snaps",type:=24,offset:=1,embedded:=false,tag:= "",pkgPath:= "",byteOffset:=24 },{ name:= "Log",type:=25,offset:=2,embedded:=false,tag:= "",pkgPath:= "",byteOffset:=48 }],[.sl true 0 0 (λ_=>[]),.sl true 0 0 (λ_=>[]),.sl true 0 0 (λ_=>[])],[]⟩
theorem X7:aN Tryz.prog 27 i27:=⟨Tryz.underlying27,rfl,⟨Tryz.t27,_,aG Tryz.type27,rfl,rfl,rfl,rfl,⟨_,rfl⟩,rfl⟩,λh=>absurd rfl h⟩
def i29:TI:=⟨4,40,true,TypeDesc.struct #[{ name:= "Kind",type:=3,offset:=0,embedded:=false,tag:= "",pkgPath:= "",byteOffset:=0 },{ name:= "N",type:=3,offset:=1,embedded:=false,tag:= "",pkgPath:= "",byteOffset:=8 },{ name:= "M",type:=3,offset:=2,embedded:=false,tag:= "",pkgPath:= "",byteOffset:=16 },{ name:= "Body",type:=9,offset:=3,embedded:=false,tag:= "",pkgPath:= "",byteOffset:=24 }],[.int .i64 0,.int .i64 0,.int .i64 0,.str []],[TypeDesc.int IntKind.i64,TypeDesc.int IntKind.i64,TypeDesc.int IntKind.i64,TypeDesc.string]⟩
theorem X8:aN Tryz.prog 29 i29:=⟨Tryz.underlying29,rfl,⟨Tryz.t29,_,aG Tryz.type29,rfl,rfl,rfl,rfl,⟨_,rfl⟩,rfl⟩,λ_=>jD (fs:=[{ name:= "Kind",type:=3,offset:=0,embedded:=false,tag:= "",pkgPath:= "",byteOffset:=0 },{ name:= "N",type:=3,offset:=1,embedded:=false,tag:= "",pkgPath:= "",byteOffset:=8 },{ name:= "M",type:=3,offset:=2,embedded:=false,tag:= "",pkgPath:= "",byteOffset:=16 },{ name:= "Body",type:=9,offset:=3,embedded:=false,tag:= "",pkgPath:= "",byteOffset:=24 }]) Tryz.underlying29 (by decide +kernel) Tryz.eqGuardType29 ⟨by decide,rfl,Tryz.underlying3,ab,by decide,rfl,Tryz.underlying3,ab,by decide,rfl,Tryz.underlying3,ab,by decide,rfl,Tryz.underlying9,ab,ab⟩⟩
def i34:TI:=⟨1,24,false,TypeDesc.slice 99,[.sl true 0 0 (λ_=>[])],[]⟩
theorem Tb:aN Tryz.prog 34 i34:=⟨Tryz.underlying34,rfl,⟨Tryz.t34,_,aG Tryz.type34,rfl,rfl,rfl,rfl,⟨#[],rfl⟩,rfl⟩,λh=>absurd rfl h⟩
def i37:TI:=⟨1,24,false,TypeDesc.slice 69,[.sl true 0 0 (λ_=>[])],[]⟩
theorem X9:aN Tryz.prog 37 i37:=⟨Tryz.underlying37,rfl,⟨Tryz.t37,_,aG Tryz.type37,rfl,rfl,rfl,rfl,⟨#[],rfl⟩,rfl⟩,λh=>absurd rfl h⟩
def i39:TI:=⟨2,32,true,TypeDesc.struct #[{ name:= "No",type:=3,offset:=0,embedded:=false,tag:= "",pkgPath:= "",byteOffset:=0 },{ name:= "All",type:=37,offset:=1,embedded:=false,tag:= "",pkgPath:= "",byteOffset:=8 }],[.int .i64 0,.sl true 0 0 (λ_=>[])],[]⟩
theorem Ya:aN Tryz.prog 39 i39:=⟨Tryz.underlying39,rfl,⟨Tryz.t39,_,aG Tryz.type39,rfl,rfl,rfl,rfl,⟨_,rfl⟩,rfl⟩,λh=>absurd rfl h⟩
def i40:TI:=⟨1,24,false,TypeDesc.slice 3,[.sl true 0 0 (λ_=>[])],[]⟩
theorem Yb:aN Tryz.prog 40 i40:=⟨Tryz.underlying40,rfl,⟨Tryz.t40,_,aG Tryz.type40,rfl,rfl,rfl,rfl,⟨#[],rfl⟩,rfl⟩,λh=>absurd rfl h⟩
def i44:TI:=⟨1,8,false,TypeDesc.pointer 74,[.j4],[]⟩
theorem Yc:aN Tryz.prog 44 i44:=⟨Tryz.underlying44,rfl,⟨Tryz.t44,_,aG Tryz.type44,rfl,rfl,rfl,rfl,⟨#[],rfl⟩,rfl⟩,λh=>absurd rfl h⟩
def i51:TI:=⟨1,8,false,TypeDesc.pointer 27,[.j4],[]⟩
theorem Yd:aN Tryz.prog 51 i51:=⟨Tryz.underlying51,rfl,⟨Tryz.t51,_,aG Tryz.type51,rfl,rfl,rfl,rfl,⟨#[],rfl⟩,rfl⟩,λh=>absurd rfl h⟩
def i54:TI:=⟨1,24,false,TypeDesc.slice 62,[.sl true 0 0 (λ_=>[])],[]⟩
theorem S7:aN Tryz.prog 54 i54:=⟨Tryz.underlying54,rfl,⟨Tryz.t54,_,aG Tryz.type54,rfl,rfl,rfl,rfl,⟨#[],rfl⟩,rfl⟩,λh=>absurd rfl h⟩
def i56:TI:=⟨2,32,true,TypeDesc.struct #[{ name:= "No",type:=3,offset:=0,embedded:=false,tag:= "",pkgPath:= "",byteOffset:=0 },{ name:= "Item",type:=54,offset:=1,embedded:=false,tag:= "",pkgPath:= "",byteOffset:=8 }],[.int .i64 0,.sl true 0 0 (λ_=>[])],[]⟩
theorem Ye:aN Tryz.prog 56 i56:=⟨Tryz.underlying56,rfl,⟨Tryz.t56,_,aG Tryz.type56,rfl,rfl,rfl,rfl,⟨_,rfl⟩,rfl⟩,λh=>absurd rfl h⟩
def i62:TI:=⟨2,24,true,TypeDesc.struct #[{ name:= "Name",type:=3,offset:=0,embedded:=false,tag:= "",pkgPath:= "",byteOffset:=0 },{ name:= "Body",type:=9,offset:=1,embedded:=false,tag:= "",pkgPath:= "",byteOffset:=8 }],[.int .i64 0,.str []],[TypeDesc.int IntKind.i64,TypeDesc.string]⟩
theorem Vh:aN Tryz.prog 62 i62:=⟨Tryz.underlying62,rfl,⟨Tryz.t62,_,aG Tryz.type62,rfl,rfl,rfl,rfl,⟨_,rfl⟩,rfl⟩,λ_=>jD (fs:=[{ name:= "Name",type:=3,offset:=0,embedded:=false,tag:= "",pkgPath:= "",byteOffset:=0 },{ name:= "Body",type:=9,offset:=1,embedded:=false,tag:= "",pkgPath:= "",byteOffset:=8 }]) Tryz.underlying62 (by decide +kernel) Tryz.eqGuardType62 ⟨by decide,rfl,Tryz.underlying3,ab,by decide,rfl,Tryz.underlying9,ab,ab⟩⟩
def i64:TI:=⟨2,16,true,TypeDesc.struct #[{ name:= "By",type:=3,offset:=0,embedded:=false,tag:= "",pkgPath:= "",byteOffset:=0 },{ name:= "Snap",type:=3,offset:=1,embedded:=false,tag:= "",pkgPath:= "",byteOffset:=8 }],[.int .i64 0,.int .i64 0],[TypeDesc.int IntKind.i64,TypeDesc.int IntKind.i64]⟩
theorem Yf:aN Tryz.prog 64 i64:=⟨Tryz.underlying64,rfl,⟨Tryz.t64,_,aG Tryz.type64,rfl,rfl,rfl,rfl,⟨_,rfl⟩,rfl⟩,λ_=>jD (fs:=[{ name:= "By",type:=3,offset:=0,embedded:=false,tag:= "",pkgPath:= "",byteOffset:=0 },{ name:= "Snap",type:=3,offset:=1,embedded:=false,tag:= "",pkgPath:= "",byteOffset:=8 }]) Tryz.underlying64 (by decide +kernel) Tryz.eqGuardType64 ⟨by decide,rfl,Tryz.underlying3,ab,by decide,rfl,Tryz.underlying3,ab,ab⟩⟩
def i69:TI:=⟨2,40,true,TypeDesc.struct #[{ name:= "Path",type:=9,offset:=0,embedded:=false,tag:= "",pkgPath:= "",byteOffset:=0 },{ name:= "Names",type:=40,offset:=1,embedded:=false,tag:= "",pkgPath:= "",byteOffset:=16 }],[.str [],.sl true 0 0 (λ_=>[])],[]⟩
theorem Yg:aN Tryz.prog 69 i69:=⟨Tryz.underlying69,rfl,⟨Tryz.t69,_,aG Tryz.type69,rfl,rfl,rfl,rfl,⟨_,rfl⟩,rfl⟩,λh=>absurd rfl h⟩
def i74:TI:=⟨2,32,true,TypeDesc.struct #[{ name:= "b",type:=22,offset:=0,embedded:=false,tag:= "",pkgPath:= "loop.example/depositary/spec",byteOffset:=0 },{ name:= "p",type:=3,offset:=1,embedded:=false,tag:= "",pkgPath:= "loop.example/depositary/spec",byteOffset:=24 }],[.sl true 0 0 (λ_=>[]),.int .i64 0],[]⟩
theorem Yh:aN Tryz.prog 74 i74:=⟨Tryz.underlying74,rfl,⟨Tryz.t74,_,aG Tryz.type74,rfl,rfl,rfl,rfl,⟨_,rfl⟩,rfl⟩,λh=>absurd rfl h⟩
def i83:TI:=⟨1,24,false,TypeDesc.slice 9,[.sl true 0 0 (λ_=>[])],[]⟩
theorem Yi:aN Tryz.prog 83 i83:=⟨Tryz.underlying83,rfl,⟨Tryz.t83,_,aG Tryz.type83,rfl,rfl,rfl,rfl,⟨#[],rfl⟩,rfl⟩,λh=>absurd rfl h⟩
def i99:TI:=⟨2,32,true,TypeDesc.struct #[{ name:= "Path",type:=9,offset:=0,embedded:=false,tag:= "",pkgPath:= "",byteOffset:=0 },{ name:= "Text",type:=9,offset:=1,embedded:=false,tag:= "",pkgPath:= "",byteOffset:=16 }],[.str [],.str []],[TypeDesc.string,TypeDesc.string]⟩
theorem Vi:aN Tryz.prog 99 i99:=⟨Tryz.underlying99,rfl,⟨Tryz.t99,_,aG Tryz.type99,rfl,rfl,rfl,rfl,⟨_,rfl⟩,rfl⟩,λ_=>jD (fs:=[{ name:= "Path",type:=9,offset:=0,embedded:=false,tag:= "",pkgPath:= "",byteOffset:=0 },{ name:= "Text",type:=9,offset:=1,embedded:=false,tag:= "",pkgPath:= "",byteOffset:=16 }]) Tryz.underlying99 (by decide +kernel) Tryz.eqGuardType99 ⟨by decide,rfl,Tryz.underlying9,ab,by decide,rfl,Tryz.underlying9,ab,ab⟩⟩
def i103:TI:=⟨1,8,false,TypeDesc.int IntKind.u64,[.int .u64 0],[]⟩
theorem Tc:aN Tryz.prog 103 i103:=⟨Tryz.underlying103,rfl,⟨Tryz.t103,_,aG Tryz.type103,rfl,rfl,rfl,rfl,⟨#[],rfl⟩,rfl⟩,λh=>absurd rfl h⟩
def i108:TI:=⟨1,24,false,TypeDesc.slice 156,[.sl true 0 0 (λ_=>[])],[]⟩
theorem Td:aN Tryz.prog 108 i108:=⟨Tryz.underlying108,rfl,⟨Tryz.t108,_,aG Tryz.type108,rfl,rfl,rfl,rfl,⟨#[],rfl⟩,rfl⟩,λh=>absurd rfl h⟩
def i118:TI:=⟨1,24,false,TypeDesc.slice 131,[.sl true 0 0 (λ_=>[])],[]⟩
theorem Te:aN Tryz.prog 118 i118:=⟨Tryz.underlying118,rfl,⟨Tryz.t118,_,aG Tryz.type118,rfl,rfl,rfl,rfl,⟨#[],rfl⟩,rfl⟩,λh=>absurd rfl h⟩
def i120:TI:=⟨0,0,true,TypeDesc.struct #[],[],[]⟩
theorem Tf:aN Tryz.prog 120 i120:=⟨Tryz.underlying120,rfl,⟨Tryz.t120,_,aG Tryz.type120,rfl,rfl,rfl,rfl,⟨_,rfl⟩,rfl⟩,λh=>absurd rfl h⟩
def i121:TI:=⟨0,0,true,TypeDesc.struct #[],[],[]⟩
theorem Tg:aN Tryz.prog 121 i121:=⟨Tryz.underlying121,rfl,⟨Tryz.t121,_,aG Tryz.type121,rfl,rfl,rfl,rfl,⟨_,rfl⟩,rfl⟩,λh=>absurd rfl h⟩
def i122:TI:=⟨0,0,true,TypeDesc.struct #[],[],[]⟩
theorem Th:aN Tryz.prog 122 i122:=⟨Tryz.underlying122,rfl,⟨Tryz.t122,_,aG Tryz.type122,rfl,rfl,rfl,rfl,⟨_,rfl⟩,rfl⟩,λh=>absurd rfl h⟩
def i123:TI:=⟨1,8,false,TypeDesc.int IntKind.u64,[.int .u64 0],[]⟩
theorem Ti:aN Tryz.prog 123 i123:=⟨Tryz.underlying123,rfl,⟨Tryz.t123,_,aG Tryz.type123,rfl,rfl,rfl,rfl,⟨#[],rfl⟩,rfl⟩,λh=>absurd rfl h⟩
def i125:TI:=⟨1,8,true,TypeDesc.struct #[{ name:= "_",type:=121,offset:=0,embedded:=false,tag:= "",pkgPath:= "sync/atomic",byteOffset:=0 },{ name:= "_",type:=122,offset:=0,embedded:=false,tag:= "",pkgPath:= "sync/atomic",byteOffset:=0 },{ name:= "v",type:=123,offset:=0,embedded:=false,tag:= "",pkgPath:= "sync/atomic",byteOffset:=0 }],[.int .u64 0],[]⟩
theorem Tj:aN Tryz.prog 125 i125:=⟨Tryz.underlying125,rfl,⟨Tryz.t125,_,aG Tryz.type125,rfl,rfl,rfl,rfl,⟨_,rfl⟩,rfl⟩,λh=>absurd rfl h⟩
def i126:TI:=⟨1,4,false,TypeDesc.int IntKind.u32,[.int .u32 0],[]⟩
theorem Tk:aN Tryz.prog 126 i126:=⟨Tryz.underlying126,rfl,⟨Tryz.t126,_,aG Tryz.type126,rfl,rfl,rfl,rfl,⟨#[],rfl⟩,rfl⟩,λh=>absurd rfl h⟩
def i128:TI:=⟨2,16,true,TypeDesc.struct #[{ name:= "noCopy",type:=120,offset:=0,embedded:=false,tag:= "",pkgPath:= "sync",byteOffset:=0 },{ name:= "state",type:=125,offset:=0,embedded:=false,tag:= "",pkgPath:= "sync",byteOffset:=0 },{ name:= "sema",type:=126,offset:=1,embedded:=false,tag:= "",pkgPath:= "sync",byteOffset:=8 }],[.int .u64 0,.int .u32 0],[]⟩
theorem Tl:aN Tryz.prog 128 i128:=⟨Tryz.underlying128,rfl,⟨Tryz.t128,_,aG Tryz.type128,rfl,rfl,rfl,rfl,⟨_,rfl⟩,rfl⟩,λh=>absurd rfl h⟩
def i131:TI:=⟨2,24,true,TypeDesc.struct #[{ name:= "piece",type:=9,offset:=0,embedded:=false,tag:= "",pkgPath:= "loop.example/depositary/impl",byteOffset:=0 },{ name:= "ok",type:=4,offset:=1,embedded:=false,tag:= "",pkgPath:= "loop.example/depositary/impl",byteOffset:=16 }],[.str [],.bool false],[TypeDesc.string,TypeDesc.bool]⟩
theorem Tm:aN Tryz.prog 131 i131:=⟨Tryz.underlying131,rfl,⟨Tryz.t131,_,aG Tryz.type131,rfl,rfl,rfl,rfl,⟨_,rfl⟩,rfl⟩,λ_=>jD (fs:=[{ name:= "piece",type:=9,offset:=0,embedded:=false,tag:= "",pkgPath:= "loop.example/depositary/impl",byteOffset:=0 },{ name:= "ok",type:=4,offset:=1,embedded:=false,tag:= "",pkgPath:= "loop.example/depositary/impl",byteOffset:=16 }]) Tryz.underlying131 (by decide +kernel) Tryz.eqGuardType131 ⟨by decide,rfl,Tryz.underlying9,ab,by decide,rfl,Tryz.underlying4,ab,ab⟩⟩
def i140:TI:=⟨1,8,false,TypeDesc.int IntKind.i64,[.int .i64 0],[]⟩
theorem Tn:aN Tryz.prog 140 i140:=⟨Tryz.underlying140,rfl,⟨Tryz.t140,_,aG Tryz.type140,rfl,rfl,rfl,rfl,⟨#[],rfl⟩,rfl⟩,λh=>absurd rfl h⟩
def i156:TI:=⟨2,16,true,TypeDesc.struct #[{ name:= "Name",type:=3,offset:=0,embedded:=false,tag:= "",pkgPath:= "",byteOffset:=0 },{ name:= "Pack",type:=3,offset:=1,embedded:=false,tag:= "",pkgPath:= "",byteOffset:=8 }],[.int .i64 0,.int .i64 0],[TypeDesc.int IntKind.i64,TypeDesc.int IntKind.i64]⟩
theorem To:aN Tryz.prog 156 i156:=⟨Tryz.underlying156,rfl,⟨Tryz.t156,_,aG Tryz.type156,rfl,rfl,rfl,rfl,⟨_,rfl⟩,rfl⟩,λ_=>jD (fs:=[{ name:= "Name",type:=3,offset:=0,embedded:=false,tag:= "",pkgPath:= "",byteOffset:=0 },{ name:= "Pack",type:=3,offset:=1,embedded:=false,tag:= "",pkgPath:= "",byteOffset:=8 }]) Tryz.underlying156 (by decide +kernel) Tryz.eqGuardType156 ⟨by decide,rfl,Tryz.underlying3,ab,by decide,rfl,Tryz.underlying3,ab,ab⟩⟩
def i179:TI:=⟨1,8,false,TypeDesc.pointer 181,[.j4],[]⟩
theorem Tp:aN Tryz.prog 179 i179:=⟨Tryz.underlying179,rfl,⟨Tryz.t179,_,aG Tryz.type179,rfl,rfl,rfl,rfl,⟨#[],rfl⟩,rfl⟩,λh=>absurd rfl h⟩
def i181:TI:=⟨2,32,true,TypeDesc.struct #[{ name:= "addr",type:=179,offset:=0,embedded:=false,tag:= "",pkgPath:= "strings",byteOffset:=0 },{ name:= "buf",type:=22,offset:=1,embedded:=false,tag:= "",pkgPath:= "strings",byteOffset:=8 }],[.j4,.sl true 0 0 (λ_=>[])],[]⟩
theorem Tq:aN Tryz.prog 181 i181:=⟨Tryz.underlying181,rfl,⟨Tryz.t181,_,aG Tryz.type181,rfl,rfl,rfl,rfl,⟨_,rfl⟩,rfl⟩,λh=>absurd rfl h⟩
def i183:TI:=⟨1,16,false,TypeDesc.interface #[("Error",186)],[.mz],[]⟩
theorem Tr:aN Tryz.prog 183 i183:=⟨Tryz.underlying183,rfl,⟨Tryz.t183,_,aG Tryz.type183,rfl,rfl,rfl,rfl,⟨#[],rfl⟩,rfl⟩,λh=>absurd rfl h⟩
def i193:TI:=⟨1,8,false,TypeDesc.int IntKind.u64,[.int .u64 0],[]⟩
theorem Ts:aN Tryz.prog 193 i193:=⟨Tryz.underlying193,rfl,⟨Tryz.t193,_,aG Tryz.type193,rfl,rfl,rfl,rfl,⟨#[],rfl⟩,rfl⟩,λh=>absurd rfl h⟩
def i196:TI:=⟨1,8,false,TypeDesc.pointer 3,[.j4],[]⟩
theorem Tt:aN Tryz.prog 196 i196:=⟨Tryz.underlying196,rfl,⟨Tryz.t196,_,aG Tryz.type196,rfl,rfl,rfl,rfl,⟨#[],rfl⟩,rfl⟩,λh=>absurd rfl h⟩
def i199:TI:=⟨1,8,false,TypeDesc.int IntKind.i64,[.int .i64 0],[]⟩
theorem Tu:aN Tryz.prog 199 i199:=⟨Tryz.underlying199,rfl,⟨Tryz.t199,_,aG Tryz.type199,rfl,rfl,rfl,rfl,⟨#[],rfl⟩,rfl⟩,λh=>absurd rfl h⟩
def i212:TI:=⟨1,8,false,TypeDesc.pointer 5,[.j4],[]⟩
theorem Tv:aN Tryz.prog 212 i212:=⟨Tryz.underlying212,rfl,⟨Tryz.t212,_,aG Tryz.type212,rfl,rfl,rfl,rfl,⟨#[],rfl⟩,rfl⟩,λh=>absurd rfl h⟩
def i222:TI:=⟨1,8,false,TypeDesc.pointer 218,[.j4],[]⟩
theorem Tw:aN Tryz.prog 222 i222:=⟨Tryz.underlying222,rfl,⟨Tryz.t222,_,aG Tryz.type222,rfl,rfl,rfl,rfl,⟨#[],rfl⟩,rfl⟩,λh=>absurd rfl h⟩
def i243:TI:=⟨2,2,true,TypeDesc.struct #[{ name:= "lo",type:=5,offset:=0,embedded:=false,tag:= "",pkgPath:= "unicode/utf8",byteOffset:=0 },{ name:= "hi",type:=5,offset:=1,embedded:=false,tag:= "",pkgPath:= "unicode/utf8",byteOffset:=1 }],[.int .u8 0,.int .u8 0],[TypeDesc.int IntKind.u8,TypeDesc.int IntKind.u8]⟩
theorem Tx:aN Tryz.prog 243 i243:=⟨Tryz.underlying243,rfl,⟨Tryz.t243,_,aG Tryz.type243,rfl,rfl,rfl,rfl,⟨_,rfl⟩,rfl⟩,λ_=>jD (fs:=[{ name:= "lo",type:=5,offset:=0,embedded:=false,tag:= "",pkgPath:= "unicode/utf8",byteOffset:=0 },{ name:= "hi",type:=5,offset:=1,embedded:=false,tag:= "",pkgPath:= "unicode/utf8",byteOffset:=1 }]) Tryz.underlying243 (by decide +kernel) Tryz.eqGuardType243 ⟨by decide,rfl,Tryz.underlying5,ab,by decide,rfl,Tryz.underlying5,ab,ab⟩⟩
def i244:TI:=⟨32,32,true,TypeDesc.array 16 243,[.int .u8 0,.int .u8 0,.int .u8 0,.int .u8 0,.int .u8 0,.int .u8 0,.int .u8 0,.int .u8 0,.int .u8 0,.int .u8 0,.int .u8 0,.int .u8 0,.int .u8 0,.int .u8 0,.int .u8 0,.int .u8 0,.int .u8 0,.int .u8 0,.int .u8 0,.int .u8 0,.int .u8 0,.int .u8 0,.int .u8 0,.int .u8 0,.int .u8 0,.int .u8 0,.int .u8 0,.int .u8 0,.int .u8 0,.int .u8 0,.int .u8 0,.int .u8 0],[]⟩
theorem Ty:aN Tryz.prog 244 i244:=⟨Tryz.underlying244,rfl,⟨Tryz.t244,_,aG Tryz.type244,rfl,rfl,rfl,rfl,⟨_,rfl⟩,rfl⟩,λh=>absurd rfl h⟩
def i245:TI:=⟨1,8,false,TypeDesc.pointer 259,[.j4],[]⟩
theorem Tz:aN Tryz.prog 245 i245:=⟨Tryz.underlying245,rfl,⟨Tryz.t245,_,aG Tryz.type245,rfl,rfl,rfl,rfl,⟨#[],rfl⟩,rfl⟩,λh=>absurd rfl h⟩
def i248:TI:=⟨0,0,true,TypeDesc.array 0 16,[],[]⟩
theorem TA:aN Tryz.prog 248 i248:=⟨Tryz.underlying248,rfl,⟨Tryz.t248,_,aG Tryz.type248,rfl,rfl,rfl,rfl,⟨_,rfl⟩,rfl⟩,λh=>absurd rfl h⟩
def i250:TI:=⟨0,0,true,TypeDesc.struct #[{ name:= "_",type:=248,offset:=0,embedded:=false,tag:= "",pkgPath:= "runtime",byteOffset:=0 }],[],[]⟩
theorem TB:aN Tryz.prog 250 i250:=⟨Tryz.underlying250,rfl,⟨Tryz.t250,_,aG Tryz.type250,rfl,rfl,rfl,rfl,⟨_,rfl⟩,rfl⟩,λh=>absurd rfl h⟩
def i251:TI:=⟨1,1,false,TypeDesc.int IntKind.u8,[.int .u8 0],[]⟩
theorem TC:aN Tryz.prog 251 i251:=⟨Tryz.underlying251,rfl,⟨Tryz.t251,_,aG Tryz.type251,rfl,rfl,rfl,rfl,⟨#[],rfl⟩,rfl⟩,λh=>absurd rfl h⟩
def i252:TI:=⟨1,1,false,TypeDesc.int IntKind.u8,[.int .u8 0],[]⟩
theorem TD:aN Tryz.prog 252 i252:=⟨Tryz.underlying252,rfl,⟨Tryz.t252,_,aG Tryz.type252,rfl,rfl,rfl,rfl,⟨#[],rfl⟩,rfl⟩,λh=>absurd rfl h⟩
def i254:TI:=⟨1,4,false,TypeDesc.int IntKind.i32,[.int .i32 0],[]⟩
theorem TE:aN Tryz.prog 254 i254:=⟨Tryz.underlying254,rfl,⟨Tryz.t254,_,aG Tryz.type254,rfl,rfl,rfl,rfl,⟨#[],rfl⟩,rfl⟩,λh=>absurd rfl h⟩
def i255:TI:=⟨1,4,false,TypeDesc.int IntKind.i32,[.int .i32 0],[]⟩
theorem TG:aN Tryz.prog 255 i255:=⟨Tryz.underlying255,rfl,⟨Tryz.t255,_,aG Tryz.type255,rfl,rfl,rfl,rfl,⟨#[],rfl⟩,rfl⟩,λh=>absurd rfl h⟩
def i256:TI:=⟨11,48,true,TypeDesc.struct #[{ name:= "Size_",type:=12,offset:=0,embedded:=false,tag:= "",pkgPath:= "",byteOffset:=0 },{ name:= "PtrBytes",type:=12,offset:=1,embedded:=false,tag:= "",pkgPath:= "",byteOffset:=8 },{ name:= "Hash",type:=126,offset:=2,embedded:=false,tag:= "",pkgPath:= "",byteOffset:=16 },{ name:= "TFlag",type:=251,offset:=3,embedded:=false,tag:= "",pkgPath:= "",byteOffset:=20 },{ name:= "Align_",type:=5,offset:=4,embedded:=false,tag:= "",pkgPath:= "",byteOffset:=21 },{ name:= "FieldAlign_",type:=5,offset:=5,embedded:=false,tag:= "",pkgPath:= "",byteOffset:=22 },{ name:= "Kind_",type:=252,offset:=6,embedded:=false,tag:= "",pkgPath:= "",byteOffset:=23 },{ name:= "Equal",type:=253,offset:=7,embedded:=false,tag:= "",pkgPath:= "",byteOffset:=24 },{ name:= "GCData",type:=212,offset:=8,embedded:=false,tag:= "",pkgPath:= "",byteOffset:=32 },{ name:= "Str",type:=254,offset:=9,embedded:=false,tag:= "",pkgPath:= "",byteOffset:=40 },{ name:= "PtrToThis",type:=255,offset:=10,embedded:=false,tag:= "",pkgPath:= "",byteOffset:=44 }],[.int .u64 0,.int .u64 0,.int .u32 0,.int .u8 0,.int .u8 0,.int .u8 0,.int .u8 0,.uZ,.j4,.int .i32 0,.int .i32 0],[]⟩
theorem TH:aN Tryz.prog 256 i256:=⟨Tryz.underlying256,rfl,⟨Tryz.t256,_,aG Tryz.type256,rfl,rfl,rfl,rfl,⟨_,rfl⟩,rfl⟩,λh=>absurd rfl h⟩
def i259:TI:=⟨1,16,true,TypeDesc.struct #[{ name:= "s",type:=9,offset:=0,embedded:=false,tag:= "",pkgPath:= "errors",byteOffset:=0 }],[.str []],[TypeDesc.string]⟩
theorem TJ:aN Tryz.prog 259 i259:=⟨Tryz.underlying259,rfl,⟨Tryz.t259,_,aG Tryz.type259,rfl,rfl,rfl,rfl,⟨_,rfl⟩,rfl⟩,λ_=>jD (fs:=[{ name:= "s",type:=9,offset:=0,embedded:=false,tag:= "",pkgPath:= "errors",byteOffset:=0 }]) Tryz.underlying259 (by decide +kernel) Tryz.eqGuardType259 ⟨by decide,rfl,Tryz.underlying9,ab,ab⟩⟩
def tt:List (Nat×TI):=[(2,i2),(3,i3),(4,i4),(5,i5),(6,i6),(8,i8),(9,i9),(12,i12),(16,i16),(20,i20),(21,i21),(22,i22),(23,i23),(24,i24),(25,i25),(27,i27),(29,i29),(34,i34),(37,i37),(39,i39),(40,i40),(44,i44),(51,i51),(54,i54),(56,i56),(62,i62),(64,i64),(69,i69),(74,i74),(83,i83),(99,i99),(103,i103),(108,i108),(118,i118),(120,i120),(121,i121),(122,i122),(123,i123),(125,i125),(126,i126),(128,i128),(131,i131),(140,i140),(156,i156),(179,i179),(181,i181),(183,i183),(193,i193),(196,i196),(199,i199),(212,i212),(222,i222),(243,i243),(244,i244),(245,i245),(248,i248),(250,i250),(251,i251),(252,i252),(254,i254),(255,i255),(256,i256),(259,i259)]
theorem tok:cz Tryz.prog tt:=(cz.cons g2 (cz.cons g3 (cz.cons g4 (cz.cons g5 (cz.cons g6 (cz.cons g8 (cz.cons g9 (cz.cons XZ (cz.cons X0 (cz.cons X1 (cz.cons X2 (cz.cons X3 (cz.cons X4 (cz.cons X5 (cz.cons X6 (cz.cons X7 (cz.cons X8 (cz.cons Tb (cz.cons X9 (cz.cons Ya (cz.cons Yb (cz.cons Yc (cz.cons Yd (cz.cons S7 (cz.cons Ye (cz.cons Vh (cz.cons Yf (cz.cons Yg (cz.cons Yh (cz.cons Yi (cz.cons Vi (cz.cons Tc (cz.cons Td (cz.cons Te (cz.cons Tf (cz.cons Tg (cz.cons Th (cz.cons Ti (cz.cons Tj (cz.cons Tk (cz.cons Tl (cz.cons Tm (cz.cons Tn (cz.cons To (cz.cons Tp (cz.cons Tq (cz.cons Tr (cz.cons Ts (cz.cons Tt (cz.cons Tu (cz.cons Tv (cz.cons Tw (cz.cons Tx (cz.cons Ty (cz.cons Tz (cz.cons TA (cz.cons TB (cz.cons TC (cz.cons TD (cz.cons TE (cz.cons TG (cz.cons TH (cz.cons TJ cz.nil)))))))))))))))))))))))))))))))))))))))))))))))))))))))))))))))
end R1
end Go.AM
namespace Go.AM
abbrev Bs:=List UInt8
abbrev dS(s:Bs):D:=.e (.one (.c (.str s)))
abbrev dI(n:Int):D:=.e (.one (.c (.int .i64 n)))
abbrev dU(n:Int):D:=.e (.one (.c (.int .u8 n)))
abbrev dB(b:Bool):D:=.e (.one (.c (.bool b)))
theorem ji{s:Bs}{i:Nat}:gJ s i=s.getD i 0:=rfl
namespace R1
open Go.Proofs
variable {X:Cx Tryz.prog}
theorem nc:Tryz.prog.follows Departure.mixedOrders=true:=rfl
theorem ah{X:Cx Tryz.prog}{CT:List (Nat×c7)}(c:aY X CT)(ds:List (Nat×Bool)){N:Nat}{Qf:Post}(n:Nat){K d:List It}{φ b:Fr}{σ σ':List aj}{a:List Prop}
  (h:AM.qh tt CT ds N n K φ σ []=some (d,b,σ',a)) (e:aa a) (k:AK X N Qf d .normal b σ'):AK X N Qf K .normal φ σ:=AK.qh nc tok c ds n h e k
theorem aq{X:Cx Tryz.prog}(ds:List (Nat×Bool)){N:Nat}{Qf:Post}(n:Nat){K c:List It}{φ b:Fr}{σ σ':List aj}{a:List Prop}
  (h:AM.qh tt [] ds N n K φ σ []=some (c,b,σ',a)) (d:aa a) (k:AK X N Qf c .normal b σ'):AK X N Qf K .normal φ σ:=AK.qh nc tok aY.nil ds n h d k
theorem aA{X:Cx Tryz.prog}{N:Nat}{Qf:Post}{K c:List It}{φ b:Fr}{σ σ':List aj}{a:List Prop}
  (h:AM.qh tt [] [] N 100 K φ σ []=some (c,b,σ',a)) (d:aa a) (k:AK X N Qf c .normal b σ'):AK X N Qf K .normal φ σ:=AK.qh nc tok aY.nil [] 100 h d k
theorem cE{X:Cx Tryz.prog}{N:Nat}{Qf:Post}{K c:List It}{φ b:Fr}{σ σ':List aj}{a:List Prop}
  (h:AM.qh tt [] [] N 200 K φ σ []=some (c,b,σ',a)) (d:aa a) (k:AK X N Qf c .normal b σ'):AK X N Qf K .normal φ σ:=AK.qh nc tok aY.nil [] 200 h d k
def kS(b:Int):Bool:=decide (97<=b)&&decide (b<=101)
theorem JW(b:Int):Ev X 108 [dU b] [] (dB (kS b)) []:=by
 refine Ev.body Tryz.func108 rfl rfl rfl λ_=>?_
 by_cases h:97<=b
 ·refine aq [(4,true)] 100 rfl ?_ (AK.aK rfl ?_) <;> simp[aa,h,kS]
 ·refine aq [(4,false)] 100 rfl ?_ (AK.aK rfl ?_) <;> simp[aa,h,kS]
def dz(b:UInt8):Bool:=decide (97<=b.toNat)&&decide (b.toNat<=122)
def bj(s:Bs):Bool:=s.all dz
theorem qq{s:Bs}(h:∀ j,j<s.length->dz (s.getD j 0)=true):bj s=true:=by
 simp only[bj,eR];intro b a;obtain⟨i,hi,rfl⟩:=cJ a;have:=h i hi;simpa[List.getD_eq_getElem?_getD,ai hi] using this
theorem jr{s:Bs}{j:Nat}(h:j<s.length)(a:dz (s.getD j 0)=false):bj s=false:=by
 cases b:bj s with
 |false=>rfl
 |true =>
  simp only[bj,eR] at b;have:=b _ (bJ h);simp[List.getD_eq_getElem?_getD,ai h] at a;rw[a] at this;cases this
theorem Bf(s:Bs):Ev X 109 [dS s] [] (dB (bj s)) []:=by
 refine Ev.body Tryz.func109 rfl rfl rfl λe=>?_
 have g:=e.str 0 rfl;refine aA rfl ab ?_;refine AK.tN (λi=>i<=s.length/\∀ j,j<i->dz (s.getD j 0)=true) (λi:Nat=>[(0,dS s),(3,dI i)]) (λ_=>[]) (λi=>s.length-i) 0 rfl (by simp[aa.cat,aa]) ⟨by omega,by omega⟩ rfl ?_
 rintro i ⟨hi,a⟩
 by_cases h:i<s.length
 ·generalize c:s.getD i 0=b
  by_cases f:b.toNat<97
  ·refine aq [(7,true),(13,true)] 100 rfl ?_ (AK.jC (cv.zero rfl ?_))
   ·simp only[aa,ji,av,c];omega
   ·rw[aa,jr h (by rw[c];simp only[dz,pt,aZ];omega)]
  ·by_cases k:b.toNat>122
   ·refine aq [(7,true),(13,false),(18,true)] 100 rfl ?_ (AK.jC (cv.zero rfl ?_))
    ·simp only[aa,ji,av,aZ,c];omega
    ·rw[aa,jr h (by rw[c];simp only[dz,pt,aZ];omega)]
   ·refine aq [(7,true),(13,false),(18,false)] 100 rfl ?_ (AK.again (i+1) rfl ?_ ?_ ?_ rfl)
    ·simp only[aa,ji,av,aZ,c,aJ];omega
    ·simp[aa.cat,aa]
    ·refine⟨by omega,λj d=>?_⟩
     rcases fE.1 d with d|rfl
     ·exact a j d
     ·rw[c];simp only[dz,bq,av];omega
    ·omega
 ·refine aq [(7,false)] 100 rfl (by simp[aa];omega) (AK.leave rfl rfl ?_)
  refine aA rfl ab (AK.aK rfl ?_);rw[aa,qq (λj d=>a j (by omega))]
end R1
theorem Ev.args{P:Program}{X:Cx P}{f:FuncId}{args K7:List D}{σ σ':List aj}{res:D}(h:Ev X f K7 σ res σ')(hl:∀ s vs,bC σ s vs args->bC σ s vs K7):Ev X f args σ res σ' :=
 ⟨h.1,λs vs hr hh=>h.2 s vs (hl s vs hr) hh⟩
def iU(a:Nat):D->Option (Nat×(Nat->List C))
 |.e (.one (.c (.sl _ k n es)))=>match Nat.beq k a with
  |true=>some (n,es)
  |false=>match Nat.beq n 0 with
   |true=>some (0,λ_=>[])
   |false=>none
 |_=>none
theorem Hn{i:Nat}{d:D}{n:Nat}{es:Nat->List C}(h:iU i d=some (n,es)){σ:List aj}{s:St}{v:Value}(r:cd σ s v d):Rd s.M v (.sl false i n es):=by
 unfold iU at h;split at h
 ·rename_i t k u es'
  split at h
  ·rename_i g
   have e:=aO g;subst e;cases h;exact(eX r).loose
  ·split at h
   ·rename_i j
    have e:=aO j;subst e;cases h;have r':=eX r;cases r' with
    |sl b off f a l p g q o m=>exact Rd.sl b off f a l (by simp) (by omega) (by omega) (by omega) (by omega)
   ·cases h
 ·cases h
def qT{α:Type}(enc:α->List C)(bl:α)(l:List α):Nat->List C:=λi=>enc (l.getD i bl)
structure gN (α:Type) where
 k:Nat
 enc:α->List C
 dec:List C->α
 bl:α
 inv:∀ a,dec (enc a)=a
 len:∀ a,(enc a).length=k
namespace gN
variable {α:Type}(c:gN α)
def list(n:Nat)(es:Nat->List C):List α:=(List.range n).map λi=>c.dec (es i)
def fn(l:List α):Nat->List C:=qT c.enc c.bl l
def fits(n:Nat)(es:Nat->List C):Prop:=∀ i,i<n->es i=c.enc (c.dec (es i))
def sl(l:List α):D:=.e (.one (.c (.sl false c.k l.length (c.fn l))))
theorem zp{n:Nat}{es:Nat->List C}:(c.list n es).length=n:=by simp[list]
theorem list_fn(l:List α):c.list l.length (c.fn l)=l:=by
 apply sv
 ·simp[list]
 ·intro i b a;simp[list,fn,qT,List.getD_eq_getElem?_getD,ai a,c.inv]
theorem bu(l:List α){n:Nat}:c.fits n (c.fn l):=λi _=>by simp[fn,qT,c.inv]
theorem JX{n:Nat}{es:Nat->List C}(h:c.fits n es):au n es (c.fn (c.list n es)):=by
 intro i hi;rw[h i hi];simp[fn,qT,list,List.getD_eq_getElem?_getD,hi]
theorem hY{d:D}{n:Nat}{es:Nat->List C}(h:iU c.k d=some (n,es))(a:c.fits n es){σ:List aj}{s:St}{v:Value}(r:cd σ s v d):cd σ s v (c.sl (c.list n es)):=by
 have e:=Hn h r;have b:=e.zJ (c.JX a);show Rd s.M v (.sl false c.k (c.list n es).length _);rw[c.zp];exact b
end gN
def bL(s:Bs)(i:Nat):Int:=(s.getD i 0).toNat
theorem bX(s:Bs) (j:Int):((gJ s j).toNat:Int)=bL s j.toNat:=rfl
abbrev aH:=Bs×Bs
def ug(cs:List C)(j:Nat):Bs:=match eW j cs with|some (.str s)=>s|_=>[]
def rz(cs:List C)(j:Nat):Int:=match eW j cs with|some (.int _ s)=>s|_=>0
def cF:gN aH:={ k:=2,enc:=λf=>[.str f.1,.str f.2],dec:=λcs=>(ug cs 0,ug cs 1),bl:=([],[]),inv:=λ_=>rfl,len:=λ_=>rfl }
namespace R1
open Go.Proofs
variable {X:Cx Tryz.prog}
def M5:c7:=λargs σ=>match args,σ with
 |[.e (.one (.c (.int .u8 b)))],[]=>some (dB (kS b),[],[])
 |_,_=>none
theorem t108:dw X 108 M5:=by
 intro args σ res σ' obs h _;unfold M5 at h;split at h
 ·cases h;exact JW _
 ·cases h
def M6:c7:=λargs σ=>match args,σ with
 |[.e (.one (.c (.str b)))],[]=>some (dB (bj b),[],[])
 |_,_=>none
theorem t109:dw X 109 M6:=by
 intro args σ res σ' obs h _;unfold M6 at h;split at h
 ·cases h;exact Bf _
 ·cases h
def Vj:List (Nat×c7):=[(108,M5),(109,M6)]
theorem zq:aY X Vj:=aY.cons t108 (aY.cons t109 aY.nil)
def cG(s:Bs):Bool:=if s.length=1 then kS (bL s 0) else if s.length=3 then kS (bL s 0)&&(bL s 1==47)&&kS (bL s 2) else false
theorem D5(s:Bs):Ev X 65 [dS s] [] (dB (cG s)) []:=by
 refine Ev.body Tryz.func65 rfl rfl rfl λf=>?_
 by_cases e:s.length=1
 ·refine ah zq [(6,true)] 100 rfl ?_ (AK.aK rfl ?_)
  ·simp[aa,e]
  ·simp[aa,cG,e,bX]
 ·by_cases a:s.length=3
  ·by_cases b:kS (bL s 0)=true
   ·by_cases d:bL s 1=47
    ·refine ah zq [(6,false),(11,true),(14,true),(18,true)] 100 rfl ?_ (AK.aK rfl ?_)
     ·simp[aa,a,bX,b,d]
     ·simp[aa,cG,a,b,d,bX]
    ·refine ah zq [(6,false),(11,true),(14,true),(18,false)] 100 rfl ?_ (AK.aK rfl ?_)
     ·simp[aa,a,bX,b,d]
     ·simp[aa,cG,a,b,d]
   ·refine ah zq [(6,false),(11,true),(14,false)] 100 rfl ?_ (AK.aK rfl ?_)
    ·simp[aa,a,bX,b]
    ·simp[aa,cG,a,b]
  ·refine ah zq [(6,false),(11,false)] 100 rfl ?_ (AK.aK rfl ?_)
   ·simp[aa];omega
   ·simp[aa,cG,e,a]
def dG(s:Bs):Bool:=decide (s.length<=40)&&bj s
theorem D6(s:Bs):Ev X 66 [dS s] [] (dB (dG s)) []:=by
 refine Ev.body Tryz.func66 rfl rfl rfl λb=>?_
 by_cases a:s.length<=40
 ·refine ah zq [(5,true)] 100 rfl ?_ (AK.aK rfl ?_)
  ·simp[aa];omega
  ·simp[aa,dG,a]
 ·refine ah zq [(5,false)] 100 rfl ?_ (AK.aK rfl ?_)
  ·simp[aa];omega
  ·simp[aa,dG,a]
def clash(a b:Bs):Bool:=(a.length != b.length)&&(bL a 0==bL b 0)
theorem Ho(a b:Bs)(g:a≠[])(h:b≠[]):Ev X 99 [dS a,dS b] [] (dB (clash a b)) []:=by
 have f:=List.length_pos_iff.2 g;have e:=List.length_pos_iff.2 h;refine Ev.body Tryz.func99 rfl rfl rfl λi=>?_
 by_cases d:a.length=b.length
 ·refine aq [(9,false)] 100 rfl ?_ (AK.aK rfl ?_)
  ·simp[aa,d]
  ·simp[aa,clash,d]
 ·refine aq [(9,true)] 100 rfl ?_ (AK.aK rfl ?_)
  ·simp[aa,f,e];omega
  ·simp[aa,clash,d,bX]
end R1
end Go.AM
namespace Go.AM.R1
open Go.Proofs
variable {X:Cx Tryz.prog}
def TK:c7:=λargs σ=>match args,σ with
 |[.e (.one (.c (.str b)))],[]=>some (dB (cG b),[],[])
 |_,_=>none
theorem t65:dw X 65 TK:=by
 intro args σ res σ' obs h _;unfold TK at h;split at h
 ·cases h;exact D5 _
 ·cases h
def TM:c7:=λargs σ=>match args,σ with
 |[.e (.one (.c (.str b)))],[]=>some (dB (dG b),[],[])
 |_,_=>none
theorem t66:dw X 66 TM:=by
 intro args σ res σ' obs h _;unfold TM at h;split at h
 ·cases h;exact D6 _
 ·cases h
def TN:c7:=λargs σ=>match args,σ with
 |[.e (.one (.c (.str a))),.e (.one (.c (.str b)))],[]=>some (dB (clash a b),[],[a≠[],b≠[]])
 |_,_=>none
theorem t99:dw X 99 TN:=by
 intro args σ res σ' obs h a;unfold TN at h;split at h
 ·cases h;exact Ho _ _ a.1 a.2
 ·cases h
def Vk:List (Nat×c7):=(65,TK)::(66,TM)::(99,TN)::Vj
theorem qY:aY X Vk:=aY.cons t65 (aY.cons t66 (aY.cons t99 zq))
def dD(t:List aH)(i:Nat):Bs:=(t.getD i ([],[])).1
def r7(t:List aH)(i:Nat):Bs:=(t.getD i ([],[])).2
theorem fy(t:List aH)(i:Nat):(t.getD i cF.bl).1=dD t i:=rfl
theorem nY(t:List aH)(i:Nat):(t.getD i cF.bl).2=r7 t i:=rfl
def fx(t:List aH)(i:Nat):Bool:=cG (dD t i)&&dG (r7 t i)&&(i==0||Op.bytesLess (dD t (i-1)) (dD t i))&&(List.range i).all λj=>!clash (dD t j) (dD t i)
def cr(t:List aH):Bool:=(List.range t.length).all (fx t)&&decide (t.length<=6)
theorem c8{n:Nat}{p:Nat->Bool}:(List.range n).all p=true↔∀ i,i<n->p i=true:=by simp[eR]
theorem oz{s:Bs}(h:cG s=true):s≠[]:=by rintro rfl;simp[cG] at h
theorem kh{t:List aH}{i:Nat}(hi:i<t.length)(h:fx t i=false):cr t=false:=by
 cases a:cr t with
 |false=>rfl
 |true =>
  simp only[cr,bq] at a;rw[c8.1 a.1 i hi] at h;cases h
theorem vY(t:List aH):Ev X 59 [cF.sl t] [] (dB (cr t)) []:=by
 refine Ev.body Tryz.func59 rfl rfl rfl λy=>?_
 have w:=y.sl 0 rfl;refine ah qY [] 100 rfl ab ?_;refine AK.tN (λi=>i<=t.length/\∀ j,j<i->fx t j=true) (λi:Nat=>[(0,cF.sl t),(3,dI i)]) (λ_=>[]) (λi=>t.length-i) 0 rfl (by simp[aa.cat,aa,au]) ⟨by omega,by omega⟩ rfl ?_
 rintro i ⟨hi,c⟩
 by_cases h:i<t.length
 ·by_cases d:cG (dD t i)=true
  ·by_cases m:dG (r7 t i)=true
   ·by_cases r:i=0∨Op.bytesLess (dD t (i-1)) (dD t i)=true
    ·apply AK.join [(0,cF.sl t),(3,dI i),(4,dI 0)] []
     ·intro s
      by_cases l:i=0
      ·refine ah qY [(8,true),(16,true),(24,true),(29,false)] 100 rfl ?_ (s _ _ rfl ?_)
       ·simp[-List.getD_eq_getElem?_getD,aa,h,fy,nY,d,m];omega
       ·simp[aa.cat,aa,au]
      ·have n:=r.resolve_left l;have g:aJ .i64 ((i:Int)-1):=by simp only[aJ];omega
       have v:((i:Int)-1).toNat=i-1:=by omega
       refine ah qY [(8,true),(16,true),(24,true),(29,true),(42,false)] 100 rfl ?_ (s _ _ rfl ?_)
       ·simp[-List.getD_eq_getElem?_getD,aa,h,fy,nY,d,m,n,g,v];omega
       ·simp[aa.cat,aa,au]
     ·
      have f:fx t i=(List.range i).all (λj=>!clash (dD t j) (dD t i)):=by
       rcases r with rfl|n
       ·simp[fx,d,m]
       ·simp[fx,d,m,n]
      refine AK.tN (λj=>j<=i/\∀ o,o<j->clash (dD t o) (dD t i)=false) (λj:Nat=>[(0,cF.sl t),(3,dI i),(4,dI j)]) (λ_=>[]) (λj=>i-j) 0 rfl (by simp[aa.cat,aa,au]) ⟨by omega,by omega⟩ rfl ?_
      rintro j ⟨x,p⟩
      by_cases b:j<i
      ·have q:cG (dD t j)=true:=by
        have:=c j b;simp only[fx,bq] at this;exact this.1.1.1
       cases u:clash (dD t j) (dD t i) with
       |true =>
        refine ah qY [(47,true),(60,true)] 100 rfl ?_ (AK.jC (AK.tM (cv.zero rfl ?_)))
        ·simp[-List.getD_eq_getElem?_getD,aa,h,b,fy,u,oz d,oz q];omega
        ·have:fx t i=false:=by
          rw[f];cases z:(List.range i).all (λj=>!clash (dD t j) (dD t i)) with
          |false=>rfl
          |true=>have:=c8.1 z j b;simp[u] at this
         simp[aa,kh h this]
       |false =>
        refine ah qY [(47,true),(60,false)] 100 rfl ?_ (AK.again (j+1) rfl ?_ ?_ ?_ rfl)
        ·simp[-List.getD_eq_getElem?_getD,aa,h,b,fy,u,oz d,oz q,aJ];omega
        ·simp[aa.cat,aa,au]
        ·refine⟨by omega,λo a=>?_⟩
         rcases fE.1 a with a|rfl
         ·exact p o a
         ·exact u
        ·omega
      ·have b:j=i:=by omega
       subst b;refine ah qY [(47,false)] 100 rfl (by simp[aa]) (AK.leave rfl rfl ?_)
       refine ah qY [] 100 rfl ?_ (AK.again (j+1) rfl ?_ ?_ ?_ rfl)
       ·simp[aa,aJ];omega
       ·simp[aa.cat,aa,au]
       ·refine⟨by omega,λo a=>?_⟩
        rcases fE.1 a with a|rfl
        ·exact c o a
        ·rw[f,c8];intro k s;simp[p k s]
       ·omega
    ·have l:i≠0:=λe=>r (.inl e)
     have n:Op.bytesLess (dD t (i-1)) (dD t i)=false:=by simpa usingλe=>r (.inr e)
     have g:aJ .i64 ((i:Int)-1):=by simp only[aJ];omega
     have v:((i:Int)-1).toNat=i-1:=by omega
     refine ah qY [(8,true),(16,true),(24,true),(29,true),(42,true)] 100 rfl ?_ (AK.jC (cv.zero rfl ?_))
     ·simp[-List.getD_eq_getElem?_getD,aa,h,fy,nY,d,m,n,g,v];omega
     ·simp[aa,kh h (by simp[fx,l,n])]
   ·refine ah qY [(8,true),(16,true),(24,false)] 100 rfl ?_ (AK.jC (cv.zero rfl ?_))
    ·simp[-List.getD_eq_getElem?_getD,aa,h,fy,nY,d,m]
    ·simp[aa,kh h (by simp[fx,m])]
  ·refine ah qY [(8,true),(16,false)] 100 rfl ?_ (AK.jC (cv.zero rfl ?_))
   ·simp[-List.getD_eq_getElem?_getD,aa,h,fy,d]
   ·simp[aa,kh h (by simp[fx,d])]
 ·refine ah qY [(8,false)] 100 rfl (by simp[aa];omega) (AK.leave rfl rfl ?_)
  refine ah qY [] 100 rfl ab (AK.aK rfl ?_);simp only[aa,cr];rw[c8.2 (λj x=>c j (by omega))]
  simp;omega
end Go.AM.R1
namespace Go.AM
theorem bC.imp{σ:List aj}{s:St}{d a:D}{ds Bu:List D}(h:∀ v,cd σ s v d->cd σ s v a)(k:∀ vs,bC σ s vs ds->bC σ s vs Bu):∀ vs,bC σ s vs (d::ds)->bC σ s vs (a::Bu)
 |[],r=>r.elim
 |v::vs,r=>⟨h v r.1,k vs r.2⟩
abbrev dP(f:aH):D:=.e (.agg [.c (.str f.1),.c (.str f.2)])
abbrev Cs:=Bs×Int×Bs
abbrev dC(f:Cs):D:=.e (.agg [.c (.str f.1),.c (.int .i64 f.2.1),.c (.str f.2.2)])
def cC:gN Cs:={ k:=3,enc:=λf=>[.str f.1,.int .i64 f.2.1,.str f.2.2],dec:=λcs=>(ug cs 0,rz cs 1,ug cs 2),bl:=([],0,[]),inv:=λ_=>rfl,len:=λ_=>rfl }
abbrev Y1(a:Bs)(b:Bool):D:=.dH [.one (.c (.str a)),.one (.c (.bool b))]
abbrev KO(a:List aH)(b:Bool):D:=.dH [.one (.c (.sl false 2 a.length (cF.fn a))),.one (.c (.bool b))]
namespace R1
open Go.Proofs
variable {X:Cx Tryz.prog}
def TO:c7:=λargs σ=>match args,σ with
 |[c],[]=>match iU 2 c with
  |none=>none
  |some (a,b)=>some (dB (cr (cF.list a b)),[],[cF.fits a b])
 |_,_=>none
theorem t59:dw X 59 TO:=by
 intro args σ res σ' obs h b;unfold TO at h;split at h
 ·split at h
  ·cases h
  rename_i c d a
  cases h;exact(vY _ ).args (λ_ vs=>bC.imp (λ_=>cF.hY a b) (λ_ r=>r) vs)
 ·cases h
def PQ:List aH->Bs->Option Bs
 |[],_=>none
 |f::r,p=>if f.1==p then some f.2 else PQ r p
def Vl:List (Nat×c7):=(59,TO)::Vk
theorem TP:aY X Vl:=aY.cons t59 qY
def QI(t:List aH)(p:Bs):Option Bs:=if cr t then PQ t p else none
end R1
theorem gN.b9{α:Type}(c:gN α)(l:List α)(x:α):au (l.length+1) (cj l.length (c.fn l) (λi=>[c.enc x].getD i [])) (c.fn (l++[x])):=by
 intro i hi;unfold cj gN.fn qT
 by_cases h:i<l.length
 ·simp[h,List.getD_eq_getElem?_getD,bc h]
 ·have e:i=l.length:=by omega
  subst e;simp[List.getD_eq_getElem?_getD]
theorem au.same{n:Nat}{f:Nat->List C}:au n f f:=λ_ _=>rfl
theorem au.nil{f g:Nat->List C}:au 0 f g:=λi h=>by omega
namespace R1
open Go.Proofs
variable {X:Cx Tryz.prog}
def jH(t:List aH)(p:Bs):List aH:=t.filter λf=>!(f.1==p)
theorem Bg{t:List aH}{p:Bs}{i:Nat}(h:i<t.length):jH (t.take (i+1)) p=jH (t.take i) p++(if dD t i=p then [] else [(dD t i,r7 t i)]):=by
 have e:t.getD i ([],[])=t[i]:=by simp[List.getD_eq_getElem?_getD,ai h]
 have c:(dD t i,r7 t i)=t[i]:=by simp only[dD,r7,e]
 rw[g7,ai h,c];simp only[jH,kX,me]
 congr 1
 have a:dD t i=t[i].1:=by simp only[dD,e]
 rw[a]
 by_cases b:t[i].1=p <;> simp[b]
theorem D9(t:List aH)(p:Bs):(jH t p).length<=t.length:=ik _ _
theorem Co(t:List aH)(p:Bs)(f:t.length<=1000000):Ev X 34 [cF.sl t,dS p] [] (cF.sl (jH t p)) []:=by
 refine Ev.body Tryz.func34 rfl rfl rfl λc=>?_
 refine aA rfl ab ?_;refine AK.iS 5 99 2 rfl rfl ?_;refine AK.lV (λi=>i<=t.length) (λi:Nat=>[(0,cF.sl t),(1,dS p),(6,dI i),(5,.e (.one (.vec 0 2 (jH (t.take i) p).length (cF.fn (jH (t.take i) p)))))]) (λi=>[.vec 99 2 (jH (t.take i) p).length (cF.fn (jH (t.take i) p))]) (λi=>t.length-i) 0 rfl ?_ rfl ?_ (by omega) ?_
 ·simp[aa.cat,aa,au,jH]
 ·simp[aa.cat,aa,au,jH]
 intro i hi
 by_cases h:i<t.length
 ·have a:=Bg (p:=p) h;have d:(jH (t.take i) p).length<=1000000:=by
   have:=D9 (t.take i) p;simp at this;omega
  by_cases b:dD t i=p
  ·rw[an b,iV] at a;refine aq [(11,true),(20,false)] 100 rfl ?_ (AK.gK (i+1) rfl ?_ rfl ?_ ?_ ?_)
   ·simp[-List.getD_eq_getElem?_getD,aa,h,fy,b,aJ];omega
   ·rw[a];simp[aa.cat,aa,au]
   ·rw[a];simp[aa.cat,aa,au]
   ·omega
   ·omega
  ·rw[ak b] at a;refine aq [(11,true),(20,true)] 100 rfl ?_ (AK.gK (i+1) rfl ?_ rfl ?_ ?_ ?_)
   ·simp[-List.getD_eq_getElem?_getD,aa,h,fy,b,aJ,i99];omega
   ·rw[a];simp[-List.getD_eq_getElem?_getD,aa.cat,aa,au.same];exact cF.b9 _ (dD t i,r7 t i)
   ·rw[a];simp[-List.getD_eq_getElem?_getD,aa.cat,aa];exact cF.b9 _ (dD t i,r7 t i)
   ·omega
   ·omega
 ·have:i=t.length:=by omega
  subst this;refine aq [(11,false)] 100 rfl (by simp[aa]) (AK.leave rfl rfl ?_)
  refine aA rfl ab (AK.aK rfl ?_);simp[aa,au]
def TQ:c7:=λargs σ=>match args,σ with
 |[f,.e (.one (.c (.str b)))],[]=>match iU 2 f with
  |none=>none
  |some (a,d)=>some (cF.sl (jH (cF.list a d) b),[],[cF.fits a d,((cF.list a d)).length<=1000000])
 |_,_=>none
theorem t34:dw X 34 TQ:=by
 intro args σ res σ' obs h a;unfold TQ at h;split at h
 ·split at h
  ·cases h
  rename_i c d b
  cases h;exact(Co _ _ (a.2)).args (λ_ vs=>bC.imp (λ_=>cF.hY b a.1) (bC.imp (λ_ r=>r) (λ_ r=>r)) vs)
 ·cases h
def Vm:List (Nat×c7):=(34,TQ)::Vl
theorem TR:aY X Vm:=aY.cons t34 TP
end R1
end Go.AM
namespace Go.AM.R1
open Go.Proofs
variable {X:Cx Tryz.prog}
def pn(f:aH)(acc:List aH×Bool)(g:Bs):List aH×Bool:=if acc.2=true then acc else if Op.bytesLess g f.1=true then acc else (acc.1++[f],true)
def J0(f:aH)(a:List aH×Bool)(g:aH):List aH×Bool:=if g.1=f.1 then a else (a.1++[g],a.2)
def mU(f:aH)(acc:List aH×Bool)(g:aH):List aH×Bool:=J0 f (pn f acc g.1) g
def jk(f:aH)(t:List aH):List aH×Bool:=t.foldl (mU f) ([],false)
def qt(t:List aH)(f:aH):List aH:=if (jk f t).2=true then (jk f t).1 else (jk f t).1++[f]
theorem fileAt{t:List aH}{i:Nat}(h:i<t.length):t[i]=(dD t i,r7 t i):=by
 have e:t.getD i ([],[])=t[i]:=by simp[List.getD_eq_getElem?_getD,ai h]
 simp only[dD,r7,e]
theorem zt{f:aH}{t:List aH}{i:Nat}(h:i<t.length):jk f (t.take (i+1))=mU f (jk f (t.take i)) (dD t i,r7 t i):=by
 rw[g7,ai h,fileAt h];simp[jk]
theorem zu(f:aH)(acc:List aH×Bool)(g:Bs):(pn f acc g).1.length<=acc.1.length+1:=by
 unfold pn;split
 ·omega
 ·split
  ·omega
  ·simp
theorem Hu(f:aH)(acc:List aH×Bool)(g:aH):(J0 f acc g).1.length<=acc.1.length+1:=by
 unfold J0;split
 ·omega
 ·simp
theorem uO(f:aH):∀ (t:List aH)(acc:List aH×Bool),(t.foldl (mU f) acc).1.length<=acc.1.length+2*t.length
 |[],acc=>by simp
 |g::r,acc=>by
  have b:=uO f r (mU f acc g);have a:=zu f acc g.1;have c:=Hu f (pn f acc g.1) g;simp only[ir,cM];have:(mU f acc g).1.length<=acc.1.length+2:=by unfold mU;omega
  omega
abbrev dV(l:Nat)(t:List aH):D:=.e (.one (.vec l 2 t.length (cF.fn t)))
abbrev bV(t:List aH):aj:=.vec 99 2 t.length (cF.fn t)
theorem J1(t:List aH)(f:aH)(w:t.length<=1000000):Ev X 67 [cF.sl t,dP f] [] (dV 0 (qt t f)) [bV (qt t f)]:=by
 refine Ev.body Tryz.func67 rfl rfl rfl λv=>?_
 refine aA rfl ab ?_;refine AK.iS 5 99 2 rfl rfl ?_
 let A:Nat->List aH×Bool:=λi=>jk f (t.take i)
 have b:∀ i,i<=t.length->(A i).1.length<=2000000:=by
  intro i hi;have:=uO f (t.take i) ([],false);simp at this;show (jk f (t.take i)).1.length<=_;unfold jk;omega
 refine AK.lV (λi=>i<=t.length) (λi:Nat=>[(0,cF.sl t),(3,.e (.one (.ptr 0 0))),(7,dI i),(5,dV 1 (A i).1),(6,dB (A i).2)]) (λi=>[.cells 99 [.c (.str f.1),.c (.str f.2)],bV (A i).1]) (λi=>t.length-i) 0 rfl ?_ rfl ?_ (by omega) ?_
 ·simp[aa.cat,aa,au,A,jk]
 ·simp[aa.cat,aa,au,A,jk]
 intro i hi
 by_cases h:i<t.length
 ·have s:A (i+1)=mU f (A i) (dD t i,r7 t i):=zt h;have u:=b i hi;generalize A i=acc at *;have r:=zu f acc (dD t i)
  apply AK.join [(0,cF.sl t),(3,.e (.one (.ptr 0 0))),(7,dI i),(5,dV 1 (pn f acc (dD t i)).1),(6,dB (pn f acc (dD t i)).2)] [.cells 99 [.c (.str f.1),.c (.str f.2)],bV (pn f acc (dD t i)).1]
  ·intro l;cases a:acc.2 with
   |true =>
    have m:pn f acc (dD t i)=acc:=by unfold pn;rw[an a]
    rw[m] at l;refine aq [(12,true),(15,true),(1000009,true)] 200 rfl ?_ (l _ _ rfl ?_)
    ·simp[aa,h]
    ·simp[aa,aa.cat,au.same,a]
   |false =>
    cases g:Op.bytesLess (dD t i) f.1 with
    |true =>
     have m:pn f acc (dD t i)=acc:=by unfold pn;rw[a,g];rfl
     rw[m] at l;refine aq [(12,true),(15,false),(25,false),(1000009,true)] 200 rfl ?_ (l _ _ rfl ?_)
     ·simp[-List.getD_eq_getElem?_getD,aa,h,fy,g]
     ·simp[aa,aa.cat,au.same,a]
    |false =>
     have m:pn f acc (dD t i)=(acc.1++[f],true):=by unfold pn;rw[a,g];rfl
     rw[m] at l;refine aq [(12,true),(15,false),(25,true),(1000009,true)] 200 rfl ?_ (AK.norm _ rfl ?_ (l _ _ rfl ?_))
     ·simp[-List.getD_eq_getElem?_getD,aa,h,fy,g,i99];omega
     ·simp[-List.getD_eq_getElem?_getD,aa.cat,aa];exact cF.b9 _ f
     ·simp[-List.getD_eq_getElem?_getD,aa.cat,aa,au.same];exact cF.b9 _ f
  ·have n:A (i+1)=J0 f (pn f acc (dD t i)) (dD t i,r7 t i):=s;generalize pn f acc (dD t i)=a1 at *
   by_cases o:dD t i=f.1
   ·have d:A (i+1)=a1:=by rw[n];exact an o
    refine aq [(38,false)] 200 rfl ?_ (AK.gK (i+1) rfl ?_ rfl ?_ ?_ ?_)
    ·simp[-List.getD_eq_getElem?_getD,aa,h,fy,o,aJ];omega
    ·rw[d];simp[aa,aa.cat,au.same]
    ·rw[d];simp[aa,aa.cat,au.same]
    ·omega
    ·omega
   ·have d:A (i+1)=(a1.1++[(dD t i,r7 t i)],a1.2):=by rw[n];exact ak o
    refine aq [(38,true)] 200 rfl ?_ (AK.gK (i+1) rfl ?_ rfl ?_ ?_ ?_)
    ·simp[-List.getD_eq_getElem?_getD,aa,h,fy,o,aJ,i99];omega
    ·rw[d];simp[-List.getD_eq_getElem?_getD,aa.cat,aa,au.same];exact cF.b9 _ (dD t i,r7 t i)
    ·rw[d];simp[-List.getD_eq_getElem?_getD,aa.cat,aa];exact cF.b9 _ (dD t i,r7 t i)
    ·omega
    ·omega
 ·have:i=t.length:=by omega
  subst this;have q:A t.length=jk f t:=by show jk f (t.take t.length)=_;rw[cm]
  have u:=b t.length (ar _);refine aq [(12,false)] 100 rfl (by simp[aa]) (AK.leave rfl rfl ?_)
  have k:qt t f=if (A t.length).2=true then (A t.length).1 else (A t.length).1++[f]:=by rw[q];rfl
  cases a:(A t.length).2 with
  |true =>
   rw[a,an rfl] at k;refine aq [(46,true)] 100 rfl ?_ (AK.norm [.cells 99 [.c (.str f.1),.c (.str f.2)],bV (qt t f)] rfl ?_ (AK.cZ [1] rfl ?_ rfl rfl rfl ?_))
   ·simp[aa]
   ·rw[k];simp[aa,aa.cat,au.same]
   ·rw[k];simp[aa,au.same]
   ·intro j p;simp at p
  |false =>
   rw[a,ak (by simp)] at k
   refine aq [(46,false)] 100 rfl ?_ (AK.norm [.cells 99 [.c (.str f.1),.c (.str f.2)],bV (qt t f)] rfl ?_ (AK.cZ [1] rfl ?_ rfl rfl rfl ?_))
   ·simp[aa,i99];omega
   ·rw[k];simp[-List.getD_eq_getElem?_getD,aa,aa.cat];exact cF.b9 _ f
   ·rw[k];simp[-List.getD_eq_getElem?_getD,aa];exact cF.b9 _ f
   ·intro j p;simp at p
end Go.AM.R1
namespace Go.AM
theorem au.app0{n:Nat}{f g:Nat->List C}:au n (cj 0 f g) g:=λi _=>by simp[cj]
namespace R1
open Go.Proofs
variable {X:Cx Tryz.prog}
def TS:c7:=λargs σ=>match args,σ with
 |[d,.e (.agg [.c (.str b0),.c (.str b1)])],[]=>match iU 2 d with
  |none=>none
  |some (a,b)=>some (dV 0 (qt (cF.list a b) (b0,b1)) ,[ bV (qt (cF.list a b) (b0,b1))],[cF.fits a b,((cF.list a b)).length<=1000000])
 |_,_=>none
theorem t67:dw X 67 TS:=by
 intro args σ res σ' obs h a;unfold TS at h;split at h
 ·split at h
  ·cases h
  rename_i c d b
  cases h;exact(J1 _ _ (a.2)).args (λ_ vs=>bC.imp (λ_=>cF.hY b a.1) (bC.imp (λ_ r=>r) (λ_ r=>r)) vs)
 ·cases h
def Vn:List (Nat×c7):=(67,TS)::Vm
theorem Ea:aY X Vn:=aY.cons t67 (TR)
def dc(t:List aH)(p x:Bs):List aH×Bool :=
 if cr t=true/\cG p=true/\dG x=true then (if cr (qt t (p,x))=true then (qt t (p,x),true) else (t,false)) else ([],false)
abbrev Yk(l:Nat)(t:List aH)(b:Bool):D:=.dH [.one (.vec l 2 t.length (cF.fn t)),.one (.c (.bool b))]
theorem mT{t:List aH}(h:cr t=true):t.length<=6:=by
 simp only[cr,bq,av] at h;exact h.2
theorem rJ(t:List aH)(p x:Bs):Ev X 31 [cF.sl t,dS p,dS x] [] (Yk 0 (dc t p x).1 (dc t p x).2) [bV (dc t p x).1]:=by
 refine Ev.body Tryz.func31 rfl rfl rfl λi=>?_
 have c:¬(cr t=true/\cG p=true/\dG x=true)->dc t p x=([],false):=λh=>ak h
 cases b:cr t with
 |false =>
  rw[c (by simp[b])]
  refine ah Ea [(10,false)] 100 rfl ?_ ?_
  ·simp[aa,cF.list_fn,cF.bu,b]
  ·refine AK.iS 6 99 2 rfl rfl (AK.norm [bV []] rfl ?_ (AK.cZ [0] rfl ?_ rfl rfl rfl ?_))
   ·simp[aa,aa.cat,au]
   ·simp[aa,aa.cat,au]
   ·intro j a;simp at a
 |true =>
  have k:=mT b;cases d:cG p with
  |false =>
   rw[c (by simp[d])]
   refine ah Ea [(10,true),(14,false)] 100 rfl ?_ ?_
   ·simp[aa,cF.list_fn,cF.bu,b,d]
   ·refine AK.iS 6 99 2 rfl rfl (AK.norm [bV []] rfl ?_ (AK.cZ [0] rfl ?_ rfl rfl rfl ?_))
    ·simp[aa,aa.cat,au]
    ·simp[aa,aa.cat,au]
    ·intro j a;simp at a
  |true =>
   cases e:dG x with
   |false =>
    rw[c (by simp[e])]
    refine ah Ea [(10,true),(14,true),(19,false)] 100 rfl ?_ ?_
    ·simp[aa,cF.list_fn,cF.bu,b,d,e]
    ·refine AK.iS 6 99 2 rfl rfl (AK.norm [bV []] rfl ?_ (AK.cZ [0] rfl ?_ rfl rfl rfl ?_))
     ·simp[aa,aa.cat,au]
     ·simp[aa,aa.cat,au]
     ·intro j a;simp at a
   |true =>
    have f:dc t p x=if cr (qt t (p,x))=true then (qt t (p,x),true) else (t,false):=an ⟨b,d,e⟩
    cases g:cr (qt t (p,x)) with
    |true =>
     rw[g,an rfl] at f;rw[f];refine ah Ea [(10,true),(14,true),(19,true),(29,true)] 100 rfl ?_ (AK.norm [bV (qt t (p,x))] rfl ?_ (AK.cZ [0] rfl ?_ rfl rfl rfl ?_))
     ·simp[aa,cF.list_fn,cF.bu,b,d,e,g];omega
     ·simp[aa,aa.cat,cF.list_fn,au.same]
     ·simp[aa,aa.cat,cF.list_fn,au.same]
     ·intro j a;simp at a
    |false =>
     rw[g,ak (by simp)] at f
     rw[f];refine ah Ea [(10,true),(14,true),(19,true),(29,false)] 100 rfl ?_ (AK.norm [bV (qt t (p,x)),bV t] rfl ?_ (AK.cZ [1] rfl ?_ rfl rfl rfl ?_))
     ·simp[aa,cF.list_fn,cF.bu,b,d,e,g,i99];omega
     ·simp[aa,aa.cat,cF.list_fn,au.same,au.app0]
     ·simp[aa,aa.cat,au.app0]
     ·intro j a;simp at a
theorem uD(t:List aH)(p x:Bs):Ev X 31 [cF.sl t,dS p,dS x] [] (KO (dc t p x).1 (dc t p x).2) [] :=
 (rJ t p x).forget rfl (by simp[aa,aa.cat,au.same]) rfl
def TT:c7:=λargs σ=>match args,σ with
 |[f,.e (.one (.c (.str b))),.e (.one (.c (.str c)))],[]=>match iU 2 f with
  |none=>none
  |some (a,d)=>some (KO (dc (cF.list a d) b c).1 (dc (cF.list a d) b c).2,[],[cF.fits a d])
 |_,_=>none
theorem t31:dw X 31 TT:=by
 intro args σ res σ' obs h b;unfold TT at h;split at h
 ·split at h
  ·cases h
  rename_i c d a
  cases h;exact(uD _ _ _ ).args (λ_ vs=>bC.imp (λ_=>cF.hY a b) (bC.imp (λ_ r=>r) (bC.imp (λ_ r=>r) (λ_ r=>r))) vs)
 ·cases h
def PU(t:List aH)(p:Bs):List aH×Bool:=if cr t=true then (jH t p,decide ((jH t p).length<t.length)) else ([],false)
def Vo:List (Nat×c7):=(31,TT)::Vn
theorem TU:aY X Vo:=aY.cons t31 (Ea)
end R1
end Go.AM
namespace Go.AM.R1
def dl(s:Bs)(i:Nat):Int:=(bL s i-97) % 256
def j5(t:Bs)(e:Nat):Bool:=(dl t (e-1)+2*dl t (e-2)+3*dl t (e-3)) % 5==0
def qP(t:Bs)(f:Nat):Nat->Nat
 |0=>min (f+8) t.length
 |k+1=>if t.length<=f+(7-k) then t.length else if j5 t (f+(7-k)) then f+(7-k) else qP t f k
def cutAt(t:Bs)(f:Nat):Nat:=qP t f 5
theorem Cr(t:Bs)(f:Nat)(a:f<t.length):∀ k,k<=5->f<qP t f k/\qP t f k<=t.length/\qP t f k<=f+8
 |0,_=>by simp only[qP];omega
 |k+1,b=>by
  simp only[qP];split
  ·omega
  ·split
   ·omega
   ·exact Cr t f a k (by omega)
theorem nS(t:Bs)(f:Nat)(a:f<t.length):f<cutAt t f/\cutAt t f<=t.length/\cutAt t f<=f+8:=Cr t f a 5 (by omega)
def ln(t:Bs):Nat->Nat->List Nat
 |0,_=>[]
 |k+1,f=>if f<t.length then cutAt t f::ln t k (cutAt t f) else []
def xS(t:Bs):List Nat:=ln t t.length 0
def fg(t:Bs):Nat->Nat->List Bs
 |0,_=>[]
 |k+1,f=>if f<t.length then (t.drop f).take (cutAt t f-f)::fg t k (cutAt t f) else []
def pieces(t:Bs):List Bs:=fg t t.length 0
def ll(l:List Bs):Option Bs:=if dG l.flatten&&(pieces l.flatten==l) then some l.flatten else none
def aR(p:Bs):Bool:=decide (1<=p.length)&&decide (p.length<=8)&&bj p
def codeOf(p:Bs):Int:=p.foldl (λn b=>27*n+((b.toNat:Int)-97) % 256+1) 0
def b5(k:Int):Bool:=decide (1<=k)&&decide (k<=99)
def eB(k:Int)(p:Bs):Int:=(codeOf p*(2*k+1)+k*7919) % 999999999989
def nameOf(k:Int)(p:Bs):Int:=if b5 k&&aR p then eB k p else -1
def bH(n:Nat):Nat:=if n<1∨8<n then 0 else if n<=2 then 2 else if n<=4 then 4 else 8
def gF(p:Bs):Bs:=if aR p then p++List.replicate (bH p.length-p.length) 46 else []
def strip(b:Bs):Bs:=(b.reverse.dropWhile (·==46)).reverse
def ff(b:Bs):Option Bs:=if aR (strip b)&&(gF (strip b)==b) then some (strip b) else none
abbrev bD:=Int×Bs
abbrev a9:=Int×List bD
def right(k:Int)(x:bD):Bool:=match ff x.2 with|some p=>eB k p==x.1|none=>false
def sX(l:List Int):Bool:=(List.range l.length).all λi=>i==0||decide (l.getD (i-1) 0<l.getD i 0)
def jf(k:Int)(p:a9):Bool :=
 decide (1<=p.1)&&decide (p.1<=99)&&b5 k&&decide (1<=p.2.length)&&decide (p.2.length<=4)&&p.2.all (right k)&&sX (p.2.map (·.1))
def chunk(k:Int)(x:bD):Option Bs:=match ff x.2 with|some p=>if b5 k&&(eB k p==x.1) then some p else none|none=>none
def eL(k:Int)(p:a9) (n:Int):Option Bs:=match p.2.find? (λx=>x.1==n) with|some x=>chunk k x|none=>none
def PN(p:a9)(ns:List Int):a9:=(p.1,p.2.filter λx=>ns.contains x.1)
def nk(l:List bD)(x:bD):List bD:=match l with
 |[]=>[x]
 |y::r=>if x.1<y.1 then x::y::r else y::nk r x
def iH(no k:Int)(ps:List Bs):a9:=(no,ps.foldl (λl p=>nk l (eB k p,gF p)) [])
abbrev cq:=Int×Int
def jg(s:cq):Bool:=decide (0<=s.1)&&decide (s.1<999999999989)&&decide (1<=s.2)&&decide (s.2<=99)
def QH(l:List cq):Bool:=l.all jg&&sX (l.map (·.1))
def oF(l:List cq)(s:cq):List cq:=match l with
 |[]=>[s]
 |y::r=>if y.1<s.1 then y::oF r s else s::(y::r).filter (λz=>!(z.1==s.1))
def rC(l:List cq) (n:Int):Int:=match l.find? (λs=>s.1==n) with|some s=>s.2|none=>0
def eb(l:List a9):List cq:=l.flatMap λp=>p.2.map λx=>(x.1,p.1)
def indexOf(l:List a9):List cq:=if (eb l).all jg then (eb l).foldl oF [] else []
abbrev iG:=Bs×List Int
abbrev cB:=Int×List iG
def lp(k:Int)(f:aH):iG:=(f.1,(pieces f.2).map (eB k))
def ga(no k:Int)(t:List aH):cB:=(no,t.map (lp k))
def PO(l:List Int) (n:Int):List Int:=match l with
 |[]=>[n]
 |y::r=>if y<n then y::PO r n else n::(y::r).filter (λz=>!(z==n))
def NL(s:cB):List Int:=(s.2.flatMap (·.2)).foldl PO []
def l0(k:Int)(l:List cq)(out:List Bs)(p:Bs):List Bs:=if rC l (eB k p)==0&&!out.contains p then out++[p] else out
def iI(k:Int)(t:List aH)(l:List cq):List Bs:=(t.flatMap λf=>pieces f.2).foldl (l0 k l) []
def dx(k:Int)(ps:List a9) (n:Int):Option Bs:=ps.findSome? λp=>eL k p n
end Go.AM.R1
namespace Go.AM
def Dc(cs:List C)(j:Nat):Nat×(Nat->List C):=match eW j cs with|some (.sl _ _ n es)=>(n,es)|_=>(0,λ_=>[])
def cI:gN Int:={ k:=1,enc:=λn=>[.int .i64 n],dec:=λcs=>rz cs 0,bl:=0,inv:=λ_=>rfl,len:=λ_=>rfl }
def cS:gN Bs:={ k:=1,enc:=λs=>[.str s],dec:=λcs=>ug cs 0,bl:=[],inv:=λ_=>rfl,len:=λ_=>rfl }
namespace R1
def dO:gN bD:={ k:=2,enc:=λx=>[.int .i64 x.1,.str x.2],dec:=λcs=>(rz cs 0,ug cs 1),bl:=(0,[]),inv:=λ_=>rfl,len:=λ_=>rfl }
def m6:gN cq:={ k:=2,enc:=λx=>[.int .i64 x.1,.int .i64 x.2],dec:=λcs=>(rz cs 0,rz cs 1),bl:=(0,0),inv:=λ_=>rfl,len:=λ_=>rfl }
abbrev sP(p:a9):C:=.sl false 2 p.2.length (dO.fn p.2)
def cP:gN a9:={ k:=2,enc:=λp=>[.int .i64 p.1,sP p],dec:=λcs=>(rz cs 0,dO.list (Dc cs 1).1 (Dc cs 1).2),bl:=(0,[]),inv:=λp=>by show (p.1,dO.list p.2.length (dO.fn p.2))=p;rw[dO.list_fn],len:=λ_=>rfl }
def cL:gN iG:={ k:=2,enc:=λx=>[.str x.1,.sl false 1 x.2.length (cI.fn x.2)],dec:=λcs=>(ug cs 0,cI.list (Dc cs 1).1 (Dc cs 1).2),bl:=([],[]),inv:=λp=>by show (p.1,cI.list p.2.length (cI.fn p.2))=p;rw[cI.list_fn],len:=λ_=>rfl }
def cT:gN cB:={ k:=2,enc:=λx=>[.int .i64 x.1,.sl false 2 x.2.length (cL.fn x.2)],dec:=λcs=>(rz cs 0,cL.list (Dc cs 1).1 (Dc cs 1).2),bl:=(0,[]),inv:=λp=>by show (p.1,cL.list p.2.length (cL.fn p.2))=p;rw[cL.list_fn],len:=λ_=>rfl }
def cH:gN (Int×Int):=m6
abbrev AE(p:a9):D:=.e (.agg [.c (.int .i64 p.1),.c (sP p)])
abbrev Qy(r:Option Bs):D:=.e (.agg [.c (.str (r.getD [])),.c (.bool r.isSome)])
end R1
structure Arg (α:Type) where
 enc:α->D
 arg:D->Option (α×List Prop)
 ok:∀ {d a o},arg d=some (a,o)->aa o->∀ {σ:List aj} {s:St} {v:Value},cd σ s v d->cd σ s v (enc a)
def aI:Arg Int:=⟨dI,λd=>match d with|.e (.one (.c (.int .i64 n)))=>some (n,[])|_=>none,λ{d a o} h _ _ _ _ r=>by
 split at h
 ·cases h;exact r
 ·cases h⟩
def aU:Arg Int:=⟨dU,λd=>match d with|.e (.one (.c (.int .u8 n)))=>some (n,[])|_=>none,λ{d a o} h _ _ _ _ r=>by
 split at h
 ·cases h;exact r
 ·cases h⟩
def aS:Arg Bs:=⟨dS,λd=>match d with|.e (.one (.c (.str n)))=>some (n,[])|_=>none,λ{d a o} h _ _ _ _ r=>by
 split at h
 ·cases h;exact r
 ·cases h⟩
def aB:Arg Bool:=⟨dB,λd=>match d with|.e (.one (.c (.bool n)))=>some (n,[])|_=>none,λ{d a o} h _ _ _ _ r=>by
 split at h
 ·cases h;exact r
 ·cases h⟩
def aL{α:Type}(c:gN α):Arg (List α):=⟨c.sl,λd=>match iU c.k d with|some (n,es)=>some (c.list n es,[c.fits n es])|none=>none,λ{d a o} h b _ _ _ r=>by
 split at h
 ·rename_i n es he
  cases h;exact c.hY he b r
 ·cases h⟩
def aP:Arg aH:=⟨dP,λd=>match d with|.e (.agg [.c (.str a),.c (.str b)])=>some ((a,b),[])|_=>none,λ{d a o} h _ _ _ _ r=>by
 split at h
 ·cases h;exact r
 ·cases h⟩
def O4:Arg (Int×Bs):=⟨λx=>.e (.agg [.c (.int .i64 x.1),.c (.str x.2)]),λd=>match d with|.e (.agg [.c (.int .i64 a),.c (.str b)])=>some ((a,b),[])|_=>none,λ{d a o} h _ _ _ _ r=>by
 split at h
 ·cases h;exact r
 ·cases h⟩
def U0:Arg (Int×Int):=⟨λx=>.e (.agg [.c (.int .i64 x.1),.c (.int .i64 x.2)]),λd=>match d with|.e (.agg [.c (.int .i64 a),.c (.int .i64 b)])=>some ((a,b),[])|_=>none,λ{d a o} h _ _ _ _ r=>by
 split at h
 ·cases h;exact r
 ·cases h⟩
def H5{α:Type}(c:gN α):Arg (Int×List α):=⟨λx=>.e (.agg [.c (.int .i64 x.1),.c (.sl false c.k x.2.length (c.fn x.2))]),λd=>match d with
 |.e (.agg [.c (.int .i64 a),.c b])=>match iU c.k (.e (.one (.c b))) with|some (n,es)=>some ((a,c.list n es),[c.fits n es])|none=>none
 |_=>none,λ{d a o} h m _ s _ r=>by
 split at h
 ·split at h
  ·rename_i n es he
   cases h;obtain⟨vs,l,g⟩:=r
   match vs,g with
   |[],g=>exact g.elim
   |[_],g=>exact g.2.elim
   |_::_::_::_,g=>exact g.2.2.elim
   |[q,p],g=>exact⟨_,l,g.1,c.hY (σ:=[]) (s:=s) (v:=p) he m g.2.1,ab⟩
  ·cases h
 ·cases h⟩
def nn{α:Type}(A:Arg α)(res:α->D)(pre:α->List Prop):c7:=λargs σ=>match args,σ with
 |[d],[]=>match A.arg d with
  |some (a,o)=>some (res a,[],j6 o (pre a))
  |none=>none
 |_,_=>none
def qO{α i:Type}(A:Arg α)(B:Arg i)(res:α->i->D)(pre:α->i->List Prop):c7:=λargs σ=>match args,σ with
 |[d,e],[]=>match A.arg d with
  |some (a,o)=>match B.arg e with
   |some (b,p)=>some (res a b,[],j6 o (j6 p (pre a b)))
   |none=>none
  |none=>none
 |_,_=>none
def El{α i j:Type}(A:Arg α)(B:Arg i)(C:Arg j)(res:α->i->j->D)(pre:α->i->j->List Prop):c7:=λargs σ=>match args,σ with
 |[d,e,f],[]=>match A.arg d with
  |some (a,o)=>match B.arg e with
   |some (b,p)=>match C.arg f with
    |some (c,q)=>some (res a b c,[],j6 o (j6 p (j6 q (pre a b c))))
    |none=>none
   |none=>none
  |none=>none
 |_,_=>none
section
variable {P:Program}{X:Cx P}{f:FuncId}{α i j:Type}{A:Arg α}{B:Arg i}{C:Arg j}
theorem dw.vP{res:α->D}{pre:α->List Prop}(h:∀ a,aa (pre a)->Ev X f [A.enc a] [] (res a) []):dw X f (nn A res pre):=by
 intro args σ r σ' obs h1 ho;unfold nn at h1;split at h1
 ·split at h1
  ·rename_i d a o b
   cases h1;rw[aa.cat] at ho;exact(h a ho.2).args λs vs=>bC.imp (λ_ r=>A.ok b ho.1 r) (λ_ r=>r) vs
  ·cases h1
 ·cases h1
theorem dw.xz{res:α->i->D}{pre:α->i->List Prop}(h:∀ a b,aa (pre a b)->Ev X f [A.enc a,B.enc b] [] (res a b) []):dw X f (qO A B res pre):=by
 intro args σ r σ' obs h1 ho;unfold qO at h1;split at h1
 ·split at h1
  ·rename_i d e a o g
   split at h1
   ·rename_i b p c
    cases h1;rw[aa.cat,aa.cat] at ho;exact(h a b ho.2.2).args λs vs=>bC.imp (λ_ r=>A.ok g ho.1 r) (bC.imp (λ_ r=>B.ok c ho.2.1 r) (λ_ r=>r)) vs
   ·cases h1
  ·cases h1
 ·cases h1
theorem dw.Mn{res:α->i->j->D}{pre:α->i->j->List Prop}(h:∀ a b c,aa (pre a b c)->Ev X f [A.enc a,B.enc b,C.enc c] [] (res a b c) []):dw X f (El A B C res pre):=by
 intro args σ r σ' obs h1 ho;unfold El at h1;split at h1
 ·split at h1
  ·rename_i d e g a o m
   split at h1
   ·rename_i b p k
    split at h1
    ·rename_i c q l
     cases h1;rw[aa.cat,aa.cat,aa.cat] at ho;exact(h a b c ho.2.2.2).args λs vs=>bC.imp (λ_ r=>A.ok m ho.1 r) (bC.imp (λ_ r=>B.ok k ho.2.1 r) (bC.imp (λ_ r=>C.ok l ho.2.2.1 r) (λ_ r=>r))) vs
    ·cases h1
   ·cases h1
  ·cases h1
 ·cases h1
end
end Go.AM
namespace Go.AM.R1
theorem ic{p:Bs}(h:bj p=true):∀ b∈p,97<=b.toNat/\b.toNat<=122:=by
 intro b a;have:=eR.1 h b a;simpa[dz] using this
theorem ud:∀ (p:Bs) (n m:Int)(k:Nat),(∀ b∈p,97<=b.toNat/\b.toNat<=122)->0<=n->n<m->1<=m ->
  0<=p.foldl (λn b=>27*n+((b.toNat:Int)-97) % 256+1) n/\p.foldl (λn b=>27*n+((b.toNat:Int)-97) % 256+1) n<m*27 ^ p.length
 |[],n,m,_,_,a,d,_=>by simpa using⟨a,d⟩
 |b::p,n,m,k,c,a,d,h=>by
  obtain⟨g,f⟩:=c b (by simp)
  have:=ud p (27*n+((b.toNat:Int)-97) % 256+1) (m*27) k (λx e=>c x (by simp[e])) (by omega) (by omega) (by omega)
  simp only[ir,cM];rw[Int.pow_succ,Int.mul_comm (27 ^ p.length) 27,<-Int.mul_assoc];exact this
theorem KL:∀ {n:Nat},n<=8->(27:Int) ^ n<=282429536481:=by
 intro n a
 match n,a with
 |0,_|1,_|2,_|3,_|4,_|5,_|6,_|7,_|8,_=>decide
theorem qN{p:Bs}(h:aR p=true):0<=codeOf p/\codeOf p<282429536481:=by
 simp only[aR,bq,av] at h;obtain⟨b,a⟩:=ud p 0 1 0 (ic h.2) (by omega) (by omega) (by omega)
 have:=KL h.1.2;rw[Int.one_mul] at a;exact⟨b,Int.lt_of_lt_of_le a this⟩
theorem XY:∀ d:Fin 99,d.val≠0->Nat.gcd 999999999989 d.val=1:=by decide +kernel
theorem M4{a:Nat}{P c d:Int}(g:P=(a:Int))(h:P ∣ c*d)(i:0<c)(k:c<P)(b:Nat.gcd a d.natAbs=1):False:=by
 subst g;have e:a ∣ c.natAbs*d.natAbs:=by
  have:=Int.natAbs_dvd_natAbs.2 h
  rwa [Int.natAbs_mul,Int.natAbs_natCast] at this
 have f:a ∣ c.natAbs:=Nat.Coprime.dvd_of_dvd_mul_right b e;have j:=Nat.le_of_dvd (by omega) f
 omega
theorem JU{a b P:Int}(h:a % P=b % P):P ∣ a-b:=Int.dvd_of_emod_eq_zero (by rw[Int.sub_emod,h,Int.sub_self,Int.zero_emod])
theorem zn{k j:Int}(g:b5 k=true)(i:b5 j=true)(m:k≠j){p:Bs}(f:aR p=true):eB k p≠eB j p:=by
 simp only[b5,bq,av] at g i;obtain⟨n,o⟩:=qN f;intro h;unfold eB at h;have e:=JU h;have l:(codeOf p*(2*k+1)+k*7919)-(codeOf p*(2*j+1)+j*7919)=(2*codeOf p+7919)*(k-j):=by
  generalize codeOf p=c;rw[Int.mul_sub,Int.add_mul,Int.add_mul,Int.mul_add,Int.mul_add,Int.mul_one];have a:c*(2*k)=2*c*k:=by rw[Int.mul_comm 2 c,Int.mul_assoc]
  have b:c*(2*j)=2*c*j:=by rw[Int.mul_comm 2 c,Int.mul_assoc]
  rw[a,b];omega
 rw[l] at e;have d:(k-j).natAbs<99:=by omega
 exact M4 (a:=999999999989) rfl e (by omega) (by omega) (XY ⟨_,d⟩ (by show (k-j).natAbs≠0;omega))
theorem D3{p:Bs}(h:bj p=true)(n:Nat):strip (p++List.replicate n 46)=p:=by
 have e:∀ n,List.dropWhile (·==46) ((List.replicate n (46:UInt8))++p.reverse)=p.reverse:=by
  intro n
  induction n with
  |zero =>
   simp only[List.replicate_zero,sz];cases f:p.reverse with
   |nil=>rfl
   |cons b r =>
    have c:b∈p:=List.mem_reverse.1 (by rw[f];simp)
    have:=ic h b c;have a:(b==46)=false:=by
     simp only[cD];rintro rfl;simp at this
    simp[a]
  |succ n d=>simpa[List.replicate_succ] using d
 unfold strip;rw[List.reverse_append,List.reverse_replicate,e,List.reverse_reverse]
theorem rI{p:Bs}(h:aR p=true):ff (gF p)=some p:=by
 have a:bj p=true:=by simp only[aR,bq] at h;exact h.2
 have e:gF p=p++List.replicate (bH p.length-p.length) 46:=by simp[gF,h]
 have s:strip (gF p)=p:=by rw[e];exact D3 a _
 simp[ff,s,h]
theorem Hg{k j:Int}(c:b5 k=true)(d:b5 j=true)(a:k≠j){p:Bs}(b:aR p=true):right j (eB k p,gF p)=false:=by
 simp only[right,rI b];exact cD.2 (λh=>zn c d a b h.symm)
end Go.AM.R1
