/- Part 6. No condition. -/
import Derived.Test.YtacjdcdlmahinaaGreatDoorA5
import Derived.Maps.RangeRun
set_option linter.all false
set_option maxHeartbeats 8000000
open Go.Proofs
open List renaming length → V, getD_eq_getElem?_getD → aj, range → bl, all_eq_true → bL
open Go renaming Value → ah, TypeId → av, Frame → bd, FuncId → aO, undef → ai, Operand → aG, World → aB, Program → aR, Oper → aJ, Goroutine → au
open Option renaming some → O, none → af
open Bool renaming true → W, false → ae
open Nat renaming beq → aC, ble → bP
open Go.Proofs.Tryz renaming prog → ag
namespace Go.AM
variable {n:Nat}{k:Int}{l b i j:Nat}{E:av}{L:Array Bool}{M:Mem}{N:Nat}{P:aR}{S:au->St->Prop}{c:Code}{g:au}{o:aJ}{s:St}{t:av}{v:ah}{w:aB}{x y:aG}{α:Type}{η:aG->D}{ι:Type}{U:List bq}{J:Fr}{all:List aJ}{lh:Array av}{cap:List C}{cR:List D}{cs:List bd}{ds:List (Nat×Bool)}{es:Nat->List C}{fo:aG}{gs:Array au}{ks:List Nat}{obs:List Prop}{off:Nat}{op:BinOp}{ops:Array aJ}{ps:List Prop}{rest:List aJ}{s':St}{tx:Bool}{ty:av}{val:Nat->Nat->ah}{vs:List ah}{w':aB}{xs:Array aG}{U' Us:List bq}{res:ι->D}{σ1:ι->List bq}
variable {CT:List (Nat×eP)}{K:List It}{Qf:Post}{T:List (Nat×TI)}{ie:TI}
namespace R1
def Ez(n m:Int):∀(l:List Int)(a:List Int)(b:Bool),(b=W->n∈a) ->
  ((m∈(l.foldl (iX n) (a,b)).1∨(m=n/\(l.foldl (iX n) (a,b)).2=ae))↔((m∈a∨(m=n/\b=ae))∨m∈l))
 |[],a,b,_=>by simp
 |y::l,a,b,h=>by
  rw[jw];have bX:∀a' b',iX n (a,b) y=(a',b')->(b'=W->n∈a')/\((m∈a'∨(m=n/\b'=ae))↔((m∈a∨(m=n/\b=ae))∨m=y)):=λa' b' e=>by unfold iX at e;grind
  cases f:iX n (a,b) y with
  |mk a' b' =>
   obtain⟨d,c⟩:=bX a' b' f;rw[Ez n m l a' b' d,c,eQ,or_assoc]
def UO{l:List Int}{n m:Int}:m∈jF l n↔m∈l∨m=n:=by have:=Ez n m l [] ae ay;unfold jF;grind
def oI{m:Int}:∀{l a:List Int},m∈l.foldl jF a↔m∈a∨m∈l
 |[],a=>by simp
 |x::l,a=>by rw[jw,oI,UO,eQ,or_assoc]
def vW{l:List iU}{m:Int}:m∈fh l↔m∈cZ l:=by unfold fh;rw[oI];simp
def EA{m:Int}:∀{l:List dn}{a:List Int},m∈l.foldl (λgf x=>(fh x.2).foldl jF gf) a↔m∈a∨∃x∈l,m∈cZ x.2
 |[],a=>by simp
 |x::l,a=>by rw[jw,EA,oI,vW,or_assoc];simp
def uQ{l:List dn}{m:Int}:m∈ik l↔∃x∈l,m∈cZ x.2:=by unfold ik;rw[EA];simp
def Jj{l:List Int}{m:Int}:∀{j:Nat},j<=V l->(m∈lb l j↔m∈l.take j)
 |0,_=>by simp[lb]
 |j+1,h=>by
  have b:=Jj (l:=l) (m:=m) (j:=j) aq;rw[lb,cW aq 0];split
  .rename_i c;rw[b,eZ];constructor
   .exact .inl
   rintro(a|a)
   .exact a
   simp only[gj]at a;subst a;rw[c.2,aj,bD aq];exact Kf.2 ⟨j-1,by simp;omega,by simp⟩
  grind
def vX{x:dn}{m:Int}:m∈jG x↔m∈cZ x.2:=by unfold jG fA;rw[Jj (bm _),de];exact(Cy _).mem_iff
def PK{l:List dn}{p:Int->Bool}:(ik l).all p=(bl (V l)).all λi=>!(jG (l.getD i (0,[]))).any λn=>!p n:=by
 rw[pO,bL,dG];constructor
 .intro h i hi;rw[iM,List.any_eq_false];intro n a;have:=h n (uQ.2 ⟨_,kS hi,vX.1 a⟩);simp[this]
 intro h n a;obtain⟨x,d,c⟩:=uQ.1 a;obtain⟨i,hi,rfl⟩:=Kf.1 d;have b:=h i hi;rw[aj,bD hi,iY,iM,List.any_eq_false]at b;simpa using b n (vX.2 c)
def uR{l:List α}(h:i<V l)(d:α):l.getD i d=l[i]:=az
def Au{f:α->Int}{d:α}{l:List α}:(∀i,i<V l->Ck f d l i=W)↔l.Pairwise λx y=>f x<f y:=by
 constructor
 .intro h;have key:∀n i j (hi:i<V l) (a:j<V l),j=i+n->0<n->f l[i]<f l[j]:=by
   intro n;induction n with
   |zero=>grind
   |succ n g =>
    intro i j hi a b _;have c:=h j a;rw[qh aq,decide_eq_true_iff,uR aq,uR a]at c;by_cases e:n=0
    .subst e;grind
    grind
  exact oK.2 λi j hi a b=>key (j-i) i j hi a aq aq
 intro h i hi;by_cases e:i=0
 .exact ek
 rw[qh e,decide_eq_true_iff,uR aq,uR hi];exact(oK.1 h) (i-1) i aq hi aq
def xH{l:List α}{p:α->Bool}{d:α}:(∀i,i<V l->p (l.getD i d)=W)↔∀x∈l,p x=W:=by grind[List.mem_iff_getElem]
structure vj(k:Int)(p:bz):Prop where
 no:1<=p.1/\p.1<=99
 key:cN k=W
 len:1<=V p.2/\V p.2<=4
 rt:∀x∈p.2,right k x=W
 Ck:p.2.Pairwise λx y=>x.1<y.1
def si{p:bz}:jg k p=W↔vj k p:=by
 rw[tU];simp only[cu,bu,dG];have e:(∀i,i<V p.2->kW k p i=W)↔(∀x∈p.2,right k x=W)/\p.2.Pairwise λx y=>x.1<y.1:=by
  rw[<-xH (d:=(0,[])),<-Au (f:=λx:bJ=>x.1) (d:=(0,[]))];constructor
  .intro h;exact⟨λi hi=>by have:=h i hi;simp only[kW,cu]at this;exact this.1,λi hi=>by have:=h i hi;simp only[kW,cu]at this;exact this.2⟩
  intro h i hi;simp only[kW,cu];exact⟨h.1 i hi,h.2 i hi⟩
 rw[e];constructor
 .rintro⟨⟨⟨g,b⟩,a⟩,j,c⟩;exact⟨g,b,a,j,c⟩
 rintro⟨g,b,a,j,c⟩;grind
structure ld(k:Int)(s:bA):Prop where
 pk:∀p∈s.1,vj k p
 pa:s.1.Pairwise λp q=>p.1<q.1
 nd:(bT s.1).Nodup
 sn:∀x∈s.2.1,(1<=x.1/\x.1<=20)/\(cn k x s.1).isSome=W
 sa:s.2.1.Pairwise λx y=>x.1<y.1
 key:cN k=W
 log:mx s.2.2=W
 len:V s.1<=20
def kL{s:bA}:fX k s=W↔ld k s:=by
 unfold fX;simp only[cu,bu,dG];have r:(∀i,i<V s.1->pw k s.1 i=W)↔(∀p∈s.1,vj k p)/\s.1.Pairwise λp q=>p.1<q.1:=by
  rw[<-Au (f:=λp:bz=>p.1) (d:=(0,[]))];have:(∀p∈s.1,vj k p)↔∀p∈s.1,jg k p=W:=⟨λh p b=>si.2 (h p b),λh p b=>si.1 (h p b)⟩
  rw[this,<-xH (d:=(0,[]))];constructor
  .intro h;exact⟨λi hi=>by have:=h i hi;simp only[pw,cu]at this;exact this.1,λi hi=>by have:=h i hi;simp only[pw,cu]at this;exact this.2⟩
  intro h i hi;simp only[pw,cu];grind
 have o:(∀i,i<V s.2.1->mm k s i=W)↔(∀x∈s.2.1,(1<=x.1/\x.1<=20)/\(cn k x s.1).isSome=W)/\s.2.1.Pairwise λx y=>x.1<y.1:=by
  rw[<-Au (f:=λp:dn=>p.1) (d:=(0,[]))];have:(∀x∈s.2.1,(1<=x.1/\x.1<=20)/\(cn k x s.1).isSome=W)↔∀x∈s.2.1,(decide (1<=x.1/\x.1<=20)&&(cn k x s.1).isSome)=W:=az;rw[this,<-xH (d:=(0,[]))];constructor
  .intro h;exact⟨λi hi=>by have:=h i hi;simp only[mm,cu]at this⊢;grind,λi hi=>by have:=h i hi;simp only[mm,cu]at this;exact this.1.2⟩
  intro h i hi;have a:=h.1 i hi;simp only[mm,cu]at a⊢;grind
 rw[r,o];constructor
 .rintro⟨⟨⟨⟨⟨⟨a,e⟩,c⟩,m,j⟩,g⟩,n⟩,l⟩;exact⟨a,e,c,m,j,g,n,l⟩
 rintro⟨a,e,c,m,j,g,n,l⟩;grind
structure g6(k:Int)(w:bS):Prop extends ld k w.1 where
 mk':∀x∈w.1.2.1,∀n∈cZ x.2,n∈w.2.1
 lp:∀n∈w.2.2,∃p∈w.1.1,p.1=n
 la:w.2.2.Pairwise λx y=>x<y
def gT{w:bS}:fJ k w=W↔g6 k w:=by
 unfold fJ;simp only[cu,kL,dG];have m:(ik w.1.2.1).all (λn=>w.2.1.contains n)=W↔∀x∈w.1.2.1,∀n∈cZ x.2,n∈w.2.1:=by
  rw[bL];constructor
  .intro h x e n a;simpa using h n (uQ.2 ⟨x,e,a⟩)
  intro h n a;obtain⟨x,e,a⟩:=uQ.1 a;grind
 have l:(∀i,i<V w.2.2->px w.1.1 w.2.2 i=W)↔(∀n∈w.2.2,∃p∈w.1.1,p.1=n)/\w.2.2.Pairwise λx y=>x<y:=by
  rw[<-Au (f:=λn:Int=>n) (d:=0)];have:(∀n∈w.2.2,∃p∈w.1.1,p.1=n)↔∀n∈w.2.2,(w.1.1.any λp=>p.1==n)=W:=ay;rw[this,<-xH (d:=0)];constructor
  .intro h;exact⟨λi hi=>by have:=h i hi;simp only[px,cu]at this;exact this.1,λi hi=>by have:=h i hi;simp only[px,cu]at this;exact this.2⟩
  intro h i hi;simp only[px,cu];grind
 rw[m,l];constructor
 .rintro⟨⟨g,c,b⟩,j⟩;exact⟨j,g,c,b⟩
 rintro⟨j,g,c,b⟩;grind
def j1(no:Int)(ms:List Int)(p:bz):bz:=if p.1=no then ei p ms else p
def fi(no:Int)(ms:List Int)(ps:List bz):List bz:=(ps.map (j1 no ms)).filter λp=>!p.2.isEmpty
def gz(w:bS):bS:=match w.2.2 with
 |[]=>w
 |no::r=>((fi no w.2.1 w.1.1,w.1.2),w.2.1,r)
def PO{l:List bJ}{ms:List Int}{n:Int}(h:n∈ms):(l.filter λx=>ms.contains x.1).find? (λx=>x.1==n)=l.find? (λx=>x.1==n):=az
def GM{no:Int}{ms:List Int}{p:bz}{n:Int}(h:n∈ms):eJ k (j1 no ms p) n=eJ k p n:=by
 unfold j1;split
 .simp only[eJ,ei,PO h]
 simp
def vY{k no:Int}{ms:List Int}{n:Int}(h:n∈ms):∀ps:List bz,dx k (fi no ms ps) n=dx k ps n
 |[]=>rfl
 |p::ps=>by
  have c:=vY (k:=k) (no:=no) h ps;have a:=GM (k:=k) (no:=no) (p:=p) h;unfold fi dx at *;rw[mR,ug];split
  .grind
  rename_i b;have b:(j1 no ms p).2=[]:=az;have:eJ k p n=af:=by rw[<-a];unfold eJ;grind
  grind
def Cz{ps qs:List bz}{ns:List Int}(h:∀n∈ns,dx k ps n=dx k qs n):eD k ps ns=eD k qs ns:=by unfold eD;grind[List.map_congr_left]
def tX{ps qs:List bz}{x:dn}(h:∀n∈cZ x.2,dx k ps n=dx k qs n):cn k x ps=cn k x qs:=by
 have c:∀y∈x.2,fN k ps y=fN k qs y:=λy b=>by unfold fN;rw[Cz λn a=>h n (rP.2 ⟨y,b,a⟩)]
 unfold cn ef;grind[List.map_congr_left]
theorem uS{no:Int}{ms:List Int}{p:bz}:(j1 no ms p).1=p.1:=by unfold j1 ei;split<;>rfl
theorem vZ{no:Int}{ms:List Int}{p:bz}:List.Sublist (j1 no ms p).2 p.2:=by unfold j1 ei;split<;>simp
def CB{no:Int}{ms:List Int}{ps:List bz}{q:bz}(h:q∈fi no ms ps):∃p∈ps,q=j1 no ms p/\q.2≠[]:=by unfold fi at h;grind
def CC{no:Int}{ms:List Int}:∀ps:List bz,List.Sublist (bT (fi no ms ps)) (bT ps)
 |[]=>.refl _
 |p::ps=>by
  have a:=CC (no:=no) (ms:=ms) ps;unfold fi bT at *;rw[mR,ug,uf];split
  .rw[uf];exact(vZ.map _).append a
  grind
def g6.step{w:bS}(h:g6 k w):g6 k (gz w):=by
 unfold gz;split
 .exact h
 rename_i no r hl;have d:=h.lp;have b:=h.la;rw[hl]at d b;have m:∀x∈w.1.2.1,cn k x (fi no w.2.1 w.1.1)=cn k x w.1.1:=λx c=>tX λn i=>vY (h.mk' x c n i) _;refine⟨⟨λq j=>?_,?_,h.nd.sublist (CC _),λx c=>?_,h.sa,h.key,h.log,?_⟩,h.mk',λn i=>?_,(ju.1 b).2⟩
 .obtain⟨p,f,rfl,e⟩:=CB j;have a:=h.pk p f;have g:=vZ (no:=no) (ms:=w.2.1) (p:=p);refine⟨by rw[uS];exact a.no,a.key,⟨E6.2 e,hZ g.length_le a.len.2⟩,λx c=>a.rt x (g.subset c),a.Ck.sublist g⟩
 .show (fi no w.2.1 w.1.1).Pairwise _;unfold fi;refine List.Pairwise.filter _ (wE.2 (h.pa.imp λl=>?_));grind[uS]
 .have:=h.sn x c;grind
 .show (V (fi no w.2.1 w.1.1))<=20;have:V (fi no w.2.1 w.1.1)<=V w.1.1:=by unfold fi;grind
  exact hZ this h.len
 obtain⟨p,f,rfl⟩:=d n (lY _ i);have e:p.1≠no:=by grind[List.pairwise_cons]
 refine⟨p,?_,Z⟩;show p∈fi no w.2.1 w.1.1;unfold fi;refine iz.2 ⟨ja.2 ⟨p,f,by unfold j1;grind⟩,?_⟩;have:=(h.pk p f).len.1;grind
structure Pk7(x:bz):Prop where
 ex:∃no ps,1<=no/\no<=99/\0<V ps/\V ps<=4/\(∀q∈ps,bH q=W)/\x=gF no 7 ps
structure Sn7(x:dn):Prop where
 ex:∃no t,1<=no/\no<=20/\cT t=W/\x=di no 7 t
structure D7(st:bA):Prop where
 p:∀x∈st.1,Pk7 x
 pl:V st.1<=20
 s:∀x∈st.2.1,Sn7 x
 Ck:st.2.1.Pairwise λa b=>a.1<b.1
 h:∀x∈st.2.2,(1<=x.1/\x.1<=2)/\1<=x.2/\x.2<=20
 hl:V st.2.2<=9
 ac0:st.1.Pairwise λa b=>a.1<b.1
def fI{t:List bF}(h:cT t=W):BY t:=by
 obtain⟨k,_,_,n⟩:=lT.1 h;have i:∀f∈t,cV f.2=W/\V f.2<=40:=λf d=>by have:=(k f d).2;simp only[fG,cu,bu]at this;grind
 refine⟨by omega,λf d=>⟨(i f d).1,by grind⟩,?_⟩;have:∀l:List bF,(∀f∈l,V f.2<=40)->V (jY l)<=40*V l:=by
  intro l;induction l with
  |nil=>exact ek
  |cons f r m =>
   intro e;have a:=m λg j=>e g (lY _ j);have b:=e f iL;have c:=lO f.2;simp only[jY,uf,cj,eU]at a⊢;omega
 grind
theorem Jh(no k:Int)(ps:List Bs):(gF no k ps).2.length=V ps:=Gx k ps
def Pk7.len{x:bz}(h:Pk7 x):1<=V x.2/\V x.2<=4:=by obtain⟨no,ps,_,_,a,b,_,rfl⟩:=h.ex;grind[Jh]
def Pk7.no{x:bz}(h:Pk7 x):1<=x.1/\x.1<=99:=by obtain⟨no,ps,h1,h2,_,_,_,rfl⟩:=h.ex;exact ek
def Sn7.no{x:dn}(h:Sn7 x):1<=x.1/\x.1<=20:=by obtain⟨no,t,h1,h2,_,rfl⟩:=h.ex;exact ek
def Sn7.len{x:dn}(h:Sn7 x):V x.2<=6/\∀y∈x.2,V y.2<=4000000:=by obtain⟨no,t,_,_,a,rfl⟩:=h.ex;have d:=pr a;refine⟨by simpa[di]using d,λy b=>?_⟩;simp only[di,ja]at b;obtain⟨f,c,rfl⟩:=b;have:=((fI a).yq f c).2;have:=lO f.2;simp only[nO,kg];omega
def uN{l:List dn}:∀(a:Int),l.Pairwise (λa b=>a.1<b.1)->(∀x∈l,a<=x.1/\x.1<=20)->(V l:Int)<=max 0 (21-a):=by
 induction l with
 |nil=>grind
 |cons x r g =>
  intro a e c;obtain⟨h,f⟩:=ju.1 e;have i:=c x iL;have:=g (x.1+1) f λy d=>⟨by grind,(c y (lY _ d)).2⟩
  grind
def D7.sl{s:bA}(h:D7 s):V s.2.1<=20:=by have:=uN 1 h.Ck λx a=>(h.s x a).no;omega
def D7.size{s:bA}(h:D7 s):iw s:=by have h1:=h.pl;have h2:=h.sl;have c:=h.hl;refine⟨by omega,λp b=>by have:=(h.p p b).len;omega,by omega,λx a=>?_,by omega⟩;have:=(h.s x a).len;grind
def D7.num{s:bA}(h:D7 s):yv s :=
 ⟨λx a=>by have:=(h.p x a).no;omega,λx a=>by have:=(h.s x a).no;omega,λx a=>by have:=(h.h x a).2;omega⟩
def D7.dC{s:bA}(h:D7 s):V (dC s.1)<=100000:=by
 have:∀l:List bz,(∀x∈l,V x.2<=4)->V (R1.dC l)<=4*V l:=by
  intro l;induction l with
  |nil=>exact ek
  |cons f r d =>
   intro hl;have a:=d λg e=>hl g (lY _ e);have b:=hl f iL;simp only[R1.dC,uf,cj,kg,eU]at a⊢;omega
 have:=this s.1 λx c=>(h.p x c).len.2;have:=h.pl;omega
def D7.nil:D7 ([],[],[]):=⟨by simp,by simp,by simp,by simp,by simp,by simp,by simp⟩
def yG(k:Int):∀(f:Nat) (no:Int)(ps:List Bs),(∀q∈ps,bH q=W)->∀x∈ga k f no ps,∃a qs,no<=a/\a<no+V (ga k f no ps)/\0<V qs/\V qs<=4/\(∀q∈qs,bH q=W)/\x=gF a k qs
 |0,_,_,_,x,b=>by exact ek
 |f+1,no,ps,d,x,b=>by
  simp only[ga]at b⊢;split at b
  .rename_i h;rw[bh h];rcases eQ.1 b with rfl|b
   .grind
   obtain⟨a,qs,i,g,e⟩:=yG k f (no+1) (ps.drop 4) (λq c=>d q (tc c)) x b;grind
  grind
def uO{l:List α}(h:V l≠0)(d:α):l.getD (V l-1) d∈l:=gv aq d
def D7.dc{s:bA}(h:D7 s):1<=dc s:=by
 unfold R1.dc;split
 .omega
 rename_i a;have:=(h.p _ (uO a (0,[]))).no;omega
def uP(k:Int):∀(f:Nat) (no:Int)(ps:List Bs),∀x∈ga k f no ps,no<=x.1
 |0,_,_,x,a=>by exact ek
 |f+1,no,ps,x,a=>by
  simp only[ga]at a;split at a
  .rcases eQ.1 a with rfl|a
   .exact wI _
   have:=uP k f (no+1) (ps.drop 4) x a;omega
  grind
def vU(k:Int):∀(f:Nat) (no:Int)(ps:List Bs),(ga k f no ps).Pairwise λa b=>a.1<b.1
 |0,_,_=>by simp[ga]
 |f+1,no,ps=>by
  simp only[ga];split
  .refine ju.2 ⟨λx c=>?_,vU k f (no+1) (ps.drop 4)⟩;have:=uP k f (no+1) (ps.drop 4) x c;exact ek
  simp
def D7.Cv{s:bA}(h:D7 s):∀x∈s.1,x.1<R1.dc s:=by
 unfold R1.dc;split
 .grind
 rename_i e;intro x c;obtain⟨i,hi,rfl⟩:=gM c;have a:s.1.getD (V s.1-1) (0,[])=s.1[V s.1-1]:=az;rw[a];rcases dy i (V s.1-1)with b|d
 .have:=oK.1 h.ac0 i (V s.1-1) hi aq b;omega
 grind
def D7.xE{s:bA}(h:D7 s):1<=cq s/\∀x∈s.2.1,x.1<cq s:=by
 have hb:=pq s.2.2 h.num.h;unfold cq;split
 .grind
 rename_i e;refine⟨by omega,λx c=>?_⟩;obtain⟨i,hi,rfl⟩:=gM c;have a:s.2.1.getD (V s.2.1-1) (0,[])=s.2.1[V s.2.1-1]:=az;rw[a];rcases dy i (V s.2.1-1)with b|d
 .have:=oK.1 h.Ck i (V s.2.1-1) hi aq b;omega
 grind
def D7.sZ{s:bA}{t:List bF}{by_:Int}(h:D7 s)(i:cT t=W)(hb:1<=by_/\by_<=2)(j:fx 7 s t=ae):D7 (dZ 7 s by_ t):=by
 simp only[fx,wC,dm]at j;obtain⟨q,o,n,r⟩:=j;have m:=h.dc;obtain⟨f,e⟩:=h.xE;refine⟨λx c=>?_,by simp only[dZ,cj];omega,λx c=>?_,?_,λx c=>?_,by simp only[dZ,cj,eY];omega,?_⟩
 .simp only[dZ]at c;rcases eZ.1 c with c|c
  .exact h.p x c
  obtain⟨d,qs,a1,a2,a3,a4,a5,a6⟩:=yG 7 _ _ _ (jX (k:=7) (l:=dh s.1) (fI i)).1 x c;have a2:d<R1.dc s+V (nN 7 s t):=a2;exact⟨d,qs,by omega,by omega,a3,a4,a5,a6⟩
 .simp only[dZ]at c;rcases eZ.1 c with c|c
  .exact h.s x c
  rw[gj]at c;exact⟨cq s,t,f,by omega,i,c⟩
 .simp only[dZ];rw[mz];refine⟨h.Ck,by simp,λa g b hb=>?_⟩;rw[gj]at hb;subst hb;exact e a g
 .simp only[dZ]at c;rcases eZ.1 c with c|c
  .exact h.h x c
  grind
 simp only[dZ];rw[mz];refine⟨h.ac0,vU _ _ _ _,λa g b hb=>?_⟩;have h1:=h.Cv a g;have h2:=uP _ _ _ _ b hb;omega
def wc{ps:List bz}{n:Int}{p:Bs}(h:dx k ps n=O p):bH p=W/\fb k p=n/\n∈bT ps:=by
 unfold dx at h;obtain⟨pk,c,a⟩:=List.exists_of_findSome?_eq_some h;unfold eJ at a;split at a
 .rename_i x b;have d:x.1=n:=by simpa using List.find?_some b
  have e:=wv b;unfold mh gu at a;refine⟨by grind,by grind,rP.2 ⟨pk,c,ja.2 ⟨x,e,d⟩⟩⟩
 cases a
def CV{ps:List bz}{n:Int}(hk:cN k=W)(g:∀p∈ps,vj k p)(h:n∈bT ps):∃p,dx k ps n=O p:=by
 obtain⟨pk,c,d⟩:=rP.1 h;obtain⟨x,f,i⟩:=ja.1 d;cases e:dx k ps n with
 |some p=>simp
 |none =>
  have b:eJ k pk n=af:=List.findSome?_eq_none_iff.1 e pk c;unfold eJ at b;split at b
  .rename_i y a;have l:y.1=n:=Rs;have j:=(g pk c).rt y (wv a);unfold right at j;unfold mh at b;grind
  rename_i a;have:=uc.1 a x f;grind
def P5{ps qs:List bz}(hk:cN k=W)(e:∀p∈ps,vj k p)(f:∀n∈bT qs,n∈bT ps){n:Int}{p:Bs}(h:dx k qs n=O p):dx k ps n=O p:=by obtain⟨c,i,g⟩:=wc h;obtain⟨q,a⟩:=CV hk e (f n g);obtain⟨b,d,_⟩:=wc a;rw[a,uM hk c b (i.trans d.symm)]
def Mx{ps qs:List bz}(d:∀(n:Int)(p:Bs),dx k qs n=O p->dx k ps n=O p){x:iU}{f:bF}(h:fN k qs x=O f):fN k ps x=O f:=by
 have key:∀l,eD k qs x.2=O l->eD k ps x.2=O l:=by
  intro l a;unfold eD at *;split at a
  .rename_i b;cases a;have e:∀n∈x.2,dx k ps n=dx k qs n:=λn c=>by have:=bL.1 b n c;obtain⟨p,g⟩:=EV.1 this;simp_all
   simp_all
  cases a
 unfold fN at *;split at h
 .cases h
 simp_all
def G7{ps qs:List bz}(d:∀(n:Int)(p:Bs),dx k qs n=O p->dx k ps n=O p){x:dn}{t:List bF}(h:cn k x qs=O t):cn k x ps=O t:=by
 unfold cn at *;split at h
 .rename_i c;cases h;simp only[cu]at c;have e:∀y∈x.2,fN k ps y=fN k qs y:=λy b=>by obtain⟨f,a⟩:=EV.1 (bL.1 c.1.2 y b);rw[a,Mx d a]
  have g:ef k ps x.2=ef k qs x.2:=xS λy b=>by simp_all
  simp_all
 cases h
theorem Up{l:List bJ}{x y:bJ}(h:y∈k9 l x):y=x∨y∈l:=by
 induction l with
 |nil=>simp[k9]at h;grind
 |cons z r a =>
  simp only[k9]at h;grind
def Yb{ps:List Bs}{y:bJ}(h:y∈Dl k ps):∃p∈ps,y=(fb k p,iv p):=by
 have key:∀(ps:List Bs) (ir:List bJ),y∈ps.foldl (λl p=>k9 l (fb k p,iv p)) ir->y∈ir∨∃p∈ps,y=(fb k p,iv p):=by
  intro ps;induction ps with
  |nil=>grind
  |cons p r a =>
   grind[Up]
 rcases key ps [] h with h|h
 .cases h
 grind
section
variable {X:Cx ag}[X.ln]
abbrev aat:List bF:=[([97],[104,101,108,108,111])]
def Ug:cT aat=W:=uY
abbrev sG(k:Nat):={q:List bF×Nat // cT q.1=W/\k<=q.2/\q.2<=k+400}
def NM(m:Nat)(b:Nat->Int)(d:Bytes b)(k:Nat)(hk:k<=50000)(h:m<=1048576):
  e9 (ι:=sG k) X 63 [cE 0 0] [pD m b k] (λq=>cF.sl q.1.1) (λq=>[pD m b q.1.2]):=by
 refine e9.sH Tryz.func63 rfl rfl rfl λg=>?_;refine bt Z an (I.cP (NN m b d k hk h) [0] Z fe ?_);rintro⟨t,bf,xs,k1,fl,j,c,a⟩;refine ba [(1000002,W)] Z an (I.AQ 3 1 (cF.fn t) Z Z fl.rd ?_);refine bt Z an (I.cQ (Ej t) [] Z ?_);cases f:cT t with
 |true =>
  refine bt Z an (I.pG ⟨(t,k1),f,c,a⟩ (I.dt [0] Z ?_ Z Z Z kK));simp
 |false =>
  refine bt Z an (I.pG ⟨(aat,k1),Ug,c,a⟩ (I.dt [0] Z ?_ Z Z Z kK));refine⟨Z,λi hi=>?_⟩;have:i=0:=az;exact ek
end
section
variable {X:Cx ag}
theorem zo{l:List cX}(h:wa l (V l)=W):(∀x∈l,fS x=W)/\l.Pairwise λx y=>x.1<y.1:=by
 have a:=dG.1 h;have b:∀j,j<V l->∀i,i<j->(l.getD i (0,0)).1<(l.getD j (0,0)).1:=by
  intro j;induction j with
  |zero=>grind
  |succ j c =>
   grind
 grind[List.getElem_of_mem,List.pairwise_iff_getElem]
def GY(l:List cX):∀a:List cX,(a++l).Pairwise (λx y=>x.1<y.1)->l.foldl iF a=a++l:=by
 induction l with
 |nil=>grind
 |cons x r b =>
  grind[UN]
def P1{l:List cX}(h:wa l (V l)=W)(n:Int):(sr l).find n=ml l n:=by obtain⟨c,b⟩:=EH l .nil ek;have a:=GY l [] (by grind[zo]);rw[sr,yH b,c];exact et (ml · n) a
def CJ{t:List bF}(h:cT t=W):∀f∈t,fG f.2=W:=λf a=>((lT.1 h).1 f a).2
abbrev dV2(a:List Bs):D:=.e (.bX (.dk 2 1 (V a) (cS.fn a)))
def JD(o m:av×ah)(k:Int)(t:List bF)(l:List cX)(hk:cN k=W)(u:cT t=W)(B:wa l (V l)=W)(C:V l<=4000000):
  Ev X 90 [dI k,cF.sl t,cH.sl l] (GB o m) (cS.sl (eK k t l)) (GB o m):=by
 refine Ev.bQ Tryz.func90 rfl λS=>?_;have L:b5 X [(55,lW aI (λk=>dB (cN k)) λ_=>[]),(33,c33),(141,lW (aL cH) (λl=>dB (wa l (V l))) λ_=>[])]:=.cons t55 (.cons t33 (.cons (.rl λl _=>JE l) .nil));refine bj L [(15,ae),(20,ae),(25,ae)] Z ?_ ?_
 .simp only[aA,hk,cF.aw,cH.aw,jD,u,B];exact⟨Z,cH.aE _,Z,cF.aE _,Z⟩
 have A:=zo B;have H:∀x∈l,cd .i64 x.1/\cd .i64 x.2:=λx r=>by have:=A.1 x r;simp only[fS,cu,bu]at this;simp only[cd];omega
 have hT:=P1 B;have v:=EI (X:=X) l C H;have AK:∀n,Ev X 144 [b7 (tC (sr l)),dI n] [] (dI (ml l n)) []:=λn=>hT n▸YM (sr l) n
 clear hT;generalize sr l=T at *;have c1:b5 X [(142,mi [lsD l] (b7 (tC T)))]:=.cons (mL v) .nil;cases T<;>(
  refine cY c1 Z Z (I.jK 8 9 1 Z Z ?_);refine I.xd 3 [0,7,29,30] (λi=>i<=V t) (λi:Nat=>[(8,dV2 ((jY (t.take i)).foldl (kl k l) [])),(31,dI i)]) (λi=>GB o m++[.dk 9 1 (V ((jY (t.take i)).foldl (kl k l) [])) (cS.fn ((jY (t.take i)).foldl (kl k l) []))]) (λi=>V t-i) 0 Z ?_ Z ?_ Z aq ?_
  .simp[jY]
  .simp[jY]
  intro i hi;by_cases h:i<V t
  .have aa:t.getD (i:Int).toNat cF.cy=t.getD i ([],[]):=az;have b:t.getD i ([],[])∈t:=az;have P:=CJ u _ b;have d:=Ep h;have E:=NR t (i+1);have D:=fI u;have M:=(D.yq _ b).1;have K:=D.all;have N:=D.len;have w:=ru M;generalize t.getD i ([],[])=f at *;rw[d,cj]at E;have G:jW f.2=bR f.2:=by unfold jW;grind
   have c2:b5 X [(143,lW aS (λs=>cS.sl (jW s)) λ_=>[])]:=.cons Gh .nil;refine bj c2 [(32,W)] Z c9 ?_;rw[aa,G];refine I.xd 4 [0,7,29,30,31,37,38] (λj=>j<=V (bR f.2)) (λj:Nat=>[(8,dV2 ((jY (t.take i)++(bR f.2).take j).foldl (kl k l) [])),(39,dI j)]) (λj=>GB o m++[.dk 9 1 (V ((jY (t.take i)++(bR f.2).take j).foldl (kl k l) [])) (cS.fn ((jY (t.take i)++(bR f.2).take j).foldl (kl k l) [])),.cells 98 [.c (.du f.1),.c (.du f.2)]]) (λj=>V (bR f.2)-j) 0 Z ay Z ay Z aq ?_;intro j R;have z:=yr k l (jY (t.take i)++(bR f.2).take j) [];simp only[gk,cj,List.length_take]at z;by_cases Q:j<V (bR f.2)
   .have y:(bR f.2).getD (j:Int).toNat cS.cy=(bR f.2).getD j []:=az;have F:bH ((bR f.2).getD j [])=W:=w _ az;have a:(jY (t.take i)++(bR f.2).take (j+1)).foldl (kl k l) []=kl k l ((jY (t.take i)++(bR f.2).take j).foldl (kl k l) []) ((bR f.2).getD j []):=vn;generalize(jY (t.take i)++(bR f.2).take j).foldl (kl k l) []=gf at *;generalize(bR f.2).getD j []=p at *;have r:=cS.cw gf p;refine bM [(40,W)] Z c9 ?_;rw[y];refine I.cQ (yM o m k p hk F) [0,1] Z (I.cQ (AK _) [] Z ?_);have c3:b5 X [(146,N6)]:=.cons YN .nil;by_cases q:ml l (fb k p)=0
    .cases J:gf.contains p with
     |true =>
      rw[kl,bc az]at a;refine bj c3 [(49,W),(54,ae)] Z ?_ (I.aQ (j+1) Z ?_ ?_ ?_ ?_)
      .simp only[aA,q,J,cd,cS.aw,kh,bu,aX,aW];and_intros<;>first|exact cS.aE _|rfl|omega
      .rw[a];simp
      .rw[a];simp
      .grind
      omega
     |false =>
      rw[kl,bh az]at a;refine bj c3 [(49,W),(54,W)] Z ?_ (I.aQ (j+1) Z ?_ ?_ ?_ ?_)
      .simp only[aA,q,J,cd,show i9.bytes=16 from Z,cS.aw,kh,bu,aX,aW];and_intros<;>first|exact cS.aE _|rfl|omega
      .rw[a];simp only[aA.eu,aA,cj,eU,gk,aX,aW];and_intros<;>first|exactλ_ _=>rfl|exact r|rfl|omega
      .rw[a];simp only[aA.eu,aA,cj,eU,gk,aX,aW];and_intros<;>first|exactλ_ _=>rfl|exact r|rfl|omega
      .grind
      omega
    rw[kl,bc az]at a;refine bj c3 [(49,ae)] Z ek (I.aQ (j+1) Z ?_ ?_ ?_ ?_)
    .rw[a];simp
    .rw[a];simp
    .grind
    omega
   have g:j=V (bR f.2):=aq;refine bM [(40,ae)] Z c9 (I.br Z Z ?_);refine dj Z ek (I.aQ (i+1) Z ?_ ?_ ?_ ?_)
   .rw[d,g,de];simp
   .rw[d,g,de];simp
   .grind
   omega
  .obtain rfl:i=V t:=aq;rw[de];refine bM [(32,ae)] Z ay (I.br Z Z ?_)
   refine dj Z an (I.dt [0,1] Z ?_ Z Z Z GZ);simp[eK,jY])
abbrev ak4(q:bz×Bool):D:=.gI [.agg [.c (.int .i64 q.1.1),.c (.sl ae 2 (V q.1.2) (fO.fn q.1.2))],.bX (.c (.bool q.2))]
def mr(k:Int)(p:Bs):bJ:=(fb k p,iv p)
def EJ(no k:Int)(ps:List Bs):bz:=(no,rq (ps.map (mr k)))
def rI(no k:Int)(ps:List Bs):bz×Bool:=if jg k (EJ no k ps)=W then(EJ no k ps,W)else((0,[]),ae)
theorem uU:∀(l a:List bJ),V (l.foldl kD a)=V a+V l
 |[],a=>by simp
 |x::l,a=>by rw[jw,uU l,Eh,eU];omega
def Vy:∀(f:Nat){l:List bJ}{j:Nat},mq l->j<V l->mq (E7 f l j)
 |0,_,_,h,_=>h
 |f+1,l,j,h,a=>by
  rw[E7];split
  .exact h
  split
  .exact Vy f (yN h aq a) wJ
  grind
theorem Vz{l:List bJ}{x:bJ}(a:mq l)(c:cd .i64 x.1/\V x.2<=9223372036854775807):mq (kD l x):=by
 refine Vy _ (λy b=>?_) ay;rcases eZ.1 b with h|h
 .exact a y h
 grind
def YP{l:List bJ}(a:mq l)(b:0<V l):mq (n6 l) :=
 CO _ _ (yN a b aq) wJ wJ
theorem N9{p:Bs}(a:bH p=W):cd .i64 (mr k p).1/\(mr k p).2.length<=9223372036854775807:=by
 have h:=a;simp only[bH,cu,bu]at h;have c:=ui (gq p*(2*k+1)+k*7919) (show(999999999989:Int)≠0 by decide);have b:=ud (gq p*(2*k+1)+k*7919) (show(0:Int)<999999999989 by decide);refine⟨?_,?_⟩
 .show cd .i64 (fb k p);simp only[cd,fb];omega
 show V (iv p)<=_;unfold iv dW;grind
def Oa(k:Int)(ps:List Bs)(b:∀p∈ps,bH p=W):mq ((ps.map (mr k)).foldl kD []):=by
 have:∀(l:List Bs) (a:List bJ),(∀p∈l,bH p=W)->mq a->mq ((l.map (mr k)).foldl kD a):=by
  intro l;induction l with
  |nil=>grind
  |cons p r c=>grind[Vz,N9]
 exact this ps [] b (by simp[mq])
abbrev agv(a b:av×ah)(g:Nat)(bf:tn)(l:List bJ):List bq:=GB a b++[.cells 83 [.c (.int .i64 0),.c (.sl W 0 0 λ_=>[])],cB g bf (V l),hB bf (V l) l]
abbrev VA(no:Int)(gf:List bJ):List bq:=[.cells 83 [.c (.int .i64 no),.dk 6 2 (V gf) (fO.fn gf)],.dk 161 2 (V gf) (fO.fn gf)]
def zq(o m:av×ah)(no k:Int)(ps:List Bs)(J:cd .i64 no)(hk:cN k=W)(f:∀p∈ps,bH p=W)(U:V ps<=4):
  Ev X 92 [dI no,dI k,cS.sl ps] (GB o m) (ak4 (rI no k ps)) (GB o m):=by
 refine Ev.lA bO Tryz.func92 rfl rfl rfl λT=>?_;refine bM [(1000002,W)] Z an (I.S9 8 3 161 2 Z Z λg Q=>?_);refine dj Z an (I.xd 5 [0,1,6,8,14,15] (λq:Nat×tn=>q.1<=V ps) (λq=>[(16,dI q.1)]) (λq=>agv o m g q.2 (((ps.take q.1).map (mr k)).foldl kD [])) (λq=>V ps-q.1) (0,.nil Q) Z ay Z ?_ Z aq ?_)
 .simp[xR]
 rintro⟨i,bf⟩ hi;simp only at hi;by_cases h:i<V ps
 .have M:ps.getD (i:Int).toNat cS.cy=ps.getD i []:=az;have t:bH (ps.getD i [])=W:=f _ az;have R:((ps.take (i+1)).map (mr k)).foldl kD []=kD (((ps.take i).map (mr k)).foldl kD []) (mr k (ps.getD i [])):=vn;have L:V (((ps.take i).map (mr k)).foldl kD [])=i:=by grind[uU]
  have j:=Oa k (ps.take i) λp E=>f p (hO E);generalize ps.getD i []=p at *;generalize((ps.take i).map (mr k)).foldl kD []=l at *;refine bj (.cons XD .nil:b5 X [(150,rj)]) [(17,W)] Z c9 ?_;rw[M];refine I.cQ (yM o m k p hk t) [0,1] Z (cY (.cons XD .nil:b5 X [(150,rj)]) Z an (I.cP (JF g bf j aq (x:=mr k p) (N9 t)) [3,4] Z fe λB=>?_));have u:=Eh l (mr k p);refine dj Z ek (I.aQ (i+1,B) Z ay fC az ?_);grind
 obtain rfl:i=V ps:=aq;rw[de];refine bM [(17,ae)] Z ay (I.br Z Z ?_);have aa:V ((ps.map (mr k)).foldl kD [])<=4:=by grind[uU]
 have j:=Oa k ps f;have z:rq (ps.map (mr k))=[]++po (V ((ps.map (mr k)).foldl kD [])) ((ps.map (mr k)).foldl kD []):=by rw[rq,uU,pM,gk,b8]
 refine dj Z an (I.iQ 5 1 161 2 (fO.fn []) Z Z ?_);refine I.xd 7 [1,6,8,11] (λq:List bJ×tn×List bJ=>mq q.1/\V q.1+V q.2.2<=4/\rq (ps.map (mr k))=q.2.2++po (V q.1) q.1) (λq=>[]) (λq=>agv o m g q.2.1 q.1++VA no q.2.2) (λq=>V q.1) ((ps.map (mr k)).foldl kD [],bf,[]) Z ay Z ay Z ⟨j,by grind,z⟩ ?_;rintro⟨h,bf,gf⟩ ⟨A,AK,w⟩;simp only at A AK w;refine dj Z an (I.gH (bU.H9 Z Z) Z Z ?_);refine I.bX (OA.D6 bO 3 Z Z Z Z Z (qO bf _) Z) Z ?_;refine I.cQ (G1 bf (V h) h) [4] Z ?_;by_cases H:V h=0
 .rw[H,po,iZ]at w;subst w;refine bM [(37,ae)] Z fC (I.br Z Z ?_);have F:b5 X [(110,Gk)]:=.cons NF .nil;have P:V (rq (ps.map (mr k)))<=4:=aq;cases s:jg k (EJ no k ps)with
  |false =>
   have a:jg k (no,rq (ps.map (mr k)))=ae:=s;have e:rI no k ps=((0,[]),ae):=by unfold rI;grind
   rw[e];refine bj F [(50,W)] Z ?_ ?_
   .simp only[aA,fO.aw,a,hk];and_intros<;>first|exact fO.aE _|rfl|exact True.intro|grind
   refine I.lz () [0,1] Z Z Z Z Z Z Z Z Z ?_ Z Z Z Z GZ;simp
  |true =>
   have a:jg k (no,rq (ps.map (mr k)))=W:=s;have e:rI no k ps=(EJ no k ps,W):=by unfold rI;grind
   rw[e];refine bj F [(50,ae)] Z ?_ ?_
   .simp only[aA,fO.aw,a,hk];and_intros<;>first|exact fO.aE _|rfl|exact True.intro|grind
   refine I.lz () [0,1] Z Z Z Z Z Z Z Z Z ?_ Z Z Z Z GZ;simp[EJ]
 obtain⟨n,v⟩:∃n,V h=n+1:=⟨V h-1,by omega⟩
 refine bM [(37,W),(1000009,W)] Z c9 (I.ahV (Vw (i:=4) (n:=V h) (bf:=bf) (l:=h) Z aq) λS=>?_);obtain⟨b,cap,rfl,d⟩:=S;rw[v]at d;have E:=LW (X:=X) g b cap A v aq d;have K:=YP A aq;have u:V ((n6 h).take n)=n:=by grind[ID]
 have N:rq (ps.map (mr k))=(gf++[(n6 h).getD n (0,[])])++po n ((n6 h).take n):=by rw[w,v,po,bc aq,v];simp
 have G:mq ((n6 h).take n):=λx y=>K x (hO y);show I X _ _ _ _ _ (GB o m++[.cells 83 [.c (.int .i64 0),.c (.sl W 0 0 λ_=>[])],cB g (.row b cap) (V h),hB (.row b cap) (V h) h]++VA no gf);rw[v];generalize(n6 h).getD n (0,[])=x at *;generalize(n6 h).take n=r at *;refine I.ae5 (ι:=Unit) gB 4 7 10 (λk=>bP k 3) (λk=>([cE 5 1,.e (.bX (.dk 6 2 (V gf) (fO.fn gf))),zN (.pointer (O ⟨g,0,af⟩)),dIh g]:List D).getD k .any) (λ_ k=>([.any,.any,.any,.any,dI3 x,dI2 x,b7 (.sl W 2 1 λi=>([[.int .i64 x.1,.du x.2]]:List (List C)).getD i [])]:List D).getD k .any)
  (λ_=>GB o m++[.cells 83 [.c (.int .i64 0),.c (.sl W 0 0 λ_=>[])],cB g (.row b cap) n,hB (.row b cap) n r]++VA no gf)
  rfl rfl rfl rfl rfl rfl rfl (λk h=>by have:=fY h;omega) rfl
  ⟨OA.fU bO b5.nil Z,OA.fU bO b5.nil Z,OA.fU bO b5.nil Z,OA.fU bO b5.nil Z,an,an,an,an,an,an,an⟩
  (λ_=>⟨OA.fU bO b5.nil Z,OA.fU bO b5.nil Z,OA.fU bO b5.nil Z,OA.fU bO b5.nil Z,an,OA.nB (iC Z) (bU.F7 (cs:=[.int .i64 x.1,.du x.2]) bO Z Z Z Z),OA.fU bO b5.nil Z,an⟩)
  (oz.wT E.uW [3,4] Z Z Z Z Z Z Z fe Z fe) λ_=>?_
 have y:=fO.cw gf x;refine dj Z ?_ (I.aQ (r,.row b cap,gf++[x]) Z ?_ ?_ ?_ ?_)
 .simp only[aA,show yx.bytes=24 from Z,aX];omega
 .simp
 .simp only[u,aA.eu,aA,cj,eU,gk,aX,aW];and_intros<;>first|exact eW.same|exact y|rfl
 .grind
 grind
abbrev ak2(s:dn):D:=.gI [.agg [.c (.int .i64 s.1),.c (.sl ae 2 (V s.2) (cL.fn s.2))],.bX (.c (.bool W))]
abbrev agr(a b:av×ah)(no:Int)(ls:List iU):List bq:=GB a b++[.cells 42 [.c (.int .i64 0),.c (.sl W 0 0 λ_=>[])],.cells 42 [.c (.int .i64 no),.dk 4 2 (V ls) (cL.fn ls)],.dk 76 2 (V ls) (cL.fn ls)]
abbrev ags(f:bF)(ns:List Int):List bq:=[.cells 98 [.c (.du f.1),.c (.du f.2)],.cells 76 [.c (.du f.1),.dk 7 1 (V ns) (cI.fn ns)],.dk 3 1 (V ns) (cI.fn ns)]
def LV(g d:av×ah)(no k:Int)(t:List bF)(B:1<=no/\no<=99)(hk:cN k=W)(n:cT t=W):
  Ev X 93 [dI no,dI k,cF.sl t] (GB g d) (ak2 (di no k t)) (GB g d):=by
 refine Ev.lA bO Tryz.func93 rfl rfl rfl λL=>?_;have z:b5 X [(55,lW aI (λk=>dB (cN k)) λ_=>[]),(33,c33)]:=.cons t55 (.cons t33 .nil);refine bj z [(15,ae),(19,ae),(24,ae),(29,ae)] Z ?_ ?_
 .simp only[aA,hk,cF.aw,jD,n,dm];and_intros<;>first|exact cF.aE _|rfl|omega
 refine I.iQ 3 1 76 2 (cL.fn []) Z Z ?_;refine I.xd 5 [1,6,8,33,34] (λi=>i<=V t) (λi:Nat=>[(35,dI i)]) (λi=>agr g d no (qA k (t.take i))) (λi=>V t-i) 0 Z ay Z ay Z aq ?_;intro i hi;by_cases h:i<V t
 .have F:t.getD (i:Int).toNat cF.cy=t.getD i ([],[]):=az;have a:t.getD i ([],[])∈t:=az;have x:=fI n;have A:=x.yq _ a;have AK:=CJ n _ a;have D:=x.len;have o:=ru A.1;have H:=lO (t.getD i ([],[])).2;have l:qA k (t.take (i+1))=qA k (t.take i)++[nO k (t.getD i ([],[]))]:=vn;have E:V (qA k (t.take i))=i:=az;generalize t.getD i ([],[])=f at *;generalize qA k (t.take i)=ls at *;have v:jW f.2=bR f.2:=by unfold jW;grind
  have c2:b5 X [(143,lW aS (λs=>cS.sl (jW s)) λ_=>[])]:=.cons Gh .nil;refine bj c2 [(36,W)] Z c9 ?_;rw[F,v];refine I.iQ 6 1 3 1 (cI.fn []) Z Z ?_;refine I.xd 8 [1,6,8,10,11,33,34,35,44,45] (λj=>j<=V (bR f.2)) (λj:Nat=>[(46,dI j)]) (λj=>agr g d no ls++ags f (oi k ((bR f.2).take j))) (λj=>V (bR f.2)-j) 0 Z ay Z ay Z aq ?_;intro j K;by_cases J:j<V (bR f.2)
  .have q:(bR f.2).getD (j:Int).toNat cS.cy=(bR f.2).getD j []:=az;have u:bH ((bR f.2).getD j [])=W:=o _ az;have b:oi k ((bR f.2).take (j+1))=oi k ((bR f.2).take j)++[fb k ((bR f.2).getD j [])]:=vn;have y:V (oi k ((bR f.2).take j))=j:=az;generalize(bR f.2).getD j []=p at *;generalize oi k ((bR f.2).take j)=ns at *;have m:=cI.cw ns (fb k p);refine bM [(47,W),(1000011,W)] Z c9 ?_
   rw[q];refine I.aa9 gB [cE 6 1,.e (.bX (.dk 7 1 (V ns) (cI.fn ns))),dI k,dS p,dI (fb k p),b7 (.sl W 1 1 λi=>([[.int .i64 (fb k p)]]:List (List C)).getD i [])] 6 Z Z Z Z Z ⟨OA.fU bO b5.nil Z,OA.fU bO b5.nil Z,OA.fU bO b5.nil Z,OA.fU bO b5.nil Z,
    OA.ofU (oz.wT (yM g d k p hk u).uW [0,1] Z Z Z Z Z Z Z fe Z fe),OA.fU bO b5.nil Z,an⟩ ?_
   refine dj Z ?_ (I.aQ (j+1) Z ?_ ?_ ?_ ?_)
   .simp only[aA,cd,show i3.bytes=8 from Z,aX,aW];and_intros<;>omega
   .simp
   .simp only[b,aA.eu,aA,cj,eU,gk,aX,aW];and_intros<;>first|exact eW.same|exactλ_ _=>rfl|exact m|rfl|omega
   .grind
   omega
  have r:j=V (bR f.2):=aq;rw[r,de];have m:=cL.cw ls (nO k f);have w:V ls+1=V (ls++[nO k f]):=ay;have G:cL.enc (nO k f)=[C.du f.1,C.sl ae 1 (V (oi k (bR f.2))) (cI.fn (oi k (bR f.2)))]:=rfl;rw[G,<-l]at m;rw[<-l]at w;refine bM [(47,ae)] Z ay (I.br Z Z ?_);refine dj Z ?_ (I.aQ (i+1) Z ?_ ?_ ?_ ?_)
  .simp only[aA,cd,show i76.bytes=40 from Z,aX,aW];and_intros<;>omega
  .simp
  .simp only[aA.eu,aA,aX,aW];and_intros<;>first|exact eW.same|exact m|exact w|rfl
  .grind
  omega
 obtain rfl:i=V t:=aq;rw[de];refine bM [(36,ae)] Z ay (I.br Z Z ?_);refine dj Z an (I.lz () [0,1] Z Z Z Z Z Z Z Z Z ?_ Z Z Z Z GZ);simp[di]
end
end R1
def e9.die{X:Cx P}{f:aO}{args:List D}{E k:Nat}{a:Nat->List C}{w:BP}{es:ι->Nat->List C}{m:ι->Nat}(h:e9 X f args [.eX E k n a] (λ_=>mE 0 w) (λi=>[.eX E k (m i) (es i)])):Ev X f args [.eX E k n a] (mE 0 w) [.cg] :=
 ⟨h.1,λs vs hr hh S cs hS=>h.2 s vs hr hh S cs λi fr v s' hl nj lj st=>hS fr v s' hl (by
  obtain⟨lv,h1,_,_⟩:jh _ _ _ (.bp 0 w):=nj;exact(⟨lv,h1,by simp,λ_ _ _ _ hb=>by grind⟩:jh [.cg] s' v (.bp 0 w))) lj.mV
  ⟨st.size,st.keep,st.mem,st.lJ,st.Ab,λl B L hB hL=>by
   obtain⟨B',L',h1,h2,b⟩:=st.box l B L hB hL;cases l with
   |zero=>simp at hB;subst hB;exact⟨.cg,L',Z,h2,an⟩
   |succ l=>grind,st.os,st.tape,st.output,st.own⟩⟩
namespace R1
variable {X:Cx ag}
def Cp(h:xu):Ev X 114 [dHd h] [] (dB (iP h)) []:=by
 refine Ev.bQ Tryz.func114 rfl λb=>?_;have a:b5 X []:=.nil;unfold iP;by_cases c1:h.1=1
 .by_cases c3:1<=h.2
  .exact aY a [(6,W),(11,W),(16,W)] Z c9 (I.bE Z fC)
  exact aY a [(6,W),(11,W),(16,ae)] Z c9 (I.bE Z (by simp[c3]))
 by_cases c2:h.1=2
 .by_cases c3:1<=h.2
  .exact aY a [(6,ae),(11,W),(16,W)] Z c9 (I.bE Z fC)
  exact aY a [(6,ae),(11,W),(16,ae)] Z c9 (I.bE Z (by simp[c3]))
 exact aY a [(6,ae),(11,ae),(16,ae)] Z c9 (I.bE Z c9)
def Pz(h:xu):Ev X 113 [dHd h] [] (dB (!iP h)) []:=by refine Ev.bQ Tryz.func113 rfl λb=>?_;have a:b5 X [(114,lW aII (λh=>dB (iP h)) λ_=>[])]:=.cons (.rl λh _=>Cp h) .nil;exact cp a Z an (I.bE Z)
def PC(l:List xu):mx l=(decide (V l<=9)&&!l.any λh=>!iP h):=by
 have:(bl (V l)).all (λi=>iP (l.getD i (0,0)))=!l.any λh=>!iP h:=by rw[pO,dG,iM,List.any_eq_false];grind[List.mem_iff_getElem]
 rw[mx,this,Bool.and_comm]
def PD(l:List xu):Ev X 58 [cH.sl l] [] (dB (mx l)) []:=by
 refine Ev.bQ Tryz.func58 rfl λd=>?_;have a:=Ut (X:=X) l 113 (λh=>!iP h) λx _=>Pz x;have b:b5 X [(112,mi [cH.sl l,b7 (.fn (.func 113) [] [])] (dB (l.any λh=>!iP h)))]:=.cons (mL a) .nil;rw[PC];by_cases h:V l<=9
 .exact aY b [(6,W)] Z ⟨Z,fQ aq⟩ (I.bE Z kT)
 exact aY b [(6,ae)] Z c6 (I.bE Z c9)
def NZ:fp X 58 xw:=.rl λl _=>PD l
def GI(p:bz)(f:V p.2<=4000000):Ev X 177 [vN p] [] (cI.sl (p.2.map (·.1))) []:=by
 refine Ev.bQ Tryz.func177 rfl λd=>?_;refine ba [(1000002,W)] Z an (I.jK 3 3 1 Z Z ?_);refine bt Z an (I.cm 2 (λi=>i<=V p.2) (λi:Nat=>[(1,cE 0 0),(3,.e (.bX (.dk 1 1 i (cI.fn ((p.2.take i).map (·.1)))))),(7,fO.sl p.2),(8,dI (V p.2)),(9,dI i)]) (λi=>[Yh p,.dk 3 1 i (cI.fn ((p.2.take i).map (·.1)))]) (λi=>V p.2-i) 0 Z ay Z ay Z aq ?_);intro i hi;by_cases h:i<V p.2
 .have b:p.2.getD (i:Int).toNat fO.cy=iE p i:=az;have a:(p.2.take (i+1)).map (·.1)=(p.2.take i).map (·.1)++[(iE p i).1]:=vn;have c:V ((p.2.take i).map (·.1))=i:=az;have e:=cI.cw ((p.2.take i).map (·.1)) (iE p i).1;rw[c]at e;refine ba [(10,W)] Z ?_ (I.aQ (i+1) Z ?_ ?_ h aq)
  .simp only[aA,cd,show i3.bytes=8 from Z];grind
  .rw[a];simp only[aA.eu,aA,b,aX,aW];and_intros<;>first|exact eW.same|exact e|rfl|omega
  rw[a];simp only[aA.eu,aA,b,aX,aW];and_intros<;>first|exact eW.same|exact e|rfl|omega
 obtain rfl:i=V p.2:=aq;rw[de];refine ba [(10,ae)] Z ay (I.br Z Z ?_);exact bt Z an (I.bE Z)
abbrev Ja:eP:=lW (Iq fO) (λp=>cI.sl (p.2.map (·.1))) λp=>[V p.2<=4000000]
def UK:fp X 177 Ja:=.rl λp h=>GI p h
def PE(ps:List bz)(i:Nat):V (bT (ps.take i))<=V (bT ps):=by have:bT ps=bT (ps.take i)++bT (ps.drop i):=Zv;grind
abbrev ajM(l:List Int):D:=mE 0 (.sl (V l) 1 0 (V l))
def Jb(ps:List bz)(o:∀p∈ps,V p.2<=4000000)(q:V (bT ps)<=4000000):Ev X 111 [cP.sl ps] [] (ajM (bT ps)) [PF (V (bT ps)) (bT ps)]:=by
 refine Ev.bQ Tryz.func111 rfl λn=>?_;have k:=n.sl 0 Z;have f:b5 X [(177,Ja)]:=.cons UK .nil;refine aY f [(1000002,W)] Z an (I.Xz 3 3 1 (cI.fn []) Z ?_);refine cp f Z an (I.cm 1 (λi=>i<=V ps) (λi:Nat=>[(3,mE 0 (.sl (V (bT (ps.take i))) 1 0 (V (bT (ps.take i))))),(6,cP.sl ps),(7,dI (V ps)),(8,dI i)]) (λi=>[PF (V (bT (ps.take i))) (bT (ps.take i))]) (λi=>V ps-i) 0 Z Km Z (by simp[eW,bT]) Z aq ?_);intro i hi;by_cases h:i<V ps
 .have g:ps.getD (i:Int).toNat cP.cy=ps.getD i (0,[]):=az;have b:=Cl h;have c:=PE ps (i+1);have l:=o _ (kS (d:=(0,[])) h);generalize ps.getD i (0,[])=p at *;rw[b]at c;generalize bT (ps.take i)=a at *;have e:=cI.UL a (p.2.map (·.1)) _ Z;simp only[cj,kg]at c e;refine aY f [(9,W)] Z ?_ (I.aQ (i+1) Z ?_ ?_ h aq)
  .simp only[aA,g,cd,fO.aw,fO.aE,kg,show i3.bytes=8 from Z];grind
  .rw[b];simp only[aA.eu,aA,g,fO.aw,cj,kg,aX,aW];and_intros<;>first|exact eW.same|rfl|omega
  rw[b];simp only[aA.eu,aA,g,fO.aw,cj,kg,aX,aW];grind
 obtain rfl:i=V ps:=aq;rw[de];refine aY f [(9,ae)] Z ay (I.br Z Z ?_);refine cp f Z an (I.dt [0] Z ?_ Z Z Z (λj m=>absurd m ay));simp
def PG(ps:List bz)(a:∀p∈ps,V p.2<=4000000)(b:V (bT ps)<=4000000):Ev X 111 [cP.sl ps] [] (cI.sl (bT ps)) [] :=
 Ev.Ny (σ1:=[]) (E:=3) (k:=1) (n:=V (bT ps)) (es:=cI.fn (bT ps)) (Jb ps a b) Z ay Z (bm _)
end R1
section
namespace R1
variable {X:Cx ag}[X.ln]
abbrev yw:bq:=.cells 27 [iI,iI,iI]
def d92(m:Nat)(b:Nat->Int)(k:Int)(s s':bA)(a c d:Bool):List bq :=
 match a,c,d with
 |false,ae,ae=>[pD m b k,yw,wo s]
 |true,ae,ae=>[pD m b (k+1),yw,wo s]
 |false,W,ae=>[pD m b k,yw,wo s,yw]
 |true,W,ae=>[pD m b (k+1),yw,wo s,yw]
 |false,W,W=>[pD m b k,yw,wo s,wo s']
 |true,W,W=>[pD m b (k+1),yw,wo s,wo s']
 |false,ae,W=>[pD m b k,yw,wo s]
 |true,ae,W=>[pD m b (k+1),yw,wo s]
abbrev x92(v:Int)(s s':bA)(t:List bF)(ok:Bool)(i:Nat):D:=[n5 s,cE 0 0,dI v,dI (1+v),cF.sl t,tSt s' ok,tSt s' ok,n5 s',dB ok,cE 3 0,.any,dB ok].getD i .any
abbrev StI(k:Nat):={q:bA×Nat // D7 q.1/\k<=q.2/\q.2<=k+1000}
abbrev f92(t:List bF)(n:Nat):Fr:=[(0,cE 0 0),(2,cE 1 0),(3,cE 2 0),(4,cF.sl t),(5,dI n)]
set_option maxRecDepth 20000 in
def LB(m:Nat)(b:Nat->Int)(y:Bytes b)(k:Nat)(hk:k<=40000)(l:m<=1048576):
  e9 (ι:=StI k) X 61 [cE 0 0] [pD m b k] (λq=>n5 q.1.1) (λq=>[pD m b q.1.2]):=by
 refine e9.tu bO Tryz.func61 rfl rfl rfl λhf=>?_;refine bt aK an (I.cP (NM m b y k aq l) [0] aK fe ?_);rintro⟨⟨ab,k1⟩,AK,P,L⟩;simp only at AK P L;refine bt aK an (I.cP (iH m b y k1 5 aq l aq) [0] aK fe ?_);rintro⟨u,u0,u1⟩;refine bt aK an (I.cm 3 (λq:bA×List bF×Nat×Nat=>D7 q.1/\cT q.2.1=W/\q.2.2.1<=4/\k<=q.2.2.2/\q.2.2.2+100*q.2.2.1<=k+900) (λq=>f92 q.2.1 q.2.2.1) (λq=>[pD m b q.2.2.2,yw,wo q.1]) (λq=>q.2.2.1) (([],[],[]),ab,u.toNat,k1+1) aK c9 aK ay aK ⟨D7.nil,AK,by exact c9,by exact c9,by exact c9⟩ ?_);rintro⟨s,t,n,f⟩ ⟨o,M,S,K,E⟩;simp only at o M S K E;by_cases hn:0<n
 .refine bM [(19,W),(1000006,W)] aK c9 ?_;have hv:=tS m b f 2 aq;have Q:=yu (X:=X) 7 s (1+oh m b f 2) t ee o.size o.num (fI M) o.dC;have C:D7 (if fx 7 s t=W then s else dZ 7 s (1+oh m b f 2) t):=by
   cases aa:fx 7 s t with
   |true=>exact o
   |false=>exact o.sZ M aq aa
  generalize ak:(if fx 7 s t=W then s else dZ 7 s (1+oh m b f 2) t)=s' at *;have N:fx 7 s t=W->s'=s:=λh=>by simp_all
  generalize fx 7 s t=fu at *;have i:b5 X [(24,c24),(29,mi [dI 7,n5 s,dI (1+oh m b f 2),cF.sl t] (tSt s' (!fu)))]:=.cons t24 (.cons (mL Q) .nil);have r:aA [(f:Int)=(f:Int).toNat,xT b=xT (X6 (xT b)),Bytes (X6 (xT b)),(f:Int)<=4000000,m<=1048576,(1:Int)<=2,(2:Int)<=4000000]:=⟨rfl,rfl,y,by omega,l,by omega,(by decide:(2:Int)<=4000000)⟩
  have G:aA [cd .i64 (1+oh m b f 2)]:=ek;have v:aA [([dI 7,n5 s,dI (1+oh m b f 2),cF.sl t]:List D)=[dI 7,n5 s,dI (1+oh m b f 2),cF.sl t]]:=rfl;refine I.w8 gB (x92 (oh m b f 2) s s' t (!fu)) (y5 (d92 m b f s s') 2 9 10) aK aK aK aK
   ⟨.Qv bO i,
  .Qv bO i,
  fE.e1 aK aK aK aK (λc d=>by cases c<;>cases d<;>exact gK (ds:=[]) bO i (U':=O _) aK r),
  .q3o bO i G,
  .Qv bO i,
  .q3o bO i v,
  .Qv bO i,
  .Qv bO i,
  .Qv bO i,
  fE.e2 aK aK aK aK aK (λa=>by cases a<;>exact gK (ds:=[]) bO i (U':=O _) aK an),
  fE.e3 aK aK aK aK aK (λa=>by cases a<;>exact gK (ds:=[]) bO i (U':=O _) aK an),
  .Qv bO i,an⟩ ?_
  intro D z;show I X _ _ _ _ _ (d92 m b f s s' (D 2) (D 9) (D 10));rw[z 2 ee,z 9 ee,z 10 ee];apply I.tG (f92 t n) [pD m b (f+1:Nat),yw,wo s',wo s']
  .intro gf;cases fu with
   |true =>
    obtain rfl:=N rfl;exact bM [(1000009,W)] aK an (gf _ _ aK ay)
   |false =>
    exact bM [(1000009,W)] aK an (gf _ _ aK ay)
  refine dj aK an (I.cP (Ar m b y (f+1) aq l) [0] aK fe ?_);rintro⟨p,hp⟩;refine dj aK an (I.cP (NO m b y (f+1+1+1) aq l) [0] aK fe ?_);rintro⟨⟨x,J⟩,U,R,F⟩;simp only at U R F;refine dj aK an (I.cQ (BZ t p x) [] aK ?_);have B:=LC (t:=t) (p:=p) (x:=x);obtain⟨j,g⟩:∃j,j=if(fW t p x).2=W then(fW t p x).1 else t:=⟨_,rfl⟩
  have A:cT j=W:=by
   rw[g];split
   .rename_i h;exact B h
   omega
  apply I.tG (f92 j n) [pD m b J,yw,wo s',wo s']
  .intro gf;cases H:(fW t p x).2 with
   |true =>
    rw[H,bh aK]at g;rw[<-g];exact bM [(1000012,W)] aK an (gf _ _ aK ay)
   |false =>
    rw[H,bc ay]at g;rw[g]at gf;exact bM [(1000012,W)] aK an (gf _ _ aK ay)
  clear g;refine dj aK an (I.cP (iH m b y J 3 aq l aq) [0] aK fe ?_);rintro⟨w,w0,w1⟩;by_cases T:w=0
  .refine bM [(46,W)] aK (by simp[T]) (I.cP (Ar m b y (J+1) aq l) [0] aK fe ?_);rintro⟨p2,Z⟩;have Y:=pr A;refine dj aK an (I.cQ (NP j p2 aq) [] aK (dj aK DD (I.aQ (s',pt j p2,n-1,J+1+1+1) aK c9 ay ?_ ?_)))
   .exact⟨C,Uh p2 A,by exact c9,by exact c9,by exact c9⟩
   exact c9
  refine bM [(46,ae)] aK (by simp[T,cd];omega) (I.aQ (s',j,n-1,J+1) aK c9 ay ?_ ?_)
  .exact⟨C,A,by exact c9,by exact c9,by exact c9⟩
  exact c9
 refine bM [(19,ae)] aK c9 (I.br aK aK ?_);refine dj aK an (I.nJ ⟨(s,f),o,K,by omega⟩ [0] aK aK aK aK aK aK aK aK ?_ aK aK aK aK kK);simp
end R1
end
namespace R1
section
variable {X:Cx ag}
def Cq(s:bA):Ev X 54 [n5 s] [] (n5 s) []:=by refine Ev.tu Tryz.func54 rfl rfl rfl λa=>?_;refine bt Z ay ?_;refine I.freeze 2 1 Z Z Z ?_;exact I.tq bO [] Z ay Z Z Z (λj b=>absurd b ay)
abbrev UM:eP:=lW XQ (λs=>n5 s) λ_=>[]
def acV:fp X 54 UM:=.rl λs _=>Cq s
abbrev Qx(s:bA):bq:=.cells 101 [.c (.sl ae 2 (V s.1) (cP.fn s.1)),.c (.sl ae 2 (V s.2.1) (dY.fn s.2.1)),.c (.sl ae 2 (V s.2.2) (cH.fn s.2.2))]
structure Yo(s:bA):Prop extends SmS s where
 pk:∀p∈s.1,V p.2<=4000000
 nm:V (bT s.1)<=4000000
def Ew(k:Int)(s:bA):Bool:=(bl (V s.1)).all (pw k s.1)&&decide (V s.1<=20)&&decide (bT s.1).Nodup
def LL(k:Int)(s:bA)(hk:cN k=W)(c:Yo s):Ev X 56 [n5 s,dI k] [] (dB (Ew k s)) []:=by
 refine Ev.bQ Tryz.func56 rfl λD=>?_;have F:=c.pN;have w:=c.pk;have v:=PG (X:=X) s.1 c.pk c.nm;have g:b5 X [(110,Gk)]:=.cons NF .nil;refine cp g Z an ?_;unfold Ew;refine I.cm 1 (λi=>i<=V s.1/\∀j,j<i->pw k s.1 j=W) (λi:Nat=>[(1,dI k),(2,cE 0 0),(9,cP.sl s.1),(10,dI (V s.1)),(11,dI i)]) (λ_=>[Qx s]) (λi=>V s.1-i) 0 Z ay Z ay Z ⟨by omega,by omega⟩ ?_;rintro i ⟨hi,a⟩;by_cases h:i<V s.1
 .have u:s.1.getD i cP.cy=s.1.getD i (0,[]):=rfl;have r:s.1.getD (i-1) cP.cy=s.1.getD (i-1) (0,[]):=rfl;have n:pw k s.1 i=(jg k (s.1.getD i (0,[]))&&Ck (·.1) (0,[]) s.1 i):=rfl;have q:=qh (f:=λp:bz=>p.1) (d:=(0,[])) (l:=s.1) (i:=i);have b:=w _ (kS (d:=(0,[])) h);generalize s.1.getD i (0,[])=p at *;generalize s.1.getD (i-1) (0,[])=p' at *;cases o:jg k p with
  |false =>
   rw[o,uj]at n;refine aY g [(12,W),(20,W),(35,W)] Z ?_ (I.gp (cM.zero Z ?_))
   .simp[-aj,u,hk,b,o,fO.aw,fO.aE];omega
   rw[ij h n];simp
  |true =>
   rw[o,gy]at n;by_cases y:i=0
   .subst y;refine aY g [(12,W),(20,ae),(23,ae),(35,ae)] Z ?_ (I.aQ 1 Z ay ay ⟨h,iW a ek⟩ aq);simp[-aj,u,hk,b,o,fO.aw,fO.aE,cd];omega
   have q:=q y;by_cases E:p'.1<p.1
   .refine aY g [(12,W),(20,ae),(23,W),(33,ae),(35,ae)] Z ?_ (I.aQ (i+1) Z ay ay ⟨h,iW a az⟩ aq);simp[-aj,u,r,hk,b,o,fO.aw,fO.aE,cd];omega
   refine aY g [(12,W),(20,ae),(23,W),(33,W),(35,W)] Z ?_ (I.gp (cM.zero Z ?_))
   .simp[-aj,u,r,hk,b,o,fO.aw,fO.aE,cd];omega
   rw[ij h az];simp
 obtain rfl:i=V s.1:=aq;rw[dG.2 a,gy];refine aY g [(12,ae)] Z ay (I.br Z Z ?_);refine cp g Z an (I.cQ (Jb s.1 c.pk c.nm) [] Z (cp g Z an (I.cQ (Jc (bT s.1) c.nm) [1] Z ?_)));have z:=GJ (bT s.1);have t:=(Cr (X:=X) (qi (bT s.1)) (by rw[j0];exact c.nm)).die;rw[j0]at t;have x:=xA (qi (bT s.1));rw[j0]at x;have A:=c.nm;generalize fA (qi (bT s.1))=cs at *;generalize qi (bT s.1)=so at *;have s8:b5 X [(41,vg [m7 (V (bT s.1))] [PF (V (bT s.1)) so] (mE 0 (.sl (V (bT s.1)) 1 0 (V cs))) [.cg]),(111,mi [cP.sl s.1] (cI.sl (bT s.1)))]:=.cons (vh t) (.cons (mL v) .nil);refine aY s8 [(1000009,W)] Z an ?_;by_cases B:V s.1<=20
 rotate_left
 .refine aY s8 [(46,ae)] Z c6 (I.bE Z ?_);exact c9
 have m:(V s.1:Int)<=20:=aq;generalize C:bT s.1=N at *;refine I.Wi (ι:=Unit) gB 6 (λi=>match bP i 5 with|true=>W|false=>match aC i 8 with|true=>W|false=>aC i 9) (λi=>[cE 0 0,cP.sl s.1,dI (V s.1),dB (decide ((V s.1:Int)<=20)),dB W,mE 1 (.sl (V N) 1 0 (V N)),.any,.any,cE 0 0,cP.sl s.1].getD i .any)
  (λ_ i=>[.any,.any,.any,.any,.any,.any,mE 1 (.sl (V N) 1 0 (V cs)),dI (V cs),.any,.any,cI.sl N,dI (V N),dB ((V cs:Int)==V N),dB ((V cs:Int)==V N),dB ((V cs:Int)==V N)].getD i .any) (λ_=>[Qx s,.cg]) Z Z Z Z Z Z ?_ ?_ ?_ ?_
 .exact⟨.fU bO s8 Z,.fU bO s8 Z,.fU bO s8 Z,.fU bO s8 Z,.eval bO s8 (ds:=[(46,W)]) Z (fQ m),.fU bO s8 Z,an,an,.fU bO s8 Z,.fU bO s8 Z,an,an,an,an,an,an⟩
 .intro _;exact⟨.fU bO s8 Z,.fU bO s8 Z,.fU bO s8 Z,.fU bO s8 Z,.eval bO s8 (ds:=[(46,W)]) Z (fQ m),.fU bO s8 Z,an,.fU bO s8 Z,.fU bO s8 Z,.fU bO s8 Z,.eval bO s8 (ds:=[]) Z Z,.fU bO s8 Z,.fU bO s8 Z,.fU bO s8 Z,.fU bO s8 Z,an⟩
 .exact .FU (gK bO s8 (ds:=[]) (U':=O [Qx s,.cg]) Z ⟨Z,Z⟩)
 intro _;refine cp s8 Z an (I.bE Z ?_);have:((V cs:Int)==V N)=decide N.Nodup:=az;exact ek
def lk:List (Int×Int)->C
 |[]=>.ki
 |h::t=>.rp [.int .i64 h.1,.int .i64 h.2,lk t]
abbrev tHB(l:List (Int×Int))(b:Bool):D:=.gI [.bX (.c (.sl ae 2 (V l) (cH.fn l))),.bX (.c (.bool b))]
def LZ(l:List (Int×Int))(x:Int×Int)(d:mx l=W)(g:iP x=W)(j:V l<=9):Ev X 94 [cH.sl l,YL x.1 x.2] [] (tHB (if V l=9 then l else l++[x]) (decide (V l≠9))) []:=by
 refine Ev.bQ Tryz.func94 rfl λi=>?_;have a:b5 X [(58,xw),(114,lW aII (λh=>dB (iP h)) λ_=>[])]:=.cons NZ (.cons (.rl λh _=>Cp h) .nil);refine aY a [(9,ae),(14,ae)] Z ?_ ?_
 .simp only[aA,cH.aw,d,g,fZ,aX,aW];first|exact cH.aE _|(and_intros<;>first|rfl|exact cH.aE _)
 refine I.cQ (Ef l aq) [] Z ?_;by_cases b:V l=9
 .exact aY a [(19,W)] Z AH (I.ny 1 Z Z Z ay ay (I.bE Z (by simp[b,qT])))
 refine aY a [(19,ae)] Z ?_ ?_
 .simp only[aA,show Uf.bytes=16 from Z,eC,aX,aW];and_intros<;>first|rfl|omega
 have f:=cH.cw l x;refine I.Xl (J':=[(4,mE 1 (.sl (V l+1) 2 0 (V l+1))),(5,dB W)]) (U':=[.cells 126 [.c (.int .i64 x.1),.c (.int .i64 x.2)],.eX 126 2 (V l+1) (cH.fn (l++[x]))]) ?_ Z uZ Z ek;exact I.ny 1 Z Z Z ay ay (I.bE Z (by simp[b,qT]))
def VQ(l:List bz)(b:V l<=4000000):Ev X 139 [cP.sl l] [] (dI (if V l=0 then 0 else(l.getD (V l-1) (0,[])).1)) []:=by
 refine Ev.bQ Tryz.func139 rfl λc=>?_;by_cases h:V l=0
 .rw[bh h];exact ba [(5,W)] Z kT (I.bE Z)
 have a:l.getD ((V l:Int)-1).toNat cP.cy=l.getD (V l-1) (0,[]):=by rw[show((V l:Int)-1).toNat=V l-1 by omega];rfl
 rw[bc h];refine ba [(5,ae)] Z ?_ (I.bE Z fC);simp only[aA,a,cd,eC,aX,aW];and_intros<;>omega
def py(m:Int)(l:List (Int×Int)):Int:=l.foldl (λm h=>max m (h.2+1)) m
def EM(l:List (Int×Int)):∀m n:Int,py (max m n) l=max m (py n l):=by
 induction l with
 |nil=>intro m n;rfl
 |cons x r a =>
  intro m n;show py (max (max m n) (x.2+1)) r=max m (py (max n (x.2+1)) r);grind
def Mi{m:Int}{l:List (Int×Int)}(h:i<V l):py m (l.take (i+1))=max (py m (l.take i)) ((l.getD i (0,0)).2+1):=by unfold py;grind[cW]
def lg(s:bA):Int:=if V s.2.1=0 then 1 else max 1 ((s.2.1.getD (V s.2.1-1) (0,[])).1+1)
def JP(s:bA):py (lg s) s.2.2=cq s:=by
 unfold lg cq;have a:py 1 s.2.2=rz s.2.2:=rfl;split
 .exact a
 rw[show max 1 ((s.2.1.getD (V s.2.1-1) (0,[])).1+1)=max ((s.2.1.getD (V s.2.1-1) (0,[])).1+1) 1 by omega,EM,a];omega
def VE(s:bA)(n:iw s)(f:yv s):Ev X 88 [n5 s] [] (.gI [.bX (.c (.int .i64 (dc s))),.bX (.c (.int .i64 (cq s)))]) []:=by
 refine Ev.bQ Tryz.func88 rfl λB=>?_;have j:=n.p;have q:=n.sn;have y:=n.h;have A:1<=lg s/\lg s<=4000001:=by
  unfold lg;split
  .omega
  have:=f.s _ (gv (show V s.2.1-1<V s.2.1 by omega) (0,[]));omega
 apply I.tG [(1,cE 0 0),(4,dI (lg s))] [wo s]
 .intro gf;by_cases h:V s.2.1=0
  .exact bM [(12,ae),(1000005,W)] Z fC (gf _ _ Z (by simp[lg,h]))
  have v:=f.s _ (gv (show V s.2.1-1<V s.2.1 by omega) (0,[]));have d:s.2.1.getD ((V s.2.1:Int)-1).toNat dY.cy=s.2.1.getD (V s.2.1-1) (0,[]):=Zm;refine bM [(12,W)] Z ?_ ?_
  .simp only[aA,d,cd,bu,aX,aW];and_intros<;>omega
  rw[d];refine I.gH (Gy (lg s) Z Z Z (by unfold lg;grind) ek) Z Z ?_;exact bM [(1000005,W)] Z an (gf _ _ Z ay)
 refine dj Z an (I.cm 1 (λi=>i<=V s.2.2) (λi:Nat=>[(1,cE 0 0),(4,dI (py (lg s) (s.2.2.take i))),(24,cH.sl s.2.2),(25,dI (V s.2.2)),(26,dI i)]) (λi=>[wo s]) (λi=>V s.2.2-i) 0 Z ?_ Z ?_ Z aq ?_)
 .simp[py]
 .simp
 intro i hi;have b:∀i,1<=py (lg s) (s.2.2.take i)/\py (lg s) (s.2.2.take i)<=4000001:=λi=>by have o:=pq (s.2.2.take i) λx t=>f.h x (hO t);have w:py 1 (s.2.2.take i)=rz (s.2.2.take i):=rfl;rw[show lg s=max (lg s) 1 by omega,EM,w];omega
 have o:=b i;have z:=b (i+1);by_cases h:i<V s.2.2
 .have v:=f.h _ (gv h (0,0));have d:s.2.2.getD (i:Int).toNat cH.cy=s.2.2.getD i (0,0):=az;have r:=Mi (m:=lg s) h;refine bM [(27,W)] Z ?_ ?_
  .simp only[aA,d,cd,bu,aX,aW];and_intros<;>omega
  rw[d];refine I.gH (Gy (py (lg s) (s.2.2.take (i+1))) Z Z Z r.symm yW) Z Z ?_;refine dj Z ek (I.aQ (i+1) Z ay ?_ h aq);simp
 obtain rfl:i=V s.2.2:=aq;rw[de,JP]at o⊢;have a:dc s=(if V s.1=0 then 0 else(s.1.getD (V s.1-1) (0,[])).1)+1:=by unfold dc;split<;>rfl
 have l:-4000000<=dc s-1/\dc s-1<=4000000:=by
  rw[a];split
  .omega
  have:=f.p _ (gv (show V s.1-1<V s.1 by omega) (0,[]));omega
 have g:=VQ (X:=X) s.1 j;have k:=Cq (X:=X) s;rw[a]at l⊢;generalize(if V s.1=0 then 0 else(s.1.getD (V s.1-1) (0,[])).1)=p at *;have u:b5 X [(54,mi [n5 s] (n5 s)),(139,mi [cP.sl s.1] (dI p))]:=.cons (mL k) (.cons (mL g) .nil);refine bM [(27,ae)] Z ay (I.br Z Z ?_);refine cY u Z ?_ (I.bE Z);exact ek
abbrev slS(l:List Bs):C:=.sl ae 1 (V l) (cS.fn l)
def P3(l:List Bs):Ev X 89 [cS.sl l,dI 4] [] (b7 (.fn (.func 140) [] [.rp [slS l],.rp [.int .i64 4]])) []:=by refine Ev.bQ Tryz.func89 rfl λa=>?_;refine sY [] 6 Z an ?_;refine I.freeze 2 0 Z Z Z ?_;refine I.freeze 3 1 Z Z Z ?_;exact ba [(6,ae)] Z ay (I.bE Z uZ)
def yO(l:List Bs)(k:Nat):List Bs:=(l.drop (4*k)).take 4
def LY(l:List Bs)(w:V l<=4000000){b:Nat}{N0:Nat}{J0:Fr}{a lr':Loop}(m:Nat)(z:m<=(V l+3) / 4)(Us:Nat->List bq)(j:List bq)(y:∀k,V (Us k)=b)(s:∀k,oe (Us k++[.loop N0 J0 a])=W)(q:oe (j++[.loop N0 J0 lr'])=W)(BN:∀k,k<m->4*k<V l->md (ι:=Unit) X b [cS.sl (yO l k)] (Us k++[.loop N0 J0 a]) W (λ_=>Us (k+1)++[.loop N0 J0 a]))(mc:4*m<V l->md (ι:=Unit) X b [cS.sl (yO l m)] (Us m++[.loop N0 J0 a]) ae (λ_=>j++[.loop N0 J0 lr'])):
  e9 (ι:=Unit) X 140 [.e (.bX (.oY b)),b7 (.rp [slS l]),b7 (.rp [.int .i64 4])] (Us 0++[.loop N0 J0 a]) (λ_=>.gI []) (λ_=>if 4*m<V l then j++[.loop N0 J0 lr']else Us m++[.loop N0 J0 a]):=by
 refine e9.FT Tryz.func140 rfl rfl rfl (I.dX ?_);refine bt Z an ?_;show AW X _ (.loop _) _ _ _;refine AW.loop (S:=Nat) (λk=>k<=m) (λk=>[(0,.e (.bX (.oY b))),(1,b7 (.rp [slS l])),(2,b7 (.rp [.int .i64 4])),(4,dI (4*k:Nat))]) (λk=>Us k++[.loop N0 J0 a]) (λk=>m-k) 0 (kn _) ?_ Z ?_
 .exact .cons Z (dJ Z ay)
 intro k hk;refine I.dX ?_;by_cases h:4*k<V l
 .have g:aA (lK (V l) (O ((4*k:Nat):Int)) af):=by simp only[lK,aA];omega
  have p:dD (V l) af-dD 0 (O ((4*k:Nat):Int))=V l-4*k:=ek;refine ba [(9,W),(1000003,W)] Z c9 ?_;let xs:Nat->D:=λi=>([dI 4,cS.sl l,dI (4*k:Nat),b7 (.sl ae 1 (dD (V l) af-dD 0 (O ((4*k:Nat):Int))) (nY (dD 0 (O ((4*k:Nat):Int))) (cS.fn l))),dI (dD (V l) af-dD 0 (O ((4*k:Nat):Int)):Nat),dI (min 4 (V l-4*k):Nat),dI (min 4 (V l-4*k):Nat)]:List D).getD i .any;refine I.w8 gB xs (y5 (λ_ _ _=>Us k++[.loop N0 J0 a]) 100 101 102) wK wK wK wK ?_ ?_
  .exact⟨.Qv bO b5.nil,
   .Qv bO b5.nil,
   .Qv bO b5.nil,
   fE.q3 Z Z Z (λ_ _ _=>OA.eval (ds:=[]) bO b5.nil Z g),
   .Qv bO b5.nil,
   fE.q3 Z Z Z (λ_ _ _=>OA.nB (λ_ _ _ _=>eE Z) (BM _ Z Z Z az yW)),
   .Qv bO b5.nil,an⟩
  intro D x;show I X _ _ _ _ _ (Us k++[.loop N0 J0 a]);have t:(((4*k:Nat):Int)+((min 4 (V l-4*k):Nat):Int))=((4*k+min 4 (V l-4*k):Nat):Int):=aq;refine bt Z ?_ ?_
  .simp only[aA,cd,aX,aW];omega
  refine I.gH (bU.Xt bO Z Z Z Z (n:=V l) (es:=cS.fn l) (tt:=ae) (λ_ _ r=>gG r) Z Z Z aq aq aq aq) Z Z ?_;have u:V (yO l k)=min 4 (V l-4*k):=by simp[yO]
  refine kA.le (J':=[(0,.e (.bX (.oY b))),(19,.e (.bX (.oY b))),(1,b7 (.rp [slS l])),(2,b7 (.rp [.int .i64 4])),(4,dI (4*k:Nat)),(28,cS.sl (yO l k))]) ?_ (.cons Z (.cons Z (dJ Z ?_)))
  .have d:(Us k++[bq.loop N0 J0 a])[b]?=O (.loop N0 J0 a):=az;rcases dy k m with f|f
   .refine I.yield (BN k f h) Z Z Z (N0:=N0) (J0:=J0) (r:=a) d Z Z λ_=>?_;exact ba [(30,ae)] Z (by simp only[aA,cd,fZ,aX,aW];omega) ⟨k+1,by omega,by omega,.cons Z (dJ Z c9),Z⟩
   obtain rfl:k=m:=aq;refine I.yield (mc h) Z Z Z (N0:=N0) (J0:=J0) (r:=a) d Z Z λ_=>?_;exact ba [(30,W)] Z ay (I.ret ⟨(),.inl Z,(bh h).symm,by grind,[],.gI [],[],Z,Z,Z,an⟩)
  simp only[aA.eu,aA,aX,aW];have v:((4*k:Nat):Int).toNat=4*k:=aq;have o:(((4*k:Nat):Int)+((min 4 (V l-4*k):Nat):Int)).toNat-((4*k:Nat):Int).toNat=V (yO l k):=az;refine⟨o,λi hi=>?_⟩;rw[o]at hi;rw[v];show cS.enc (l.getD (4*k+i) cS.cy)=cS.enc ((yO l k).getD i cS.cy);congr 1;simp only[yO,aj];grind
 obtain rfl:k=m:=aq;refine ba [(9,ae)] Z c9 (I.SR Z Z ?_);exact⟨(),.inr Z,(bc h).symm,by grind,[],.gI [],[],Z,Z,Z,an⟩
def P2(k:Int)(s:bA)(l:List Bs)(j:Nat):Bool:=(rI (dc s+j) k (yO l j)).2&&!(V s.1+j==20)
def n9(g:Nat->Bool):Nat->Nat->Nat
 |0,j=>j
 |f+1,j=>if g j=W then n9 g f (j+1)else j
def tZ(g:Nat->Bool):∀(f j:Nat),j<=n9 g f j/\n9 g f j<=j+f/\(∀i,j<=i->i<n9 g f j->g i=W)/\(n9 g f j<j+f->g (n9 g f j)=ae)
 |0,j=>⟨bm _,bm _,λi b a=>absurd b (by simp only[n9]at a;omega),λh=>absurd h (by simp[n9])⟩
 |f+1,j=>by obtain⟨b,a,c,d⟩:=tZ g f (j+1);rw[n9];grind
def my(k:Int)(s:bA)(l:List Bs)(n:Nat):List bz:=(bl n).map λj:Nat=>(rI (dc s+j) k (yO l j)).1
theorem yQ(k:Int)(s:bA)(l:List Bs)(n:Nat):V (my k s l n)=n:=by simp[my]
def LX(k:Int)(s:bA)(l:List Bs)(n:Nat):my k s l (n+1)=my k s l n++[(rI (dc s+(n:Nat)) k (yO l n)).1]:=by simp[my,List.range_succ]
def DL{s:bA}(a:yv s):-4000000<=dc s/\dc s<=4000001:=by
 unfold dc;split
 .omega
 rename_i h;have:=a.p _ (uO h (0,[]));omega
def xN(k:Int)(s:bA)(by_:Int)(t:List bF):bA×Option Bs :=
 let l:=eK k t (dh s.1);let m:=n9 (P2 k s l) ((V l+3) / 4) 0
 if m<(V l+3) / 4 then(([],[],[]),O [112,97,99,107,115])
 else if 20<cq s then(([],[],[]),O [115,110,97,112,115,104,111,116,115])
 else if V s.2.2=9 then(([],[],[]),O [104,101,97,100,115])
 else((s.1++my k s l m,s.2.1++[di (cq s) k t],s.2.2++[(by_,cq s)]),af)
def erE:Option Bs->E1
 |none=>.bX (.c .kG)
 |some w=>.bX (.c (.Fy 71 (.rp [.du w])))
def tSv(q:bA×Option Bs):D:=.gI [.agg [.c (sPs q.1.1),.c (sSs q.1.2.1),.c (sHs q.1.2.2)],erE q.2]
abbrev svF(s:bA)(by_:Int)(t:List bF)(l:List Bs):Fr:=[(2,dI by_),(3,cF.sl t),(4,cE 2 0),(5,cE 3 0),(8,cE 4 0),(9,cE 5 0),(10,cE 9 0),(11,cE 10 0),(12,dI (cq s)),(33,b7 (.fn (.func 140) [] [.rp [slS l],.rp [.int .i64 4]]))]
abbrev VB(b d:av×ah)(k:Int)(s:bA)(a:C)(ps:List bz)(no:Int):List bq:=GB b d++[.cells 27 [.c (sPs s.1),.c (sSs s.2.1),.c (sHs s.2.2)],.cells 3 [.c (.int .i64 k)],.cells 27 [iI,iI,iI],.cells 68 [.c a],
 .eX 83 2 (V ps) (cP.fn ps),.eX 42 2 (V s.2.1) (dY.fn s.2.1),.cg,.cells 27 [.bp 6 (.sl (V ps) 2 0 (V ps)),.bp 7 (.sl (V s.2.1) 2 0 (V s.2.1)),.c (sHs s.2.2)],.cells 3 [.c (.int .i64 no)]]
def VC{b c:av×ah}{s:bA}{d a:C}{ps ps':List bz}{no no':Int}{r r':Loop}(i:Nat)(B:bq)(hB:(VB b c k s d ps no++[.loop N J r])[i]?=O B):KG 12 (VB b c k s a ps' no'++[.loop N J r']) i B:=by
 rcases i with _|_|_|_|_|_|_|_|_|_|_|_|i<;>first
  |(cases hB;exact .inl ⟨_,_,rfl,rfl⟩)
  |(cases hB;exact .inr (.inr (.inl ⟨_,_,_,_,rfl,rfl⟩)))
  |(cases hB;exact .inr (.inr (.inr ⟨by grind,by grind⟩)))
  |simp_all
def VD(d b:av×ah)(k:Int)(s:bA)(by_:Int)(t:List bF)(hk:cN k=W)(g:iw s)(F:yv s)(E:cT t=W)(L:V (dC s.1)<=100000)(K:wa (dh s.1) (V (dh s.1))=W)(n:mx s.2.2=W)(Z:by_=1∨by_=2)(G:1<=cq s):
  Ev X 37 [n5 s,dI k,dI by_,cF.sl t] (GB d b) (tSv (xN k s by_ t)) (GB d b):=by
 obtain⟨r,a⟩:∃r,r=xN k s by_ t:=⟨_,rfl⟩;rw[<-a];unfold xN at a;simp only at a;refine(e9.Xg (ι:=Unit) (U':=λ_=>GB d b) (res:=λ_=>tSv r) Tryz.func37 rfl rfl rfl ?_).KA
 refine nG.seq (AW.zC (I.dX ?_));refine bt aK an (nG.seq (AW.zC (I.dX ?_)));refine bt aK an (I.cQ (BV s g.p g.p2 g.sn g.s2 g.h) [] aK (bt aK an (nG.seq (AW.zC (I.dX ?_)))));refine I.ny 8 aK aK aK ay (by simp;exact⟨an,an⟩) (bt aK an (I.cQ (VE s g F) [] aK (bt aK an (nG.seq (nG.seq (AW.zC (I.dX ?_)))))));generalize aa:dh s.1=ix at *;have w:b5 X [(91,mi [cP.sl s.1] (cH.sl ix)),(89,mi [cS.sl (eK k t ix),dI 4] (b7 (.fn (.func 140) [] [.rp [slS (eK k t ix)],.rp [.int .i64 4]])))]:=.cons (mL (aa▸JG s.1 g.p L)) (.cons (mL (P3 _)) .nil);have A:V ix<=4000000:=by grind[zd]
 refine I.aa9 gB [dI k,cF.sl t,cE 2 0,cP.sl s.1,cH.sl ix,cS.sl (eK k t ix),b7 (.fn (.func 140) [] [.rp [slS (eK k t ix)],.rp [.int .i64 4]])] 12 rfl rfl rfl rfl rfl ⟨OA.fU bO w rfl,OA.fU bO w rfl,OA.fU bO w rfl,OA.fU bO w rfl,
  OA.eval (ds:=[]) bO w aK aK,OA.ofU (oz.wT (JD d b k t ix hk E K A).uW [0,1] aK aK aK aK aK aK aK fe aK fe),OA.eval (ds:=[]) bO w aK aK,an⟩ ?_
 refine bt aK an (nG.block ?_);refine nG.kR (svF s by_ t (eK k t ix)) (VB d b k s .kG (s.1++my k s (eK k t ix) 0) (dc s+(0:Nat))) aK ay aK ?_ ?_
 .simp[my];exactλi _=>rfl
 have x:∀p∈eK k t ix,bH p=W:=(jX (fI E)).1;have N:V (eK k t ix)<=4000000:=hZ (jX (fI E)).2 ee;generalize eK k t ix=l at *;obtain⟨g1,g2,g3,T⟩:=tZ (P2 k s l) ((V l+3) / 4) 0;have Y:=g.p;generalize hmd:n9 (P2 k s l) ((V l+3) / 4) 0=m at *;refine nG.KU (capD:=iq [.rp [slS l],.rp [.int .i64 4]]) (c7.callee aK)
  (LY (lr':=?lr2) l N m aq (λj=>VB d b k s .kG (s.1++my k s l j) (dc s+(j:Nat))) (VB d b k s (.Fy 71 (.rp [.du [112,97,99,107,115]])) (s.1++my k s l m) (dc s+(m:Nat))) (λj=>rfl) (λj=>rfl) aK (λj U J=>?BN) λhs4=>?mc) λi=>?hk
 case mc =>
  have y:P2 k s l m=ae:=T aq;have v:=zq (X:=X) d b (dc s+(m:Nat)) k (yO l m) ZC hk (λp R=>x p (tc (hO R))) (by simp[yO];omega);have z:=yQ k s l m;generalize hq:rI (dc s+(m:Nat)) k (yO l m)=q at *;refine md.x9 (rest:=λ_=>[.cells 83 [.c (.int .i64 q.1.1),.c (.sl ae 2 (V q.1.2) (fO.fn q.1.2))],.cg]) (md.intro (j:=O .ret) aK aK aK aK (I.dX ?_)) ?_ ?_
  .refine bt aK an ⟨aK,aK,I.dX ?_⟩;refine bt aK an (I.cQ v [0,1] aK ?_);have o:V (s.1++my k s l m)=V s.1+m:=az;have f:q.2=W->V s.1+m=20:=λh=>by simpa[P2,hq,h]using y
   cases D:q.2 with
   |false =>
    refine ba [(44,W),(49,W),(1000007,W)] aK (by simp[D]) (I.region ?_);refine sY [] 3 aK an (I.Am 52 13 aK aK aK ?_);refine bt aK an (I.ret ?_);refine⟨aK,aK,(),jV aK ?_⟩;simp only[aA.eu,aA,aX,aW];and_intros<;>first|exact eW.same|exact eW.nil|rfl
   |true =>
    have:=f D;refine ba [(44,ae),(49,W),(1000007,W)] aK ek (I.region ?_);refine sY [] 3 aK an (I.Am 52 13 aK aK aK ?_);refine bt aK an (I.ret ?_);refine⟨aK,aK,(),jV aK ?_⟩;simp
  .exact λ_=>rfl
  exactλ_=>VC
 case BN =>
  have u:P2 k s l j=W:=g3 j (kn _) U;have v:=zq (X:=X) d b (dc s+(j:Nat)) k (yO l j) ZC hk (λp R=>x p (tc (hO R))) (by simp[yO];omega);have z:=yQ k s l j;have hsu:=LX k s l j;obtain⟨ab,q2⟩:(rI (dc s+(j:Nat)) k (yO l j)).2=W/\¬(V s.1)+j=20:=by simpa[P2]using u
  generalize rI (dc s+(j:Nat)) k (yO l j)=q at *;have o:V (s.1++my k s l j)=V s.1+j:=az;have Q:s.1++my k s l (j+1)=(s.1++my k s l j)++[q.1]:=az;generalize s.1++my k s l j=ps at *;refine md.x9 (rest:=λ_=>[.cells 83 [.c (.int .i64 q.1.1),.c (.sl ae 2 (V q.1.2) (fO.fn q.1.2))]]) (md.intro (j:=af) aK aK aK aK (I.dX ?_)) ?_ ?_
  .refine bt aK an ⟨aK,aK,I.dX ?_⟩;refine bt aK an (I.cQ v [0,1] aK ?_);have AK:=cP.cw ps q.1;have hb:=DL F;refine ba [(44,ae),(49,ae)] aK ?_ ?_
   .simp only[aA,cd,ab,show i83.bytes=32 from aK,o,eC,dO,fZ,aX,aW];omega
   refine⟨aK,aK,(),jV aK ?_⟩;have H:V (ps++[q.1])=V ps+1:=ay;have M:dc s+(j:Int)+1=dc s+((j+1:Nat):Int):=aq;rw[Q,H,<-M];simp only[aA.eu,aA,aX,aW];and_intros<;>first|exact eW.same|exact AK|rfl
  .exact λ_=>rfl
  exactλ_=>VC
 case hk =>
  by_cases J:4*m<V l
  .rw[bh J];refine⟨_,aK,by simp,.ret,aK,?_⟩;rw[bh (show m<(V l+3) / 4 by omega)]at a;subst a;simp only[Bn,HY];refine .freeze 8 4 aK aK aK (.freeze 9 5 aK aK aK (.of ⟨(),vv.cells bO [0,1] aK ?_ aK aK aK GZ⟩));simp
  rw[bc J];refine⟨_,aK,by simp,.normal,aK,?_⟩;rw[bc (show¬m<(V l+3) / 4 by omega)]at a;show nG X _ _ _ _ _;refine AW.zC (I.dX ?_);by_cases f:20<cq s
  .rw[bh f]at a;subst a;refine ba [(63,W),(1000011,W)] aK c9 (I.region ?_);refine sY [] 3 aK an (I.Am 66 13 aK aK aK ?_);refine bt aK an (I.ret (.freeze 8 4 aK aK aK (.freeze 9 5 aK aK aK (.of ⟨(),vv.cells bO [0,1] aK ?_ aK aK aK GZ⟩))));simp
  rw[bc f]at a;have P:V s.2.2<=9:=by simp only[mx,cu,bu]at n;omega
  refine ba [(63,ae)] aK c9 (I.cQ (LV d b (cq s) k t ⟨G,by omega⟩ hk E) [0,1] aK ?_);have AK:=dY.cw s.2.1 (di (cq s) k t);have S:=g.sn;refine ba [(1000014,W)] aK ?_ ?_
  .simp only[aA,show i42.bytes=32 from aK,aX,aW];omega
  refine I.region ?_;refine bt aK an (I.cQ (LZ s.2.2 (by_,cq s) n (by simp only[iP,cu,bu];omega) P) [] aK ?_);by_cases C:V s.2.2=9
  .rw[bh C]at a;subst a;refine ba [(91,W),(1000016,W)] aK (by simp[C]) (I.region ?_);refine sY [] 3 aK an (I.Am 94 14 aK aK aK ?_);refine bt aK an (I.ret (.freeze 8 4 aK aK aK (.freeze 9 5 aK aK aK (.of ⟨(),vv.cells bO [0,1] aK ?_ aK aK aK GZ⟩))));simp
  rw[bc C]at a;subst a;simp only[bc C];refine ba [(91,ae),(1000018,W)] aK (by simp[C]) ?_;have z:V (s.1++my k s l m)=V s.1+m:=by grind[yQ]
  generalize s.1++my k s l m=ps at *;generalize ak:s.2.1++[di (cq s) k t]=sw at *;have B:V sw=V s.2.1+1:=az;generalize hhw:s.2.2++[(by_,cq s)]=hw at *;refine I.Xl (J':=[(8,cE 4 0),(9,cE 5 0),(10,cE 9 0)]) (U':=GB d b++[.cells 27 [.c (sPs s.1),.c (sSs s.2.1),.c (sHs s.2.2)],.cells 3 [.c (.int .i64 k)],.cells 27 [iI,iI,iI],.cells 68 [.c .kG],.eX 83 2 (V ps) (cP.fn ps),.eX 42 2 (V sw) (dY.fn sw),.cg,.cells 27 [.bp 6 (.sl (V ps) 2 0 (V ps)),.bp 7 (.sl (V sw) 2 0 (V sw)),.c (sHs hw)],.cells 3 [.c (.int .i64 (dc s+(m:Nat)))],.cg,.vr,.cells 42 [.c (.int .i64 (di (cq s) k t).1),.c (.sl ae 2 (di (cq s) k t).2.length (cL.fn (di (cq s) k t).2))]]) ?_ aK ?_ aK ?_
  .refine I.ny 6 aK aK aK ay ay (I.ny 7 aK aK aK ay ay (bt aK an (I.ret (.freeze 8 4 aK aK aK (.freeze 9 5 aK aK aK (.of ⟨(),vv.cells bO [0,1] aK ?_ aK aK aK GZ⟩))))));simp[qT]
  .simp
  simp only[aA.eu,aA,B,aX,aW];and_intros<;>first|exact eW.same|exact AK|rfl
end
structure oo(s:bA):Prop where
 a1:V s.1<=20
 a2:∀p∈s.1,(1<=p.1/\p.1<=99)/\V p.2<=4
 a3:V s.2.1<=21
 a4:∀x∈s.2.1,(1<=x.1/\x.1<=20)/\V x.2<=6/\∀y∈x.2,V y.2<=40
 a5:V s.2.2<=9
 a6:∀h∈s.2.2,1<=h.2/\h.2<=20
def mN{α b:Type}{f:α->List b}{n:Nat}:∀{l:List α},(∀x∈l,V (f x)<=n)->V (l.flatMap f)<=n*V l
 |[],_=>by simp
 |x::l,h=>by have d:=h x iL;have c:=mN (l:=l) λy a=>h y (lY _ a);grind[Nat.mul_succ]
def kM{x:dn}(h:V x.2<=6/\∀y∈x.2,V y.2<=40):V (cZ x.2)<=240:=by have:=mN (f:=λy:iU=>y.2) (n:=40) h.2;unfold cZ;omega
def oo.smT{s:bA}(h:oo s):Yo s:=by
 have h1:=h.a1;have c:=h.a3;have e:V (bT s.1)<=4*V s.1:=mN λp b=>by rw[kg];exact(h.a2 p b).2
 have d:V (lS s.2.1)<=240*V s.2.1:=mN λx a=>kM (h.a4 x a).2;refine⟨⟨by omega,λx a=>?_,by omega,by omega⟩,λp b=>?_,by omega⟩
 .have:=(h.a4 x a).2;grind
 have:=(h.a2 p b).2;omega
def oo.rF{s:bA}(h:oo s):iw s:=by have h1:=h.smT;have a:=h.a5;exact⟨h1.pN,h1.pk,h1.sN,h1.sm,by omega⟩
def oo.Dq{s:bA}(h:oo s):yv s :=
 ⟨λx a=>by have:=(h.a2 x a).1;omega,λx a=>by have:=(h.a4 x a).1;omega,λx a=>by have:=h.a6 x a;omega⟩
def oo.dC{s:bA}(h:oo s):V (dC s.1)<=100000:=by
 have h1:=h.a1;have:V (R1.dC s.1)<=4*V s.1:=mN λp a=>by rw[kg];exact(h.a2 p a).2
 omega
def GN{x:dn}{ps:List bz}(h:(cn k x ps).isSome=W):V x.2<=6/\∀y∈x.2,V y.2<=40:=by
 unfold cn at h;split at h
 .rename_i b;simp only[cu]at b;obtain⟨⟨_,g⟩,e⟩:=b;refine⟨?_,λy f=>?_⟩
  .simp only[cT,cu,bu,ef,kg]at e;omega
  have a:=bL.1 g y f;unfold fN at a;split at a
  .cases a
  rename_i l c;split at a
  .cases a
  rename_i t d;have i:V l=V y.2:=by unfold eD at c;split at c<;>cases c;simp
  unfold ig at d;split at d
  .rename_i b;simp only[cu,fR,fG,bu]at b;grind[lO]
  grind
 grind
def ld.ac1{s:bA}(h:ld k s):oo s:=by
 have hl:V s.2.1<=20:=by have:=uN 1 h.sa λx a=>(h.sn x a).1;omega
 have b:=h.log;simp only[mx,cu,bu,dG]at b;refine⟨h.len,λp c=>⟨(h.pk p c).no,(h.pk p c).len.2⟩,by omega,λx a=>⟨(h.sn x a).1,GN (h.sn x a).2⟩,b.2,λq e=>?_⟩;have:=(xH (p:=iP) (d:=(0,0))).1 b.1 q e;simp only[iP,cu,bu]at this;omega
def UP{l:List (Int×Int)}(h:∀x∈l,-4000000<=x.2/\x.2<=4000000):1<=rz l:=(pq l h).1
def UQ{s:bA}(h:oo s):1<=cq s:=by have:=UP h.Dq.h;unfold cq;split<;>omega
def UR{s:bA}(h:oo s):1<=dc s:=by
 unfold dc;split
 .omega
 rename_i a;have:=(h.a2 _ (uO a (0,[]))).1;omega
def oo.sZ{s:bA}{t:List bF}{by_:Int}(h:oo s)(j:V s.2.1<=20)(d:cT t=W)(c:fx k s t=ae):oo (dZ k s by_ t):=by
 simp only[fx,wC,dm]at c;obtain⟨p,o,n,q⟩:=c;have i:=UQ h;have m:=UR h;have e:=lT.1 d;unfold dZ;refine⟨by grind,λx a=>?_,by grind,λx a=>?_,by grind,λx a=>?_⟩
 .rcases eZ.1 a with a|a
  .exact h.a2 x a
  obtain⟨b,qs,a1,a2,a3,a4,a5,rfl⟩:=yG k _ _ _ (jX (k:=k) (l:=dh s.1) (fI d)).1 x a;have a2:b<dc s+V (nN k s t):=a2;exact⟨⟨by show 1<=b;omega,by show b<=99;omega⟩,by grind[Jh]⟩
 .rcases eZ.1 a with a|a
  .exact h.a4 x a
  rw[gj]at a;subst a;refine⟨⟨i,by show cq s<=20;omega⟩,by show(t.map _).length<=6;grind,λy g=>?_⟩;obtain⟨f,c,rfl⟩:=ja.1 g;have h1:=(e.1 f c).2;simp only[fG,cu,bu]at h1;have h2:=lO f.2;show((bR f.2).map _).length<=40;grind
 rcases eZ.1 a with a|a
 .exact h.a6 x a
 grind
structure TA(s:bA):Prop extends oo s where
 pa:s.1.Pairwise λp q=>p.1<q.1
 sa:s.2.1.Pairwise λx y=>x.1<y.1
 hb:∀h∈s.2.2,1<=h.1/\h.1<=2
def TA.nil:TA ([],[],[]):=⟨⟨by simp,by simp,by simp,by simp,by simp,by simp⟩,by simp,by simp,by simp⟩
def TA.alg{s:bA}(h:TA s):V s.2.1<=20:=by have:=uN 1 h.sa λx a=>(h.a4 x a).1;omega
def JS{f:α->Int}{l:List α}(h:l.Pairwise λa b=>f a<f b)(c:V l≠0)(d:α):∀x∈l,f x<=f (l.getD (V l-1) d):=by grind[List.getElem_of_mem,List.pairwise_iff_getElem]
def TA.sZ{k:Int}{s:bA}{t:List bF}{by_:Int}(h:TA s)(d:cT t=W)(hb:1<=by_/\by_<=2)(e:fx k s t=ae):TA (dZ k s by_ t):=by
 refine⟨h.tooo.sZ h.alg d e,?_,?_,λx a=>?_⟩
 .refine mz.2 ⟨h.pa,vU k _ _ _,λx a y b=>?_⟩;have h1:x.1<dc s:=by
   unfold dc;split
   .grind
   rename_i c;have:=JS (f:=λp:bz=>p.1) h.pa c (0,[]) x a;omega
  have:=uP k _ _ _ y b;omega
 .refine mz.2 ⟨h.sa,by simp,λx a y b=>?_⟩;rw[gj]at b;subst b;show x.1<cq s;unfold cq;split
  .grind
  rename_i c;have:=JS (f:=λp:dn=>p.1) h.sa c (0,[]) x a;omega
 rcases eZ.1 a with a|a
 .exact h.hb x a
 grind
def TA.agI{s:bA}(h:TA s)(p:dn->Bool):TA (s.1,s.2.1.filter p,s.2.2) :=
 ⟨⟨h.a1,h.a2,hZ (wz _ _) h.a3,λx a=>h.a4 x (iz.1 a).1,h.a5,h.a6⟩,h.pa,h.sa.filter _,h.hb⟩
def TA.step{s:bA}(h:TA s)(no:Int)(ms:List Int):TA (fi no ms s.1,s.2):=by
 refine⟨⟨?_,λp b=>?_,h.a3,h.a4,h.a5,h.a6⟩,?_,h.sa,h.hb⟩
 .have:V (fi no ms s.1)<=V s.1:=by unfold fi;grind
  exact hZ this h.a1
 .obtain⟨q,c,rfl,_⟩:=CB b;have:=h.a2 q c;grind[vZ,uS]
 show (fi no ms s.1).Pairwise _;unfold fi;refine List.Pairwise.filter _ (wE.2 (h.pa.imp λa=>?_));grind[uS]
structure TW(n:Nat)(w:bS):Prop where
 s:TA w.1
 m:V w.2.1<=n
 l:V w.2.2<=20
def TW.mono{m:Nat}{w:bS}(h:TW n w)(hm:n<=m):TW m w:=⟨h.s,hZ h.m hm,h.l⟩
abbrev QG:bS:=(([],[],[]),[],[])
def TW.nil{n:Nat}:TW n QG:=⟨TA.nil,by simp,by simp⟩
def Qi(k:Int)(s:bA)(keep:List Int):bS×Bool :=
 if fX k s=W then(((s.1,s.2.1.filter λx=>keep.contains x.1,s.2.2),ik (s.2.1.filter λx=>keep.contains x.1),s.1.map (·.1)),W)else(QG,ae)
def VU{s:bA}(h:oo s):V (lS s.2.1)<=240*21:=by have b:=h.a3;have c:V (lS s.2.1)<=240*V s.2.1:=mN λx a=>kM (h.a4 x a).2;omega
def TW.beg{s:bA}{keep:List Int}(h:TA s):TW 6000 (Qi k s keep).1:=by
 unfold Qi;split
 .have a:=h.agI λx=>keep.contains x.1;refine⟨a,?_,by simp only[kg];exact h.a1⟩;have h1:=uJ (s.2.1.filter λx=>keep.contains x.1) _ (bm _);have h2:=VU a.tooo;grind
 exact TW.nil
def TW.step{n:Nat}{w:bS}(h:TW n w):TW n (gz w):=by
 unfold gz;split
 .exact h
 rename_i no r hl;refine⟨h.s.step _ _,h.m,?_⟩;have:=h.l;grind
def gw(k:Int)(w:bS)(by_:Int)(t:List bF):bS:=(dZ k w.1 by_ t,(fh (di (cq w.1) k t).2).foldl jF w.2.1,w.2.2)
def JR(k:Int)(w:bS)(by_:Int)(t:List bF):Bool:=fJ k w&&decide (1<=by_/\by_<=2)&&cT t
def TW.sZ{k:Int}{n:Nat}{w:bS}{t:List bF}{by_:Int}(h:TW n w)(b:cT t=W)(hb:1<=by_/\by_<=2)(c:fx k w.1 t=ae):TW (n+240) (gw k w by_ t):=by have a:=h.s.sZ b hb c;refine⟨a,?_,h.l⟩;have h1:=gL w.2.1 (fh (di (cq w.1) k t).2);have h2:=jZ (di (cq w.1) k t).2;have d:=kM (a.a4 (di (cq w.1) k t) E8).2;have e:=h.m;show((fh _).foldl jF w.2.1).length<=_;omega
def TW.smS{w:bS}(h:TW n w):SmS w.1:=h.s.smT.toSmS
abbrev cTr:List (Nat×eP):=[(53,ym)]
def LM(k:Int)(s:bA)(t:Yo s):Ev (Cx.cx ag) 57 [n5 s,dI k] [] (dB ((bl (V s.2.1)).all (mm k s))) []:=by
 refine Ev.bQ Tryz.func57 rfl λw=>?_;have x:=t.sN;have r:=t.sm;have c:b5 (Cx.cx ag) cTr:=.cons Ed .nil;refine cp c Z an (I.cm 1 (λi=>i<=V s.2.1/\∀j,j<i->mm k s j=W) (λi:Nat=>[(1,dI k),(2,cE 0 0),(10,dY.sl s.2.1),(11,dI (V s.2.1)),(12,dI i)]) (λ_=>[Qx s]) (λi=>V s.2.1-i) 0 Z ay Z ay Z ⟨by omega,by omega⟩ ?_);rintro i ⟨hi,b⟩;by_cases h:i<V s.2.1
 .have n:s.2.1.getD i dY.cy=s.2.1.getD i (0,[]):=rfl;have o:s.2.1.getD (i-1) dY.cy=s.2.1.getD (i-1) (0,[]):=rfl;have a:mm k s i=(decide (1<=(s.2.1.getD i (0,[])).1/\(s.2.1.getD i (0,[])).1<=20)&&Ck (·.1) (0,[]) s.2.1 i&&(cn k (s.2.1.getD i (0,[])) s.1).isSome):=rfl;have q:=qh (f:=λp:dn=>p.1) (d:=(0,[])) (l:=s.2.1) (i:=i);have g:=r _ (kS (d:=(0,[])) h);generalize s.2.1.getD i (0,[])=p at *;generalize s.2.1.getD (i-1) (0,[])=p' at *;by_cases c1:1<=p.1
  rotate_left
  .refine aY c [(13,W),(20,W),(25,W),(40,W)] Z ?_ (I.gp (cM.zero Z ?_))
   .simp[-aj,n];omega
   rw[ij h az];simp
  by_cases c2:p.1<=20
  rotate_left
  .refine aY c [(13,W),(20,ae),(25,W),(40,W)] Z ?_ (I.gp (cM.zero Z ?_))
   .simp[-aj,n];omega
   rw[ij h az];simp
  rw[fQ ⟨c1,c2⟩,gy]at a;by_cases u:i=0
  .subst u;rw[show Ck (·.1) (0,[]) s.2.1 0=W from Z,gy]at a;cases m:(cn k p s.1).isSome with
   |false =>
    refine aY c [(13,W),(20,ae),(25,ae),(27,ae),(40,ae),(50,W)] Z ?_ (I.gp (cM.zero Z ?_))
    .simp[-aj,n,cd,cL.aw,cL.aE,cP.aw,cP.aE,m,g.1];and_intros<;>first|omega|grind
    rw[ij h (a.trans m)];simp
   |true =>
    refine aY c [(13,W),(20,ae),(25,ae),(27,ae),(40,ae),(50,ae)] Z ?_ (I.aQ 1 Z ay ay ⟨h,iW b (a.trans m)⟩ aq);simp[-aj,n,cd,cL.aw,cL.aE,cP.aw,cP.aE,m,g.1];and_intros<;>first|omega|grind
  rw[q u]at a;by_cases v:p'.1<p.1
  rotate_left
  .refine aY c [(13,W),(20,ae),(25,ae),(28,W),(38,W),(40,W)] Z ?_ (I.gp (cM.zero Z ?_))
   .simp[-aj,n,o,cd];omega
   rw[ij h az];simp
  rw[fQ v,gy]at a;cases m:(cn k p s.1).isSome with
  |false =>
   refine aY c [(13,W),(20,ae),(25,ae),(28,W),(38,ae),(40,ae),(50,W)] Z ?_ (I.gp (cM.zero Z ?_))
   .simp[-aj,n,o,cd,cL.aw,cL.aE,cP.aw,cP.aE,m,g.1];and_intros<;>first|omega|grind
   rw[ij h (a.trans m)];simp
  |true =>
   refine aY c [(13,W),(20,ae),(25,ae),(28,W),(38,ae),(40,ae),(50,ae)] Z ?_ (I.aQ (i+1) Z ay ay ⟨h,iW b (a.trans m)⟩ aq);simp[-aj,n,o,cd,cL.aw,cL.aE,cP.aw,cP.aE,m,g.1];and_intros<;>first|omega|grind
 obtain rfl:i=V s.2.1:=aq;rw[dG.2 b];refine aY c [(13,ae)] Z ay (I.br Z Z ?_);exact cp c Z an (I.bE Z)
def Dn(k:Int)(s:bA):fX k s=(cN k&&Ew k s&&(bl (V s.2.1)).all (mm k s)&&mx s.2.2):=by unfold fX Ew;cases(bl (V s.1)).all (pw k s.1)<;>cases decide (bT s.1).Nodup<;>cases(bl (V s.2.1)).all (mm k s)<;>cases cN k<;>cases mx s.2.2<;>cases decide (V s.1<=20)<;>rfl
abbrev acW:eP:=qb XQ aI (λs k=>dB (Ew k s)) λs k=>[cN k=W,Yo s]
abbrev acX:eP:=qb XQ aI (λs k=>dB ((bl (V s.2.1)).all (mm k s))) λs _=>[Yo s]
def Jd(k:Int)(s:bA)(e:Yo s):Ev (Cx.cx ag) 20 [dI k,n5 s] [] (dB (fX k s)) []:=by
 refine Ev.bQ Tryz.func20 rfl λi=>?_;have d:b5 (Cx.cx ag) [(54,UM),(55,lW aI (λk=>dB (cN k)) λ_=>[]),(56,acW),(57,acX),(58,xw)]:=.cons acV (.cons t55 (.cons (.s9 λs k h=>LL k s h.1 h.2) (.cons (.s9 λs k h=>LM k s h) (.cons NZ .nil))));have c:=cP.aw s.1;have b:=dY.aw s.2.1;have a:=cH.aw s.2.2;rw[Dn];cases hk:cN k
 .exact aY d [(10,ae),(15,ae),(20,ae)] Z (by simp[hk,c,b,a,cP.aE,dY.aE,cH.aE]) (I.bE Z)
 cases f:Ew k s
 .exact aY d [(10,W),(15,ae),(20,ae)] Z (by simp[hk,c,b,a,cP.aE,dY.aE,cH.aE,e,f]) (I.bE Z)
 cases g:(bl (V s.2.1)).all (mm k s)
 .exact aY d [(10,W),(15,W),(20,ae)] Z Ze (I.bE Z)
 exact aY d [(10,W),(15,W),(20,W)] Z Ze (I.bE Z yX)
abbrev uK:eP:=qb aI XQ (λk s=>dB (fX k s)) λ_ s=>[Yo s]
def yF:fp (Cx.cx ag) 20 uK:=.s9 λk s h=>Jd k s h
section
variable {X:Cx ag}
end
def CW(k:Int)(s x:bA)(d:mj s)(b:mj x)(j:V s.2.1<=4000000)(h:∀y∈s.2.1,dq k x y.1=dq k s y.1):Ev (Cx.cx ag) 19 [dI k,n5 s,n5 x] [] (dB W) []:=by
 refine Ev.bQ Tryz.func19 rfl λg=>?_;refine bt Z an (I.loop (λi=>i<=V s.2.1) (λi:Nat=>[(0,dI k),(4,cE 0 0),(5,cE 1 0),(7,dI i)]) (λ_=>[wo s,wo x]) (λi=>V s.2.1-i) 0 aq (dJ Z ay) Z ?_);intro i hi;by_cases a:i<V s.2.1
 .have c:s.2.1.getD (i:Int).toNat dY.cy=s.2.1.getD i (0,[]):=rfl;have e:=h _ (gv a (0,[]));generalize s.2.1.getD i (0,[])=y at *;have f:b5 (Cx.cx ag) [(17,vO),(18,mi [cF.sl ((dq k s y.1).getD []),cF.sl ((dq k s y.1).getD [])] (dB W))]:=.cons BR (.cons (mL (Uq _)) .nil);refine bj f [(16,W),(46,ae),(51,ae)] Z ?_ ⟨i+1,a,by omega,dJ Z ay,Z⟩;simp only[aA,c,cP.aw,dY.aw,cH.aw,e,cd];and_intros<;>first|rfl|exact cP.aE _|exact dY.aE _|exact cH.aE _|exact d|exact b|omega|simp;omega|simp
 obtain rfl:i=V s.2.1:=aq;refine ba [(16,ae)] Z ay (I.gE Z Z ?_);exact bt Z an (I.bE Z)
abbrev L9(a b:av×ah):List bq:=GB a b++[GBE]
def qk(k:Int)(s:bA)(by_:Int)(t:List bF):bA×Bool :=
 if fX k s=W/\(by_=1∨by_=2)/\cT t=W then(match(xN k s by_ t).2 with|none=>((xN k s by_ t).1,W)|some _=>(s,ae))else(([],[],[]),ae)
structure VH(k:Int)(s:bA):Prop where
 hk:cN k=W
 sp:V (dC s.1)<=100000
 ix:wa (dh s.1) (V (dh s.1))=W
 log:mx s.2.2=W
 sn:1<=cq s
def kt:∀j,j<3->([0,1,2]:List Nat)[j]?=O j:=ee
def VI{X:Cx ag}(v:ah):Ev X 38 [b7 .kG,Wo v] [] (dB ae) []:=by refine Ev.bQ Tryz.func38 rfl λa=>?_;refine bt Z an ?_;refine I.gH (Lk Z Tryz.underlying68 Z Z Z) Z Z ?_;exact ba [(9,W)] Z ay (I.bE Z)
def vl(f d:av×ah)(k:Int)(s:bA)(by_:Int)(t:List bF)(j:iw s)(m:Yo s)(E:yv s)(H:cd .i64 by_)(y:fX k s=W->VH k s):
  Ev (Cx.cx ag) 10 [dI k,n5 s,dI by_,cF.sl t] (L9 f d) (tSt (qk k s by_ t).1 (qk k s by_ t).2) (L9 f d):=by
 refine Ev.lA bO Tryz.func10 rfl rfl rfl λG=>?_;have a:b5 (Cx.cx ag) [(20,uK),(33,c33)]:=.cons yF (.cons t33 .nil);by_cases i:fX k s=W
 .by_cases n:by_=1∨by_=2
  .by_cases l:cT t=W
   .have e:qk k s by_ t=(match(xN k s by_ t).2 with|none=>((xN k s by_ t).1,W)|some _=>(s,ae)):=bh ⟨i,n,l⟩;rw[e];obtain⟨D,C,A,F,B⟩:=y i;have r:=VD (X:=Cx.cx ag) f d k s by_ t D j E l C A F n B;apply I.tG [(0,dI k),(2,dI by_),(3,cF.sl t),(5,cE 3 0),(8,cE 4 0)] (L9 f d++[.cells 27 [.c (sPs s.1),.c (sSs s.2.1),.c (sHs s.2.2)],.cells 27 [iI,iI,iI]])
    .intro gf;rcases n with rfl|rfl
     .refine bj a [(17,ae),(20,ae),(25,ae),(29,ae),(1000003,W)] Z ?_ (gf _ _ Z ?_)
      .simp only[aA,cP.aw,dY.aw,cH.aw,cF.aw,i,jD,l];and_intros<;>first|rfl|exact True.intro|exact cP.aE _|exact dY.aE _|exact cH.aE _|exact cF.aE _|exact m
      simp
     refine bj a [(17,ae),(20,W),(25,ae),(29,ae),(1000003,W)] Z ?_ (gf _ _ Z ?_)
     .simp only[aA,cP.aw,dY.aw,cH.aw,cF.aw,i,jD,l];and_intros<;>first|rfl|exact True.intro|exact cP.aE _|exact dY.aE _|exact cH.aE _|exact cF.aE _|exact m
     simp
    have u:∀v:ah,Ev (Cx.cx ag) 38 [b7 .kG,Wo v] [] (dB ae) []:=λv=>VI v;generalize xN k s by_ t=q at *;obtain⟨x,z⟩:=q;cases z with
    |none =>
     have b:Ev (Cx.cx ag) 37 [n5 s,dI k,dI by_,cF.sl t] (GB f d) (.gI [.agg [.c (sPs x.1),.c (sSs x.2.1),.c (sHs x.2.2)],.bX (.c .kG)]) (GB f d):=r;refine cY a Z an (I.cQ b [0,1] Z (bj a [(1000005,W)] Z an (I.M9 12 6 Z Z λg=>?_)));refine cY a Z an (I.ZS 40 Z ?_);refine I.cQ (u _) [] Z (bj a [(41,ae)] Z ay (I.lz () [0,1,2] Z Z Z Z Z Z Z Z Z ?_ Z Z Z Z kt));simp
    |some w =>
     have b:Ev (Cx.cx ag) 37 [n5 s,dI k,dI by_,cF.sl t] (GB f d) (.gI [.agg [.c (sPs x.1),.c (sSs x.2.1),.c (sHs x.2.2)],.bX (.c (.Fy 71 (.rp [.du w])))]) (GB f d):=r;refine cY a Z an (I.cQ b [0,1] Z (bj a [(1000005,W)] Z an (I.M9 12 6 Z Z λg=>?_)));refine I.abz 11 Z λp=>?_;refine cY a Z an (I.ZS 40 Z ?_);refine I.cQ (VG p g) [2,6] Z (bj a [(41,W)] Z ay (I.cQ (pn s j.p j.p2 j.sn j.s2 j.h) [] Z (ac3 a [] 2 Z an (I.Tb ?_))));refine I.ny 7 Z Z Z ay ay (I.ny 8 Z Z Z ay ay (I.lz () [0,1,2] Z Z Z Z Z Z Z Z Z ?_ Z Z Z Z kt));simp[qT]
   have e:qk k s by_ t=(([],[],[]),ae):=bc λh=>l h.2.2;rw[e];have o:cT t=ae:=az;rcases n with rfl|rfl
   .refine bj a [(17,ae),(20,ae),(25,ae),(29,W)] Z ?_ ?_
    .simp only[aA,cP.aw,dY.aw,cH.aw,cF.aw,i,jD,o];and_intros<;>first|rfl|exact True.intro|exact cP.aE _|exact dY.aE _|exact cH.aE _|exact cF.aE _|exact m
    refine I.lz () [0,1,2] Z Z Z Z Z Z Z Z Z ?_ Z Z Z Z kt;simp
   refine bj a [(17,ae),(20,W),(25,ae),(29,W)] Z ?_ ?_
   .simp only[aA,cP.aw,dY.aw,cH.aw,cF.aw,i,jD,o];and_intros<;>first|rfl|exact True.intro|exact cP.aE _|exact dY.aE _|exact cH.aE _|exact cF.aE _|exact m
   refine I.lz () [0,1,2] Z Z Z Z Z Z Z Z Z ?_ Z Z Z Z kt;simp
  have e:qk k s by_ t=(([],[],[]),ae):=bc λh=>n h.2.1;rw[e];refine bj a [(17,ae),(20,W),(25,W),(29,W)] Z ek (I.lz () [0,1,2] Z Z Z Z Z Z Z Z Z ?_ Z Z Z Z kt);simp
 have e:qk k s by_ t=(([],[],[]),ae):=bc λh=>i h.1;rw[e];refine bj a [(17,W),(25,W),(29,W)] Z ?_ ?_
 .simp only[aA,cP.aw,dY.aw,cH.aw];and_intros<;>first|rfl|exact True.intro|exact cP.aE _|exact dY.aE _|exact cH.aE _|exact m|grind
 refine I.lz () [0,1,2] Z Z Z Z Z Z Z Z Z ?_ Z Z Z Z kt;simp
section
variable {X:Cx ag}
def Mj(s:bA)(a:iw s):Ev X 74 [n5 s] [] (n5 s) []:=by refine(mM s a.p a.p2 a.sn a.s2 a.h).jz Z ?_ Z;simp
abbrev Ax:eP:=lW XQ (λs=>n5 s) λs=>[iw s]
def G8:fp X 74 Ax:=.rl λs h=>Mj s h
def Mk(w:bS)(b:iw w.1)(g:V w.2.1<=4000000)(d:V w.2.2<=4000000):Ev X 30 [sJ w] [] (.e (.agg [m6 cP w.1.1,m6 dY w.1.2.1,m6 cH w.1.2.2,m6 cI w.2.1,.dk 0 1 (V w.2.2) (cI.fn w.2.2)])) [.dk 3 1 (V w.2.2) (cI.fn w.2.2)]:=by
 refine Ev.lA bO Tryz.func30 rfl rfl rfl λf=>?_;have c:b5 X [(74,Ax)]:=.cons G8 .nil;refine bj c [(2000009,W)] Z ?_ ?_
 .simp only[aA,cP.aw,cP.aE,dY.aw,dY.aE,cH.aw,cH.aE,b,aX,aW,show i3.bytes=8 from Z,ox];and_intros<;>omega
 refine I.kR [rK w,.cells 30 [m6 cP w.1.1,m6 dY w.1.2.1,m6 cH w.1.2.2,m6 cI w.2.1,.dk 2 1 (V w.2.2) (cI.fn w.2.2)],.dk 3 1 (V w.2.2) (cI.fn w.2.2)] Z ?_ ?_
 .simp[cP.aw,dY.aw,cH.aw,ry]
 refine I.nJ () [2] Z Z Z Z Z Z Z Z ?_ Z Z Z Z (λj a=>absurd a ay);simp
def Qb(w:bS)(c:iw w.1)(b:V w.2.1<=4000000)(a:V w.2.2<=4000000):Ev X 30 [sJ w] [] (sJ w) [] :=
 (Mk w c b a).jz Z ay Z
abbrev G9:eP:=lW (aAg fSw) (λw=>sJ w) λw=>[iw w.1,V w.2.1<=4000000,V w.2.2<=4000000]
def Of:fp X 30 G9:=.rl λw h=>Qb w h.1 h.2.1 h.2.2
abbrev agH(p:bz)(a:List bJ):List bq:=[Yh p,.cells 83 [.c (.int .i64 0),iI],.cells 83 [.c (.int .i64 p.1),.dk 3 2 (V a) (fO.fn a)],.dk 161 2 (V a) (fO.fn a)]
def we{l:List α}{q:α->Bool}(h:i<V l)(d:α):(l.take (i+1)).filter q=if q (l.getD i d)=W then(l.take i).filter q++[l.getD i d]else(l.take i).filter q:=by rw[cW h d,List.filter_append,ug];split<;>simp
def yT(l:List α)(q:α->Bool)(h:i<=V l):V ((l.take i).filter q)<=i:=hZ (wz _ _) c6
def VS(p:bz)(ns:List Int)(g:V p.2<=4000000):Ev X 116 [vN p,cI.sl ns] [] (vN (ei p ns)) []:=by
 refine Ev.lA bO Tryz.func116 rfl rfl rfl λm=>?_;have b:b5 X [(69,I3)]:=.cons NX .nil;refine bj b [(1000002,W)] Z an (I.iQ 2 1 161 2 (fO.fn []) Z Z ?_);refine cp b Z an ?_;refine I.cm 4 (λi=>i<=V p.2) (λi:Nat=>[(1,cI.sl ns),(2,cE 0 0),(4,cE 1 0),(5,cE 2 0),(6,dI i)])
  (λi=>agH p ((p.2.take i).filter λx=>ns.contains x.1)) (λi=>V p.2-i) 0 Z ay Z ay Z aq ?_
 intro i hi;have l:=yT p.2 (λx=>ns.contains x.1) hi;by_cases h:i<V p.2
 .have f:p.2.getD i fO.cy=iE p i:=rfl;have d:(p.2.take (i+1)).filter (λx=>ns.contains x.1)=if ns.contains (iE p i).1=W then(p.2.take i).filter (λx=>ns.contains x.1)++[iE p i]else(p.2.take i).filter (λx=>ns.contains x.1):=we h (0,[]);generalize(p.2.take i).filter (λx=>ns.contains x.1)=a at *;generalize iE p i=x at *;cases c:ns.contains x.1 with
  |true =>
   rw[bh c]at d;have g:=fO.cw a x;refine bj b [(15,W),(25,W)] Z ?_ (I.aQ (i+1) Z ay ?_ h aq)
   .simp[-aj,-List.contains_eq_mem,f,h,c,cI.aw,cI.aE,cd,show yx.bytes=24 from Z];omega
   rw[d];simp only[aA.eu,aA,bZ,f,cj,eY,aX,aW];and_intros<;>first|exact eW.same|exact g|rfl|omega
  |false =>
   rw[bc fC]at d;refine bj b [(15,W),(25,ae)] Z ?_ (I.aQ (i+1) Z ay ?_ h aq)
   .simp[-aj,-List.contains_eq_mem,f,h,c,cI.aw,cI.aE,cd];omega
   simp_all
 obtain rfl:i=V p.2:=aq;rw[de];refine aY b [(15,ae)] Z ay (I.br Z Z ?_);refine cp b Z an (I.nJ () [] Z Z Z Z Z Z Z Z ?_ Z Z Z Z (λj k=>absurd k ay));simp[ei]
abbrev VT:eP:=qb (Iq fO) (aL cI) (λp ns=>vN (ei p ns)) λp _=>[V p.2<=4000000]
def adA:fp X 116 VT:=.s9 λp ns h=>VS p ns h
abbrev tSw(w:bS)(b:Bool):D:=.gI [.agg (swA w),.bX (.c (.bool b))]
abbrev pz:List A:=[iI,iI,iI,iI,iI]
def stepT(no:Int)(ms:List Int)(ps:List bz)(i:Nat):List bz:=fi no ms (ps.take i)
def Qc{no:Int}{ms:List Int}{ps:List bz}(h:i<V ps):stepT no ms ps (i+1)=if(j1 no ms (ps.getD i (0,[]))).2.length=0 then stepT no ms ps i else stepT no ms ps i++[j1 no ms (ps.getD i (0,[]))]:=by unfold stepT fi;rw[cW h (0,[]),List.map_append,List.filter_append,List.map_singleton];grind
def Qd(no:Int)(ms:List Int)(ps:List bz)(h:i<=V ps):V (stepT no ms ps i)<=i:=by unfold stepT fi;grind
def Ml(w:bS)(d:iw w.1)(e:V w.2.1<=4000000)(b:w.2.2=[]):Ev X 64 [sJ w] [] (tSw w ae) []:=by refine Ev.tu Tryz.func64 rfl rfl rfl λc=>?_;have a:b5 X [(30,G9)]:=.cons Of .nil;refine bj a [(13,W)] Z ek ?_;refine I.freeze 2 1 Z Z Z ?_;refine I.tq bO [] Z ?_ Z Z Z pe;simp[cP.aw,dY.aw,cH.aw,cI.aw]
def _root_.Go.AM.lX.Y4(c:lX α)(x:α)(l:List α)(h:n=V l):eW n (nY 1 (c.fn (x::l))) (c.fn l):=by intro i hi;simp only[nY,lX.fn,Dk,aj,Nat.add_comm 1 i,nS]
def Qe(w:bS):Bool:=!w.2.2.isEmpty
def map_take{a:Type}{l:List α}{f:α->a}(h:i<V l)(d:α):(l.take (i+1)).map f=(l.take i).map f++[f (l.getD i d)]:=by rw[cW h d,List.map_append];rfl
def Ha(l:List dn)(q:dn->Bool):V (lS (l.filter q))<=V (lS l):=by
 induction l with
 |nil=>simp
 |cons x l a =>
  unfold lS at *;grind
def mo(k:Int)(w:bS)(by_:Int)(t:List bF):bS×Bool :=
 if JR k w by_ t=W then(if fx k w.1 t=W then(w,ae)else(gw k w by_ t,W))else(QG,ae)
structure Qg(w:bS):Prop where
 s:iw w.1
 m:SmS w.1
 n:V w.2.1<=4000000
 l:V w.2.2<=4000000
def TW.sz{w:bS}(h:TW n w)(a:n<=1000000):Qg w:=⟨h.s.tooo.rF,h.smS,by have:=h.m;omega,by have:=h.l;omega⟩
def nb(k:Int)(w:bS)(by_:Int)(t:List bF)(c:Qg w):Ev X 7 [dI k,sJ w,dI by_,cF.sl t] [] (tSw (mo k w by_ t).1 (mo k w by_ t).2) []:=by
 refine Ev.tu Tryz.func7 rfl rfl rfl λL=>?_;have b:b5 X [(26,yE),(27,Gt),(28,c28),(30,G9),(31,As),(32,Cm)]:=.cons Eu (.cons IC (.cons t28 (.cons Of (.cons GH (.cons GG .nil)))));have r:=c.m;have a:(w.1,w.2.1,w.2.2)=w:=rfl;have q:mo k w by_ t=if fJ k w=W then(if 1<=by_/\by_<=2 then(if cT t=W then(if fx k w.1 t=W then(w,ae)else(gw k w by_ t,W))else(QG,ae))else(QG,ae))else(QG,ae):=by unfold mo JR;by_cases f:fJ k w=W<;>by_cases j:1<=by_/\by_<=2<;>by_cases g:cT t=W<;>simp[f,j,g]
 rw[q];cases f:fJ k w with
 |false =>
  rw[bc ay];refine bj b [(18,W),(23,W),(28,W)] Z ?_ ?_
  .simp only[aA,cP.aw,cP.aE,dY.aw,dY.aE,cH.aw,cH.aE,cI.aw,cI.aE,a,f,r,gm,aX,aW]
  refine I.freeze 8 1 Z Z Z ?_;exact I.tq bO [] Z ay Z Z Z pe
 |true =>
 rw[bh Z];by_cases j:1<=by_/\by_<=2
 rotate_left
 .rw[bc j];refine bj b [(18,ae),(23,W),(28,W)] Z ?_ ?_
  .simp only[aA,cP.aw,cP.aE,dY.aw,dY.aE,cH.aw,cH.aE,cI.aw,cI.aE,a,f,r,fZ,aX,aW];grind
  refine I.freeze 8 1 Z Z Z ?_;exact I.tq bO [] Z ay Z Z Z pe
 rw[bh j];cases g:cT t with
 |false =>
  rw[bc ay];refine bj b [(18,ae),(23,ae),(28,W)] Z ?_ ?_
  .simp only[aA,cP.aw,cP.aE,dY.aw,dY.aE,cH.aw,cH.aE,cI.aw,cI.aE,cF.aw,cF.aE,a,f,j,g,r,lI,wH,fZ,gm,aX,aW]
  refine I.freeze 8 1 Z Z Z ?_;exact I.tq bO [] Z ay Z Z Z pe
 |true =>
 rw[bh Z];have y:=gT.1 f;have hT:=y.told.ac1;have H:=hT.Dq;have d:=yu (X:=X) k w.1 by_ t y.key c.s H (fI g) hT.dC;cases B:fx k w.1 t with
 |true =>
  rw[B,bh Z]at d;rw[bh Z];refine bj b [(18,ae),(23,ae),(28,ae)] Z ?_ ?_
  .simp only[aA,cP.aw,cP.aE,dY.aw,dY.aE,cH.aw,cH.aE,cI.aw,cI.aE,cF.aw,cF.aE,a,f,j,g,r,lI,wH,fZ,gm,aX,aW]
  refine I.cQ d [] Z (bj b [(42,W)] Z ?_ ?_)
  .simp only[aA,cP.aw,cP.aE,dY.aw,dY.aE,cH.aw,cH.aE,cI.aw,cI.aE,a,c.s,c.n,c.l,fZ,gm,aX,aW]
  refine I.freeze 8 1 Z Z Z ?_;exact I.tq bO [] Z ad7 Z Z Z pe
 |false =>
 rw[B,bc ay]at d;rw[bc ay];refine bj b [(18,ae),(23,ae),(28,ae)] Z ?_ ?_
 .simp only[aA,cP.aw,cP.aE,dY.aw,dY.aE,cH.aw,cH.aE,cI.aw,cI.aE,cF.aw,cF.aE,a,f,j,g,r,lI,wH,fZ,gm,aX,aW]
 refine I.cQ d [] Z ?_;have v:=hT.sZ (k:=k) (t:=t) (by_:=by_) (by have:=uN 1 y.sa λx G=>(y.sn x G).1;omega) g B;have D:(dZ k w.1 by_ t).2.1.length=V w.1.2.1+1:=E8;have o:(dZ k w.1 by_ t).2.1.getD ((dZ k w.1 by_ t).2.1.length-1) (0,[])=di (cq w.1) k t:=by rw[D];simp[dZ,aj]
 have A:=v.a4 (di (cq w.1) k t) az;have AK:=kM A.2;have F:=jZ (di (cq w.1) k t).2;have J:=v.a3;have K:=c.n;unfold gw;generalize dZ k w.1 by_ t=s' at *;generalize di (cq w.1) k t=x at *;have u:((V s'.2.1:Int)-1).toNat=V s'.2.1-1:=aq;have E:s'.2.1.getD ((V s'.2.1:Int)-1).toNat dY.cy=x:=by rw[u];exact o
 refine bj b [(42,ae)] Z ?_ ?_
 .simp only[aA,E,cP.aw,cP.aE,dY.aw,dY.aE,cH.aw,cH.aE,cI.aw,cI.aE,cL.aw,cL.aE,a,c.s,c.n,c.l,cd,fZ,gm,aX,aW];omega
 rw[E];simp only[cL.aw];generalize fh x.2=ns at *;refine I.cm 4 (λi=>i<=V ns) (λi:Nat=>[(5,cE 0 0),(8,cE 1 0),(10,cE 2 0),(12,cE 3 0),(13,cI.sl ns),(14,dI i)])
  (λi=>[rK w,.cells 30 pz,wo s',rK (s',(ns.take i).foldl jF w.2.1,w.2.2)]) (λi=>V ns-i) 0 Z ?_ Z ?_ Z aq ?_
 .simp
 .simp[cP.aw,dY.aw,cH.aw,cI.aw]
 intro i hi;by_cases h:i<V ns
 .have p:ns.getD i cI.cy=ns.getD i 0:=rfl;have z:=rB jF w.2.1 h;have C:=gL w.2.1 (ns.take i);rw[List.length_take]at C;generalize(ns.take i).foldl jF w.2.1=a2 at *;have e:=cI.aw a2;refine bj b [(58,W)] Z ?_ (I.aQ (i+1) Z ?_ ?_ h aq)
  .simp[-aj,p,h,e,cI.aE,cd];omega
  .simp
  rw[z];simp[-aj,p,e]
 obtain rfl:i=V ns:=aq;rw[de];refine bj b [(58,ae)] Z ay (I.br Z Z ?_);refine cY b Z an (I.freeze 8 1 Z Z Z ?_);exact I.tq bO [] Z ay Z Z Z pe
abbrev CX(n:Nat)(l:List Int):bq:=.eX 3 1 n (cI.fn l)
abbrev oL(b:Nat)(st:bA)(ms:List Int)(n q m:Nat):List A:=[m6 cP st.1,m6 dY st.2.1,m6 cH st.2.2,m6 cI ms,.bp b (.sl n 1 q m)]
def CY(w:bS)(b:iw w.1)(g:V w.2.1<=4000000)(d:V w.2.2<=4000000):Ev X 30 [sJ w] [] (.e (.agg (oL 0 w.1 w.2.1 (V w.2.2) 0 (V w.2.2)))) [CX (V w.2.2) w.2.2]:=by
 refine Ev.lA bO Tryz.func30 rfl rfl rfl λf=>?_;have c:b5 X [(74,Ax)]:=.cons G8 .nil;refine bj c [(2000009,W),(3000013,W)] Z ?_ ?_
 .simp only[aA,cP.aw,cP.aE,dY.aw,dY.aE,cH.aw,cH.aE,b,aX,aW,show i3.bytes=8 from Z,ox];and_intros<;>omega
 refine I.kR [rK w,.cells 30 (oL 2 w.1 w.2.1 (V w.2.2) 0 (V w.2.2)),CX (V w.2.2) w.2.2] Z ?_ ?_
 .simp[cP.aw,dY.aw,cH.aw,ry];rfl
 refine I.nJ () [2] Z Z Z Z Z Z Z Z ?_ Z Z Z Z (λj a=>absurd a ay);simp
abbrev tL(b:Nat)(st:bA)(ms:List Int)(n q m:Nat):D:=.gI [.agg (oL b st ms n q m),.bX (.c (.bool W))]
abbrev VX(w:bS):eP:=vg [sJ w] [] (.e (.agg (oL 0 w.1 w.2.1 (V w.2.2) 0 (V w.2.2)))) [CX (V w.2.2) w.2.2]
abbrev alh(st:bA)(ms:List Int)(l:List Int)(a:List bz):List bq:=[rK (st,ms,l),.cells 30 pz,CX (V l) l,.cells 30 (oL 2 st ms (V l) 0 (V l)),.dk 83 2 (V a) (cP.fn a)]
def Mm(st:bA)(ms lf:List Int)(no:Int)(r:List Int)(t:lf=no::r)(q:iw st)(u:V ms<=4000000)(x:V lf<=4000000):Ev X 64 [sJ (st,ms,lf)] [] (tL 0 (fi no ms st.1,st.2) ms (V lf) 1 (V lf-1)) [CX (V lf) lf]:=by
 refine Ev.lA bO Tryz.func64 rfl rfl rfl λz=>?_;have d:b5 X [(30,VX (st,ms,lf)),(116,VT)]:=.cons (vh (CY (st,ms,lf) q u x)) (.cons adA .nil);have s:0<V lf:=fC;refine bj d [(13,ae),(1000005,W)] Z ek (I.jK 5 83 2 Z Z ?_);refine cY d Z an ?_;have w:=q.p;refine I.cm 5 (λi=>i<=V st.1) (λi:Nat=>[(1,cE 0 0),(2,cE 1 0),(4,cE 3 0),(5,.e (.bX (.dk 4 2 (V (stepT no ms st.1 i)) (cP.fn (stepT no ms st.1 i))))),(6,dI i)])
  (λi=>alh st ms lf (stepT no ms st.1 i)) (λi=>V st.1-i) 0 Z ?_ Z ?_ Z aq ?_
 .simp[stepT,fi]
 .simp[stepT,fi,cP.aw,dY.aw,cH.aw,cI.aw]
 intro i hi;by_cases h:i<V st.1
 .have f:st.1.getD i cP.cy=st.1.getD i (0,[]):=rfl;have l:=q.p2 _ (gv h (0,[]));have b:=Qc (no:=no) (ms:=ms) h;have y:=Qd no ms st.1 hi;have n:lf.getD (Int.toNat 0) cI.cy=no:=ek;generalize stepT no ms st.1 i=a at *;generalize st.1.getD i (0,[])=p at *;by_cases m:p.1=no
  .have g:j1 no ms p=ei p ms:=by unfold j1;exact c9
   rw[g]at b;have j:=cP.cw a (ei p ms);have v:(ei p ms).2.length<=V p.2:=wz _ _;have c:(p.1,p.2)=p:=rfl;by_cases k:(ei p ms).2.length=0
   .rw[bh k]at b;refine bj d [(21,W),(36,W),(44,ae)] Z ?_ (I.aQ (i+1) Z ?_ ?_ h aq)
    .simp only[aA,bZ,f,n,c,l,fO.aw,fO.aE,cI.aw,cI.aE,cd,bu,dm,fR,aX,aW];and_intros<;>first|exact m|omega
    .rw[b];simp
    rw[b];simp
   rw[bc k]at b;refine bj d [(21,W),(36,W),(44,W)] Z ?_ (I.aQ (i+1) Z ?_ ?_ h aq)
   .simp only[aA,bZ,f,n,c,l,fO.aw,fO.aE,cI.aw,cI.aE,cd,show i83.bytes=32 from Z,bu,dm,fR,aX,aW];and_intros<;>first|exact m|omega
   .rw[b];simp only[aA.eu,aA,bZ,f,c,fO.aw,cI.aw,cj,eY,aX,aW];and_intros<;>first|exact eW.same|exact j|rfl|omega
   rw[b];simp only[aA.eu,aA,bZ,f,c,fO.aw,cI.aw,cj,eY,aX,aW];and_intros<;>first|exact eW.same|exact j|rfl|omega
  have g:j1 no ms p=p:=by unfold j1;exact c9
  rw[g]at b;have j:=cP.cw a p;by_cases k:V p.2=0
  .rw[bh k]at b;refine bj d [(21,W),(36,ae),(44,ae)] Z ?_ (I.aQ (i+1) Z ?_ ?_ h aq)
   .simp only[aA,bZ,f,n,cd,bu,dm,eC,dO,aX,aW];and_intros<;>first|exact m|omega
   .rw[b];simp
   rw[b];simp
  rw[bc k]at b;refine bj d [(21,W),(36,ae),(44,W)] Z ?_ (I.aQ (i+1) Z ?_ ?_ h aq)
  .simp only[aA,bZ,f,n,cd,show i83.bytes=32 from Z,bu,dm,eC,dO,aX,aW];and_intros<;>first|exact m|omega
  .rw[b];simp only[aA.eu,aA,bZ,f,cj,eY,aX,aW];and_intros<;>first|exact eW.same|exact j|rfl|omega
  rw[b];simp only[aA.eu,aA,bZ,f,cj,eY,aX,aW];and_intros<;>first|exact eW.same|exact j|rfl|omega
 obtain rfl:i=V st.1:=aq;have o:stepT no ms st.1 (V st.1)=fi no ms st.1:=by unfold stepT;simp
 rw[o];refine bj d [(21,ae)] Z ay (I.br Z Z ?_);refine cY d Z c9 (I.lz () [2] Z Z Z Z Z Z Z Z Z ?_ Z Z Z Z pe);simp only[aA.eu,aA,dD,aX,aW];and_intros<;>first|exact eW.same|rfl|grind
def Qj(k:Int)(s:bA)(keep:List Int)(a:iw s)(b:SmS s)(hk:fX k s=ae):Ev X 60 [dI k,n5 s,cI.sl keep] [] (.gI [.agg pz,.bX (.c (.bool ae))]) []:=by
 refine Ev.tu Tryz.func60 rfl rfl rfl λe=>?_;have d:b5 X [(70,uI)]:=.cons yD .nil;refine bj d [(15,W)] Z ?_ ?_
 .simp only[aA,cP.aw,cP.aE,dY.aw,dY.aE,cH.aw,cH.aE,hk,a.p,a.sn,aX,aW,gm];exact b.sm
 refine I.freeze 6 1 Z Z Z ?_;refine I.tq bO [] Z ?_ Z Z Z pe;simp
abbrev agK(s:bA)(a:List dn)(l:List Int):List bq:=[wo s,.cells 30 pz,.cells 30 [m6 cP s.1,.dk 4 2 (V a) (dY.fn a),m6 cH s.2.2,iI,.bp 5 (.sl (V l) 1 0 (V l))],wo s,.dk 42 2 (V a) (dY.fn a),CX (V l) l]
def Qk(k:Int)(s:bA)(keep:List Int)(g:iw s)(n:SmS s)(hk:fX k s=W):Ev X 60 [dI k,n5 s,cI.sl keep] [] (tL 0 (s.1,s.2.1.filter (λx=>keep.contains x.1),s.2.2) (ik (s.2.1.filter λx=>keep.contains x.1)) (V (s.1.map (·.1))) 0 (V (s.1.map (·.1)))) [CX (V (s.1.map (·.1))) (s.1.map (·.1))]:=by
 refine Ev.lA bO Tryz.func60 rfl rfl rfl λv=>?_;have c:b5 X [(70,uI),(74,Ax),(69,I3),(68,Co)]:=.cons yD (.cons G8 (.cons NX (.cons I8 .nil)));have w:=g.p;have o:=g.sn;refine bj c [(15,ae),(1000006,W)] Z ?_ ?_
 .simp only[aA,cP.aw,cP.aE,dY.aw,dY.aE,cH.aw,cH.aE,hk,g.p,g.sn,g,aX,aW,fZ];exact n.sm
 refine I.iQ 2 1 42 2 (dY.fn []) Z Z ?_;refine I.tO 2 4 3 1 (cI.fn []) Z Z ?_;refine cY c Z an ?_;refine I.cm 6 (λi=>i<=V s.2.1) (λi:Nat=>[(2,cI.sl keep),(4,cE 0 0),(6,cE 1 0),(8,cE 2 0),(9,cE 3 0),(10,dI i)])
  (λi=>agK s ((s.2.1.take i).filter λx=>keep.contains x.1) []) (λi=>V s.2.1-i) 0 Z ?_ Z ?_ Z aq ?_
 .simp
 .simp[cP.aw,dY.aw,cH.aw]
 intro i hi;have m:=yT s.2.1 (λx=>keep.contains x.1) hi;by_cases h:i<V s.2.1
 .have d:s.2.1.getD i dY.cy=s.2.1.getD i (0,[]):=rfl;have b:(s.2.1.take (i+1)).filter (λx=>keep.contains x.1)=if keep.contains (s.2.1.getD i (0,[])).1=W then(s.2.1.take i).filter (λx=>keep.contains x.1)++[s.2.1.getD i (0,[])]else(s.2.1.take i).filter (λx=>keep.contains x.1):=we h (0,[]);generalize(s.2.1.take i).filter (λx=>keep.contains x.1)=a at *;generalize s.2.1.getD i (0,[])=x at *;cases l:keep.contains x.1 with
  |true =>
   rw[bh l]at b;have j:=dY.cw a x;refine bj c [(30,W),(40,W)] Z ?_ (I.aQ (i+1) Z ay ?_ h aq)
   .simp[-aj,-List.contains_eq_mem,d,h,l,cI.aw,cI.aE,cd,show i42.bytes=32 from Z];omega
   rw[b];simp only[aA.eu,aA,bZ,d,cj,eY,aX,aW];and_intros<;>first|exact eW.same|exact j|rfl|omega
  |false =>
   rw[bc fC]at b;refine bj c [(30,W),(40,ae)] Z ?_ (I.aQ (i+1) Z ay ?_ h aq)
   .simp[-aj,-List.contains_eq_mem,d,h,l,cI.aw,cI.aE,cd];omega
   simp_all
 obtain rfl:i=V s.2.1:=aq;rw[de]at m⊢;have t:=Ha s.2.1 λx=>keep.contains x.1;have q:mj (s.1,s.2.1.filter (λx=>keep.contains x.1),s.2.2):=λx j=>g.s2 x (iz.1 j).1;have r:=n.aN;generalize s.2.1.filter (λx=>keep.contains x.1)=sn at *;refine bj c [(30,ae)] Z ay (I.br Z Z ?_);refine cY c Z an ?_;refine I.cm 6 (λi=>i<=V s.1) (λi:Nat=>[(2,cI.sl keep),(4,cE 0 0),(6,cE 1 0),(8,cE 2 0),(11,dI i)])
  (λi=>agK s sn ((s.1.take i).map (·.1))) (λi=>V s.1-i) 0 Z ay Z ay Z aq ?_
 intro i hi;have u:V ((s.1.take i).map (·.1))=i:=c6;by_cases h:i<V s.1
 .have d:s.1.getD i cP.cy=s.1.getD i (0,[]):=rfl;have b:=map_take (f:=λp:bz=>p.1) h (0,[]);generalize(s.1.take i).map (λp:bz=>p.1)=a at *;generalize s.1.getD i (0,[])=p at *;have j:=cI.cw a p.1;refine bj c [(57,W)] Z ?_ (I.aQ (i+1) Z ay ?_ h aq)
  .simp[-aj,d,h,cd,show i3.bytes=8 from Z];omega
  rw[b];simp only[aA.eu,aA,bZ,d,cj,eY,aX,aW];and_intros<;>first|exact eW.same|exact j|rfl|omega
 obtain rfl:i=V s.1:=aq;rw[de];refine bj c [(57,ae)] Z ay (I.br Z Z ?_);refine cY c Z ek (I.lz () [5] Z Z Z Z Z Z Z Z Z ?_ Z Z Z Z pe);simp[dY.aw]
def Dw(k:Int)(w:bS)(by_:Int)(t:List bF)(a:Qg w)(A:fJ k w=W)(G:1<=by_/\by_<=2)(q:cT t=W)(z:fx k w.1 t=ae):
  Ev X 7 [dI k,sJ w,dI by_,cF.sl t] [] (tL 0 (gw k w by_ t).1 (gw k w by_ t).2.1 (V w.2.2) 0 (V w.2.2)) [CX (V w.2.2) w.2.2]:=by
 refine Ev.lA bO Tryz.func7 rfl rfl rfl λK=>?_;have d:b5 X [(26,yE),(27,Gt),(28,c28),(30,VX w),(31,As),(32,Cm)]:=.cons Eu (.cons IC (.cons t28 (.cons (vh (CY w a.s a.n a.l)) (.cons GH (.cons GG .nil)))));have E:=a.m;have f:(w.1,w.2.1,w.2.2)=w:=rfl;have p:=gT.1 A;have hT:=p.told.ac1;have F:=hT.Dq;have j:=yu (X:=X) k w.1 by_ t p.key a.s F (fI q) hT.dC;rw[z,bc ay]at j;refine bj d [(18,ae),(23,ae),(28,ae)] Z ?_ ?_
 .simp only[aA,cP.aw,cP.aE,dY.aw,dY.aE,cH.aw,cH.aE,cI.aw,cI.aE,cF.aw,cF.aE,f,A,G,q,E,lI,wH,fZ,gm,aX,aW]
 refine I.cQ j [] Z ?_;have o:=hT.sZ (k:=k) (t:=t) (by_:=by_) (by have:=uN 1 p.sa λx D=>(p.sn x D).1;omega) q z;have y:(dZ k w.1 by_ t).2.1.length=V w.1.2.1+1:=E8;have b:(dZ k w.1 by_ t).2.1.getD ((dZ k w.1 by_ t).2.1.length-1) (0,[])=di (cq w.1) k t:=by rw[y];simp[dZ,aj]
 have u:=o.a4 (di (cq w.1) k t) az;have H:=kM u.2;have C:=jZ (di (cq w.1) k t).2;have AK:=o.a3;have J:=a.n;unfold gw;generalize dZ k w.1 by_ t=s' at *;generalize di (cq w.1) k t=x at *;have g:((V s'.2.1:Int)-1).toNat=V s'.2.1-1:=aq;have B:s'.2.1.getD ((V s'.2.1:Int)-1).toNat dY.cy=x:=by rw[g];exact b
 refine bj d [(42,ae)] Z ?_ ?_
 .simp only[aA,B,cP.aw,cP.aE,dY.aw,dY.aE,cH.aw,cH.aE,cI.aw,cI.aE,cL.aw,cL.aE,f,a.s,a.n,a.l,cd,fZ,gm,aX,aW];omega
 rw[B];simp only[cL.aw];generalize fh x.2=ns at *;refine I.cm 5 (λi=>i<=V ns) (λi:Nat=>[(5,cE 0 0),(8,cE 1 0),(10,cE 2 0),(12,cE 4 0),(13,cI.sl ns),(14,dI i)])
  (λi=>[rK w,.cells 30 pz,wo s',CX (V w.2.2) w.2.2,.cells 30 (oL 3 s' ((ns.take i).foldl jF w.2.1) (V w.2.2) 0 (V w.2.2))]) (λi=>V ns-i) 0 Z ?_ Z ?_ Z aq ?_
 .simp
 .simp
 intro i hi;by_cases h:i<V ns
 .have c:ns.getD i cI.cy=ns.getD i 0:=rfl;have r:=rB jF w.2.1 h;have v:=gL w.2.1 (ns.take i);rw[List.length_take]at v;generalize(ns.take i).foldl jF w.2.1=a2 at *;have e:=cI.aw a2;refine bj d [(58,W)] Z ?_ (I.aQ (i+1) Z ?_ ?_ h aq)
  .simp[-aj,c,h,e,cI.aE,cd];omega
  .simp
  rw[r];simp[-aj,c,e]
 obtain rfl:i=V ns:=aq;rw[de];refine bj d [(58,ae)] Z ay (I.br Z Z ?_);refine cY d Z an (I.lz () [3] Z Z Z Z Z Z Z Z Z ?_ Z Z Z Z pe);simp
def i86:TI:=⟨1,8,ae,TypeDesc.map 3 4,[.val (.map af)],[]⟩
def g86:eN ag 86 i86:=⟨Tryz.underlying86,rfl,⟨Tryz.t86,_,gC Tryz.type86,rfl,rfl,rfl,rfl,⟨#[],rfl⟩,rfl⟩,λh=>absurd Z h⟩
def n7:dA ag ((86,i86)::tt):=dA.cons g86 bO
abbrev dMv(v:ah):D:=jA v
abbrev LN(a:ah)(l:List Int):bq:=.cJ (yB a l)
def acY(c:ah)(a l:List Int):Ev X 45 [dMv c,cI.sl l] [LN c a] (.gI []) [LN c (a++l)]:=by
 refine Ev.bQ Tryz.func45 rfl λe=>?_;have d:=e.sl 1 Z;refine I.gZ gB n7 b5.nil [] 100 Z an (I.cm 1 (λi=>i<=V l) (λi:Nat=>[(0,dMv c),(6,cI.sl l),(7,dI (V l)),(8,dI i)]) (λi=>[LN c (a++l.take i)]) (λi=>V l-i) 0 Z ay Z ay Z aq ?_);intro i hi;by_cases h:i<V l
 .have f:l.getD (i:Int).toNat cI.cy=l.getD i 0:=fC;refine I.gZ gB n7 b5.nil [(9,W)] 100 Z c6 (I.gH (bU.acQ Z Tryz.underlying86 Tryz.underlying3 (b:=0) Z Z Z Z) Z Z ?_);refine I.gZ gB n7 b5.nil [] 100 Z ek (I.aQ (i+1) Z ay ?_ h aq);simp_all
 obtain rfl:i=V l:=aq;rw[de];refine I.gZ gB n7 b5.nil [(9,ae)] 100 Z ay (I.br Z Z ?_);exact cM.sX [0] Z ay Z Z Z sd
def GK(a:ah)(l:List Int)(n:Int):Ev X 47 [dI n,b7 (.rp [.val a])] [LN a l] (dB (!l.contains n)) [LN a l]:=by refine Ev.bQ Tryz.func47 rfl λd=>?_;refine I.gZ gB n7 b5.nil [] 100 Z an ?_;refine I.gH (bU.Yc Z Tryz.underlying86 Tryz.underlying3 (λw=>Tryz.zeroValue4 w) (b:=0) Z Z Z) Z Z ?_;exact I.gZ gB n7 b5.nil [] 100 Z an (I.dt [0] Z ay Z Z Z sd)
def PH(p:bz)(n:Int):Ev X 49 [vN p,b7 (.rp [.int .i64 n])] [] (dB (p.1==n)) []:=by refine Ev.bQ Tryz.func49 rfl λa=>?_;exact bt Z an (I.bE Z)
def Cs(x:dn)(b:V x.2<=4000000)(a:V (cZ x.2)<=4000000):Ev X 35 [Ke x] [] (cI.sl (jG x)) []:=by refine Ev.bQ Tryz.func35 rfl λc=>?_;refine bt Z an ?_;refine I.cQ (xB x b a) [] Z ?_;exact bt Z an (I.bE Z)
end
section
variable {X:Cx ag}
abbrev KpI:={q:List Int // V q<=5}
def Qh(m:Nat)(b:Nat->Int)(g:Bytes b)(k:Nat)(hk:k<=500000)(l:m<=1048576):
  e9 (ι:=KpI) X 62 [cE 0 0] [pD m b k] (λq=>cI.sl q.1) (λ_=>[pD m b (k+5:Nat)]):=by
 refine e9.sH Tryz.func62 rfl rfl rfl λo=>?_;refine ba [(1000002,W)] Z an (I.jK 3 3 1 Z Z ?_);refine bt Z an (I.cm 2 (λs:Nat×List Int=>1<=s.1/\s.1<=6/\V s.2+1<=s.1) (λs=>[(0,cE 0 0),(3,.e (.bX (.dk 1 1 (V s.2) (cI.fn s.2)))),(4,dI s.1)]) (λs=>[pD m b (k+(s.1-1):Nat),.dk 3 1 (V s.2) (cI.fn s.2)]) (λs=>6-s.1) (1,[]) Z ay Z ay Z ⟨by decide,by decide,by decide⟩ ?_);rintro⟨n,a⟩ ⟨j,f,d⟩;simp only at j f d;by_cases h:n<=5
 .refine ba [(7,W)] Z c9 (I.cP (iH m b g (k+(n-1)) 2 aq l aq) [0] Z fe ?_);rintro⟨v,v0,v1⟩;by_cases i:v=0
  .have c:=cI.cw a (n:Int);refine ba [(12,W)] Z ?_ (I.aQ (n+1,a++[(n:Int)]) Z ?_ ?_ ⟨by omega,by omega,by grind⟩ aq)
   .simp only[aA,i,cd,show i3.bytes=8 from Z,kh,aX,aW];and_intros<;>omega
   .simp only[aA.eu,aA,cj,eY,aX,aW];and_intros<;>first|exact eW.same|exact c|rfl|omega
   simp only[aA.eu,aA,cj,eY,aX,aW];and_intros<;>first|exact eW.same|exact c|rfl|omega
  refine ba [(12,ae)] Z ek (I.aQ (n+1,a) Z ay ?_ ⟨by omega,by omega,by exact c9⟩ aq);exact c9
 obtain rfl:n=6:=aq;refine ba [(7,ae)] Z ay (I.br Z Z ?_);refine bt Z an (I.pG ⟨a,by omega⟩ (I.dt [0] Z ?_ Z Z Z Dr));simp
end
def F4.fn(l:List Int):F4 (V l) (cI.fn l):=λ_ _=>⟨_,_,rfl⟩
def D7.ta{s:bA}(h:D7 s):TA s:=by refine⟨⟨h.pl,λp e=>⟨(h.p p e).no,(h.p p e).len.2⟩,by have:=h.sl;omega,λx a=>⟨(h.s x a).no,?_⟩,h.hl,λx a=>(h.h x a).2⟩,h.ac0,h.Ck,λx a=>(h.h x a).1⟩;obtain⟨no,t,_,_,c,rfl⟩:=(h.s x a).ex;have j:=pr c;refine⟨by simpa[di]using j,λy d=>?_⟩;simp only[di,ja]at d;obtain⟨f,i,rfl⟩:=d;have g:=((lT.1 c).1 f i).2;simp only[fG,cu,bu]at g;have:=lO f.2;simp only[nO,kg];omega
structure Oh(w:bS):Prop where
 s:TA w.1
 m:V w.2.1<=10000
 l:V w.2.2<=30
section
variable {X:Cx ag}
abbrev lfB(v:ah)(l:List Int):bq:=.cJ (PM (OW v (V l) (cI.fn l)))
abbrev spI:bq:=.cJ (jS 3 1 (.nil af) 0 [])
abbrev Y5(v:ah)(w:bS):List A:=[m6 cP w.1.1,m6 dY w.1.2.1,m6 cH w.1.2.2,m6 cI w.2.1,.c (.val v)]
abbrev Dx(v:ah)(w:bS):bq:=.cells 30 (Y5 v w)
abbrev tV(v:ah)(w:bS):D:=.gI [.agg (Y5 v w),.bX (.c (.bool W))]
abbrev JU:D:=.gI [.agg [.any,.any,.any,.any,.any],.bX (.c (.bool ae))]
def Mn(w:bS)(e:iw w.1)(f:V w.2.1<=4000000)(a:V w.2.2<=4000000)(g:w.2.2≠[]):e9 (ι:=ah) X 64 [sJ w] [spI] (λv=>tV v (gz w)) (λv=>[lfB v (gz w).2.2]):=by
 obtain⟨st,ms,d⟩:=w;cases d with
 |nil=>simp_all
 |cons no r =>
  exact e9.S7 (e9.abV (cI.fn r) (Mm st ms (no::r) no r Z e f a) (by show 1+V r<=V r+1;omega) (λj c=>(cI.Y4 no r Z j c).symm) (F4.fn r)) (λ_ _ _ h=>h.1) fe fe Z Z
def Mo(w:bS)(d:iw w.1)(a:V w.2.1<=4000000)(c:w.2.2=[]):e9 (ι:=Unit) X 64 [sJ w] [] (λ_=>JU) (λ_=>[]) :=
 (Ml w d a c).uW.le fe (λ_=>by simp)
def Y6(k:Int)(s:bA)(keep:List Int)(c:iw s)(a:SmS s)(hk:fX k s=W):e9 (ι:=ah) X 60 [dI k,n5 s,cI.sl keep] [spI] (λv=>tV v (Qi k s keep).1) (λv=>[lfB v (Qi k s keep).1.2.2]):=by have e:Qi k s keep=(((s.1,s.2.1.filter λx=>keep.contains x.1,s.2.2),ik (s.2.1.filter λx=>keep.contains x.1),s.1.map (·.1)),W):=bh hk;rw[e];exact e9.S7 (e9.abV (cI.fn (s.1.map (·.1))) (Qk k s keep c a hk) aq (λj d=>by simp) (F4.fn _)) (λ_ _ _ h=>h.1) fe fe Z Z
def VY(k:Int)(w:bS)(by_:Int)(t:List bF)(d:Qg w)(e:fJ k w=W)(c:1<=by_/\by_<=2)(a:cT t=W)(f:fx k w.1 t=ae):e9 (ι:=ah) X 7 [dI k,sJ w,dI by_,cF.sl t] [spI] (λv=>tV v (gw k w by_ t)) (λv=>[lfB v w.2.2]) :=
 e9.S7 (e9.abV (cI.fn w.2.2) (Dw k w by_ t d e c a f) aq (λj g=>by simp) (F4.fn _)) (λ_ _ _ h=>h.1) fe fe Z Z
def VZ(k:Int)(w:bS)(by_:Int)(t:List bF)(c:Qg w)(h:(mo k w by_ t).2=ae):e9 (ι:=Unit) X 7 [dI k,sJ w,dI by_,cF.sl t] [] (λ_=>JU) (λ_=>[]):=by have a:=nb (X:=X) k w by_ t c;rw[h]at a;exact a.uW.le fe (λ_=>by simp)
inductive KV (ι:Type)
 |n
 |EB (q:ι)
 |Dy (q:ι)
 |done (q:ι) (v:ah)
def Hb(p:ι->Bool):KV ι->(Nat->Bool)->Prop
 |.n,D=>D 5=ae/\D 6=ae
 |.EB q,D=>D 5=W/\p q=ae
 |.Dy q,D=>D 5=W/\D 6=ae/\p q=W
 |.done q _,D=>D 5=W/\D 6=W/\p q=W
abbrev xV0(u:Int)(v:ah)(w:bS)(r:List D):List D:=.e (.agg (Y5 v w))::cE 0 0::dI u::dI (1+u)::cE 0 0::r
abbrev xV{k:Nat}(u:Int)(v:ah)(w:bS):KV (sG k)->Nat->D
 |.n,i=>(xV0 u v w [.any,.any,.any,.any,.any,cE 4 0,.any,.any]).getD i .any
 |.EB q,i=>(xV0 u v w [cF.sl q.1.1,JU,JU,.e (.agg [.any,.any,.any,.any,.any]),dB ae,cE 4 0,.any,dB ae]).getD i .any
 |.Dy q,i=>(xV0 u v w [cF.sl q.1.1,.any,.any,.any,.any,cE 4 0,.any,.any]).getD i .any
 |.done q v',i=>(xV0 u v w [cF.sl q.1.1,tV v' (gw 7 w (1+u) q.1.1),tV v' (gw 7 w (1+u) q.1.1),.e (.agg (Y5 v' (gw 7 w (1+u) q.1.1))),dB W,cE 4 0,.any,dB W]).getD i .any
abbrev Wd{k1:Nat}(m:Nat)(b:Nat->Int)(k:Int)(c:Bool):KV (sG k1)->bq
 |.n=>match c with
  |false=>pD m b k
  |true=>pD m b (k+1)
 |.EB q|.Dy q|.done q _=>pD m b q.1.2
abbrev pmV{k1:Nat}(v:ah)(w:bS):KV (sG k1)->bq
 |.done _ v'=>lfB v' w.2.2
 |_=>lfB v w.2.2
abbrev tlV{k1:Nat}(u:Int)(w:bS)(a c:Bool)(d:KV (sG k1)):List bq:=match a,c with
 |false,_=>[]
 |true,ae=>[.cells 30 pz]
 |true,W=>match d with
  |.done q v'=>[Dx v' (gw 7 w (1+u) q.1.1)]
  |_=>[.cells 30 [.any,.any,.any,.any,.any]]
abbrev SV{k1:Nat}(m:Nat)(b:Nat->Int)(k:Int)(u:Int)(v:ah)(w:bS)(a:KV (sG k1))(D:Nat->Bool):List bq :=
 Wd m b k (D 2) a::pmV v w a::.cells 30 pz::Dx v w::tlV u w (D 10) (D 11) a
section
variable {m:Nat}{b:Nat->Int}{u:Int}{k1:Nat}{w:bS}{p:sG k1->Bool}
def Hb.upd{a:KV (sG k1)}{D:Nat->Bool}(h:Hb p a D)(d:aC 5 n=ae)(c:aC 6 n=ae):Hb p a (fz n D):=by have e:fz n D 5=D 5:=dL d;have f:fz n D 6=D 6:=dL c;cases a<;>simp only[Hb,e,f]at*<;>exact h
def _root_.Go.AM.sU.qV(h2:aC 2 n=ae)(l:aC 5 n=ae)(i:aC 6 n=ae)(e:aC 10 n=ae)(f:aC 11 n=ae)(h:∀a D R B T,Hb p a D->(∀j,k7 all n j=W->D j=W)->OA X N all o (od all J (xV u v w a) n) (R::B::.cells 30 pz::Dx v w::T) (xV u v w a n) (R::B::.cells 30 pz::Dx v w::T)):
  sU X N all J (xV (k:=k1) u v w) (SV m b k u v w) (Hb p) n o :=
 sU.of λa D g h1 _=>by have e2:fz n D 2=D 2:=dL h2;have d:fz n D 10=D 10:=dL e;have c:fz n D 11=D 11:=dL f;refine⟨g.upd l i,?_⟩;show OA X N all o _ (SV m b k u v w a D) _ (Wd m b k (fz n D 2) a::pmV v w a::.cells 30 pz::Dx v w::tlV u w (fz n D 10) (fz n D 11) a);rw[e2,d,c];exact h a D _ _ _ g h1
def _root_.Go.AM.sU.qVo(hT:dA ag T)(hC:b5 X CT)(ho:aA obs)(h:∀a R B c,A5 T CT [] all (od all J (xV (k:=k1) u v w a) n) (R::B::.cells 30 pz::Dx v w::c) o=O (xV u v w a n,af,obs):=by intro a R B c;cases a<;>rfl)(h2:aC 2 n=ae:=by rfl)(g:aC 5 n=ae:=by rfl)(f:aC 6 n=ae:=by rfl)(d:aC 10 n=ae:=by rfl)(e:aC 11 n=ae:=by rfl):sU X N all J (xV (k:=k1) u v w) (SV m b k u v w) (Hb p) n o :=
 .qV h2 g f d e λa _ R B c _ _=>OA.eval hT hC (h a R B c) ho
def _root_.Go.AM.sU.qVs(hT:dA ag T)(hC:b5 X CT)(hb:∀q R B a,A5 T CT [] all (od all J (xV (k:=k1) u v w (.EB q)) n) (R::B::.cells 30 pz::Dx v w::a) o=O (xV u v w (.EB q) n,af,[]):=by intro q R B a;rfl)(i:∀q v' R B a,A5 T CT [] all (od all J (xV (k:=k1) u v w (.done q v')) n) (R::B::.cells 30 pz::Dx v w::a) o=O (xV u v w (.done q v') n,af,[]):=by intro q v' R B a;rfl)(r:k7 all n 5=W:=by rfl)(j:k7 all n 6=W:=by rfl)(h2:aC 2 n=ae:=by rfl)(h:aC 5 n=ae:=by rfl)(f:aC 6 n=ae:=by rfl)(c:aC 10 n=ae:=by rfl)(d:aC 11 n=ae:=by rfl):sU X N all J (xV (k:=k1) u v w) (SV m b k u v w) (Hb p) n o :=
 .qV h2 h f c d λg D R B a e h1=>by
  have d5:=h1 5 r;have l:=h1 6 j;cases g with
  |n=>exact absurd d5 (by rw[e.1];simp)
  |EB q=>exact OA.fU hT hC (hb q R B a)
  |Dy q=>exact absurd l (by rw[e.2.1];simp)
  |done q v'=>exact OA.fU hT hC (i q v' R B a)
def oq{e:KV (sG k1)}{D:Nat->Bool}{a c d:Bool}(h:D 2=a)(f:D 10=c)(g:D 11=d):SV m b k u v w e D=Wd m b k a e::pmV v w e::.cells 30 pz::Dx v w::tlV u w c d e:=fC
end
abbrev fW9:Fr:=[(0,cE 0 0),(2,cE 2 0),(3,cE 3 0)]
abbrev b9W(m:Nat)(b:Nat->Int)(k:Nat)(w:bS)(v:ah):List bq:=[pD m b k,lfB v w.2.2,.cells 30 pz,Dx v w]
def Y7{w:bS}{by_:Int}{t:List bF}(h:(fJ k w&&!fx k w.1 t)=ae):(mo k w by_ t).2=ae:=by
 unfold mo;split
 .rename_i a;split
  .rfl
  rename_i c;unfold JR at a;grind
 simp
end
def agL(h:o.op=.call {callee:=.builtin .append,args:=#[x,y],argTypes:=#[28,28]}):oc ag o x y 3 i3 :=
 ⟨⟨28,28,i28,i28,h,bO _ _ Z,rfl,bO _ _ Z,rfl⟩,bO _ _ Z,by decide,by decide⟩
abbrev SwI:={q:bS×Nat // Oh q.1/\q.2<=3000}
def TW.dr{w:bS}(h:TW n w)(a:n<=10000):Oh w:=⟨h.s,by have:=h.m;omega,by have:=h.l;omega⟩
section
variable {X:Cx ag}[X.ln]
set_option maxRecDepth 20000 in
def Mp(m:Nat)(b:Nat->Int)(N:Bytes b)(H:m<=1048576):
  e9 (ι:=SwI) X 23 [cE 0 0] [pD m b (0:Nat)] (λq=>sJ q.1.1) (λq=>[pD m b q.1.2]):=by
 refine e9.tu bO Tryz.func23 rfl rfl rfl λhf=>?_;refine I.aeX 3 1 ?_;refine bt aK an (I.cP (LB m b N 0 aq H) [0] aK fe ?_);rintro⟨⟨s,k1⟩,hD,C,T⟩;simp only at hD C T;have hT:=hD.ta;refine bt aK an (I.cP (Qh m b N k1 aq H) [0] aK fe ?_);rintro⟨kp,hkp⟩;refine bt aK an ?_;apply I.ae9 (ι:={q:bS×ah // TW 6000 q.1}) (λ_=>fW9) (λq=>b9W m b (k1+5) q.1.1 q.1.2)
 .intro gf;have F:=TW.beg (k:=7) (keep:=kp) hT;cases hk:fX 7 s with
  |true =>
   refine I.cP (Y6 7 s kp hT.rF hT.smT.toSmS hk) [1] aK fe ?_;intro v;exact ba [(1000002,W)] aK an (gf ⟨((Qi 7 s kp).1,v),F⟩ _ _ aK ay)
  |false =>
   refine I.cQ (Qj 7 s kp hT.rF hT.smT.toSmS hk) [] aK (ba [(1000002,W)] aK an (I.abU 1 3 4 (λv=>OW v 0 (cI.fn [])) (λa M=>⟨.sl 0 0 (λ_ _=>ai) (bm _) aq (λh=>by cases h) (λi hi=>by omega) (λh=>by omega) (λi hi=>by omega) λi hi=>by omega,_,_,aK,λh=>by omega⟩) ee aK aK aK λv0=>?_));refine I.kR (b9W m b (k1+5) QG v0) aK ay ?_;exact gf ⟨(QG,v0),TW.nil⟩ _ _ aK ay
 rintro⟨⟨w0,v0⟩,Q⟩;simp only at Q;refine bt aK an (I.cP (iH m b N (k1+5) 4 aq H aq) [0] aK fe ?_);rintro⟨u0,u0l,u0h⟩;refine bt aK an (I.cm 4 (λq:bS×ah×Nat×Nat=>q.2.2.1<=3/\TW (6000+240*(3-q.2.2.1)) q.1/\q.2.2.2+500*q.2.2.1<=2600) (λq=>fW9++[(5,dI q.2.2.1)]) (λq=>b9W m b q.2.2.2 q.1 q.2.1) (λq=>q.2.2.1) (w0,v0,u0.toNat,k1+5+1) aK c9 aK ay aK ⟨by exact c9,Q.mono aq,by exact c9⟩ ?_);rintro⟨w,v,n,k⟩ ⟨Y,F,hk⟩;simp only at Y F hk;have J:=F.sz aq;by_cases hn:0<n
 .refine bM [(21,W)] aK c9 (I.cP (iH m b N k 3 aq H aq) [0] aK fe ?_);rintro⟨p,p0,p1⟩;by_cases hp:p=0
  .refine bM [(26,W),(1000006,W)] aK (by simp[hp]) ?_;have hv:=tS m b (k+1) 2 aq;have AK:aA [((k+1:Nat):Int)=((k+1:Nat):Int).toNat,xT b=xT (X6 (xT b)),Bytes (X6 (xT b)),((k+1:Nat):Int)<=4000000,m<=1048576,(1:Int)<=2,(2:Int)<=4000000]:=⟨rfl,rfl,N,by omega,H,by omega,(by decide:(2:Int)<=4000000)⟩
   obtain⟨u,hu⟩:∃u,u=oh m b (k+1) 2:=⟨_,rfl⟩;have S:aA [cd .i64 (1+u)]:=DD
   have z:b5 X [(24,c24)]:=.cons t24 .nil;have aa:=NM (X:=X) m b N (k+1+1) aq H;have K:∀q:sG (k+1+1),(fJ 7 w&&!fx 7 w.1 q.1.1)=W->e9 (ι:=ah) X 7 [dI 7,sJ w,dI (1+u),cF.sl q.1.1] [spI] (λv=>tV v (gw 7 w (1+u) q.1.1)) (λv=>[lfB v w.2.2]):=λq B=>by simp only[cu,iM]at B;exact VY 7 w (1+u) q.1.1 J B.1 aq q.2.1 B.2
   have R:∀q:sG (k+1+1),(fJ 7 w&&!fx 7 w.1 q.1.1)=ae->e9 (ι:=Unit) X 7 [dI 7,sJ w,dI (1+u),cF.sl q.1.1] [] (λ_=>JU) (λ_=>[]):=λq B=>VZ 7 w (1+u) q.1.1 J (Y7 B);refine I.abA gB (xV (k:=k+1+1) u v w) (SV m b ((k+1:Nat):Int) u v w) (Hb λq=>fJ 7 w&&!fx 7 w.1 q.1.1) .n ⟨aK,aK⟩ aK aK aK aK
    ⟨.qVo bO z (obs:=[]) an,.qVo bO z (obs:=[]) an,?_,.qVo bO z S,.qVo bO z (obs:=[]) an,?_,?_,.qVs bO z,.qVs bO z,.qVs bO z,?_,?_,.qVs bO z,an⟩ ?_
   .refine sU.of λA D o y g=>⟨o.upd aK aK,?_⟩
    have d5:D 5=ae:=g 5 (.inr aK);have d2:D 2=ae:=g 2 (.inl aK);have f:D 11=ae:=g 11 (.inr aK);cases A with
    |n =>
     cases d:D 10<;>(
      rw[oq d2 d f,oq (D:=fz 2 D) mW ((dL aK).trans d) ((dL aK).trans f),hu];exact gK (ds:=[]) bO z (U':=O _) aK AK)
    |EB q=>exact absurd o.1 c9
    |Dy q=>exact absurd o.1 c9
    |done q v'=>exact absurd o.1 c9
   .refine sU.ofI λA D o y g=>?_;have d5:D 5=ae:=g 5 (.inl aK);have G:D 6=ae:=g 6 (.inr aK);have d7:D 7=ae:=g 7 (.inr aK);have ak:D 8=ae:=g 8 (.inr aK);have Z:D 9=ae:=g 9 (.inr aK);have f:D 11=ae:=g 11 (.inr aK);have L:D 12=ae:=g 12 (.inr aK);have d2:D 2=W:=y 2 aK;cases A with
    |n =>
     cases d:D 10<;>(
      rw[oq d2 d f];refine⟨sG (k+1+1),_,_,oz.l7 aa [0] aK aK aK aK ay aK aK aK fe aK fe,λq=>?_⟩;cases B:(fJ 7 w&&!fx 7 w.1 q.1.1)with
      |false =>
       refine⟨.EB q,⟨λj c=>?_,mW,B⟩,aK,?_⟩
       .match j,c with
        |0,_|1,_|2,_|3,_|4,_|10,_|11,_|_+13,_=>rfl
        |5,c=>rw[d5]at c;cases c
        |6,c=>rw[G]at c;cases c
        |7,c=>rw[d7]at c;cases c
        |8,c=>rw[ak]at c;cases c
        |9,c=>rw[Z]at c;cases c
        |12,c=>rw[L]at c;cases c
       rw[oq (D:=fz 5 D) ((dL aK).trans d2) ((dL aK).trans d) ((dL aK).trans f)];rfl
      |true =>
       refine⟨.Dy q,⟨λj c=>?_,mW,(dL aK).trans G,B⟩,aK,?_⟩
       .match j,c with
        |0,_|1,_|2,_|3,_|4,_|10,_|11,_|_+13,_=>rfl
        |5,c=>rw[d5]at c;cases c
        |6,c=>simp
        |7,c=>simp
        |8,c=>simp
        |9,c=>simp
        |12,c=>simp
       .rw[oq (D:=fz 5 D) ((dL aK).trans d2) ((dL aK).trans d) ((dL aK).trans f)];rfl)
    |EB q=>exact absurd o.1 c9
    |Dy q=>exact absurd o.1 c9
    |done q v'=>exact absurd o.1 c9
   .refine sU.ofI λA D o y g=>?_;have d5:D 5=W:=y 5 aK;have G:D 6=ae:=g 6 (.inl aK);have d7:D 7=ae:=g 7 (.inr aK);have ak:D 8=ae:=g 8 (.inr aK);have Z:D 9=ae:=g 9 (.inr aK);have f:D 11=ae:=g 11 (.inr aK);have L:D 12=ae:=g 12 (.inr aK);have d2:D 2=W:=y 2 aK;cases A with
    |n=>exact absurd d5 Kn
    |EB q =>
     cases d:D 10<;>(
      rw[oq d2 d f];refine⟨Unit,_,_,oz.ri (R q o.2) aK aK aK (lD.agg 1 4 1 aK aK (PM.DN aK λ_ h=>h.1)) aK ay aK fe fe,λ_=>⟨.EB q,⟨λ_ _=>rfl,(dL aK).trans d5,o.2⟩,aK,?_⟩⟩
      rw[oq (D:=fz 6 D) ((dL aK).trans d2) ((dL aK).trans d) ((dL aK).trans f)];rfl)
    |Dy q =>
     cases d:D 10<;>(
      rw[oq d2 d f];refine⟨ah,_,_,oz.F3 1 28 4 3 1 aK aK aK (λ_ h=>h.1) (oz.l7 (K q o.2.2) [1] aK aK aK aK ay aK aK aK fe aK fe),λv'=>⟨.done q v',⟨λj c=>?_,(dL aK).trans d5,mW,o.2.2⟩,aK,?_⟩⟩
      .match j,c with
       |0,_|1,_|2,_|3,_|4,_|5,_|10,_|11,_|_+13,_=>rfl
       |6,c=>rw[G]at c;cases c
       |7,c=>rw[d7]at c;cases c
       |8,c=>rw[ak]at c;cases c
       |9,c=>rw[Z]at c;cases c
       |12,c=>rw[L]at c;cases c
      .rw[oq (D:=fz 6 D) ((dL aK).trans d2) ((dL aK).trans d) ((dL aK).trans f)];rfl)
    |done q v'=>exact absurd o.2.1 c9
   .refine sU.of λA D o y g=>⟨o.upd aK aK,?_⟩
    have d:D 10=ae:=g 10 (.inl aK);have f:D 11=ae:=g 11 (.inr aK);cases A<;>cases d2:D 2<;>(
     rw[oq d2 d f,oq (D:=fz 10 D) ((dL aK).trans d2) mW ((dL aK).trans f)];exact gK (ds:=[]) bO z (U':=O _) aK an)
   .refine sU.of λA D o y g=>⟨o.upd aK aK,?_⟩
    have d5:D 5=W:=y 5 aK;have G:D 6=W:=y 6 aK;have d:D 10=W:=y 10 aK;have f:D 11=ae:=g 11 (.inl aK);have d2:D 2=W:=y 2 aK;cases A with
    |n=>exact absurd d5 Kn
    |Dy q=>exact absurd G (by rw[o.2.1];simp)
    |EB q =>
     rw[oq d2 d f,oq (D:=fz 11 D) ((dL aK).trans d2) ((dL aK).trans d) mW];exact gK (ds:=[]) bO z (U':=O _) aK an
    |done q v' =>
     rw[oq d2 d f,oq (D:=fz 11 D) ((dL aK).trans d2) ((dL aK).trans d) mW];exact gK (ds:=[]) bO z (U':=O _) aK an
   intro A D o r;have d2:=r 2 ee;have d5:=r 5 ee;have G:=r 6 ee;have d:=r 10 ee;have f:=r 11 ee;rw[oq d2 d f];cases A with
   |n=>exact absurd d5 Kn
   |Dy q=>exact absurd G (by rw[o.2.1];simp)
   |EB q =>
    obtain⟨⟨t,k'⟩,U,C,P⟩:=q;simp only at U C P;refine dj aK DD (I.aQ (w,v,n-1,k') aK c9 ?_ ⟨by exact c9,F.mono c9,by exact c9⟩ c9);simp
   |done q v' =>
    obtain⟨⟨t,k'⟩,U,C,P⟩:=q;have B:=o.2.2;simp only[cu,iM]at U C P B;have ab:=F.sZ (k:=7) (by_:=1+u) U aq B.2;exact dj aK DD (I.aQ (gw 7 w (1+u) t,v',n-1,k') aK c9 uZ ⟨by exact c9,ab.mono c9,by exact c9⟩ c9)
  refine bM [(26,ae),(1000009,W)] aK (by simp[hp]) ?_;by_cases h0:w.2.2=[]
  .refine dj aK an (I.ri (Mo w J.s J.n h0) aK aK aK (lD.agg 0 4 1 aK aK (PM.DN aK λ_ h=>h.1)) aK ay aK fe fe aK λ_=>?_);refine dj aK ek (I.aQ (w,v,n-1,k+1) aK c9 ?_ ⟨by exact c9,F.mono c9,by exact c9⟩ c9);simp
  refine I.F3 1 3 4 (E:=3) (k:=1) (cl:=.sl ae 1 (V w.2.2) (cI.fn w.2.2)) ee aK aK aK (λ_ h=>h.1) ?_;refine dj aK an (I.cP (Mn w J.s J.n J.l h0) [1] aK fe ?_);intro v';refine dj aK DD (I.aQ (gz w,v',n-1,k+1) aK c9 ?_ ⟨by exact c9,F.step.mono c9,by exact c9⟩ c9);simp
 refine bM [(21,ae)] aK c9 (I.br aK aK ?_);refine dj aK an (I.cP (iH m b N k 40 aq H aq) [0] aK fe ?_);rintro⟨e,e0,e1⟩;have x:=F.dr aq;have hll:=x.l;by_cases y:e=1
 .refine bM [(48,ae),(52,W)] aK (by simp[y]) (I.F5 (l:=1) (v0:=v) (n:=V w.2.2) (agL aK) aK aK aK aK aK aK (F4.fn _) aK ?_ ?_)
  .show (V w.2.2+1)*8<=140737488355328;omega
  refine dj aK an (I.nJ ⟨((w.1,w.2.1,w.2.2++[99]),k+1),⟨x.s,x.m,by have:=F.l;simp;omega⟩,by omega⟩ [0] aK aK aK aK aK aK aK aK ?_ aK aK aK aK kK);simp;exact cI.cw _ _
 refine bM [(1000013,W)] aK an (I.F3 1 3 4 (E:=3) (k:=1) (cl:=.sl ae 1 (V w.2.2) (cI.fn w.2.2)) ee aK aK aK (λ_ h=>h.1) ?_);by_cases g:e=0
 .refine bM [(48,W)] aK (by simp[g]) (I.nJ ⟨((w.1,[],w.2.2),k+1),⟨x.s,by simp,x.l⟩,by omega⟩ [0] aK aK aK aK aK aK aK aK ?_ aK aK aK aK kK);simp
 refine bM [(48,ae),(52,ae)] aK c9 (I.nJ ⟨(w,k+1),x,by omega⟩ [0] aK aK aK aK aK aK aK aK ?_ aK aK aK aK kK);simp
end
structure Wn(w:bS):Prop extends Yo w.1 where
 mrk:V w.2.1<=4000000
 lft:V w.2.2<=4000000
def PI{l:List dn}(h:i<V l):V (cZ (l.getD i (0,[])).2)<=V (lS l):=by have:=I7 l (i+1);grind[vT]
def Dp(k:Int)(w:bS):fJ k w=(fX k w.1&&(bl (V w.1.2.1)).all (λi=>!(jG (w.1.2.1.getD i (0,[]))).any λn=>!w.2.1.contains n)&&(bl (V w.2.2)).all (px w.1.1 w.2.2)):=by rw[fJ,PK];cases fX k w.1<;>simp
def Je(k:Int)(w:bS)(r:Wn w):Ev (Cx.cx ag) 15 [dI k,sJ w] [] (dB (fJ k w)) []:=by
 refine Ev.bQ Tryz.func15 rfl λJ=>?_;have b:b5 (Cx.cx ag) [(20,uK)]:=.cons yF .nil;have z:=cP.aw w.1.1;have v:=dY.aw w.1.2.1;have y:=cH.aw w.1.2.2;have q:=r.toYo;rw[Dp];cases hk:fX k w.1
 .exact I.gZ gB n7 b [(14,W)] 100 Z Zn (I.bE Z)
 refine I.gZ gB n7 b [(14,ae)] 100 Z Zn ?_;rw[gy];refine I.acR Z Z Z λg=>?_;refine I.gZ gB n7 b [] 100 Z an (I.cQ (acY g [] w.2.1) [1] Z ?_);rw[pM];refine I.gZ gB n7 b [(1000005,W)] 100 Z an (I.freeze 5 2 Z Z Z ?_);refine I.gZ gB n7 b [] 100 Z an (I.cm 3 (λi=>i<=V w.1.2.1/\∀j,j<i->(!(jG (w.1.2.1.getD j (0,[]))).any λn=>!w.2.1.contains n)=W) (λi:Nat=>[(0,dI k),(3,cE 0 0),(5,b7 (.rp [.val g])),(22,dY.sl w.1.2.1),(23,dI (V w.1.2.1)),(24,dI i)]) (λ_=>[rK w,LN g w.2.1,.cg]) (λi=>V w.1.2.1-i) 0 Z ay Z ay Z ⟨by omega,by omega⟩ ?_);have D:=r.sN;rintro i ⟨hi,a⟩;by_cases h:i<V w.1.2.1
 .have t:w.1.2.1.getD (i:Int).toNat dY.cy=w.1.2.1.getD i (0,[]):=az;have s:=r.sm _ (kS (d:=(0,[])) h);have C:=PI h;have E:=r.aN;have K:=ij (p:=λj=>!(jG (w.1.2.1.getD j (0,[]))).any λn=>!w.2.1.contains n) h;have u:=iW (p:=λj=>!(jG (w.1.2.1.getD j (0,[]))).any λn=>!w.2.1.contains n) (i:=i);generalize w.1.2.1.getD i (0,[])=x at *;refine I.gZ gB n7 b [(25,W)] 100 Z c6 ?_;rw[t];refine I.cQ (Cs x s.1 aq) [] Z (I.gZ gB n7 b [] 100 Z an (I.cQ (Ux (jG x) 47 [.val g] (yB g w.2.1) (λn=>!w.2.1.contains n) λn _=>GK g w.2.1 n) [1] Z ?_));cases F:(jG x).any λn=>!w.2.1.contains n with
  |true =>
   refine I.gZ gB n7 b [] 100 Z an (I.gp (cM.zero Z ?_));exact ek
  |false =>
   refine I.gZ gB n7 b [] 100 Z ?_ (I.aQ (i+1) Z ay ay ⟨h,u a az⟩ aq);exact ek
 obtain rfl:i=V w.1.2.1:=aq;rw[dG.2 a,gy];refine I.gZ gB n7 b [(25,ae)] 100 Z ay (I.br Z Z ?_);refine I.gZ gB n7 b [] 100 Z an ?_;have A:=r.lft;refine I.cm 3 (λi=>i<=V w.2.2/\∀j,j<i->px w.1.1 w.2.2 j=W) (λi:Nat=>[(0,dI k),(3,cE 0 0),(34,cI.sl w.2.2),(35,dI (V w.2.2)),(36,dI i)]) (λ_=>[rK w,LN g w.2.1,.cg]) (λi=>V w.2.2-i) 0 Z ay Z ay Z ⟨by omega,by omega⟩ ?_;rintro i ⟨hi,a⟩;by_cases h:i<V w.2.2
 .have t:w.2.2.getD (i:Int).toNat cI.cy=w.2.2.getD i 0:=az;have m:w.2.2.getD (i-1) cI.cy=w.2.2.getD (i-1) 0:=rfl;have G:px w.1.1 w.2.2 i=((w.1.1.any λp=>p.1==w.2.2.getD i 0)&&Ck (λx=>x) 0 w.2.2 i):=rfl;have B:=qh (f:=λx:Int=>x) (d:=0) (l:=w.2.2) (i:=i);generalize w.2.2.getD i 0=n at *;generalize w.2.2.getD (i-1) 0=n' at *;have s8:b5 (Cx.cx ag) [(48,mi [cP.sl w.1.1,b7 (.fn (.func 49) [] [.rp [.int .i64 n]])] (dB (w.1.1.any λp=>p.1==n)))]:=.cons (mL (Uv w.1.1 49 [.int .i64 n] (λp=>p.1==n) λp _=>PH p n)) .nil;refine I.gZ gB n7 b [(37,W),(1000014,W)] 100 Z c6 ?_;rw[t];refine I.freeze 9 3 Z Z Z ?_;have fin:w.1.1.any (λp=>p.1==n)=W->Ck (λx=>x) 0 w.2.2 i=W->px w.1.1 w.2.2 i=W:=λF AK=>by grind
  by_cases H:i=0
  .subst H;cases o:w.1.1.any (λp=>p.1==n)with
   |true =>
    refine I.gZ gB n7 s8 [(43,ae),(60,ae)] 100 Z ?_ (I.aQ 1 Z ay ay ⟨h,iW a (fin o Z)⟩ aq);simp[cd,o,lX.sl]
   |false =>
    refine I.gZ gB n7 s8 [(43,ae),(60,W)] 100 Z ek (I.gp (cM.zero Z ?_));rw[ij h az];simp
  by_cases L:n'<n
  rotate_left
  .refine I.gZ gB n7 s8 [(43,W),(51,W),(60,W)] 100 Z ?_ (I.gp (cM.zero Z ?_))
   .simp[-aj,m,cd];omega
   rw[ij h az];simp
  cases o:w.1.1.any (λp=>p.1==n)with
  |true =>
   refine I.gZ gB n7 s8 [(43,W),(51,ae),(60,ae)] 100 Z ?_ (I.aQ (i+1) Z ay ay ⟨h,iW a (fin o az)⟩ aq);simp[-aj,m,cd,o,lX.sl];omega
  |false =>
   refine I.gZ gB n7 s8 [(43,W),(51,ae),(60,W)] 100 Z ?_ (I.gp (cM.zero Z ?_))
   .simp[-aj,m,cd,o,lX.sl];omega
   rw[ij h az];simp
 obtain rfl:i=V w.2.2:=aq;rw[dG.2 a];refine I.gZ gB n7 b [(37,ae)] 100 Z ay (I.br Z Z ?_);exact I.gZ gB n7 b [] 100 Z an (I.bE Z)
abbrev rD:eP:=qb aI (aAg fSw) (λk w=>dB (fJ k w)) λ_ w=>[Wn w]
def uL:fp (Cx.cx ag) 15 rD:=.s9 λk w h=>Je k w h
section
variable {X:Cx ag}
def oJ(n:Int):∀(l a:List Int)(b:Bool),(a++l).Pairwise (· < ·)->(if b=W then True else ∀x∈a,x<n)->(b=W->∀x∈l,n<=x/\(n∈a)) ->
  (if(l.foldl (iX n) (a,b)).2=W then(l.foldl (iX n) (a,b)).1 else(l.foldl (iX n) (a,b)).1++[n]).Pairwise (· < ·)
 |[],a,b,h,f,_=>by
  simp only[iZ]at h;cases b<;>simp at f⊢
  .exact mz.2 ⟨h,by simp,by exact c9⟩
  omega
 |y::l,a,b,h,f,i=>by
  rw[jw];obtain⟨j,q2,g⟩:=mz.1 h;obtain⟨p4,k⟩:=ju.1 q2;have m:∀x∈a,x<y:=λx c=>g x c y iL;have p2:((a++[y])++l).Pairwise (· < ·):=Kl;have p3:(a++l).Pairwise (· < ·):=mz.2 ⟨j,k,λx c z d=>g x c z (lY _ d)⟩;unfold iX;cases b with
  |true =>
   simp only[cv];split
   .exact oJ n l a W p3 ay λ_ x c=>⟨by grind,(i Z y iL).2⟩
   exact oJ n l (a++[y]) W p2 ay λ_ x c=>⟨by grind,zX _ (i Z y iL).2⟩
  |false =>
   simp only[kY,cC]at f⊢;split
   .split
    .rename_i e;subst e;exact oJ y l (a++[y]) W p2 ay λ_ x c=>⟨by grind,by simp⟩
    refine oJ n l (a++[n,y]) W ?_ ay λ_ x c=>⟨by grind,by simp⟩
    rw[lZ];refine mz.2 ⟨j,ju.2 ⟨λz d=>?_,q2⟩,λx c z d=>?_⟩
    .rcases eQ.1 d with rfl|d
     .omega
     have:=p4 z d;omega
    rcases eQ.1 d with rfl|d
    .exact f x c
    exact g x c z d
   exact oJ n l (a++[y]) ae p2 (by simp;grind) ay
def V3{l:List Int}{n:Int}(h:l.Pairwise (· < ·)):(jF l n).Pairwise (· < ·):=oJ n l [] ae Kl ay ay
def EP:∀{l a:List Int},a.Pairwise (· < ·)->(l.foldl jF a).Pairwise (· < ·)
 |[],a,h=>h
 |x::l,a,h=>EP (l:=l) (V3 h)
def wh(l:List Int)(v:Int):Int:=match l.findIdx? (λx=>x==v)with
 |some i=>i
 |none=>-1
def Qm(l:List Int)(v:Int):Ev X 203 [cI.sl l,dI v] [] (dI (wh l v)) []:=by
 refine Ev.bQ Tryz.func203 rfl λd=>?_;have e:=d.sl 0 Z;refine bt Z an (I.cm 0 (λi=>i<=V l/\∀j,j<i->l.getD j 0≠v) (λi:Nat=>[(0,cI.sl l),(1,dI v),(7,dI (V l)),(8,dI i)]) (λ_=>[]) (λi=>V l-i) 0 Z ay Z an Z ⟨by omega,by omega⟩ ?_);rintro i ⟨hi,b⟩;by_cases h:i<V l
 .have a:l.getD (i:Int).toNat cI.cy=l.getD i 0:=rfl;by_cases f:l.getD i 0=v
  .have:wh l v=i:=by
    have:l.findIdx? (λx=>x==v)=O i:=by rw[AA];exact⟨h,by grind,λj c=>by grind⟩
    simp only[wh,this]
   rw[this];refine ba [(9,W),(16,W)] Z ?_ (I.gp (cM.zero Z));simp only[aA,a,bu,fR,aX,aW];and_intros<;>first|omega|omega
  refine ba [(9,W),(16,ae)] Z ?_ (I.aQ (i+1) Z ?_ an ⟨h,λj c=>?_⟩ aq)
  .simp only[aA,a,cd,bu,eC,aX,aW];and_intros<;>first|grind|omega
  .simp
  grind
 have:wh l v=-1:=by have:l.findIdx? (λx=>x==v)=af:=DF;simp only[wh,this]
 rw[this];refine ba [(9,ae)] Z c9 (I.br Z Z ?_);exact bt Z an (I.bE Z)
abbrev Oi:eP:=qb (aL cI) aI (λl v=>dB (l.contains v)) λ_ _=>[]
def Y9:fp X 168 Oi:=.s9 λl v _=>by refine Ev.bQ Tryz.func168 rfl λb=>?_;have a:b5 X [(203,qb (aL cI) aI (λl v=>dI (wh l v)) λ_ _=>[])]:=.cons (.s9 λl v _=>Qm l v) .nil;refine cp a Z (by simp only[aA];exact cI.aE _) (I.bE Z ?_);simp only[aA,cI.aw,aW];unfold wh;grind
end
section
variable {X:Cx ag}
def JZ(p:bz)(ns:List Int)(g:V p.2<=4000000):Ev X 106 [vN p,cI.sl ns] [] (vN (ei p ns)) []:=by
 refine Ev.lA bO Tryz.func106 rfl rfl rfl λm=>?_;have b:b5 X [(168,Oi)]:=.cons Y9 .nil;refine bj b [(1000002,W)] Z an (I.iQ 2 1 161 2 (fO.fn []) Z Z ?_);refine cp b Z an ?_;refine I.cm 4 (λi=>i<=V p.2) (λi:Nat=>[(1,cI.sl ns),(4,cE 1 0),(5,cE 2 0),(12,fO.sl p.2),(13,dI (V p.2)),(14,dI i)])
  (λi=>agH p ((p.2.take i).filter λx=>ns.contains x.1)) (λi=>V p.2-i) 0 Z ay Z ay Z aq ?_
 intro i hi;have l:=yT p.2 (λx=>ns.contains x.1) hi;by_cases h:i<V p.2
 .have f:p.2.getD i fO.cy=iE p i:=rfl;have d:(p.2.take (i+1)).filter (λx=>ns.contains x.1)=if ns.contains (iE p i).1=W then(p.2.take i).filter (λx=>ns.contains x.1)++[iE p i]else(p.2.take i).filter (λx=>ns.contains x.1):=we h (0,[]);generalize(p.2.take i).filter (λx=>ns.contains x.1)=a at *;generalize iE p i=x at *;cases c:ns.contains x.1 with
  |true =>
   rw[bh c]at d;have g:=fO.cw a x;refine bj b [(15,W),(21,W)] Z ?_ (I.aQ (i+1) Z ay ?_ h aq)
   .simp[-aj,-List.contains_eq_mem,f,h,c,cI.aw,cI.aE,cd,show yx.bytes=24 from Z];omega
   rw[d];simp only[aA.eu,aA,bZ,f,cj,eY,aX,aW];and_intros<;>first|exact eW.same|exact g|rfl|omega
  |false =>
   rw[bc fC]at d;refine bj b [(15,W),(21,ae)] Z ?_ (I.aQ (i+1) Z ay ?_ h aq)
   .simp[-aj,-List.contains_eq_mem,f,h,c,cI.aw,cI.aE,cd];omega
   simp_all
 obtain rfl:i=V p.2:=aq;rw[de];refine aY b [(15,ae)] Z ay (I.br Z Z ?_);refine cp b Z an (I.nJ () [] Z Z Z Z Z Z Z Z ?_ Z Z Z Z (λj k=>absurd k ay));simp[ei]
abbrev clB(w:bS)(a b:Bool):List bq :=
 match a,b with
 |false,_=>[rK w,.cells 30 pz]
 |true,ae=>[rK w,.cells 30 pz,.eX 83 2 (V w.1.1) (cP.fn w.1.1),.eX 42 2 (V w.1.2.1) (dY.fn w.1.2.1)]
 |true,W=>[rK w,.cells 30 [.bp 2 (.sl (V w.1.1) 2 0 (V w.1.1)),.bp 3 (.sl (V w.1.2.1) 2 0 (V w.1.2.1)),m6 cH w.1.2.2,m6 cI (cI.cz (V w.2.1) (cI.fn w.2.1)),m6 cI (cI.cz (V w.2.2) (cI.fn w.2.2))],.eX 83 2 (V w.1.1) (cP.fn w.1.1),.eX 42 2 (V w.1.2.1) (dY.fn w.1.2.1)]
abbrev xCl(w:bS)(i:Nat):D :=
 [cE 0 0,n5 w.1,.e (.agg [.bp 2 (.sl (V w.1.1) 2 0 (V w.1.1)),.bp 3 (.sl (V w.1.2.1) 2 0 (V w.1.2.1)),m6 cH w.1.2.2]),cE 0 3,cI.sl w.2.1,cI.sl (cI.cz (V w.2.1) (cI.fn w.2.1)),cE 0 4,cI.sl w.2.2,cI.sl (cI.cz (V w.2.2) (cI.fn w.2.2)),
  .e (.agg [.bp 2 (.sl (V w.1.1) 2 0 (V w.1.1)),.bp 3 (.sl (V w.1.2.1) 2 0 (V w.1.2.1)),m6 cH w.1.2.2,m6 cI (cI.cz (V w.2.1) (cI.fn w.2.1)),m6 cI (cI.cz (V w.2.2) (cI.fn w.2.2))]),.any].getD i .any
def C2(w:bS)(b:iw w.1)(i:V w.2.1<=4000000)(f:V w.2.2<=4000000):Ev X 34 [sJ w] [] (.e (.agg [.bp 0 (.sl (V w.1.1) 2 0 (V w.1.1)),m6 dY w.1.2.1,m6 cH w.1.2.2,m6 cI w.2.1,m6 cI w.2.2])) [.eX 83 2 (V w.1.1) (cP.fn w.1.1)]:=by
 refine Ev.lA bO Tryz.func34 rfl rfl rfl λk=>?_
 have a:b5 X [(39,vg [n5 w.1] [] (.e (.agg [.bp 0 (.sl (V w.1.1) 2 0 (V w.1.1)),.bp 1 (.sl (V w.1.2.1) 2 0 (V w.1.2.1)),.c (.sl ae 2 (V w.1.2.2) (cH.fn w.1.2.2))])) [.eX 83 2 (V w.1.1) (cP.fn w.1.1),.eX 42 2 (V w.1.2.1) (dY.fn w.1.2.1)]),
   (85,lW (aL cI) (λl=>cI.sl l) λl=>[V l<=4000000])]:=.cons (vh (pn w.1 b.p b.p2 b.sn b.s2 b.h)) (.cons (.rl λl h=>vR l h) .nil)
 refine bj a [(1000001,W)] Z an ?_;refine I.w8 gB (xCl w) (ve (clB w) 2 10) Z Z Z Z
  ⟨.tK bO a,.tK bO a,fE.sA Z Z (gK (ds:=[]) bO a (U':=O _) Z ay),.tK bO a,.tK bO a,.OY bO a (ho:=by exact⟨cI.aE _,by rw[cI.aw];exact i⟩),.tK bO a,.tK bO a,.OY bO a (ho:=by exact⟨cI.aE _,by rw[cI.aw];exact f⟩),.tK bO a,
   fE.sB Z Z (gK (ds:=[]) bO a (U':=O _) Z an),an⟩ ?_
 intro D d;show I X _ _ _ _ _ (clB w (D 2) (D 10));rw[d 2 ee,d 10 ee];refine ac3 a [] 1 Z an (I.ny 3 Z Z Z ay ay (I.kR [rK w,.cells 30 [.bp 2 (.sl (V w.1.1) 2 0 (V w.1.1)),m6 dY w.1.2.1,m6 cH w.1.2.2,m6 cI w.2.1,m6 cI w.2.2],.eX 83 2 (V w.1.1) (cP.fn w.1.1),.cg] Z ?_ ?_))
 .simp[cI.aw,qT]
 refine I.nJ () [2] Z Z Z Z Z Z Z Z ?_ Z Z Z Z (λj g=>absurd g ay);simp
abbrev Ql(l:List bz):bq:=.eX 83 2 (V l) (cP.fn l)
abbrev dBp(n m:Nat):D:=mE 0 (.sl n 2 0 m)
def JX(l:List bz)(m:Nat)(v:m<=V l)(s:V l<=4000000)(b:Nat)(cs:List C)(q:bz->Bool)(n:∀x,x∈l.take m->Ev X b [vN x,b7 (.rp cs)] [] (dB (q x)) []):
  Ev X 104 [dBp (V l) m,b7 (.fn (.func b) [] [.rp cs])] [Ql l] (dI (oA q (l.take m))) [Ql l]:=by
 refine Ev.bQ Tryz.func104 rfl λu=>?_;refine bt Z an ?_;have o:V (l.take m)=m:=c6;have f:∀j,j<m->(l.take m).getD j (0,[])=l.getD j (0,[]):=λj g=>by simp[hU,g]
 refine I.cm 1 (λi=>i<=m/\∀j,j<i->q ((l.take m).getD j (0,[]))=ae) (λi:Nat=>[(0,dBp (V l) m),(1,b7 (.fn (.func b) [] [.rp cs])),(7,dI m),(8,dI i)]) (λ_=>[Ql l]) (λi=>m-i) 0 Z ay Z ay Z ⟨by omega,by omega⟩ ?_;rintro i ⟨hi,a⟩;by_cases h:i<m
 .have p:l.getD i (0,[])∈l.take m:=by rw[<-f i h];grind
  have r:l.getD ((0+(i:Int).toNat:Nat)) cP.cy=l.getD i (0,[]):=uZ;refine ba [(9,W)] Z c9 ?_;rw[r];refine I.cQ (n _ p) [] Z ?_;cases k:q (l.getD i (0,[]))with
  |true =>
   refine ba [(16,W)] Z ay (I.gp (cM.mk [0] Z ?_ Z Z Z sd));simp[xk (t:=l.take m) (d:=(0,[])) aq (by rw[f i h];exact k) a]
  |false =>
   refine ba [(16,ae)] Z ek (I.aQ (i+1) Z ay ay ⟨h,λj g=>?_⟩ aq);by_cases e:j=i
   .rw[e,f i h];exact k
   exact a j aq
 refine ba [(9,ae)] Z c6 (I.br Z Z ?_);refine bt Z an (I.dt [0] Z ?_ Z Z Z sd);simp[rn (t:=l.take m) (d:=(0,[])) (λj g=>a j aq)]
def DC(l:List bz)(m i:Nat):List bz:=(l.take m).eraseIdx i++(0,[])::l.drop m
def V8{l:List bz}{m:Nat}(a:m<=V l)(hi:i<m):V (DC l m i)=V l:=by unfold DC;rw[cj,My c6];simp;omega
def J2(l:List bz)(m i:Nat)(A:m<=V l)(hi:i<m)(y:V l<=4000000):
  Ev X 107 [dBp (V l) m,dI i,dI ((i:Int)+1)] [Ql l] (dBp (V l) (m-1)) [.eX 83 2 (V l) (cP.fn (DC l m i))]:=by
 refine Ev.bQ Tryz.func107 rfl λz=>?_;refine bM [(16,ae),(1000006,W)] Z Ki ?_;have o:dD m (O (i:Int))-dD 0 af+(dD m af-dD 0 (O ((i:Int)+1)))=m-1:=Ki;rw[o];refine I.region ?_;refine sY [] 4 Z an (I.gH (bU.Nv bO Z Z Z Z Z Z Z Z Z aq aq aq) Z Z ?_);refine I.gH (bU.KB bO Z Z Z Z Z Z aq) Z Z ?_;refine bM [(1000007,W)] Z an (I.ZF 0 (cP.fn (DC l m i)) Z (λ_ _=>rfl) (λM idx jb j g p=>?_) ?_)
 .have t:dD m (O (i:Int))-dD 0 af=i:=E9;have w:dD 0 (O ((i:Int)+1))=i+1:=ek;have u:dD m af=m:=rfl;simp only[bZ];rw[t,w,u];have s:(DC l m i).getD idx (0,[])=if idx<i then l.getD idx (0,[])else if idx<m-1 then l.getD (idx+1) (0,[])else if idx<m then(0,[])else l.getD idx (0,[]):=by
   unfold DC;have e:V ((l.take m).eraseIdx i)=m-1:=ZB;simp only[aj];by_cases f:idx<m-1
   .rw[j8 aq,List.getElem?_eraseIdx];by_cases c:idx<i
    .rw[bh c,bh c,hU,bh aq]
    rw[bc c,bc c,bh f,hU,bh aq]
   rw[iy aq,e];by_cases k:idx=m-1
   .subst k;rw[bc aq,bc aq,bh aq];simp
   obtain⟨d,rfl⟩:∃d,idx=m+d:=⟨idx-m,by omega⟩
   rw[bc aq,bc aq,bc aq,show m+d-(m-1)=d+1 by omega];simp
  have a:(cP.enc ((DC l m i).getD idx (0,[])))[j]?=O g:=p;rw[s]at a;by_cases f:idx=m-1
  .subst f;rw[bc aq,bc aq,bh aq]at a;have n:rX (0+(m-1)) (0+(m-1)+(m-(m-1))) i83.zero (Hq i (0+(i+1)) (m-(i+1)) (cP.fn l)) (m-1)=i83.zero:=bh aq;rw[n]
   match j,a with
   |0,a=>exact⟨_,rfl,λv r=>by cases a;exact r⟩
   |1,a=>exact⟨_,rfl,λv r=>by cases a;exact SM (x:=.sl W 0 0 λ_=>[]) rfl ⟨rfl,rfl⟩ r⟩
  refine⟨g,?_,λ_ r=>r⟩;rw[<-a];congr 1;unfold rX Hq;rw[bc aq];have b:∀q,cP.fn l q=cP.enc (l.getD q (0,[])):=λ_=>rfl;by_cases c:idx<i
  .rw[bc aq,bh c,b]
  rw[bc c];by_cases h:idx<m-1
  .rw[bh aq,bh h,b,show 0+(i+1)+(idx-i)=idx+1 by omega]
  rw[bc aq,bc h,bc aq,b]
 refine dj Z an (I.dt [0] Z ?_ Z Z Z sd);simp;rfl
end
def qH(w:bS):Nat->bS
 |0=>w
 |j+1=>gz (qH w j)
def CZ{w:bS}:∀{j:Nat},j<=V w.2.2->(qH w j).1.2=w.1.2/\(qH w j).2.1=w.2.1/\(qH w j).2.2=w.2.2.drop j/\(qH w j).1.1=(w.2.2.take j).foldl (λps no=>fi no w.2.1 ps) w.1.1
 |0,_=>⟨rfl,rfl,rfl,rfl⟩
 |j+1,h=>by
  obtain⟨f,c,b,a⟩:=CZ (w:=w) (j:=j) aq;have d:w.2.2.drop j=w.2.2.getD j 0::w.2.2.drop (j+1):=by rw[Wp aq];simp[bD (show j<V w.2.2 by omega)]
  have e:qH w (j+1)=((fi (w.2.2.getD j 0) w.2.1 (qH w j).1.1,(qH w j).1.2),(qH w j).2.1,w.2.2.drop (j+1)):=by rw[show qH w (j+1)=gz (qH w j)from Z];unfold gz;simp_all
  rw[e,cW aq 0,z8,<-a];simp_all
def g6.qH{k:Int}{w:bS}(h:g6 k w):∀j,g6 k (qH w j)
 |0=>h
 |j+1=>(g6.qH h j).step
def ES{ms:List Int}{no:Int}:∀{ps:List bz}{i:Nat},(ps.Pairwise λp q=>p.1<q.1)->(∀p∈ps,p.2≠[])->i<V ps->(ps.getD i (0,[])).1=no ->
  oA (λp:bz=>p.1==no) ps=i/\fi no ms ps=if(ei (ps.getD i (0,[])) ms).2.length=0 then ps.eraseIdx i else ps.set i (ei (ps.getD i (0,[])) ms)
 |p::ps,0,c,b,_,h=>by
  obtain⟨f,k⟩:=ju.1 c;simp only[List.getD_cons_zero]at h⊢;have e:ps.map (j1 no ms)=ps:=by rw[xS (g:=id) λq a=>by have:=f q a;exact bc aq,List.map_id]
  refine⟨by simp[oA,List.findIdx?_cons,h],?_⟩;unfold fi;rw[mR,e,show j1 no ms p=ei p ms from bh h,ug,z0.2 λq a=>by simpa using b q (lY _ a)];split<;>split<;>simp_all
 |p::ps,i+1,c,b,hi,h=>by
  obtain⟨f,k⟩:=ju.1 c;simp only[List.getD_cons_succ,eU]at h hi⊢;obtain⟨k1,m⟩:=ES (ms:=ms) (i:=i) k (λq a=>b q (lY _ a)) aq h;have n:ps.getD i (0,[])∈ps:=az;have d:p.1≠no:=by have:=f _ n;omega
  have o:=b p iL;refine⟨?_,?_⟩
  .unfold oA at k1⊢;rw[List.findIdx?_cons];have:(p.1==no)=ae:=c9;rw[this];cases l:ps.findIdx? λp=>p.1==no with
   |none=>rw[l]at k1;exact ek
   |some j=>rw[l]at k1;exact c9
  have e:fi no ms (p::ps)=p::fi no ms ps:=by unfold fi;rw[mR,show j1 no ms p=p from bc d,ug,bh c9]
  rw[e,m];split<;>simp
def kX(ms:List Int)(l:List bz)(m i:Nat):List bz×Nat :=
 if(ei (l.getD i (0,[])) ms).2.length=0 then(DC l m i,m-1)else(l.set i (ei (l.getD i (0,[])) ms),m)
def V9{ms:List Int}{no:Int}{l:List bz}{m:Nat}(f:m<=V l)(hi:i<m)(c:(l.take m).Pairwise λp q=>p.1<q.1)(d:∀p∈l.take m,p.2≠[])(h:(l.getD i (0,[])).1=no):
  oA (λp:bz=>p.1==no) (l.take m)=i/\(kX ms l m i).1.length=V l/\(kX ms l m i).2<=m/\(kX ms l m i).1.take (kX ms l m i).2=fi no ms (l.take m):=by
 have b:(l.take m).getD i (0,[])=l.getD i (0,[]):=by simp[hU,hi]
 obtain⟨k1,a⟩:=ES (ms:=ms) (no:=no) (ps:=l.take m) (i:=i) c d fC (b▸h);rw[b]at a;rw[a];unfold kX;split
 .refine⟨k1,V8 f hi,by omega,?_⟩;unfold DC;have e:V ((l.take m).eraseIdx i)=m-1:=ZB;simp only;exact List.take_left' e
 exact⟨k1,by simp,bm _,by rw[List.take_set]⟩
section
variable {X:Cx ag}
def JY(p:bz)(n:Int):Ev X 105 [vN p,b7 (.rp [.int .i64 n])] [] (dB (p.1==n)) []:=by refine Ev.bQ Tryz.func105 rfl λa=>?_;exact bt Z an (I.bE Z)
abbrev swP(n m:Nat)(a:List dn)(c:List (Int×Int))(ms lf:List Int)(b:Nat):bq:=.cells 30 [.bp b (.sl n 2 0 m),m6 dY a,m6 cH c,m6 cI ms,m6 cI lf]
abbrev Ay(l:List bz)(i:Nat):bz:=l.getD (0+(i:Int).toNat) cP.cy
abbrev xPr(l:List bz)(m i:Nat)(ms:List Int)(k:Nat):D :=
 [cE 3 0,cE 3 0,cE 3 0,cE 3 0,mE 2 (.sl (V l) 2 0 m),dI i,mE 2 (.el (V l) 2 (0+(i:Int).toNat) 0),vN (Ay l i),
  cE 3 0,cE 3 0,cE 3 3,cI.sl ms,vN (ei (Ay l i) ms),cE 6 0,.any].getD k .any
abbrev zSt:bq:=.cells 27 [iI,iI,iI]
abbrev prN(l:List bz)(i:Nat)(ms:List Int):bq:=.cells 83 [.c (.int .i64 (Ay l i).1),.c (sP (ei (Ay l i) ms))]
abbrev prB(w:bS)(H:ah->(Nat->Option Obj)->Prop)(l:List bz)(m i:Nat)(d:List dn)(e:List (Int×Int))(ms lf:List Int)(a b:Bool):List bq :=
 match a,b with
 |false,_=>[rK w,zSt,Ql l,swP (V l) m d e ms lf 2,.cJ H,.cg]
 |true,ae=>[rK w,zSt,Ql l,swP (V l) m d e ms lf 2,.cJ H,.cg,.cells 83 [.c (.int .i64 0),iI]]
 |true,W=>[rK w,zSt,Ql l,swP (V l) m d e ms lf 2,.cJ H,.cg,prN l i ms]
set_option maxRecDepth 20000 in
def Mw(w:bS)(H:ah->(Nat->Option Obj)->Prop)(no:Int)(l:List bz)(m i:Nat)(d:List dn)(g:List (Int×Int))(ms lf:List Int)(o:m<=V l)(k:V l<=4000000)(hi:i<m)(q:oA (λp:bz=>p.1==no) (l.take m)=i)(c:∀p∈l,V p.2<=4000000):
  e9 (ι:={es:Nat->List C // eW (V l) es (cP.fn (kX ms l m i).1)}) X 50 [cE 3 0,dI no] [rK w,zSt,Ql l,swP (V l) m d g ms lf 2,.cJ H] (λ_=>.gI []) (λes=>[rK w,zSt,.eX 83 2 (V l) es.1,swP (V l) (kX ms l m i).2 d g ms lf 2,.cJ H,.cg,prN l i ms]):=by
 refine e9.FT Tryz.func50 rfl rfl rfl (I.dX ?_);refine bM [(1000001,W)] Z an (I.freeze 3 5 Z Z Z ?_);refine dj Z an (I.cQ (JX l m o k 105 [.int .i64 no] (λp=>p.1==no) λp _=>JY p no) [2] Z ?_);rw[q];have f:Ay l i=l.getD i (0,[]):=uZ;have b:Ay l i∈l:=by rw[f];grind
 have a:b5 X [(106,mi [vN (Ay l i),cI.sl ms] (vN (ei (Ay l i) ms)))]:=.cons (mL (JZ (Ay l i) ms (c _ b))) .nil;have ho:0<=(i:Int)/\(i:Int)<((m:Nat):Int):=aq;have j:V l=V l/\0+(i:Int).toNat<V l:=⟨rfl,by omega⟩
 refine bM [(1000002,W)] Z an ?_;refine I.w8 gB (xPr l m i ms) (ve (prB w H l m i d g ms lf) 13 14) Z Z Z Z
  ⟨.tK bO a,.tK bO a,.tK bO a,.tK bO a,.tK bO a,.tK bO a,.OY bO a (ho:=by exact ho),.OY bO a (ho:=by exact j),.tK bO a,.tK bO a,.tK bO a,.tK bO a,.OY bO a (ho:=by exact Z),
   fE.sA Z Z (gK (ds:=[]) bO a (U':=O _) Z an),fE.sB Z Z (gK (ds:=[]) bO a (U':=O _) Z an),an⟩ ?_
 intro D n;show I X _ _ _ _ _ (prB w H l m i d g ms lf (D 13) (D 14));rw[n 13 ee,n 14 ee];unfold kX;by_cases h:(ei (Ay l i) ms).2.length=0
 .rw[bh MI];refine bM [(29,W)] Z ?_ ?_
  .simp only[aA,cd,h];exact c9
  exact I.cQ (J2 l m i o hi k) [2] Z (dj Z an ⟨⟨_,eW.same⟩,.inr Z,Z,Z,_,_,_,Z,Z,Z,an⟩)
 rw[bc MI];refine bM [(29,ae)] Z ?_ ?_
 .simp only[aA];exact⟨an,by omega,by omega,by omega,by simpa using h⟩
 refine⟨⟨qZ (0+(i:Int).toNat) [.int .i64 (Ay l i).1,sP (ei (Ay l i) ms)] (cP.fn l),?_⟩,.inr Z,Z,Z,_,_,_,Z,Z,Z,an⟩;have:=cP.LA l i (ei (Ay l i) ms) (V l) (bm _);rw[f]at *;rw[show 0+(i:Int).toNat=i by omega];exact this
end
def V7(k:Int)(w:bS):bA×Bool:=if fJ k w=W then((qH w (V w.2.2)).1,W)else(([],[],[]),ae)
structure V2(w:bS)(n0 j:Nat)(l:List bz)(m:Nat):Prop where
 hj:j<=V w.2.2
 len:V l=n0
 hm:m<=n0
 OQ:l.take m=(qH w j).1.1
 sz:∀p∈l,V p.2<=4000000
abbrev enB(w:bS)(l:List bz)(m:Nat)(H:ah->(Nat->Option Obj)->Prop):List bq:=[rK w,zSt,Ql l,swP (V l) m w.1.2.1 w.1.2.2 w.2.1 w.2.2 2,.cJ H]
def V2.next{w:bS}{o:Nat}{l:List bz}{m:Nat}(r:g6 k w)(h:V2 w o j l m)(d:j<V w.2.2):
  ∃i,i<m/\oA (λp:bz=>p.1==w.2.2.getD j 0) (l.take m)=i/\V2 w o (j+1) (kX w.2.1 l m i).1 (kX w.2.1 l m i).2:=by
 have f:=r.qH j;obtain⟨h1,h2,n,x⟩:=CZ (w:=w) (j:=j) h.hj;have q:w.2.2.drop j=w.2.2.getD j 0::w.2.2.drop (j+1):=fC;obtain⟨p,a,c⟩:=f.lp (w.2.2.getD j 0) (by rw[n,q];simp);rw[<-h.OQ]at a;obtain⟨i,hi,g⟩:=gM a;rw[List.length_take]at hi;have b:i<m:=aq;have u:(l.getD i (0,[])).1=w.2.2.getD j 0:=by rw[<-c,<-g];simp[bD (show i<V l by omega)]
 have e:∀p∈l.take m,p.2≠[]:=λp a=>by rw[h.OQ]at a;have:=(f.pk p a).len.1;grind
 obtain⟨k1,s,t,v⟩:=V9 (ms:=w.2.1) (by rw[h.len];exact h.hm) b (by rw[h.OQ];exact f.pa) e u;refine⟨i,b,k1,d,by rw[s,h.len],hZ t h.hm,?_,λp a=>?_⟩
 .rw[v,h.OQ];rw[show qH w (j+1)=gz (qH w j)from Z];unfold gz;rw[n,q,h2]
 unfold kX at a;split at a
 .unfold DC at a;simp only[eZ,eQ]at a;rcases a with a|a|a
  .exact h.sz p (hO (List.mem_of_mem_eraseIdx a))
  .exact ek
  exact h.sz p (tc a)
 rcases List.mem_or_eq_of_mem_set a with a|a
 .exact h.sz p a
 rw[a];have hm:l.getD i (0,[])∈l:=az;exact hZ (wz _ _) (h.sz _ hm)
def sv(k:Int)(w:bS)(c:Wn w)(o:iw w.1):Ev (Cx.cx ag) 16 [dI k,sJ w] [] (tSt (V7 k w).1 (V7 k w).2) []:=by
 refine Ev.tu Tryz.func16 rfl rfl rfl λz=>?_;have t:b5 (Cx.cx ag) [(15,rD)]:=.cons uL .nil;have A:=o.p;have r:=c.lft;unfold V7;cases hk:fJ k w with
 |false =>
  refine bj t [(14,W)] Z ?_ ?_
  .simp only[aA,cP.aw,cP.aE,dY.aw,dY.aE,cH.aw,cH.aE,cI.aw,cI.aE,hk,c,aX,aW,gm]
  refine I.freeze 4 1 Z Z Z ?_;refine I.tq bO [] Z ?_ Z Z Z pe;simp
 |true =>
 rw[bh Z];have u:=gT.1 hk;refine bj t [(14,ae)] Z ?_ ?_
 .simp only[aA,cP.aw,cP.aE,dY.aw,dY.aE,cH.aw,cH.aE,cI.aw,cI.aE,hk,c,aX,aW,fZ]
 refine I.cQ (C2 w o c.mrk c.lft) [] Z (dj Z an (I.WJ Z Tryz.underlying92 (gC Tryz.type3) Z Z r Z Z λd=>?_));refine dj Z an ?_;refine I.cm 5 (λi=>i<=V w.2.2) (λi:Nat=>[(4,cE 1 0),(6,cE 3 0),(7,dMv d),(23,cI.sl w.2.2),(24,dI (V w.2.2)),(25,dI i)])
  (λi=>enB w w.1.1 (V w.1.1) (kr d (V w.2.2) (w.2.2.take i) ae)) (λi=>V w.2.2-i) 0 Z ay Z ay Z aq ?_
 intro i hi;by_cases h:i<V w.2.2
 .have g:w.2.2.getD (i:Int).toNat cI.cy=w.2.2.getD i 0:=rfl;have x:=cW h 0;refine bM [(26,W)] Z c6 ?_;rw[g];refine I.Fv (qS.send (l:=4) (q:=w.2.2.take i) (cap:=V w.2.2) Z Z Z Z fC) Z Z ?_;refine dj Z ek (I.aQ (i+1) Z ay ?_ h aq);simp_all
 obtain rfl:i=V w.2.2:=aq;rw[de];refine bM [(26,ae)] Z ay (I.br Z Z ?_);refine dj Z an (I.Fv (qS.close (l:=4) Z Z Z) Z Z ?_);refine dj Z an ?_;refine I.cm 5 (λq:Nat×List bz×Nat=>V2 w (V w.1.1) q.1 q.2.1 q.2.2) (λ_=>[(4,cE 1 0),(6,cE 3 0),(33,dMv d)])
  (λq=>enB w q.2.1 q.2.2 (kr d (V w.2.2) (w.2.2.drop q.1) W)) (λq=>V w.2.2-q.1) (0,w.1.1,V w.1.1) Z ay Z ay Z ⟨kn _,rfl,bm _,by simp[qH],o.p2⟩ ?_
 rintro⟨j,l,m⟩ a;simp only at a;have b:=a.len;by_cases h:j<V w.2.2
 .obtain⟨i,hi,v,s⟩:=a.next u h;have g:w.2.2.drop j=w.2.2.getD j 0::w.2.2.drop (j+1):=fC;rw[g];refine dj Z an (I.Fv (qS.recv (l:=4) Z Tryz.underlying92 (λw=>Tryz.zeroValue3 w) Z Z) Z Z ?_);refine bM [(35,W)] Z Z (I.MM (Mw w _ (w.2.2.getD j 0) l m i w.1.2.1 w.1.2.2 w.2.1 w.2.2 (by rw[b];exact a.hm) aq hi v a.sz) Z Z Z Z ay Z ?_);rintro⟨es,y⟩;refine dj Z an (I.aQ (j+1,(kX w.2.1 l m i).1,(kX w.2.1 l m i).2) Z ay ?_ s aq);have f:(kX w.2.1 l m i).1.length=V l:=by rw[s.len,b]
  simp only[aA.eu,aA,f,aX,aW];and_intros<;>first|exact eW.same|omega|rfl
 obtain rfl:j=V w.2.2:=by have:=a.hj;omega
 rw[wF];refine dj Z an (I.Fv (qS.RU (l:=4) Z Tryz.underlying92 (λw=>Tryz.zeroValue3 w) Z Z) Z Z ?_);refine bM [(35,ae)] Z Z (I.br Z Z ?_);refine I.ny 2 Z Z Z ay (by simp;rw[b];exact a.hm) (dj Z an (I.freeze 4 1 Z Z Z ?_));refine I.tq bO [] Z ?_ Z Z Z pe;have e:(qH w (V w.2.2)).1=(l.take m,w.1.2):=Prod.ext a.OQ.symm (CZ (bm _)).1;have n:m=V (l.take m):=by have:=a.hm;simp;omega
 rw[e];simp only[aA.eu,aA,aX,aW];and_intros<;>first|exact eW.same|exact n|rfl|(intro i hi;simp only[qT,lX.fn,Dk,aj,hU,hi,cv])
section
variable {X:Cx ag}
def Mq(l:List Int)(d:V l<=4000000):Ev X 85 [cI.sl l] [] (mE 0 (.sl (V l) 1 0 (V l))) [CX (V l) l]:=by
 refine Ev.bQ Tryz.func85 rfl λf=>?_;refine bt Z an (I.H6 bO Z Z Z Z Z Z λb c=>?_);cases b with
 |true =>
  obtain rfl:=kB (c rfl);refine bt Z an (I.Xz 2 3 1 (cI.fn []) Z ?_);refine I.dt [0] Z ?_ Z Z Z (λj a=>absurd a ay);simp
 |false =>
  refine sY [] 7 Z an (I.Z8 5 3 1 (cI.fn []) Z ?_);refine bt Z ⟨Z,Z,show(0+V l)*8<=_ by omega⟩ (I.kR [CX (V l) l] Z ?_ ?_)
  .simp[eW,dv]
  refine I.dt [0] Z ?_ Z Z Z (λj a=>absurd a ay);simp;rfl
abbrev clA(w:bS)(b:Bool):List A:=[.bp 2 (.sl (V w.1.1) 2 0 (V w.1.1)),.bp 3 (.sl (V w.1.2.1) 2 0 (V w.1.2.1)),m6 cH w.1.2.2,m6 cI (cI.cz (V w.2.1) (cI.fn w.2.1)),.bp 4 (.sl (V w.2.2) 1 0 (V w.2.2))]
abbrev cl9(w:bS)(a b c d:Bool):List bq :=
 match a,b,c,d with
 |false,_,_,_=>[rK w,.cells 30 pz]
 |true,_,ae,_=>[rK w,.cells 30 pz,.eX 83 2 (V w.1.1) (cP.fn w.1.1),.eX 42 2 (V w.1.2.1) (dY.fn w.1.2.1)]
 |true,_,W,ae=>[rK w,.cells 30 pz,.eX 83 2 (V w.1.1) (cP.fn w.1.1),.eX 42 2 (V w.1.2.1) (dY.fn w.1.2.1),CX (V w.2.2) w.2.2]
 |true,_,W,W=>[rK w,.cells 30 (clA w W),.eX 83 2 (V w.1.1) (cP.fn w.1.1),.eX 42 2 (V w.1.2.1) (dY.fn w.1.2.1),CX (V w.2.2) w.2.2]
abbrev xC9(w:bS)(i:Nat):D :=
 [cE 0 0,n5 w.1,.e (.agg [.bp 2 (.sl (V w.1.1) 2 0 (V w.1.1)),.bp 3 (.sl (V w.1.2.1) 2 0 (V w.1.2.1)),m6 cH w.1.2.2]),cE 0 3,cI.sl w.2.1,cI.sl (cI.cz (V w.2.1) (cI.fn w.2.1)),cE 0 4,cI.sl w.2.2,mE 4 (.sl (V w.2.2) 1 0 (V w.2.2)),
  .e (.agg (clA w W)),.any].getD i .any
def JV(w:bS)(b:iw w.1)(i:V w.2.1<=4000000)(f:V w.2.2<=4000000):Ev X 34 [sJ w] [] (.e (.agg [.bp 0 (.sl (V w.1.1) 2 0 (V w.1.1)),m6 dY w.1.2.1,m6 cH w.1.2.2,m6 cI w.2.1,.bp 1 (.sl (V w.2.2) 1 0 (V w.2.2))])) [.eX 83 2 (V w.1.1) (cP.fn w.1.1),CX (V w.2.2) w.2.2]:=by
 refine Ev.lA bO Tryz.func34 rfl rfl rfl λk=>?_
 have a:b5 X [(39,vg [n5 w.1] [] (.e (.agg [.bp 0 (.sl (V w.1.1) 2 0 (V w.1.1)),.bp 1 (.sl (V w.1.2.1) 2 0 (V w.1.2.1)),.c (.sl ae 2 (V w.1.2.2) (cH.fn w.1.2.2))])) [.eX 83 2 (V w.1.1) (cP.fn w.1.1),.eX 42 2 (V w.1.2.1) (dY.fn w.1.2.1)]),
   (85,lW (aL cI) (λl=>cI.sl l) λl=>[V l<=4000000])]:=.cons (vh (pn w.1 b.p b.p2 b.sn b.s2 b.h)) (.cons (.rl λl h=>vR l h) .nil)
 have s8:b5 X [(85,vg [cI.sl w.2.2] [] (mE 0 (.sl (V w.2.2) 1 0 (V w.2.2))) [CX (V w.2.2) w.2.2])]:=.cons (vh (Mq w.2.2 f)) .nil;refine bj a [(1000001,W)] Z an ?_;refine I.w8 gB (xC9 w) (u9 (cl9 w) 2 5 8 10) Z Z Z Z
  ⟨.tD bO a,.tD bO a,fE.c1 Z Z Z Z Z Z (gK (ds:=[]) bO a (U':=O _) Z ay),.tD bO a,.tD bO a,fE.c2 Z Z Z Z Z Z (OA.eval (ds:=[]) bO a Z (by exact⟨cI.aE _,by rw[cI.aw];exact i⟩)),.tD bO a,.tD bO a,fE.c3 Z Z Z Z Z Z (gK (ds:=[]) bO s8 (U':=O _) Z ek),.tD bO a,
   fE.c4 Z Z Z Z Z Z (gK (ds:=[]) bO a (U':=O _) Z an),an⟩ ?_
 intro D d;show I X _ _ _ _ _ (cl9 w (D 2) (D 5) (D 8) (D 10));rw[d 2 ee,d 5 ee,d 8 ee,d 10 ee];refine ac3 a [] 1 Z an (I.ny 3 Z Z Z ay ay (I.kR [rK w,.cells 30 [.bp 2 (.sl (V w.1.1) 2 0 (V w.1.1)),m6 dY w.1.2.1,m6 cH w.1.2.2,m6 cI w.2.1,.bp 4 (.sl (V w.2.2) 1 0 (V w.2.2))],.eX 83 2 (V w.1.1) (cP.fn w.1.1),.cg,CX (V w.2.2) w.2.2] Z ?_ ?_))
 .simp[cI.aw,qT]
 refine I.nJ () [2,4] Z Z Z Z Z Z Z Z ?_ Z Z Z Z (λj g=>absurd g ay);simp
abbrev V0:bq:=.cells 30 pz
abbrev V1(n m:Nat)(a:List dn)(b:List (Int×Int))(ms lf:List Int):bq:=.cells 30 [.bp 2 (.sl n 2 0 m),m6 dY a,m6 cH b,m6 cI ms,.bp 3 (.sl (V lf) 1 0 (V lf))]
abbrev alm(l:List bz)(m i:Nat)(ms:List Int)(k:Nat):D :=
 [cE 4 0,cE 4 0,cE 4 0,cE 4 0,mE 2 (.sl (V l) 2 0 m),dI i,mE 2 (.el (V l) 2 (0+(i:Int).toNat) 0),vN (Ay l i),
  cE 4 0,cE 4 0,cE 4 3,cI.sl ms,vN (ei (Ay l i) ms),cE 6 0,.any].getD k .any
abbrev agM(w:bS)(l:List bz)(m i:Nat)(d:List dn)(e:List (Int×Int))(ms lf:List Int)(a b:Bool):List bq :=
 match a,b with
 |false,_=>[rK w,V0,Ql l,CX (V lf) lf,V1 (V l) m d e ms lf,.cg]
 |true,ae=>[rK w,V0,Ql l,CX (V lf) lf,V1 (V l) m d e ms lf,.cg,.cells 83 [.c (.int .i64 0),iI]]
 |true,W=>[rK w,V0,Ql l,CX (V lf) lf,V1 (V l) m d e ms lf,.cg,prN l i ms]
set_option maxRecDepth 20000 in
def JW(w:bS)(no:Int)(l:List bz)(m i:Nat)(d:List dn)(g:List (Int×Int))(ms lf:List Int)(o:m<=V l)(k:V l<=4000000)(hi:i<m)(q:oA (λp:bz=>p.1==no) (l.take m)=i)(c:∀p∈l,V p.2<=4000000):
  e9 (ι:={es:Nat->List C // eW (V l) es (cP.fn (kX ms l m i).1)}) X 50 [cE 4 0,dI no] [rK w,V0,Ql l,CX (V lf) lf,V1 (V l) m d g ms lf] (λ_=>.gI []) (λes=>[rK w,V0,.eX 83 2 (V l) es.1,CX (V lf) lf,V1 (V l) (kX ms l m i).2 d g ms lf,.cg,prN l i ms]):=by
 refine e9.FT Tryz.func50 rfl rfl rfl (I.dX ?_);refine bM [(1000001,W)] Z an (I.freeze 3 5 Z Z Z ?_);refine dj Z an (I.cQ (JX l m o k 105 [.int .i64 no] (λp=>p.1==no) λp _=>JY p no) [2] Z ?_);rw[q];have f:Ay l i=l.getD i (0,[]):=uZ;have b:Ay l i∈l:=by rw[f];grind
 have a:b5 X [(106,mi [vN (Ay l i),cI.sl ms] (vN (ei (Ay l i) ms)))]:=.cons (mL (JZ (Ay l i) ms (c _ b))) .nil;have ho:0<=(i:Int)/\(i:Int)<((m:Nat):Int):=aq;have j:V l=V l/\0+(i:Int).toNat<V l:=⟨rfl,by omega⟩
 refine bM [(1000002,W)] Z an ?_;refine I.w8 gB (alm l m i ms) (ve (agM w l m i d g ms lf) 13 14) Z Z Z Z
  ⟨.tK bO a,.tK bO a,.tK bO a,.tK bO a,.tK bO a,.tK bO a,.OY bO a (ho:=by exact ho),.OY bO a (ho:=by exact j),.tK bO a,.tK bO a,.tK bO a,.tK bO a,.OY bO a (ho:=by exact Z),
   fE.sA Z Z (gK (ds:=[]) bO a (U':=O _) Z an),fE.sB Z Z (gK (ds:=[]) bO a (U':=O _) Z an),an⟩ ?_
 intro D n;show I X _ _ _ _ _ (agM w l m i d g ms lf (D 13) (D 14));rw[n 13 ee,n 14 ee];unfold kX;by_cases h:(ei (Ay l i) ms).2.length=0
 .rw[bh MI];refine bM [(29,W)] Z ?_ ?_
  .simp only[aA,cd,h];exact c9
  exact I.cQ (J2 l m i o hi k) [2] Z (dj Z an ⟨⟨_,eW.same⟩,.inr Z,Z,Z,_,_,_,Z,Z,Z,an⟩)
 rw[bc MI];refine bM [(29,ae)] Z ?_ ?_
 .simp only[aA];exact⟨an,by omega,by omega,by omega,by simpa using h⟩
 refine⟨⟨qZ (0+(i:Int).toNat) [.int .i64 (Ay l i).1,sP (ei (Ay l i) ms)] (cP.fn l),?_⟩,.inr Z,Z,Z,_,_,_,Z,Z,Z,an⟩;have:=cP.LA l i (ei (Ay l i) ms) (V l) (bm _);rw[f]at *;rw[show 0+(i:Int).toNat=i by omega];exact this
def Y8(a:Int)(r:List Int)(m:V r<=4000000):
  Ev X 59 [mE 0 (.sl (V (a::r)) 1 0 (V (a::r))),dI 0,dI 1] [CX (V (a::r)) (a::r)] (mE 0 (.sl (V (a::r)) 1 0 (V r))) [CX (V (a::r)) (r++[0])]:=by
 refine Ev.bQ Tryz.func59 rfl λn=>?_;refine bM [(16,ae),(1000006,W)] Z Ki ?_;have f:dD (V (a::r)) (O 0)-dD 0 af+(dD (V (a::r)) af-dD 0 (O 1))=V r:=E9;rw[f];refine I.region ?_;refine sY [] 4 Z an ?_;refine I.gH (bU.Nv bO Z Z Z Z Z Z Z Z Z aq ek (by simp<;>omega)) Z Z ?_;refine I.gH (bU.KB bO Z Z Z Z Z Z ?_) Z Z ?_
 .simp
 refine bM [(1000007,W)] Z an (I.ZF 0 (cI.fn (r++[0])) Z (λ_ _=>rfl) (λM idx jb j l g=>?_) ?_)
 .refine⟨l,?_,λ_ h=>h⟩;rw[<-g];congr 1;unfold rX Hq;simp only[eU]at jb;have k:dD (V r+1) (O 0)-dD 0 af=0:=rfl;have b:dD 0 (O 1)=1:=rfl;have c:dD (V r+1) af=V r+1:=rfl;simp only[eU,bZ,k,b,c];have i:cI.fn (r++[0]) idx=cI.enc ((r++[0]).getD idx 0):=rfl;rw[i];by_cases h:idx<V r
  .have e:(r++[0]).getD idx 0=r.getD idx 0:=fC;have d:cI.fn (a::r) (0+1+(idx-0))=cI.enc (r.getD idx 0):=by rw[show 0+1+(idx-0)=idx+1 by omega];rfl
   rw[bc aq,bh aq,e,<-d]
  obtain rfl:idx=V r:=aq;have e:(r++[0]).getD (V r) 0=0:=ay;rw[bh aq,e];rfl
 refine dj Z an (I.dt [0] Z ?_ Z Z Z sd);simp;rfl
end
def db(k:Int)(w:bS):bS×Bool:=if fJ k w=W then(gz w,Qe w)else(QG,ae)
def Dz(k:Int)(w:bS)(a:Wn w)(b:iw w.1):Ev (Cx.cx ag) 21 [dI k,sJ w] [] (tSw (db k w).1 (db k w).2) []:=by
 refine Ev.lA bO Tryz.func21 rfl rfl rfl λy=>?_;have l:b5 (Cx.cx ag) [(15,rD)]:=.cons uL .nil;have s:=b.p;have g:=a.lft;unfold db;cases hk:fJ k w with
 |false =>
  refine bj l [(10,W)] Z ?_ ?_
  .simp only[aA,cP.aw,cP.aE,dY.aw,dY.aE,cH.aw,cH.aE,cI.aw,cI.aE,hk,a,aX,aW,gm]
  refine I.lz () [] Z Z Z Z Z Z Z Z Z ?_ Z Z Z Z pe;simp
 |true =>
 rw[bh Z];have m:=gT.1 hk;refine bj l [(10,ae)] Z ?_ ?_
 .simp only[aA,cP.aw,cP.aE,dY.aw,dY.aE,cH.aw,cH.aE,cI.aw,cI.aE,hk,a,aX,aW,fZ]
 refine I.cQ (JV w b a.mrk a.lft) [] Z ?_;obtain⟨st,ms,t⟩:=w;cases t with
 |nil =>
  have e:(gz (st,ms,[]),Qe (st,ms,[]))=((st,ms,[]),ae):=rfl;rw[e];refine bM [(17,W)] Z ay (I.ny 2 Z Z Z ay ay (I.ny 3 Z Z Z ay ay (I.lz () [] Z Z Z Z Z Z Z Z Z ?_ Z Z Z Z pe)));simp[qT]
 |cons no r =>
  have x:V2 (st,ms,no::r) (V st.1) 0 st.1 (V st.1):=⟨kn _,rfl,bm _,by simp[qH],b.p2⟩
  obtain⟨i,hi,o,c⟩:=x.next m ay;have f:V r<=4000000:=by have:V r+1<=4000000:=g;omega
  refine bM [(17,ae)] Z ?_ ?_
  .simp<;>omega
  refine I.MM (JW (st,ms,no::r) no st.1 (V st.1) i st.2.1 st.2.2 ms (no::r) (bm _) s hi o b.p2) Z Z Z Z ay Z ?_;rintro⟨es,h⟩;refine dj Z an (I.cQ (Y8 no r f) [3] Z (dj Z an ?_));have n:(kX ms st.1 (V st.1) i).1.length=V st.1:=c.len;have v:(kX ms st.1 (V st.1) i).2<=V st.1:=c.hm;have u:(gz (st,ms,no::r)).1.1=(kX ms st.1 (V st.1) i).1.take (kX ms st.1 (V st.1) i).2:=c.OQ.symm;refine I.ny 2 Z Z Z c9 c9 (I.ny 3 Z Z Z ay ay (I.lz () [] Z Z Z Z Z Z Z Z Z ?_ Z Z Z Z pe));generalize kX ms st.1 (V st.1) i=q at *;simp only[aA.eu,aA,u,aX,aW];and_intros<;>first|exact eW.same|rfl|(simp;omega)|skip
  .intro j d;have:=h j aq;simp only[qT,this,lX.fn,Dk,aj,hU,d,cv]
  intro j d;show cI.enc ((r++[0]).getD j 0)=cI.enc (r.getD j 0);simp[List.getElem?_append,d]
def Hc{n:Int}{l:List Int}{p:Nat}(c:∀j,j<p->l.getD j 0<n)(b:p<V l->n<=l.getD p 0):∀i,i<=V l->(kZ n l i).2=decide (p<i)
 |0,_=>by simp[kZ]
 |i+1,h=>by
  have f:=Hc c b i aq;rw[xx aq];generalize kZ n l i=a at *;unfold iX;by_cases e:p<i
  .grind
  by_cases d:p=i
  .subst d;have:=b aq;grind
  have:=c i aq;grind
def Qn{n:Int}{l:List Int}{p:Nat}(c:∀j,j<p->l.getD j 0<n)(b:p<V l->n<=l.getD p 0)(h:i<V l):
  (kZ n l (i+1)).1=(kZ n l i).1++(if i=p then[n]else[])++(if l.getD i 0≠n then[l.getD i 0]else[]):=by
 have f:=Hc c b i aq;rw[xx h];generalize kZ n l i=a at *;unfold iX;by_cases e:p<i
 .grind
 by_cases d:p=i
 .subst d;have:=b h;grind
 have:=c i aq;grind
def V4{n:Int}{l:List Int}{p:Nat}(b:∀j,j<p->l.getD j 0<n)(a:p<V l->n<=l.getD p 0)(c:p<=V l):jF l n=(kZ n l (V l)).1++(if p=V l then[n]else[]):=by
 have:=Hc b a (V l) (bm _);have e:kZ n l (V l)=l.foldl (iX n) ([],ae):=by unfold kZ;simp
 unfold jF;rw[<-e];grind
section
variable {X:Cx ag}
def V5(l:List Int)(b:Nat)(cs:List C)(q:Int->Bool)(g:∀x,x∈l->Ev X b [dI x,b7 (.rp cs)] [] (dB (q x)) []):
  Ev X 86 [cI.sl l,b7 (.fn (.func b) [] [.rp cs])] [] (dI (oA q l)) []:=by
 refine Ev.bQ Tryz.func86 rfl λk=>?_;have f:=k.sl 0 Z;refine bt Z an (I.cm 0 (λi=>i<=V l/\∀j,j<i->q (l.getD j 0)=ae) (λi:Nat=>[(0,cI.sl l),(1,b7 (.fn (.func b) [] [.rp cs])),(7,dI (V l)),(8,dI i)]) (λ_=>[]) (λi=>V l-i) 0 Z ay Z an Z ⟨by omega,by omega⟩ ?_);rintro i ⟨hi,a⟩;by_cases h:i<V l
 .have m:l.getD i 0∈l:=az;have n:l.getD (i:Int).toNat cI.cy=l.getD i 0:=az;refine ba [(9,W)] Z c9 ?_;rw[n];refine I.cQ (g _ m) [] Z ?_;cases o:q (l.getD i 0)with
  |true =>
   refine ba [(16,W)] Z ay (I.gp (cM.zero Z ?_));simp[xk h o a]
  |false =>
   exact ba [(16,ae)] Z ek (I.aQ (i+1) Z ay an az aq)
 refine ba [(9,ae)] Z c6 (I.br Z Z ?_);refine bt Z an (I.bE Z ?_);simp[rn (t:=l) (d:=0) (λj p=>a j aq)]
def V6(m n:Int):Ev X 87 [dI m,b7 (.rp [.int .i64 n])] [] (dB (decide (n<=m))) []:=by refine Ev.bQ Tryz.func87 rfl λa=>?_;exact bt Z an (I.bE Z)
abbrev fMk(l:List Int)(n:Int)(p:Nat):Fr:=[(0,cI.sl l),(3,b7 (.rp [.int .i64 n])),(5,dI p)]
def Qo(l:List Int)(n:Int)(u:V l<=100000000):Ev X 36 [cI.sl l,dI n] [] (cI.sl (jF l n)) []:=by
 refine Ev.bQ Tryz.func36 rfl λw=>?_;refine ba [(1000001,W)] Z an (I.freeze 3 0 Z Z Z ?_);refine bt Z an (I.cQ (V5 l 87 [.int .i64 n] (λm=>decide (n<=m)) λm _=>V6 m n) [] Z ?_);obtain⟨p,s,q,o,d⟩:∃p:Nat,p<=V l/\(∀j,j<p->l.getD j 0<n)/\(p<V l->n<=l.getD p 0)/\oA (λm=>decide (n<=m)) l=if p<V l then(p:Int)else -1:=by
  rcases Ly (λm=>decide (n<=m)) l with⟨e,h⟩|⟨i,hi,e,h,x⟩
  .refine⟨V l,bm _,λj r=>?_,λh=>absurd h (Nat.lt_irrefl _),by omega⟩;simp_all
  refine⟨i,by omega,λj r=>?_,λ_=>?_,by omega⟩
  .have:=h (l.getD j 0) (by grind[List.mem_take_iff_getElem]);simp_all
  grind
 rw[d];apply I.tG (fMk l n p) [.cg]
 .intro gf;by_cases g:p<V l
  .rw[bh g];exact ba [(13,ae),(1000004,W)] Z ay (gf _ _ Z ay)
  rw[bc g];obtain rfl:p=V l:=aq;exact ba [(13,W),(1000004,W)] Z ay (gf _ _ Z ay)
 refine ba [(1000005,W)] Z an (I.jK 6 3 1 Z Z ?_);refine bt Z an ?_;refine I.cm 2 (λi=>i<=V l) (λi:Nat=>[(0,cI.sl l),(3,b7 (.rp [.int .i64 n])),(5,dI p),(6,.e (.bX (.dk 1 1 (kZ n l i).1.length (cI.fn (kZ n l i).1)))),(16,cI.sl l),(17,dI (V l)),(18,dI i)])
  (λi=>[.cg,.dk 3 1 (kZ n l i).1.length (cI.fn (kZ n l i).1)]) (λi=>V l-i) 0 Z ?_ Z ?_ Z aq ?_
 .simp[kZ]
 .simp[kZ]
 intro i hi;have t:=xy n l i hi;by_cases h:i<V l
 .have b:=Qn q o h;have f:l.getD (i:Int).toNat cI.cy=l.getD i 0:=rfl;generalize kZ n l i=a at *;have v:V a.1<=i+1:=aq;generalize l.getD i 0=y at *;by_cases c1:i=p<;>by_cases c2:y=n
  .rw[bh c1,bc aq,iZ]at b;have d:=cI.cw a.1 n;refine bM [(19,W),(25,W),(32,ae)] Z ?_ (I.aQ (i+1) Z ?_ ?_ h aq)
   .simp only[aA,f,cd,show i3.bytes=8 from Z,bu,dm,fR,eC,ko,zY,dO];and_intros<;>first|rfl|omega|simp
   .rw[b];simp;exact d
   rw[b];exact ek
  .rw[bh c1,bh aq]at b;have d:=cI.rv a.1 n y;refine bM [(19,W),(25,W),(32,W)] Z ?_ (I.aQ (i+1) Z ?_ ?_ h aq)
   .simp only[aA,f,cd,show i3.bytes=8 from Z,bu,dm,fR,eC,ko,zY,dO];and_intros<;>first|rfl|omega|simp
   .rw[b];simp only[f];simp;exact d
   rw[b];simp only[f];simp;exact d
  .rw[bc c1,bc aq,iZ,iZ]at b;refine bM [(19,W),(25,ae),(32,ae)] Z ?_ (I.aQ (i+1) Z ?_ ?_ h aq)
   .simp only[aA,f,cd,show i3.bytes=8 from Z,bu,dm,fR,eC,ko,zY,dO];and_intros<;>first|rfl|omega|(simp[c1,c2];done)
   .rw[b];simp
   rw[b];simp
  rw[bc c1,bh aq,iZ]at b;have d:=cI.cw a.1 y;refine bM [(19,W),(25,ae),(32,W)] Z ?_ (I.aQ (i+1) Z ?_ ?_ h aq)
  .simp only[aA,f,cd,show i3.bytes=8 from Z,bu,dm,fR,eC,ko,zY,dO];and_intros<;>first|rfl|omega|simp
  .rw[b];simp only[f];simp;exact d
  rw[b];simp only[f];simp;exact d
 obtain rfl:i=V l:=aq;have k:=V4 q o s;rw[k];generalize kZ n l (V l)=a at *;refine bM [(19,ae)] Z ay (I.br Z Z ?_);by_cases c1:p=V l
 .rw[bh c1];have d:=cI.cw a.1 n;refine bM [(41,W)] Z ?_ (I.bE Z ?_)
  .simp only[aA,cd,show i3.bytes=8 from Z,bu,dm,fR,eC,dO];and_intros<;>first|rfl|omega|simp
  exact ek
 rw[bc c1,iZ];refine bM [(41,ae)] Z c9 (I.bE Z ?_);simp
end
section
variable {X:Cx ag}[X.ln]
def Ma(k:Int)(s:bA)(by_:Int)(t:List bF):bA×Bool :=
 if fX k s=W/\(1<=by_/\by_<=2)/\cT t=W then(if fx k s t=W then s else dZ k s by_ t,!fx k s t)else(([],[],[]),ae)
end
def CP{k:Int}{l:List cX}:∀(ps a:List Bs),a.Nodup->(ps.foldl (kl k l) a).Nodup
 |[],a,h=>h
 |p::ps,a,h=>by rw[jw];refine CP ps _ ?_;unfold kl;grind
def qE(k:Int)(t:List bF)(l:List cX):(eK k t l).Nodup:=CP _ _ List.nodup_nil
theorem yS{l:List bJ}{x y:bJ}:y∈k9 l x↔y=x∨y∈l:=by
 induction l with
 |nil=>simp[k9]
 |cons a r b=>simp only[k9];split<;>simp[b,or_left_comm,or_assoc]
def VJ{l:List bJ}{x:bJ}(h:l.Pairwise λa b=>a.1<b.1)(c:∀y∈l,y.1≠x.1):(k9 l x).Pairwise λa b=>a.1<b.1:=by
 induction l with
 |nil=>simp[k9]
 |cons a r g =>
  obtain⟨f,d⟩:=ju.1 h;have e:=c a iL;simp only[k9];grind[List.pairwise_cons,yS]
def VK:∀(l a:List bJ),a.Pairwise (λx y=>x.1<y.1)->l.Pairwise (λx y=>x.1≠y.1)->(∀x∈l,∀y∈a,y.1≠x.1)->(l.foldl k9 a).Pairwise λx y=>x.1<y.1
 |[],_,h,_,_=>h
 |x::l,a,h,b,c=>by obtain⟨d1,d2⟩:=ju.1 b;refine VK l _ (VJ h (c x iL)) d2 λz e y d=>?_;grind[yS]
theorem Aw(k:Int)(qs:List Bs):Dl k qs=(qs.map (mr k)).foldl k9 []:=by unfold Dl;rw[List.foldl_map];rfl
theorem G5{qs:List Bs}(hk:cN k=W)(d:∀q∈qs,bH q=W)(g:qs.Nodup):(qs.map (mr k)).Pairwise λx y=>x.1≠y.1:=by rw[wE];refine List.Pairwise.imp_of_mem (λ{a b} h f c e=>c ?_) g;exact uM hk (d a h) (d b f) e
theorem JJ{no:Int}{qs:List Bs}(hk:cN k=W)(c:∀q∈qs,bH q=W)(b:qs.Nodup)(a:V qs<=4):EJ no k qs=gF no k qs:=by
 show(no,rq (qs.map (mr k)))=(no,Dl k qs)
 grind[T3,G5,Aw]
theorem ua{no:Int}{qs:List Bs}(hk:cN k=W)(b:∀q∈qs,bH q=W)(d:qs.Nodup)(g:1<=V qs)(f:V qs<=4):jg k (gF no k qs)=decide (1<=no/\no<=99):=by
 have c:V (Dl k qs)=V qs:=Gx k qs;rw[pO,si,bu];constructor
 .exact λh=>h.no
 intro h;refine⟨h,hk,by show 1<=V (Dl k qs)/\_;rw[show(gF no k qs).2=Dl k qs from Z];omega,λx e=>?_,?_⟩
 .obtain⟨p,a,rfl⟩:=Yb (show x∈Dl k qs from e);have:=Jg (b p a);simp[right,this]
 show (Dl k qs).Pairwise _;rw[Aw];exact VK _ _ List.Pairwise.nil (G5 hk b d) ay
def ss(k:Int):∀(f:Nat) (no:Int)(l:List Bs),V l<=f->ga k f no l=(bl ((V l+3) / 4)).map λj:Nat=>gF (no+j) k (yO l j)
 |0,no,l,h=>by have:V l=0:=aq;exact ek
 |f+1,no,l,h=>by
  simp only[ga];by_cases a:0<V l
  .rw[bh a,ss k f (no+1) (l.drop 4) az];have e:(V l+3) / 4=(V (l.drop 4)+3) / 4+1:=az;rw[e,zU,mR,List.map_map];congr 1
   .simp[yO]
   refine xS λj _=>?_;show gF (no+1+(j:Nat)) k (((l.drop 4).drop (4*j)).take 4)=gF (no+((j+1:Nat):Int)) k ((l.drop (4*(j+1))).take 4);grind[List.drop_drop]
  grind
def Mb{l:List Bs}(b:∀q∈l,bH q=W)(a:l.Nodup)(d:j<(V l+3) / 4):(∀q∈yO l j,bH q=W)/\(yO l j).Nodup/\1<=V (yO l j)/\V (yO l j)<=4 :=
 ⟨λq c=>b q (tc (hO c)),(a.sublist (List.drop_sublist _ _)).sublist (List.take_sublist _ _),by simp[yO];omega,by simp[yO];omega⟩
def VL{s:bA}{l:List Bs}(hk:cN k=W)(b:∀q∈l,bH q=W)(a:l.Nodup)(c:j<(V l+3) / 4):P2 k s l j=(decide (1<=dc s+(j:Int)/\dc s+(j:Int)<=99)&&!(V s.1+j==20)):=by obtain⟨c1,c2,c3,c4⟩:=Mb b a c;unfold P2 rI;grind[JJ,ua]
def YZ{s:bA}{l:List Bs}(hk:cN k=W)(c:∀q∈l,bH q=W)(b:l.Nodup)(e:∀j,j<(V l+3) / 4->P2 k s l j=W):my k s l ((V l+3) / 4)=ga k (V l) (dc s) l:=by
 rw[ss k _ _ _ (bm _)];refine xS λj a=>?_;have a:=pP.1 a;obtain⟨c1,c2,c3,c4⟩:=Mb c b a;have f:=e j a;have d:jg k (gF (dc s+(j:Int)) k (yO l j))=W:=by rw[ua hk c1 c2 c3 c4];rw[VL hk c b a]at f;grind
 unfold rI;rw[JJ hk c1 c2 c4,bh d]
def ld.dc{k:Int}{s:bA}(h:ld k s):1<=dc s/\dc s<=100:=by
 unfold R1.dc;split
 .omega
 rename_i a;have:=(h.pk _ (uO a (0,[]))).no;omega
def CQ(k:Int)(s:bA)(by_:Int)(t:List bF):qk k s by_ t=Ma k s by_ t:=by
 unfold qk Ma;by_cases h:fX k s=W/\(by_=1∨by_=2)/\cT t=W
 .rw[bh h,bh ⟨h.1,by omega,h.2.2⟩];have b:=kL.1 h.1;have B:=b.dc;have A:V s.2.2<=9:=by have:=b.log;simp only[mx,cu,bu]at this;omega
  have v:=b.len;have u:=(jX (k:=k) (l:=dh s.1) (fI h.2.2)).1;have r:=qE k t (dh s.1);have c:V (nN k s t)=(V (eK k t (dh s.1))+3) / 4:=by unfold nN;rw[ss _ _ _ _ (bm _)];simp
  have i:nN k s t=ga k (V (eK k t (dh s.1))) (dc s) (eK k t (dh s.1)):=rfl;unfold xN;simp only;generalize eK k t (dh s.1)=l at *;obtain⟨D,g2,z,w⟩:=tZ (P2 k s l) ((V l+3) / 4) 0;generalize n9 (P2 k s l) ((V l+3) / 4) 0=m at *;have n:∀j,j<(V l+3) / 4->P2 k s l j=(decide (1<=dc s+(j:Int)/\dc s+(j:Int)<=99)&&!(V s.1+j==20)):=λj d=>VL b.key u r d;by_cases g:m<(V l+3) / 4
  .rw[bh g];have q:=w aq;rw[n m g]at q;have f:fx k s t=W:=by simp only[fx,kC,bu,c];simp only[EW,dm,ue,fR]at q;omega
   grind
  rw[bc g];obtain rfl:m=(V l+3) / 4:=aq;have a:∀j,j<(V l+3) / 4->1<=dc s+(j:Int)/\dc s+(j:Int)<=99/\V s.1+j≠20:=λj d=>by grind
  have x:V s.1+(V l+3) / 4<=20:=by refine Nat.le_of_not_lt λC=>?_;exact(a (20-V s.1) aq).2.2 aq
  have y:dc s+(((V l+3) / 4:Nat):Int)-1<=99:=by
   rcases oN ((V l+3) / 4)with e|e
   .grind
   have:=(a ((V l+3) / 4-1) aq).2.1;omega
  by_cases p:20<cq s
  .rw[bh p];have f:fx k s t=W:=Re;grind
  rw[bc p];by_cases o:V s.2.2=9
  .rw[bh o];have f:fx k s t=W:=Re;grind
  rw[bc o];have f:fx k s t=ae:=by simp only[fx,wC,dm,c];omega
  rw[f];simp only[dZ,i,YZ b.key u r λj d=>z j (kn _) d,gm];rfl
 grind
theorem JK{l:List cX}{x y:cX}(h:y∈iF l x):y=x∨y∈l:=by
 induction l with
 |nil=>simpa[iF]using h
 |cons a r b =>
  simp only[iF]at h;grind
def VM{l:List cX}{x:cX}(h:l.Pairwise λa b=>a.1<b.1):(iF l x).Pairwise λa b=>a.1<b.1:=by
 induction l with
 |nil=>simp[iF]
 |cons a r e =>
  obtain⟨g,c⟩:=ju.1 h;simp only[iF];split
  .rename_i d;refine ju.2 ⟨λy f=>?_,e c⟩;grind[JK]
  grind[List.pairwise_cons]
def CR:∀(l a:List cX),(∀x∈l,fS x=W)->(∀x∈a,fS x=W)->a.Pairwise (λa b=>a.1<b.1)->(∀x∈l.foldl iF a,fS x=W)/\(l.foldl iF a).Pairwise λa b=>a.1<b.1
 |[],a,_,d,c=>⟨d,c⟩
 |x::l,a,h,d,c=>CR l (iF a x) (λy e=>h y (lY _ e)) (λy e=>by grind[JK]) (VM c)
theorem Y0{l:List cX}(c:∀x∈l,fS x=W)(d:l.Pairwise λa b=>a.1<b.1):wa l (V l)=W:=by
 refine dG.2 λi hi=>?_;rw[cu];refine⟨c _ az,?_⟩;rcases oN i with e|e
 .simp[e]
 rw[kC];grind[List.pairwise_iff_getElem]
def Mc(l:List bz):wa (dh l) (V (dh l))=W:=by
 unfold dh;split
 .rename_i h;obtain⟨b,a⟩:=CR (dC l) [] (bL.1 h) ay List.Pairwise.nil;grind[Y0]
 rfl
def Md{l:List bz}(h:∀x∈l,V x.2<=4):V (dC l)<=4*V l:=by
 induction l with
 |nil=>simp[dC]
 |cons f r c =>
  have a:=c λg d=>h g (lY _ d);have b:=h f iL;simp only[dC,uf,cj,kg,eU]at a⊢;omega
def ld.cq{k:Int}{s:bA}(h:ld k s)(a:yv s):1<=cq s:=by have hb:=pq s.2.2 a.h;unfold R1.cq;split<;>omega
def ld.sZ{s:bA}(h:ld k s)(b:yv s):VH k s:=by refine⟨h.key,?_,Mc _,h.log,h.cq b⟩;have:=Md λx a=>(h.pk x a).len.2;have:=h.len;omega
def zr{s:bA}{by_:Int}{t:List bF}(c:fX k s=W)(b:1<=by_/\by_<=2)(a:cT t=W):Ma k s by_ t=(if fx k s t=W then s else dZ k s by_ t,!fx k s t):=bh ⟨c,b,a⟩
def JL{k:Int}{l:List cX}:∀(ps a:List Bs)(p:Bs),p∈ps.foldl (kl k l) a↔p∈a∨(p∈ps/\ml l (fb k p)=0)
 |[],a,p=>by simp
 |q::ps,a,p=>by
  rw[jw,JL ps];unfold kl;split
  .rename_i b;simp only[cu,fR]at b;grind
  rename_i b;simp only[cu,fR,iM]at b;by_cases e:p=q
  .subst e;by_cases d:ml l (fb k p)=0
   .have:a.contains p=W:=by
     cases c:a.contains p with
     |true=>rfl
     |false=>exact absurd ⟨d,c⟩ b
    have:p∈a:=by simpa using this
    grind
   grind
  grind
def ql{t:List bF}{l:List cX}{p:Bs}:p∈eK k t l↔(∃f∈t,p∈bR f.2)/\ml l (fb k p)=0:=by unfold eK;rw[JL];simp
def VN{l:List cX}{x:cX}{n:Int}:(∃y∈iF l x,y.1=n)↔n=x.1∨∃y∈l,y.1=n:=by
 induction l with
 |nil=>simp[iF,eq_comm]
 |cons a r c =>
  simp only[iF];split
  .simp only[eQ,exists_eq_or_imp,c];grind
  constructor
  .rintro⟨y,b,rfl⟩;rcases eQ.1 b with rfl|b
   .omega
   exact .inr ⟨y,(iz.1 b).1,Z⟩
  rintro(rfl|⟨y,b,rfl⟩)
  .exact⟨x,iL,Z⟩
  by_cases e:y.1=x.1
  .exact⟨x,iL,e.symm⟩
  exact⟨y,lY _ (iz.2 ⟨b,by simpa using e⟩),Z⟩
def EK:∀(l a:List cX) (n:Int),(∃y∈l.foldl iF a,y.1=n)↔(∃y∈l,y.1=n)∨∃y∈a,y.1=n
 |[],a,n=>by simp
 |x::l,a,n=>by rw[jw,EK l,VN];grind
def Me{x:bJ}(h:right k x=W):∃p,bH p=W/\x.1=fb k p:=by
 unfold right at h;split at h
 .rename_i p a;unfold gu at a;split at a
  .rename_i b;cases a;simp only[cu]at b;exact⟨_,b.1,(by simpa using h:fb k _=x.1).symm⟩
  cases a
 cases h
def VO{ps:List bz}(h:∀p∈ps,vj k p):(dC ps).all fS=W:=by refine bL.2 λy a=>?_;obtain⟨p,b,a⟩:=rP.1 a;obtain⟨x,c,rfl⟩:=ja.1 a;obtain⟨q,f,e⟩:=Me ((h p b).rt x c);have d:=(h p b).no;simp only[fS,cu,bu,e,fb];omega
def CU{ps:List bz}(h:∀p∈ps,vj k p)(n:Int):ml (dh ps) n=0↔n∉bT ps:=by
 have b:=VO h;unfold dh;rw[bh b];have hk:=EK (dC ps) [] n;have c:(∃y∈dC ps,y.1=n)↔n∈bT ps:=by
  simp only[dC,bT,rP,ja];constructor
  .rintro⟨_,⟨p,f,x,d,rfl⟩,rfl⟩;exact⟨p,f,x,d,Z⟩
  rintro⟨p,f,x,d,rfl⟩;exact⟨_,⟨p,f,x,d,Z⟩,Z⟩
 have i:=(CR (dC ps) [] (bL.1 b) ay List.Pairwise.nil).1;generalize(dC ps).foldl iF []=l at *;unfold ml;split
 .rename_i s a;have m:=i s (wv a);have g:s.1=n:=Rs;have:n∈bT ps:=by rw[<-c];have:=hk.1 ⟨s,wv a,g⟩;simpa using this
  simp only[fS,cu,bu]at m;grind
 rename_i a;have o:=uc.1 a;refine⟨λ_ q=>?_,λ_=>rfl⟩;obtain⟨y,j,e⟩:=hk.2 (.inl (c.2 q));exact o y j (by simpa using e)
def G6{qs:List Bs}{x:bJ}:x∈Dl k qs↔∃p∈qs,x=mr k p:=by
 rw[Aw];have:∀(l a:List bJ),x∈l.foldl k9 a↔x∈l∨x∈a:=by
  intro l;induction l with
  |nil=>simp
  |cons y l b=>intro a;rw[jw,b,yS];grind
 rw[this];grind
def su{k:Int}{n:Int}:∀(f:Nat) (no:Int)(l:List Bs),V l<=f->(n∈bT (ga k f no l)↔∃p∈l,fb k p=n)
 |0,no,l,h=>by have:l=[]:=List.length_eq_zero_iff.1 aq;subst this;simp[ga,bT]
 |f+1,no,l,h=>by
  simp only[ga];split
  .have c:=su (k:=k) (n:=n) f (no+1) (l.drop 4) c6;have e:bT (gF no k (l.take 4)::ga k f (no+1) (l.drop 4))=(Dl k (l.take 4)).map (·.1)++bT (ga k f (no+1) (l.drop 4)):=ek;rw[e,eZ,c];have:(n∈(Dl k (l.take 4)).map (·.1))↔∃p∈l.take 4,fb k p=n:=by
    rw[ja];constructor
    .rintro⟨x,b,rfl⟩;obtain⟨p,a,rfl⟩:=G6.1 b;exact⟨p,a,Z⟩
    rintro⟨p,a,rfl⟩;exact⟨mr k p,G6.2 ⟨p,a,Z⟩,Z⟩
   rw[this];conv=>rhs;rw[<-Az 4 l]
   grind
  have:l=[]:=List.length_eq_zero_iff.1 aq;subst this;simp[bT]
def xP{k:Int}(hk:cN k=W):∀(f:Nat) (no:Int)(l:List Bs),V l<=f->(∀q∈l,bH q=W)->l.Nodup->(bT (ga k f no l)).Nodup
 |0,no,l,h,_,_=>by simp[ga,bT]
 |f+1,no,l,h,i,g=>by
  simp only[ga];split
  .have e:bT (gF no k (l.take 4)::ga k f (no+1) (l.drop 4))=(Dl k (l.take 4)).map (·.1)++bT (ga k f (no+1) (l.drop 4)):=ek;have n:(Dl k (l.take 4)).Pairwise λx y=>x.1<y.1:=by rw[Aw];exact VK _ _ List.Pairwise.nil (G5 hk (λq b=>i q (hO b)) (g.sublist (List.take_sublist _ _))) ay
   rw[e,List.nodup_append];refine⟨wE.2 (n.imp λh=>by omega),xP hk f _ _ c6 (λq b=>i q (tc b)) (g.sublist (List.drop_sublist _ _)),λa o c j e=>?_⟩;subst e;obtain⟨x,m,rfl⟩:=ja.1 o;obtain⟨p,d,rfl⟩:=G6.1 m;obtain⟨q,b,e⟩:=(su f _ _ c6).1 j;have e:=uM hk (i q (tc b)) (i p (hO d)) e;subst e;rw[<-Az 4 l,List.nodup_append]at g;exact g.2.2 q d q b Z
  exact ek
def JM(t:Bs):(bR t).flatten=t:=by
 have:∀k f,f<=V t->V t-f<=k->(gV t k f).flatten=t.drop f:=by
  intro k;induction k with
  |zero=>intro f c a;simp[gV,MA (show V t<=f by omega)]
  |succ k d =>
   intro f c a;simp only[gV];split
   .rename_i h;obtain⟨e,b,_⟩:=pg t f h;rw[List.flatten_cons,d _ b aq];conv=>rhs;rw[<-Az (fH t f-f) (t.drop f),List.drop_drop,show f+(fH t f-f)=fH t f by omega]
   exact c9
 exact(this (V t) 0 (kn _) aq).trans ay
def JN{no:Int}{ps:List bz}{t:List bF}(hk:cN k=W)(d:cT t=W)(h:∀f∈t,∀p∈bR f.2,dx k ps (fb k p)=O p):cn k (di no k t) ps=O t:=by
 have c:=(lT.1 d).1;have e:∀f∈t,fN k ps (nO k f)=O f:=λf a=>by
  have i:=h f a;have o:eD k ps (nO k f).2=O (bR f.2):=by
   unfold eD nO;rw[bh]
   .congr 1;rw[List.map_map];conv=>rhs;rw[<-List.map_id (bR f.2)]
    exact xS λp b=>by simp[i p b]
   refine bL.2 λn l=>?_;obtain⟨p,b,rfl⟩:=ja.1 l;exact ek
  have m:ig (bR f.2)=O f.2:=by unfold ig;rw[JM,(c f a).2];simp
  unfold fN;exact ek
 have g:ef k ps (t.map (nO k))=t:=by
  unfold ef;rw[List.map_map];conv=>rhs;rw[<-List.map_id t]
  exact xS λf a=>by simp[e f a]
 have j:((t.map (nO k)).all λx=>(fN k ps x).isSome)=W:=bL.2 λx c=>by obtain⟨f,a,rfl⟩:=ja.1 c;exact ek
 unfold cn di;simp only[g,j,hk,d,Bool.and_self,cv]
structure Sv(k:Int)(s:bA)(by_:Int)(t:List bF):Prop where
 st:ld k s
 nu:yv s
 by':1<=by_/\by_<=2
 tr:cT t=W
 fu:fx k s t=ae
section
variable {s:bA}{by_:Int}{t:List bF}
def Sv.agF(h:Sv k s by_ t){f:bF}(a:f∈t){p:Bs}(b:p∈bR f.2):bH p=W:=by have:=(jX (k:=k) (l:=[]) (fI h.tr)).1 p;exact this (ql.2 ⟨⟨f,a,b⟩,Z⟩)
def Sv.aaP(h:Sv k s by_ t)(n:Int):n∈bT (dZ k s by_ t).1↔n∈bT s.1∨∃f∈t,∃p∈bR f.2,fb k p=n:=by
 have e:bT (dZ k s by_ t).1=bT s.1++bT (nN k s t):=by simp[dZ,bT]
 rw[e,eZ];unfold nN;rw[su _ _ _ (bm _)];constructor
 .rintro(h1|⟨p,a,rfl⟩)
  .exact .inl h1
  obtain⟨⟨f,b,a⟩,_⟩:=ql.1 a;exact .inr ⟨f,b,p,a,Z⟩
 rintro(h1|⟨f,b,p,a,rfl⟩)
 .simp_all
 by_cases c:fb k p∈bT s.1
 .simp_all
 exact .inr ⟨p,ql.2 ⟨⟨f,b,a⟩,(CU h.st.pk _).2 c⟩,Z⟩
def Sv.new(h:Sv k s by_ t):(∀p∈nN k s t,vj k p)/\(nN k s t).Pairwise (λp q=>p.1<q.1)/\∀p∈nN k s t,dc s<=p.1:=by
 have f:=jX (k:=k) (l:=dh s.1) (fI h.tr);have d:=qE k t (dh s.1);have c:=h.fu;have i:=h.st.dc;unfold fx at c;unfold nN at *;generalize eK k t (dh s.1)=l at *;rw[ss k _ _ _ (bm _)]at *;simp only[wC,dm,kg,List.length_range]at c;refine⟨λp e=>?_,?_,λp e=>?_⟩
 .obtain⟨j,hj,rfl⟩:=ja.1 e;have hj:=pP.1 hj;obtain⟨c1,c2,c3,c4⟩:=Mb f.1 d hj;rw[<-si,ua h.st.key c1 c2 c3 c4,bu];omega
 .rw[wE];refine List.pairwise_lt_range.imp λ{a b} g=>?_;show dc s+(a:Int)<dc s+(b:Int);omega
 obtain⟨j,hj,rfl⟩:=ja.1 e;show dc s<=dc s+(j:Int);omega
def ld.Cv(h:ld k s):∀p∈s.1,p.1<R1.dc s:=by
 intro p a;obtain⟨i,hi,rfl⟩:=gM a;unfold R1.dc;rw[bc aq,uR aq];by_cases e:i=V s.1-1
 .exact ek
 have:=oK.1 h.pa i (V s.1-1) hi aq aq;omega
def ld.xE(h:ld k s):∀x∈s.2.1,x.1<R1.cq s:=by
 intro x a;obtain⟨i,hi,rfl⟩:=gM a;unfold R1.cq;rw[bc aq,uR aq];by_cases e:i=V s.2.1-1
 .exact ek
 have:=oK.1 h.sa i (V s.2.1-1) hi aq aq;omega
def Sv.O0(h:Sv k s by_ t):∀p∈(dZ k s by_ t).1,vj k p:=λp a=>by
 rcases eZ.1 a with a|a
 .exact h.st.pk p a
 exact h.new.1 p a
def Sv.agG(h:Sv k s by_ t){no:Int}:cn k (di no k t) (dZ k s by_ t).1=O t:=by refine JN h.st.key h.tr λf b p c=>?_;obtain⟨q,a⟩:=CV h.st.key h.O0 ((h.aaP _).2 (.inr ⟨f,b,p,c,rfl⟩));obtain⟨d,e,_⟩:=wc a;rw[a,uM h.st.key d (h.agF b c) e]
def Sv.old(h:Sv k s by_ t){x:dn}{u:List bF}(a:cn k x s.1=O u):cn k x (dZ k s by_ t).1=O u :=
 G7 (λn p=>P5 h.st.key h.O0 (λn b=>(h.aaP n).2 (.inl b))) a
def Sv.ok(h:Sv k s by_ t):ld k (dZ k s by_ t):=by
 have g:=h.fu;simp only[fx,wC,dm]at g;have n:=h.new;have f:=h.st.xE;have m:=h.st.cq h.nu;refine⟨h.O0,?_,?_,λx c=>?_,?_,h.st.key,?_,by simp only[dZ,cj];omega⟩
 .refine mz.2 ⟨h.st.pa,n.2.1,λa d b hb=>?_⟩;have:=h.st.Cv a d;have:=n.2.2 b hb;omega
 .have e:bT (dZ k s by_ t).1=bT s.1++bT (nN k s t):=by simp[dZ,bT]
  have j:=jX (k:=k) (l:=dh s.1) (fI h.tr);rw[e,List.nodup_append];refine⟨h.st.nd,xP h.st.key _ _ _ (bm _) j.1 (qE _ _ _),λa d b hb e=>?_⟩;subst e;obtain⟨p,q,rfl⟩:=(su _ _ _ (bm _)).1 hb;exact(CU h.st.pk _).1 (ql.1 q).2 d
 .rcases eZ.1 c with c|c
  .obtain⟨h1,h2⟩:=h.st.sn x c;obtain⟨u,o⟩:=EV.1 h2;exact⟨h1,by rw[h.old o];rfl⟩
  rw[gj]at c;subst c;exact⟨⟨m,by show cq s<=20;omega⟩,by rw[h.agG];rfl⟩
 .refine mz.2 ⟨h.st.sa,by simp,λa d b hb=>?_⟩;rw[gj]at hb;subst hb;exact f a d
 have hl:=h.st.log;have hb:=h.by';simp only[mx,cu,bu,dG]at hl⊢;refine⟨λi hi=>?_,by simp only[dZ,cj,eY];omega⟩;simp only[dZ,cj,eY]at hi⊢;by_cases e:i<V s.2.2
 .have:=hl.1 i e
  rwa [aj,j8 e,<-aj]
 obtain rfl:i=V s.2.2:=aq;rw[aj,iy (bm _),Nat.sub_self];simp only[lH,iY,iP,cu,bu];omega
def Sv.load(h:Sv k s by_ t):dq k (dZ k s by_ t) (cq s)=O t:=by
 unfold dq;have e:(dZ k s by_ t).2.1.find? (λx=>x.1==cq s)=O (di (cq s) k t):=by
  simp only[dZ,List.find?_append];have:s.2.1.find? (λx=>x.1==cq s)=af:=uc.2 λx a=>by have:=h.st.xE x a;simp;omega
  rw[this];simp[di]
 rw[e];exact h.agG
def Sv.Y1(h:Sv k s by_ t){x:dn}(c:x∈s.2.1):dq k (dZ k s by_ t) x.1=dq k s x.1:=by
 unfold dq;have e:(dZ k s by_ t).2.1.find? (λy=>y.1==x.1)=s.2.1.find? (λy=>y.1==x.1):=by
  simp only[dZ,List.find?_append];cases a:s.2.1.find? (λy=>y.1==x.1)with
  |some y=>rfl
  |none=>exact absurd (uc.1 a x c) ay
 rw[e];cases a:s.2.1.find? (λy=>y.1==x.1)with
 |none=>rfl
 |some y =>
  obtain⟨u,b⟩:=EV.1 (h.st.sn y (wv a)).2;show cn k y _=cn k y _;rw[b,h.old b]
end
abbrev DrS:={q:bS×Int×List bF // Oh q.1/\1<=q.2.1/\q.2.1<=3}
def wi(m:Nat)(b:Nat->Int)(a:Bytes b)(i:m<=1048576):e9 (ι:=DrS) (Cx.cx ag) 6 [b7 (.sl ae 1 m (xT b))] [] (λq=>.gI [.bX (.c (.int .i64 7)),.agg (swA q.1.1),.bX (.c (.int .i64 q.1.2.1)),.bX (.c (.sl ae 2 (V q.1.2.2) (cF.fn q.1.2.2)))]) (λ_=>[]):=by refine e9.RS Tryz.func6 rfl rfl (fY rfl) (I.dX ?_);refine bt Z an ?_;refine I.cP (Yt m b i) [] Z fe ?_;rintro⟨d,hm'⟩;refine bt Z an ?_;refine I.cP (Mp d b a hm') [1] Z fe ?_;rintro⟨⟨w,k⟩,g,hk⟩;simp only at g hk;refine bt Z an ?_;refine I.cP (iH d b a k 2 aq hm' aq) [1] Z fe ?_;rintro⟨u,j,l⟩;refine bt Z ek ?_;refine I.cP (iH d b a (k+1) 24 aq hm' aq) [1] Z fe ?_;rintro⟨v,v0,v1⟩;refine bt Z KE ?_;refine I.cP (VR d b a (k+1+1) aq hm') [1] Z fe ?_;intro q;refine bt Z an ?_;refine I.freeze 3 0 Z Z Z ?_;have f:1<=1+u+v / 23/\1+u+v / 23<=3:=aq;refine I.kV (λ_ _ _ h=>⟨⟨(w,1+u+v / 23,q.t),g,f⟩,h⟩) ?_;refine I.tq bO [] Z ?_ Z Z Z pe;simp
end R1
section
namespace R1
variable {X:Cx ag}[X.ln]
abbrev Xx(s:bA)(i:Nat):Nat:=dD (V s.1) (O (i:Int))-dD 0 af
abbrev ai7(s:bA)(i:Nat):Nat:=dD (V s.1) af-dD 0 (O ((i:Int)+1))
abbrev es1(s:bA):Nat->List C:=nY (dD 0 af) (cP.fn s.1)
abbrev Kq(s:bA)(i:Nat):Nat->List C:=nY (dD 0 (O ((i:Int)+1))) (cP.fn s.1)
end R1
end
namespace R1
section
variable {X:Cx ag}
def Zc(l:List Int)(n:Int):Ev X 12 [cI.sl l,dI n] [] (dB (l.contains n)) []:=by
 refine Ev.bQ Tryz.func12 rfl λb=>?_;have d:=b.sl 0 Z;refine bt Z an (I.cm 0 (λi=>i<=V l/\∀j,j<i->l.getD j 0≠n) (λi:Nat=>[(0,cI.sl l),(1,dI n),(5,dI i)]) (λ_=>[]) (λi=>V l-i) 0 Z ay Z an Z ⟨by omega,by omega⟩ ?_);rintro i ⟨hi,a⟩;by_cases h:i<V l
 .have c:l.getD (i:Int).toNat cI.cy=l.getD i 0:=rfl;by_cases f:l.getD i 0=n
  .have:l.contains n=W:=az;rw[this];refine ba [(9,W),(17,W)] Z ?_ (I.gp (cM.zero Z));exact ek
  refine ba [(9,W),(17,ae)] Z ?_ (I.aQ (i+1) Z ?_ an ⟨h,λj e=>?_⟩ aq)
  .simp only[aA,c,cd,bu,eC,aX,aW];and_intros<;>first|grind|omega
  .simp
  grind
 have:l.contains n=ae:=DF;rw[this];refine ba [(9,ae)] Z c9 (I.br Z Z ?_);exact bt Z an (I.bE Z)
abbrev aaR:eP:=qb (aL cI) aI (λl n=>dB (l.contains n)) λ_ _=>[]
def agN:fp X 12 aaR:=.s9 λl n _=>Zc l n
def mQ(w:bS)(b:iw w.1):Ev X 9 [sJ w,sJ w] [] (dB W) []:=by refine Ev.bQ Tryz.func9 rfl λc=>?_;have a:b5 X [(13,mi [n5 w.1,n5 w.1] (dB W)),(14,X7)]:=.cons (mL (B4 w.1 b)) (.cons acM .nil);refine bj a [(10,W),(17,W)] Z ?_ (I.bE Z);exact ek
end
def EO:∀{l:List dn}{x:dn},(l.Pairwise λa b=>a.1<b.1)->x∈l->l.find? (λy=>y.1==x.1)=O x
 |y::l,x,h,c=>by
  obtain⟨e,d⟩:=ju.1 h;rw[List.find?_cons];rcases eQ.1 c with rfl|c
  .simp
  have:=e x c;rw[show(y.1==x.1)=ae by simp;omega];exact EO d c
def Oh.sz{w:bS}(h:Oh w):Qg w:=⟨h.s.rF,h.s.smT.toSmS,by have:=h.m;omega,by have:=h.l;omega⟩
def Oh.smW{w:bS}(h:Oh w):Wn w:={toYo:=h.s.smT,mrk:=h.sz.n,lft:=h.sz.l}
def Oh.step{w:bS}(h:Oh w):Oh (gz w):=by
 unfold gz;split
 .exact h
 rename_i no r hl;refine⟨h.s.step _ _,h.m,?_⟩;have:=h.l;grind
section
variable {X:Cx ag}
end
def EN{w:bS}(h:g6 k w){y:dn}(a:y∈w.1.2.1):dq k (gz w).1 y.1=dq k w.1 y.1:=by
 unfold gz;split
 .rfl
 rename_i no r d;have b:w.1.2.1.find? (λx=>x.1==y.1)=O y:=EO h.sa a;simp only[dq,b];exact tX λn c=>vY (h.mk' y a n c) _
section
variable {w:bS}{by_:Int}{t:List bF}
def Za(c:yv w.1)(h:(mo k w by_ t).2=W):g6 k w/\Sv k w.1 by_ t/\mo k w by_ t=(gw k w by_ t,W):=by
 unfold mo at *;split at h
 .rename_i a;rw[bh a];split at h
  .cases h
  rename_i d;rw[bc d];simp only[JR,cu,bu]at a;have b:=gT.1 a.1.1;exact⟨b,⟨b.told,c,a.1.2,a.2,by simp_all⟩,Z⟩
 cases h
def g6.sZ(b:g6 k w)(d:Sv k w.1 by_ t):g6 k (gw k w by_ t):=by
 refine⟨d.ok,λx a n c=>?_,λn c=>?_,b.la⟩
 .show n∈(fh (di (cq w.1) k t).2).foldl jF w.2.1;rw[oI,vW];have a:x∈w.1.2.1++[di (cq w.1) k t]:=a;rcases eZ.1 a with a|a
  .exact .inl (b.mk' x a n c)
  simp_all
 obtain⟨p,f,e⟩:=b.lp n c;exact⟨p,zX _ f,e⟩
def J4(a:g6 k w){y:dn}(b:y∈w.1.2.1):∀j,j<=V w.2.2->dq k (qH w j).1 y.1=dq k w.1 y.1
 |0,_=>rfl
 |j+1,h=>by obtain⟨c,_,_,_⟩:=CZ (w:=w) (j:=j) aq;exact(EN (a.qH j) fC).trans (J4 a b j aq)
abbrev C0(w:bS):bA:=(qH w (V w.2.2)).1
def yU:(C0 w).2=w.1.2:=(CZ (bm _)).1
def J5(a:g6 k w){y:dn}(b:y∈w.1.2.1):dq k (C0 w) y.1=dq k w.1 y.1:=J4 a b _ (bm _)
def Mr(b:g6 k w)(a:Sv k w.1 by_ t):dq k (C0 (gw k w by_ t)) (cq w.1)=O t:=by have:=J5 (b.sZ a) (y:=di (cq w.1) k t) (List.mem_append_right _ (gj.2 Z));exact this.trans a.load
def Ms(c:g6 k w)(a:Sv k w.1 by_ t){y:dn}(b:y∈w.1.2.1):dq k (C0 (gw k w by_ t)) y.1=dq k w.1 y.1 :=
 (J5 (c.sZ a) (zX _ b)).trans (a.Y1 b)
def Mt:cq (gz w).1=cq w.1:=Rz
def C1:(gz w).1.2=w.1.2:=Rz
def Mv(b:g6 k w)(d:Sv k w.1 by_ t)(c:Sv k (gz w).1 by_ t){y:dn}(a:y∈(C0 (gw k w by_ t)).2.1):
  dq k (C0 (gw k (gz w) by_ t)) y.1=dq k (C0 (gw k w by_ t)) y.1:=by
 rw[yU]at a;have a:y∈w.1.2.1++[di (cq w.1) k t]:=a;rcases eZ.1 a with a|a
 .rw[Ms b d a,Ms b.step c (by rw[C1];exact a),EN b a]
 rw[gj]at a;subst a;have e:(di (cq w.1) k t).1=cq w.1:=rfl;rw[e,Mr b d];have:=Mr b.step c;rw[Mt]at this;omega
end
def J6{l:List Int}(e:l.Pairwise (·<=·)):∀k,k<=V l->(lb l k).Pairwise (· < ·)/\∀x∈lb l k,0<k/\x<=l.getD (k-1) 0
 |0,_=>by simp[lb]
 |k+1,h=>by
  obtain⟨f,i2⟩:=J6 e k aq;have c:∀j,j<k->l.getD j 0<=l.getD k 0:=λj g=>by have:=oK.1 e j k aq aq g;grind
  rw[lb];split
  .rename_i i;refine⟨f,λx a=>⟨by omega,?_⟩⟩;have:=i2 x a;have:=c (k-1) aq;simp only[pH];omega
  rename_i i;have b:∀x∈lb l k,x<l.getD k 0:=λx a=>by have n:=i2 x a;have m:=c (k-1) aq;omega
  refine⟨mz.2 ⟨f,by simp,λx a y d=>?_⟩,λx a=>⟨by omega,?_⟩⟩
  .rw[gj]at d;subst d;exact b x a
  simp only[pH];rcases eZ.1 a with a|a
  .have:=b x a;omega
  rw[gj]at a;omega
def ER(x:dn):jG x=fh x.2:=by
 refine NY ?_ (EP List.Pairwise.nil) λn=>by rw[vX,vW]
 unfold jG fA;exact(J6 (xG _) _ (bm _)).1
abbrev ssB(a b:av×ah)(w:bS)(s:bA)(ms:List Int):List bq:=L9 a b++[rK w,.cells 30 pz,.cg,rK (s,ms,w.2.2),wo s]
def Zb{w:bS}{by_:Int}{t:List bF}(c:fJ k w=W)(b:1<=by_/\by_<=2)(a:cT t=W):mo k w by_ t=if fx k w.1 t=W then(w,ae)else(gw k w by_ t,W):=by unfold mo JR;simp_all
def nc(o l:av×ah)(k:Int)(w:bS)(by_:Int)(t:List bF)(b:Wn w)(s:iw w.1)(E:yv w.1)(K:cd .i64 by_):
  Ev (Cx.cx ag) 8 [dI k,sJ w,dI by_,cF.sl t] (L9 o l) (tSw (mo k w by_ t).1 (mo k w by_ t).2) (L9 o l):=by
 refine Ev.lA bO Tryz.func8 rfl rfl rfl λaa=>?_;have g:b5 (Cx.cx ag) [(15,rD),(33,c33)]:=.cons uL (.cons t33 .nil);have a:(w.1,w.2.1,w.2.2)=w:=rfl;have P:=s.p;cases d:fJ k w with
 |false =>
  have e:mo k w by_ t=(QG,ae):=by unfold mo JR;simp[d]
  rw[e];refine bj g [(19,W),(27,W),(31,W)] Z ?_ ?_
  .simp only[aA,cP.aw,cP.aE,dY.aw,dY.aE,cH.aw,cH.aE,cI.aw,cI.aE,a,d,b,gm,aX,aW]
  refine I.lz () [0,1,2] Z Z Z Z Z Z Z Z Z ?_ Z Z Z Z kt;simp
 |true =>
 by_cases z:1<=by_/\by_<=2
 rotate_left
 .have e:mo k w by_ t=(QG,ae):=by unfold mo JR;simp[z]
  rw[e];refine bj g [(19,ae),(22,W),(27,W),(31,W)] Z ek (I.lz () [0,1,2] Z Z Z Z Z Z Z Z Z ?_ Z Z Z Z kt);simp
 have j:by_=1∨by_=2:=aq;cases c:cT t with
 |false =>
  have e:mo k w by_ t=(QG,ae):=by unfold mo JR;simp[c]
  rw[e];rcases j with rfl|rfl
  .refine bj g [(19,ae),(22,ae),(27,ae),(31,W)] Z ?_ ?_
   .simp only[aA,cP.aw,cP.aE,dY.aw,dY.aE,cH.aw,cH.aE,cI.aw,cI.aE,cF.aw,cF.aE,a,d,jD,c,b,fZ,gm,aX,aW];simp
   refine I.lz () [0,1,2] Z Z Z Z Z Z Z Z Z ?_ Z Z Z Z kt;simp
  refine bj g [(19,ae),(22,W),(27,ae),(31,W)] Z ?_ ?_
  .simp only[aA,cP.aw,cP.aE,dY.aw,dY.aE,cH.aw,cH.aE,cI.aw,cI.aE,cF.aw,cF.aE,a,d,jD,c,b,fZ,gm,aX,aW];simp
  refine I.lz () [0,1,2] Z Z Z Z Z Z Z Z Z ?_ Z Z Z Z kt;simp
 |true =>
 rw[Zb d z c];have r:=gT.1 d;have B:=kL.2 r.told;have hT:=r.told.ac1;have D:=vl o l k w.1 by_ t s b.toYo E K λh=>(kL.1 h).sZ E;rw[CQ,zr B z c]at D;apply I.tG [(0,dI k),(2,dI by_),(3,cF.sl t),(5,cE 3 0),(8,cE 4 0)] (L9 o l++[rK w,.cells 30 pz])
 .intro gf;rcases j with rfl|rfl
  .refine bj g [(19,ae),(22,ae),(27,ae),(31,ae),(1000003,W)] Z ?_ ?_
   .simp only[aA,cP.aw,cP.aE,dY.aw,dY.aE,cH.aw,cH.aE,cI.aw,cI.aE,cF.aw,cF.aE,a,d,jD,c,b,fZ,gm,aX,aW];simp
   exact gf _ _ Z ay
  refine bj g [(19,ae),(22,W),(27,ae),(31,ae),(1000003,W)] Z ?_ ?_
  .simp only[aA,cP.aw,cP.aE,dY.aw,dY.aE,cH.aw,cH.aE,cI.aw,cI.aE,cF.aw,cF.aE,a,d,jD,c,b,fZ,gm,aX,aW];simp
  exact gf _ _ Z ay
 refine dj Z an (I.cQ (C2 w s b.mrk b.lft) [] Z (bM [(1000004,W)] Z an (I.ny 5 Z Z Z ay ay (dj Z an (I.cQ D [0,1,2] Z ?_)))));cases H:fx k w.1 t with
 |true =>
  refine bM [(45,W)] Z ay (I.lz () [0,1,2] Z Z Z Z Z Z Z Z Z ?_ Z Z Z Z kt);simp[qT]
 |false =>
 have L:=s.s2;have q:=hT.sZ (k:=k) (t:=t) (by_:=by_) (by have:=uN 1 r.sa λx G=>(r.sn x G).1;omega) c H;have C:(dZ k w.1 by_ t).2.1.length=V w.1.2.1+1:=E8;have f:(dZ k w.1 by_ t).2.1.getD ((dZ k w.1 by_ t).2.1.length-1) (0,[])=di (cq w.1) k t:=by rw[C];simp[dZ,aj]
 have y:=q.a4 (di (cq w.1) k t) az;have AK:=kM y.2;have F:=jZ (di (cq w.1) k t).2;have J:=q.a3;have N:=b.mrk;have n:=Cs (X:=Cx.cx ag) (di (cq w.1) k t) aq aq;rw[ER]at n;unfold gw;simp only[bc (show¬(ae=W) by simp)];generalize dZ k w.1 by_ t=s' at *;generalize di (cq w.1) k t=x at *;have m:((V s'.2.1:Int)-1).toNat=V s'.2.1-1:=aq;have M:s'.2.1.getD ((V s'.2.1:Int)-1).toNat dY.cy=x:=by rw[m];exact f
 have c2:b5 (Cx.cx ag) [(35,mi [Ke x] (cI.sl (fh x.2)))]:=.cons (mL n) .nil;refine bj c2 [(45,ae)] Z ?_ ?_
 .simp only[aA,M,cd];and_intros<;>first|rfl|exact True.intro|omega
 generalize fh x.2=ns at *;refine I.cm 8 (λi=>i<=V ns) (λi:Nat=>[(8,cE 4 0),(10,cE 6 0),(57,cI.sl ns),(58,dI (V ns)),(59,dI i)])
  (λi=>ssB o l w s' ((ns.take i).foldl jF w.2.1)) (λi=>V ns-i) 0 Z ?_ Z ?_ Z aq ?_
 .simp
 .simp
 intro i hi;by_cases h:i<V ns
 .have v:ns.getD (i:Int).toNat cI.cy=ns.getD i 0:=rfl;have u:=rB jF w.2.1 h;have A:=gL w.2.1 (ns.take i);rw[List.length_take]at A;generalize(ns.take i).foldl jF w.2.1=a2 at *;have c3:b5 (Cx.cx ag) [(36,mi [cI.sl a2,dI (ns.getD i 0)] (cI.sl (jF a2 (ns.getD i 0))))]:=.cons (mL (Qo a2 (ns.getD i 0) aq)) .nil;refine bj c3 [(60,W)] Z ?_ (I.aQ (i+1) Z ay ?_ h aq)
  .simp only[aA,v,cd,bu];and_intros<;>first|rfl|omega
  rw[u];simp
 obtain rfl:i=V ns:=aq;rw[de];refine bM [(60,ae)] Z ay (I.br Z Z ?_);refine dj Z an (I.lz () [0,1,2] Z Z Z Z Z Z Z Z Z ?_ Z Z Z Z kt);simp
def Hd{w:bS}(h:TA w.1):∀j,TA (qH w j).1
 |0=>h
 |j+1=>by
  have a:=Hd h j;rw[qH];unfold gz;split
  .exact a
  exact a.step _ _
structure adC(k:Int)(w:bS)(by_:Int)(t:List bF):Prop where
 p:g6 k w
 v:Sv k w.1 by_ t
 e:mo k w by_ t=(gw k w by_ t,W)
 q:g6 k (gw k w by_ t)
 ta:TA (gw k w by_ t).1
 sm:Wn (gw k w by_ t)
def Oh.after{w:bS}{by_:Int}{t:List bF}(b:Oh w)(h:(mo k w by_ t).2=W):adC k w by_ t:=by
 obtain⟨d,a,e⟩:=Za b.s.Dq h;have c:TA (gw k w by_ t).1:=b.s.sZ a.tr a.by' a.fu;have h1:=gL w.2.1 (fh (di (cq w.1) k t).2);have h2:=jZ (di (cq w.1) k t).2;have f:=kM (c.a4 (di (cq w.1) k t) (by simp[gw,dZ])).2;have i:=b.m;have g:=b.l;refine⟨d,a,e,d.sZ a,c,{toYo:=c.smT,mrk:=?_,lft:=?_}⟩
 .show (V ((fh _).foldl jF w.2.1))<=_;omega
 show V w.2.2<=_;omega
def Oh.noS{w:bS}{by_:Int}{t:List bF}(a:Oh w)(h:(mo k w by_ t).2=ae):iw (mo k w by_ t).1.1:=by
 unfold mo at *;split
 .rename_i h1;rw[bh h1]at h;split
  .exact a.sz.s
  simp_all
 exact⟨by simp,by simp,by simp,λx h=>absurd h ay,by simp⟩
def zI(F E:av×ah)(m:Nat)(b:Nat->Int)(N:Bytes b)(_:m<=9223372036854775807):Ev (Cx.cx ag) 4 [b7 (.sl ae 1 m (xT b))] (L9 F E) (dB W) (L9 F E):=by
 refine Ev.bQ Tryz.func4 rfl λS=>?_;by_cases R:1048576<m
 .refine ba [(18,W)] Z c6 (I.dt [0,1,2] Z ?_ Z Z Z kt);simp
 refine ba [(18,ae)] Z c6 (I.cP (wi m b N aq) [] Z fe ?_);rintro⟨⟨w,by_,t⟩,j,H,G⟩;simp only at j H G;have u:=j.sz;have K:=nb (X:=Cx.cx ag) 7 w by_ t u;have M:=nc F E 7 w by_ t j.smW u.s j.s.Dq ek;refine bt Z an (I.cQ K [] Z (bt Z an (I.cQ M [0,1,2] Z ?_)));have o:=j.noS (k:=7) (by_:=by_) (t:=t);have f:=j.after (k:=7) (by_:=by_) (t:=t);obtain⟨⟨x,ok⟩,J⟩:∃q,q=mo 7 w by_ t:=⟨_,rfl⟩;rw[<-J]at o f⊢;cases ok with
 |false =>
  have c1:b5 (Cx.cx ag) [(9,mi [sJ x,sJ x] (dB W))]:=.cons (mL (mQ x (o Z))) .nil;refine bj c1 [(45,ae),(51,ae),(54,W),(58,W)] Z ?_ (I.dt [0,1,2] Z ay Z Z Z kt);simp
 |true =>
  have a:=f Z;have d:x=gw 7 w by_ t:=by have:=a.e;rw[<-J]at this;exact et Prod.fst this
  have g:iw x.1:=by rw[d];exact a.ta.rF
  have A:Wn x:=by rw[d];exact a.sm
  have n:g6 7 x:=by rw[d];exact a.q
  have D:=sv 7 x A g;unfold V7 at D;rw[bh (gT.2 n)]at D;have c1:b5 (Cx.cx ag) [(9,mi [sJ x,sJ x] (dB W))]:=.cons (mL (mQ x g)) .nil;refine bj c1 [(45,ae),(51,ae),(54,ae)] Z ay (I.cQ D [] Z ?_);have h:TA (qH x (V x.2.2)).1:=Hd (by rw[d];exact a.ta) _;have B:=kL.2 (n.qH (V x.2.2)).told;have z:dq 7 (qH x (V x.2.2)).1 (cq w.1)=O t:=by rw[d];exact Mr a.p a.v
  have C:=CW 7 w.1 (qH x (V x.2.2)).1 u.s.s2 h.rF.s2 u.s.sn λy P=>by rw[d];exact Ms a.p a.v P
  have i:x.1.2.1.getD (V x.1.2.1-1) (0,[])=di (cq w.1) 7 t:=by rw[d];simp[gw,dZ,aj]
  have Q:0<V x.1.2.1/\V x.1.2.1<=4000000:=by refine⟨?_,g.sn⟩;rw[d];simp[gw,dZ]
  have AK:=h.smT;generalize(qH x (V x.2.2)).1=e at *;have r:((V x.1.2.1:Int)-1).toNat=V x.1.2.1-1:=aq;have aa:(x.1.2.1.getD ((V x.1.2.1:Int)-1).toNat dY.cy).1=cq w.1:=by rw[r];exact et Prod.fst i
  have l:(e.1,e.2.1,e.2.2)=e:=rfl;have L:b5 (Cx.cx ag) [(17,vO),(18,mi [cF.sl t,cF.sl t] (dB W)),(19,mi [dI 7,n5 w.1,n5 e] (dB W)),(20,uK)] :=
   .cons BR (.cons (mL (Uq t)) (.cons (mL C) (.cons yF .nil)))
  refine bj L [(88,W),(91,W),(96,W),(103,W)] Z ?_ (I.dt [0,1,2] Z ?_ Z Z Z kt)
  .simp only[aA,cP.aw,dY.aw,cH.aw,l,aa,z,cd];and_intros<;>first|rfl|exact True.intro|exact cP.aE _|exact dY.aE _|exact cH.aE _|exact h.rF.s2|omega|omega|grind
  simp only[cP.aw,dY.aw,cH.aw,l,B];simp
end R1
end Go.AM
