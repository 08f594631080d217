/-
  Part 6 of a machine of values without memory, proved sound over the model, and of contracts of the functions that the laws reach. Nothing is taken for granted: no condition.
-/
import Derived.Test.YtcdlknpnfnggfaaGreatDoorA5
import Derived.Sort.AssemblyPlain
set_option linter.unusedVariables false
set_option linter.unusedSimpArgs false
set_option linter.defProp false
set_option linter.deprecated false
namespace Go.AM
open Go.Conc
theorem ag.Pg{σ:List aj}{s:St}(hh:ag σ s){l:Nat}{B:aj}{L:Loc}(n:σ[l]?=some B)(m:s.β[l]?=some L)(p:(∃ E cs,B=.cells E cs)∨∃ H,B=.cx H) :
  ag (σ.set l .dead) { s with β:=s.β.set l ⟨L.v,[]⟩ }/\Step σ s (σ.set l .dead) { s with β:=s.β.set l ⟨L.v,[]⟩ }:=by
 have i:l<σ.length:=(aD.1 n).1;have g:l<s.β.length:=(aD.1 m).1;have a:∀ l',(s.β.set l ⟨L.v,[]⟩)[l']?=if l=l' then some ⟨L.v,[]⟩ else s.β[l']?:=by
  intro l'
  by_cases e:l=l'
  ·subst e;rw[an rfl,bk g]
  ·rw[ak e,b6 e]
 have c:∀ L'∈s.β.set l ⟨L.v,[]⟩,∀ b∈L'.bs,L'∈s.β:=by
  intro L' gf b d;obtain⟨l',f⟩:=wJ.1 gf;rw[a] at f;split at f
  ·cases f;simp at d
  ·exact aE f
 have st:Step σ s (σ.set l .dead) { s with β:=s.β.set l ⟨L.v,[]⟩ }:=by
  refine⟨ar _,λ_ _ _=>rfl,λ_ _ _ h=>h,λ_ _ _ _=>rfl,λL' gf b d=>.inr ⟨L',c L' gf b d,d⟩,?_,rfl,rfl,rfl,rfl⟩
  intro l' B' L' jR gf
  by_cases e:l=l'
  ·subst e;rw[n] at jR;cases jR;rw[m] at gf;cases gf;refine⟨.dead,⟨L.v,[]⟩,by rw[bk i],by rw[a,an rfl],?_⟩
   rcases p with⟨E,cs,rfl⟩|⟨H,rfl⟩ <;> rfl
  ·exact⟨B',L',by rw[b6 e];exact jR,by rw[a,ak e];exact gf,.refl _ _⟩
 refine⟨⟨hh.mem,by simp[hh.len],?_,?_,λL' gf b d=>hh.lt L' (c L' gf b d) b d,λb d=>⟨(hh.own b d).1,λL' gf Ez=>(hh.own b d).2 L' (c L' gf b Ez) Ez⟩⟩,st⟩
 ·intro l' B' L' jR gf
  by_cases e:l=l'
  ·subst e;rw[bk i] at jR;cases jR;trivial
  ·rw[b6 e] at jR;rw[a,ak e] at gf;exact(hh.box l' B' L' jR gf).carry st.ext hh.len λb d=>⟨rfl,λo=>rfl⟩
 ·intro q r L1 L2 h1 h2 b j k;rw[a] at h1 h2;split at h1
  ·cases h1;simp at j
  ·split at h2
   ·cases h2;simp at k
   ·exact hh.fe q r L1 L2 h1 h2 b j k
theorem cd.closed{σ σ':List aj}{s s':St}(f:s'.M=s.M){v:Value}{d:D}(h:cd σ s v d)(a:tj 0 d=true):cd σ' s' v d:=by
 have h1:=cd.drop (σ1:=[]) (rest:=σ) h a;refine cd.mono (σ:=[]) (s:=s.cut 0) ⟨λb o v e=>by rw[f];exact e,λl B L c _=>by simp at c⟩ (by simp[St.cut]) h1
end Go.AM
namespace Go.AM.R1
open Go.Proofs Go.Conc Go.Conc.Lib
open Go.ConcN (WgLive PayAt Has RW AtR0)
open Go.ConcR (KK WgAt stA smA rd wr mk Payload DC0)
noncomputable def Ph:Code:=um (jE (jE (jE AN)))
noncomputable def U5:Code:=um Ph
noncomputable def SG:Code:=jE (jE (jE AN))
theorem MC:SG=.seq (.seq U5 (.block 0 (.loop gv))) lZ:=by kernel_rfl
section
variable {σ0:List aj}{s0:St}{φ:Fr}{σ:List aj}{a:Act}{s:St}{S:Goroutine->St->Prop}
theorem At.goes{Wg:Nat}{j:Goroutine}:∀ (m:Nat)(g:Goroutine)(s:St),At σ0 s0 φ σ a s->WgLive 128 Wg s.w->Goes Tryz.prog true (dK 128 Wg) DC0 (λg _=>g=j) m g s.w ->
  (∀ c,At σ0 s0 φ σ a c->dn (Cx.beside Tryz.prog) S j c)->dn (Cx.beside Tryz.prog) S g s
 |0,g,s,h,_,e,K=>by
  obtain rfl:g=j:=e s.w (.refl _);exact K s h
 |m+1,g,s,h,hl,e,K=>by
  rcases e with e|⟨l,e⟩
  ·obtain rfl:g=j:=e s.w (.refl _);exact K s h
  ·refine .next l λc b=>?_
   have h1:=h.rely b.1;obtain⟨d,n⟩:=b.2;have i:WgLive 128 Wg c.w:=by rw[n];exact hl
   have h2:=e c.w (λ_=>i)
   cases f:stepG Tryz.prog true g c.w with
   |go g' w' es =>
    rw[f,goes_go] at h2;obtain⟨⟨rfl,rfl⟩,o⟩:=h2;exact⟨g',c,#[],f,.quiet h1.hh,At.goes m g' c h1 i o K⟩
   |_=>rw[f] at h2;exact h2.elim
theorem k9{σ:List aj}{s:St}(b:∀ B∈σ,B=.dead){ds:List Deferred}{c:List Nat}(h:lG σ s ds c):ds=[]:=by
 cases ds with
 |nil=>rfl
 |cons d ds =>
  cases c with
  |nil=>exact h.elim
  |cons l c =>
   have:=b _ (aE h.1.1);cases this
end
section
variable {k:Int}{ps:List a9}{ns:List Int}{C:Nat}{xs:List Value}
variable (k ps ns C) in
def Jt:Fr:=[(2,cI.sl ns),(3,.e (.one (.ptr 0 0))),(4,.e (.one (.ptr 1 0))),(8,.e (.one (.ptr 3 0))),(9,.e (.one (.ptr 4 0)))]
variable (k ps ns C xs) in
def xF:List aj:=[.cells 3 [.c (.int .i64 k)],.cells 23 [.c (.sl false 2 ps.length (cP.fn ps))],.cx (gz 131 2 (.row C ns.length) ns.length xs),.cells 118 [.c (.val (.slice (some ⟨C,0,none⟩) ns.length ns.length))],.cells 128 [.c (.int .u64 0),.c (.int .u32 0)]]
variable (k ps ns) in
def yh(x i:Nat):Value:=if i=0 then .string ⟨((dx k ps (ns.getD x 0)).getD []).toArray⟩ else .bool (dx k ps (ns.getD x 0)).isSome
variable (k ps ns) in
def kR:List Value:=ns.flatMap λn=>[.string ⟨((dx k ps n).getD []).toArray⟩,.bool (dx k ps n).isSome]
variable (k ps ns C) in
def AP:List aj:=[.dead,.dead,.cx (gz 131 2 (.row C ns.length) ns.length (kR k ps ns)),.dead,.dead]
theorem Xr{X:Cx Tryz.prog}:AW X 45 U5 (NQ ((18,cI.sl ns)::(19,dI ns.length)::(20,dI 0)::Jt ns) (xF k ps ns C xs)) (Jt ns) (xF k ps ns C xs):=by
 refine AK.of_code ?_;refine aA rfl ab ⟨rfl,cR rfl ?_,rfl⟩;simp[aa.cat,aa,au.same]
theorem uq:(kR k ps ns).length=ns.length*2:=by
 unfold kR
 induction ns with
 |nil=>rfl
 |cons n r b=>simp only[ss,ba,b,cM,ef];omega
theorem xG:∀ {ns:List Int}{x i:Nat},x<ns.length->i<2->(kR k ps ns)[2*x+i]?=some (yh k ps ns x i)
 |[],x,i,h,_=>by simp at h
 |n::r,0,i,_,hi=>by
  match i,hi with
  |0,_=>rfl
  |1,_=>rfl
 |n::r,x+1,i,h,hi=>by
  have:=xG (ns:=r) (x:=x) (i:=i) (by simpa using h) hi
  unfold kR at this ⊢;rw[ss,ck (by simp;omega)]
  rw[show 2*(x+1)+i - [Value.string ⟨((dx k ps n).getD []).toArray⟩,Value.bool (dx k ps n).isSome].length=2*x+i by simp;omega]
  rw[this];simp[yh]
theorem _root_.Go.AM.bg.seen{N b:Nat}{d:D}{σ:List aj}{s:St}{φ:Fr}{a:Act}(f:bg N σ s φ a)(h:cd σ s (a.tmps.getD b undef) d):bg N σ s ((b,d)::φ) a:=by
 refine⟨f.size,f.defers,λt=>?_⟩
 simp only[look];cases c:Nat.beq b t with
 |false=>exact f.slot t
 |true=>rw[<-aO c];exact h
theorem getSet{α:Type}{l:List α}{i:Nat}{x y:α}(hi:i<l.length)(j:Nat)(h:(l.set i x)[j]?=some y):(j=i/\y=x)∨(j≠i/\l[j]?=some y):=by
 by_cases e:i=j
 ·subst e;rw[bk hi] at h;cases h;exact .inl ⟨rfl,rfl⟩
 ·rw[b6 e] at h;exact .inr ⟨λb=>e b.symm,h⟩
abbrev Gx(n C:Nat):Fr:=[(8,.e (.one (.c (.rp [.val (.slice (some ⟨C,0,none⟩) n n)]))))]
variable (k ps ns C) in
abbrev Pj:Fr:=(8,.e (.one (.c (.rp [.val (.slice (some ⟨C,0,none⟩) ns.length ns.length)]))))::(4,.e (.one (.c (.rp [.sl false 2 ps.length (cP.fn ps)]))))::(3,.e (.one (.c (.rp [.int .i64 k]))))::(18,cI.sl ns)::(19,dI ns.length)::(20,dI 0)::[(9,.e (.one (.ptr 4 0)))]
set_option maxHeartbeats 2000000 in
theorem Pk(Xs:dw (Cx.work Tryz.prog) 76 (uf k)){Q:Post}(hn:ns.length<=1000000)(Pl:nm (Cx.beside Tryz.prog) 45 oL Q (Gx ns.length C) (AP k ps ns C)):nm (Cx.beside Tryz.prog) 45 SG Q (Jt ns) (xF k ps ns C xs):=by
 intro so ao hf Xt b kk cs S hb OK hQ;have h:At (xF k ps ns C xs) so (Jt ns) (xF k ps ns C xs) ao so:=⟨hf,Xt,.refl _ _⟩;refine h.ctl rfl (λw=>sY MC) λs h=>?_
 refine h.ctl rfl (λw=>mx) λs h=>?_
 refine h.code hb Xr λa s h=>?_
 obtain⟨s1,w1,f1,P,Lr⟩:=bg.freeze 3 0 (E:=3) (cs:=[.c (.int .i64 k)]) (cc:=[.int .i64 k]) rfl rfl rfl h.fr h.hh;refine .ghost (.of h.hh P w1 (Lr.lD h.hh)) ?_;obtain⟨s2,w2,f2,U,lB⟩:=bg.freeze 4 1 (E:=23) (cs:=[.c (.sl false 2 ps.length (cP.fn ps))]) (cc:=[.sl false 2 ps.length (cP.fn ps)]) rfl rfl rfl f1 P;refine .ghost (.of P U w2 (lB.lD P)) ?_;obtain⟨s3,w3,f3,NI,IX⟩:=bg.freeze 8 3 (E:=118) (cs:=[.c (.val (.slice (some ⟨C,0,none⟩) ns.length ns.length))]) (cc:=[.val (.slice (some ⟨C,0,none⟩) ns.length ns.length)]) rfl rfl rfl f2 U;refine .ghost (.of U NI w3 (IX.lD U)) ?_;have h:At (xF k ps ns C xs) so (Pj k ps ns C)
   [.dead,.dead,.cx (gz 131 2 (.row C ns.length) ns.length xs),.dead,.cells 128 [.c (.int .u64 0),.c (.int .u32 0)]] a s3 :=
  ⟨f3.le (cR rfl (by simp[aa.cat,aa,au.same])),NI,h.st.trans ((Lr.lD h.hh).trans ((lB.lD P).trans (IX.lD U)))⟩
 clear Lr lB IX f1 f2 f3 P U NI;refine h.ctl rfl (λw=>pL) λs h=>?_
 refine h.ctl rfl (λw=>Bn) λs h=>?_
 have hlen:=h.hh.len;simp only[cM,ef] at hlen;obtain⟨K,z⟩:∃ L,s.β[2]?=some L:=⟨_,ai (by omega)⟩
 obtain⟨L4,H⟩:∃ L,s.β[4]?=some L:=⟨_,ai (by omega)⟩
 obtain⟨ch,hH,EE,Np,Qw⟩:=h.hh.box 2 _ K rfl z;obtain⟨zs,Q2,Pm,N8⟩:=gz.lookup hH;obtain⟨U6,_,Uk,_,_,_⟩:=hH;have I:C∈K.bs:=(Np C).2 (by rw[Pm];rfl)
 have Pn:=EE C _ Pm;obtain⟨Wg,vs,y,V,EB,Xu⟩:=h.hh.box 4 _ L4 rfl H;have SH:vs=[.int .u64 0,.int .u32 0]:=by
  match vs,EB with
  |[],r=>exact r.elim
  |[_],r=>exact r.2.elim
  |_::_::_::_,r=>exact r.2.2.elim
  |[u0,u1],r =>
   have r0:Rd s.M u0 (.int .u64 0):=r.1;have r1:Rd s.M u1 (.int .u32 0):=r.2.1;cases r0;cases r1;rfl
 subst SH;have qA:C≠Wg:=by
  rintro rfl;have:=h.hh.fe 2 4 K L4 z H C I (by rw[y];simp)
  omega
 have Xv:a.tmps.getD 9 undef=.pointer (some ⟨Wg,0,none⟩):=by
  obtain⟨_,L,bb,q1,q2,q3⟩:=h.fr.slot 9;rw[H] at q1;cases q1;rw[y] at q2;cases q2;exact q3
 obtain⟨g1,t1⟩:=h.hh.Pg (l:=2) rfl z (.inr ⟨_,rfl⟩);have SI:(s.β.set 2 ⟨K.v,[]⟩)[4]?=some L4:=by rw[b6 (by decide)];exact H
 obtain⟨g2,t2⟩:=g1.Pg (l:=4) (B:=.cells 128 [.c (.int .u64 0),.c (.int .u32 0)]) rfl SI (.inl ⟨_,_,rfl⟩);generalize QA:({ s with β:=(s.β.set 2 ⟨K.v,[]⟩).set 4 ⟨L4.v,[]⟩ }:St)=sB at g2 t2;have eβ:sB.β=(s.β.set 2 ⟨K.v,[]⟩).set 4 ⟨L4.v,[]⟩:=by rw[<-QA]
 have eM:sB.M=s.M:=by rw[<-QA]
 have ew:sB.w=s.w:=by rw[<-QA]
 have eo:sB.own=s.own:=by rw[<-QA]
 have U8:ag d5 sB:=g2;have KS:=(t1.lD h.hh).trans (t2.lD g1);have SJ:sB.β[2]?=some ⟨K.v,[]⟩:=by rw[eβ,b6 (by decide),bk (by omega)]
 have A:∀ L∈sB.β,∀ x∈L.bs,∃ l,l≠2/\l≠4/\s.β[l]?=some L:=by
  intro L f x d;rw[eβ] at f;obtain⟨l,D⟩:=wJ.1 f;rcases getSet (by simp;omega) l D with⟨_,rfl⟩|⟨n4,D⟩
  ·simp at d
  ·rcases getSet (by omega) l D with⟨_,rfl⟩|⟨n2,D⟩
   ·simp at d
   ·exact⟨l,n2,n4,D⟩
 have yC:C<s.w.heap.size:=h.hh.lt K (aE z) C I;have xf:Wg<s.w.heap.size:=h.hh.lt L4 (aE H) Wg (by rw[y];simp)
 have SK:H7 C sB:=⟨by rw[eo];exactλho=>(h.hh.own C ho).2 K (aE z) I,λL f d=>by
  obtain⟨l,n2,n4,D⟩:=A L f C d;exact n2 (h.hh.fe l 2 L K D z C d I),λo=>by rw[eM];exact Qw C I o,by rw[ew];exact yC⟩
 have Z:H7 Wg sB:=⟨by rw[eo];exactλho=>(h.hh.own Wg ho).2 L4 (aE H) (by rw[y];simp),λL f d=>by
  obtain⟨l,n2,n4,D⟩:=A L f Wg d;exact n4 (h.hh.fe l 4 L L4 D H Wg d (by rw[y];simp)),λo=>by rw[eM];exact Xu o,by rw[ew];exact xf⟩
 have fB:bg 45 d5 sB (lI k ps ns C Wg 0) a:=by
  have q:=h.fr.mono KS h.hh.len;have q9:bg 45 d5 sB ((9,.e (.one (.v (.pointer (some ⟨Wg,0,none⟩)))))::Pj k ps ns C) a:=q.seen (by rw[Xv];exact Rd.val rfl)
  exact q9.le (cR rfl (by simp[aa.cat,aa,au.same]))
 have MD:(xs++zs).toArray.size=2*ns.length:=by simp only[mh,Q2];omega
 have IT:∀ x,(s.own x∨∃ L∈s.β,x∈L.bs)->x<s.w.heap.size:=λx d=>d.elim (λq=>(h.hh.own x q).1) λ⟨L,f,q⟩=>h.hh.lt L f x q
 refine .rN (T:=λg' s'=>∃ a4 m,At (xF k ps ns C xs) so (Gx ns.length C) (AP k ps ns C) a4 s'/\WgLive 128 Wg s'.w/\Goes Tryz.prog true (dK 128 Wg) DC0 (λg _=>g=G (b.aT (a4.put (some 28) (.tuple #[])) (.inRegion vg []::.code oL::kk)) cs) m g' s'.w)
  (NP.fork (n:=ns.length) (ty:=128) (val:=yh k ps ns) (N:=2*ns.length) (s0:=sB) 2 (by omega) Wg C (by omega) qA (.of h.hh U8 ew KS) rfl ⟨K,aE z,I⟩ ⟨L4,aE H,by rw[y];simp⟩ IT ?_ V ⟨_,Pn,MD⟩ ?_) ?_
 ·rintro x (rfl|rfl)
  ·exact⟨SK.own,SK.β,SK.M⟩
  ·exact⟨Z.own,Z.β,Z.M⟩
 ·intro Y Xw Xx Xy;subst Xw Xx;refine⟨TF k ps ns Y d5 sB b kk cs,Qz k ps ns Y d5 sB b kk cs,λg s d=>Xq Z OK d,?_,?_⟩
  ·refine Js Xs Xy Z OK hb (by decide) hn (λi hi=>rfl) (λi hi=>rfl) ns.length (ar _) a sB ⟨by rw[n6];exact fB,U8,.refl _ _⟩ ⟨_,_,by rw[ew];exact V⟩
  ·rintro g' s' ⟨a4,⟨j,Gu⟩,m,hgo⟩ hm' Po ME LO Bw;obtain⟨o1,o2,o3⟩:=Bw Y.C (.inl rfl);obtain⟨kU,W,Xz⟩:=Po;have Qs:kU=(kR k ps ns).toArray:=by
    apply Array.ext_getElem?
    intro o;have XA:(kR k ps ns).toArray[o]?=(kR k ps ns)[o]?:=by simp
    rw[XA];rcases bz o (2*ns.length) with ho|ho
    ·have q1:=ME (o / 2) (by omega) (o % 2) (by omega)
     have q2:=xG (k:=k) (ps:=ps) (ns:=ns) (x:=o / 2) (i:=o % 2) (by omega) (by omega)
     rw[show 2*(o / 2)+o % 2=o by omega] at q1 q2
     rw[q2];simpa[World.cell?,W] using q1
    ·rw[se (by omega),eQ (by rw[uq];omega)]
   subst Qs;have uX:s'.β.length=5:=j.hh.len;obtain⟨YZ,U9,p1,p2,p3⟩:=j.st.box 2 .dead ⟨K.v,[]⟩ rfl SJ;have XC:U9.v=.nilFunc:=by
    cases p1;exact(show U9.v=K.v from p3).trans U6
   have X:∀ (l:Nat) (B:aj),d5[l]?=some B->B=.dead:=by
    intro l B u
    match l,u with
    |0,u|1,u|2,u|3,u|4,u=>cases u;rfl
   have F:∀ l,(s'.β.set 2 ⟨.nilFunc,[Y.C]⟩)[l]?=if l=2 then some ⟨.nilFunc,[Y.C]⟩ else s'.β[l]?:=by
    intro l
    by_cases e:l=2
    ·subst e;rw[an rfl,bk (by omega)]
    ·rw[ak e,b6 (λe'=>e e'.symm)]
   have O:∀ L∈s'.β.set 2 ⟨.nilFunc,[Y.C]⟩,L=⟨.nilFunc,[Y.C]⟩∨L∈s'.β:=λL f=>by
    obtain⟨l,D⟩:=wJ.1 f;rw[F] at D;split at D
    ·cases D;exact .inl rfl
    ·exact .inr (aE D)
   have Qu:ag (AP k ps ns Y.C) { s' with β:=s'.β.set 2 ⟨.nilFunc,[Y.C]⟩ }:=by
    refine⟨j.hh.mem,by simp[uX,AP],?_,?_,?_,λx d=>⟨(j.hh.own x d).1,λL f p=>?_⟩⟩
    ·intro l B L u f;rw[F] at f
     by_cases e:l=2
     ·subst e;rw[an rfl] at f;cases f;cases u;refine⟨λb'=>if b'=Y.C then some (.cells (kR k ps ns++[]).toArray 131 (0,0)) else none,⟨rfl,?_,uq,ar _,by omega,[],by simp[uq],rfl⟩,λb' ob R=>?_,λb'=>?_,λb' R o=>?_⟩
      ·intro x d;simp only[kR,List.mem_flatMap] at d;obtain⟨_,_,d⟩:=d;simp only[dr,pz,or_false] at d;rcases d with rfl|rfl <;> rfl
      ·by_cases e:b'=Y.C
       ·subst e;simp only[aX] at R;cases R;rw[iV];exact W
       ·simp[e] at R
      ·by_cases e:b'=Y.C <;> simp[e]
      ·simp at R;subst R;exact o3 o
     ·match l,u,e with
      |0,u,_|1,u,_|3,u,_|4,u,_=>cases u;trivial
      |2,_,e=>exact absurd rfl e
    ·intro l l' L L' f J x d H0;rw[F] at f J
     by_cases e:l=2
     ·rw[an e] at f;cases f;simp at d;subst d
      by_cases e':l'=2
      ·omega
      ·rw[ak e'] at J;exact absurd H0 (o2 L' (aE J))
     ·rw[ak e] at f
      by_cases e':l'=2
      ·rw[an e'] at J;cases J;simp at H0;subst H0;exact absurd d (o2 L (aE f))
      ·rw[ak e'] at J;exact j.hh.fe l l' L L' f J x d H0
    ·intro L f x d;rcases O L f with rfl|f
     ·simp at d;subst d;exact LO
     ·exact j.hh.lt L f x d
    ·rcases O L f with rfl|f
     ·simp at p;subst p;exact o1 d
     ·exact(j.hh.own x d).2 L f p
   have SL:bo [.dead,.dead,.cx (gz 131 2 (.row Y.C ns.length) ns.length xs),.dead,.cells 128 [.c (.int .u64 0),.c (.int .u32 0)]] s (AP k ps ns Y.C) { s' with β:=s'.β.set 2 ⟨.nilFunc,[Y.C]⟩ }:=by
    have q:=j.st;refine⟨by have:=q.size;rw[ew] at this;exact this,λx d=>by have:=q.eC x (by rw[eo];exact d);rw[ew] at this;exact this,λx o v d=>q.mem x o v (by rw[eM];exact d),λx d XD o=>?_,λL f x d=>?_,?_,by rw[q.os,ew],by rw[q.tape,ew],by rw[q.output,ew],by rw[q.own,eo]⟩
    ·rw[q.ij x (by rw[ew];exact d) (λL f p=>by
      obtain⟨l,_,_,D⟩:=A L f x p;exact XD L (aE D) p) o,eM]
    ·rcases O L f with rfl|f
     ·simp at d;subst d;exact .inr ⟨K,aE z,I⟩
     ·rcases q.rM L f x d with r1|⟨L0,r1,r2⟩
      ·rw[ew] at r1;exact .inl r1
      ·obtain⟨l,_,_,D⟩:=A L0 r1 x r2;exact .inr ⟨L0,aE D,r2⟩
    ·intro l B L u f;obtain⟨B1,L1,r1,r2,r3⟩:=KS.box l B L u f;obtain⟨B3,L3,u1,u2,u3⟩:=q.box l B1 L1 r1 r2;have XE:=X l B1 r1;have XF:=X l B3 u1;subst XE XF
     by_cases e:l=2
     ·subst e;cases u;rw[z] at f;cases f;exact⟨_,⟨.nilFunc,[Y.C]⟩,rfl,by rw[F,an rfl],U6.symm⟩
     ·refine⟨.dead,L3,?_,by rw[F,ak e];exact u2,r3.trans u3⟩
      match l,u1,e with
      |0,_,_|1,_,_|3,_,_|4,_,_=>rfl
      |2,_,e=>exact absurd rfl e
   refine⟨{ s' with β:=s'.β.set 2 ⟨.nilFunc,[Y.C]⟩ },⟨a4,m,⟨⟨j.fr.size,⟨[],?_⟩,λt=>?_⟩,Qu,h.st.trans SL⟩,Gu,hgo⟩,rfl,hm',λSh QB XG=>⟨QB.own,λx d L f p=>?_,QB.M,QB.lt⟩⟩
   ·obtain⟨ls,LU⟩:=j.fr.defers;rw[k9 (λB u=>by simp at u;exact u) LU]
    trivial
   ·have fq:bg 45 d5 s' (Gx ns.length Y.C) a4:=j.fr.le (cR rfl (by simp[aa.cat,aa]))
    exact cd.closed (s:=s') (s':={ s' with β:=s'.β.set 2 ⟨.nilFunc,[Y.C]⟩ }) rfl (fq.slot t) (ou rfl)
   ·rcases O L f with rfl|f
    ·simp at p;subst p;exact XG d
    ·exact QB.β x d L f p
 ·rintro g' s' ⟨a4,m,h4,XH,hgo⟩;refine At.goes m g' s' h4 XH hgo λs1 h1=>?_
  have h2:At (xF k ps ns C xs) so ((28,.any)::Gx ns.length C) (AP k ps ns C) (a4.put (some 28) (.tuple #[])) s1:=⟨h1.fr.put (by decide) ab,h1.hh,h1.st⟩
  refine h2.ctl rfl (λw=>ei) λs2 h3=>?_
  refine Pl s2 _ (h3.fr.le (cR rfl (by simp[aa.cat,aa]))) h3.hh b kk cs S hb OK λe φ' σ' s' a' q f' h' jO=>hQ e φ' σ' s' a' q f' h' (h3.st.trans jO)
end
end Go.AM.R1
namespace Go.AM.R1
open Go.Proofs
abbrev SM(a:List Bs)(b:Bool):D:=.dH [.one (.c (.sl false 1 a.length (cS.fn a))),.one (.c (.bool b))]
def du(k:Int)(ps:List a9)(ns:List Int):Option (List Bs):=if ns.all (λn=>(dx k ps n).isSome) then some (ns.map λn=>(dx k ps n).getD []) else none
noncomputable def XI:Code:=um AN
noncomputable def XJ:Code:=um (jE AN)
noncomputable def XK:Code:=um (jE (jE AN))
theorem Ju:Tryz.f52.body=some (.seq XI (.seq XJ (.seq XK SG))):=by kernel_rfl
def MF(k:Int)(ps:List a9)(ns:List Int)(i:Nat):List AM.C:=[.str ((dx k ps (ns.getD i 0)).getD []),.bool (dx k ps (ns.getD i 0)).isSome]
def r6(k:Int)(ps:List a9)(ns:List Int):List Bs:=ns.map λn=>(dx k ps n).getD []
theorem y6{b p:Bs}(h:ff b=some p):p.length<=8:=by
 unfold ff at h;split at h
 ·rename_i a
  cases h;simp only[bq,aR,av] at a;omega
 ·cases h
theorem Dp{k:Int}{x:bD}{p:Bs}(h:chunk k x=some p):p.length<=8:=by
 unfold chunk at h;split at h
 ·rename_i q a
  split at h
  ·cases h;exact y6 a
  ·cases h
 ·cases h
theorem vQ{k:Int}{ps:List a9}{n:Int}:((dx k ps n).getD []).length<=8:=by
 cases h:dx k ps n with
 |none=>simp
 |some p =>
  obtain⟨q,_,a⟩:=List.exists_of_findSome?_eq_some h;unfold eL at a;split at a
  ·simpa using Dp a
  ·cases a
theorem MG{k:Int}{ps:List a9}{ns:List Int}{i:Nat}(hi:i<ns.length){M:Mem}{j:Nat}{c:AM.C}{x:Value}(a:(MF k ps ns i)[j]?=some c)(d:(kR k ps ns)[i*2+j]?=some x):Rd M x c:=by
 have b:j<2:=(aD.1 a).1;have:=xG (k:=k) (ps:=ps) hi b;rw[iX,this] at d;cases d
 match j,b with
 |0,_ =>
  cases a;have:=vQ (k:=k) (ps:=ps) (n:=ns.getD i 0);exact .str rfl (by omega)
 |1,_=>cases a;exact .bool
theorem _root_.Go.AM.nm.le{P:Program}{X:Cx P}{N:Nat}{Q:Post}{φ b:Fr}{σ:List aj}{c:Code}(h:nm X N c Q b σ)(hl:oE φ b):nm X N c Q φ σ:=λs a f hh=>h s a (f.le hl) hh
theorem y0{k:Int}(p:dw (Cx.work Tryz.prog) 76 (uf k))(ps:List a9)(ns:List Int)(v:ns.length<=1000000) :
  Ev (Cx.beside Tryz.prog) 52 [dI k,cP.sl ps,cI.sl ns] [] (SM ((du k ps ns).getD []) (du k ps ns).isSome) []:=by
 refine cf.tm (cf.Ai (ι:=Unit) Tryz.func52 rfl Ju rfl λw=>?_)
 show nm _ 45 _ _ _ _;refine nm.seq (AW.top (AK.of_code ?_));refine aA rfl ab ?_;show nm _ 45 _ _ _ _;refine nm.seq (AW.top (AK.of_code ?_));refine aA rfl ab ?_;refine AK.EG (E:=131) (n:=ns.length) tok rfl rfl rfl rfl rfl rfl (by show _*24<=_;omega) (by omega) rfl rfl λC xs=>?_
 refine aA rfl ab ?_;show nm _ 45 _ _ _ _;refine nm.seq (AW.top (AK.of_code ?_));refine aA rfl ab ?_;show nm _ 45 _ _ _ _;have b:nm (Cx.beside Tryz.prog) 45 oL (λe φ σ1=>∃ _:Unit,cv Tryz.f52 0 (SM ((du k ps ns).getD []) (du k ps ns).isSome) [] e φ σ1) (Gx ns.length C) (AP k ps ns C):=by
  refine AW.top (AW.mono (Q:=cv Tryz.f52 0 (SM ((du k ps ns).getD []) (du k ps ns).isSome) []) (AK.of_code ?_) λ_ _ _ q=>⟨(),q⟩)
  refine aA rfl (show _<=_ by omega) ?_
  refine AK.tg 29 2 (bf:=.row C ns.length) (n:=ns.length) (k:=2) (MF k ps ns) rfl rfl (λi hi=>⟨rfl,λM j c x r t=>?_⟩) ?_
  ·exact MG hi r t
  refine AK.iS 12 9 1 rfl rfl ?_;refine AK.bA 6 (λi=>i<=ns.length/\∀ j,j<i->(dx k ps (ns.getD j 0)).isSome=true) (λi:Nat=>[(29,.e (.one (.c (.sl false 2 ns.length (MF k ps ns))))),(30,dI ns.length),(31,dI i),(12,.e (.one (.vec 5 1 (r6 k ps (ns.take i)).length (cS.fn (r6 k ps (ns.take i))))))]) (λi=>[.dead,.dead,.dead,.dead,.dead,.vec 9 1 (r6 k ps (ns.take i)).length (cS.fn (r6 k ps (ns.take i)))]) (λi=>ns.length-i) 0 rfl ?_ rfl ?_ rfl ⟨by omega,by omega⟩ ?_
  ·simp[aa.cat,aa,au,au.same,r6]
  ·simp[aa.cat,aa,au,r6]
  rintro i ⟨hi,a⟩
  by_cases h:i<ns.length
  ·cases l:(dx k ps (ns.getD i 0)).isSome with
   |true =>
    have f:r6 k ps (ns.take (i+1))=r6 k ps (ns.take i)++[(dx k ps (ns.getD i 0)).getD []]:=by
     unfold r6;rw[g7,ai h,pC];simp only[me,j0,List.map_nil,List.getD_eq_getElem?_getD,ai h,cK]
    have u:(r6 k ps (ns.take i)).length<=1000000:=by simp[r6];omega
    refine aq [(32,true),(37,false)] 200 rfl ?_ (AK.ay (i+1) rfl ?_ rfl rfl rfl ?_ rfl ?_ ?_)
    ·simp[-List.getD_eq_getElem?_getD,aa,h,MF,l,aJ];have:i9.bytes=16:=rfl;rw[this];omega
    ·rw[f];simp[-List.getD_eq_getElem?_getD,aa.cat,aa,au.same,MF];exact cS.b9 _ _
    ·rw[f];simp[-List.getD_eq_getElem?_getD,aa.cat,aa,au.same,MF];exact cS.b9 _ _
    ·refine⟨by omega,λj d=>?_⟩
     rcases fE.1 d with d|rfl
     ·exact a j d
     ·exact l
    ·omega
   |false =>
    refine aq [(32,true),(37,true)] 200 rfl ?_ (AK.jP (cv.zero rfl ?_))
    ·simp[-List.getD_eq_getElem?_getD,aa,h,MF,l]
    ·have m:du k ps ns=none:=by
      unfold du;rw[ak];intro r;have:=eR.1 r (ns.getD i 0) (by simp[List.getD_eq_getElem?_getD,ai h])
      rw[l] at this;cases this
     simp[aa.cat,aa,m]
  ·have o:i=ns.length:=by omega
   subst o;refine aq [(32,false)] 200 rfl (by simp[aa]) (AK.leaveD rfl rfl ?_)
   refine cE rfl ab (AK.aK rfl ?_);have g:du k ps ns=some (r6 k ps ns):=by
    unfold du;rw[an]
    ·rfl
    ·rw[eR];intro n s;obtain⟨j,d,rfl⟩:=wL.1 s;have:=a j d;simpa[List.getD_eq_getElem?_getD,ai d] using this
   simp[aa.cat,aa,g,au.same]
 exact nm.le (σ:=xF k ps ns C xs) (Pk (xs:=xs) p v b) (cR rfl (by simp[aa.cat,aa,au.same]))
end Go.AM.R1
namespace Go.AM.R1
theorem iM(a:UInt8)(s:Bs):gx (a::s)=if a=47 then 0 else if gx s=-1 then -1 else gx s+1:=by
 unfold gx;rw[Lib.indexByte.eq_def];simp
theorem s8:gx []=-1:=by unfold gx;rw[Lib.indexByte.eq_def]
theorem D1(s:Bs):dA s=cG s:=by
 by_cases g:s.length<=3
 ·match s,g with
  |[],_=>simp[dA,cG,bE,gR,s8]
  |[a],_ =>
   by_cases d:a=47
   ·subst d;simp[dA,cG,bE,gR,lq,iN,iM,kS,bL]
   ·simp[dA,cG,bE,gR,iN,iM,s8,d,kS,bL]
  |[a,b],_ =>
   by_cases d:a=47
   ·subst d;simp[dA,cG,bE,gR,lq,iN,iM]
   ·by_cases e:b=47
    ·subst e;simp[dA,cG,bE,gR,lq,iN,iM,d]
    ·simp[dA,cG,bE,gR,iN,iM,s8,d,e]
  |[a,b,c],_ =>
   by_cases d:a=47
   ·subst d;simp[dA,cG,bE,gR,lq,iN,iM,kS,bL]
   ·by_cases e:b=47
    ·subst e;simp[dA,cG,bE,gR,lq,iN,iM,d,kS,bL]
    ·have f:¬(b.toNat:Int)=47:=by
      intro h;apply e;apply pA.1;simp;omega
     by_cases i:c=47
     ·subst i;simp[dA,cG,bE,gR,lq,iN,iM,d,e,kS,bL]
     ·simp[dA,cG,bE,gR,iN,iM,s8,d,e,i,f,kS,bL]
  |_::_::_::_::_,h=>simp at h
 ·have j:cG s=false:=by unfold cG;rw[ak (by omega),ak (by omega)]
  rw[j];cases k:dA s with
  |false=>rfl
  |true=>exact absurd (rG k) g
end Go.AM.R1
namespace Go.AM
theorem qo(a:Bs):Op.bytesLess a []=false:=by rw[Op.bytesLess.eq_def]
theorem uJ(b:UInt8)(l:Bs):Op.bytesLess [] (b::l)=true:=by rw[Op.bytesLess.eq_def]
theorem qp(a b:UInt8)(x y:Bs):Op.bytesLess (a::x) (b::y)=(decide (a<b)||a==b&&Op.bytesLess x y):=by rw[Op.bytesLess.eq_def]
theorem oy:∀ a:Bs,Op.bytesLess a a=false
 |[]=>qo []
 |a::l=>by rw[qp,oy l];simp
theorem zk:∀ a b:Bs,Op.bytesLess a b=true∨a=b∨Op.bytesLess b a=true
 |[],[]=>.inr (.inl rfl)
 |[],b::y=>.inl (uJ b y)
 |a::x,[]=>.inr (.inr (uJ a x))
 |a::x,b::y=>by
  rw[qp,qp];rcases zk x y with h|h|h
  ·by_cases c:a=b
   ·subst c;left;simp[h]
   ·rcases wK c with d|d
    ·left;simp[d]
    ·right;right;simp[d]
  ·subst h
   by_cases c:a=b
   ·subst c;right;left;rfl
   ·rcases wK c with d|d
    ·left;simp[d]
    ·right;right;simp[d]
  ·by_cases c:a=b
   ·subst c;right;right;simp[h]
   ·rcases wK c with d|d
    ·left;simp[d]
    ·right;right;simp[d]
theorem uK:∀ {a b c:Bs},Op.bytesLess a b=true->Op.bytesLess b c=true->Op.bytesLess a c=true
 |a,b,[],_,d=>by rw[qo] at d;cases d
 |a,[],c::z,e,_=>by rw[qo] at e;cases e
 |[],b::y,c::z,_,_=>uJ c z
 |a::x,b::y,c::z,e,d=>by
  rw[qp,kv,bq,av,eU] at e d ⊢;rcases e with e|⟨rfl,e⟩
  ·rcases d with d|⟨rfl,d⟩
   ·exact .inl (UInt8.lt_trans e d)
   ·exact .inl e
  ·rcases d with d|⟨rfl,d⟩
   ·exact .inl d
   ·exact .inr ⟨rfl,uK e d⟩
theorem zl{a b:Bs}(h:Op.bytesLess a b=true):Op.bytesLess b a=false:=by
 cases c:Op.bytesLess b a with
 |false=>rfl
 |true=>have:=uK h c;rw[oy] at this;cases this
theorem M1{a b:Bs}:(!(Op.bytesLess b a||b==a))=Op.bytesLess a b:=by
 rcases zk a b with h|h|h
 ·have c:(b==a)=false:=by
   simp only[cD,bY];rintro rfl;rw[oy] at h;cases h
  rw[h,zl h,c];rfl
 ·subst h;simp[oy]
 ·rw[h,zl h];rfl
namespace R1
theorem PK{t:List aH}{i:Nat}(h:∀ k,0<k->k<=i->Op.bytesLess (dD t (k-1)) (dD t k)=true):∀ j,j<i->Op.bytesLess (dD t j) (dD t i)=true:=by
 intro j f
 induction i with
 |zero=>omega
 |succ i d =>
  have c:=h (i+1) (by omega) (ar _)
  simp only[kV] at c
  by_cases e:j=i
  ·subst e;exact c
  ·exact uK (d (λk a b=>h k a (by omega)) (by omega)) c
theorem rH{s:Bs}(h:cG s=true):(∃ a,s=[a])∨∃ a b,s=[a,47,b]:=by
 unfold cG at h;split at h
 ·rename_i d
  match s,d with
  |[a],_=>exact .inl ⟨a,rfl⟩
 ·split at h
  ·rename_i d
   match s,d with
   |[a,b,c],_ =>
    right
    simp[kS,bL] at h;have e:b=47:=by apply pA.1;simp;omega
    exact⟨a,c,by rw[e]⟩
  ·cases h
theorem zm{p q:Bs}(g:cG p=true)(k:cG q=true)(f:Op.bytesLess p q=true):clash p q=under q p:=by
 rcases rH g with⟨a,rfl⟩|⟨a,b,rfl⟩ <;> rcases rH k with⟨c,rfl⟩|⟨c,d,rfl⟩
 ·simp[clash,under,jQ]
 ·by_cases e:a=c
  ·subst e;simp[clash,under,jQ,bL]
  ·have:¬(a.toNat:Int)=c.toNat:=λh=>e (pA.1 (by omega))
   have i:((a.toNat:Int)==(c.toNat:Int))=false:=by rw[cD];exact this
   have j:(c==a)=false:=by rw[cD];exactλh=>e h.symm
   simp[clash,under,jQ,bL];rw[i,j]
 ·have:¬(a.toNat:Int)=c.toNat:=by
   intro h;have e:a=c:=pA.1 (by omega)
   subst e;rw[qp,qo] at f;simp at f
  simp[clash,under,jQ,bL,this]
 ·simp[clash,under,jQ]
theorem wu{t:List aH}{i:Nat}(b:∀ j,j<i->fx t j=true):gZ t i=fx t i:=by
 unfold gZ fx;rw[D1,M1];cases l:cG (dD t i) with
 |false=>simp
 |true =>
  cases o:dG (r7 t i) with
  |false=>simp
  |true =>
   cases d:(i==0||Op.bytesLess (dD t (i-1)) (dD t i)) with
   |false=>simp
   |true =>
    simp only[j1];have g:∀ j,j<i->Op.bytesLess (dD t j) (dD t i)=true:=by
     apply PK
     intro k n m
     by_cases e:k=i
     ·subst e;have:(k==0)=false:=by simp;omega
      rw[this,Bool.false_or] at d;exact d
     ·have:=b k (by omega)
      simp only[fx,bq,kv,eU] at this;exact this.1.2.resolve_left (by omega)
    rw[Bool.eq_iff_iff,c8,c8];have f:∀ j,j<i->clash (dD t j) (dD t i)=under (dD t i) (dD t j):=by
     intro j a;have c:cG (dD t j)=true:=by
      have:=b j a;simp only[fx,bq] at this;exact this.1.1.1
     exact zm c l (g j a)
    constructor
    ·intro h j a;rw[f j a];exact h j a
    ·intro h j a;rw[<-f j a];exact h j a
theorem Di(t:List aH):lr t=cr t:=by
 unfold lr cr
 congr 1
 rw[Bool.eq_iff_iff,c8,c8]
 constructor
 ·intro h i
  induction i using Nat.strongRecOn with
  |_ i b=>intro hi;rw[<-wu (λj a=>b j a (by omega))];exact h i hi
 ·intro h i hi;rw[wu (λj a=>h j (by omega))]
  exact h i hi
end R1
end Go.AM
namespace Go.AM.R1
open Go.Proofs
variable {X:Cx Tryz.prog}
theorem Jh(a:Int)(b:C) (n:Int):Ev X 23 [.e (.agg [.c (.int .i64 a),.c b]),.e (.one (.c (.rp [.int .i64 n])))] [] (dB (a==n)) []:=by
 refine Ev.body Tryz.func23 rfl rfl rfl λd=>?_
 refine aA rfl ab (AK.aK rfl ?_);simp[aa]
def Sw:c7:=λargs σ=>match args,σ with
 |[.e (.agg [.c (.int .i64 a0),.c b]),.e (.one (.c (.rp [.int .i64 n])))],[]=>some (dB (a0==n),[],[])
 |_,_=>none
theorem t23:dw X 23 Sw:=by
 intro args σ res σ' obs h a;unfold Sw at h;split at h
 ·cases h;exact Jh _ _ _
 ·cases h
abbrev KJ(n:Int):D:=.e (.one (.c (.fn (.func 23) [] [.rp [.int .i64 n]])))
def oK(l:List cB) (n:Int):Int:=match l.findIdx? (λx=>x.1==n) with|some i=>i|none=>-1
theorem Gd{t:List cB}{n:Int}{i:Nat}(hi:i<t.length)(h:(t.getD i (0,[])).1=n)(a:∀ j,j<i->(t.getD j (0,[])).1≠n):oK t n=i:=by
 have:t.findIdx? (λf=>f.1==n)=some i:=by
  rw[oP];refine⟨hi,?_,λj c=>?_⟩
  ·simpa[List.getD_eq_getElem?_getD,ai hi] using h
  ·have b:j<t.length:=by omega
   simpa[List.getD_eq_getElem?_getD,ai b] using a j c
 rw[oK,this]
theorem Ay{t:List cB}{n:Int}(a:∀ j,j<t.length->(t.getD j (0,[])).1≠n):oK t n=-1:=by
 have:t.findIdx? (λf=>f.1==n)=none:=by
  rw[nt];intro f c;obtain⟨j,b,rfl⟩:=cJ c;simpa[List.getD_eq_getElem?_getD,ai b] using a j b
 rw[oK,this]
theorem Ge(t:List cB) (n:Int):Ev X 22 [cT.sl t,KJ n] [] (dI (oK t n)) []:=by
 refine Ev.body Tryz.func22 rfl rfl rfl λf=>?_
 have e:=f.sl 0 rfl;have b:aY X [(23,Sw)]:=.cons t23 .nil;refine ah b [] 100 rfl ab ?_;refine AK.lV (λi=>i<=t.length/\∀ j,j<i->(t.getD j (0,[])).1≠n) (λi:Nat=>[(0,cT.sl t),(1,KJ n),(7,dI t.length),(8,dI i)]) (λ_=>[]) (λi=>t.length-i) 0 rfl ?_ rfl ab ⟨by omega,by omega⟩ ?_
 ·simp[aa.cat,aa,au.same]
 rintro i ⟨hi,a⟩
 by_cases h:i<t.length
 ·by_cases c:(t.getD i (0,[])).1=n
  ·refine ah b [(9,true),(16,true)] 100 rfl ?_ (AK.jC (cv.zero rfl ?_))
   ·simp only[aa,aF];exact⟨eU.2 c,by omega,by omega,bx (by omega)⟩
   ·simp[aa,Gd h c a]
  ·refine ah b [(9,true),(16,false)] 100 rfl ?_ (AK.gK (i+1) rfl ?_ rfl ab ?_ ?_)
   ·simp only[aa,aF];exact⟨by simp only[aJ];omega,cD.2 c,by omega,by omega,bx (by omega)⟩
   ·simp[aa.cat,aa,au.same]
   ·refine⟨by omega,λj d=>?_⟩
    rcases fE.1 d with d|rfl
    ·exact a j d
    ·exact c
   ·omega
 ·refine ah b [(9,false)] 100 rfl (by simp[aa];omega) (AK.leave rfl rfl ?_)
  refine ah b [] 100 rfl ab (AK.aK rfl ?_);simp[aa,Ay (λj d=>a j (by omega))]
def Sx:c7:=λargs σ=>match args,σ with
 |[d,.e (.one (.c (.fn (.func 23) [] [.rp [.int .i64 n]])))],[]=>match iU 2 d with
  |none=>none
  |some (m,es)=>some (dI (oK (cT.list m es) n),[],[cT.fits m es])
 |_,_=>none
theorem t22:dw X 22 Sx:=by
 intro args σ res σ' obs h a;unfold Sx at h;split at h
 ·rename_i d n
  split at h
  ·cases h
  rename_i m es hd
  cases h;exact(Ge _ n).args (λ_ vs=>bC.imp (λ_=>cT.hY hd a) (bC.imp (λ_ r=>r) (λ_ r=>r)) vs)
 ·cases h
theorem yX(t:List cB) (n:Int):(oK t n=-1/\t.find? (λx=>x.1==n)=none)∨∃ i:Nat,i<t.length/\oK t n=i/\t.find? (λx=>x.1==n)=some (t.getD i (0,[])):=by
 unfold oK;cases h:t.findIdx? (λx=>x.1==n) with
 |none =>
  refine .inl ⟨rfl,?_⟩;rw[nt] at h;exact kW.2 λx d=>by simp[h x d]
 |some i =>
  rw[oP] at h;obtain⟨hi,b,a⟩:=h;refine .inr ⟨i,hi,rfl,?_⟩;rw[wC];refine⟨?_,i,hi,?_,λj c=>?_⟩
  ·simpa[List.getD_eq_getElem?_getD,ai hi] using b
  ·simp[List.getD_eq_getElem?_getD,ai hi]
  ·have:=a j c;simpa using this
def fileOf(k:Int)(ps:List a9)(x:iG):Option aH:=match du k ps x.2 with
 |none=>none
 |some l=>match ll l with
  |none=>none
  |some t=>some (x.1,t)
def db(k:Int)(ps:List a9)(l:List iG):List aH:=l.map λx=>(fileOf k ps x).getD ([],[])
def eN(k:Int)(s:cB)(ps:List a9):Option (List aH) :=
 if b5 k&&s.2.all (λx=>(fileOf k ps x).isSome)&&cr (db k ps s.2) then some (db k ps s.2) else none
abbrev KO(a:List aH)(b:Bool):D:=.dH [.one (.c (.sl false 2 a.length (cF.fn a))),.one (.c (.bool b))]
abbrev Cd(s:cB):D:=.e (.agg [.c (.int .i64 s.1),.c (.sl false 2 s.2.length (cL.fn s.2))])
theorem rA{k:Int}{ps:List a9}{l:List iG}{i:Nat}(h:i<l.length):db k ps (l.take (i+1))=db k ps (l.take i)++[(fileOf k ps (l.getD i ([],[]))).getD ([],[])]:=by
 unfold db;rw[g7,ai h,pC];simp only[me,j0,List.map_nil,List.getD_eq_getElem?_getD,ai h,cK]
theorem rB{k:Int}{ps:List a9}{s:cB}{i:Nat}(h:i<s.2.length)(b:fileOf k ps (s.2.getD i ([],[]))=none):eN k s ps=none:=by
 unfold eN;rw[ak];intro a;simp only[bq] at a;have:=eR.1 a.1.2 (s.2.getD i ([],[])) (by rw[List.getD_eq_getElem?_getD,ai h];exact bJ h)
 rw[b] at this;cases this
theorem ve{k:Int}{ps:List a9}{ns:List Int}{l:List Bs}(h:du k ps ns=some l)(a:ns.length<=1000000):l.flatten.length<=140737488355328/\l.length<=1000000:=by
 unfold du at h;split at h
 ·rename_i b
  cases h;refine⟨?_,by simpa using a⟩
  have key:∀ ns:List Int,(ns.all λn=>(dx k ps n).isSome)=true->(ns.map λn=>(dx k ps n).getD []).flatten.length<=8*ns.length:=by
   intro ns
   induction ns with
   |nil=>intro _;simp
   |cons n ns ih =>
    intro h;simp only[sH,bq] at h;have:=ih h.2;have c:=vQ (k:=k) (ps:=ps) (n:=n);simp only[j0,List.flatten_cons,ba,cM];omega
  have:=key ns b;omega
 ·cases h
theorem yZ(k:Int)(s:cB)(ps:List a9)(K:s.2.length<=1000000)(E:∀ x∈s.2,x.2.length<=1000000) :
  Ev (Cx.beside Tryz.prog) 24 [dI k,Cd s,cP.sl ps] [] (KO ((eN k s ps).getD []) (eN k s ps).isSome) []:=by
 refine Ev.body Tryz.func24 rfl rfl rfl λH=>?_
 have B:=H.sl 2 rfl;have d:aY (Cx.beside Tryz.prog) [(51,nn aI (λk=>dB (b5 k)) λ_=>[])]:=.cons t51 .nil
 cases p:b5 k with
 |false =>
  refine ah d [(15,false),(16,true)] 100 rfl ?_ (AK.aK rfl ?_)
  ·simp[aa,p]
  ·simp[aa,aa.cat,eN,p]
 |true =>
  have w:dw (Cx.work Tryz.prog) 76 (uf k):=t245 O0 p;refine ah d [(15,true),(16,false),(1000004,true)] 100 rfl ?_ ?_
  ·simp[aa,p]
  refine AK.iS 8 99 2 rfl rfl ?_;refine ah d [] 100 rfl ab ?_;refine AK.bA 2 (λi=>i<=s.2.length/\∀ j,j<i->(fileOf k ps (s.2.getD j ([],[]))).isSome=true) (λi:Nat=>[(0,dI k),(2,cP.sl ps),(4,.e (.one (.ptr 0 0))),(8,.e (.one (.vec 1 2 (db k ps (s.2.take i)).length (cF.fn (db k ps (s.2.take i)))))),(18,cL.sl s.2),(19,dI s.2.length),(20,dI i)]) (λi=>[.cells 39 [.c (.int .i64 s.1),.c (.sl false 2 s.2.length (cL.fn s.2))],.vec 99 2 (db k ps (s.2.take i)).length (cF.fn (db k ps (s.2.take i)))]) (λi=>s.2.length-i) 0 rfl ?_ rfl ?_ rfl ⟨by omega,by omega⟩ ?_
  ·simp[aa.cat,aa,au.same,au.nil,db]
  ·simp[aa.cat,aa,au.same,au.nil,db]
  rintro i ⟨hi,g⟩
  by_cases h:i<s.2.length
  ·have q:s.2.getD i ([],[])∈s.2:=by rw[List.getD_eq_getElem?_getD,ai h];exact bJ h
   generalize a:s.2.getD i ([],[])=x at q;have n:=E x q;have f:=y0 w ps x.2 n;cases b:du k ps x.2 with
   |none =>
    rw[b] at f;refine ah d [(21,true)] 100 rfl ?_ ?_
    ·exact⟨by omega,by omega,bx (by omega)⟩
    refine AK.aC (a▸f) [] rfl rfl rfl rfl rfl rfl rfl rfl rfl rfl rfl ?_;refine ah d [(33,true)] 100 rfl ?_ (AK.jP (cv.zero rfl ?_))
    ·simp[aa]
    ·have e:fileOf k ps x=none:=by simp[fileOf,b]
     rw[rB h (by rw[a];exact e)]
     simp[aa,aa.cat]
   |some l =>
    obtain⟨u,I⟩:=ve b n;rw[b] at f;have r:=AJ (X:=Cx.beside Tryz.prog) l u;refine ah d [(21,true)] 100 rfl ?_ ?_
    ·exact⟨by omega,by omega,bx (by omega)⟩
    refine AK.aC (a▸f) [] rfl rfl rfl rfl rfl rfl rfl rfl rfl rfl rfl ?_;refine ah d [(33,false)] 100 rfl ?_ ?_
    ·simp[aa]
    refine AK.aC r [] rfl rfl rfl rfl rfl rfl rfl rfl rfl rfl rfl ?_;cases D:ll l with
    |none =>
     refine ah d [(40,true)] 100 rfl ?_ (AK.jP (cv.zero rfl ?_))
     ·simp[aa]
     ·have e:fileOf k ps x=none:=by simp[fileOf,b,D]
      rw[rB h (by rw[a];exact e)]
      simp[aa,aa.cat]
    |some t =>
     have e:fileOf k ps x=some (x.1,t):=by simp[fileOf,b,D]
     have J:s.2.getD (i:Int).toNat cL.bl=x:=a;have F:(db k ps (s.2.take i)).length<=1000000:=by simp[db];omega
     have A:au ((db k ps (s.2.take i)).length+1) (cj (db k ps (s.2.take i)).length (cF.fn (db k ps (s.2.take i))) λv=>[[C.str (s.2.getD (i:Int).toNat cL.bl).1,C.str ((some t).getD [])]].getD v []) (cF.fn (db k ps (s.2.take (i+1)))):=by
      rw[rA h,a,e,J];exact cF.b9 (db k ps (s.2.take i)) (x.1,t)
     have z:(db k ps (s.2.take i)).length+1=(db k ps (s.2.take (i+1))).length:=by rw[rA h];simp
     refine ah d [(40,false)] 100 rfl ?_ (AK.ay (i+1) rfl ?_ rfl rfl rfl ?_ rfl ?_ ?_)
     ·refine⟨by simp only[aJ];omega,rfl,rfl,?_,rfl⟩
      show _*32<=_;omega
     ·refine aa.cat.2 ⟨rfl,aa.cat.2 ⟨⟨rfl,au.same⟩,aa.cat.2 ⟨ab,aa.cat.2 ⟨⟨z,A⟩,aa.cat.2 ⟨⟨rfl,au.same⟩,aa.cat.2 ⟨rfl,aa.cat.2 ⟨?_,ab⟩⟩⟩⟩⟩⟩⟩;simp[aa]
     ·exact aa.cat.2 ⟨aa.cat.2 ⟨rfl,aa.cat.2 ⟨⟨rfl,au.same⟩,ab⟩⟩,aa.cat.2 ⟨⟨z,A⟩,ab⟩⟩
     ·refine⟨by omega,λj m=>?_⟩
      rcases fE.1 m with m|rfl
      ·exact g j m
      ·rw[a,e];rfl
     ·omega
  ·have e:i=s.2.length:=by omega
   subst e;refine ah d [(21,false)] 100 rfl (by simp[aa]) (AK.leaveD rfl rfl ?_)
   rw[cm];have o:=ui (X:=Cx.beside Tryz.prog) (db k ps s.2);rw[Di] at o;refine ah d [] 100 rfl ab ?_;refine AK.aC o [] rfl rfl rfl rfl rfl rfl rfl rfl rfl rfl rfl ?_;have G:s.2.all (λx=>(fileOf k ps x).isSome)=true:=eR.2 λx q=>by
    obtain⟨j,m,rfl⟩:=wL.1 q;have:=g j m;simpa[List.getD_eq_getElem?_getD,ai m] using this
   cases y:cr (db k ps s.2) with
   |false =>
    refine ah d [(51,true)] 100 rfl ?_ (AK.aK rfl ?_)
    ·simp[aa]
    ·simp[aa,aa.cat,eN,y]
   |true =>
    refine ah d [(51,false)] 100 rfl ?_ (AK.aK rfl ?_)
    ·simp[aa]
    ·simp[aa,aa.cat,eN,y,p,G,au.same]
abbrev az:=List a9×List cB×List (Int×Int)
def mQ(s:az):Prop:=∀ x∈s.2.1,x.2.length<=1000000/\∀ y∈x.2,y.2.length<=1000000
abbrev eH(s:az):D:=.e (.agg [.c (.sl false 2 s.1.length (cP.fn s.1)),.c (.sl false 2 s.2.1.length (cT.fn s.2.1)),.c (.sl false 2 s.2.2.length (cH.fn s.2.2))])
def eJ(k:Int)(s:az) (no:Int):Option (List aH):=match s.2.1.find? (λx=>x.1==no) with
 |none=>none
 |some x=>eN k x s.1
def vR:c7:=El aI (H5 cL) (aL cP) (λk s ps=>KO ((eN k s ps).getD []) (eN k s ps).isSome) λ_ s _=>[s.2.length<=1000000,∀ x∈s.2,x.2.length<=1000000]
theorem Dj:dw (Cx.beside Tryz.prog) 24 vR:=.Mn λk s ps h=>yZ k s ps h.1 h.2
theorem xC(k:Int)(s:az) (no:Int)(l:mQ s) :
  Ev (Cx.beside Tryz.prog) 8 [dI k,eH s,dI no] [] (KO ((eJ k s no).getD []) (eJ k s no).isSome) []:=by
 refine Ev.body Tryz.func8 rfl rfl rfl λm=>?_
 have b:aY (Cx.beside Tryz.prog) [(22,Sx),(24,vR)]:=.cons t22 (.cons Dj .nil);have c:cT.list s.2.1.length (cT.fn s.2.1)=s.2.1:=cT.list_fn _;refine ah b [(1000001,true)] 100 rfl ab ?_;refine AK.freeze 5 1 rfl rfl rfl ?_;rcases yX s.2.1 no with⟨a,d⟩|⟨i,hi,a,d⟩
 ·refine ah b [(14,true)] 100 rfl ?_ (AK.aK rfl ?_)
  ·simp only[aa,c,a];exact⟨rfl,cT.bu _⟩
  ·simp[aa.cat,aa,eJ,d]
 ·have h:s.2.1.getD i (0,[])∈s.2.1:=by rw[List.getD_eq_getElem?_getD,ai hi];exact bJ hi
  obtain⟨j,g⟩:=l _ h;have e:eJ k s no=eN k (s.2.1.getD i (0,[])) s.1:=by simp only[eJ,d]
  have f:s.2.1.getD (oK (cT.list s.2.1.length (cT.fn s.2.1)) no).toNat cT.bl=s.2.1.getD i (0,[]):=by rw[c,a,aF];rfl
  refine ah b [(14,false)] 100 rfl ?_ (AK.aK rfl ?_)
  ·simp only[aa,f,cL.list_fn,c,a];exact⟨cL.bu _,cP.bu _,j,g,by omega,by omega,fh (by omega),cT.bu _⟩
  ·simp only[f,cL.list_fn,cP.list_fn,e];exact aa.cat.2 ⟨⟨ab,au.same⟩,aa.cat.2 ⟨ab,ab⟩⟩
def Xn:Arg az:=⟨eH,λd=>match d with
 |.e (.agg [.c a,.c b,.c c])=>match iU 2 (.e (.one (.c a))) with
  |some (m,g)=>match iU 2 (.e (.one (.c b))) with
   |some (l,i)=>match iU 2 (.e (.one (.c c))) with
    |some (j,n)=>some ((cP.list m g,cT.list l i,cH.list j n),[cP.fits m g,cT.fits l i,cH.fits j n])
    |none=>none
   |none=>none
  |none=>none
 |_=>none,λ{d a o} h k σ s v r=>by
 split at h
 ·split at h
  ·rename_i m g q
   split at h
   ·rename_i l i u
    split at h
    ·rename_i j n t
     cases h;obtain⟨vs,w,f⟩:=r
     match vs,f with
     |[],f=>exact f.elim
     |[_],f=>exact f.2.elim
     |[_,_],f=>exact f.2.2.elim
     |_::_::_::_::_,f=>exact f.2.2.2.elim
     |[p,x,y],f =>
      exact⟨_,w,cP.hY (σ:=[]) (s:=s) (v:=p) q k.1 f.1,cT.hY (σ:=[]) (s:=s) (v:=x) u k.2.1 f.2.1,cH.hY (σ:=[]) (s:=s) (v:=y) t k.2.2 f.2.2.1,ab⟩
    ·cases h
   ·cases h
  ·cases h
 ·cases h⟩
def Mv:c7:=El aI Xn aI (λk s n=>KO ((eJ k s n).getD []) (eJ k s n).isSome) λ_ s _=>[mQ s]
abbrev nT(p:a9)(i:Nat):bD:=p.2.getD i (0,[])
def lY(k:Int)(p:a9)(i:Nat):Bool:=right k (nT p i)&&(i==0||decide ((nT p (i-1)).1<(nT p i).1))
theorem vS(k:Int)(p:a9):jf k p=((List.range p.2.length).all (lY k p)&&(b5 k&&decide (1<=p.1)&&decide (p.1<=99)&&decide (1<=p.2.length)&&decide (p.2.length<=4))):=by
 have e:(p.2.all (right k)&&sX (p.2.map (·.1)))=(List.range p.2.length).all (lY k p):=by
  rw[Bool.eq_iff_iff,bq,eR,eR];unfold sX;rw[eR];have a:∀ i,i<p.2.length->(p.2.map (·.1)).getD i 0=(nT p i).1:=λi hi=>by simp[List.getD_eq_getElem?_getD,ai hi]
  constructor
  ·rintro⟨d,f⟩ i hi;have hi:=n5.1 hi;have q:=f i (by simpa using hi)
   rw[a i hi] at q;unfold lY;rw[d (nT p i) (by simp only[nT,List.getD_eq_getElem?_getD,ai hi,cK];exact bJ hi),j1]
   rcases iq i with rfl|c
   ·rfl
   ·rw[a (i-1) (by omega)] at q;exact q
  ·intro h;refine⟨λx b=>?_,λi hi=>?_⟩
   ·obtain⟨i,hi,rfl⟩:=wL.1 b;have:=h i (n5.2 hi);simp only[lY,bq] at this;simpa[nT,List.getD_eq_getElem?_getD,ai hi] using this.1
   ·have hi:i<p.2.length:=by simpa using hi
    have:=h i (n5.2 hi);simp only[lY,bq] at this;rw[a i hi];rcases iq i with rfl|c
    ·rfl
    ·rw[a (i-1) (by omega)];exact this.2
 rw[<-e];unfold jf;cases b5 k <;> cases decide (1<=p.1) <;> cases decide (p.1<=99) <;> cases decide (1<=p.2.length) <;> cases decide (p.2.length<=4) <;> simp
theorem vT{k:Int}{p:a9}{i:Nat}(hi:i<p.2.length)(h:lY k p i=false):jf k p=false:=by
 rw[vS];cases a:(List.range p.2.length).all (lY k p) with
 |false=>rfl
 |true =>
  have:=eR.1 a i (n5.2 hi);rw[h] at this;cases this
theorem uj{k:Int}{x:bD}(a:b5 k=true):(chunk k x).isSome=right k x:=by
 unfold chunk right;cases ff x.2 with
 |none=>rfl
 |some q =>
  simp only[a,j1];split
  ·rename_i h;rw[h];rfl
  ·rename_i h;simp only[mj] at h;rw[h];rfl
theorem Dk(k:Int)(p:a9)(a:b5 k=true)(w:p.2.length<=1000000):Ev X 27 [dI k,AE p] [] (dB (jf k p)) []:=by
 refine Ev.body Tryz.func27 rfl rfl rfl λy=>?_
 have b:aY X [(51,nn aI (λk=>dB (b5 k)) λ_=>[]),(57,qO O4 aI (λx k=>Gg (chunk k x)) λ_ k=>[b5 k=true])]:=.cons t51 (.cons (t163 O0) .nil)
 refine ah b [] 100 rfl ab ?_;refine AK.bA 1 (λi=>i<=p.2.length/\∀ j,j<i->lY k p j=true) (λi:Nat=>[(0,dI k),(3,.e (.one (.ptr 0 0))),(10,dO.sl p.2),(11,dI p.2.length),(12,dI i)]) (λ_=>[.cells 56 [.c (.int .i64 p.1),.c (sP p)]]) (λi=>p.2.length-i) 0 rfl ?_ rfl ?_ rfl ⟨by omega,by omega⟩ ?_
 ·simp[aa.cat,aa,au.same]
 ·simp[aa.cat,aa,au.same]
 rintro i ⟨hi,g⟩
 by_cases h:i<p.2.length
 ·cases l:right k (nT p i) with
  |false =>
   have n:(chunk k (nT p i)).isSome=false:=by rw[uj a];exact l
   refine ah b [(13,true),(24,true),(40,true)] 100 rfl ?_ (AK.jP (cv.zero rfl ?_))
   ·refine⟨rfl,?_,a,by omega,by omega,bx (by omega)⟩
    show (!(chunk k (nT p i)).isSome)=true;rw[n];rfl
   ·rw[vT h (by simp only[lY,l,Bool.false_and])]
    simp[aa]
  |true =>
   have n:(!(chunk k (nT p i)).isSome)=false:=by rw[uj a,l];rfl
   by_cases t:i=0
   ·subst t;refine ah b [(13,true),(24,false),(27,false),(40,false)] 100 rfl ?_ (AK.ay 1 rfl ?_ rfl rfl rfl ?_ rfl ⟨by omega,λj m=>?_⟩ (by omega))
    ·simp only[aa,aJ];refine⟨by omega,ab,by simp,n,a,by omega,by omega,bx (by omega)⟩
    ·simp[aa.cat,aa,au.same]
    ·simp[aa.cat,aa,au.same]
    ·have:j=0:=by omega
     subst this;simp only[lY,l,j1];rfl
   ·have s:((i:Int)-1).toNat=i-1:=by omega
    cases o:decide ((nT p (i-1)).1<(nT p i).1) with
    |false =>
     refine ah b [(13,true),(24,false),(27,true),(38,true),(40,true)] 100 rfl ?_ (AK.jP (cv.zero rfl ?_))
     ·have q:(p.2.getD ((i:Int)-1).toNat dO.bl).1=(nT p (i-1)).1:=by rw[s];rfl
      refine⟨rfl,bx ?_,by omega,by omega,by simp only[aJ];omega,bx (by omega),n,a,by omega,by omega,bx (by omega)⟩
      rw[q];show (nT p i).1<=_;exact Int.not_lt.1 (of_decide_eq_false o)
     ·rw[vT h (by simp only[lY,l,o,j1,Bool.or_false];simpa using t)]
      simp[aa]
    |true =>
     refine ah b [(13,true),(24,false),(27,true),(38,false),(40,false)] 100 rfl ?_ (AK.ay (i+1) rfl ?_ rfl rfl rfl ?_ rfl ⟨by omega,λj m=>?_⟩ (by omega))
     ·have q:(p.2.getD ((i:Int)-1).toNat dO.bl).1=(nT p (i-1)).1:=by rw[s];rfl
      refine⟨by simp only[aJ];omega,rfl,fh ?_,by omega,by omega,by simp only[aJ];omega,bx (by omega),n,a,by omega,by omega,bx (by omega)⟩
      rw[q];show ¬(nT p i).1<=_;exact Int.not_le.2 (mf o)
     ·simp[aa.cat,aa,au.same]
     ·simp[aa.cat,aa,au.same]
     ·rcases fE.1 m with m|rfl
      ·exact g j m
      ·simp only[lY,l,o,j1,Bool.or_true]
 ·have e:i=p.2.length:=by omega
  subst e;refine ah b [(13,false)] 100 rfl (by simp[aa]) (AK.leaveD rfl rfl ?_)
  have v:(List.range p.2.length).all (lY k p)=true:=eR.2 λj m=>g j (n5.1 m)
  rw[vS,v,a]
  by_cases d:1<=p.1
  ·by_cases f:p.1<=99
   ·by_cases r:1<=p.2.length
    ·by_cases u:p.2.length<=4
     ·refine ah b [(43,true),(47,true),(52,true),(58,true),(64,true)] 100 rfl ?_ (AK.aK rfl ?_)
      ·exact⟨bx (by omega),bx (by omega),bx f,bx d,a⟩
      ·simp[aa,d,f,r,u]
     ·refine ah b [(43,true),(47,true),(52,true),(58,true),(64,false)] 100 rfl ?_ (AK.aK rfl ?_)
      ·exact⟨fh (by omega),bx (by omega),bx f,bx d,a⟩
      ·simp[aa,d,f,r,u]
    ·refine ah b [(43,true),(47,true),(52,true),(58,false)] 100 rfl ?_ (AK.aK rfl ?_)
     ·exact⟨fh (by omega),bx f,bx d,a⟩
     ·simp[aa,d,f,r]
   ·refine ah b [(43,true),(47,true),(52,false)] 100 rfl ?_ (AK.aK rfl ?_)
    ·exact⟨fh f,bx d,a⟩
    ·simp[aa,d,f]
  ·refine ah b [(43,true),(47,false)] 100 rfl ?_ (AK.aK rfl ?_)
   ·exact⟨fh d,a⟩
   ·simp[aa,d]
def Ce:c7:=qO aI (H5 dO) (λk p=>dB (jf k p)) λk p=>[b5 k=true,p.2.length<=1000000]
theorem Jo:dw X 27 Ce:=.xz λk p h=>Dk k p h.1 h.2
def Mw(s:az):Prop:=∀ p∈s.1,p.2.length<=1000000
def dg(k:Int)(l:List a9):List Int:=(l.filter λp=>!jf k p).map (·.1)
theorem y3{k:Int}{l:List a9}{i:Nat}(h:i<l.length):dg k (l.take (i+1))=dg k (l.take i)++(if jf k (l.getD i (0,[]))=true then [] else [(l.getD i (0,[])).1]):=by
 unfold dg;rw[g7,ai h,kX,pC];simp only[me,List.getD_eq_getElem?_getD,ai h,cK];cases a:jf k l[i] <;> simp[List.filter,a]
theorem Dl(k:Int)(s:az)(o:b5 k=true)(u:s.1.length<=1000000)(m:Mw s):Ev X 10 [dI k,eH s] [] (cI.sl (dg k s.1)) []:=by
 refine Ev.body Tryz.func10 rfl rfl rfl λt=>?_
 have g:aY X [(27,Ce)]:=.cons Jo .nil;refine ah g [(1000002,true)] 100 rfl ab ?_;refine AK.iS 5 3 1 rfl rfl ?_;refine ah g [] 100 rfl ab ?_;refine AK.bA 2 (λi=>i<=s.1.length) (λi:Nat=>[(0,dI k),(5,.e (.one (.vec 1 1 (dg k (s.1.take i)).length (cI.fn (dg k (s.1.take i)))))),(9,cP.sl s.1),(10,dI s.1.length),(11,dI i)]) (λi=>[.cells 27 [.c (.sl false 2 s.1.length (cP.fn s.1)),.c (.sl false 2 s.2.1.length (cT.fn s.2.1)),.c (.sl false 2 s.2.2.length (cH.fn s.2.2))],.vec 3 1 (dg k (s.1.take i)).length (cI.fn (dg k (s.1.take i)))]) (λi=>s.1.length-i) 0 rfl ?_ rfl ?_ rfl (by omega) ?_
 ·simp[aa.cat,aa,au.same,au.nil,dg]
 ·simp[aa.cat,aa,au.same,au.nil,dg]
 rintro i hi
 by_cases h:i<s.1.length
 ·have a:=y3 (k:=k) h;have q:((s.1.getD (i:Int).toNat cP.bl).1,dO.list (s.1.getD (i:Int).toNat cP.bl).2.length (dO.fn (s.1.getD (i:Int).toNat cP.bl).2))=s.1.getD i (0,[]):=by rw[dO.list_fn];rfl
  have f:(s.1.getD i (0,[])).2.length<=1000000:=m _ (by rw[List.getD_eq_getElem?_getD,ai h];exact bJ h)
  have b:(dO.list (s.1.getD (i:Int).toNat cP.bl).2.length (dO.fn (s.1.getD (i:Int).toNat cP.bl).2)).length<=1000000:=by rw[dO.list_fn];exact f
  have r:(dg k (s.1.take i)).length<=1000000:=by
   have:=ik (λp=>!jf k p) (s.1.take i)
   simp[dg] at this ⊢;omega
  cases j:jf k (s.1.getD i (0,[])) with
  |true =>
   rw[j,an rfl,iV] at a;refine ah g [(12,true),(17,true),(18,false)] 100 rfl ?_ (AK.ay (i+1) rfl ?_ rfl rfl rfl ?_ rfl (by omega) (by omega))
   ·simp only[aa,q,f,j,o,aJ];refine⟨by omega,by simp,dO.bu _,ab,b,ab,by omega,by omega,bx (by omega)⟩
   ·rw[a];simp[aa.cat,aa,au.same]
   ·rw[a];simp[aa.cat,aa,au.same]
  |false =>
   rw[j,ak (by simp)] at a
   refine ah g [(12,true),(17,false),(18,true)] 100 rfl ?_ (AK.ay (i+1) rfl ?_ rfl rfl rfl ?_ rfl (by omega) (by omega))
   ·simp only[aa,q,f,j,o,aJ];refine⟨by omega,ab,ab,?_,by simp,dO.bu _,ab,b,ab,by omega,by omega,bx (by omega)⟩
    show _*8<=_;omega
   ·have l:au ((dg k (s.1.take i)).length+1) (cj (dg k (s.1.take i)).length (cI.fn (dg k (s.1.take i))) λd=>[[C.int IntKind.i64 (s.1.getD (i:Int).toNat cP.bl).1]].getD d []) (cI.fn (dg k (s.1.take (i+1)))):=by
     rw[a];exact cI.b9 (dg k (s.1.take i)) (s.1.getD i (0,[])).1
    have n:(dg k (s.1.take i)).length+1=(dg k (s.1.take (i+1))).length:=by rw[a];simp
    exact aa.cat.2 ⟨rfl,aa.cat.2 ⟨⟨n,l⟩,aa.cat.2 ⟨⟨rfl,au.same⟩,aa.cat.2 ⟨rfl,aa.cat.2 ⟨by simp[aa],ab⟩⟩⟩⟩⟩
   ·have l:au ((dg k (s.1.take i)).length+1) (cj (dg k (s.1.take i)).length (cI.fn (dg k (s.1.take i))) λd=>[[C.int IntKind.i64 (s.1.getD (i:Int).toNat cP.bl).1]].getD d []) (cI.fn (dg k (s.1.take (i+1)))):=by
     rw[a];exact cI.b9 (dg k (s.1.take i)) (s.1.getD i (0,[])).1
    have n:(dg k (s.1.take i)).length+1=(dg k (s.1.take (i+1))).length:=by rw[a];simp
    refine aa.cat.2 ⟨?_,aa.cat.2 ⟨⟨n,l⟩,ab⟩⟩;simp[aa,aa.cat,au.same]
 ·have e:i=s.1.length:=by omega
  subst e;refine ah g [(12,false)] 100 rfl (by simp[aa]) (AK.leaveD rfl rfl ?_)
  rw[cm];refine ah g [] 100 rfl ab (AK.aK rfl ?_);simp[aa,aa.cat,au.same]
theorem Dq(l:List (Int×Int))(f:l.length<=1000000):Ev X 38 [cH.sl l] [] (.e (.one (.bp 0 (.sl l.length 2 0 l.length)))) [.buf 64 2 l.length (cH.fn l)]:=by
 refine Ev.body Tryz.func38 rfl rfl rfl λd=>?_
 refine aA rfl ab ?_;refine AK.yM tok rfl rfl rfl rfl rfl rfl λb c=>?_
 cases b with
 |true =>
  obtain rfl:=dq (c rfl);refine aA rfl ab ?_;refine AK.OY 2 64 2 (cH.fn []) rfl ?_;refine AK.cZ [0] rfl ?_ rfl rfl rfl (λj a=>absurd a (by simp))
  simp[aa]
 |false =>
  refine aq [] 7 rfl ab ?_;refine AK.tP 5 64 2 (cH.fn []) rfl ?_;refine aA rfl ⟨rfl,rfl,show (0+l.length)*16<=_ by omega⟩ ?_
  refine AK.norm [.buf 64 2 l.length (cH.fn l)] rfl ?_ ?_
  ·simp[aa.cat,aa,au,cj]
  refine AK.cZ [0] rfl ?_ rfl rfl rfl (λj a=>absurd a (by simp))
  simp[aa];rfl
theorem ur(l:List (Int×Int))(d:l.length<=1000000):Ev X 38 [cH.sl l] [] (cH.sl l) []:=by
 refine Ev.body Tryz.func38 rfl rfl rfl λc=>?_
 refine aA rfl ab ?_;refine AK.yM tok rfl rfl rfl rfl rfl rfl λb a=>?_
 cases b with
 |true =>
  obtain rfl:=dq (a rfl);refine aA rfl ab ?_;refine AK.aK rfl ?_;simp[aa,aa.cat,au]
 |false =>
  refine aA rfl ⟨show (0+l.length)*16<=_ by omega,.inl rfl⟩ ?_
  refine AK.aK rfl ?_;simp[aa,aa.cat,au,cj]
theorem AQ(l:List bD)(d:l.length<=1000000):Ev X 69 [dO.sl l] [] (dO.sl l) []:=by
 refine Ev.body Tryz.func69 rfl rfl rfl λc=>?_
 refine aA rfl ab ?_;refine AK.yM tok rfl rfl rfl rfl rfl rfl λb a=>?_
 cases b with
 |true =>
  obtain rfl:=dq (a rfl);refine aA rfl ab ?_;refine AK.aK rfl ?_;simp[aa,aa.cat,au]
 |false =>
  refine aA rfl ⟨show (0+l.length)*24<=_ by omega,.inl rfl⟩ ?_
  refine AK.aK rfl ?_;simp[aa,aa.cat,au,cj]
theorem AR(l:List Int)(d:l.length<=1000000):Ev X 70 [cI.sl l] [] (cI.sl l) []:=by
 refine Ev.body Tryz.func70 rfl rfl rfl λc=>?_
 refine aA rfl ab ?_;refine AK.yM tok rfl rfl rfl rfl rfl rfl λb a=>?_
 cases b with
 |true =>
  obtain rfl:=dq (a rfl);refine aA rfl ab ?_;refine AK.aK rfl ?_;simp[aa,aa.cat,au]
 |false =>
  refine aA rfl ⟨show (0+l.length)*8<=_ by omega,.inl rfl⟩ ?_
  refine AK.aK rfl ?_;simp[aa,aa.cat,au,cj]
end Go.AM.R1
namespace Go.AM
open Go.Conc (G)
section
variable {P:Program}{X:Cx P}{N:Nat}{K:List It}{φ:Fr}{σ:List aj}
theorem AK.ez{ι:Type}{T:List (Nat×TI)}{fn:Func}{h:Nat}{res:ι->D}{σ':ι->List aj}(i:ι)(ks:List Nat){l:Nat}{E:TypeId}{cs:List A}{t:Tmp}{ty:TypeId}{b:TI}{ps:List Prop}
  (k:fn.results.toList=[.cell t ty]) (hi:aQ T ty=some b) (q:b.agg=true) (o:look φ t=.e (.one (.ptr l 0))) (hl:eW l σ=some (.cells E cs)) (a:Nat.beq cs.length b.size=true) (c:dZ l ks=false)
  (d:zU (.e (.agg cs)) (jd ks (res i))=some ps) (m:aa ps) (g:tj ks.length (res i)=true) (r:jS ks σ=some (σ' i)) (f:kH (σ' i)=true) (p:dv ks=true) (n:∀ j,j<h->ks[j]?=some j) :
  AK X N (λe φ σ1=>∃ j,I7 T fn h (res j) (σ' j) e φ σ1) (.code .ret::K) .normal φ σ :=
 AK.ret ⟨i,.inl rfl,ks,l,E,cs,t,ty,b,ps,k,hi,q,aO a,o,c9 hl,FT c,d,m,g,r,f,p,n⟩
theorem Ev.jV{T:List (Nat×TI)}(g:cz P T){f:FuncId}{fn:Func}{c:Code}{args:List D}{σ σ':List aj}{res:D}(d:P.funcs[f]?=some fn)(b:(fn.name== "runtime.NumGoroutine")=false)(i:fn.body=some c)(a:Nat.ble args.length fn.ntmps=true)
  (h:Fits args σ->AK X fn.ntmps (λe φ σ1=>∃ _:Unit,I7 T fn σ.length res σ' e φ σ1) [.code c] .normal (iy 0 args) σ):Ev X f args σ res σ' :=
 (cf.jz (ι:=Unit) (σ':=λ_=>σ') (res:=λ_=>res) g d b i a h).tm
end
end Go.AM
namespace Go.AM.R1
open Go.Proofs
variable {X:Cx Tryz.prog}
theorem _root_.Go.AM.gN.fM{α:Type}(c:gN α)(l:List α){i:Nat}(h:i<l.length)(d:α):au (i+1) (cj i (c.fn (l.take i)) (λq=>[c.enc (l.getD i d)].getD q [])) (c.fn (l.take (i+1))):=by
 have e:l.take (i+1)=l.take i++[l.getD i d]:=by rw[g7];simp[List.getD_eq_getElem?_getD,ai h]
 have:=c.b9 (l.take i) (l.getD i d);rw[<-e,show (l.take i).length=i by simp;omega] at this
 exact this
abbrev Pp:c7:=nn (aL dO) (λl=>dO.sl l) λl=>[l.length<=1000000]
theorem SN:dw X 69 Pp:=.vP λl h=>AQ l h
abbrev Pq:c7:=nn (aL cI) (λl=>cI.sl l) λl=>[l.length<=1000000]
theorem SO:dw X 70 Pq:=.vP λl h=>AR l h
theorem xK(p:a9)(c:p.2.length<=1000000):Ev X 36 [AE p] [] (AE p) []:=by
 refine Ev.jV tok Tryz.func36 rfl rfl rfl λd=>?_
 have a:aY X [(69,Pp)]:=.cons SN .nil;refine ah a [] 100 rfl ?_ ?_
 ·simp only[aa,dO.list_fn];exact⟨dO.bu _,c⟩
 refine AK.ez () [] rfl rfl rfl rfl rfl rfl rfl rfl ?_ rfl rfl rfl rfl (λj b=>absurd b (by simp))
 simp[aa,aa.cat,au.same,dO.list_fn]
abbrev Ci:c7:=nn (H5 dO) (λp=>AE p) λp=>[p.2.length<=1000000]
theorem Gy:dw X 36 Ci:=.vP λp h=>xK p h
theorem xL(x:cB)(l:x.2.length<=1000000)(g:∀ y∈x.2,y.2.length<=1000000):Ev X 37 [Cd x] [] (Cd x) []:=by
 refine Ev.jV tok Tryz.func37 rfl rfl rfl λk=>?_
 have a:aY X [(70,Pq)]:=.cons SO .nil;refine ah a [(1000002,true)] 100 rfl ab ?_;refine AK.hZ 2 1 69 2 (cL.fn []) rfl rfl ?_;refine ah a [] 100 rfl ab ?_;refine AK.bA 4 (λi=>i<=x.2.length) (λi:Nat=>[(2,.e (.one (.ptr 1 0))),(3,.e (.one (.ptr 2 0))),(10,cL.sl x.2),(11,dI x.2.length),(12,dI i)])
  (λi=>[.cells 39 [.c (.int .i64 x.1),.c (.sl false 2 x.2.length (cL.fn x.2))],.cells 39 [.c (.int .i64 0),.c (.sl true 0 0 λ_=>[])],.cells 39 [.c (.int .i64 x.1),.vec 3 2 i (cL.fn (x.2.take i))],.vec 69 2 i (cL.fn (x.2.take i))]) (λi=>x.2.length-i) 0 rfl ?_ rfl ?_ rfl (by omega) ?_
 ·simp[aa.cat,aa,au.same]
 ·simp[aa.cat,aa,au]
 intro i hi
 by_cases h:i<x.2.length
 ·have d:x.2.getD i ([],[])∈x.2:=by rw[List.getD_eq_getElem?_getD,ai h];exact bJ h
  refine ah a [(13,true)] 100 rfl ?_ (AK.ay (i+1) rfl ?_ rfl rfl rfl ?_ rfl ?_ ?_)
  ·have q:=g _ d;have b:x.2.getD (i:Int).toNat cL.bl=x.2.getD i ([],[]):=by rw[aF];rfl
   simp only[aa,b,cI.list_fn,aJ];exact⟨by omega,ab,ab,show (i+1)*40<=_ by omega,cI.bu _,q,by omega,by omega,bx (by omega)⟩
  ·simp[aa.cat,aa,au.same]
  ·have b:x.2.getD (i:Int).toNat cL.bl=x.2.getD i ([],[]):=by rw[aF];rfl
   have e:=cL.fM x.2 h ([],[]);simp only[aa.cat,aa,b,cI.list_fn,ae,af];exact⟨au.same,au.same,e,e⟩
  ·show i+1<=_;omega
  ·omega
 ·obtain rfl:i=x.2.length:=by omega
  refine ah a [(13,false)] 100 rfl (by simp[aa]) (AK.leaveD rfl rfl ?_)
  refine ah a [] 100 rfl ab ?_;refine AK.ez () [] rfl rfl rfl rfl rfl rfl rfl rfl ?_ rfl rfl rfl rfl (λj f=>absurd f (by simp))
  simp[aa,aa.cat,au.same,au]
abbrev Cj:c7:=nn (H5 cL) (λx=>Cd x) λx=>[x.2.length<=1000000,∀ y∈x.2,y.2.length<=1000000]
theorem Gz:dw X 37 Cj:=.vP λx h=>xL x h.1 h.2
abbrev dk:A:=.c (.sl true 0 0 λ_=>[])
theorem gw(s:az)(n:s.1.length<=1000000)(f:∀ p∈s.1,p.2.length<=1000000)(o:s.2.1.length<=1000000)(g:mQ s)(k:s.2.2.length<=1000000) :
  Ev X 14 [eH s] [] (.e (.agg [.bp 0 (.sl s.1.length 2 0 s.1.length),.bp 1 (.sl s.2.1.length 2 0 s.2.1.length),.c (.sl false 2 s.2.2.length (cH.fn s.2.2))])) [.buf 56 2 s.1.length (cP.fn s.1),.buf 39 2 s.2.1.length (cT.fn s.2.1)]:=by
 refine Ev.jV tok Tryz.func14 rfl rfl rfl λm=>?_
 have a:aY X [(36,Ci),(37,Cj)]:=.cons Gy (.cons Gz .nil);refine ah a [(1000002,true)] 100 rfl ab ?_;refine AK.lX 2 0 56 2 (cP.fn []) rfl rfl ?_;refine AK.lX 2 1 39 2 (cT.fn []) rfl rfl ?_;refine ah a [] 100 rfl ab ?_;refine AK.bA 5 (λi=>i<=s.1.length) (λi:Nat=>[(1,.e (.one (.ptr 0 0))),(2,.e (.one (.ptr 1 0))),(3,.e (.one (.ptr 2 0))),(9,cP.sl s.1),(10,dI s.1.length),(11,dI i)])
  (λi=>[.cells 27 [.c (.sl false 2 s.1.length (cP.fn s.1)),.c (.sl false 2 s.2.1.length (cT.fn s.2.1)),.c (.sl false 2 s.2.2.length (cH.fn s.2.2))],.cells 27 [dk,dk,dk],.cells 27 [.bp 3 (.sl i 2 0 i),.bp 4 (.sl 0 2 0 0),dk],.buf 56 2 i (cP.fn (s.1.take i)),.buf 39 2 0 (cT.fn [])]) (λi=>s.1.length-i) 0 rfl ?_ rfl ?_ rfl (by omega) ?_
 ·simp[aa.cat,aa,au.same]
 ·simp[aa.cat,aa,au]
 intro i hi
 by_cases h:i<s.1.length
 ·have d:s.1.getD i (0,[])∈s.1:=by rw[List.getD_eq_getElem?_getD,ai h];exact bJ h
  have b:s.1.getD (i:Int).toNat cP.bl=s.1.getD i (0,[]):=by rw[aF];rfl
  refine ah a [(12,true)] 100 rfl ?_ (AK.ay (i+1) rfl ?_ rfl rfl rfl ?_ rfl ?_ ?_)
  ·have q:=f _ d;simp only[aa,b,dO.list_fn,aJ];exact⟨by omega,ab,ab,show (i+1)*32<=_ by omega,dO.bu _,q,by omega,by omega,bx (by omega)⟩
  ·simp[aa.cat,aa,au.same]
  ·have e:=cP.fM s.1 h (0,[]);simp only[aa.cat,aa,b,dO.list_fn,ae,af];exact⟨⟨au.same,au.same,au.same⟩,⟨au.same,au.same,au.same⟩,⟨rfl,au.same⟩,e,au.same⟩
  ·show i+1<=_;omega
  ·omega
 obtain rfl:i=s.1.length:=by omega
 rw[cm];refine ah a [(12,false)] 100 rfl (by simp[aa]) (AK.leaveD rfl rfl ?_)
 refine ah a [] 100 rfl ab ?_;refine AK.bA 5 (λi=>i<=s.2.1.length) (λi:Nat=>[(1,.e (.one (.ptr 0 0))),(2,.e (.one (.ptr 1 0))),(3,.e (.one (.ptr 2 0))),(24,cT.sl s.2.1),(25,dI s.2.1.length),(26,dI i)])
  (λi=>[.cells 27 [.c (.sl false 2 s.1.length (cP.fn s.1)),.c (.sl false 2 s.2.1.length (cT.fn s.2.1)),.c (.sl false 2 s.2.2.length (cH.fn s.2.2))],.cells 27 [dk,dk,dk],.cells 27 [.bp 3 (.sl s.1.length 2 0 s.1.length),.bp 4 (.sl i 2 0 i),dk],.buf 56 2 s.1.length (cP.fn s.1),.buf 39 2 i (cT.fn (s.2.1.take i))]) (λi=>s.2.1.length-i) 0 rfl ?_ rfl ?_ rfl (by omega) ?_
 ·simp[aa.cat,aa,au.same]
 ·simp[aa.cat,aa,au.same,au]
 intro i hi
 by_cases h:i<s.2.1.length
 ·have d:s.2.1.getD i (0,[])∈s.2.1:=by rw[List.getD_eq_getElem?_getD,ai h];exact bJ h
  have b:s.2.1.getD (i:Int).toNat cT.bl=s.2.1.getD i (0,[]):=by rw[aF];rfl
  refine ah a [(27,true)] 100 rfl ?_ (AK.ay (i+1) rfl ?_ rfl rfl rfl ?_ rfl ?_ ?_)
  ·have q:=g _ d;simp only[aa,b,cL.list_fn,aJ];exact⟨by omega,ab,ab,show (i+1)*32<=_ by omega,cL.bu _,q.1,q.2,by omega,by omega,bx (by omega)⟩
  ·simp[aa.cat,aa,au.same]
  ·have e:=cT.fM s.2.1 h (0,[]);simp only[aa.cat,aa,b,cL.list_fn,ae,af];exact⟨⟨au.same,au.same,au.same⟩,⟨au.same,au.same,au.same⟩,⟨rfl,au.same⟩,au.same,e⟩
  ·show i+1<=_;omega
  ·omega
 obtain rfl:i=s.2.1.length:=by omega
 rw[cm];refine ah a [(27,false)] 100 rfl (by simp[aa]) (AK.leaveD rfl rfl ?_)
 refine ah a [] 100 rfl ab ?_;refine AK.aC (ur s.2.2 k) [] rfl rfl rfl rfl rfl rfl rfl rfl rfl rfl rfl ?_;refine ah a [] 100 rfl ab ?_;refine AK.ez () [3,4] rfl rfl rfl rfl rfl rfl rfl rfl ?_ rfl rfl rfl rfl (λj l=>absurd l (by simp))
 ·simp[aa.cat,aa,au.same]
theorem uu(s:az)(n:s.1.length<=1000000)(f:∀ p∈s.1,p.2.length<=1000000)(o:s.2.1.length<=1000000)(g:mQ s)(k:s.2.2.length<=1000000) :
  Ev X 14 [eH s] [] (.e (.agg [.bp 0 (.sl s.1.length 2 0 s.1.length),.bp 1 (.sl s.2.1.length 2 0 s.2.1.length),.bp 2 (.sl s.2.2.length 2 0 s.2.2.length)])) [.buf 56 2 s.1.length (cP.fn s.1),.buf 39 2 s.2.1.length (cT.fn s.2.1),.buf 64 2 s.2.2.length (cH.fn s.2.2)]:=by
 refine Ev.jV tok Tryz.func14 rfl rfl rfl λm=>?_
 have a:aY X [(36,Ci),(37,Cj)]:=.cons Gy (.cons Gz .nil);refine ah a [(1000002,true)] 100 rfl ab ?_;refine AK.lX 2 0 56 2 (cP.fn []) rfl rfl ?_;refine AK.lX 2 1 39 2 (cT.fn []) rfl rfl ?_;refine ah a [] 100 rfl ab ?_;refine AK.bA 5 (λi=>i<=s.1.length) (λi:Nat=>[(1,.e (.one (.ptr 0 0))),(2,.e (.one (.ptr 1 0))),(3,.e (.one (.ptr 2 0))),(9,cP.sl s.1),(10,dI s.1.length),(11,dI i)])
  (λi=>[.cells 27 [.c (.sl false 2 s.1.length (cP.fn s.1)),.c (.sl false 2 s.2.1.length (cT.fn s.2.1)),.c (.sl false 2 s.2.2.length (cH.fn s.2.2))],.cells 27 [dk,dk,dk],.cells 27 [.bp 3 (.sl i 2 0 i),.bp 4 (.sl 0 2 0 0),dk],.buf 56 2 i (cP.fn (s.1.take i)),.buf 39 2 0 (cT.fn [])]) (λi=>s.1.length-i) 0 rfl ?_ rfl ?_ rfl (by omega) ?_
 ·simp[aa.cat,aa,au.same]
 ·simp[aa.cat,aa,au]
 intro i hi
 by_cases h:i<s.1.length
 ·have d:s.1.getD i (0,[])∈s.1:=by rw[List.getD_eq_getElem?_getD,ai h];exact bJ h
  have b:s.1.getD (i:Int).toNat cP.bl=s.1.getD i (0,[]):=by rw[aF];rfl
  refine ah a [(12,true)] 100 rfl ?_ (AK.ay (i+1) rfl ?_ rfl rfl rfl ?_ rfl ?_ ?_)
  ·have q:=f _ d;simp only[aa,b,dO.list_fn,aJ];exact⟨by omega,ab,ab,show (i+1)*32<=_ by omega,dO.bu _,q,by omega,by omega,bx (by omega)⟩
  ·simp[aa.cat,aa,au.same]
  ·have e:=cP.fM s.1 h (0,[]);simp only[aa.cat,aa,b,dO.list_fn,ae,af];exact⟨⟨au.same,au.same,au.same⟩,⟨au.same,au.same,au.same⟩,⟨rfl,au.same⟩,e,au.same⟩
  ·show i+1<=_;omega
  ·omega
 obtain rfl:i=s.1.length:=by omega
 rw[cm];refine ah a [(12,false)] 100 rfl (by simp[aa]) (AK.leaveD rfl rfl ?_)
 refine ah a [] 100 rfl ab ?_;refine AK.bA 5 (λi=>i<=s.2.1.length) (λi:Nat=>[(1,.e (.one (.ptr 0 0))),(2,.e (.one (.ptr 1 0))),(3,.e (.one (.ptr 2 0))),(24,cT.sl s.2.1),(25,dI s.2.1.length),(26,dI i)])
  (λi=>[.cells 27 [.c (.sl false 2 s.1.length (cP.fn s.1)),.c (.sl false 2 s.2.1.length (cT.fn s.2.1)),.c (.sl false 2 s.2.2.length (cH.fn s.2.2))],.cells 27 [dk,dk,dk],.cells 27 [.bp 3 (.sl s.1.length 2 0 s.1.length),.bp 4 (.sl i 2 0 i),dk],.buf 56 2 s.1.length (cP.fn s.1),.buf 39 2 i (cT.fn (s.2.1.take i))]) (λi=>s.2.1.length-i) 0 rfl ?_ rfl ?_ rfl (by omega) ?_
 ·simp[aa.cat,aa,au.same]
 ·simp[aa.cat,aa,au.same,au]
 intro i hi
 by_cases h:i<s.2.1.length
 ·have d:s.2.1.getD i (0,[])∈s.2.1:=by rw[List.getD_eq_getElem?_getD,ai h];exact bJ h
  have b:s.2.1.getD (i:Int).toNat cT.bl=s.2.1.getD i (0,[]):=by rw[aF];rfl
  refine ah a [(27,true)] 100 rfl ?_ (AK.ay (i+1) rfl ?_ rfl rfl rfl ?_ rfl ?_ ?_)
  ·have q:=g _ d;simp only[aa,b,cL.list_fn,aJ];exact⟨by omega,ab,ab,show (i+1)*32<=_ by omega,cL.bu _,q.1,q.2,by omega,by omega,bx (by omega)⟩
  ·simp[aa.cat,aa,au.same]
  ·have e:=cT.fM s.2.1 h (0,[]);simp only[aa.cat,aa,b,cL.list_fn,ae,af];exact⟨⟨au.same,au.same,au.same⟩,⟨au.same,au.same,au.same⟩,⟨rfl,au.same⟩,au.same,e⟩
  ·show i+1<=_;omega
  ·omega
 obtain rfl:i=s.2.1.length:=by omega
 rw[cm];refine ah a [(27,false)] 100 rfl (by simp[aa]) (AK.leaveD rfl rfl ?_)
 refine ah a [] 100 rfl ab ?_;refine AK.aC (Dq s.2.2 k) [] rfl rfl rfl rfl rfl rfl rfl rfl rfl rfl rfl ?_;refine ah a [] 100 rfl ab ?_;refine AK.ez () [3,4,5] rfl rfl rfl rfl rfl rfl rfl rfl ?_ rfl rfl rfl rfl (λj l=>absurd l (by simp))
 ·simp[aa.cat,aa,au.same]
end Go.AM.R1
namespace Go.AM
open Go.Conc (G)
section
variable {P:Program}{X:Cx P}{N:Nat}{ops:Array Oper}{φ:Fr}{σ:List aj}{ι:Type}{x:Nat->D}{f:ι->Nat->D}{σ':ι->List aj}{idx:Nat->Option Nat}{m:Nat}{pre:Nat->Bool}{last:Nat}{σ2:ι->List aj}
structure FG {P:Program}(X:Cx P)(N:Nat)(ops:Array Oper)(φ:Fr)(σ:List aj){ι:Type}(x:Nat->D)(f:ι->Nat->D)(σ':ι->List aj)(idx:Nat->Option Nat)(m:Nat)(pre:Nat->Bool)(last:Nat)(σ2:ι->List aj):Prop where
 back:∀ i o,ops[i]?=some o->∀ e∈o.after,bd e=true->e.on<i
 nd:∀ i o d,ops[i]?=some o->o.dst=some d->idx d=some i/\d<N
 jN:∀ d i,idx d=some i->∃ o,ops[i]?=some o/\o.dst=some d
 has:m<ops.size
 pm:pre m=false
 cl:∀ i o,ops[i]?=some o->pre i=false->i≠m->∃ e∈o.after,bd e=true/\pre e.on=false
 same:∀ j i,pre i=true->f j i=x i
 one:∀ i o,ops[i]?=some o->pre i=true->OA X N ops.toList o (iO ops.toList φ x i) σ (x i) σ
 two:∀ j i o,ops[i]?=some o->i≠m->i≠last->OA X N ops.toList o (iO ops.toList φ (f j) i) (σ' j) (f j i) (σ' j)
 qw:∀ o,ops[m]?=some o->tI X N ops.toList o (iO ops.toList φ x m) σ (λj=>f j m) σ'
 zX:∀ (x:Nat->D) i o,ops[i]?=some o->∀ t σ s v,cd σ s v (match idx t with|some j=>(if ∃ e∈o.after,bd e=true/\e.on=j then x j else .any)|none=>look φ t)->cd σ s v (look (iO ops.toList φ x i) t)
 fin:∀ (x:Nat->D) t σ s v,cd σ s v (match idx t with|some j=>x j|none=>look φ t)->cd σ s v (look (po ops.toList φ x) t)
 KE:∀ j o,ops[last]?=some o->OA X N ops.toList o (iO ops.toList φ (f j) last) (σ' j) (f j last) (σ2 j)
 FH:∀ o,ops[last]?=some o->∀ i,i<ops.size->i≠last->(∃ e∈o.after,bd e=true/\e.on=i)∨∃ e∈o.after,bd e=true/\∃ o',ops[e.on]?=some o'/\∃ e'∈o'.after,bd e'=true/\e'.on=i
 IZ:last<ops.size
 C1:pre last=false
 NG:last≠m
theorem FG.FE(h:FG X N ops φ σ x f σ' idx m pre last σ2){I:Goroutine->St->Prop}{b:Frame}{kk:List Item}{cs:List Frame}(S:b.kind≠.early)(j:ι){s0:St}
  (hQ:∀ s a,bg N (σ2 j) s (po ops.toList φ (f j)) a->ag (σ2 j) s->bo σ s0 (σ2 j) s->dn X I (G (b.aT a kk) cs) s) :
  ∀ (fuel:Nat) (L:Array Bool),L.size=ops.size->(L.toList.filter (λb=>!b)).length<=fuel->L.getD m false=true->¬L.getD last false=true ->
   (∀ i o,ops[i]?=some o->L.getD i false=true->∀ e∈o.after,bd e=true->L.getD e.on false=true) ->
   ∀ (s:St) (a:Act),vu N (σ' j) s (cX φ (f j) idx L) a->ag (σ' j) s->bo σ s0 (σ' j) s ->
   ∀ t,dn X I (G (b.aT a (.inRegion ops (Region.linearise.go .any ops fuel t L [])::kk)) cs) s:=by
 have fin:∀ (L:Array Bool) (s:St) (a:Act),(∀ i,i<ops.size->L.getD i false=true)->vu N (σ2 j) s (cX φ (f j) idx L) a->ag (σ2 j) s->bo σ s0 (σ2 j) s->dn X I (G (b.aT a (.inRegion ops []::kk)) cs) s:=by
  intro L s a l n hh st;have T:bg N (σ2 j) s (po ops.toList φ (f j)) a:=n.yt λt σ s v w=>h.fin (f j) t σ s v (by
   unfold cX at w;cases hi:idx t with
   |none=>simpa[hi] using w
   |some k =>
    simp only[hi] at w ⊢;obtain⟨o,g,_⟩:=h.jN _ _ hi;rw[an (l k (dE.1 g).1)] at w;exact w)
  exact .ctl hh rfl (λ_=>ei) λs1 C=>hQ s1 a (T.rely C hh) (hh.rely C) (st.trans C.stepW)
 intro fuel
 induction fuel with
 |zero =>
  intro L V T W r A s a n hh st t;exact absurd (fL V T last h.IZ) r
 |succ fuel ih =>
  intro L V T W r A s a n hh st t;rw[fQ];cases y:(Region.ready .any ops L)[t % (Region.ready .any ops L).length]? with
  |none=>exact absurd (kL (back:=h.back) V (hX y) last h.IZ) r
  |some i =>
   have hi:=aE y;obtain⟨o,g,M,c⟩:=mem_ready.1 hi;have oV:i<ops.size:=(dE.1 g).1;have z:¬L.getD i false=true:=by
    simp only[bM,bw (by omega:i<L.size),cK] at M ⊢
    simp[M]
   have Z:i≠m:=by rintro rfl;exact z W
   have u:((L.setIfInBounds i true).toList.filter (λb=>!b)).length<=fuel:=by
    have h1:L.toList[i]?=some false:=by
     rw[kt,bw (by omega:i<L.size)]
     simpa[bM,bw (by omega:i<L.size)] using z
    have:=count_set h1;rw[ly];omega
   have R:∀ j J,ops[j]?=some J->(L.setIfInBounds i true).getD j false=true->∀ e∈J.after,bd e=true->(L.setIfInBounds i true).getD e.on false=true:=by
    intro j J p hj e H S;rw[bh (by omega)] at hj ⊢
    rcases hj with rfl|hj
    ·rw[g] at p;cases p;exact .inr (c e H S)
    ·exact .inr (A j J p hj e H S)
   have K:bg N (σ' j) s (iO ops.toList φ (f j) i) a:=mK (h.zX (f j) i o g) n c
   by_cases F:i=last
   ·subst F;have l:∀ k,k<ops.size->(L.setIfInBounds i true).getD k false=true:=λk hk=>by
     rw[bh (by omega)]
     by_cases e:k=i
     ·exact .inl e
     ·rcases h.FH o g k hk e with⟨U,H,B,rfl⟩|⟨U,H,B,J,p,e2,Rv,Q,rfl⟩
      ·exact .inr (c U H B)
      ·exact .inr (A U.on J p (c U H B) e2 Rv Q)
    have O:=tQ (ops:=ops) (fuel:=fuel) (t:=t / (Region.ready .any ops L).length) (L:=L.setIfInBounds i true) (λk hk=>by
     have:=l k hk;simp only[bM] at this ⊢;rw[bw (by simp;omega)] at this ⊢
     exact this)
    show dn X I (G (b.aT a (.inRegion ops (i::Region.linearise.go .any ops fuel (t / (Region.ready .any ops L).length) (L.setIfInBounds i true) [])::kk)) cs) s;rw[O];have:=h.KE j o g s a K hh b kk cs I i [] S (by simpa using g)
    simp only[gi] at this;exact this λv s' w E q=>fin _ s' _ l (fp (λd Y=>h.nd i o d g Y) h.jN g (by omega) (λ_ _=>rfl) hh.len q n w) E (st.trans q)
   have:=h.two j i o g Z F s a K hh b kk cs I i (Region.linearise.go .any ops fuel (t / (Region.ready .any ops L).length) (L.setIfInBounds i true) []) S (by simpa using g)
   simp only[gi] at this;exact this λv s' w E q=>ih _ (by simp[V]) u ((bh (by omega)).2 (.inr W)) (by rw[bh (by omega)];rintro(e|e);exact F e.symm;exact r e) R s' _
    (fp (λd Y=>h.nd i o d g Y) h.jN g (by omega) (λ_ _=>rfl) hh.len q n w) E (st.trans q) _
theorem FG.FF(h:FG X N ops φ σ x f σ' idx m pre last σ2){K:Goroutine->St->Prop}{b:Frame}{kk:List Item}{cs:List Frame}(z:b.kind≠.early){s0:St}
  (T:∀ j s a,bg N (σ2 j) s (po ops.toList φ (f j)) a->ag (σ2 j) s->bo σ s0 (σ2 j) s->dn X K (G (b.aT a kk) cs) s) :
  ∀ (fuel:Nat) (L:Array Bool),L.size=ops.size->(L.toList.filter (λb=>!b)).length<=fuel->¬L.getD m false=true->(∀ i,L.getD i false=true->pre i=true) ->
   (∀ i o,ops[i]?=some o->L.getD i false=true->∀ e∈o.after,bd e=true->L.getD e.on false=true) ->
   ∀ (s:St) (a:Act),vu N σ s (cX φ x idx L) a->ag σ s->bo σ s0 σ s ->
   ∀ t,dn X K (G (b.aT a (.inRegion ops (Region.linearise.go .any ops fuel t L [])::kk)) cs) s:=by
 intro fuel
 induction fuel with
 |zero =>
  intro L I S M F A s a p hh st t;exact absurd (fL I S m h.has) M
 |succ fuel ih =>
  intro L I S M F A s a p hh st t;rw[fQ];cases q:(Region.ready .any ops L)[t % (Region.ready .any ops L).length]? with
  |none=>exact absurd (kL (back:=h.back) I (hX q) m h.has) M
  |some i =>
   have hi:=aE q;obtain⟨o,g,E,l⟩:=mem_ready.1 hi;have U:i<ops.size:=(dE.1 g).1;have C:¬L.getD i false=true:=by
    simp only[bM,bw (by omega:i<L.size),cK] at E ⊢
    simp[E]
   have c:((L.setIfInBounds i true).toList.filter (λb=>!b)).length<=fuel:=by
    have h1:L.toList[i]?=some false:=by
     rw[kt,bw (by omega:i<L.size)]
     simpa[bM,bw (by omega:i<L.size)] using C
    have:=count_set h1;rw[ly];omega
   have r:∀ j O,ops[j]?=some O->(L.setIfInBounds i true).getD j false=true->∀ e∈O.after,bd e=true->(L.setIfInBounds i true).getD e.on false=true:=by
    intro j O u hj e J z;rw[bh (by omega)] at hj ⊢
    rcases hj with rfl|hj
    ·rw[g] at u;cases u;exact .inr (l e J z)
    ·exact .inr (A j O u hj e J z)
   have B:bg N σ s (iO ops.toList φ x i) a:=mK (h.zX x i o g) p l
   by_cases w:i=m
   ·subst w;have:=h.qw o g s a B hh b kk cs K i (Region.linearise.go .any ops fuel (t / (Region.ready .any ops L).length) (L.setIfInBounds i true) []) z (by simpa using g)
    simp only[gi] at this;exact this λj v s' hv ia jO=>h.FE z j (λs a=>T j s a) fuel _ (by simp[I]) c ((bh (by omega)).2 (.inl rfl)) (by rw[bh (by omega)];rintro(e|e);exact h.NG e;have:=F _ e;rw[h.C1] at this;cases this) r s' _
     (fp (λd R=>h.nd i o d g R) h.jN g (by omega) (λk y=>h.same j k (F k y)) hh.len jO p hv) ia (st.trans jO) _
   ·have n:pre i=true:=by
     cases n:pre i with
     |true=>rfl
     |false =>
      obtain⟨e,J,Q,H⟩:=h.cl i o g n w;rw[F e.on (l e J Q)] at H;cases H
    have:=h.one i o g n s a B hh b kk cs K i (Region.linearise.go .any ops fuel (t / (Region.ready .any ops L).length) (L.setIfInBounds i true) []) z (by simpa using g)
    simp only[gi] at this;refine this λv s' hv ia jO=>ih _ (by simp[I]) c ?_ ?_ r s' _
     (fp (λd R=>h.nd i o d g R) h.jN g (by omega) (λ_ _=>rfl) hh.len jO p hv) ia (st.trans jO) _
    ·rw[bh (by omega)]
     rintro(e|e)
     ·exact w e.symm
     ·exact M e
    ·intro k y;rw[bh (by omega)] at y
     rcases y with rfl|y
     ·exact n
     ·exact F k y
theorem AW.I0(hf:P.follows Departure.mixedOrders=true){all:List Oper}(m:Nat)(pre:Nat->Bool)(x:Nat->D)(f:ι->Nat->D)(σ':ι->List aj)(last:Nat)(σ2:ι->List aj)
  (H:jT all=true) (L:nH all 0=true) (O:kM N all=true) (hm:Nat.blt m all.length=true) (T:pre m=false) (V:rX pre m all 0=true) (same:∀ j i,pre i=true->f j i=x i)
  (one:∀ i o,all[i]?=some o->pre i=true->OA X N all o (iO all φ x i) σ (x i) σ)
  (two:∀ j i o,all[i]?=some o->i≠m->i≠last->OA X N all o (iO all φ (f j) i) (σ' j) (f j i) (σ' j))
  (KE:∀ j o,all[last]?=some o->OA X N all o (iO all φ (f j) last) (σ' j) (f j last) (σ2 j)) (FH:∀ i,i<all.length->i≠last->dZ i (aV (all.getD last dN).after.toList)=true∨∃ k,dZ k (aV (all.getD last dN).after.toList)=true/\dZ i (aV (all.getD k dN).after.toList)=true) (IZ:last<all.length) (C1:pre last=false) (NG:last≠m)
  (qw:∀ o,all[m]?=some o->tI X N all o (iO all φ x m) σ (λj=>f j m) σ') {Q:Post} (hQ:∀ j,Q .normal (po all φ (f j)) (σ2 j)) (id:Nat) :
  AW X N (.region id all.toArray true) Q φ σ:=by
 have g:∀ i:Nat,all.toArray[i]?=all[i]?:=λi=>by simp
 let idx:Nat->Option Nat:=λt=>(List.range all.length).find? (λi=>decide ((all.getD i dN).dst=some t))
 have q:∀ t j,idx t=some j->∃ o,all[j]?=some o/\o.dst=some t:=by
  intro t j hj;have h1:=pD hj;have h2:j<all.length:=by simpa using nZ hj
  refine⟨all[j],ai h2,?_⟩;simpa[ai h2] using h1
 have r:∀ i o d,all[i]?=some o->o.dst=some d->idx d=some i:=by
  intro i o d n M;have hi:i<all.length:=(aD.1 n).1;cases hx:idx d with
  |none =>
   have:=kW.1 hx i (by simpa using hi)
   simp[n,M] at this
  |some j =>
   obtain⟨p,Y,BK⟩:=q d j hx;rw[ko H Y n BK M]
 have z:∀ t,lQ t all=true↔∃ j,idx t=some j:=by
  intro t
  constructor
  ·intro h;obtain⟨i,o,h1,h2⟩:=je h;exact⟨i,r i o t h1 h2⟩
  ·rintro⟨j,hj⟩;obtain⟨o,h1,h2⟩:=q t j hj;exact lf h1 h2
 have E:∀ i o,all[i]?=some o->all.getD i dN=o:=λi o h=>by simp[List.getD_eq_getElem?_getD,h]
 have M:FG X N all.toArray φ σ x f σ' idx m pre last σ2:=by
  refine⟨?_,?_,?_,?_,T,?_,same,?_,?_,?_,?_,?_,λj o n=>by rw[g] at n;exact KE j o n,λo n i hi qA=>?_,by simpa using IZ,C1,NG⟩
  ·intro i o n e U W;rw[g] at n;have:=nI L i o n e.on (bG.2 ⟨e,by simpa using U,W,rfl⟩)
   omega
  ·intro i o d n M;rw[g] at n;exact⟨r i o d n M,et (lT O i o n) d M⟩
  ·intro d i h;obtain⟨o,h1,h2⟩:=q d i h;exact⟨o,by rw[g];exact h1,h2⟩
  ·have:m<all.length:=cA hm;simpa using this
  ·intro i o n Z qA;rw[g] at n;obtain⟨e,U,h1⟩:=sT V i o n (by simpa using Z) (by simpa using qA)
   obtain⟨e',q1,q2,q3⟩:=bG.1 U;exact⟨e',by simpa using q1,q2,by rw[q3];exact h1⟩
  ·intro i o n Z;rw[g] at n;exact one i o n Z
  ·intro j i o n qA hl;rw[g] at n;exact two j i o n qA hl
  ·intro o n;rw[g] at n;exact qw o n
  ·intro x i o n t σ s v G;rw[g] at n;show cd σ s v (look (iO all φ x i) t);unfold iO;rw[E i o n];rcases fj (m:=λj=>dZ j (aV o.after.toList)) (φ:=nh all φ) (t:=t) (l:=o5 all 0 x) (i:=0) with⟨j,y,h1,h2,K⟩|K
   ·rw[K];rw[iA] at h1;cases hj:all[j]? with
    |none=>simp[hj] at h1
    |some oj =>
     simp only[hj,gk,bO,hJ,aw] at h1;rw[r j oj t hj h1.1] at G;simp only at G;rw[an] at G
     ·rw[<-h1.2];exact G
     ·simp only[aw] at h2;obtain⟨e,a,b,c⟩:=bG.1 (tr h2);exact⟨e,by simpa using a,b,c⟩
   ·rw[K,eF];split
    ·trivial
    ·rename_i I
     cases A:idx t with
     |some j=>exact absurd ((z t).2 ⟨j,A⟩) I
     |none=>simpa[A] using G
  ·intro x t σ s v G;show cd σ s v (look (po all φ x) t);unfold po;rcases fj (m:=λ_=>true) (φ:=nh all φ) (t:=t) (l:=o5 all 0 x) (i:=0) with⟨j,y,h1,h2,K⟩|K
   ·rw[K];rw[iA] at h1;cases hj:all[j]? with
    |none=>simp[hj] at h1
    |some oj =>
     simp only[hj,gk,bO,hJ,aw] at h1;rw[r j oj t hj h1.1] at G;rw[<-h1.2];exact G
   ·rw[K,eF];split
    ·trivial
    ·rename_i I
     cases A:idx t with
     |some j=>exact absurd ((z t).2 ⟨j,A⟩) I
     |none=>simpa[A] using G
  ·rw[g] at n;have h1:=FH i (by simpa using hi) qA
   rw[E last o n] at h1;rcases h1 with h1|⟨k,h1,h2⟩
   ·obtain⟨e,a,b,c⟩:=bG.1 (tr h1);exact .inl ⟨e,by simpa using a,b,c⟩
   ·obtain⟨e,a,b,c⟩:=bG.1 (tr h1);obtain⟨e',a',b',c'⟩:=bG.1 (tr h2);cases hk:all[k]? with
    |none=>simp[List.getD_eq_getElem?_getD,hk,dN] at a'
    |some ok =>
     rw[E k ok hk] at a';exact .inr ⟨e,by simpa using a,b,ok,by rw[g,c];exact hk,e',by simpa using a',b',c'⟩
 intro s a zF hh b kk cs SS W Ix;refine .next rfl λF C=>?_
 have C:=X.fz C;have B:=hh.rely C;have R:=zF.rely C hh;have J:Step σ F σ { F with w:={ F.w with drawn:=F.w.drawn+1 } }:=Step.same rfl rfl rfl rfl;have S:ag σ { F with w:={ F.w with drawn:=F.w.drawn+1 } }:=B.same rfl;have Iy:=C.stepW.trans (J.lD B);refine⟨_,{ F with w:={ F.w with drawn:=F.w.drawn+1 } },#[],fi,⟨⟨σ,σ,B,S,J⟩,.nil⟩,?_⟩;simp only[Region.schedule,hf,n7,aX];refine M.FF W (s0:=s) (λj s2 a2 f2 h2 lB=>Ix .normal _ _ s2 a2 (hQ j) f2 h2 lB) all.toArray.size _ (by simp) (by simp) ?_ ?_ ?_ _ a ?_ S Iy _
 ·simp[bM,eP];split <;> simp
 ·intro i hi;simp[bM,eP] at hi;split at hi <;> simp at hi
 ·intro i o n hi;simp[bM,eP] at hi;split at hi <;> simp at hi
 ·have u:=R.mono (J.lD B) B.len;refine⟨u.size,u.defers,λt=>?_⟩
  unfold cX;cases A:idx t with
  |none=>exact u.slot t
  |some j =>
   simp only;rw[ak]
   ·exact u.slot t
   ·simp[bM,eP];split <;> simp
end
end Go.AM
namespace Go.AM
section
variable {P:Program}{X:Cx P}{N:Nat}{φ:Fr}{σ:List aj}
def FI(all:List Oper)(i:Nat):List Nat->Bool
 |[]=>false
 |k::r=>match dZ i (aV (all.getD k dN).after.toList) with|true=>true|false=>FI all i r
theorem BX{all:List Oper}{i:Nat}:∀ {l:List Nat},FI all i l=true->∃ k,k∈l/\dZ i (aV (all.getD k dN).after.toList)=true
 |[],h=>by cases h
 |k::r,h=>by
  simp only[FI] at h;cases a:dZ i (aV (all.getD k dN).after.toList) with
  |true=>exact⟨k,by simp,a⟩
  |false =>
   simp only[a] at h;obtain⟨q,c,b⟩:=BX h;exact⟨q,by simp[c],b⟩
def nK(all:List Oper):Nat->List Nat->Bool
 |0,_=>true
 |n+1,l=>match dZ n l with
  |true=>nK all n l
  |false=>match FI all n l with|true=>nK all n l|false=>false
theorem nL{all:List Oper}:∀ {n:Nat}{l:List Nat},nK all n l=true->∀ i,i<n->dZ i l=true∨∃ k,dZ k l=true/\dZ i (aV (all.getD k dN).after.toList)=true
 |0,_,_,i,hi=>by omega
 |n+1,l,h,i,hi=>by
  simp only[nK] at h;cases b:dZ n l with
  |true =>
   simp only[b] at h
   by_cases e:i=n
   ·subst e;exact .inl b
   ·exact nL h i (by omega)
  |false =>
   simp only[b] at h;cases a:FI all n l with
   |false=>simp[a] at h
   |true =>
    simp only[a] at h
    by_cases e:i=n
    ·subst e;obtain⟨k,k1,c⟩:=BX a;exact .inr ⟨k,pS k1,c⟩
    ·exact nL h i (by omega)
theorem AK.I0{ι:Type}(q:P.follows Departure.mixedOrders=true)(m last:Nat)(pre:Nat->Bool)(x:Nat->D)(y:ι->Nat->D)(σ' σ2:ι->List aj){ops:Array Oper}{id:Nat}{K:List It}{Qf:Post}
  (b:jT ops.toList=true) (a:nH ops.toList 0=true) (f:kM N ops.toList=true) (r:Nat.blt m ops.toList.length=true) (g:pre m=false) (l:rX pre m ops.toList 0=true)
  (c:Nat.beq (last+1) ops.toList.length=true) (FH:nK ops.toList last (aV (ops.toList.getD last dN).after.toList)=true) (C1:pre last=false) (NG:Nat.beq last m=false)
  (one:pa X N ops.toList φ σ x pre ops.toList 0) (two:∀ j,pb X N ops.toList φ (σ' j) (pd pre x y j) m ops.toList.dropLast 0)
  (qw:tI X N ops.toList (ops.toList.getD m dN) (iO ops.toList φ x m) σ (λj=>pd pre x y j m) σ')
  (KE:∀ j,OA X N ops.toList (ops.toList.getD last dN) (iO ops.toList φ (pd pre x y j) last) (σ' j) (y j last) (σ2 j))
  (k:∀ j,AK X N Qf K .normal (po ops.toList φ (pd pre x y j)) (σ2 j)):AK X N Qf (.code (.region id ops true)::K) .normal φ σ:=by
 have hl:=aO c;have d:last≠m:=by intro e;rw[e,gT] at NG;cases NG
 have:=AW.I0 (X:=X) (N:=N) (φ:=φ) (σ:=σ) q (all:=ops.toList) m pre x (pd pre x y) σ' last σ2 b a f r g l (λj i p=>by simp only[pd,p])
  (λi o hi p=>by have:=one.get i o hi (by rwa [aw]);rwa [aw] at this)
  (λj i o hi d t=>by
   have s:=(aD.1 hi).1;have h:ops.toList.dropLast[i]?=some o:=by rw[List.getElem?_dropLast,an (by omega)];exact hi
   have:=(two j).get i o h (by rwa [aw]);rwa [aw] at this)
  (λj o n=>by
   have:=KE j;rw[show ops.toList.getD last dN=o by simp[List.getD_eq_getElem?_getD,n]] at this
   rw[show pd pre x y j last=y j last by simp only[pd,C1]]
   exact this)
  (λi hi d=>nL FH i (by omega)) (by omega) C1 d
  (λo n=>by rw[show ops.toList.getD m dN=o by simp[List.getD_eq_getElem?_getD,n]] at qw;exact qw) (Q:=AK X N Qf K) k id
 rw[gi] at this;exact this
end
end Go.AM
namespace Go.AM
open Go.Conc (G)
section
variable {P:Program}{X:Cx P}{N:Nat}{Qf:Post}{K:List It}{φ:Fr}{σ:List aj}{all rest:List Oper}{o:Oper}
def yE(P:Program)(N:Nat)(o:Oper)(φ:Fr)(σ:List aj){ι:Type}(x:ι->D)(σ':ι->List aj):Prop :=
 ∀ s a,bg N σ s φ a->ag σ s->∃ i b s' v,(execOp a.eval o).run P s.w=.ok b s'.w/\(b=.value v∨(b=.skip/\v=undef))/\cd (σ' i) s' v (x i)/\ag (σ' i) s'/\Step σ s (σ' i) s'/\eK s ((execOp a.eval o).events P s.w #[])
theorem tI.LP{ι:Type}{x:ι->D}{σ':ι->List aj}(l:o.guard=none)(h:yE P N o φ σ x σ'):tI X N all o φ σ x σ':=by
 intro s a f hh b k cs S i rest n hi hK;refine tJ n hi (cw l) λr d=>?_
 have c:=hh.rely d;obtain⟨j,m,s',v,h1,h2,q,g,e,p⟩:=h r a (f.rely d hh) c;exact⟨m,s',v,h1,h2,⟨⟨σ,σ' j,c,g,e⟩,p⟩,hK j v s' q g (d.stepW.trans (e.lD c))⟩
theorem tI.bZ{ι:Type}{u:Operand}{xs:Array Operand}{F:Array TypeId}{f:FuncId}{cap:List C}{d:List D}{m:List aj}{σ1:ι->List aj}{res:ι->D}(n:cf X f d m res σ1)(ks:List Nat)
  (E:o.guard=none) (G:o.op=.call { callee:=.value u,args:=xs,argTypes:=F }) (v:eu (bn φ u)=some (f,cap)) (k:oI (xs.toList.map (bn φ)++fO cap)=ix ks d) (B:oD ks.length d=true)
  (x:jS ks σ=some m) (J:cy m=true) (z:∀ j,cy (σ1 j)=true) (I:dv ks=true) (A:∀ j,Nat.ble ks.length (σ1 j).length=true) :
  tI X N all o φ σ (λj=>jd (ks++mG σ.length ((σ1 j).length-ks.length)) (res j)) (λj=>dt ks (σ1 j) σ):=by
 intro s a r hh b kk cs S i rest L hi hK;have t:=cV r u;unfold eu at v;split at v
 case h_2=>cases v
 case h_1 f' Eo he =>
  cases v;rw[he] at t;have h:=eX t;generalize H:a.eval u=fv at h;cases h with
  |fn fs kU hl uX f1 f2 h1 h2 r1 r2 =>
   have y:fs=[]:=dq hl;subst y;have l:bC σ s kU (fO cap):=ky (λj c hj=>⟨f2 j,h2 j (by rw[uX];exact(aD.1 hj).1),r2 j c hj⟩) uX
   have p:bC σ s (xs.toList.map a.eval++kU) (ix ks d):=by
    rw[<-k];exact pT ((mr (cV r) xs.toList).append l)
   obtain⟨fn,q,g,e⟩:=n.1;exact qy L hi (cw E) hh (λw=>(fS G q g e H w).1) (λw=>(fS G q g e H w).2) n p B x J z I (λj=>cA (A j)) hK
set_option maxHeartbeats 1000000 in
theorem yE.fresh{x y:Operand}{E:TypeId}{J:TI}(h:oH P o x y E J){k0 k m:Nat}{tx:Bool}{es es':Nat->List C}(hs:J.size=k)(W:bn φ x=.e (.one (.c (.sl true k0 0 es))))(hy:bn φ y=.e (.one (.c (.sl tx k m es'))))(Q:0<m)
  (n:m*J.bytes<=140737488355328) (Q1:∀ i,i<m->∀ c∈es' i,tc c=true) :
  yE P N o φ σ (ι:={ q:oZ×List Value // c6 k m es' q.2 }) (λq=>.e (.one (.v (kF q.1.1 m)))) (λq=>σ++[.cx (gz E k q.1.1 m q.1.2)]):=by
 intro s ρ hf hh;obtain⟨t,t2,i,i2,ho,hi,hd,I,F⟩:=h.op;have h1:=cV hf x;rw[W] at h1;have r:=Rd.sI (k:=k0) (k':=J.size) (.inr rfl) (eX h1);have h2:=cV hf y;rw[hy] at h2;have h2:=eX h2;obtain⟨a,cap,vs,hv,uY,Ef,ht,hF,IS⟩:=r.flat;have Y:cap=0:=ht rfl;subst Y;rw[hv] at r;have L:Rd s.M (ρ.eval y) (.sl tx J.size m es'):=by rw[hs];exact h2
 obtain⟨d,T,g,f,O,Ns,A,z⟩:=gn (P:=P) (ty:=o.type) hi hd I F h.elem hh r L (by omega) (by rw[aw];exact n) h.bytes
 have S:=gM (P:=P) (ty:=o.type) hi hd I F h.elem hh r L (by omega) (by rw[aw];exact n) h.bytes
 have e0:cj 0 es es'=es':=by funext i;simp[cj]
 rw[hs,aw,e0] at f;rw[hs] at A;rw[aw] at O z;have H:c6 k m es' d:=⟨f.len,f.width,λi hi j c hj=>by
  obtain⟨u,R,V⟩:=f.rd i hi j c hj;exact⟨u,R,λM=>om (Q1 i hi c (aE hj)) V⟩⟩
 have B:∀ x∈d,cg x=true:=λx W=>by
  obtain⟨p,hp,rfl⟩:=cJ W;have hk:0<k:=by have:=h.size;omega
  have Z:=f.len;have hi:p / k<m:=pv (by rw[iX,<-Z];exact hp)
  have U:p / k*k+p % k=p:=py p k;have hj:p % k<(es' (p / k)).length:=by rw[f.width _ hi];exact gU _ hk
  obtain⟨u,R,V⟩:=H.at' _ hi _ _ (ai hj);rw[U,ai hp] at R;cases R;exact(V s.M).cell
 let w':World:=s.w.drew.alloc (.cells (d++T).toArray E)
 have hB:dT (σ++[.cx (gz E k (.row s.w.heap.size g) m d)]) { s with w:=w',β:=s.β++[⟨.nilFunc,[s.w.heap.size]⟩] } (.cx (gz E k (.row s.w.heap.size g) m d)) ⟨.nilFunc,[s.w.heap.size]⟩:=by
  refine⟨λD=>if D=s.w.heap.size then some (.cells (d++T).toArray E (0,0)) else none,⟨rfl,B,f.len,O,Ns,T,A,rfl⟩,λD o l=>?_,λD=>?_,λD l o=>?_⟩
  ·by_cases e:D=s.w.heap.size
   ·subst e;simp only[aX] at l;cases l;exact cU s.w.drew _
   ·simp[e] at l
  ·by_cases e:D=s.w.heap.size <;> simp[e]
  ·simp at l;subst l;cases Q:s.M s.w.heap.size o with
   |none=>rfl
   |some v=>have:=hh.block Q;omega
 have Eg:w'.heap.size=s.w.heap.size+1:=by show (s.w.drew.heap.push _).size=_;simp
 have G:ag σ { s with w:=w' }/\Step σ s σ { s with w:=w' } :=
  hh.grow (by omega) (λb n=>b7 s.w.drew _ n) (λb n o=>rfl) (λb n o v Q=>by
   have:=hh.block Q;omega) rfl rfl rfl
 obtain⟨g1,g2⟩:=G.1.hO G.2 rfl hh hB (λb n=>by
   simp at n;subst n;exact⟨ar _,by show _<w'.heap.size;omega⟩)
 refine⟨⟨(.row s.w.heap.size g,d),H⟩,.value (.slice (some ⟨s.w.heap.size,0,none⟩) m g),_,_,?_,.inl rfl,Rd.val rfl,g1,g2,?_⟩
 ·rw[cu ho,hv];simp[z];rfl
 ·rw[cu ho,hv];exact dW S
theorem AK.fresh{x y:Operand}{E:TypeId}{a:TI}(h:oH P o x y E a){n k m:Nat}{tx:Bool}{es es':Nat->List C}(p:a.size=k)(d:bn φ x=.e (.one (.c (.sl true n 0 es))))(f:bn φ y=.e (.one (.c (.sl tx k m es'))))(j:0<m)
  (r:m*a.bytes<=140737488355328) (b:∀ i,i<m->∀ c∈es' i,tc c=true) (g:o.guard=none) (l:gg N o.dst=true)
  (kk:∀ q:{ q:oZ×List Value // c6 k m es' q.2 },AK X N Qf (.ops all rest::K) .normal (iP o.dst (.e (.one (.v (kF q.1.1 m)))) φ) (σ++[.cx (gz E k q.1.1 m q.1.2)])):AK X N Qf (.ops all (o::rest)::K) .normal φ σ :=
 AK.hand _ _ g l (yE.fresh h p d f j r b) kk
theorem AK.spare(E:TypeId)(k:Nat){c:Code}(kk:AK X N Qf (.code c::K) .normal φ (σ++[.cx (gz E k (.nil none) 0 [])])):AK X N Qf (.code c::K) .normal φ σ:=by
 refine AK.ghost (λs a b hh=>?_) kk
 obtain⟨d,g2⟩:=hh.hO (B:=.cx (gz E k (.nil none) 0 [])) (L:=⟨.nilFunc,[]⟩) (.refl _ _) rfl hh ⟨λ_=>none,⟨rfl,by simp,by simp,rfl,rfl⟩,by simp,by simp,by simp⟩ (by simp)
 exact⟨{ s with β:=s.β++[⟨.nilFunc,[]⟩] },rfl,⟨b.size,b.defers.imp λ_ h1=>h1.mono g2.ext,λu=>(b.slot u).mono g2.ext hh.len⟩,d,g2⟩
end
def KA(u:Value)(k m:Nat)(es:Nat->List C)(c a:C):Prop:=a=c∨(c=.val u/\a=.sl false k m es)
theorem ag.xh{σ1 σ2:List aj}{s:St}{E:TypeId}{k n:Nat}{bf:oZ}{xs:List Value}{es:Nat->List C}(hh:ag (σ1++[.cx (gz E k bf n xs)]) s)(G:c6 k n es xs){q:Nat}{E0:TypeId}{D t:Nat}{m f:Nat->List C}(I:σ1[q]?=some (.buf E0 D t m))
  (J:σ2=σ1.set q (.buf E0 D t f)) (V:tK σ2.length σ2=true) (hw:∀ i,i<t->(f i).length=(m i).length) (hc:∀ i,i<t->∀ (j:Nat) (Q:C),(f i)[j]?=some Q->∃ c,(m i)[j]?=some c/\KA (kF bf n) k n es c Q) :
  ∃ s2:St,ag σ2 s2/\dX s s2/\(∀ v d,cd (σ1++[.cx (gz E k bf n xs)]) s v d->tj σ2.length d=true->cd σ2 s2 v d)/\∀ {σ0:List aj} {s0:St},bo σ0 s0 (σ1++[.cx (gz E k bf n xs)]) s->σ0.length<=σ2.length->bo σ0 s0 σ2 s2:=by
 have p:q<σ1.length:=(aD.1 I).1;have hB:(σ1++[aj.cx (gz E k bf n xs)])[σ1.length]?=some (.cx (gz E k bf n xs)):=by simp
 obtain⟨L,M',hL,m1,m2,U,m0,m4⟩:=gz.Bx hB es (λi hi=>⟨G.wid i hi,λM j c x hj hx=>by
  obtain⟨y,y1,y2⟩:=G.at' i hi j c hj;rw[hx] at y1;cases y1;exact y2 M⟩) s hh
 obtain⟨F,q2⟩:=hh.iv (M':=M') (w':=s.w) (B':=.dead) (L':=⟨L.v,[]⟩) hB hL rfl (ar _) (λ_ _ _=>rfl) (λb _ g o=>m2 b g o) m1 U (by simp) rfl rfl rfl ab
 have O:(σ1++[aj.cx (gz E k bf n xs)]).set σ1.length .dead=σ1++[.dead]:=by simp
 rw[O] at F q2;have H:(σ1++[aj.dead])[q]?=some (.buf E0 D t m):=by rw[bc p];exact I
 have A:=F.len;have a:=ai (l:=s.β.set σ1.length ⟨L.v,[]⟩) (i:=q) (by
  have:(s.β.set σ1.length ⟨L.v,[]⟩).length=(σ1++[aj.dead]).length:=A;simp at this ⊢;omega)
 generalize (s.β.set σ1.length ⟨L.v,[]⟩)[q]'_=L0 at a;have S:=F.box q _ L0 H a;have B:gD (.buf E0 D t m) L0 (.buf E0 D t f) L0:=⟨λ_=>rfl,ar _⟩
 have z:(s.β.set σ1.length ⟨L.v,[]⟩).set q L0=s.β.set σ1.length ⟨L.v,[]⟩:=by
  apply jK
  intro i
  by_cases e:q=i
  ·subst e;rw[bk (by have:=(aD.1 a).1;exact this),a]
  ·rw[b6 e]
 obtain⟨r1,r2⟩:=F.iv (M':=M') (w':=s.w) (B':=.buf E0 D t f) (L':=L0) H a B (ar _) (λ_ _ _=>rfl) (λ_ _ _ _=>rfl) (λ_ _ _ h=>h) U
  (λb g=>⟨.inl g,F.lt L0 (aE a) b g⟩) rfl rfl rfl (by
   rcases S with⟨e1,e2⟩|⟨b,c0,vs,zs,e1,e2,e3,e4,e5,Y,e6⟩
   ·exact .inl ⟨e1,e2⟩
   ·refine .inr ⟨b,c0,vs,zs,e1,e2,e3,e4,e5,⟨Y.len,λi hi=>by rw[hw i hi];exact Y.width i hi,λi hi j Q hj=>?_⟩,e6⟩
    obtain⟨c,Z,W⟩:=hc i hi j Q hj;obtain⟨u,u1,u2⟩:=Y.rd i hi j c Z;refine⟨u,u1,?_⟩;rcases W with rfl|⟨rfl,rfl⟩
    ·exact u2
    ·rw[Rd.fD u2];exact m4)
 have R:(σ1++[aj.dead]).set q (.buf E0 D t f)=σ2++[.dead]:=by rw[List.set_append_left _ _ p,J]
 rw[R] at r1 r2;have st:=q2.trans r2;refine⟨_,r1.drop (rest:=[.dead]) V,⟨rfl,m1,λb g o=>m2 b (g L (aE hL)) o,U,λb g=>?_⟩,λv d r hd=>(r.mono st.ext hh.len).drop (rest:=[.dead]) hd,λ{σ0 s0} T B=>(T.trans (st.lD hh)).drop (rest:=[.dead]) B⟩
 rcases g with g|⟨L',gf,g⟩
 ·exact .inl g
 ·have h1:=gH gf;rw[z] at h1;rcases oQ h1 with h|rfl
  ·exact .inr ⟨L',h,g⟩
  ·simp at g
theorem cf.xh{P:Program}{ι:Type}{X:Cx P}{f:FuncId}{args:List D}{σ:List aj}{res:ι->D}{σ1 σ2:ι->List aj}{E k n:Nat}{bf:ι->oZ}{xs:ι->List Value}{es:Nat->List C}(h:cf X f args σ res (λi=>σ1 i++[.cx (gz E k (bf i) n (xs i))]))
  (r:∀ i,c6 k n es (xs i)) (w:Nat) {E0:TypeId} {t l:Nat} {b:ι->Nat->List C} {a:Nat->List C} (m:∀ i,(σ1 i)[w]?=some (.buf E0 t l (b i)))
  (d:∀ i,σ2 i=(σ1 i).set w (.buf E0 t l a)) (p:∀ i,tK (σ2 i).length (σ2 i)=true) (e:∀ i,tj (σ2 i).length (res i)=true) (g:∀ i,σ.length<=(σ2 i).length)
  (x:∀ i q,q<l->(a q).length=(b i q).length) (y:∀ i q,q<l->∀ (j:Nat) (u:C),(a q)[j]?=some u->∃ c,(b i q)[j]?=some c/\KA (kF (bf i) n) k n es c u):cf X f args σ res σ2:=by
 refine⟨h.1,λs vs hr hh S cs hS=>h.2 s vs hr hh S cs λi fr v s' hl mo ia st=>?_⟩
 obtain⟨s2,z,c2,c3,c4⟩:=ia.xh (r i) (m i) (d i) (p i) (x i) (y i);exact .ghost c2 (hS i fr v s2 (hl.mono c2.mem) (c3 v _ mo (e i)) z (c4 st (g i)))
end Go.AM
namespace Go.AM.R1
open Go.Proofs
variable {X:Cx Tryz.prog}
def Cm(b:Nat->Int):Nat->List C:=λi=>[.int .u8 (b i)]
def Bytes(b:Nat->Int):Prop:=∀ i,0<=b i/\b i<=255
abbrev jY(m:Nat)(b:Nat->Int) (k:Int):aj:=.cells 74 [.c (.sl false 1 m (Cm b)),.c (.int .i64 k)]
theorem cf.m7{ι:Type}{f:FuncId}{fn:Func}{c:Code}{args:List D}{σ:List aj}{σ':ι->List aj}{res:ι->D}(d:Tryz.prog.funcs[f]?=some fn)(b:(fn.name== "runtime.NumGoroutine")=false)(g:fn.body=some c)(a:Nat.ble args.length fn.ntmps=true)
  (h:Fits args σ->AK X fn.ntmps (λe φ σ1=>∃ j,cv fn σ.length (res j) (σ' j) e φ σ1) [.code c] .normal (iy 0 args) σ):cf X f args σ res σ' :=
 cf.Ai d b g a λi=>AW.top (AK.of_code (h i))
theorem AK.jF{ι:Type}{fn:Func}{a:Nat}{res:ι->D}{σ':ι->List aj}{N:Nat}{φ:Fr}{σ:List aj}{K:List It}(i:ι)(k:AK X N (cv fn a (res i) (σ' i)) K .normal φ σ):AK X N (λe φ σ1=>∃ j,cv fn a (res j) (σ' j) e φ σ1) K .normal φ σ :=
 AK.gE (λ_ _ _ q=>⟨i,q⟩) k
def fR(m:Nat)(b:Nat->Int)(k:Nat) (n:Int):Int :=
 if m=0 then 0 else if k<m then b k % n else
  ((b ((k:Int) % m).toNat*131+b (((k:Int)*7+3) % m).toNat*1117+k*29+(k:Int) / m*53).toNat ^^^ ((b ((k:Int) % m).toNat*131+b (((k:Int)*7+3) % m).toNat*1117+k*29+(k:Int) / m*53) / 64).toNat:Nat) % n
set_option maxRecDepth 20000 in
theorem iK(m:Nat)(b:Nat->Int)(g:Bytes b)(k:Nat) (n:Int)(r:k<=1000000)(q:m<=1048576)(t:1<=n/\n<=1000000) :
  Ev X 29 [.e (.one (.ptr 0 0)),dI n] [jY m b k] (dI (fR m b k n)) [jY m b (k+1)]:=by
 refine Ev.body Tryz.func29 rfl rfl rfl λo=>?_
 have f:∀ j,j<([jY m b k]:List aj).length->([0]:List Nat)[j]?=some j:=λj l=>by
  have:j=0:=by simpa using l
  subst this;rfl
 by_cases d:m=0
 ·subst d;refine aq [(17,false),(24,true)] 100 rfl ?_ (AK.cZ [0] rfl ?_ rfl rfl rfl f)
  ·simp[aa,aJ];omega
  ·simp[aa,fR]
 have c:((k:Int)+1-1)=k:=by omega
 have i:((k:Int)+1-1).toNat=k:=by omega
 have h:=g k
 by_cases s:(k:Int)<m
 ·refine aq [(17,false),(24,false),(36,true)] 100 rfl ?_ (AK.cZ [0] rfl ?_ rfl rfl rfl f)
  ·simp only[aa,c,aF,av,aZ,cD,aJ];omega
  ·have:k<m:=by omega
   simp[aa,fR,d,this]
 ·refine aq [(17,false),(24,false),(36,false)] 200 rfl ?_ (AK.cZ [0] rfl ?_ rfl rfl rfl f)
  ·simp only[aa,c,aZ,cD,aJ];have a:(0:Int)<m:=by omega
   have z:=pE (k:Int) (by omega:(m:Int)≠0)
   have A:=px (k:Int) a;have v1:=pE ((k:Int)*7+3) (by omega:(m:Int)≠0)
   have p:=px ((k:Int)*7+3) a;have w1:0<=(k:Int) / m:=Int.ediv_nonneg (by omega) (by omega)
   have w2:(k:Int) / m<=k:=Int.ediv_le_self _ (by omega)
   generalize (k:Int) % m=u at *;generalize ((k:Int)*7+3) % m=v at *;generalize (k:Int) / m=w at *;have B:=g u.toNat;have C:=g v.toNat;generalize b u.toNat=x at *;generalize b v.toNat=y at *;omega
  ·have:¬k<m:=by omega
   simp[aa,fR,d,this,c]
theorem ig(m:Nat)(b:Nat->Int)(k:Nat) (n:Int)(a:1<=n):0<=fR m b k n/\fR m b k n<n:=by
 unfold fR;split
 ·omega
 ·split
  ·exact⟨pE _ (by omega),px _ (by omega)⟩
  ·exact⟨pE _ (by omega),px _ (by omega)⟩
theorem gY(m:Nat)(b:Nat->Int)(c:Bytes b)(k:Nat) (n:Int)(d:k<=1000000)(f:m<=1048576)(a:1<=n/\n<=1000000) :
  cf (ι:={ v:Int // 0<=v/\v<n }) X 29 [.e (.one (.ptr 0 0)),dI n] [jY m b k] (λv=>dI v.1) (λ_=>[jY m b (k+1)]):=by
 have h:=iK (X:=X) m b c k n d f a;exact⟨h.1,λs vs hr hh S cs hS=>h.2 s vs hr hh S cs (hS ⟨_,ig m b k n a.1⟩)⟩
def JJ(es:Nat->List C):Nat->Int:=λi=>rz (es i) 0
def SX:c7:=λargs σ=>match args,σ with
 |[.e (.one (.ptr 0 0)),.e (.one (.c (.int .i64 n)))],[.cells 74 [.c (.sl false 1 m es),.c (.int .i64 k)]] =>
  some (dI (fR m (JJ es) k.toNat n),[jY m (JJ es) (k+1)],[k=k.toNat,es=Cm (JJ es),Bytes (JJ es),k<=1000000,m<=1048576,1<=n,n<=1000000])
 |_,_=>none
theorem t29:dw X 29 SX:=by
 intro args σ res σ' obs h d;unfold SX at h;split at h
 ·rename_i n m es k
  cases h;obtain⟨b,j,g,l,i,f,a⟩:=d;have:=iK (X:=X) m (JJ es) g k.toNat n (by omega) i ⟨f,a⟩
  rw[<-b] at this;have e:aj.cells 74 [A.c (C.sl false 1 m es),A.c (C.int IntKind.i64 k)]=jY m (JJ es) k:=by
   show _=aj.cells 74 [A.c (C.sl false 1 m (Cm (JJ es))),A.c (C.int IntKind.i64 k)];rw[<-j]
  rw[e];exact this
 ·cases h
theorem K5{o:Oper}{x y:Operand}(h:o.op=.call { callee:=.builtin .append,args:=#[x,y],argTypes:=#[54,54] }):oH Tryz.prog o x y 62 i62 :=
 ⟨⟨54,54,i54,i54,h,S7,rfl,S7,rfl⟩,Vh,by decide,by decide⟩
theorem Cq(l:List bD)(n:Nat):∀ i,i<n->∀ c∈dO.fn l i,tc c=true:=by
 intro i _ c a;have:dO.fn l i=[.int .i64 (l.getD i dO.bl).1,.str (l.getD i dO.bl).2]:=rfl;rw[this] at a;rcases dr.1 a with rfl|a
 ·rfl
 ·rcases dr.1 a with rfl|a
  ·rfl
  ·cases a
abbrev Own(l:List bD):Type:={ q:oZ×List Value // c6 2 l.length (dO.fn l) q.2 }
abbrev DR(l:List bD)(q:Own l):aj:=.cx (gz 62 2 q.1.1 l.length q.1.2)
abbrev Bc(l:List bD)(q:Own l):C:=.val (kF q.1.1 l.length)
theorem DS(l:List bD)(a:0<l.length)(h:l.length<=1000000):cf (ι:=Own l) X 69 [dO.sl l] [] (λq=>.e (.one (.c (Bc l q)))) (λq=>[DR l q]):=by
 refine cf.m7 Tryz.func69 rfl rfl rfl λg=>?_
 refine aA rfl ab ?_;refine AK.yM tok rfl rfl rfl rfl rfl rfl λb f=>?_
 cases b with
 |true=>have:=f rfl;omega
 |false =>
  refine aq [] 7 rfl ab ?_;refine AK.fresh (K5 rfl) rfl rfl rfl a (by show _*24<=_;omega) (Cq l _) rfl rfl λq=>?_
  refine aA rfl ab ?_;refine AK.jF q (AK.cZ [0] rfl ?_ rfl rfl rfl (λj d=>absurd d (by simp)))
  simp[aa]
theorem vj(p:a9)(a:0<p.2.length)(d:p.2.length<=1000000):cf (ι:=Own p.2) X 36 [AE p] [] (λq=>.e (.agg [.c (.int .i64 p.1),.c (Bc p.2 q)])) (λq=>[DR p.2 q]):=by
 refine cf.jz tok Tryz.func36 rfl rfl rfl λf=>?_
 refine aA rfl ab ?_;refine AK.bZ (DS p.2 a d) [] rfl rfl rfl rfl rfl rfl rfl (λ_=>rfl) rfl (λ_=>rfl) rfl ?_
 intro q;refine aA rfl ab ?_;refine AK.ez q [2] rfl rfl rfl rfl rfl rfl rfl rfl ?_ rfl rfl rfl rfl (λj b=>absurd b (by simp))
 simp[aa,aa.cat,au.same]
end Go.AM.R1
namespace Go.AM
open Go.Conc (G)
section
variable {P:Program}{X:Cx P}{N:Nat}{ops:Array Oper}{φ:Fr}{σ:List aj}{ι:Type}{x:Nat->D}{g:ι->Nat->D}{σ':ι->List aj}{idx:Nat->Option Nat}{m:Nat}{pre:Nat->Bool}{c:Nat}
theorem L8{L:Array Bool}{n c:Nat}(f:L.size=n)(h:∀ k,c<=k->¬L.getD k false=true):n-c<=(L.toList.filter (λb=>!b)).length:=by
 have e:(L.toList.drop c).filter (λb=>!b)=L.toList.drop c:=by
  rw[pw];intro b d;obtain⟨i,hi,rfl⟩:=cJ d;have:=h (c+i) (by omega)
  simp only[gj,fU] at hi;simp only[bM,bw (by omega:c+i<L.size),cK] at this
  simpa using this
 have a:((L.toList.drop c).filter (λb=>!b)).length<=(L.toList.filter (λb=>!b)).length:=((List.drop_sublist c L.toList).filter _).length_le
 rw[e] at a;simp at a;omega
theorem Names.OR(all:List Oper)(c:Nat):Names all (List.range' c (all.length-c)) (all.drop c):=by
 have key:∀ (l:List Oper) (n:Nat),(∀ j o,l[j]?=some o->all[n+j]?=some o)->Names all (List.range' n l.length) l:=by
  intro l
  induction l with
  |nil=>intro n _;trivial
  |cons o r a =>
   intro n h;rw[cM,List.range'_succ];refine⟨by simpa using h 0 o rfl,a (n+1) λj b hj=>?_⟩
   have:=h (j+1) b (by simpa using hj)
   rwa [show n+(j+1)=n+1+j by omega] at this
 have:=key (all.drop c) c λj o h=>by simpa[l9] using h
 simpa using this
structure Am {P:Program}(X:Cx P)(N:Nat)(ops:Array Oper)(φ:Fr)(σ:List aj){ι:Type}(x:Nat->D)(g:ι->Nat->D)(σ':ι->List aj)(idx:Nat->Option Nat)(m:Nat)(pre:Nat->Bool)(c:Nat):Prop where
 back:∀ i o,ops[i]?=some o->∀ e∈o.after,bd e=true->e.on<i
 nd:∀ i o d,ops[i]?=some o->o.dst=some d->idx d=some i/\d<N
 jN:∀ d i,idx d=some i->∃ o,ops[i]?=some o/\o.dst=some d
 has:m<ops.size
 pm:pre m=false
 cl:∀ i o,ops[i]?=some o->pre i=false->i≠m->∃ e∈o.after,bd e=true/\pre e.on=false
 same:∀ j i,pre i=true->g j i=x i
 one:∀ i o,ops[i]?=some o->pre i=true->OA X N ops.toList o (iO ops.toList φ x i) σ (x i) σ
 two:∀ j i o,ops[i]?=some o->i≠m->i<c->OA X N ops.toList o (iO ops.toList φ (g j) i) (σ' j) (g j i) (σ' j)
 qw:∀ o,ops[m]?=some o->tI X N ops.toList o (iO ops.toList φ x m) σ (λj=>g j m) σ'
 zX:∀ (x:Nat->D) i o,ops[i]?=some o->∀ t σ s v,cd σ s v (match idx t with|some j=>(if ∃ e∈o.after,bd e=true/\e.on=j then x j else .any)|none=>look φ t)->cd σ s v (look (iO ops.toList φ x i) t)
 fin:∀ (x:Nat->D) t σ s v,cd σ s v (match idx t with|some j=>x j|none=>look φ t)->cd σ s v (look (po ops.toList φ x) t)
 NH:∀ i o,ops[i]?=some o->c<=i->∀ L:Array Bool,(∀ i o,ops[i]?=some o->L.getD i false=true->∀ e∈o.after,bd e=true->L.getD e.on false=true)->(∀ e∈o.after,bd e=true->L.getD e.on false=true)->∀ k,k<i->L.getD k false=true
 I1:c<ops.size
 mc:m<c
 Se:∀ i,pre i=true->i<c
 L9:∀ j i,c<=i->g j i=.any
theorem BY{L:Array Bool}{i n:Nat}(a:L.size=n)(hi:i<n):L.getD i true=false↔¬L.getD i false=true:=by
 simp only[bM,bw (by omega:i<L.size),cK]
 simp
theorem Am.seq(h:Am X N ops φ σ x g σ' idx m pre c):∀ (fuel d:Nat)(L:Array Bool)(t:Nat),L.size=ops.size->c<=d->d<=ops.size->ops.size-d<=fuel->(∀ k,k<ops.size->(L.getD k false=true↔k<d)) ->
  Region.linearise.go .any ops fuel t L []=List.range' d (ops.size-d):=by
 intro fuel
 induction fuel with
 |zero =>
  intro d L t r E z A b;have:ops.size-d=0:=by omega
  rw[this,nE];rfl
 |succ fuel ih =>
  intro d L t r E z A b
  by_cases y:d=ops.size
  ·rw[tQ (λi hi=>by
    have:=(b i hi).2 (by omega)
    simp only[bM,bw (by omega:i<L.size),cK] at this ⊢
    exact this),y]
   simp
  ·rw[fQ];have a:d<ops.size:=by omega
   have u:∀ i o,ops[i]?=some o->L.getD i false=true->∀ e∈o.after,bd e=true->L.getD e.on false=true:=λi o p hi e l w=>by
    have f:=(dE.1 p).1;have h1:=(b i f).1 hi;have h2:=h.back i o p e l w;exact(b e.on (by omega)).2 (by omega)
   have s:∀ i,i∈Region.ready .any ops L->i=d:=λi hi=>by
    obtain⟨o,p,hl,B⟩:=mem_ready.1 hi;have f:=(dE.1 p).1;have F:¬i<d:=λn=>(BY r f).1 hl ((b i f).2 n)
    rcases bz d i with h1|h1
    ·have:=h.NH i o p (by omega) L u B d h1
     have:=(b d a).1 this;omega
    ·omega
   have v:d∈Region.ready .any ops L:=mem_ready.2 ⟨ops[d],bw a,(BY r a).2 (λhh=>by have:=(b d a).1 hh;omega),λe l w=>by
    have:=h.back d _ (bw a) e l w;exact(b e.on (by omega)).2 this⟩
   have q:0<(Region.ready .any ops L).length:=sc v;have j:=gU t q;rw[ai j];have e1:=s _ (bJ j);simp only[e1];rw[ih (d+1) _ _ (by simp[r]) (by omega) (by omega) (by omega) (λk C=>by
    rw[bh (by omega)]
    rw[b k C];omega)]
   rw[show ops.size-d=(ops.size-(d+1))+1 by omega,List.range'_succ]
theorem Am.FE(h:Am X N ops φ σ x g σ' idx m pre c){Q:Goroutine->St->Prop}{b:Frame}{kk:List Item}{cs:List Frame}(O:b.kind≠.early)(j:ι){s0:St}
  (hQ:∀ s a,bg N (σ' j) s (po ops.toList φ (g j)) a->ag (σ' j) s->bo σ s0 (σ' j) s->dn X Q (G (b.aT a (.inRegion ops (List.range' c (ops.size-c))::kk)) cs) s) :
  ∀ (fuel:Nat) (L:Array Bool),L.size=ops.size->(L.toList.filter (λb=>!b)).length<=fuel->L.getD m false=true->(∀ k,c<=k->¬L.getD k false=true) ->
   (∀ i o,ops[i]?=some o->L.getD i false=true->∀ e∈o.after,bd e=true->L.getD e.on false=true) ->
   ∀ (s:St) (a:Act),vu N (σ' j) s (cX φ (g j) idx L) a->ag (σ' j) s->bo σ s0 (σ' j) s ->
   ∀ t,dn X Q (G (b.aT a (.inRegion ops (Region.linearise.go .any ops fuel t L [])::kk)) cs) s:=by
 intro fuel
 induction fuel with
 |zero =>
  intro L H W R f z s a u hh st t;exact absurd (fL H W c h.I1) (f c (ar _))
 |succ fuel ih =>
  intro L H W R f z s a u hh st t;rw[fQ];cases l:(Region.ready .any ops L)[t % (Region.ready .any ops L).length]? with
  |none=>exact absurd (kL (back:=h.back) H (hX l) c h.I1) (f c (ar _))
  |some i =>
   have hi:=aE l;obtain⟨o,y,J,p⟩:=mem_ready.1 hi;have oV:i<ops.size:=(dE.1 y).1;have w:¬L.getD i false=true:=by
    simp only[bM,bw (by omega:i<L.size),cK] at J ⊢
    simp[J]
   have V:i≠m:=by rintro rfl;exact w R
   have r:((L.setIfInBounds i true).toList.filter (λb=>!b)).length<=fuel:=by
    have h1:L.toList[i]?=some false:=by
     rw[kt,bw (by omega:i<L.size)]
     simpa[bM,bw (by omega:i<L.size)] using w
    have:=count_set h1;rw[ly];omega
   have K:∀ j M,ops[j]?=some M->(L.setIfInBounds i true).getD j false=true->∀ e∈M.after,bd e=true->(L.setIfInBounds i true).getD e.on false=true:=by
    intro j M A hj e Y O;rw[bh (by omega)] at hj ⊢
    rcases hj with rfl|hj
    ·rw[y] at A;cases A;exact .inr (p e Y O)
    ·exact .inr (z j M A hj e Y O)
   have S:bg N (σ' j) s (iO ops.toList φ (g j) i) a:=mK (h.zX (g j) i o y) u p
   by_cases F:c<=i
   ·have q:=h.NH i o y F L z p;have U:i=c:=by
     rcases bz c i with h1|h1
     ·exact absurd (q c h1) (f c (ar _))
     ·omega
    subst U;have C:=h.seq (fuel+1) i L t H (ar _) (by omega) (by
     have h1:(L.toList.filter (λb=>!b)).length<=fuel+1:=W
     have h2:=L8 (n:=ops.size) (c:=i) H f;omega) (λk Z=>⟨λB=>by
      rcases bz k i with h1|h1
      ·exact h1
      ·exact absurd B (f k h1),λB=>q k B⟩)
    rw[fQ,l] at C;simp only at C ⊢;rw[C];exact hQ s a (u.yt λt σ s v E=>h.fin (g j) t σ s v (by
     unfold cX at E;cases hi:idx t with
     |none=>simpa[hi] using E
     |some k =>
      simp only[hi] at E ⊢;rcases bz k i with h1|h1
      ·rw[an (q k h1)] at E;exact E
      ·rw[h.L9 j k h1];trivial)) hh st
   have F:i<c:=by omega
   have:=h.two j i o y V F s a S hh b kk cs Q i (Region.linearise.go .any ops fuel (t / (Region.ready .any ops L).length) (L.setIfInBounds i true) []) O (by simpa using y)
   simp only[gi] at this;exact this λv s' E T I=>ih _ (by simp[H]) r ((bh (by omega)).2 (.inr R)) (λk Z=>by rw[bh (by omega)];rintro(e|e);omega;exact f k Z e) K s' _
    (fp (λd hd=>h.nd i o d y hd) h.jN y (by omega) (λ_ _=>rfl) hh.len I u E) T (st.trans I) _
theorem Am.FF(h:Am X N ops φ σ x g σ' idx m pre c){M:Goroutine->St->Prop}{b:Frame}{kk:List Item}{cs:List Frame}(A:b.kind≠.early){s0:St}
  (U:∀ j s a,bg N (σ' j) s (po ops.toList φ (g j)) a->ag (σ' j) s->bo σ s0 (σ' j) s->dn X M (G (b.aT a (.inRegion ops (List.range' c (ops.size-c))::kk)) cs) s) :
  ∀ (fuel:Nat) (L:Array Bool),L.size=ops.size->(L.toList.filter (λb=>!b)).length<=fuel->¬L.getD m false=true->(∀ i,L.getD i false=true->pre i=true) ->
   (∀ i o,ops[i]?=some o->L.getD i false=true->∀ e∈o.after,bd e=true->L.getD e.on false=true) ->
   ∀ (s:St) (a:Act),vu N σ s (cX φ x idx L) a->ag σ s->bo σ s0 σ s ->
   ∀ t,dn X M (G (b.aT a (.inRegion ops (Region.linearise.go .any ops fuel t L [])::kk)) cs) s:=by
 intro fuel
 induction fuel with
 |zero =>
  intro L J T O H B s a q hh st t;exact absurd (fL J T m h.has) O
 |succ fuel ih =>
  intro L J T O H B s a q hh st t;rw[fQ];cases r:(Region.ready .any ops L)[t % (Region.ready .any ops L).length]? with
  |none=>exact absurd (kL (back:=h.back) J (hX r) m h.has) O
  |some i =>
   have hi:=aE r;obtain⟨o,l,F,n⟩:=mem_ready.1 hi;have V:i<ops.size:=(dE.1 l).1;have E:¬L.getD i false=true:=by
    simp only[bM,bw (by omega:i<L.size),cK] at F ⊢
    simp[F]
   have f:((L.setIfInBounds i true).toList.filter (λb=>!b)).length<=fuel:=by
    have h1:L.toList[i]?=some false:=by
     rw[kt,bw (by omega:i<L.size)]
     simpa[bM,bw (by omega:i<L.size)] using E
    have:=count_set h1;rw[ly];omega
   have u:∀ j Q,ops[j]?=some Q->(L.setIfInBounds i true).getD j false=true->∀ e∈Q.after,bd e=true->(L.setIfInBounds i true).getD e.on false=true:=by
    intro j Q w hj e K A;rw[bh (by omega)] at hj ⊢
    rcases hj with rfl|hj
    ·rw[l] at w;cases w;exact .inr (n e K A)
    ·exact .inr (B j Q w hj e K A)
   have C:bg N σ s (iO ops.toList φ x i) a:=mK (h.zX x i o l) q n
   by_cases y:i=m
   ·subst y;have:=h.qw o l s a C hh b kk cs M i (Region.linearise.go .any ops fuel (t / (Region.ready .any ops L).length) (L.setIfInBounds i true) []) A (by simpa using l)
    simp only[gi] at this;exact this λj v s' hv ia jO=>h.FE A j (λs a=>U j s a) fuel _ (by simp[J]) f ((bh (by omega)).2 (.inl rfl)) (λk z=>by rw[bh (by omega)];rintro(e|e);have:=h.mc;omega;have:=h.Se k (H _ e);omega) u s' _
     (fp (λd S=>h.nd i o d l S) h.jN l (by omega) (λk z=>h.same j k (H k z)) hh.len jO q hv) ia (st.trans jO) _
   ·have p:pre i=true:=by
     cases p:pre i with
     |true=>rfl
     |false =>
      obtain⟨e,K,R,I⟩:=h.cl i o l p y;rw[H e.on (n e K R)] at I;cases I
    have:=h.one i o l p s a C hh b kk cs M i (Region.linearise.go .any ops fuel (t / (Region.ready .any ops L).length) (L.setIfInBounds i true) []) A (by simpa using l)
    simp only[gi] at this;refine this λv s' hv ia jO=>ih _ (by simp[J]) f ?_ ?_ u s' _
     (fp (λd S=>h.nd i o d l S) h.jN l (by omega) (λ_ _=>rfl) hh.len jO q hv) ia (st.trans jO) _
    ·rw[bh (by omega)]
     rintro(e|e)
     ·exact y e.symm
     ·exact O e
    ·intro k z;rw[bh (by omega)] at z
     rcases z with rfl|z
     ·exact p
     ·exact H k z
theorem AW.C2(hf:P.follows Departure.mixedOrders=true){all:List Oper}(m:Nat)(pre:Nat->Bool)(x:Nat->D)(g:ι->Nat->D)(σ':ι->List aj)(c:Nat)
  (J:jT all=true) (R:nH all 0=true) (U:kM N all=true) (W1:pre m=false) (zE:rX pre m all 0=true) (same:∀ j i,pre i=true->g j i=x i)
  (one:∀ i o,all[i]?=some o->pre i=true->OA X N all o (iO all φ x i) σ (x i) σ)
  (two:∀ j i o,all[i]?=some o->i≠m->i<c->OA X N all o (iO all φ (g j) i) (σ' j) (g j i) (σ' j))
  (NH:∀ i,c<=i->i<all.length->∀ L:Nat->Prop,(∀ i,i<all.length->L i->∀ e∈aV (all.getD i dN).after.toList,L e)->(∀ e∈aV (all.getD i dN).after.toList,L e)->∀ k,k<i->L k)
  (I1:c<all.length) (mc:m<c) (Se:∀ i,pre i=true->i<c) (L9:∀ j i,c<=i->g j i=.any)
  (qw:∀ o,all[m]?=some o->tI X N all o (iO all φ x m) σ (λj=>g j m) σ') {Q:Post} (hQ:∀ j,dM X N all (all.drop c) (Q .normal) (po all φ (g j)) (σ' j)) (id:Nat) :
  AW X N (.region id all.toArray true) Q φ σ:=by
 have f:∀ i:Nat,all.toArray[i]?=all[i]?:=λi=>by simp
 let idx:Nat->Option Nat:=λt=>(List.range all.length).find? (λi=>decide ((all.getD i dN).dst=some t))
 have q:∀ t j,idx t=some j->∃ o,all[j]?=some o/\o.dst=some t:=by
  intro t j hj;have h1:=pD hj;have h2:j<all.length:=by simpa using nZ hj
  refine⟨all[j],ai h2,?_⟩;simpa[ai h2] using h1
 have r:∀ i o d,all[i]?=some o->o.dst=some d->idx d=some i:=by
  intro i o d n S;have hi:i<all.length:=(aD.1 n).1;cases hx:idx d with
  |none =>
   have:=kW.1 hx i (by simpa using hi)
   simp[n,S] at this
  |some j =>
   obtain⟨p,Iw,BK⟩:=q d j hx;rw[ko J Iw n BK S]
 have z:∀ t,lQ t all=true↔∃ j,idx t=some j:=by
  intro t
  constructor
  ·intro h;obtain⟨i,o,h1,h2⟩:=je h;exact⟨i,r i o t h1 h2⟩
  ·rintro⟨j,hj⟩;obtain⟨o,h1,h2⟩:=q t j hj;exact lf h1 h2
 have E:∀ i o,all[i]?=some o->all.getD i dN=o:=λi o h=>by simp[List.getD_eq_getElem?_getD,h]
 have S:Am X N all.toArray φ σ x g σ' idx m pre c:=by
  refine⟨?_,?_,?_,?_,W1,?_,same,?_,?_,?_,?_,?_,λi o n RD L W2 W3 k hk=>?_,by simpa using I1,mc,Se,L9⟩
  ·intro i o n e G Z;rw[f] at n;have:=nI R i o n e.on (bG.2 ⟨e,by simpa using G,Z,rfl⟩)
   omega
  ·intro i o d n S;rw[f] at n;exact⟨r i o d n S,et (lT U i o n) d S⟩
  ·intro d i h;obtain⟨o,h1,h2⟩:=q d i h;exact⟨o,by rw[f];exact h1,h2⟩
  ·have:m<all.length:=by omega
   simpa using this
  ·intro i o n hp O;rw[f] at n;obtain⟨e,G,h1⟩:=sT zE i o n (by simpa using hp) (by simpa using O)
   obtain⟨V,q1,q2,q3⟩:=bG.1 G;exact⟨V,by simpa using q1,q2,by rw[q3];exact h1⟩
  ·intro i o n hp;rw[f] at n;exact one i o n hp
  ·intro j i o n O hl;rw[f] at n;exact two j i o n O hl
  ·intro o n;rw[f] at n;exact qw o n
  ·intro x i o n t σ s v I;rw[f] at n;show cd σ s v (look (iO all φ x i) t);unfold iO;rw[E i o n];rcases fj (m:=λj=>dZ j (aV o.after.toList)) (φ:=nh all φ) (t:=t) (l:=o5 all 0 x) (i:=0) with⟨j,y,h1,h2,H⟩|H
   ·rw[H];rw[iA] at h1;cases hj:all[j]? with
    |none=>simp[hj] at h1
    |some oj =>
     simp only[hj,gk,bO,hJ,aw] at h1;rw[r j oj t hj h1.1] at I;simp only at I;rw[an] at I
     ·rw[<-h1.2];exact I
     ·simp only[aw] at h2;obtain⟨e,a,b,c⟩:=bG.1 (tr h2);exact⟨e,by simpa using a,b,c⟩
   ·rw[H,eF];split
    ·trivial
    ·rename_i K
     cases A:idx t with
     |some j=>exact absurd ((z t).2 ⟨j,A⟩) K
     |none=>simpa[A] using I
  ·intro x t σ s v I;show cd σ s v (look (po all φ x) t);unfold po;rcases fj (m:=λ_=>true) (φ:=nh all φ) (t:=t) (l:=o5 all 0 x) (i:=0) with⟨j,y,h1,h2,H⟩|H
   ·rw[H];rw[iA] at h1;cases hj:all[j]? with
    |none=>simp[hj] at h1
    |some oj =>
     simp only[hj,gk,bO,hJ,aw] at h1;rw[r j oj t hj h1.1] at I;rw[<-h1.2];exact I
   ·rw[H,eF];split
    ·trivial
    ·rename_i K
     cases A:idx t with
     |some j=>exact absurd ((z t).2 ⟨j,A⟩) K
     |none=>simpa[A] using I
  ·rw[f] at n;refine NH i RD (aD.1 n).1 (λk=>L.getD k false=true) (λi' W4 hl e G=>?_) (λe G=>?_) k hk
   ·have T:=ai W4;rw[E i' _ T] at G;obtain⟨V,a,b,c⟩:=bG.1 G;rw[<-c];exact W2 i' _ (by rw[f];exact T) hl V (by simpa using a) b
   ·rw[E i o n] at G;obtain⟨V,a,b,c⟩:=bG.1 G;rw[<-c];exact W3 V (by simpa using a) b
 intro s a zF hh b kk cs SS Z Ix;refine .next rfl λF C=>?_
 have C:=X.fz C;have B:=hh.rely C;have W:=zF.rely C hh;have M:Step σ F σ { F with w:={ F.w with drawn:=F.w.drawn+1 } }:=Step.same rfl rfl rfl rfl;have Y:ag σ { F with w:={ F.w with drawn:=F.w.drawn+1 } }:=B.same rfl;have Iy:=C.stepW.trans (M.lD B);refine⟨_,{ F with w:={ F.w with drawn:=F.w.drawn+1 } },#[],fi,⟨⟨σ,σ,B,Y,M⟩,.nil⟩,?_⟩;simp only[Region.schedule,hf,n7,aX];refine S.FF Z (s0:=s) (λj s2 a2 f2 h2 lB=>?_) all.toArray.size _ (by simp) (by simp) ?_ ?_ ?_ _ a ?_ Y Iy _
 ·refine hQ j s2 a2 f2 h2 b kk cs SS _ Z ?_ λφ3 σ3 s3 a3 q3 f3 H IX=>Ix .normal _ _ s3 a3 q3 f3 H (lB.trans IX)
  have:=Names.OR all c;simpa using this
 ·simp[bM,eP];split <;> simp
 ·intro i hi;simp[bM,eP] at hi;split at hi <;> simp at hi
 ·intro i o n hi;simp[bM,eP] at hi;split at hi <;> simp at hi
 ·have u:=W.mono (M.lD B) B.len;refine⟨u.size,u.defers,λt=>?_⟩
  unfold cX;cases A:idx t with
  |none=>exact u.slot t
  |some j =>
   simp only;rw[ak]
   ·exact u.slot t
   ·simp[bM,eP];split <;> simp
end
end Go.AM
namespace Go.AM
def I2(p:Nat->Bool):List Nat->Bool
 |[]=>false
 |e::r=>match p e with|true=>true|false=>I2 p r
theorem BZ{p:Nat->Bool}:∀ {l:List Nat},I2 p l=true->∃ e∈l,p e=true
 |[],h=>by cases h
 |e::r,h=>by
  simp only[I2] at h;split at h
  ·rename_i f;exact⟨e,by simp,f⟩
  ·obtain⟨d,b,a⟩:=BZ h;exact⟨d,im _ b,a⟩
def tR(all:List Oper)(k:Nat):Nat->List Nat->Bool
 |0,l=>dZ k l
 |f+1,l=>match dZ k l with|true=>true|false=>I2 (λe=>tR all k f (aV (all.getD e dN).after.toList)) l
theorem qJ{all:List Oper}{k:Nat}{L:Nat->Prop}(d:∀ i,i<all.length->L i->∀ e∈aV (all.getD i dN).after.toList,L e):∀ {f:Nat}{l:List Nat},tR all k f l=true->(∀ e∈l,L e)->L k
 |0,l,h,a=>a k (tr h)
 |f+1,l,h,a=>by
  simp only[tR] at h;split at h
  ·rename_i p;exact a k (tr p)
  ·obtain⟨e,o,n⟩:=BZ h;rcases bz e all.length with b|b
   ·exact qJ d n (d e b (a e o))
   ·have:all.getD e dN=dN:=by simp[List.getD_eq_getElem?_getD,eQ b]
    rw[this] at n;exact qJ d n (λq j=>by simp[dN,aV] at j)
def tS(all:List Oper)(f:Nat)(l:List Nat):Nat->Bool
 |0=>true
 |n+1=>match tR all n f l with|true=>tS all f l n|false=>false
theorem vH{all:List Oper}{f:Nat}{l:List Nat}:∀ {n:Nat},tS all f l n=true->∀ k,k<n->tR all k f l=true
 |0,_,k,a=>by omega
 |n+1,h,k,a=>by
  simp only[tS] at h;split at h
  ·rename_i b
   by_cases e:k=n
   ·subst e;exact b
   ·exact vH h k (by omega)
  ·cases h
def xq(all:List Oper)(f:Nat):Nat->Nat->Bool
 |_,0=>true
 |i,r+1=>match tS all f (aV (all.getD i dN).after.toList) i with|true=>xq all f (i+1) r|false=>false
theorem vI{all:List Oper}{f:Nat}:∀ {i r:Nat},xq all f i r=true->∀ q,i<=q->q<i+r->tS all f (aV (all.getD q dN).after.toList) q=true
 |i,0,_,q,d,b=>by omega
 |i,r+1,h,q,d,b=>by
  simp only[xq] at h;split at h
  ·rename_i a
   by_cases e:q=i
   ·subst e;exact a
   ·exact vI h q (by omega) (by omega)
  ·cases h
section
variable {P:Program}{X:Cx P}{N:Nat}{φ:Fr}{σ:List aj}
def C3{ι:Type}(c:Nat)(pre:Nat->Bool)(x:Nat->D)(y:ι->Nat->D)(j:ι)(i:Nat):D:=match Nat.blt i c with|true=>pd pre x y j i|false=>.any
theorem AK.C2{ι:Type}(r:P.follows Departure.mixedOrders=true)(m c fuel:Nat)(pre:Nat->Bool)(x:Nat->D)(y:ι->Nat->D)(σ':ι->List aj){ops:Array Oper}{id:Nat}{K:List It}{Qf:Post}
  (d:jT ops.toList=true) (b:nH ops.toList 0=true) (f:kM N ops.toList=true) (h:pre m=false) (n:rX pre m ops.toList 0=true)
  (q:Nat.blt c ops.toList.length=true) (p:Nat.blt m c=true) (a:∀ i,pre i=true->i<c) (NH:xq ops.toList fuel c (ops.toList.length-c)=true)
  (one:pa X N ops.toList φ σ x pre ops.toList 0) (two:∀ j,pb X N ops.toList φ (σ' j) (C3 c pre x y j) m (ops.toList.take c) 0)
  (qw:tI X N ops.toList (ops.toList.getD m dN) (iO ops.toList φ x m) σ (λj=>C3 c pre x y j m) σ')
  (k:∀ j,AK X N Qf (.ops ops.toList (ops.toList.drop c)::K) .normal (po ops.toList φ (C3 c pre x y j)) (σ' j)):AK X N Qf (.code (.region id ops true)::K) .normal φ σ:=by
 have q:=cA q;have p:=cA p;have:=AW.C2 (X:=X) (N:=N) (φ:=φ) (σ:=σ) r (all:=ops.toList) m pre x (C3 c pre x y) σ' c d b f h n (λj i e=>by
   have:Nat.blt i c=true:=pq (a i e);simp only[C3,this,pd,e])
  (λi o hi e=>by have:=one.get i o hi (by rwa [aw]);rwa [aw] at this)
  (λj i o hi qA oV=>by
   have l:(ops.toList.take c)[i]?=some o:=by rw[de,an oV];exact hi
   have:=(two j).get i o l (by rwa [aw]);rwa [aw] at this)
  (λi h1 h2 L u e k s=>qJ u (vH (vI NH i h1 (by omega)) k s) e) (by omega) (by omega) a (λj i hi=>by
   have:Nat.blt i c=false:=by
    cases v:Nat.blt i c with
    |false=>rfl
    |true=>have:=cA v;omega
   simp only[C3,this])
  (λo t=>by rw[show ops.toList.getD m dN=o by simp[List.getD_eq_getElem?_getD,t]] at qw;exact qw) (Q:=AK X N Qf K) k id
 rw[gi] at this;exact this
end
end Go.AM
namespace Go.AM.R1
open Go.Proofs
variable {X:Cx Tryz.prog}
def zI(ps:List a9)(i0:Nat)(u:Value)(j:Nat):C:=if j=i0 then .val u else .sl false 2 (ps.getD j (0,[])).2.length (dO.fn (ps.getD j (0,[])).2)
def gQ(ps:List a9)(i0:Nat)(u:Value)(j:Nat):List C:=[.int .i64 (ps.getD j (0,[])).1,zI ps i0 u j]
theorem wo{ps:List a9}{i0 i:Nat}{u:Value}(h:i≠i0):au (i+1) (cj i (gQ ps i0 u) (λq=>[cP.enc (ps.getD i (0,[]))].getD q [])) (gQ ps i0 u):=λj a=>by
 unfold cj;split
 ·rfl
 ·have:j=i:=by omega
  subst this;rw[n6];simp only[gQ,zI,ak h];rfl
theorem uG{ps:List a9}{i0:Nat}{u u':Value}:au (i0+1) (cj i0 (gQ ps i0 u') (λq=>[[.int .i64 (ps.getD i0 (0,[])).1,.val u]].getD q [])) (gQ ps i0 u):=λj a=>by
 unfold cj;split
 ·simp only[gQ,zI,ak (show j≠i0 by omega)]
 ·have:j=i0:=by omega
  subst this;rw[n6];simp only[gQ,zI,an];rfl
abbrev S3:Type:=Nat×oZ×Nat×List Value
def I3(ps:List a9)(i0:Nat)(x:S3):Prop:=x.1<=ps.length/\((x.1<=i0/\x.2.2.1=0)∨(i0<x.1/\x.2.2.1=(ps.getD i0 (0,[])).2.length/\c6 2 (ps.getD i0 (0,[])).2.length (dO.fn (ps.getD i0 (0,[])).2) x.2.2.2))
abbrev S8(x:S3):aj:=.cx (gz 62 2 x.2.1 x.2.2.1 x.2.2.2)
abbrev u3(x:S3):Value:=kF x.2.1 x.2.2.1
set_option maxHeartbeats 4000000 in
theorem uH(s:az)(i0:Nat)(C:i0<s.1.length)(t:0<(s.1.getD i0 (0,[])).2.length)(E:s.1.length<=1000000)(l:∀ p∈s.1,p.2.length<=1000000)(F:s.2.1.length<=1000000)(v:mQ s)(B:s.2.2.length<=1000000) :
  cf (ι:=Own (s.1.getD i0 (0,[])).2) X 14 [eH s] [] (λ_=>.e (.agg [.bp 0 (.sl s.1.length 2 0 s.1.length),.bp 1 (.sl s.2.1.length 2 0 s.2.1.length),.c (.sl false 2 s.2.2.length (cH.fn s.2.2))]))
   (λq=>[.buf 56 2 s.1.length (gQ s.1 i0 (kF q.1.1 (s.1.getD i0 (0,[])).2.length)),.buf 39 2 s.2.1.length (cT.fn s.2.1),DR (s.1.getD i0 (0,[])).2 q]):=by
 refine cf.jz tok Tryz.func14 rfl rfl rfl λD=>?_
 have a:aY X [(36,Ci),(37,Cj)]:=.cons Gy (.cons Gz .nil);refine ah a [(1000002,true)] 100 rfl ab ?_;refine AK.lX 2 0 56 2 (cP.fn []) rfl rfl ?_;refine AK.lX 2 1 39 2 (cT.fn []) rfl rfl ?_;refine AK.spare 62 2 ?_;refine ah a [] 100 rfl ab ?_;refine AK.bA 6 (I3 s.1 i0) (λx:S3=>[(1,.e (.one (.ptr 0 0))),(2,.e (.one (.ptr 1 0))),(3,.e (.one (.ptr 2 0))),(9,cP.sl s.1),(10,dI s.1.length),(11,dI x.1)])
  (λx=>[.cells 27 [.c (.sl false 2 s.1.length (cP.fn s.1)),.c (.sl false 2 s.2.1.length (cT.fn s.2.1)),.c (.sl false 2 s.2.2.length (cH.fn s.2.2))],.cells 27 [dk,dk,dk],.cells 27 [.bp 3 (.sl x.1 2 0 x.1),.bp 4 (.sl 0 2 0 0),dk],.buf 56 2 x.1 (gQ s.1 i0 (u3 x)),.buf 39 2 0 (cT.fn []),S8 x]) (λx=>s.1.length-x.1) (0,.nil none,0,[]) rfl ?_ rfl ?_ rfl ⟨by omega,.inl ⟨by omega,rfl⟩⟩ ?_
 ·simp[aa.cat,aa,au.same]
 ·simp[aa.cat,aa,au]
 rintro⟨i,bf,m,xs⟩ ⟨hi,d⟩;simp only at hi d
 by_cases h:i<s.1.length
 ·have n:s.1.getD i (0,[])∈s.1:=by rw[List.getD_eq_getElem?_getD,ai h];exact bJ h
  have b:s.1.getD (i:Int).toNat cP.bl=s.1.getD i (0,[]):=by rw[aF];rfl
  by_cases y:i=i0
  ·subst y;have w:m=0:=by rcases d with⟨_,o⟩|⟨f,_⟩ <;> omega
   have A:=l _ n;refine ah a [(12,true),(1000005,true)] 100 rfl ?_ ?_
   ·simp only[aa,aJ,av,af,ae];and_intros <;> omega
   rw[b];generalize g:s.1.getD i (0,[])=p at *;refine AK.C2 (ι:=Own p.2) nc 3 5 4 (λk=>Nat.ble k 2) (λk=>[.e (.one (.ptr 2 0)),.e (.one (.bp 3 (.sl i 2 0 i))),AE p].getD k .any) (λq k=>[.any,.any,.any,.e (.agg [.c (.int .i64 p.1),.c (Bc p.2 q)]),.e (.one (.c (.sl true 2 1 (λj=>[[.int .i64 p.1,Bc p.2 q]].getD j []))))].getD k .any)
    (λq=>[.cells 27 [.c (.sl false 2 s.1.length (cP.fn s.1)),.c (.sl false 2 s.2.1.length (cT.fn s.2.1)),.c (.sl false 2 s.2.2.length (cH.fn s.2.2))],.cells 27 [dk,dk,dk],.cells 27 [.bp 3 (.sl i 2 0 i),.bp 4 (.sl 0 2 0 0),dk],.buf 56 2 i (gQ s.1 i (kF bf m)),.buf 39 2 0 (cT.fn []),.cx (gz 62 2 bf m xs),.cells 56 [.c (.int .i64 p.1),.c (.sl false 2 p.2.length (dO.fn p.2))],DR p.2 q])
    rfl rfl rfl rfl rfl rfl rfl (λk h=>by have:=cA h;omega) rfl
    ⟨OA.bS tok a rfl,OA.bS tok a rfl,OA.bS tok a rfl,ab,ab,ab,ab,ab,ab⟩
    (λq=>⟨OA.bS tok a rfl,OA.bS tok a rfl,OA.bS tok a rfl,ab,OA.bS tok a rfl,ab⟩)
    (tI.bZ (vj p t A) [] rfl rfl rfl rfl rfl rfl rfl (λ_=>rfl) rfl (λ_=>rfl)) λq=>?_
   refine ah a [(1000006,true)] 100 rfl ?_ ?_
   ·simp only[aa,show i56.bytes=32 from rfl,af,ae];and_intros <;> omega
   refine AK.swap 5 7 (by decide) rfl rfl (λ_ _ h=>h.1) (λ_ _ h=>h.1) ?_
   refine ah a [] 100 rfl ?_ (AK.ay (i+1,q.1.1,p.2.length,q.1.2) rfl ?_ rfl rfl rfl ?_ rfl ?_ ?_)
   ·simp only[aa,aJ,ae];omega
   ·simp[aa.cat,aa,au.same]
   ·have e:=uG (ps:=s.1) (i0:=i) (u:=kF q.1.1 p.2.length) (u':=kF bf m);rw[g] at e;simp only[aa.cat,aa,ae,af];exact⟨⟨au.same,au.same,au.same⟩,⟨au.same,au.same,au.same⟩,⟨rfl,au.same⟩,e,au.same⟩
   ·refine⟨by show i+1<=_;omega,.inr ⟨by show i<i+1;omega,?_⟩⟩
    rw[g];exact⟨rfl,q.2⟩
   ·show s.1.length-(i+1)<s.1.length-i;omega
  ·refine ah a [(12,true)] 100 rfl ?_ (AK.ay (i+1,bf,m,xs) rfl ?_ rfl rfl rfl ?_ rfl ?_ ?_)
   ·have q:=l _ n;simp only[aa,b,dO.list_fn,aJ];exact⟨by omega,ab,ab,show (i+1)*32<=_ by omega,dO.bu _,q,by omega,by omega,bx (by omega)⟩
   ·simp[aa.cat,aa,au.same]
   ·have e:=wo (ps:=s.1) (u:=kF bf m) y;simp only[aa.cat,aa,b,dO.list_fn,ae,af];exact⟨⟨au.same,au.same,au.same⟩,⟨au.same,au.same,au.same⟩,⟨rfl,au.same⟩,e,au.same⟩
   ·refine⟨by show i+1<=_;omega,?_⟩
    rcases d with⟨f,o⟩|⟨f,o⟩
    ·exact .inl ⟨by show i+1<=i0;omega,o⟩
    ·exact .inr ⟨by show i0<i+1;omega,o⟩
   ·show s.1.length-(i+1)<s.1.length-i;omega
 obtain rfl:i=s.1.length:=by omega
 obtain⟨_,w,r⟩:i0<s.1.length/\m=(s.1.getD i0 (0,[])).2.length/\c6 2 (s.1.getD i0 (0,[])).2.length (dO.fn (s.1.getD i0 (0,[])).2) xs:=by
  rcases d with⟨f,_⟩|f
  ·omega
  ·exact f
 subst w;clear d;generalize s.1.getD i0 (0,[])=p at *;refine ah a [(12,false)] 100 rfl (by simp[aa]) (AK.leaveD rfl rfl ?_)
 refine ah a [] 100 rfl ab ?_;refine AK.bA 6 (λi=>i<=s.2.1.length) (λi:Nat=>[(1,.e (.one (.ptr 0 0))),(2,.e (.one (.ptr 1 0))),(3,.e (.one (.ptr 2 0))),(24,cT.sl s.2.1),(25,dI s.2.1.length),(26,dI i)])
  (λi=>[.cells 27 [.c (.sl false 2 s.1.length (cP.fn s.1)),.c (.sl false 2 s.2.1.length (cT.fn s.2.1)),.c (.sl false 2 s.2.2.length (cH.fn s.2.2))],.cells 27 [dk,dk,dk],.cells 27 [.bp 3 (.sl s.1.length 2 0 s.1.length),.bp 4 (.sl i 2 0 i),dk],.buf 56 2 s.1.length (gQ s.1 i0 (kF bf p.2.length)),.buf 39 2 i (cT.fn (s.2.1.take i)),.cx (gz 62 2 bf p.2.length xs)]) (λi=>s.2.1.length-i) 0 rfl ?_ rfl ?_ rfl (by omega) ?_
 ·simp[aa.cat,aa,au.same]
 ·simp[aa.cat,aa,au.same,au]
 intro i hi
 by_cases h:i<s.2.1.length
 ·have n:s.2.1.getD i (0,[])∈s.2.1:=by rw[List.getD_eq_getElem?_getD,ai h];exact bJ h
  have b:s.2.1.getD (i:Int).toNat cT.bl=s.2.1.getD i (0,[]):=by rw[aF];rfl
  refine ah a [(27,true)] 100 rfl ?_ (AK.ay (i+1) rfl ?_ rfl rfl rfl ?_ rfl ?_ ?_)
  ·have q:=v _ n;simp only[aa,b,cL.list_fn,aJ];exact⟨by omega,ab,ab,show (i+1)*32<=_ by omega,cL.bu _,q.1,q.2,by omega,by omega,bx (by omega)⟩
  ·simp[aa.cat,aa,au.same]
  ·have e:=cT.fM s.2.1 h (0,[]);simp only[aa.cat,aa,b,cL.list_fn,ae,af];exact⟨⟨au.same,au.same,au.same⟩,⟨au.same,au.same,au.same⟩,⟨rfl,au.same⟩,au.same,e⟩
  ·show i+1<=_;omega
  ·omega
 obtain rfl:i=s.2.1.length:=by omega
 rw[cm];refine ah a [(27,false)] 100 rfl (by simp[aa]) (AK.leaveD rfl rfl ?_)
 refine ah a [] 100 rfl ab ?_;refine AK.aC (ur s.2.2 B) [] rfl rfl rfl rfl rfl rfl rfl rfl rfl rfl rfl ?_;refine ah a [] 100 rfl ab ?_;refine AK.ez ⟨(bf,xs),r⟩ [3,4,5] rfl rfl rfl rfl rfl rfl rfl rfl ?_ rfl rfl rfl rfl (λj z=>absurd z (by simp))
 ·simp[aa.cat,aa,au.same]
def uw{α:Type}(q:α->Bool)(l:List α):Int:=match l.findIdx? q with|some i=>i|none=>-1
theorem xM{α:Type}{q:α->Bool}{t:List α}{i:Nat}{d:α}(hi:i<t.length)(h:q (t.getD i d)=true)(a:∀ j,j<i->q (t.getD j d)=false):uw q t=i:=by
 have:t.findIdx? q=some i:=by
  rw[oP];refine⟨hi,?_,λj c=>?_⟩
  ·simpa[List.getD_eq_getElem?_getD,ai hi] using h
  ·have b:j<t.length:=by omega
   simpa[List.getD_eq_getElem?_getD,ai b] using a j c
 rw[uw,this]
theorem qS{α:Type}{q:α->Bool}{t:List α}{d:α}(a:∀ j,j<t.length->q (t.getD j d)=false):uw q t=-1:=by
 have:t.findIdx? q=none:=by
  rw[nt];intro f c;obtain⟨j,b,rfl⟩:=cJ c;simpa[List.getD_eq_getElem?_getD,ai b] using a j b
 rw[uw,this]
theorem Jv(l:List a9)(o:l.length<=1000000)(b:Nat)(cs:List C)(q:a9->Bool)(m:∀ x,x∈l->Ev X b [AE x,.e (.one (.c (.rp cs)))] [] (dB (q x)) []) :
  Ev X 71 [.e (.one (.bp 0 (.sl l.length 2 0 l.length))),.e (.one (.c (.fn (.func b) [] [.rp cs])))] [.buf 56 2 l.length (cP.fn l)] (dI (uw q l)) [.buf 56 2 l.length (cP.fn l)]:=by
 refine Ev.body Tryz.func71 rfl rfl rfl λn=>?_
 refine aA rfl ab ?_;refine AK.bA 1 (λi=>i<=l.length/\∀ j,j<i->q (l.getD j (0,[]))=false) (λi:Nat=>[(0,.e (.one (.bp 0 (.sl l.length 2 0 l.length)))),(1,.e (.one (.c (.fn (.func b) [] [.rp cs])))),(7,dI l.length),(8,dI i)]) (λ_=>[.buf 56 2 l.length (cP.fn l)]) (λi=>l.length-i) 0 rfl ?_ rfl ?_ rfl ⟨by omega,by omega⟩ ?_
 ·simp[aa.cat,aa,au.same]
 ·simp[aa.cat,aa,au.same]
 rintro i ⟨hi,a⟩
 by_cases h:i<l.length
 ·have g:l.getD i (0,[])∈l:=by rw[List.getD_eq_getElem?_getD,ai h];exact bJ h
  have k:l.getD ((0+(i:Int).toNat:Nat)) cP.bl=l.getD i (0,[]):=by simp;rfl
  refine aq [(9,true)] 100 rfl ?_ ?_
  ·simp only[aa];exact⟨ab,by omega,by omega,by omega,bx (by omega)⟩
  rw[k];refine AK.aC (m _ g) [] rfl rfl rfl rfl rfl rfl rfl rfl rfl rfl rfl ?_;cases f:q (l.getD i (0,[])) with
  |true =>
   refine aq [(16,true)] 100 rfl ?_ (AK.jP (cv.mk [0] rfl ?_ rfl rfl rfl nQ))
   ·simp[aa]
   ·simp[aa,xM h f a]
  |false =>
   refine aq [(16,false)] 100 rfl ?_ (AK.ay (i+1) rfl ?_ rfl rfl rfl ?_ rfl ?_ ?_)
   ·simp[aa,aJ];omega
   ·simp[aa.cat,aa,au.same]
   ·simp[aa.cat,aa,au.same]
   ·refine⟨by omega,λj d=>?_⟩
    rcases fE.1 d with d|rfl
    ·exact a j d
    ·exact f
   ·omega
 ·refine aq [(9,false)] 100 rfl (by simp[aa];omega) (AK.leaveD rfl rfl ?_)
  refine aA rfl ab (AK.cZ [0] rfl ?_ rfl rfl rfl nQ);simp[aa,qS (λj d=>a j (by omega))]
theorem Jw(l:List cB)(o:l.length<=1000000)(b:Nat)(cs:List C)(q:cB->Bool)(m:∀ x,x∈l->Ev X b [Cd x,.e (.one (.c (.rp cs)))] [] (dB (q x)) []) :
  Ev X 22 [.e (.one (.bp 0 (.sl l.length 2 0 l.length))),.e (.one (.c (.fn (.func b) [] [.rp cs])))] [.buf 39 2 l.length (cT.fn l)] (dI (uw q l)) [.buf 39 2 l.length (cT.fn l)]:=by
 refine Ev.body Tryz.func22 rfl rfl rfl λn=>?_
 refine aA rfl ab ?_;refine AK.bA 1 (λi=>i<=l.length/\∀ j,j<i->q (l.getD j (0,[]))=false) (λi:Nat=>[(0,.e (.one (.bp 0 (.sl l.length 2 0 l.length)))),(1,.e (.one (.c (.fn (.func b) [] [.rp cs])))),(7,dI l.length),(8,dI i)]) (λ_=>[.buf 39 2 l.length (cT.fn l)]) (λi=>l.length-i) 0 rfl ?_ rfl ?_ rfl ⟨by omega,by omega⟩ ?_
 ·simp[aa.cat,aa,au.same]
 ·simp[aa.cat,aa,au.same]
 rintro i ⟨hi,a⟩
 by_cases h:i<l.length
 ·have g:l.getD i (0,[])∈l:=by rw[List.getD_eq_getElem?_getD,ai h];exact bJ h
  have k:l.getD ((0+(i:Int).toNat:Nat)) cT.bl=l.getD i (0,[]):=by simp;rfl
  refine aq [(9,true)] 100 rfl ?_ ?_
  ·simp only[aa];exact⟨ab,by omega,by omega,by omega,bx (by omega)⟩
  rw[k];refine AK.aC (m _ g) [] rfl rfl rfl rfl rfl rfl rfl rfl rfl rfl rfl ?_;cases f:q (l.getD i (0,[])) with
  |true =>
   refine aq [(16,true)] 100 rfl ?_ (AK.jP (cv.mk [0] rfl ?_ rfl rfl rfl nQ))
   ·simp[aa]
   ·simp[aa,xM h f a]
  |false =>
   refine aq [(16,false)] 100 rfl ?_ (AK.ay (i+1) rfl ?_ rfl rfl rfl ?_ rfl ?_ ?_)
   ·simp[aa,aJ];omega
   ·simp[aa.cat,aa,au.same]
   ·simp[aa.cat,aa,au.same]
   ·refine⟨by omega,λj d=>?_⟩
    rcases fE.1 d with d|rfl
    ·exact a j d
    ·exact f
   ·omega
 ·refine aq [(9,false)] 100 rfl (by simp[aa];omega) (AK.leaveD rfl rfl ?_)
  refine aA rfl ab (AK.cZ [0] rfl ?_ rfl rfl rfl nQ);simp[aa,qS (λj d=>a j (by omega))]
theorem Jx(l:List (Int×Int))(o:l.length<=1000000)(b:Nat)(cs:List C)(q:(Int×Int)->Bool)(m:∀ x,x∈l->Ev X b [.e (.agg [.c (.int .i64 x.1),.c (.int .i64 x.2)]),.e (.one (.c (.rp cs)))] [] (dB (q x)) []) :
  Ev X 72 [cH.sl l,.e (.one (.c (.fn (.func b) [] [.rp cs])))] [] (dI (uw q l)) []:=by
 refine Ev.body Tryz.func72 rfl rfl rfl λn=>?_
 refine aA rfl ab ?_;refine AK.bA 0 (λi=>i<=l.length/\∀ j,j<i->q (l.getD j (0,0))=false) (λi:Nat=>[(0,cH.sl l),(1,.e (.one (.c (.fn (.func b) [] [.rp cs])))),(7,dI l.length),(8,dI i)]) (λ_=>[]) (λi=>l.length-i) 0 rfl ?_ rfl ?_ rfl ⟨by omega,by omega⟩ ?_
 ·simp[aa.cat,aa,au.same]
 ·simp[aa.cat,aa,au.same]
 rintro i ⟨hi,a⟩
 by_cases h:i<l.length
 ·have g:l.getD i (0,0)∈l:=by rw[List.getD_eq_getElem?_getD,ai h];exact bJ h
  have k:l.getD (((i:Int).toNat)) cH.bl=l.getD i (0,0):=by simp;rfl
  refine aq [(9,true)] 100 rfl ?_ ?_
  ·simp only[aa];exact⟨by omega,by omega,bx (by omega)⟩
  rw[k];refine AK.aC (m _ g) [] rfl rfl rfl rfl rfl rfl rfl rfl rfl rfl rfl ?_;cases f:q (l.getD i (0,0)) with
  |true =>
   refine aq [(16,true)] 100 rfl ?_ (AK.jP (cv.mk [] rfl ?_ rfl rfl rfl mP))
   ·simp[aa]
   ·simp[aa,xM h f a]
  |false =>
   refine aq [(16,false)] 100 rfl ?_ (AK.ay (i+1) rfl ?_ rfl rfl rfl ?_ rfl ?_ ?_)
   ·simp[aa,aJ];omega
   ·simp[aa.cat,aa,au.same]
   ·simp[aa.cat,aa,au.same]
   ·refine⟨by omega,λj d=>?_⟩
    rcases fE.1 d with d|rfl
    ·exact a j d
    ·exact f
   ·omega
 ·refine aq [(9,false)] 100 rfl (by simp[aa];omega) (AK.leaveD rfl rfl ?_)
  refine aA rfl ab (AK.cZ [] rfl ?_ rfl rfl rfl mP);simp[aa,qS (λj d=>a j (by omega))]
theorem pg{α:Type}(q:α->Bool)(l:List α):(uw q l=-1/\∀ x∈l,q x=false)∨∃ i:Nat,i<l.length/\uw q l=i/\(∀ x∈l.take i,q x=false)/\(∀ x,l[i]?=some x->q x=true):=by
 unfold uw;cases h:l.findIdx? q with
 |none=>exact .inl ⟨rfl,by simpa using nt.1 h⟩
 |some i =>
  rw[oP] at h;obtain⟨hi,c,e⟩:=h;refine .inr ⟨i,hi,rfl,λx a=>?_,λx a=>?_⟩
  ·obtain⟨j,d,rfl⟩:=cJ a;have b:j<i:=by simp at d;omega
   simpa using e j b
  ·rw[ai hi] at a;cases a;exact c
theorem ph{lo hi j:Nat}{z:List C}{es:Nat->List C}(h:¬(lo<=j/\j<hi)):nC lo hi z es j=es j:=ak h
theorem bt{α:Type}{l:List α}{i:Nat}(h:i<l.length)(d:α):l.take (i+1)=l.take i++[l.getD i d]:=by
 rw[g7];simp[List.getD_eq_getElem?_getD,ai h]
theorem j9{α:Type}{l:List α}{q:α->Bool}{i:Nat}(hi:i<l.length)(b:∀ x∈l.take i,q x=false)(c:∀ x,l[i]?=some x->q x=true):(l.take (i+1)).filter (λx=>!q x)=l.take i:=by
 have a:=c _ (ai hi);rw[g7,kX,pw.2 λx a=>by simp[b x a],ai hi]
 simp[a]
theorem _root_.Go.AM.gN.uv{α:Type}(c:gN α)(l:List α)(i:Nat)(x:α)(n:Nat)(a:n<=l.length):au n (mY i (c.enc x) (c.fn l)) (c.fn (l.set i x)):=by
 intro q b;simp only[mY,gN.fn,qT]
 by_cases e:q=i
 ·subst e;rw[an rfl];simp[List.getD_eq_getElem?_getD,bk (by omega:q<l.length)]
 ·rw[ak e,List.getD_eq_getElem?_getD,List.getD_eq_getElem?_getD,b6 (λh=>e h.symm)]
structure SP (l:List a9)(q:a9->Bool)(j:Nat)(ys:List a9):Prop where
 hj:j<=l.length
 len:ys.length=l.length
 done:ys.take ((l.take j).filter λx=>!q x).length=(l.take j).filter λx=>!q x
 rest:∀ i,j<=i->ys[i]?=l[i]?
set_option maxHeartbeats 1000000 in
theorem Jy(l:List a9)(y:l.length<=1000000)(b:Nat)(cs:List C)(q:a9->Bool)(u:∀ x,x∈l->Ev X b [AE x,.e (.one (.c (.rp cs)))] [] (dB (q x)) []) :
  cf (ι:={ es:Nat->List C // ∀ i,i<(l.filter λx=>!q x).length->es i=cP.fn (l.filter λx=>!q x) i }) X 40 [.e (.one (.bp 0 (.sl l.length 2 0 l.length))),.e (.one (.c (.fn (.func b) [] [.rp cs])))] [.buf 56 2 l.length (cP.fn l)]
   (λ_=>.e (.one (.bp 0 (.sl l.length 2 0 (l.filter λx=>!q x).length)))) (λes=>[.buf 56 2 l.length es.1]):=by
 refine cf.m7 Tryz.func40 rfl rfl rfl λA=>?_
 refine aA rfl ab ?_;refine AK.aC (Jv l y b cs q u) [0] rfl rfl rfl rfl rfl rfl rfl rfl rfl rfl rfl ?_;rcases pg q l with⟨r,o⟩|⟨i0,m,r,o,t⟩
 ·rw[r];have n:l.filter (λx=>!q x)=l:=pw.2 λx p=>by simp[o x p]
  refine aq [(12,true)] 100 rfl (by simp[aa]) (AK.jF ⟨cP.fn l,λi _=>by rw[n]⟩ (AK.cZ [0] rfl ?_ rfl rfl rfl nQ))
  simp[aa,n]
 rw[r];refine aq [(12,false)] 100 rfl ?_ ?_
 ·simp[aa,aJ];omega
 refine AK.bA 1 (λs:Nat×List a9=>SP l q s.1 s.2) (λs=>[(0,.e (.one (.bp 0 (.sl l.length 2 0 l.length)))),(1,.e (.one (.c (.fn (.func b) [] [.rp cs])))),(5,dI ((l.take s.1).filter λx=>!q x).length),(6,dI s.1)])
  (λs=>[.buf 56 2 l.length (cP.fn s.2)]) (λs=>l.length-s.1) (i0+1,l) rfl ?_ rfl ?_ rfl ?_ ?_
 ·have e:((l.take (i0+1)).filter λx=>!q x).length=i0:=by rw[j9 m o t];simp;omega
  simp[aa.cat,aa,au.same,e]
 ·simp[aa.cat,aa,au.same]
 ·have e:=j9 m o t;refine⟨by omega,rfl,?_,λ_ _=>rfl⟩
  simp only;rw[e];simp[sD]
 rintro⟨j,d⟩ ⟨w,g2,g3,g4⟩;simp only at w g2 g3 g4
 by_cases h:j<l.length
 ·have p:l.getD j (0,[])∈l:=by rw[List.getD_eq_getElem?_getD,ai h];exact bJ h
  have f:((l.take j).filter λx=>!q x).length<=j:=er (ik _ _) (by simp;omega)
  have z:d.getD (0+(j:Int).toNat) cP.bl=l.getD j (0,[]):=by
   rw[aw,aF,List.getD_eq_getElem?_getD,g4 j (ar _),<-List.getD_eq_getElem?_getD];rfl
  refine aq [(19,true)] 100 rfl ?_ ?_
  ·simp only[aa];exact⟨ab,by omega,by omega,by omega,bx (by omega)⟩
  rw[z];refine AK.aC (u _ p) [] rfl rfl rfl rfl rfl rfl rfl rfl rfl rfl rfl ?_;cases g:q (l.getD j (0,[])) with
  |false =>
   have k:(l.take (j+1)).filter (λx=>!q x)=(l.take j).filter (λx=>!q x)++[l.getD j (0,[])]:=by
    rw[bt h (0,[]),kX,su,g];rfl
   refine aq [(29,true)] 100 rfl ?_ (AK.ay (j+1,d.set ((l.take j).filter λx=>!q x).length (l.getD j (0,[]))) rfl ?_ rfl rfl rfl ?_ rfl ?_ ?_)
   ·simp only[aa,aJ];exact⟨by omega,by omega,ab,by omega,by omega,by omega,rfl⟩
   ·simp[aa.cat,aa,k]
   ·have e:=cP.uv d ((l.take j).filter λx=>!q x).length (l.getD j (0,[])) l.length (by omega)
    have v:0+((((l.take j).filter λx=>!q x).length:Nat):Int).toNat=((l.take j).filter λx=>!q x).length:=by omega
    simp only[aa.cat,aa,v,ae,af];exact e
   ·refine⟨by simp only;omega,by simp[g2],?_,λi hi=>?_⟩
    ·simp only;rw[k,ba,show ∀ a,[a].length=1 fromλ_=>rfl,g7,List.take_set,wE (by simp;omega),g3,bk (by omega)]
     rfl
    ·simp only at hi ⊢;rw[b6 (by omega)]
     exact g4 i (by omega)
   ·simp only;omega
  |true =>
   have k:(l.take (j+1)).filter (λx=>!q x)=(l.take j).filter (λx=>!q x):=by
    rw[bt h (0,[]),kX,su,g];simp
   refine aq [(29,false)] 100 rfl ?_ (AK.ay (j+1,d) rfl ?_ rfl rfl rfl ?_ rfl ?_ ?_)
   ·simp[aa,aJ];omega
   ·simp[aa.cat,aa,au.same,k]
   ·simp[aa.cat,aa,au.same]
   ·refine⟨by simp only;omega,g2,by simp only;rw[k];exact g3,λi hi=>g4 i (by simp only at hi;omega)⟩
   ·simp only;omega
 ·obtain rfl:j=l.length:=by omega
  rw[cm] at g3 ⊢;have f:(l.filter λx=>!q x).length<=l.length:=ik _ _
  refine aq [(19,false)] 100 rfl (by simp[aa]) (AK.leaveD rfl rfl ?_)
  refine aA rfl ?_ ?_
  ·simp only[aa];exact⟨by omega,by omega⟩
  refine AK.law (aM.zW tok rfl rfl rfl rfl rfl rfl ?_) rfl rfl ?_
  ·simp only[bT,aF];omega
  refine aA rfl ?_ (AK.jF ⟨nC (0+bT 0 (some ((l.filter λx=>!q x).length:Int))) (0+bT 0 (some ((l.filter λx=>!q x).length:Int))+(bT l.length none-bT 0 (some ((l.filter λx=>!q x).length:Int)))) i56.zero (cP.fn d),λi hi=>?_⟩ (AK.cZ [0] rfl ?_ rfl rfl rfl nQ))
  ·simp only[aa];exact⟨by omega,by omega⟩
  ·have e:d[i]?=(l.filter λx=>!q x)[i]?:=by rw[<-g3,de,an hi]
   refine(ph (by simp only[bT,aF];omega)).trans ?_
   simp only[gN.fn,qT,List.getD_eq_getElem?_getD,e]
  ·simp[aa,bT];rfl
structure SQ (l:List cB)(q:cB->Bool)(j:Nat)(ys:List cB):Prop where
 hj:j<=l.length
 len:ys.length=l.length
 done:ys.take ((l.take j).filter λx=>!q x).length=(l.take j).filter λx=>!q x
 rest:∀ i,j<=i->ys[i]?=l[i]?
set_option maxHeartbeats 1000000 in
theorem Jz(l:List cB)(y:l.length<=1000000)(b:Nat)(cs:List C)(q:cB->Bool)(u:∀ x,x∈l->Ev X b [Cd x,.e (.one (.c (.rp cs)))] [] (dB (q x)) []) :
  cf (ι:={ es:Nat->List C // ∀ i,i<(l.filter λx=>!q x).length->es i=cT.fn (l.filter λx=>!q x) i }) X 43 [.e (.one (.bp 0 (.sl l.length 2 0 l.length))),.e (.one (.c (.fn (.func b) [] [.rp cs])))] [.buf 39 2 l.length (cT.fn l)]
   (λ_=>.e (.one (.bp 0 (.sl l.length 2 0 (l.filter λx=>!q x).length)))) (λes=>[.buf 39 2 l.length es.1]):=by
 refine cf.m7 Tryz.func43 rfl rfl rfl λA=>?_
 refine aA rfl ab ?_;refine AK.aC (Jw l y b cs q u) [0] rfl rfl rfl rfl rfl rfl rfl rfl rfl rfl rfl ?_;rcases pg q l with⟨r,o⟩|⟨i0,m,r,o,t⟩
 ·rw[r];have n:l.filter (λx=>!q x)=l:=pw.2 λx p=>by simp[o x p]
  refine aq [(12,true)] 100 rfl (by simp[aa]) (AK.jF ⟨cT.fn l,λi _=>by rw[n]⟩ (AK.cZ [0] rfl ?_ rfl rfl rfl nQ))
  simp[aa,n]
 rw[r];refine aq [(12,false)] 100 rfl ?_ ?_
 ·simp[aa,aJ];omega
 refine AK.bA 1 (λs:Nat×List cB=>SQ l q s.1 s.2) (λs=>[(0,.e (.one (.bp 0 (.sl l.length 2 0 l.length)))),(1,.e (.one (.c (.fn (.func b) [] [.rp cs])))),(5,dI ((l.take s.1).filter λx=>!q x).length),(6,dI s.1)])
  (λs=>[.buf 39 2 l.length (cT.fn s.2)]) (λs=>l.length-s.1) (i0+1,l) rfl ?_ rfl ?_ rfl ?_ ?_
 ·have e:((l.take (i0+1)).filter λx=>!q x).length=i0:=by rw[j9 m o t];simp;omega
  simp[aa.cat,aa,au.same,e]
 ·simp[aa.cat,aa,au.same]
 ·have e:=j9 m o t;refine⟨by omega,rfl,?_,λ_ _=>rfl⟩
  simp only;rw[e];simp[sD]
 rintro⟨j,d⟩ ⟨w,g2,g3,g4⟩;simp only at w g2 g3 g4
 by_cases h:j<l.length
 ·have p:l.getD j (0,[])∈l:=by rw[List.getD_eq_getElem?_getD,ai h];exact bJ h
  have f:((l.take j).filter λx=>!q x).length<=j:=er (ik _ _) (by simp;omega)
  have z:d.getD (0+(j:Int).toNat) cT.bl=l.getD j (0,[]):=by
   rw[aw,aF,List.getD_eq_getElem?_getD,g4 j (ar _),<-List.getD_eq_getElem?_getD];rfl
  refine aq [(19,true)] 100 rfl ?_ ?_
  ·simp only[aa];exact⟨ab,by omega,by omega,by omega,bx (by omega)⟩
  rw[z];refine AK.aC (u _ p) [] rfl rfl rfl rfl rfl rfl rfl rfl rfl rfl rfl ?_;cases g:q (l.getD j (0,[])) with
  |false =>
   have k:(l.take (j+1)).filter (λx=>!q x)=(l.take j).filter (λx=>!q x)++[l.getD j (0,[])]:=by
    rw[bt h (0,[]),kX,su,g];rfl
   refine aq [(29,true)] 100 rfl ?_ (AK.ay (j+1,d.set ((l.take j).filter λx=>!q x).length (l.getD j (0,[]))) rfl ?_ rfl rfl rfl ?_ rfl ?_ ?_)
   ·simp only[aa,aJ];exact⟨by omega,by omega,ab,by omega,by omega,by omega,rfl⟩
   ·simp[aa.cat,aa,k]
   ·have e:=cT.uv d ((l.take j).filter λx=>!q x).length (l.getD j (0,[])) l.length (by omega)
    have v:0+((((l.take j).filter λx=>!q x).length:Nat):Int).toNat=((l.take j).filter λx=>!q x).length:=by omega
    simp only[aa.cat,aa,v,ae,af];exact e
   ·refine⟨by simp only;omega,by simp[g2],?_,λi hi=>?_⟩
    ·simp only;rw[k,ba,show ∀ a,[a].length=1 fromλ_=>rfl,g7,List.take_set,wE (by simp;omega),g3,bk (by omega)]
     rfl
    ·simp only at hi ⊢;rw[b6 (by omega)]
     exact g4 i (by omega)
   ·simp only;omega
  |true =>
   have k:(l.take (j+1)).filter (λx=>!q x)=(l.take j).filter (λx=>!q x):=by
    rw[bt h (0,[]),kX,su,g];simp
   refine aq [(29,false)] 100 rfl ?_ (AK.ay (j+1,d) rfl ?_ rfl rfl rfl ?_ rfl ?_ ?_)
   ·simp[aa,aJ];omega
   ·simp[aa.cat,aa,au.same,k]
   ·simp[aa.cat,aa,au.same]
   ·refine⟨by simp only;omega,g2,by simp only;rw[k];exact g3,λi hi=>g4 i (by simp only at hi;omega)⟩
   ·simp only;omega
 ·obtain rfl:j=l.length:=by omega
  rw[cm] at g3 ⊢;have f:(l.filter λx=>!q x).length<=l.length:=ik _ _
  refine aq [(19,false)] 100 rfl (by simp[aa]) (AK.leaveD rfl rfl ?_)
  refine aA rfl ?_ ?_
  ·simp only[aa];exact⟨by omega,by omega⟩
  refine AK.law (aM.zW tok rfl rfl rfl rfl rfl rfl ?_) rfl rfl ?_
  ·simp only[bT,aF];omega
  refine aA rfl ?_ (AK.jF ⟨nC (0+bT 0 (some ((l.filter λx=>!q x).length:Int))) (0+bT 0 (some ((l.filter λx=>!q x).length:Int))+(bT l.length none-bT 0 (some ((l.filter λx=>!q x).length:Int)))) i39.zero (cT.fn d),λi hi=>?_⟩ (AK.cZ [0] rfl ?_ rfl rfl rfl nQ))
  ·simp only[aa];exact⟨by omega,by omega⟩
  ·have e:d[i]?=(l.filter λx=>!q x)[i]?:=by rw[<-g3,de,an hi]
   refine(ph (by simp only[bT,aF];omega)).trans ?_
   simp only[gN.fn,qT,List.getD_eq_getElem?_getD,e]
  ·simp[aa,bT];rfl
abbrev cQ:=Int×Int×Int×Bs
abbrev qR(l:cQ):List C:=[.int .i64 l.1,.int .i64 l.2.1,.int .i64 l.2.2.1,.str l.2.2.2]
abbrev ux(l:cQ):List A:=[.c (.int .i64 l.1),.c (.int .i64 l.2.1),.c (.int .i64 l.2.2.1),.c (.str l.2.2.2)]
abbrev fX(l:cQ):D:=.e (.agg (ux l))
abbrev xH(cs:List C):D:=.e (.one (.c (.rp cs)))
theorem Du(x:a9)(l:cQ):Ev X 41 [AE x,xH (qR l)] [] (dB (x.1==l.2.1)) []:=by
 refine Ev.body Tryz.func41 rfl rfl rfl λa=>?_
 refine aA rfl ab (AK.aK rfl ?_);simp[aa]
theorem Dv(x:Int×Int) (no:Int)(n:Nat)(es:Nat->List C):Ev X 46 [.e (.agg [.c (.int .i64 x.1),.c (.int .i64 x.2)]),xH [.int .i64 no,.sl false 2 n es]] [] (dB (x.2==no)) []:=by
 refine Ev.body Tryz.func46 rfl rfl rfl λa=>?_
 refine aA rfl ab (AK.aK rfl ?_);simp[aa]
theorem GA{α:Type}(q:α->Bool)(l:List α):decide (uw q l≥0)=l.any q:=by
 rcases pg q l with⟨a,b⟩|⟨i,hi,a,_,c⟩
 ·rw[a]
  symm
  simpa using b
 ·rw[a]
  symm
  have:=c _ (ai hi);have:l.any q=true:=List.any_eq_true.2 ⟨_,bJ hi,this⟩;rw[this];simp
theorem AT(a:List (Int×Int))(b:a.length<=1000000) (no:Int)(n:Nat)(es:Nat->List C):Ev X 45 [cH.sl a,.e (.one (.c (.fn (.func 46) [] [.rp [.int .i64 no,.sl false 2 n es]])))] [] (dB (a.any λh=>h.2==no)) []:=by
 refine Ev.body Tryz.func45 rfl rfl rfl λd=>?_
 refine aA rfl ab ?_;refine AK.aC (Jx a b 46 [.int .i64 no,.sl false 2 n es] (λh=>h.2==no) λx _=>Dv x no n es) [] rfl rfl rfl rfl rfl rfl rfl rfl rfl rfl rfl ?_
 refine aA rfl ab (AK.aK rfl ?_);simp only[aa];exact GA _ a
theorem JA(x:cB)(a:List (Int×Int))(b:a.length<=1000000):Ev X 44 [Cd x,xH [.sl false 2 a.length (cH.fn a)]] [] (dB (a.any λh=>h.2==x.1)) []:=by
 refine Ev.body Tryz.func44 rfl rfl rfl λc=>?_
 refine aq [(1000001,true)] 100 rfl ab ?_;refine AK.freeze 2 0 rfl rfl rfl ?_;refine aA rfl ab ?_;refine AK.aC (AT a b x.1 x.2.length (cL.fn x.2)) [] rfl rfl rfl rfl rfl rfl rfl rfl rfl rfl rfl ?_;refine aA rfl ab (AK.aK rfl ?_);simp[aa]
abbrev QC(f:Nat)(l:cQ):D:=.e (.one (.c (.fn (.func f) [] [.rp (qR l)])))
theorem AU(l:cQ)(h:l.1=1):Ev X 15 [fX l] [] (QC 39 l) []:=by
 refine Ev.body Tryz.func15 rfl rfl rfl λa=>?_
 refine aq [(1000001,true)] 100 rfl ab ?_;refine AK.freeze 1 0 rfl rfl rfl ?_;refine aq [(5,true)] 100 rfl (by simp[aa,h]) (AK.aK rfl ?_)
 simp[aa]
theorem uy(l:cQ)(h:l.1=2):Ev X 15 [fX l] [] (QC 42 l) []:=by
 refine Ev.body Tryz.func15 rfl rfl rfl λa=>?_
 refine aq [(1000001,true)] 100 rfl ab ?_;refine AK.freeze 1 0 rfl rfl rfl ?_;refine aq [(5,false),(8,true)] 100 rfl (by simp[aa,h]) (AK.aK rfl ?_)
 simp[aa]
theorem uz(l:cQ)(h:l.1=3):Ev X 15 [fX l] [] (QC 47 l) []:=by
 refine Ev.body Tryz.func15 rfl rfl rfl λa=>?_
 refine aq [(1000001,true)] 100 rfl ab ?_;refine AK.freeze 1 0 rfl rfl rfl ?_;refine aq [(5,false),(8,false),(11,true)] 100 rfl (by simp[aa,h]) (AK.aK rfl ?_)
 simp[aa]
theorem AS(l:cQ)(h:l.1=4):Ev X 15 [fX l] [] (QC 48 l) []:=by
 refine Ev.body Tryz.func15 rfl rfl rfl λa=>?_
 refine aq [(1000001,true)] 100 rfl ab ?_;refine AK.freeze 1 0 rfl rfl rfl ?_;refine aq [(5,false),(8,false),(11,false),(14,true)] 100 rfl (by simp[aa,h]) (AK.aK rfl ?_)
 simp[aa]
theorem AV(l:cQ)(a:l.1≠1)(d:l.1≠2)(b:l.1≠3)(f:l.1≠4):Ev X 15 [fX l] [] (.e (.one (.c (.fn (.func 49) [] [])))) []:=by
 refine Ev.body Tryz.func15 rfl rfl rfl λg=>?_
 refine aq [(1000001,true)] 100 rfl ab ?_;refine AK.freeze 1 0 rfl rfl rfl ?_;refine aq [(5,false),(8,false),(11,false),(14,false)] 100 rfl (by simp[aa,a,d,b,f]) (AK.aK rfl ?_)
 simp[aa]
abbrev SR(ps:List a9):C:=.sl false 2 ps.length (cP.fn ps)
abbrev SU(a:List cB):C:=.sl false 2 a.length (cT.fn a)
abbrev y7(a:List (Int×Int)):C:=.sl false 2 a.length (cH.fn a)
abbrev NK(s0:az)(l:cQ)(r:List aj)(a b c:A):List aj:=[.cells 27 [.c (SR s0.1),.c (SU s0.2.1),.c (y7 s0.2.2)],.cells 29 (ux l),.cells 27 [dk,dk,dk]]++r++[.cells 27 [a,b,c]]
abbrev aB(l n m:Nat):A:=.bp l (.sl n 2 0 m)
theorem GB(s:az)(l:cQ)(b:s.1.length<=1000000) :
  cf (ι:={ es:Nat->List C // ∀ i,i<(s.1.filter λx=>!(x.1==l.2.1)).length->es i=cP.fn (s.1.filter λx=>!(x.1==l.2.1)) i }) X 39 [.e (.one (.ptr 5 0)),xH (qR l)]
   (NK s l [.buf 56 2 s.1.length (cP.fn s.1),.buf 39 2 s.2.1.length (cT.fn s.2.1)] (aB 3 s.1.length s.1.length) (aB 4 s.2.1.length s.2.1.length) (.c (y7 s.2.2)))
   (λ_=>.dH []) (λes=>NK s l [.buf 56 2 s.1.length es.1,.buf 39 2 s.2.1.length (cT.fn s.2.1)] (aB 3 s.1.length (s.1.filter λx=>!(x.1==l.2.1)).length) (aB 4 s.2.1.length s.2.1.length) (.c (y7 s.2.2))):=by
 refine cf.mM Tryz.func39 rfl rfl rfl (AK.of_code ?_);refine aA rfl ab ?_;refine AK.bZ (Jy s.1 b 41 (qR l) (λx=>x.1==l.2.1) λx _=>Du x l) [3] rfl rfl rfl rfl rfl rfl rfl (λ_=>rfl) rfl (λ_=>rfl) rfl ?_
 rintro⟨es,a⟩;refine aA rfl ab ?_;exact⟨⟨es,a⟩,.inr rfl,rfl,rfl,_,_,_,rfl,rfl,rfl,ab⟩
theorem GC(σ:List aj)(h:ld σ=true)(a:A):Ev X 49 [.e (.one a)] σ (.dH []) σ:=by
 refine cf.tm (cf.mM (ι:=Unit) (res:=λ_=>.dH []) (σ':=λ_=>σ) Tryz.func49 rfl rfl rfl (AK.of_code ?_))
 refine aA rfl ab ?_;exact⟨(),.inr rfl,rfl,h,_,_,_,rfl,rfl,rfl,ab⟩
abbrev Em(s:az)(l:cQ):List aj:=NK s l [.buf 56 2 s.1.length (cP.fn s.1),.buf 39 2 s.2.1.length (cT.fn s.2.1)] (aB 3 s.1.length s.1.length) (aB 4 s.2.1.length s.2.1.length) (.c (y7 s.2.2))
def fY(n:Nat)(a:List (Int×Int))(x:cB):Bool:=(a.drop n).any λh=>h.2==x.1
theorem Dw(s:az)(l:cQ)(h:l.2.1<0∨l.2.1>s.2.2.length):Ev X 42 [.e (.one (.ptr 5 0)),xH (qR l)] (Em s l) (.dH []) (Em s l):=by
 refine cf.tm (cf.mM (ι:=Unit) (res:=λ_=>.dH []) (σ':=λ_=>Em s l) Tryz.func42 rfl rfl rfl (AK.of_code ?_))
 by_cases a:l.2.1<0
 ·refine aq [(7,true),(16,true)] 100 rfl (by simp[aa,a]) ?_
  refine AK.ret ?_;exact⟨(),.inl rfl,rfl,rfl,_,_,_,rfl,rfl,rfl,ab⟩
 ·refine aq [(7,false),(16,true)] 100 rfl (by simp[aa];omega) ?_
  refine AK.ret ?_;exact⟨(),.inl rfl,rfl,rfl,_,_,_,rfl,rfl,rfl,ab⟩
theorem _root_.Go.AM.gN.Ck{α:Type}(c:gN α)(l:List α)(n m:Nat):au m (j7 n (c.fn l)) (c.fn (l.drop n)):=λi _=>by
 simp[j7,gN.fn,qT,List.getD_eq_getElem?_getD]
abbrev Va:D:=.e (.one (.ptr 5 0))
abbrev GD(s:az)(l:cQ):C:=.sl (Iz false none) 2 (bT s.2.2.length none-bT 0 (some l.2.1)) (j7 (bT 0 (some l.2.1)) (cH.fn s.2.2))
theorem Kp(s:az)(l:cQ)(n:Nat)(a:l.2.1=n)(h:n<=s.2.2.length):aa (jc s.2.2.length (some l.2.1) none):=by
 show 0<=l.2.1/\l.2.1<=(s.2.2.length:Int);omega
set_option maxHeartbeats 1000000 in
theorem Dx(s:az)(l:cQ)(n:Nat)(b:l.2.1=n)(h:n<=s.2.2.length)(g:s.2.1.length<=1000000)(j:s.2.2.length<=1000000) :
  cf (ι:={ es:Nat->List C // ∀ i,i<(s.2.1.filter λx=>!fY n s.2.2 x).length->es i=cT.fn (s.2.1.filter λx=>!fY n s.2.2 x) i }) X 42 [.e (.one (.ptr 5 0)),xH (qR l)] (Em s l) (λ_=>.dH [])
   (λes=>NK s l [.buf 56 2 s.1.length (cP.fn s.1),.buf 39 2 s.2.1.length es.1] (aB 3 s.1.length s.1.length) (aB 4 s.2.1.length (s.2.1.filter λx=>!fY n s.2.2 x).length) (.c (.sl false 2 l.2.1.toNat (cH.fn s.2.2)))++[.dead]):=by
 refine cf.mM Tryz.func42 rfl rfl rfl (AK.of_code ?_);have d:l.2.1.toNat=n:=by omega
 refine aq [(7,false),(16,false),(1000001,true)] 100 rfl ?_ ?_
 ·simp only[aa];exact⟨fh (by omega),fh (by omega)⟩
 refine AK.I0 (ι:=Unit) nc 7 8 (λi=>Nat.ble i 6) (λi=>[Va,Va,.e (.one (.ptr 5 2)),.e (.one (.c (y7 s.2.2))),xH [.int .i64 l.2.1,.int .i64 l.2.2.1,.str l.2.2.2],dI l.2.1,.e (.one (.c (GD s l)))].getD i .any) (λ_ i=>[.any,.any,.any,.any,.any,.any,.any,.e (.one (.ptr 6 0)),.any].getD i .any)
  (λ_=>Em s l++[.cells 25 [dk]]) (λ_=>Em s l++[.cells 25 [.c (GD s l)]]) rfl rfl rfl rfl rfl rfl rfl rfl rfl rfl
  ⟨OA.bS tok aY.nil rfl,OA.bS tok aY.nil rfl,OA.bS tok aY.nil rfl,OA.bS tok aY.nil rfl,OA.bS tok aY.nil rfl,OA.bS tok aY.nil rfl,?_,ab,ab,ab⟩
  (λ_=>⟨OA.bS tok aY.nil rfl,OA.bS tok aY.nil rfl,OA.bS tok aY.nil rfl,OA.bS tok aY.nil rfl,OA.bS tok aY.nil rfl,OA.bS tok aY.nil rfl,?_,ab,ab⟩)
  (tI.rW (gp (ds:=[]) tok aY.nil (σ':=some _) (obs:=[]) rfl ab)) (λ_=>gp (ds:=[]) tok aY.nil (σ':=some _) (obs:=[]) rfl ab) λ_=>?_
 ·exact OA.eval (ds:=[]) tok aY.nil rfl (Kp s l n b h)
 ·exact OA.eval (ds:=[]) tok aY.nil rfl (Kp s l n b h)
 refine aq [(1000002,true)] 100 rfl ab ?_;refine AK.norm (Em s l++[.cells 25 [.c (y7 (s.2.2.drop n))]]) rfl ?_ ?_
 ·have e:=cH.Ck s.2.2 n (s.2.2.length-n);have f:bT 0 (some l.2.1)=n:=d;simp only[aa.cat,aa,f,ae,af,gj];exact⟨⟨au.same,au.same,au.same⟩,⟨au.same,au.same,au.same⟩,au.same,au.same,au.same,rfl,e⟩
 refine AK.freeze 3 6 rfl rfl rfl ?_;refine aA rfl ab ?_;refine AK.bZ (Jz s.2.1 g 44 [y7 (s.2.2.drop n)] (fY n s.2.2) λx _=>JA x (s.2.2.drop n) (by simp;omega)) [4] rfl rfl rfl rfl rfl rfl rfl (λ_=>rfl) rfl (λ_=>rfl) rfl ?_
 rintro⟨es,a⟩;refine aA rfl ⟨show 0<=l.2.1 by omega,pI _,show l.2.1<=(s.2.2.length:Int) by omega⟩ ?_
 exact⟨⟨es,a⟩,.inr rfl,rfl,rfl,_,_,_,rfl,rfl,rfl,ab⟩
end Go.AM.R1
namespace Go.AM
theorem cf.le{P:Program}{ι:Type}{X:Cx P}{f:FuncId}{args:List D}{σ:List aj}{res res':ι->D}{σ1:ι->List aj}(h:cf X f args σ res σ1){ps:ι->List Prop}(a:∀ i,zU (res i) (res' i)=some (ps i))(b:∀ i,aa (ps i)):cf X f args σ res' σ1 :=
 ⟨h.1,λs vs hr hh S cs hS=>h.2 s vs hr hh S cs λi fr v s' hl mo ia st=>hS i fr v s' hl (o0 (a i) (b i) mo) ia st⟩
theorem cf.one{P:Program}{ι:Type}{X:Cx P}{f:FuncId}{args:List D}{σ:List aj}{res:D}{σ1:List aj}(h:cf (ι:=ι) X f args σ (λ_=>res) (λ_=>σ1)):Ev X f args σ res σ1 :=
 ⟨h.1,λs vs hr hh S cs hS=>h.2 s vs hr hh S cs λ_ fr v s' hl mo ia st=>hS fr v s' hl mo ia st⟩
namespace R1
open Go.Proofs
variable {X:Cx Tryz.prog}
abbrev GF{α:Type}(c:gN α)(a:List α):Type:={ es:Nat->List C // ∀ i,i<a.length->es i=c.fn a i }
structure fb (s:az):Prop where
 p:s.1.length<=1000000
 p2:∀ p∈s.1,p.2.length<=1000000
 sn:s.2.1.length<=1000000
 s2:mQ s
 h:s.2.2.length<=1000000
theorem xO(s:az)(l:cQ)(a:fb s)(h:l.1=1) :
  cf (ι:={ es:Nat->List C // ∀ i,i<(s.1.filter λx=>!(x.1==l.2.1)).length->es i=cP.fn (s.1.filter λx=>!(x.1==l.2.1)) i }) X 5 [eH s,fX l] []
   (λ_=>.e (.agg [aB 0 s.1.length (s.1.filter λx=>!(x.1==l.2.1)).length,aB 1 s.2.1.length s.2.1.length,.c (y7 s.2.2)])) (λes=>[.buf 56 2 s.1.length es.1,.buf 39 2 s.2.1.length (cT.fn s.2.1)]):=by
 refine cf.jz tok Tryz.func5 rfl rfl rfl λd=>?_
 refine aA rfl ab ?_;refine AK.aC (gw s a.p a.p2 a.sn a.s2 a.h) [] rfl rfl rfl rfl rfl rfl rfl rfl rfl rfl rfl ?_;refine aA rfl ab ?_;refine AK.aC (AU l h) [] rfl rfl rfl rfl rfl rfl rfl rfl rfl rfl rfl ?_;refine aA rfl ab ?_;refine AK.mq (GB s l a.p) rfl rfl rfl rfl ?_ rfl ?_
 ·simp[aa,aa.cat]
 rintro⟨es,b⟩;refine aA rfl ab ?_;refine AK.ez ⟨es,b⟩ [3,4] rfl rfl rfl rfl rfl rfl rfl rfl ?_ rfl rfl rfl rfl mP;simp[aa.cat,aa,au.same]
theorem y8(s:az)(l:cQ)(d:fb s)(h:l.1=1):Ev X 5 [eH s,fX l] [] (eH (s.1.filter λx=>!(x.1==l.2.1),s.2.1,s.2.2)) []:=by
 have e:(s.1.filter λx=>!(x.1==l.2.1)).length<=s.1.length:=ik _ _
 have a:=xO (X:=X) s l d h;have b:=cf.ib (σ1:=λes:GF cP (s.1.filter λx=>!(x.1==l.2.1))=>[.buf 56 2 s.1.length es.1]) (E:=39) (k:=2) (n:=λ_=>s.2.1.length) (es:=λ_=>cT.fn s.2.1) a (λ_=>rfl) (λ_=>?_) (λ_=>rfl) (λ_=>fH _)
 have c:=cf.ib (σ1:=λ_=>[]) (E:=56) (k:=2) (n:=λ_=>s.1.length) (es:=λes:GF cP (s.1.filter λx=>!(x.1==l.2.1))=>es.1) b (λ_=>rfl) (λ_=>?_) (λ_=>rfl) (λ_=>ar _)
 refine(c.le (res':=λ_=>eH (s.1.filter λx=>!(x.1==l.2.1),s.2.1,s.2.2)) (λ_=>rfl) (λes=>?_)).one
 ·simp only[aa.cat,aa,ae,af];exact⟨es.2,au.same,au.same⟩
 ·simpa[aa.cat,aa] using e
 ·simp[aa.cat,aa]
theorem xP(s:az)(l:cQ)(a:fb s)(b:l.1≠1)(f:l.1≠2)(d:l.1≠3)(g:l.1≠4) :
  cf (ι:=Unit) X 5 [eH s,fX l] [] (λ_=>.e (.agg [aB 0 s.1.length s.1.length,aB 1 s.2.1.length s.2.1.length,.c (y7 s.2.2)])) (λ_=>[.buf 56 2 s.1.length (cP.fn s.1),.buf 39 2 s.2.1.length (cT.fn s.2.1)]):=by
 refine cf.jz tok Tryz.func5 rfl rfl rfl λi=>?_
 refine aA rfl ab ?_;refine AK.aC (gw s a.p a.p2 a.sn a.s2 a.h) [] rfl rfl rfl rfl rfl rfl rfl rfl rfl rfl rfl ?_;refine aA rfl ab ?_;refine AK.aC (AV l b f d g) [] rfl rfl rfl rfl rfl rfl rfl rfl rfl rfl rfl ?_;refine aA rfl ab ?_;refine AK.mq (GC (Em s l) rfl (.ptr 5 0)).EM rfl rfl rfl rfl ?_ rfl ?_
 ·simp[aa,aa.cat]
 intro _;refine aA rfl ab ?_;refine AK.ez () [3,4] rfl rfl rfl rfl rfl rfl rfl rfl ?_ rfl rfl rfl rfl mP;simp[aa.cat,aa,au.same]
theorem vh(s:az)(l:cQ)(a:fb s)(b:l.1=2)(h:l.2.1<0∨l.2.1>s.2.2.length) :
  cf (ι:=Unit) X 5 [eH s,fX l] [] (λ_=>.e (.agg [aB 0 s.1.length s.1.length,aB 1 s.2.1.length s.2.1.length,.c (y7 s.2.2)])) (λ_=>[.buf 56 2 s.1.length (cP.fn s.1),.buf 39 2 s.2.1.length (cT.fn s.2.1)]):=by
 refine cf.jz tok Tryz.func5 rfl rfl rfl λd=>?_
 refine aA rfl ab ?_;refine AK.aC (gw s a.p a.p2 a.sn a.s2 a.h) [] rfl rfl rfl rfl rfl rfl rfl rfl rfl rfl rfl ?_;refine aA rfl ab ?_;refine AK.aC (uy l b) [] rfl rfl rfl rfl rfl rfl rfl rfl rfl rfl rfl ?_;refine aA rfl ab ?_;refine AK.mq (Dw s l h).EM rfl rfl rfl rfl ?_ rfl ?_
 ·simp[aa,aa.cat]
 intro _;refine aA rfl ab ?_;refine AK.ez () [3,4] rfl rfl rfl rfl rfl rfl rfl rfl ?_ rfl rfl rfl rfl mP;simp[aa.cat,aa,au.same]
theorem xQ{s:az}{l:cQ}(a:cf (ι:=Unit) X 5 [eH s,fX l] [] (λ_=>.e (.agg [aB 0 s.1.length s.1.length,aB 1 s.2.1.length s.2.1.length,.c (y7 s.2.2)])) (λ_=>[.buf 56 2 s.1.length (cP.fn s.1),.buf 39 2 s.2.1.length (cT.fn s.2.1)])):Ev X 5 [eH s,fX l] [] (eH s) []:=by
 have b:=cf.ib (σ1:=λ_:Unit=>[.buf 56 2 s.1.length (cP.fn s.1)]) (E:=39) (k:=2) (n:=λ_=>s.2.1.length) (es:=λ_=>cT.fn s.2.1) a (λ_=>rfl) (λ_=>?_) (λ_=>rfl) (λ_=>fH _)
 have c:=cf.ib (σ1:=λ_:Unit=>[]) (E:=56) (k:=2) (n:=λ_=>s.1.length) (es:=λ_=>cP.fn s.1) b (λ_=>rfl) (λ_=>?_) (λ_=>rfl) (λ_=>ar _)
 refine(c.le (res':=λ_=>eH s) (λ_=>rfl) (λes=>?_)).one
 ·simp only[aa.cat,aa,ae,af];exact⟨au.same,au.same,au.same⟩
 ·simp[aa.cat,aa]
 ·simp[aa.cat,aa]
theorem xR(s:az)(l:cQ)(a:fb s)(d:l.1=2)(n:Nat)(f:l.2.1=n)(h:n<=s.2.2.length) :
  cf (ι:=GF cT (s.2.1.filter λx=>!fY n s.2.2 x)) X 5 [eH s,fX l] []
   (λ_=>.e (.agg [aB 0 s.1.length s.1.length,aB 1 s.2.1.length (s.2.1.filter λx=>!fY n s.2.2 x).length,.c (.sl false 2 l.2.1.toNat (cH.fn s.2.2))])) (λes=>[.buf 56 2 s.1.length (cP.fn s.1),.buf 39 2 s.2.1.length es.1]):=by
 refine cf.jz tok Tryz.func5 rfl rfl rfl λg=>?_
 refine aA rfl ab ?_;refine AK.aC (gw s a.p a.p2 a.sn a.s2 a.h) [] rfl rfl rfl rfl rfl rfl rfl rfl rfl rfl rfl ?_;refine aA rfl ab ?_;refine AK.aC (uy l d) [] rfl rfl rfl rfl rfl rfl rfl rfl rfl rfl rfl ?_;refine aA rfl ab ?_;refine AK.mq (Dx s l n f h a.sn a.h) rfl rfl rfl rfl ?_ rfl ?_
 ·simp[aa,aa.cat]
 rintro⟨es,b⟩;refine aA rfl ab ?_;refine AK.ez ⟨es,b⟩ [3,4] rfl rfl rfl rfl rfl rfl rfl rfl ?_ rfl rfl rfl rfl mP;simp[aa.cat,aa,au.same]
theorem y9(s:az)(l:cQ)(m:fb s)(g:l.1=2)(n:Nat)(j:l.2.1=n)(h:n<=s.2.2.length):Ev X 5 [eH s,fX l] [] (eH (s.1,s.2.1.filter λx=>!fY n s.2.2 x,s.2.2.take n)) []:=by
 have f:(s.2.1.filter λx=>!fY n s.2.2 x).length<=s.2.1.length:=ik _ _
 have a:=xR (X:=X) s l m g n j h;have b:=cf.ib (σ1:=λ_:GF cT (s.2.1.filter λx=>!fY n s.2.2 x)=>[.buf 56 2 s.1.length (cP.fn s.1)]) (E:=39) (k:=2) (n:=λ_=>s.2.1.length) (es:=λes=>es.1) a (λ_=>rfl) (λ_=>?_) (λ_=>rfl) (λ_=>fH _)
 have c:=cf.ib (σ1:=λ_:GF cT (s.2.1.filter λx=>!fY n s.2.2 x)=>[]) (E:=56) (k:=2) (n:=λ_=>s.1.length) (es:=λ_=>cP.fn s.1) b (λ_=>rfl) (λ_=>?_) (λ_=>rfl) (λ_=>ar _)
 refine(c.le (res':=λ_=>eH (s.1,s.2.1.filter λx=>!fY n s.2.2 x,s.2.2.take n)) (λ_=>rfl) (λes=>?_)).one
 ·have e:l.2.1.toNat=(s.2.2.take n).length:=by simp;omega
  simp only[aa.cat,aa,ae,af];refine⟨au.same,es.2,e,λi hi=>?_⟩
  have d:i<n:=by rw[e] at hi;simp at hi;omega
  simp[gN.fn,qT,List.getD_eq_getElem?_getD,de,d]
 ·simp[aa.cat,aa]
 ·simpa[aa.cat,aa] using f
end R1
end Go.AM
namespace Go.AM
open Go.Conc (G)
def lS(i:Nat)(D:Nat->Bool):Nat->Bool:=λj=>match Nat.beq j i with|true=>true|false=>D j
section
variable {P:Program}{X:Cx P}{N:Nat}{ops:Array Oper}{φ:Fr}{σ:List aj}{x:Nat->D}{idx:Nat->Option Nat}{S:(Nat->Bool)->List aj}
structure RE {P:Program}(X:Cx P)(N:Nat)(ops:Array Oper)(φ:Fr)(x:Nat->D)(S:(Nat->Bool)->List aj)(idx:Nat->Option Nat):Prop where
 back:∀ i o,ops[i]?=some o->∀ e∈o.after,bd e=true->e.on<i
 nd:∀ i o d,ops[i]?=some o->o.dst=some d->idx d=some i/\d<N
 jN:∀ d i,idx d=some i->∃ o,ops[i]?=some o/\o.dst=some d
 one:∀ (D:Nat->Bool) i o,ops[i]?=some o->D i=false->(∀ e∈o.after,bd e=true->D e.on=true)->(∀ j o',ops[j]?=some o'->D j=true->∀ e∈o'.after,bd e=true->D e.on=true)->OA X N ops.toList o (iO ops.toList φ x i) (S D) (x i) (S (lS i D))
 zX:∀ (x:Nat->D) i o,ops[i]?=some o->∀ t σ s v,cd σ s v (match idx t with|some j=>(if ∃ e∈o.after,bd e=true/\e.on=j then x j else .any)|none=>look φ t)->cd σ s v (look (iO ops.toList φ x i) t)
 fin:∀ (x:Nat->D) t σ s v,cd σ s v (match idx t with|some j=>x j|none=>look φ t)->cd σ s v (look (po ops.toList φ x) t)
def kK(L:Array Bool):Nat->Bool:=λi=>L.getD i false
theorem CM{L:Array Bool}{i:Nat}(hi:i<L.size):kK (L.setIfInBounds i true)=lS i (kK L):=by
 funext j
 have h:=bh (L:=L) (i:=i) (j:=j) hi;simp only[kK,lS];cases a:Nat.beq j i with
 |true =>
  have e:=aO a;exact h.2 (.inl e)
 |false =>
  have b:j≠i:=by rintro rfl;rw[gT] at a;cases a
  cases c:L.getD j false with
  |true=>exact h.2 (.inr c)
  |false =>
   cases d:(L.setIfInBounds i true).getD j false with
   |false=>rfl
   |true =>
    rcases h.1 d with e|e
    ·exact absurd e b
    ·rw[c] at e;cases e
theorem RE.arr(h:RE X N ops φ x S idx){C:Goroutine->St->Prop}{b:Frame}{kk:List Item}{cs:List Frame}(I:b.kind≠.early){σ0:List aj}{s0:St}
  (O:∀ D s a,(∀ i,i<ops.size->D i=true)->bg N (S D) s (po ops.toList φ x) a->ag (S D) s->bo σ0 s0 (S D) s->dn X C (G (b.aT a kk) cs) s) :
  ∀ (fuel:Nat) (L:Array Bool),L.size=ops.size->(L.toList.filter (λb=>!b)).length<=fuel ->
   (∀ i o,ops[i]?=some o->L.getD i false=true->∀ e∈o.after,bd e=true->L.getD e.on false=true) ->
   ∀ (s:St) (a:Act),vu N (S (kK L)) s (cX φ x idx L) a->ag (S (kK L)) s->bo σ0 s0 (S (kK L)) s ->
   ∀ t,dn X C (G (b.aT a (.inRegion ops (Region.linearise.go .any ops fuel t L [])::kk)) cs) s:=by
 have fin:∀ (L:Array Bool) (s:St) (a:Act),(∀ i,i<ops.size->L.getD i false=true)->vu N (S (kK L)) s (cX φ x idx L) a->ag (S (kK L)) s->bo σ0 s0 (S (kK L)) s->dn X C (G (b.aT a (.inRegion ops []::kk)) cs) s:=by
  intro L s a q c hh st;have F:bg N (S (kK L)) s (po ops.toList φ x) a:=c.yt λt σ s v p=>h.fin x t σ s v (by
   unfold cX at p;cases hi:idx t with
   |none=>simpa[hi] using p
   |some k =>
    simp only[hi] at p ⊢;obtain⟨o,l,_⟩:=h.jN _ _ hi;rw[an (q k (dE.1 l).1)] at p;exact p)
  exact .ctl hh rfl (λ_=>ei) λR w=>O _ R a q (F.rely w hh) (hh.rely w) (st.trans w.stepW)
 intro fuel
 induction fuel with
 |zero =>
  intro L H F r s a c hh st t;rw[nE];exact fin L s a (fL H F) c hh st
 |succ fuel ih =>
  intro L H F r s a c hh st t;rw[fQ];cases m:(Region.ready .any ops L)[t % (Region.ready .any ops L).length]? with
  |none=>exact fin L s a (kL (back:=h.back) H (hX m)) c hh st
  |some i =>
   have hi:=aE m;obtain⟨o,l,A,f⟩:=mem_ready.1 hi;have T:i<ops.size:=(dE.1 l).1;have n:¬L.getD i false=true:=by
    simp only[bM,bw (by omega:i<L.size),cK] at A ⊢
    simp[A]
   have g:((L.setIfInBounds i true).toList.filter (λb=>!b)).length<=fuel:=by
    have h1:L.toList[i]?=some false:=by
     rw[kt,bw (by omega:i<L.size)]
     simpa[bM,bw (by omega:i<L.size)] using n
    have:=count_set h1;rw[ly];omega
   have B:∀ j E,ops[j]?=some E->(L.setIfInBounds i true).getD j false=true->∀ e∈E.after,bd e=true->(L.setIfInBounds i true).getD e.on false=true:=by
    intro j E u hj e M I;rw[bh (by omega)] at hj ⊢
    rcases hj with rfl|hj
    ·rw[l] at u;cases u;exact .inr (f e M I)
    ·exact .inr (r j E u hj e M I)
   have J:bg N (S (kK L)) s (iO ops.toList φ x i) a:=mK (h.zX x i o l) c f;have:=h.one (kK L) i o l (by unfold kK;cases U:L.getD i false with|true=>exact absurd U n|false=>rfl) f r s a J hh b kk cs C i (Region.linearise.go .any ops fuel (t / (Region.ready .any ops L).length) (L.setIfInBounds i true) []) I (by simpa using l)
   simp only[gi] at this;refine this λv s' p z y=>?_
   have K:=CM (L:=L) (i:=i) (by omega)
   rw[<-K] at p z y;exact ih _ (by simp[H]) g B s' _ (fp (λd Q=>h.nd i o d l Q) h.jN l (by omega) (λ_ _=>rfl) hh.len y c p) z (st.trans y) _
def nG:List Oper->List (List Bool)->List (List Bool)
 |[],a=>a
 |o::r,a=>ot (BG a (aV o.after.toList)) λc=>nG r (a++[c])
 where ot:List Bool->(List Bool->List (List Bool))->List (List Bool)
 |[],q=>q []
 |true::r,q=>ot r λr=>q (true::r)
 |false::r,q=>ot r λr=>q (false::r)
theorem mL:∀ (l:List Bool)(q:List Bool->List (List Bool)),nG.ot l q=q l
 |[],q=>rfl
 |true::r,q=>by simp only[nG.ot];rw[mL r]
 |false::r,q=>by simp only[nG.ot];rw[mL r]
theorem yy{all:List Oper}{D:Nat->Bool}(i:∀ (j:Nat)(o:Oper),all[j]?=some o->D j=true->∀ e∈aV o.after.toList,D e=true) :
  ∀ (r:List Oper) (a:List (List Bool)),(∀ k,r[k]?=all[a.length+k]?)->(∀ (j:Nat) (c:List Bool),a[j]?=some c->∀ o,all[j]?=some o->(∀ e∈aV o.after.toList,D e=true)->∀ q,bit c q=true->D q=true) ->
   ∀ (j:Nat) (c:List Bool),(nG r a)[j]?=some c->∀ o,all[j]?=some o->(∀ e∈aV o.after.toList,D e=true)->∀ q,bit c q=true->D q=true
 |[],a,_,h=>h
 |o::r,a,s,h=>by
  simp only[nG];rw[mL];refine yy i r _ (λk=>?_) ?_
  ·have:=s (k+1);simp only[oS] at this;rw[this]
   congr 1
   simp;omega
  ·intro j c d;have m:=s 0;simp only[l8,gm] at m;rcases sq j a.length with n|rfl|y
   ·rw[bc n] at d;exact h j c d
   ·rw[ck (ar _)] at d;simp at d;subst d;intro A g b q z;rw[<-m] at g;cases g;obtain⟨e,t,w⟩:=xa z;rcases w with rfl|⟨c2,l,p⟩
    ·exact b _ t
    ·have v:e<a.length:=(aD.1 l).1;cases f:all[e]? with
     |none =>
      have u:a.length<all.length:=(aD.1 m.symm).1;rw[r9] at f;omega
     |some oe=>exact h e c2 l oe f (i e oe f (b e t)) q p
   ·rw[eQ (by simp;omega)] at d
    cases d
def Aa(all:List Oper)(i j:Nat):Bool:=match (nG all [])[i]? with|some c=>bit c j|none=>false
def iQ{P:Program}(X:Cx P)(N:Nat)(all:List Oper)(φ:Fr)(x:Nat->D)(S:(Nat->Bool)->List aj)(i:Nat)(o:Oper):Prop :=
 ∀ D:Nat->Bool,(∀ j,Aa all i j=true->D j=true)->(∀ j,(j=i∨Aa all j i=true)->D j=false)->OA X N all o (iO all φ x i) (S D) (x i) (S (lS i D))
def Ab{P:Program}(X:Cx P)(N:Nat)(all:List Oper)(φ:Fr)(x:Nat->D)(S:(Nat->Bool)->List aj):List Oper->Nat->Prop
 |[],_=>True
 |o::r,i=>iQ X N all φ x S i o/\Ab X N all φ x S r (i+1)
theorem Ab.get{all:List Oper}:∀ {l:List Oper}{k:Nat},Ab X N all φ x S l k->∀ i o,l[i]?=some o->iQ X N all φ x S (k+i) o
 |[],_,_,i,o,h=>by simp at h
 |p::r,k,h,0,o,a=>by simp at a;subst a;exact h.1
 |p::r,k,h,i+1,o,a=>by
  have:=Ab.get h.2 i o (by simpa using a)
  rwa [show k+(i+1)=k+1+i by omega]
theorem AW.flags(hf:P.follows Departure.mixedOrders=true){all:List Oper}(x:Nat->D)(S:(Nat->Bool)->List aj)(h0:S (λ_=>false)=σ)
  (J:jT all=true) (R:nH all 0=true) (Y:kM N all=true) (one:Ab X N all φ x S all 0) {Q:Post} (hQ:∀ D,(∀ i,i<all.length->D i=true)->Q .normal (po all φ x) (S D)) (id:Nat) :
  AW X N (.region id all.toArray true) Q φ σ:=by
 have k:∀ i:Nat,all.toArray[i]?=all[i]?:=λi=>by simp
 let idx:Nat->Option Nat:=λt=>(List.range all.length).find? (λi=>decide ((all.getD i dN).dst=some t))
 have f:∀ t j,idx t=some j->∃ o,all[j]?=some o/\o.dst=some t:=by
  intro t j hj;have h1:=pD hj;have h2:j<all.length:=by simpa using nZ hj
  refine⟨all[j],ai h2,?_⟩;simpa[ai h2] using h1
 have n:∀ i o d,all[i]?=some o->o.dst=some d->idx d=some i:=by
  intro i o d g O;have hi:i<all.length:=(aD.1 g).1;cases hx:idx d with
  |none =>
   have:=kW.1 hx i (by simpa using hi)
   simp[g,O] at this
  |some j =>
   obtain⟨p,Iw,BK⟩:=f d j hx;rw[ko J Iw g BK O]
 have u:∀ t,lQ t all=true↔∃ j,idx t=some j:=by
  intro t
  constructor
  ·intro h;obtain⟨i,o,h1,h2⟩:=je h;exact⟨i,n i o t h1 h2⟩
  ·rintro⟨j,hj⟩;obtain⟨o,h1,h2⟩:=f t j hj;exact lf h1 h2
 have Z:∀ i o,all[i]?=some o->all.getD i dN=o:=λi o h=>by simp[List.getD_eq_getElem?_getD,h]
 have O:RE X N all.toArray φ x S idx:=by
  refine⟨?_,?_,?_,?_,?_,?_⟩
  ·intro i o g e U hb;rw[k] at g;have:=nI R i o g e.on (bG.2 ⟨e,by simpa using U,hb,rfl⟩)
   omega
  ·intro i o d g O;rw[k] at g;exact⟨n i o d g O,et (lT Y i o g) d O⟩
  ·intro d i h;obtain⟨o,h1,h2⟩:=f d i h;exact⟨o,by rw[k];exact h1,h2⟩
  ·intro D i o g W V zE;rw[k] at g;have H:∀ (j:Nat) (o:Oper),all[j]?=some o->D j=true->∀ e∈aV o.after.toList,D e=true:=λj o hj RF e U=>by
    obtain⟨e',q1,q2,rfl⟩:=bG.1 U;exact zE j o (by rw[k];exact hj) RF e' (by simpa using q1) q2
   have I:∀ i o,all[i]?=some o->(∀ e∈aV o.after.toList,D e=true)->∀ j,Aa all i j=true->D j=true:=by
    intro i o g hp j hj;unfold Aa at hj;split at hj
    ·rename_i c hc
     exact yy H all [] (by simp) (by simp) i c hc o g hp j hj
    ·cases hj
   have:=(Ab.get one i o g);rw[aw] at this;refine this D (I i o g λe U=>?_) λj hj=>?_
   ·obtain⟨e',q1,q2,rfl⟩:=bG.1 U;exact V e' (by simpa using q1) q2
   ·rcases hj with rfl|hj
    ·exact W
    ·cases RF:D j with
     |false=>rfl
     |true =>
      have A:∃ E,all[j]?=some E:=by
       cases A:all[j]? with
       |some E=>exact⟨E,rfl⟩
       |none =>
        exfalso;have hlen:(nG all []).length=all.length:=by
         have:∀ (r:List Oper) (cls:List (List Bool)),(nG r cls).length=cls.length+r.length:=by
          intro r
          induction r with
          |nil=>intro cls;simp[nG]
          |cons o r ih=>intro cls;simp only[nG];rw[mL,ih];simp;omega
         simpa using this all []
        unfold Aa at hj;rw[eQ (by rw[hlen];exact r9.1 A)] at hj
        cases hj
      obtain⟨E,A⟩:=A;have:=I j E A (H j E A RF) i hj;rw[W] at this;cases this
  ·intro x i o g t σ s v G;rw[k] at g;show cd σ s v (look (iO all φ x i) t);unfold iO;rw[Z i o g];rcases fj (m:=λj=>dZ j (aV o.after.toList)) (φ:=nh all φ) (t:=t) (l:=o5 all 0 x) (i:=0) with⟨j,y,h1,h2,M⟩|M
   ·rw[M];rw[iA] at h1;cases hj:all[j]? with
    |none=>simp[hj] at h1
    |some E =>
     simp only[hj,gk,bO,hJ,aw] at h1;rw[n j E t hj h1.1] at G;simp only at G;rw[an] at G
     ·rw[<-h1.2];exact G
     ·simp only[aw] at h2;obtain⟨e,a,b,c⟩:=bG.1 (tr h2);exact⟨e,by simpa using a,b,c⟩
   ·rw[M,eF];split
    ·trivial
    ·rename_i K
     cases z:idx t with
     |some j=>exact absurd ((u t).2 ⟨j,z⟩) K
     |none=>simpa[z] using G
  ·intro x t σ s v G;show cd σ s v (look (po all φ x) t);unfold po;rcases fj (m:=λ_=>true) (φ:=nh all φ) (t:=t) (l:=o5 all 0 x) (i:=0) with⟨j,y,h1,h2,M⟩|M
   ·rw[M];rw[iA] at h1;cases hj:all[j]? with
    |none=>simp[hj] at h1
    |some E =>
     simp only[hj,gk,bO,hJ,aw] at h1;rw[n j E t hj h1.1] at G;rw[<-h1.2];exact G
   ·rw[M,eF];split
    ·trivial
    ·rename_i K
     cases z:idx t with
     |some j=>exact absurd ((u t).2 ⟨j,z⟩) K
     |none=>simpa[z] using G
 intro s a zF hh b kk cs SS hb Ix;refine .next rfl λF C=>?_
 have C:=X.fz C;have B:=hh.rely C;have Lq:=zF.rely C hh;have L:Step σ F σ { F with w:={ F.w with drawn:=F.w.drawn+1 } }:=Step.same rfl rfl rfl rfl;have yb:ag σ { F with w:={ F.w with drawn:=F.w.drawn+1 } }:=B.same rfl;have Iy:=C.stepW.trans (L.lD B);refine⟨_,{ F with w:={ F.w with drawn:=F.w.drawn+1 } },#[],fi,⟨⟨σ,σ,B,yb,L⟩,.nil⟩,?_⟩;simp only[Region.schedule,hf,n7,aX];have T:kK (Array.replicate all.toArray.size false)=λ_=>false:=by
  funext i
  simp[kK,bM,eP];split <;> simp
 refine O.arr hb (σ0:=σ) (s0:=s) (λD s2 a2 hD f2 h2 lB=>Ix .normal _ _ s2 a2 (hQ D λi hi=>hD i (by simpa using hi)) f2 h2 lB) all.toArray.size _ (by simp) (by simp) ?_ _ a ?_ (by rw[T,h0];exact yb) (by rw[T,h0];exact Iy) _
 ·intro i o g hi;simp[bM,eP] at hi;split at hi <;> simp at hi
 ·rw[T,h0];have q:=Lq.mono (L.lD B) B.len;refine⟨q.size,q.defers,λt=>?_⟩
  unfold cX;cases z:idx t with
  |none=>exact q.slot t
  |some j =>
   simp only;rw[ak]
   ·exact q.slot t
   ·simp[bM,eP];split <;> simp
theorem AK.flags{ops:Array Oper}{id:Nat}{K:List It}{Qf:Post}(d:P.follows Departure.mixedOrders=true)(x:Nat->D)(S:(Nat->Bool)->List aj)(e:S (λ_=>false)=σ)
  (b:jT ops.toList=true) (a:nH ops.toList 0=true) (c:kM N ops.toList=true) (one:Ab X N ops.toList φ x S ops.toList 0)
  (k:∀ D,(∀ i,i<ops.toList.length->D i=true)->AK X N Qf K .normal (po ops.toList φ x) (S D)):AK X N Qf (.code (.region id ops true)::K) .normal φ σ:=by
 have:=AW.flags (X:=X) (N:=N) (φ:=φ) (σ:=σ) d (all:=ops.toList) x S e b a c one (Q:=AK X N Qf K) k id;rw[gi] at this;exact this
end
end Go.AM
namespace Go.AM.R1
open Go.Proofs
variable {X:Cx Tryz.prog}
abbrev S9(s:az)(l:cQ)(i0:Nat)(b cap n0:Nat)(a:List Value):List aj:=NK s l [.buf 56 2 s.1.length (gQ s.1 i0 (.slice (some ⟨b,0,none⟩) n0 cap)),.buf 39 2 s.2.1.length (cT.fn s.2.1),.cx (gz 62 2 (.row b cap) n0 a)] (aB 3 s.1.length s.1.length) (aB 4 s.2.1.length s.2.1.length) (.c (y7 s.2.2))
def cN(xs:List bD)(m:Nat)(t:Bs):List bD:=xs.set m ((xs.getD m (0,[])).1,t)
theorem qn{xs:List bD}{m:Nat}{t:Bs}{d vs:List Value}(h:c6 2 xs.length (dO.fn xs) d)(f:m<xs.length)(i:lE vs [.c (.str t)]):c6 2 xs.length (dO.fn (cN xs m t)) (d.take (m*2+1)++vs++d.drop (m*2+1+vs.length)):=by
 refine c6.dL h m 1 f i (by simp) (λj g b=>?_) rfl λq c a=>?_
 ·simp[gN.fn,qT,cN,List.getD_eq_getElem?_getD,sr,fJ b]
 ·have e:dO.fn (cN xs m t) m=[.int .i64 (xs.getD m (0,[])).1,.str t]:=by
   simp[gN.fn,qT,cN,List.getD_eq_getElem?_getD,sr,f];rfl
  rw[e] at a;rcases q with _|_|q
  ·simp at a;subst a;exact .inr ⟨by omega,rfl⟩
  ·simp at a;subst a;exact .inl ⟨by omega,by simp,rfl⟩
  ·simp at a
set_option maxHeartbeats 4000000 in
theorem Hc(s:az)(l:cQ)(E:s.1.length<=1000000)(i0 b cap m:Nat)(xs:List bD)(z:(s.1.getD i0 (0,[])).2=xs)(v:i0<s.1.length)(n:(s.1.getD i0 (0,[])).1=l.2.1)(r:∀ j,j<s.1.length->j≠i0->(s.1.getD j (0,[])).1≠l.2.1)(D:l.2.2.1=m)(t:m<xs.length)(A:xs.length<=1000000)(k:List Value)(y:c6 2 xs.length (dO.fn xs) k) :
  cf (ι:={ q:List Value // c6 2 xs.length (dO.fn (cN xs m l.2.2.2)) q }) X 47 [.e (.one (.ptr 6 0)),xH (qR l)] (S9 s l i0 b cap xs.length k) (λ_=>.dH []) (λq=>S9 s l i0 b cap xs.length q.1):=by
 refine cf.mM Tryz.func47 rfl rfl rfl (AK.of_code ?_);refine aA rfl ab ?_;refine AK.bA 7 (λx:Nat×List Value=>x.1<=s.1.length/\(x.1<=i0->x.2=k)/\(i0<x.1->c6 2 xs.length (dO.fn (cN xs m l.2.2.2)) x.2)) (λx=>[(0,.e (.one (.ptr 6 0))),(1,xH (qR l)),(8,.e (.one (aB 3 s.1.length s.1.length))),(9,dI s.1.length),(10,dI x.1)]) (λx=>S9 s l i0 b cap xs.length x.2) (λx=>s.1.length-x.1) (0,k) rfl ?_ rfl ?_ rfl ⟨by omega,λ_=>rfl,λh=>by omega⟩ ?_
 ·simp[aa.cat,aa,au.same]
 ·simp[aa.cat,aa,au.same]
 rintro⟨i,a⟩ ⟨hi,d,f⟩;simp only at hi d f;have w:0+(i:Int).toNat=i:=by omega
 by_cases h:i<s.1.length
 ·by_cases o:i=i0
  ·subst o;obtain rfl:=d (ar _);refine aq [(11,true)] 12 rfl ?_ ?_
   ·simp only[aa,av,af,ae];and_intros <;> omega
   refine AK.law (aM.yx tok (e:=.agg [.c (.int .i64 l.2.1),.c (.val (.slice (some ⟨b,0,none⟩) xs.length cap))]) rfl rfl rfl rfl rfl ?_ ?_) rfl rfl ?_
   ·show some (E1.agg [.c (.int .i64 (s.1.getD (0+(i:Int).toNat) (0,[])).1),.c (zI s.1 i (.slice (some ⟨b,0,none⟩) xs.length cap) (0+(i:Int).toNat))])=_;rw[w,n,zI,an rfl]
   ·show 0+(i:Int).toNat<_;omega
   refine aq [(19,true),(24,true),(31,true)] 100 rfl ?_ ?_
   ·simp only[aa,aJ,av,fG,af,ae];and_intros <;> omega
   have C:=y.len;have B:0+l.2.2.1.toNat*2+1=m*2+1:=by omega
   refine AK.zR tok 5 rfl rfl rfl rfl rfl rfl rfl ?_ rfl rfl λvs EB=>?_
   ·show 0+l.2.2.1.toNat*2+1+1<=a.length;omega
   have p:=qn y t EB;refine aA rfl ?_ (AK.ay (i+1,a.take (m*2+1)++vs++a.drop (m*2+1+vs.length)) rfl ?_ rfl rfl rfl ?_ rfl ?_ ?_)
   ·simp only[aa,aJ,ae];omega
   ·simp[aa.cat,aa,au.same]
   ·simp only[aa.cat,aa,au.same,ae,af];show gz 62 2 _ _ (List.take (0+l.2.2.1.toNat*2+1) a++vs++List.drop (0+l.2.2.1.toNat*2+1+vs.length) a)=_;rw[B]
   ·exact⟨by show i+1<=_;omega,λg=>absurd g (by show ¬i+1<=i;omega),λ_=>p⟩
   ·show s.1.length-(i+1)<s.1.length-i;omega
  ·have u:=r i h o;refine aq [(11,true)] 12 rfl ?_ ?_
   ·simp only[aa,av,af,ae];and_intros <;> omega
   refine AK.law (aM.yx tok (e:=.agg [.c (.int .i64 (s.1.getD i (0,[])).1),.c (.sl false 2 (s.1.getD i (0,[])).2.length (dO.fn (s.1.getD i (0,[])).2))]) rfl rfl rfl rfl rfl ?_ ?_) rfl rfl ?_
   ·show some (E1.agg [.c (.int .i64 (s.1.getD (0+(i:Int).toNat) (0,[])).1),.c (zI s.1 i0 (.slice (some ⟨b,0,none⟩) xs.length cap) (0+(i:Int).toNat))])=_;rw[w,zI,ak o]
   ·show 0+(i:Int).toNat<_;omega
   refine aq [(19,false),(24,false),(31,false)] 100 rfl ?_ (AK.ay (i+1,a) rfl ?_ rfl rfl rfl ?_ rfl ?_ ?_)
   ·simp only[aa,aJ,cD,af,ae];exact⟨by omega,u⟩
   ·simp[aa.cat,aa,au.same]
   ·simp[aa.cat,aa,au.same]
   ·exact⟨by show i+1<=_;omega,λg=>d (by have:i+1<=i0:=g;omega),λg=>f (by have:i0<i+1:=g;omega)⟩
   ·show s.1.length-(i+1)<s.1.length-i;omega
 obtain rfl:i=s.1.length:=by omega
 refine aq [(11,false)] 100 rfl (by simp[aa]) (AK.leaveD rfl rfl ?_)
 refine aA rfl ab ?_;exact⟨⟨a,f v⟩,.inr rfl,rfl,rfl,_,_,_,rfl,rfl,rfl,ab⟩
structure PH (s:az)(l:cQ)(i0 m:Nat):Prop where
 i:i0<s.1.length
 no:(s.1.getD i0 (0,[])).1=l.2.1
 ne:∀ j,j<s.1.length->j≠i0->(s.1.getD j (0,[])).1≠l.2.1
 at':l.2.2.1=m
 ml:m<(s.1.getD i0 (0,[])).2.length
abbrev XW(xs:List bD):Type:={ q:oZ×List Value // c6 2 xs.length (dO.fn xs) q.2 }
theorem rF(xs:List bD)(m:Nat)(t:Bs):(cN xs m t).length=xs.length:=by simp[cN]
theorem l3{s:az}{i0:Nat}(h:i0<s.1.length):s.1.getD i0 (0,[])∈s.1:=by rw[List.getD_eq_getElem?_getD,ai h];exact bJ h
set_option maxHeartbeats 1000000 in
theorem xV(s:az)(l:cQ)(d:fb s)(h:l.1=3)(i0 m:Nat)(a:PH s l i0 m) :
  cf (ι:={ q:oZ×List Value // c6 2 (s.1.getD i0 (0,[])).2.length (dO.fn (cN (s.1.getD i0 (0,[])).2 m l.2.2.2)) q.2 }) X 5 [eH s,fX l] []
   (λ_=>.e (.agg [aB 0 s.1.length s.1.length,aB 1 s.2.1.length s.2.1.length,.c (y7 s.2.2)]))
   (λq=>[.buf 56 2 s.1.length (gQ s.1 i0 (kF q.1.1 (s.1.getD i0 (0,[])).2.length)),.buf 39 2 s.2.1.length (cT.fn s.2.1),.cx (gz 62 2 q.1.1 (s.1.getD i0 (0,[])).2.length q.1.2)]):=by
 have j:=a.ml;have g:=d.p2 _ (l3 a.i);refine cf.jz tok Tryz.func5 rfl rfl rfl λt=>?_
 refine aA rfl ab ?_;refine AK.bZ (uH s i0 a.i (by omega) d.p d.p2 d.sn d.s2 d.h) [] rfl rfl rfl rfl rfl rfl rfl (λ_=>rfl) rfl (λ_=>rfl) rfl ?_
 rintro⟨⟨bf,r⟩,k⟩;refine AK.EF (gz.len (l:=5) rfl) λf=>?_
 obtain⟨b,cap,rfl⟩:=f.2.2.1 (by omega)
 refine aA rfl ab ?_;refine AK.aC (uz l h) [] rfl rfl rfl rfl rfl rfl rfl rfl rfl rfl rfl ?_;refine aA rfl ab ?_;refine AK.mq (Hc s l d.p i0 b cap m _ rfl a.i a.no a.ne a.at' j g r k) rfl rfl rfl rfl ?_ rfl ?_
 ·simp[aa,aa.cat,au.same]
 rintro⟨n,o⟩;refine aA rfl ab ?_;refine AK.ez ⟨(.row b cap,n),o⟩ [3,4,5] rfl rfl rfl rfl rfl rfl rfl rfl ?_ rfl rfl rfl rfl mP;simp[aa.cat,aa,au.same]
abbrev gG(s:az)(l:cQ)(i0 m:Nat):az:=(s.1.set i0 ((s.1.getD i0 (0,[])).1,cN (s.1.getD i0 (0,[])).2 m l.2.2.2),s.2.1,s.2.2)
theorem DT{f:FuncId}{args:List D}(s:az)(l:cQ)(i0 m:Nat)(hi:i0<s.1.length)
  (a:cf (ι:={ q:oZ×List Value // c6 2 (s.1.getD i0 (0,[])).2.length (dO.fn (cN (s.1.getD i0 (0,[])).2 m l.2.2.2)) q.2 }) X f args []
   (λ_=>.e (.agg [aB 0 s.1.length s.1.length,aB 1 s.2.1.length s.2.1.length,.c (y7 s.2.2)]))
   (λq=>[.buf 56 2 s.1.length (gQ s.1 i0 (kF q.1.1 (s.1.getD i0 (0,[])).2.length)),.buf 39 2 s.2.1.length (cT.fn s.2.1),.cx (gz 62 2 q.1.1 (s.1.getD i0 (0,[])).2.length q.1.2)])) :
  Ev X f args [] (eH (gG s l i0 m)) []:=by
 generalize o:s.1.getD i0 (0,[])=p at *;have i:∀ j,j≠i0->cP.fn (gG s l i0 m).1 j=cP.fn s.1 j:=λj g=>by
  simp[gN.fn,qT,List.getD_eq_getElem?_getD,sr,fJ g]
 have t:cP.fn (gG s l i0 m).1 i0=[.int .i64 p.1,.sl false 2 p.2.length (dO.fn (cN p.2 m l.2.2.2))]:=by
  have:(gG s l i0 m).1.getD i0 cP.bl=(p.1,cN p.2 m l.2.2.2):=by
   show (s.1.set i0 ((s.1.getD i0 (0,[])).1,cN (s.1.getD i0 (0,[])).2 m l.2.2.2)).getD i0 cP.bl=_;rw[o,List.getD_eq_getElem?_getD,bk hi];rfl
  show cP.enc ((gG s l i0 m).1.getD i0 cP.bl)=_;rw[this];show [C.int .i64 p.1,C.sl false 2 (cN p.2 m l.2.2.2).length (dO.fn (cN p.2 m l.2.2.2))]=_;rw[rF]
 have u:=cf.xh (σ1:=λq:{ q:oZ×List Value // c6 2 p.2.length (dO.fn (cN p.2 m l.2.2.2)) q.2 }=>[.buf 56 2 s.1.length (gQ s.1 i0 (kF q.1.1 p.2.length)),.buf 39 2 s.2.1.length (cT.fn s.2.1)]) (σ2:=λ_=>[.buf 56 2 s.1.length (cP.fn (gG s l i0 m).1),.buf 39 2 s.2.1.length (cT.fn s.2.1)]) (E:=62) (k:=2) (n:=p.2.length) (bf:=λq=>q.1.1) (xs:=λq=>q.1.2) a (λq=>q.2) 0 (λ_=>rfl) (λ_=>rfl) (λ_=>rfl) (λ_=>rfl) (λ_=>fH _)
  (λq j g=>by
   by_cases h:j=i0
   ·subst h;rw[t];rfl
   ·rw[i j h];rfl)
  (λq j g r v d=>by
   by_cases h:j=i0
   ·subst h;rw[t] at d;have:gQ s.1 j (kF q.1.1 p.2.length) j=[.int .i64 p.1,.val (kF q.1.1 p.2.length)]:=by simp only[gQ,zI,aX,o]
    rw[this];rcases r with _|_|r
    ·simp at d;subst d;exact⟨_,rfl,.inl rfl⟩
    ·simp at d;subst d;exact⟨_,rfl,.inr ⟨rfl,rfl⟩⟩
    ·simp at d
   ·rw[i j h] at d;have:gQ s.1 i0 (kF q.1.1 p.2.length) j=cP.fn s.1 j:=by simp only[gQ,zI,ak h];rfl
    rw[this];exact⟨v,d,.inl rfl⟩)
 have b:=cf.ib (σ1:=λ_=>[.buf 56 2 s.1.length (cP.fn (gG s l i0 m).1)]) (E:=39) (k:=2) (n:=λ_=>s.2.1.length) (es:=λ_=>cT.fn s.2.1) u (λ_=>rfl) (λ_=>?_) (λ_=>rfl) (λ_=>fH _)
 have c:=cf.ib (σ1:=λ_=>[]) (E:=56) (k:=2) (n:=λ_=>s.1.length) (es:=λ_=>cP.fn (gG s l i0 m).1) b (λ_=>rfl) (λ_=>?_) (λ_=>rfl) (λ_=>ar _)
 refine(c.le (res':=λ_=>eH (gG s l i0 m)) (λ_=>rfl) (λ_=>?_)).one
 ·simp only[aa.cat,aa,ae,af,sA];exact⟨au.same,au.same,au.same⟩
 ·simp[aa.cat,aa]
 ·simp[aa.cat,aa]
theorem zi(s:az)(l:cQ)(b:fb s)(h:l.1=3)(i0 m:Nat)(a:PH s l i0 m):Ev X 5 [eH s,fX l] [] (eH (gG s l i0 m)) [] :=
 DT s l i0 m a.i (xV s l b h i0 m a)
end Go.AM.R1
namespace Go.AM.R1
open Go.Proofs
open Go.Sort (swp insInner insOuter ltInt)
variable {X:Cx Tryz.prog}
theorem HE(n:Int):Ev X 143 [dI n] [] (dB false) []:=by
 refine Ev.body Tryz.func143 rfl rfl rfl λa=>?_
 refine aq [(5,false)] 100 rfl (by simp[aa]) (AK.aK rfl ?_)
 simp[aa]
abbrev P6:c7:=nn aI (λ_=>dB false) λ_=>[]
theorem T3:dw X 143 P6:=.vP λn _=>HE n
theorem J6(x y:Int):Ev X 92 [dI x,dI y] [] (dB (ltInt x y)) []:=by
 have a:aY X [(143,P6)]:=.cons T3 .nil;refine Ev.body Tryz.func92 rfl rfl rfl λb=>?_
 refine ah a [] 100 rfl (by simp[aa]) (AK.aK rfl ?_)
 simp[aa,ltInt]
abbrev rK:c7:=qO aI aI (λx y=>dB (ltInt x y)) λ_ _=>[]
theorem uP:dw X 92 rK:=.xz λx y _=>J6 x y
def eI(d:Array Int)(j:Nat):List C:=[.int .i64 d[j]!]
abbrev jI(n:Nat):D:=.e (.one (.bp 0 (.sl n 1 0 n)))
abbrev bI(n:Nat)(d:Array Int):aj:=.buf 3 1 n (eI d)
theorem gB:∀ j,j<1->([0]:List Nat)[j]?=some j:=λj a=>by
 have:j=0:=by omega
 subst this;rfl
end Go.AM.R1
namespace Go.AM.R1
open Go.Proofs
open Go.Sort (swp insInner insOuter insertionSort ltInt)
variable {X:Cx Tryz.prog}
theorem gb{d:Array Int}{i j n:Nat}(m:d.size=n)(hi:i<n)(l:j<n){f:Nat->List C}(e:au n f (eI d)):au n (mY j [.int .i64 d[i]!] (mY i [.int .i64 d[j]!] f)) (eI (swp d i j)):=by
 intro k g;have h:(swp d i j)[k]! = if k=j then d[i]! else if k=i then d[j]! else d[k]! := by
  unfold swp;rw[pG _ k (by simp;omega)]
  rw[Array.getElem_setIfInBounds (by simp;omega),Array.getElem_setIfInBounds (by omega)]
  by_cases a:j=k
  ·rw[an a,an a.symm]
  ·rw[ak a,ak (fJ a)]
   by_cases b:i=k
   ·rw[an b,an b.symm]
   ·rw[ak b,ak (fJ b),pG d k (by omega)]
 have c:=e k g;simp only[eI,mY] at c ⊢;rw[h]
 by_cases a:k=j
 ·simp only[a,aX]
 ·by_cases b:k=i
  ·subst b;simp only[a,aX,aW]
  ·simp only[a,b,aW];exact c
theorem size_swp(d:Array Int)(i j:Nat):(swp d i j).size=d.size:=by simp[swp]
theorem x8{a j:Nat}{d:Array Int}(h:a<j)(b:ltInt d[j]! d[j-1]! = true):insInner ltInt a j d=insInner ltInt a (j-1) (swp d j (j-1)):=by
 cases j with
 |zero=>omega
 |succ j =>
  simp only[kV] at b ⊢;rw[insInner,an];rw[b,Bool.and_true];exact bx h
theorem qu{a j:Nat}{d:Array Int}(h:a<j->ltInt d[j]! d[j-1]! = false):insInner ltInt a j d=d:=by
 cases j with
 |zero=>rfl
 |succ j =>
  simp only[kV] at h;rw[insInner,ak];intro b;rw[bq] at b;rw[h (mf b.1)] at b;cases b.2
theorem Nj(n:Nat)(d:Array Int)(a b:Nat)(r:d.size=n)(u:b<=n)(w:a<=n)(v:n<=1000000) :
  Ev X 86 [jI n,dI a,dI b] [bI n d] (.dH []) [bI n (insertionSort ltInt d a b)]:=by
 have l:aY X [(92,rK)]:=.cons uP .nil;refine Ev.body Tryz.func86 rfl rfl rfl λt=>?_
 refine aA rfl (by simp[aa,aJ];omega) ?_
 refine AK.bA 1 (λs:Nat×Array Int=>s.2.size=n/\a+1<=s.1/\s.1<=n+1/\insOuter ltInt a b s.1 s.2=insertionSort ltInt d a b) (λs=>[(0,jI n),(1,dI a),(2,dI b),(6,dI s.1)]) (λs=>[bI n s.2]) (λs=>b-s.1) (a+1,d) rfl ?_ rfl ?_ rfl ⟨r,by omega,by simp only;omega,rfl⟩ ?_
 ·simp[aa.cat,aa,au]
 ·simp[aa.cat,aa,au]
 rintro⟨i,d1⟩ ⟨p,hi,m,e⟩;simp only at p hi m e
 by_cases h:i<b
 ·refine aq [(12,true)] 100 rfl (by simp[aa];omega) ?_
  refine AK.bA 1 (λs:Nat×Array Int=>s.2.size=n/\s.1<=i/\insInner ltInt a s.1 s.2=insInner ltInt a i d1) (λs=>[(0,jI n),(1,dI a),(2,dI b),(6,dI i),(7,dI s.1)]) (λs=>[bI n s.2]) (λs=>s.1) (i,d1) rfl ?_ rfl ?_ rfl ⟨p,by simp,rfl⟩ ?_
  ·simp[aa.cat,aa,au]
  ·simp[aa.cat,aa,au]
  rintro⟨j,d2⟩ ⟨f,q,c⟩;simp only at f q c
  by_cases o:a<j
  ·have k:((j:Int)-1).toNat=j-1:=by omega
   by_cases g:ltInt d2[j]! d2[j-1]! = true
   ·refine ah l [(18,true),(29,true)] 100 rfl ?_ ?_
    ·simp[aa,aJ,k,g];omega
    refine AK.ay (j-1,swp d2 j (j-1)) rfl ?_ rfl rfl rfl ?_ rfl ?_ ?_
    ·simp[aa.cat,aa];omega
    ·simp only[aa.cat,aa,k,aw,aF,ae,af];exact gb f (by omega) (by omega) (λ_ _=>rfl)
    ·refine⟨by rw[size_swp];exact f,by omega,?_⟩
     rw[<-c,x8 o g]
    ·simp;omega
   ·refine ah l [(18,true),(29,false)] 100 rfl ?_ (AK.leaveD rfl rfl ?_)
    ·simp[aa,aJ,k,g];omega
    refine aA rfl ?_ (AK.ay (i+1,d2) rfl ?_ rfl rfl rfl ?_ rfl ?_ ?_)
    ·simp[aa,aJ];omega
    ·simp[aa.cat,aa]
    ·simp[aa.cat,aa,au]
    ·refine⟨f,by omega,by simp only;omega,?_⟩
     simp only;rw[<-e,insOuter.eq_1 ltInt a b i,an h,<-c,qu λ_=>by simpa using g]
    ·simp;omega
  ·refine ah l [(18,false)] 100 rfl ?_ (AK.leaveD rfl rfl ?_)
   ·simp[aa,aJ];omega
   refine aA rfl ?_ (AK.ay (i+1,d2) rfl ?_ rfl rfl rfl ?_ rfl ?_ ?_)
   ·simp[aa,aJ];omega
   ·simp[aa.cat,aa]
   ·simp[aa.cat,aa,au]
   ·refine⟨f,by omega,by simp only;omega,?_⟩
    simp only;rw[<-e,insOuter.eq_1 ltInt a b i,an h,<-c,qu λx=>absurd x o]
   ·simp;omega
 ·refine aq [(12,false)] 100 rfl (by simp[aa];omega) (AK.leaveD rfl rfl ?_)
  have:insertionSort ltInt d a b=d1:=by rw[<-e,insOuter,ak h]
  rw[this];exact cv.rY [0] rfl ab rfl rfl rfl gB
end Go.AM.R1
namespace Go.AM.R1
open Go.Proofs
open Go.Sort (swp siftDown ltInt)
variable {X:Cx Tryz.prog}
theorem HO{hi first root:Nat}{d:Array Int}(h:¬2*root+1<hi):siftDown ltInt hi first root d=d:=by
 rw[siftDown,dif_pos (by omega)]
theorem HP{hi first root:Nat}{d:Array Int}(h:2*root+1<hi)(b:2*root+1+1<hi->ltInt d[first+(2*root+1)]! d[first+(2*root+1)+1]! = false)(c:ltInt d[first+root]! d[first+(2*root+1)]! = true) :
  siftDown ltInt hi first root d=siftDown ltInt hi first (2*root+1) (swp d (first+root) (first+(2*root+1))):=by
 rw[siftDown.eq_1 ltInt hi first root d,dif_neg (by omega),ak (by intro a;rw[bq] at a;rw[b (mf a.1)] at a;cases a.2),ak (by simp[c])]
theorem Cv{hi first root:Nat}{d:Array Int}(h:2*root+1<hi)(b:2*root+1+1<hi->ltInt d[first+(2*root+1)]! d[first+(2*root+1)+1]! = false)(c:ltInt d[first+root]! d[first+(2*root+1)]! = false) :
  siftDown ltInt hi first root d=d:=by
 rw[siftDown.eq_1 ltInt hi first root d,dif_neg (by omega),ak (by intro a;rw[bq] at a;rw[b (mf a.1)] at a;cases a.2),an (by simp[c])]
theorem Nn{hi first root:Nat}{d:Array Int}(h:2*root+1+1<hi)(a:ltInt d[first+(2*root+1)]! d[first+(2*root+1+1)]! = true)(b:ltInt d[first+root]! d[first+(2*root+1+1)]! = true) :
  siftDown ltInt hi first root d=siftDown ltInt hi first (2*root+1+1) (swp d (first+root) (first+(2*root+1+1))):=by
 rw[siftDown.eq_1 ltInt hi first root d,dif_neg (by omega),an (by rw[bq];exact⟨bx h,a⟩),ak (by simp only[show 2*root+2=2*root+1+1 from rfl,b];decide),dif_pos (by omega)]
theorem Kb{hi first root:Nat}{d:Array Int}(h:2*root+1+1<hi)(a:ltInt d[first+(2*root+1)]! d[first+(2*root+1+1)]! = true)(b:ltInt d[first+root]! d[first+(2*root+1+1)]! = false) :
  siftDown ltInt hi first root d=d:=by
 rw[siftDown.eq_1 ltInt hi first root d,dif_neg (by omega),an (by rw[bq];exact⟨bx h,a⟩),an (by simp only[show 2*root+2=2*root+1+1 from rfl,b];decide)]
set_option maxHeartbeats 4000000 in
theorem Kc(n:Nat)(d:Array Int)(lo hi first:Nat)(p:d.size=n)(r:first+hi<=n)(o:lo<=n)(t:n<=1000000) :
  Ev X 138 [jI n,dI lo,dI hi,dI first] [bI n d] (.dH []) [bI n (siftDown ltInt hi first lo d)]:=by
 have j:aY X [(92,rK)]:=.cons uP .nil;refine Ev.body Tryz.func138 rfl rfl rfl λq=>?_
 refine aA rfl ab ?_;refine AK.bA 1 (λs:Nat×Array Int=>s.2.size=n/\s.1<=n/\siftDown ltInt hi first s.1 s.2=siftDown ltInt hi first lo d) (λs=>[(0,jI n),(1,dI lo),(2,dI hi),(3,dI first),(8,dI s.1)]) (λs=>[bI n s.2]) (λs=>hi-s.1) (lo,d) rfl ?_ rfl ?_ rfl ⟨p,o,rfl⟩ ?_
 ·simp[aa.cat,aa,au]
 ·simp[aa.cat,aa,au]
 rintro⟨root,d1⟩ ⟨i,m,a⟩;simp only at i m a
 by_cases h:2*root+1<hi
 ·have f:((first:Int)+(2*(root:Int)+1)).toNat=first+(2*root+1):=by omega
  have g:((first:Int)+(2*(root:Int)+1)+1).toNat=first+(2*root+1+1):=by omega
  by_cases k:2*root+1+1<hi
  ·by_cases e:ltInt d1[first+(2*root+1)]! d1[first+(2*root+1+1)]! = true
   ·have l:((first:Int)+(2*(root:Int)+1+1)).toNat=first+(2*root+1+1):=by omega
    have c:((first:Int)+(root:Int)).toNat=first+root:=by omega
    by_cases b:ltInt d1[first+root]! d1[first+(2*root+1+1)]! = true
    ·refine ah j [(16,false),(20,true),(35,true),(51,true)] 200 rfl ?_ (AK.ay (2*root+1+1,swp d1 (first+root) (first+(2*root+1+1))) rfl ?_ rfl rfl rfl ?_ rfl ?_ ?_)
     ·simp only[aa,aw,f,g,c,l,e,b,aJ,av,aZ,af,ae];and_intros <;> omega
     ·simp only[aa.cat,aa,af,ae];and_intros <;> omega
     ·simp only[aa.cat,aa,aw,f,g,c,l,ae,af];exact gb i (by omega) (by omega) (λ_ _=>rfl)
     ·refine⟨by rw[size_swp];exact i,by simp only;omega,?_⟩
      rw[<-a,Nn k e b]
     ·simp only;omega
    ·rw[mj] at b;rw[show siftDown ltInt hi first lo d=d1 by rw[<-a,Kb k e b]]
     refine ah j [(16,false),(20,true),(35,true),(51,false)] 200 rfl ?_ (AK.jP (cv.mk [0] rfl ab rfl rfl rfl gB));simp only[aa,aw,f,g,c,l,e,b,aJ,av,aZ,af,ae];and_intros <;> omega
   ·rw[mj] at e;have c:((first:Int)+(root:Int)).toNat=first+root:=by omega
    by_cases b:ltInt d1[first+root]! d1[first+(2*root+1)]! = true
    ·refine ah j [(16,false),(20,true),(35,false),(51,true)] 200 rfl ?_ (AK.ay (2*root+1,swp d1 (first+root) (first+(2*root+1))) rfl ?_ rfl rfl rfl ?_ rfl ?_ ?_)
     ·simp only[aa,aw,f,g,c,e,b,aJ,av,aZ,af,ae];and_intros <;> omega
     ·simp only[aa.cat,aa,af,ae];and_intros <;> omega
     ·simp only[aa.cat,aa,aw,f,g,c,ae,af];exact gb i (by omega) (by omega) (λ_ _=>rfl)
     ·refine⟨by rw[size_swp];exact i,by simp only;omega,?_⟩
      rw[<-a,HP h (λ_=>e) b]
     ·simp only;omega
    ·rw[mj] at b;rw[show siftDown ltInt hi first lo d=d1 by rw[<-a,Cv h (λ_=>e) b]]
     refine ah j [(16,false),(20,true),(35,false),(51,false)] 200 rfl ?_ (AK.jP (cv.mk [0] rfl ab rfl rfl rfl gB));simp only[aa,aw,f,g,c,e,b,aJ,av,aZ,af,ae];and_intros <;> omega
  ·have e:True:=ab;have c:((first:Int)+(root:Int)).toNat=first+root:=by omega
   by_cases b:ltInt d1[first+root]! d1[first+(2*root+1)]! = true
   ·refine ah j [(16,false),(20,false),(51,true)] 200 rfl ?_ (AK.ay (2*root+1,swp d1 (first+root) (first+(2*root+1))) rfl ?_ rfl rfl rfl ?_ rfl ?_ ?_)
    ·simp only[aa,aw,f,g,c,b,aJ,av,aZ,af,ae];and_intros <;> omega
    ·simp only[aa.cat,aa,af,ae];and_intros <;> omega
    ·simp only[aa.cat,aa,aw,f,g,c,ae,af];exact gb i (by omega) (by omega) (λ_ _=>rfl)
    ·refine⟨by rw[size_swp];exact i,by simp only;omega,?_⟩
     rw[<-a,HP h (λx=>absurd x k) b]
    ·simp only;omega
   ·rw[mj] at b;rw[show siftDown ltInt hi first lo d=d1 by rw[<-a,Cv h (λx=>absurd x k) b]]
    refine ah j [(16,false),(20,false),(51,false)] 200 rfl ?_ (AK.jP (cv.mk [0] rfl ab rfl rfl rfl gB));simp only[aa,aw,f,g,c,b,aJ,av,aZ,af,ae];and_intros <;> omega
 ·refine aq [(16,true)] 100 rfl (by simp only[aa,aJ,av,af,ae];and_intros <;> omega) (AK.leaveD rfl rfl ?_)
  rw[<-a,HO h];exact cv.rY [0] rfl ab rfl rfl rfl gB
end Go.AM.R1
namespace Go.AM.R1
open Go.Proofs
open Go.Sort (swp order2 median medianAdjacent choosePivot Hint ltInt)
variable {X:Cx Tryz.prog}
abbrev bN(k:Nat):aj:=.cells 3 [.c (.int .i64 k)]
abbrev NM:D:=.e (.one (.ptr 1 0))
abbrev Yv(a b:Nat):D:=.dH [.one (.c (.int .i64 a)),.one (.c (.int .i64 b))]
theorem Cw:∀ j,j<2->([0,1]:List Nat)[j]?=some j:=λj a=>by
 rcases j with _|_|j
 ·rfl
 ·rfl
 ·omega
theorem rb(n:Nat)(d:Array Int)(a b sw:Nat)(j:a<n)(k:b<n)(i:n<=1000000)(f:sw<=1000) :
  Ev X 163 [jI n,dI a,dI b,NM] [bI n d,bN sw] (Yv (order2 ltInt d a b sw).1 (order2 ltInt d a b sw).2.1) [bI n d,bN (order2 ltInt d a b sw).2.2]:=by
 have c:aY X [(92,rK)]:=.cons uP .nil;refine Ev.body Tryz.func163 rfl rfl rfl λg=>?_
 by_cases h:ltInt d[b]! d[a]! = true
 ·have e:order2 ltInt d a b sw=(b,a,sw+1):=by simp[order2,h]
  rw[e];refine ah c [(18,true)] 200 rfl ?_ (AK.cZ [0,1] rfl ?_ rfl rfl rfl Cw)
  ·simp only[aa,aw,aF,h,aJ,af,ae];and_intros <;> omega
  ·simp[aa,aa.cat]
 ·have e:order2 ltInt d a b sw=(a,b,sw):=by simp[order2,h]
  rw[e];rw[mj] at h;refine ah c [(18,false)] 200 rfl ?_ (AK.cZ [0,1] rfl ?_ rfl rfl rfl Cw)
  ·simp only[aa,aw,aF,h,aJ,af,ae];and_intros <;> omega
  ·simp[aa,aa.cat]
theorem l4{d:Array Int}{a b sw n:Nat}(e:a<n)(c:b<n):(order2 ltInt d a b sw).1<n/\(order2 ltInt d a b sw).2.1<n/\(order2 ltInt d a b sw).2.2<=sw+1:=by
 unfold order2;split <;> simp only <;> omega
theorem wA(n:Nat)(d:Array Int)(a b c sw:Nat)(h:a<n)(i:b<n)(g:c<n)(f:n<=1000000)(j:sw<=900) :
  Ev X 142 [jI n,dI a,dI b,dI c,NM] [bI n d,bN sw] (dI (median ltInt d a b c sw).1) [bI n d,bN (median ltInt d a b c sw).2]:=by
 refine Ev.body Tryz.func142 rfl rfl rfl λl=>?_
 have e:=l4 (d:=d) (sw:=sw) h i;have k:=l4 (d:=d) (sw:=(order2 ltInt d a b sw).2.2) e.2.1 g;refine cE rfl ab ?_;refine AK.aC (rb n d a b sw h i f (by omega)) [0,1] rfl rfl rfl rfl rfl rfl rfl rfl rfl rfl rfl ?_
 refine cE rfl ab ?_;refine AK.aC (rb n d (order2 ltInt d a b sw).2.1 c (order2 ltInt d a b sw).2.2 e.2.1 g f (by omega)) [0,1] rfl rfl rfl rfl rfl rfl rfl rfl rfl rfl rfl ?_
 refine cE rfl ab ?_;refine AK.aC (rb n d (order2 ltInt d a b sw).1 (order2 ltInt d (order2 ltInt d a b sw).2.1 c (order2 ltInt d a b sw).2.2).1 (order2 ltInt d (order2 ltInt d a b sw).2.1 c (order2 ltInt d a b sw).2.2).2.2 e.1 k.1 f (by omega)) [0,1] rfl rfl rfl rfl rfl rfl rfl rfl rfl rfl rfl ?_
 refine cE rfl ab (AK.cZ [0,1] rfl ?_ rfl rfl rfl Cw);simp[aa,aa.cat,median]
theorem Ee{d:Array Int}{a b c sw n:Nat}(h:a<n)(i:b<n)(g:c<n):(median ltInt d a b c sw).1<n/\(median ltInt d a b c sw).2<=sw+3:=by
 have e:=l4 (d:=d) (sw:=sw) h i;have j:=l4 (d:=d) (sw:=(order2 ltInt d a b sw).2.2) e.2.1 g;have f:=l4 (d:=d) (sw:=(order2 ltInt d (order2 ltInt d a b sw).2.1 c (order2 ltInt d a b sw).2.2).2.2) e.1 j.1;unfold median;exact⟨f.2.1,by simp only;omega⟩
theorem x9(n:Nat)(d:Array Int)(a sw:Nat)(f:1<=a)(g:a+1<n)(c:n<=1000000)(b:sw<=900) :
  Ev X 141 [jI n,dI a,NM] [bI n d,bN sw] (dI (medianAdjacent ltInt d a sw).1) [bI n d,bN (medianAdjacent ltInt d a sw).2]:=by
 refine Ev.body Tryz.func141 rfl rfl rfl λe=>?_
 obtain⟨a,rfl⟩:∃ a',a=a'+1:=⟨a-1,by omega⟩
 refine cE rfl (by simp only[aa,aJ];and_intros <;> omega) ?_
 have key:∀ x y z:Int,x=(a:Int)->y=((a+1:Nat):Int)->z=((a+1+1:Nat):Int)->Ev X 142 [jI n,dI x,dI y,dI z,NM] [bI n d,bN sw] (dI (median ltInt d a (a+1) (a+1+1) sw).1) [bI n d,bN (median ltInt d a (a+1) (a+1+1) sw).2]:=by
  rintro x y z rfl rfl rfl;exact wA n d a (a+1) (a+1+1) sw (by omega) (by omega) (by omega) c b
 refine AK.aC (key (((a+1:Nat):Int)-1) _ (((a+1:Nat):Int)+1) (by omega) rfl (by omega)) [0,1] rfl rfl rfl rfl rfl rfl rfl rfl rfl rfl rfl ?_
 refine cE rfl ab (AK.cZ [0,1] rfl ?_ rfl rfl rfl Cw);simp[aa,aa.cat,medianAdjacent]
end Go.AM.R1
namespace Go.AM
open Go.Conc (G)
section
variable {P:Program}{X:Cx P}{N:Nat}{Qf:Post}{φ:Fr}{σ:List aj}
theorem AK.Sc{c:Code}{K:List It}{a:Fr}{σ':List aj}(k:AK X N Qf (.code c::K) .normal a σ'){ps qs:List Prop}(h1:qf φ a=some ps)(d:aa ps)(h2:rV σ σ'=some qs)(b:aa qs):AK X N Qf (.code c::K) .normal φ σ :=
 AK.norm σ' h2 b (AW.le k (cR h1 d))
def rn:List It->List It
 |.blk _::K=>rn K
 |K=>K
theorem AK.rn:∀ {K:List It},AK X N Qf (rn K) .normal φ σ->AK X N Qf K .normal φ σ
 |[],h=>h
 |.blk _::K,h=>AK.rn (K:=K) h
 |.code _::_,h=>h
 |.ops _ _::_,h=>h
theorem AK.jU{S S2:Type}{c c2:Code}(id:Nat){K d K2:List It}(h2:iT id K=some d)(l:Go.AM.rn d=.code c2::K2)(O:S2->Prop)(iO:S2->Fr)(a:S2->List aj)(n:Nat)(I:S->Prop)(fr:S->Fr)(st:S->List aj)(h:S->Nat)(x:S)
  {ps qs:List Prop} (e:qf φ (fr x)=some ps) (b:aa ps) (f:rV σ (st x)=some qs) (g:aa qs) (k:σ.length=n) (i:I x)
  (round:(∀ (y:S2) {φ:Fr} {σ:List aj} {ps qs:List Prop},O y->qf φ (iO y)=some ps->aa ps->rV σ (a y)=some qs->aa qs->AK X N Qf d .normal φ σ) ->
   ∀ x,I x->AK X N (lH X N Qf K I fr st h n x) [.code c] .normal (fr x) (st x))
  (after:∀ y,O y->AK X N Qf (.code c2::K2) .normal (iO y) (a y)):AK X N Qf (.code (.loop c)::K) .normal φ σ :=
 AK.bA n I fr st h x e b f g k i (round λy _ _ _ _ j h1 b h2 g=>AK.rn (by rw[l];exact(after y j).Sc h1 b h2 g))
end
end Go.AM
namespace Go.AM.R1
open Go.Proofs
open Go.Sort (swp order2 median medianAdjacent choosePivot Hint ltInt)
variable {X:Cx Tryz.prog}
def lu:Hint->Int|.unknown=>0|.increasing=>1|.decreasing=>2
theorem uU(n:Nat)(d:Array Int){a b c:Nat}(sw:Nat)(k:a<n)(l:b<n)(j:c<n)(i:n<=1000000)(e:sw<=900){x y z:Int}(g:x=a)(h:y=b)(f:z=c) :
  Ev X 142 [jI n,dI x,dI y,dI z,NM] [bI n d,bN sw] (dI (median ltInt d a b c sw).1) [bI n d,bN (median ltInt d a b c sw).2]:=by
 subst g h f;exact wA n d a b c sw k l j i e
theorem lJ(n:Nat)(d:Array Int){a:Nat}(sw:Nat)(f:1<=a)(g:a+1<n)(e:n<=1000000)(b:sw<=900){x:Int}(c:x=a) :
  Ev X 141 [jI n,dI x,NM] [bI n d,bN sw] (dI (medianAdjacent ltInt d a sw).1) [bI n d,bN (medianAdjacent ltInt d a sw).2]:=by
 subst c;exact x9 n d a sw f g e b
theorem mV{d:Array Int}{a sw n:Nat}(c:1<=a)(b:a+1<n):(medianAdjacent ltInt d a sw).1<n/\(medianAdjacent ltInt d a sw).2<=sw+3 :=
 Ee (by omega) (by omega) (by omega)
abbrev mW(k:Nat):Hint:=if k=0 then .increasing else if k=12 then .decreasing else .unknown
abbrev Y3(m k:Nat):D:=.dH [.one (.c (.int .i64 m)),.one (.c (.int .i64 (lu (mW k))))]
theorem HQ{d:Array Int}{a l:Nat}(b:8<=l)(c:l<50):choosePivot ltInt d a (a+l)=((median ltInt d (a+l / 4*1) (a+l / 4*2) (a+l / 4*3) 0).1,mW (median ltInt d (a+l / 4*1) (a+l / 4*2) (a+l / 4*3) 0).2):=by
 unfold choosePivot;simp only[l7,an (show l≥8 from b),ak (show ¬l≥50 by omega)]
abbrev mA(d:Array Int)(a l:Nat):=medianAdjacent ltInt d (a+l / 4*1) 0
abbrev mB(d:Array Int)(a l:Nat):=medianAdjacent ltInt d (a+l / 4*2) (mA d a l).2
abbrev mC(d:Array Int)(a l:Nat):=medianAdjacent ltInt d (a+l / 4*3) (mB d a l).2
theorem HR{d:Array Int}{a l:Nat}(b:50<=l):choosePivot ltInt d a (a+l)=((median ltInt d (mA d a l).1 (mB d a l).1 (mC d a l).1 (mC d a l).2).1,mW (median ltInt d (mA d a l).1 (mB d a l).1 (mC d a l).1 (mC d a l).2).2):=by
 unfold choosePivot;simp only[l7,an (show l≥8 by omega),an (show l≥50 from b)]
theorem Ec(n:Nat)(d:Array Int)(a b:Nat)(j:a<=b)(q:b<=n)(i:8<=b-a)(g:n<=1000000) :
  Ev X 89 [jI n,dI a,dI b] [bI n d] (.dH [.one (.c (.int .i64 (choosePivot ltInt d a b).1)),.one (.c (.int .i64 (lu (choosePivot ltInt d a b).2)))]) [bI n d]:=by
 refine Ev.body Tryz.func89 rfl rfl rfl λk=>?_
 obtain⟨l,rfl⟩:∃ l,b=a+l:=⟨b-a,by omega⟩
 rw[l7] at i
 by_cases h:l<50
 ·refine aq [(32,true),(34,false)] 200 rfl ?_ ?_
  ·simp only[aa,aJ,av,aZ,af,ae];and_intros <;> omega
  refine AK.aC (uU n d (a:=a+l / 4*1) (b:=a+l / 4*2) (c:=a+l / 4*3) 0 (by omega) (by omega) (by omega) g (by omega) (by omega) (by omega) (by omega)) [0,1] rfl rfl rfl rfl rfl rfl rfl rfl rfl rfl rfl ?_
  rw[HQ i h];generalize median ltInt d (a+l / 4*1) (a+l / 4*2) (a+l / 4*3) 0=r
  by_cases e:r.2=0
  ·refine aq [(52,true)] 200 rfl (by simp[aa,e]) (AK.cZ [0] rfl ?_ rfl rfl rfl gB)
   simp[aa,aa.cat,e,lu,mW]
  by_cases f:r.2=12
  ·refine aq [(52,false),(55,true)] 200 rfl (by simp[aa,f]) (AK.cZ [0] rfl ?_ rfl rfl rfl gB)
   simp[aa,aa.cat,f,lu,mW]
  ·refine aq [(52,false),(55,false)] 200 rfl (by simp[aa,e];omega) (AK.cZ [0] rfl ?_ rfl rfl rfl gB)
   simp[aa,aa.cat,e,f,lu,mW]
 ·refine aq [(32,true),(34,true)] 200 rfl ?_ ?_
  ·simp only[aa,aJ,av,aZ,af,ae];and_intros <;> omega
  have m:(mA d a l).1<n/\(mA d a l).2<=0+3:=mV (d:=d) (a:=a+l / 4*1) (sw:=0) (n:=n) (by omega) (by omega)
  have o:(mB d a l).1<n/\(mB d a l).2<=(mA d a l).2+3:=mV (d:=d) (a:=a+l / 4*2) (sw:=(mA d a l).2) (n:=n) (by omega) (by omega)
  have p:(mC d a l).1<n/\(mC d a l).2<=(mB d a l).2+3:=mV (d:=d) (a:=a+l / 4*3) (sw:=(mB d a l).2) (n:=n) (by omega) (by omega)
  refine AK.aC (lJ n d (a:=a+l / 4*1) 0 (by omega) (by omega) g (by omega) (by omega)) [0,1] rfl rfl rfl rfl rfl rfl rfl rfl rfl rfl rfl ?_
  refine cE rfl ab ?_;refine AK.aC (lJ n d (a:=a+l / 4*2) (mA d a l).2 (by omega) (by omega) g (by omega) (by omega)) [0,1] rfl rfl rfl rfl rfl rfl rfl rfl rfl rfl rfl ?_
  refine cE rfl ab ?_;refine AK.aC (lJ n d (a:=a+l / 4*3) (mB d a l).2 (by omega) (by omega) g (by omega) (by omega)) [0,1] rfl rfl rfl rfl rfl rfl rfl rfl rfl rfl rfl ?_
  refine cE rfl ab ?_;refine AK.aC (uU n d (a:=(mA d a l).1) (b:=(mB d a l).1) (c:=(mC d a l).1) (mC d a l).2 (by omega) (by omega) (by omega) g (by omega) rfl rfl rfl) [0,1] rfl rfl rfl rfl rfl rfl rfl rfl rfl rfl rfl ?_
  rw[HR (by omega)]
  generalize median ltInt d (mA d a l).1 (mB d a l).1 (mC d a l).1 (mC d a l).2=r
  by_cases e:r.2=0
  ·refine aq [(52,true)] 200 rfl (by simp[aa,e]) (AK.cZ [0] rfl ?_ rfl rfl rfl gB)
   simp[aa,aa.cat,e,lu,mW]
  by_cases f:r.2=12
  ·refine aq [(52,false),(55,true)] 200 rfl (by simp[aa,f]) (AK.cZ [0] rfl ?_ rfl rfl rfl gB)
   simp[aa,aa.cat,f,lu,mW]
  ·refine aq [(52,false),(55,false)] 200 rfl (by simp[aa,e];omega) (AK.cZ [0] rfl ?_ rfl rfl rfl gB)
   simp[aa,aa.cat,e,f,lu,mW]
end Go.AM.R1
