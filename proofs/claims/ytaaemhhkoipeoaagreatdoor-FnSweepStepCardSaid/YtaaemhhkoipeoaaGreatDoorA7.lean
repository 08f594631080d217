/- Part 7. No condition. -/
import Derived.Test.YtaaemhhkoipeoaaGreatDoorA6
set_option linter.all false
set_option maxHeartbeats 8000000
open Go.Proofs
open Go renaming Value → aj, TypeId → av, Frame → aU, Operand → aE, World → aA, Program → aK, Oper → aD, Goroutine → ak
open Option renaming some → aa, none → af
open Bool renaming true → ab, false → ae
open List renaming getD_eq_getElem?_getD → ah
open Go.Proofs.Tryz renaming prog → ag
namespace Go.AM
variable {n k l b i j:Nat}{E:av}{L:Array Bool}{M:Mem}{N:Nat}{P:aK}{S:ak->St->Prop}{c:Code}{g:ak}{o:aD}{s:St}{t:av}{v:aj}{w:aA}{x y:aE}{α:Type}{η:aE->D}{ι:Type}{σ:List bm}{φ:Fr}{all:List aD}{jN:Array av}{cap:List C}{cy:List D}{cs:List aU}{ds:List (Nat×Bool)}{es:Nat->List C}{fo:aE}{gs:Array ak}{obs:List Prop}{off:Nat}{op:BinOp}{ops:Array aD}{ps:List Prop}{rest:List aD}{s':St}{tx:Bool}{ty:av}{val:Nat->Nat->aj}{vs:List aj}{w':aA}{xs:Array aE}{σ' σs:List bm}{res:ι->D}{σ1:ι->List bm}
variable {CT:List (Nat×dv)}{K:List It}{Qf:Post}{T:List (Nat×TI)}{ie:TI}
namespace R1
def H6{no:Int}{ms:List Int}{ps:List bo}(h:i<ps.length)(b:(eu no ms (ps.getD i (0,[]))).2.length≠0):(stepT no ms ps i).length<(cp no ms ps).length/\(cp no ms ps).getD (stepT no ms ps i).length (0,[])=eu no ms (ps.getD i (0,[])):=by
 have e:cp no ms ps=stepT no ms ps (i+1)++cp no ms (ps.drop (i+1)):=by
  unfold stepT;conv=>lhs;rw[<-jm (i+1) ps]
  unfold cp;rw[List.map_append,uL]
 have a:=qj (no:=no) (ms:=ms) h;rw[aW b]at a;rw[e,a];refine⟨by simp<;>omega,?_⟩;simp[ah]
abbrev stY(w x:br):List bm:=[n9 w,n9 x,n9 x]
def uB(m:Nat)(b:Nat->Int)(I:Bytes b)(_:m<=9223372036854775807):Ev (Cx.beside ag) 3 [.e (.one (.c (.sl ae 1 m (uz b))))] [] (dB ab) []:=by
 refine Ev.bQ Tryz.func3 rfl λQ=>?_;by_cases N:1048576<m
 .refine aY [(14,ab)] rfl (by simp;omega) (AK.bq rfl ?_);simp
 refine aY [(14,ae)] rfl (by simp;omega) ?_;refine AK.cP (uj m b I (by omega)) [] rfl (λ_=>rfl) ?_;rintro⟨w,B⟩;have v:=B.sz;have q:=v.m;have l:(w.1,w.2.1,w.2.2)=w:=rfl;have j:=De (X:=Cx.beside ag) 7 w v;have k:=mM 7 w B.Sd v.s;unfold stepW at j k;refine bA rfl aq ?_;cases t:dz 7 w with
 |false =>
  rw[t,aW (by simp)]at j k;refine AK.cQ j [] rfl ?_;refine bA rfl aq ?_;refine AK.cQ k [] rfl ?_;have c1:bR (Cx.beside ag) [(9,mH [nu EX,nu EX] (dB ab)),(10,gR)]:=.cons (nZ (lV EX ⟨by simp,by simp,by simp,λx h=>absurd h (by simp),by simp⟩)) (.cons iz .nil);refine aZ c1 [(35,ae),(41,ae),(46,ab),(50,ab)] rfl ?_ (AK.bq rfl ?_)
  .simp only[ar,cP.list_fn,cP.au,cX.list_fn,cX.au,cH.list_fn,cH.au,cI.list_fn,cI.au,l,t,q,fE,aC,aB];simp
  .simp
 |true =>
  have M:=gf.1 t;rw[t,bc rfl]at j k;obtain⟨st,ms,H⟩:=w;cases H with
  |nil =>
   have e:(eC (st,ms,[]),x4 (st,ms,[]))=(((st,ms,[]):br),ae):=rfl;rw[e]at j k;refine AK.cQ j [] rfl ?_;refine bA rfl aq ?_;refine AK.cQ k [] rfl ?_;have c1:bR (Cx.beside ag) [(9,mH [nu (st,ms,[]),nu (st,ms,[])] (dB ab)),(10,gR)]:=.cons (nZ (lV (st,ms,[]) v.s)) (.cons iz .nil);refine aZ c1 [(35,ae),(41,ae),(46,ae),(56,ab),(61,ab)] rfl ?_ (AK.bq rfl ?_)
   .simp only[ar,cP.list_fn,cP.au,cX.list_fn,cX.au,cH.list_fn,cH.au,cI.list_fn,cI.au,l,t,q,er,aC,aB];simp
   .simp
  |cons no r =>
   have e:(eC (st,ms,no::r),x4 (st,ms,no::r))=((((cp no ms st.1,st.2),ms,r):br),ab):=rfl;rw[e]at j k;have G:Dk ((cp no ms st.1,st.2),ms,r):=B.step;refine AK.cQ j [] rfl ?_;refine bA rfl aq ?_;refine AK.cQ k [] rfl ?_;have c1:bR (Cx.beside ag) [(9,mH [nu ((cp no ms st.1,st.2),ms,r),nu ((cp no ms st.1,st.2),ms,r)] (dB ab)),(10,gR)]:=.cons (nZ (lV _ G.sz.s)) (.cons iz .nil);refine aZ c1 [(35,ae),(41,ae),(46,ae),(56,ae)] rfl ?_ ?_
   .simp only[ar,cP.list_fn,cP.au,cX.list_fn,cX.au,cH.list_fn,cH.au,cI.list_fn,cI.au,l,t,q,er,aC,aB];simp
   have J:st.1.length<=4000000:=v.s.p;refine AK.bS 3 (λi=>i<=st.1.length) (λi:Nat=>[(3,dI 7),(4,.e (.one (.ptr 0 0))),(7,.e (.one (.ptr 2 0))),(9,dI (stepT no ms st.1 i).length),(10,dI i)])
    (λ_=>stY (st,ms,no::r) ((cp no ms st.1,st.2),ms,r)) (λi=>st.1.length-i) 0 rfl ?_ rfl ?_ rfl (by omega) ?_
   .simp[stepT,cp]
   .simp
   intro i hi;by_cases h:i<st.1.length
   .have z:st.1.getD i cP.b8=st.1.getD i (0,[]):=rfl;have C:(st.1.getD i (0,[])).2.length<=4000000:=v.s.p2 _ (gA h (0,[]));have d:=qj (no:=no) (ms:=ms) h;have K:=tE no ms st.1 hi;have g:=λf=>H6 (no:=no) (ms:=ms) h f;have A:(no::r).getD (Int.toNat 0) cI.b8=no:=rfl;have D:=xC (X:=Cx.beside ag) (st.1.getD i (0,[])) ms C;generalize P:stepT no ms st.1 i=a at *;generalize O:st.1.getD i (0,[])=p at *;have u:bR (Cx.beside ag) [(11,mH [qo p,cI.sl ms] (qo (ck p ms))),(12,Q4)]:=.cons (nZ D) (.cons T3 .nil);by_cases y:p.1=no
    .have n:eu no ms p=ck p ms:=by unfold eu;rw[bc y]
     rw[n]at d g;by_cases f:(ck p ms).2.length=0
     .rw[bc f]at d;refine aZ u [(71,ab),(86,ab),(94,ab)] rfl ?_ (AK.aQ (i+1) rfl ?_ ?_ h (by omega))
      .simp only[ar,bD,z,A,bt,en,eG,dG,cT,bh,bM,er,ef.au,ef.list_fn,aC,aB];and_intros<;>first|rfl|exact y|omega
      .rw[d];simp
      .simp
     .rw[aW f]at d;obtain⟨L,g2⟩:=g f;have o:(cp no ms st.1).getD a.length cP.b8=ck p ms:=g2;refine aZ u [(71,ab),(86,ab),(94,ae),(101,ae),(111,ae)] rfl ?_ (AK.aQ (i+1) rfl ?_ ?_ h (by omega))
      .simp only[ar,bD,z,A,bt,en,eG,dG,cT,bh,bM,er,o,ef.au,ef.list_fn,aC,aB];and_intros<;>first|rfl|exact y|omega
      .rw[d];simp
      .simp
    .have n:eu no ms p=p:=by unfold eu;rw[aW y]
     rw[n]at d g;by_cases f:p.2.length=0
     .rw[bc f]at d;refine aZ u [(71,ab),(86,ae),(94,ab)] rfl ?_ (AK.aQ (i+1) rfl ?_ ?_ h (by omega))
      .simp only[ar,bD,z,A,bt,en,eG,dG,cT,bh,bM,er,ef.au,ef.list_fn,aC,aB];and_intros<;>first|rfl|exact y|omega
      .rw[d];simp
      .simp
     .rw[aW f]at d;obtain⟨L,g2⟩:=g f;have o:(cp no ms st.1).getD a.length cP.b8=p:=g2;refine aZ u [(71,ab),(86,ae),(94,ae),(101,ae),(111,ae)] rfl ?_ (AK.aQ (i+1) rfl ?_ ?_ h (by omega))
      .simp only[ar,bD,z,A,bt,en,eG,dG,cT,bh,bM,er,o,ef.au,ef.list_fn,aC,aB];and_intros<;>first|rfl|exact y|omega
      .rw[d];simp
      .simp
   obtain rfl:i=st.1.length:=by omega
   have F:stepT no ms st.1 st.1.length=cp no ms st.1:=by unfold stepT;rw[cB]
   rw[F];refine bE [(71,ae)] rfl (by simp) (AK.leaveD rfl rfl ?_);have u:bR (Cx.beside ag) [(13,NG),(14,Q3)]:=.cons Q2 (.cons T2 .nil);have E:cI.list (cr (no::r).length af-cr 0 (aa 1)) (k9 (cr 0 (aa 1)) (cI.fn (no::r)))=r:=by have:=iT.CY cI (no::r) 1 r.length (by simp;omega);simpa[cr]using this
   refine aZ u [(120,ab),(128,ab),(135,ab)] rfl ?_ (AK.bq rfl ?_)
   .simp only[ar,E,cI.au,cI.list_fn,cH.au,cH.list_fn,aC,aB];exact⟨iT.CZ cI _,by omega,by simp<;>omega,by simp⟩
   .simp
end R1
end Go.AM
