/- Part 7. No condition. -/
import Derived.Test.YtpddeenenibhjaaGreatDoorA6
set_option linter.all false
set_option maxHeartbeats 8000000
open Go.Proofs
open Go renaming Value → aj, TypeId → aw, Frame → aV, Operand → aC, World → aA, Program → aO, Oper → aB, Goroutine → aq
open Bool renaming true → ab, false → ae
open List renaming getD_eq_getElem?_getD → ai
open Go.Proofs.Tryz renaming prog → ag
namespace Go.AM
variable {n k l b i j:Nat}{E:aw}{H:aj->(Nat->Option Obj)->Prop}{L:Array Bool}{M:Mem}{N:Nat}{P:aO}{S:aq->St->Prop}{c:Code}{g:aq}{o:aB}{s:St}{t:aw}{v:aj}{w:aA}{x y:aC}{α:Type}{η:aC->D}{ι:Type}{σ:List bm}{φ:Fr}{all:List aB}{jP:Array aw}{cap:List C}{cu:List D}{cs:List aV}{ds:List (Nat×Bool)}{es:Nat->List C}{fo:aC}{gs:Array aq}{obs:List Prop}{off:Nat}{op:BinOp}{ops:Array aB}{ps:List Prop}{rest:List aB}{s':St}{ty:aw}{val:Nat->Nat->aj}{vs:List aj}{w':aA}{xs:Array aC}{σ' σs:List bm}{res:ι->D}{σ1:ι->List bm}
variable {CT:List (Nat×dz)}{K:List It}{Qf:Post}{T:List (Nat×TI)}{ie:TI}
namespace R1
def Mi{k:Int}{s:bo}{c:List Int}(h:rr k s)(d:iy s c=s.2.1)(m:(bD s.1).length=(cy s.2.1).length):l5 s c=s:=by
 have e:∀n∈bD s.1,n∈cy s.2.1:=λn l=>by
  refine Classical.byContradiction λi=>?_;have g:=(qA s.2.1).imp (S:=λa b=>a≠b) λh=>by omega
  have:=qN (n::cy s.2.1) (bD s.1) (List.nodup_cons.2 ⟨i,g⟩) λq f=>by
   rcases dC.1 f with rfl|f
   .exact l
   .exact Dm (keep:=c) h (by rw[d];exact f)
  simp only[fQ]at this;omega
 show(iD (cy (iy s c)) s.1,iy s c,s.2.2)=s;rw[d,xL e λp j=>by have:=(h.pk p j).len.1;grind]
def uJ(m:Nat)(b:Nat->Int)(F:Bytes b)(_:m<=9223372036854775807):Ev (Cx.beside ag) 6 [.e (.one (.c (.sl ae 1 m (yY b))))] [] (dB ab) []:=by
 refine Ev.bQ Tryz.func6 rfl λK=>?_;by_cases L:1048576<m
 .refine aX [(18,ab)] rfl (by simp;omega) (AK.bn rfl ?_);simp
 refine aX [(18,ae)] rfl (by simp;omega) ?_;refine AK.cP (ou m b F (by omega)) [] rfl (λ_=>rfl) ?_;rintro⟨⟨s,keep⟩,z,v⟩;simp only at z v;have g:=z.sz;have d:=z.sm;have n:=tN (X:=Cx.beside ag) 7 s keep g d.toZk;have k:=nB 7 s keep g d;refine bw rfl ar ?_;cases C:fp 7 s with
 |false =>
  have e:yj 7 s keep=(Ib,ae):=a9 (by rw[C];simp);rw[e]at n k;refine AK.cQ n [] rfl ?_;refine bw rfl ar ?_;refine AK.cQ k [] rfl ?_;have c1:bG (Cx.beside ag) [(11,pt [CZ Ib,CZ Ib] (dB ab))]:=.cons (rh (j7 Ib ⟨by simp,by simp,by simp,λx h=>absurd h (by simp),by simp⟩)) .nil;refine bt c1 [(42,ae),(48,ae),(51,ab),(55,ab)] rfl (by simp) (AK.bn rfl ?_);simp
 |true =>
  have r:=jl.1 C;rw[nC r]at n k;refine AK.cQ n [] rfl ?_;refine bw rfl ar ?_;refine AK.cQ k [] rfl ?_;have H:=pK g keep;have G:=Ff d g keep;have c1:bG (Cx.beside ag) [(11,pt [CZ (mS s keep),CZ (mS s keep)] (dB ab))]:=.cons (rh (j7 _ (lW g keep))) .nil;refine bt c1 [(42,ae),(48,ae),(51,ae),(1000008,ab)] rfl (by simp) ?_;clear c1 n k;have J:=g.sn;have j:∀i,i<=s.2.1.length->((s.2.1.take i).map (·.1)).length=i:=λi hi=>by simp;omega
  refine bF [(1000009,ab)] rfl ar ?_;refine AK.g6 10 3 1 rfl rfl ?_;refine c9 rfl ar ?_;refine AK.bX 4 (λi=>i<=s.2.1.length) (λi:Nat=>[(3,dI 7),(4,.e (.one (.ptr 0 0))),(10,.e (.one (.vec 3 1 ((s.2.1.take i).map (·.1)).length (cI.fn ((s.2.1.take i).map (·.1)))))),(11,dI i)]) (λi=>[sv s,Dw (mS s keep),Dw (mS s keep),.vec 3 1 ((s.2.1.take i).map (·.1)).length (cI.fn ((s.2.1.take i).map (·.1)))]) (λi=>s.2.1.length-i) 0 rfl (by simp) rfl (by simp) rfl (by omega) ?_;intro i hi;have I:=j i hi;by_cases w:i<s.2.1.length
  .have y:s.2.1.getD i ee.bP=s.2.1.getD i (0,[]):=rfl;have l:=map_take (f:=λp:cg=>p.1) w (0,[]);generalize(s.2.1.take i).map (λp:cg=>p.1)=a at *;generalize s.2.1.getD i (0,[])=p at *;have q:=cI.cp a p.1;refine bF [(65,ab)] rfl ?_ (AK.aQ (i+1) rfl ?_ ?_ w (by omega))
   .simp[-ai,y,w,bx,show i3.bytes=8 from rfl];omega
   .rw[l];simp only[au.cat,au,bM,y,cf,ey,aF,aE];and_intros<;>first|exact cw.same|exact q|rfl|omega
   .rw[l];simp only[au.cat,au,bM,y,cf,ey,aF,aE];and_intros<;>first|exact cw.same|exact q|rfl|omega
  obtain rfl:i=s.2.1.length:=by omega
  rw[cC];have u:iy s (s.2.1.map (·.1))=s.2.1:=oQ.2 λx q=>by simpa using⟨x.2,q⟩
  have D:=nB 7 s (s.2.1.map (·.1)) g d;rw[nC r]at D;have B:=ln 7 (mS s (s.2.1.map (·.1))) (vl d g _) (lW g _);rw[sM r]at B;have o:(bD s.1).length=(cy s.2.1).length->l5 s (s.2.1.map (·.1))=s:=λt=>Mi r u t;have E:=pK g (s.2.1.map (·.1));generalize s.2.1.map (·.1)=al at *;refine bF [(65,ae)] rfl (by simp) (AK.leaveD rfl rfl ?_);refine AK.G7 (φ':=[(3,dI 7),(4,.e (.one (.ptr 0 0))),(10,cI.sl al)]) (σ':=[sv s,Dw (mS s keep),Dw (mS s keep),.vec 3 1 al.length (cI.fn al)]) ?_ rfl (by simp) rfl (by simp);refine c9 rfl ar ?_;refine AK.cQ D [] rfl ?_;refine c9 rfl ar ?_;refine AK.cQ B [] rfl ?_;by_cases t:(bD s.1).length=(cy s.2.1).length
  .have A:=o t;rw[A]at *;have c2:bG (Cx.beside ag) [(19,GB),(15,GF),(18,pt [nc s,nc s] (dB ab))]:=.cons Mc (.cons Mj (.cons (rh (rl _ g)) .nil));refine bt c2 [(91,ab),(94,ab),(100,ae)] rfl ?_ (AK.bn rfl ?_)
   .simp only[au,cP.list_fn,ee.list_fn,cH.list_fn,cI.list_fn,bx];and_intros<;>first|rfl|exact True.intro|exact cP.aJ _|exact ee.aJ _|exact cH.aJ _|exact g.s2|exact g.sn|exact g.p2|exact d.nm|exact d.aN|(simp[t];done)|omega
   .simp
  .have c2:bG (Cx.beside ag) [(19,GB),(15,GF)]:=.cons Mc (.cons Mj .nil);refine bt c2 [(91,ab),(94,ab),(100,ab)] rfl ?_ (AK.bn rfl ?_)
   .simp only[au,cP.list_fn,ee.list_fn,cH.list_fn,cI.list_fn,bx];and_intros<;>first|rfl|exact True.intro|exact cP.aJ _|exact ee.aJ _|exact cH.aJ _|exact g.s2|exact g.sn|exact g.p2|exact d.nm|exact d.aN|(simp;omega)|omega
   .simp
end R1
end Go.AM
