/-
  Part 7: a machine of values without memory, sound over the model, and contracts of functions. No condition.
-/
import Derived.Test.YtemefbgdmkionaaGreatDoorA6
import Derived.Conc.LeavingOf
import Derived.Below
import Derived.ProofKit
import Derived.OpenShut
import Derived.OpenVars
import Derived.LaidMore
import Derived.Lay
import Derived.SevenTiedAt
set_option linter.unusedVariables false
set_option linter.unusedSimpArgs false
set_option linter.defProp false
set_option linter.deprecated false
open Go renaming Value → ak
open Option renaming some → aa
open Go renaming Program → an
open Go renaming TypeId → ar
open Bool renaming true → ab
open Option renaming none → af
open Go renaming Oper → av
open Go renaming Operand → aq
open Bool renaming false → ae
open Go renaming undef → aj
open List renaming getD_eq_getElem?_getD → ag
open Go.Sem renaming events_bind → aP
open Go.Result renaming evThen_ok → aV
open Go renaming execOp → aw
open Go renaming World → az
open Go renaming stepG → aK
open Go renaming Frame → aQ
open List renaming range → bc
open Go renaming FuncId → aX
open Nat renaming beq → aA
open Go.Proofs.Tryz renaming prog → ah
open List renaming all_eq_true → bq
namespace Go.AM.R1
open Go.Proofs
variable {X:Cx ah}
set_option maxHeartbeats 8000000 in
theorem Om(k:Int)(s:xp)(e:gR)(n:Nat)(h:WI n s)(q:n<=1000) :
  Ev X 27 [YO k s,VZ e] (F0 s) (YP k (uq k s e).1 (uq k s e).2) (F0 (uq k s e).1):=by
 refine Ev.BH tok Tryz.func27 rfl rfl rfl λt=>?_
 have j:=h.w.sz (by omega)
 have b:b5 X [(18,pn),(58,SH),(61,F1)]:=.cons qp (.cons t58 (.cons On .nil));unfold uq
 by_cases g:e.1=1
 .rw[aU g]
  by_cases c:1<=e.2.1/\e.2.1<=2
  rotate_left
  .rw[aO (λh=>c h.1)]
   refine aE b [(13,ab),(16,ae),(21,ae)] 200 rfl ?_ ?_
   .simp only[ai,g,fp,aG,aF];rw[cJ c]
   refine AK.lZ () [0,1] rfl rfl rfl rfl rfl rfl rfl rfl rfl ?_ rfl rfl rfl rfl ll;simp[ai.cat,ai,a9.same]
  cases a:dt e.2.2.1 with
  |false =>
   rw[aO (by simp)]
   refine aE b [(13,ab),(16,ab),(21,ae)] 200 rfl ?_ ?_
   .simp only[ai,g,c,a,cF.list_fn,cF.aH,iJ,nZ,fp,aG,aF]
   refine AK.lZ () [0,1] rfl rfl rfl rfl rfl rfl rfl rfl rfl ?_ rfl rfl rfl rfl ll;simp[ai.cat,ai,a9.same]
  |true =>
   rw[aU ⟨c,rfl⟩];have o:=HF (X:=X) k s e.2.1 e.2.2.1 n h q c;refine aE b [(13,ab),(16,ab),(21,ab)] 200 rfl ?_ ?_
   .simp only[ai,g,c,a,cF.list_fn,cF.aH,iJ,nZ,fp,aG,aF]
   refine AK.bM o [0,1] rfl rfl rfl rfl rfl rfl rfl rfl rfl rfl rfl ?_;refine aE b [] 200 rfl ay ?_;refine AK.lZ () [0,1] rfl rfl rfl rfl rfl rfl rfl rfl rfl ?_ rfl rfl rfl rfl ll;simp[ai.cat,ai,a9.same]
 rw[aO g]
 by_cases c:e.1=2
 .rw[aU c]
  by_cases a:1<=e.2.1/\e.2.1<=2
  rotate_left
  .rw[aO a];refine aE b [(13,ae),(31,ab),(34,ae)] 200 rfl ?_ ?_
   .simp only[ai,c,fp,aG,aF];rw[cJ a];decide
   refine AK.lZ () [0,1] rfl rfl rfl rfl rfl rfl rfl rfl rfl ?_ rfl rfl rfl rfl ll;simp[ai.cat,ai,a9.same]
  .rw[aU a];have r:=tI (X:=X) k s.1 s.2.1 e.2.1 s.2.2.1 s.2.2.2 h.w.s.LC a h.k h.f;refine aE b [(13,ae),(31,ab),(34,ab)] 200 rfl ?_ ?_
   .simp only[ai,c,a,iJ,nZ,fp,aG,aF];decide
   refine AK.bM r [0,1] rfl rfl rfl rfl rfl rfl rfl rfl rfl rfl rfl ?_;refine aE b [] 200 rfl ay ?_;refine AK.lZ () [0,1] rfl rfl rfl rfl rfl rfl rfl rfl rfl ?_ rfl rfl rfl rfl ll;simp[ai.cat,ai,a9.same]
 rw[aO c]
 by_cases a:e.1=3
 .rw[aU a];refine aE b [(13,ae),(31,ae),(40,ab)] 200 rfl ?_ ?_
  .simp only[ai,a,fp,aG,aF];decide
  refine AK.lZ () [0,1] rfl rfl rfl rfl rfl rfl rfl rfl rfl ?_ rfl rfl rfl rfl ll;simp[ai.cat,ai,a9.same]
 rw[aO a]
 by_cases i:e.1=4
 .rw[aU i]
  by_cases d:s.1.2.2.length=0
  .rw[aU d];have p:(s.1.2.2.length:Int)=0:=by omega
   refine aE b [(13,ae),(31,ae),(40,ae),(46,ab),(51,ab)] 200 rfl ?_ ?_
   .simp only[ai,i,p,j.s,j.m,cP.list_fn,cP.aH,dz.list_fn,dz.aH,cH.list_fn,cH.aH,cI.list_fn,cI.aH,fp,aG,aF];decide
   refine AK.lZ () [0,1] rfl rfl rfl rfl rfl rfl rfl rfl rfl ?_ rfl rfl rfl rfl ll;simp[ai.cat,ai,a9.same,cP.list_fn,dz.list_fn,cH.list_fn,cI.list_fn]
  .rw[aO d];refine aE b [(13,ae),(31,ae),(40,ae),(46,ab),(51,ae)] 200 rfl ?_ ?_
   .simp only[ai,i,fp,dx,cW,aG,aF];and_intros <;> first|decide|omega
   refine AK.lZ () [0,1] rfl rfl rfl rfl rfl rfl rfl rfl rfl ?_ rfl rfl rfl rfl ll;simp[ai.cat,ai,a9.same]
 rw[aO i]
 by_cases d:e.1=5
 .rw[aU d];have o:=HG (X:=X) s.1 j.s j.n j.l;refine aE b [(13,ae),(31,ae),(40,ae),(46,ae),(67,ab)] 200 rfl ?_ ?_
  .simp only[ai,d,fp,aG,aF];decide
  refine AK.bM o [] rfl rfl rfl rfl rfl rfl rfl rfl rfl rfl rfl ?_;refine aE b [] 200 rfl ay ?_;refine AK.lZ () [0,1] rfl rfl rfl rfl rfl rfl rfl rfl rfl ?_ rfl rfl rfl rfl ll;simp[ai.cat,ai,a9.same]
 rw[aO d];refine aE b [(13,ae),(31,ae),(40,ae),(46,ae),(67,ae)] 200 rfl ?_ ?_
 .simp only[ai,dx,cW,aG,aF];exact⟨d,i,a,c,g⟩
 refine AK.lZ () [0,1] rfl rfl rfl rfl rfl rfl rfl rfl rfl ?_ rfl rfl rfl rfl ll;simp[ai.cat,ai,a9.same]
abbrev LD(l:gM):List A:=[.c (.int .i64 l.1),.c (.int .i64 l.2.1),.c (.int .i64 l.2.2.1),.c (.str l.2.2.2)]
abbrev dKf(b:List (Int×Int))(a:List Int):List aW:=[.buf 48 2 b.length (cH.fn b),.buf 3 1 a.length (cI.fn a)]
abbrev Sk(w:fA)(v b:Nat):List A:=.c (.int .i64 w.1)::([qU cP w.2.1.1.1,qU dz w.2.1.1.2.1,qU cH w.2.1.1.2.2,qU cI w.2.1.2.1,.vec v 1 w.2.1.2.2.length (cI.fn w.2.1.2.2)]++LD w.2.2.1++[.bp b (.sl w.2.2.2.1.length 2 0 w.2.2.2.1.length),.bp (b+1) (.sl w.2.2.2.2.length 1 0 w.2.2.2.2.length)])
abbrev HH(w:fA):aW:=.cells 35 (VW w)
abbrev ur(w:cU):aW:=.vec 3 1 w.2.2.length (cI.fn w.2.2)
def cv4(w:fA)(a b c d:Bool):List aW :=
 match a,b,c,d with
 |true,ab,ab,ab=>[HH w,.cells 35 (.c (.int .i64 w.1)::([qU cP w.2.1.1.1,qU dz w.2.1.1.2.1,qU cH w.2.1.1.2.2,qU cI w.2.1.2.1,.vec 2 1 w.2.1.2.2.length (cI.fn w.2.1.2.2)]++LD w.2.2.1++[.bp 3 (.sl (0+w.2.2.2.1.length) 2 0 (0+w.2.2.2.1.length)),.bp 4 (.sl (0+w.2.2.2.2.length) 1 0 (0+w.2.2.2.2.length))])),ur w.2.1,
   .buf 48 2 (0+w.2.2.2.1.length) (cX 0 (λi=>([]:List (List C)).getD i []) (cH.fn w.2.2.2.1)),.buf 3 1 (0+w.2.2.2.2.length) (cX 0 (λi=>([]:List (List C)).getD i []) (cI.fn w.2.2.2.2))]
 |true,ab,ab,ae=>[HH w,oO,ur w.2.1,.buf 48 2 (0+w.2.2.2.1.length) (cX 0 (λi=>([]:List (List C)).getD i []) (cH.fn w.2.2.2.1)),.buf 3 1 (0+w.2.2.2.2.length) (cX 0 (λi=>([]:List (List C)).getD i []) (cI.fn w.2.2.2.2))]
 |true,ab,ae,_=>[HH w,oO,ur w.2.1,.buf 48 2 (0+w.2.2.2.1.length) (cX 0 (λi=>([]:List (List C)).getD i []) (cH.fn w.2.2.2.1))]
 |true,ae,_,_=>[HH w,oO,ur w.2.1]
 |false,_,_,_=>[HH w,oO]
abbrev Vg(k:Nat):D:=.e (.one (.c (.sl ab k 0 λi=>([]:List (List C)).getD i [])))
abbrev YQ(w:cU)(v:Nat):List A:=[qU cP w.1.1,qU dz w.1.2.1,qU cH w.1.2.2,qU cI w.2.1,.vec v 1 w.2.2.length (cI.fn w.2.2)]
abbrev xCv(w:fA)(i:Nat):D :=
 [.e (.one (.ptr 0 0)),dI w.1,.e (.one (.ptr 0 1)),H5 w.2.1,.e (.agg (YQ w.2.1 2)),.e (.one (.ptr 0 6)),sc w.2.2.1,Vg 2,.e (.one (.ptr 0 10)),cH.sl w.2.2.2.1,.e (.one (.bp 3 (.sl (0+w.2.2.2.1.length) 2 0 (0+w.2.2.2.1.length)))),Vg 1,.e (.one (.ptr 0 11)),cI.sl w.2.2.2.2,.e (.one (.bp 4 (.sl (0+w.2.2.2.2.length) 1 0 (0+w.2.2.2.2.length)))),
  .e (.agg (.c (.int .i64 w.1)::(YQ w.2.1 2++LD w.2.2.1++[.bp 3 (.sl (0+w.2.2.2.1.length) 2 0 (0+w.2.2.2.1.length)),.bp 4 (.sl (0+w.2.2.2.2.length) 1 0 (0+w.2.2.2.2.length))]))),.any].getD i .any
set_option maxHeartbeats 8000000 in
set_option maxRecDepth 20000 in
theorem qX(w:fA)(h:LF w.2.1)(q:w.2.2.2.1.length<=4000000)(o:w.2.2.2.2.length<=4000000):Ev X 29 [VX w] [] (.e (.agg (Sk w 0 1))) ([ur w.2.1]++dKf w.2.2.2.1 w.2.2.2.2):=by
 refine Ev.lY tok Tryz.func29 rfl rfl rfl λp=>?_
 have f:b5 X [(66,FH [H5 w.2.1] [] (.e (.agg (YQ w.2.1 0))) [ur w.2.1])]:=.cons (Ks (xk w.2.1 h.s h.n h.l)) .nil;have i:(0+w.2.2.2.1.length)*i48.bytes<=140737488355328:=by rw[show i48.bytes=16 from rfl];omega
 have k:(0+w.2.2.2.2.length)*i3.bytes<=140737488355328:=by rw[show i3.bytes=8 from rfl];omega
 refine aE f [(1000001,ab)] 200 rfl ay ?_;refine AK.flags eQ (xCv w) (ya (cv4 w) 4 10 14 16) rfl rfl rfl rfl
  ⟨ez.q4 rfl rfl rfl rfl (λa b c d=>by cases a <;> cases b <;> cases c <;> cases d <;> exact OA.cK tok f rfl),
  ez.q4 rfl rfl rfl rfl (λa b c d=>by cases a <;> cases b <;> cases c <;> cases d <;> exact OA.cK tok f rfl),
  ez.q4 rfl rfl rfl rfl (λa b c d=>by cases a <;> cases b <;> cases c <;> cases d <;> exact OA.cK tok f rfl),
  ez.q4 rfl rfl rfl rfl (λa b c d=>by cases a <;> cases b <;> cases c <;> cases d <;> exact OA.cK tok f rfl),
  ez.c1 rfl rfl rfl rfl rfl rfl (hY (ds:=[]) tok f (σ':=aa _) rfl ⟨rfl,rfl⟩),
  ez.q4 rfl rfl rfl rfl (λa b c d=>by cases a <;> cases b <;> cases c <;> cases d <;> exact OA.cK tok f rfl),
  ez.q4 rfl rfl rfl rfl (λa b c d=>by cases a <;> cases b <;> cases c <;> cases d <;> exact OA.cK tok f rfl),
  ez.q4 rfl rfl rfl rfl (λa b c d=>by cases a <;> cases b <;> cases c <;> cases d <;> exact OA.cK tok f rfl),
  ez.q4 rfl rfl rfl rfl (λa b c d=>by cases a <;> cases b <;> cases c <;> cases d <;> exact OA.cK tok f rfl),
  ez.q4 rfl rfl rfl rfl (λa b c d=>by cases a <;> cases b <;> cases c <;> cases d <;> exact OA.cK tok f rfl),
  ez.c2 rfl rfl rfl rfl rfl rfl (hY (ds:=[(3000013,ab)]) tok f (σ':=aa _) rfl i),
  ez.q4 rfl rfl rfl rfl (λa b c d=>by cases a <;> cases b <;> cases c <;> cases d <;> exact OA.cK tok f rfl),
  ez.q4 rfl rfl rfl rfl (λa b c d=>by cases a <;> cases b <;> cases c <;> cases d <;> exact OA.cK tok f rfl),
  ez.q4 rfl rfl rfl rfl (λa b c d=>by cases a <;> cases b <;> cases c <;> cases d <;> exact OA.cK tok f rfl),
  ez.c3 rfl rfl rfl rfl rfl rfl (hY (ds:=[(3000017,ab)]) tok f (σ':=aa _) rfl k),
  ez.q4 rfl rfl rfl rfl (λa b c d=>by cases a <;> cases b <;> cases c <;> cases d <;> exact OA.cK tok f rfl),
  ez.c4 rfl rfl rfl rfl rfl rfl (hY (ds:=[]) tok f (σ':=aa _) rfl ay),ay⟩ ?_
 intro D g;show AK X _ _ _ _ _ (cv4 w (D 4) (D 10) (D 14) (D 16));rw[g 4 (by decide),g 10 (by decide),g 14 (by decide),g 16 (by decide)]
 refine aE f [] 1 rfl ay ?_;refine AK.norm [HH w,.cells 35 (Sk w 2 3),ur w.2.1,.buf 48 2 w.2.2.2.1.length (cH.fn w.2.2.2.1),.buf 3 1 w.2.2.2.2.length (cI.fn w.2.2.2.2)] rfl ?_ ?_
 .simp[ai,ai.cat,a9.same,gx]
 refine AK.fC () [2,3,4] rfl rfl rfl rfl rfl rfl rfl rfl ?_ rfl rfl rfl rfl (λj m=>absurd m (by simp))
 simp[ai,ai.cat,a9.same]
end Go.AM.R1
namespace Go.AM
open Go.Conc (G)
section
variable {P:an}{X:Cx P}{N:Nat}{ops:Array av}{φ:Fr}{σ:List aW}{c:Type}{x:c->Nat->D}{S:c->(Nat->Bool)->List aW}{Inv:c->(Nat->Bool)->Prop}
def iM{P:an}(X:Cx P)(N:Nat)(all:List av)(φ:Fr){c:Type}(x:c->Nat->D)(S:c->(Nat->Bool)->List aW)(Inv:c->(Nat->Bool)->Prop)(i:Nat)(o:av):Prop :=
 ∀ b (D:Nat->Bool),Inv b D->(∀ j,iu all i j=ab->D j=ab)->(∀ j,(j=i∨iu all j i=ab)->D j=ae)->tQ X N all o (nL all φ (x b) i) (S b D) (λq:{ a:c // (∀ j,D j=ab->x a j=x b j)/\Inv a (cY i D) }=>x q.1 i) (λq=>S q.1 (cY i D))
def IX{P:an}(X:Cx P)(N:Nat)(all:List av)(φ:Fr){c:Type}(x:c->Nat->D)(S:c->(Nat->Bool)->List aW)(Inv:c->(Nat->Bool)->Prop):List av->Nat->Prop
 |[],_=>True
 |o::r,i=>iM X N all φ x S Inv i o/\IX X N all φ x S Inv r (i+1)
theorem IX.get{all:List av}:∀ {l:List av}{k:Nat},IX X N all φ x S Inv l k->∀ i o,l[i]?=aa o->iM X N all φ x S Inv (k+i) o
 |[],_,_,i,o,h=>by simp at h
 |p::r,k,h,0,o,a=>by simp at a;subst a;exact h.1
 |p::r,k,h,i+1,o,a=>by
  have:=IX.get h.2 i o (by simpa using a)
  rwa [show k+(i+1)=k+1+i by omega]
theorem AK.P7{ops:Array av}{id:Nat}{K:List It}{Qf:Post}(p:P.follows Departure.mixedOrders=ab)(x:c->Nat->D)(S:c->(Nat->Bool)->List aW)(Inv:c->(Nat->Bool)->Prop)(b:c)(j:Inv b λ_=>ae)(r:S b (λ_=>ae)=σ)
  (d:nn ops.toList=ab) (e:tR ops.toList 0=ab) (f:o0 N ops.toList=ab) (one:IX X N ops.toList φ x S Inv ops.toList 0)
  (k:∀ a D,Inv a D->(∀ i,i<ops.toList.length->D i=ab)->AK X N Qf K .normal (MO ops.toList φ (x a)) (S a D)):AK X N Qf (.code (.region id ops ab)::K) .normal φ σ:=by
 have:=AW.reg (X:=X) (N:=N) (φ:=φ) (σ:=σ) p (all:=ops.toList) ops.toList.length x S Inv b j r d e f (ba _)
  (λi h1 h2=>absurd h2 (mq.2 h1)) (λa D _ _ i h1 h2=>absurd h2 (mq.2 h1))
  (λa D i o l n _ m g h=>by
   have h1:=one.get i o n;rw[bm] at h1;exact h1 a D l (vV h i o n g) (Fa h m))
  (Q:=AK X N Qf K) (λa D l q=>by
   rw[uW];exact .nil (k a D l q)) id
 rw[nT] at this;exact this
theorem iM.of{all:List av}{i:Nat}{o:av}(h:∀ d (D:Nat->Bool),Inv d D->(∀ j,iu all i j=ab->D j=ab)->(∀ j,(j=i∨iu all j i=ab)->D j=ae)->Inv d (cY i D)/\OA X N all o (nL all φ (x d) i) (S d D) (x d i) (S d (cY i D))):iM X N all φ x S Inv i o:=by
 intro d D l h1 h2 s a f hh b k cs SS idx rest hb hi hK;obtain⟨g,e⟩:=h d D l h1 h2;exact e s a f hh b k cs SS idx rest hb hi λv s' r1 r2 r3=>hK ⟨d,λ_ _=>rfl,g⟩ v s' r1 r2 r3
theorem iM.ofI{all:List av}{i:Nat}{o:av}(h:∀ e (D:Nat->Bool),Inv e D->(∀ j,iu all i j=ab->D j=ab)->(∀ j,(j=i∨iu all j i=ab)->D j=ae) ->
  ∃ (ι:Type) (y:ι->Go.AM.D) (σ':ι->List aW),tQ X N all o (nL all φ (x e) i) (S e D) y σ'/\∀ j,∃ d,((∀ q,D q=ab->x d q=x e q)/\Inv d (cY i D))/\y j=x d i/\σ' j=S d (cY i D)):iM X N all φ x S Inv i o:=by
 intro e D m h1 h2 s a f hh b k cs SS idx rest hb hi hK;obtain⟨ι,y,σ',n,l⟩:=h e D m h1 h2;refine n s a f hh b k cs SS idx rest hb hi λj v s' r1 r2 r3=>?_
 obtain⟨d,g,p2,p3⟩:=l j;rw[p2] at r1;rw[p3] at r1 r2 r3;exact hK ⟨d,g⟩ v s' r1 r2 r3
end
section
variable {P:an}{X:Cx P}{N:Nat}{all:List av}{φ:Fr}{ι:Type}{x:Option ι->Nat->D}{s:Option ι->Bool->Bool->Bool->List aW}{i m f g d:Nat}{o:av}
abbrev SO(s:Option ι->Bool->Bool->Bool->List aW)(f g d:Nat):Option ι->(Nat->Bool)->List aW:=λa D=>s a (D f) (D g) (D d)
abbrev IO(ι:Type)(m:Nat):Option ι->(Nat->Bool)->Prop:=λa D=>a.isSome=D m
theorem iM.quiet(l:aA m i=ae)(h1:aA f i=ae)(h2:aA g i=ae)(j:aA d i=ae)(h:∀ e a b c,OA X N all o (nL all φ (x e) i) (s e a b c) (x e i) (s e a b c)) :
  iM X N all φ x (SO s f g d) (IO ι m) i o:=by
 refine iM.of λe D k _ _=>⟨?_,?_⟩
 .show e.isSome=cY i D m;rw[ir l];exact k
 .show OA X N all o _ (s e (D f) (D g) (D d)) _ (s e (cY i D f) (cY i D g) (cY i D d));rw[ir h1,ir h2,ir j];exact h _ _ _ _
theorem iM.zL(p:aA m i=ae)(h1:aA f i=ae)(h2:aA g i=ae)(n:aA d i=ae)(r:iu all i m=ab)(h:∀ j a b c,OA X N all o (nL all φ (x (aa j)) i) (s (aa j) a b c) (x (aa j) i) (s (aa j) a b c)) :
  iM X N all φ x (SO s f g d) (IO ι m) i o:=by
 refine iM.of λe D l q _=>⟨?_,?_⟩
 .show e.isSome=cY i D m;rw[ir p];exact l
 .show OA X N all o _ (s e (D f) (D g) (D d)) _ (s e (cY i D f) (cY i D g) (cY i D d));rw[ir h1,ir h2,ir n];have k:=q m r;cases e with
  |none=>have:(af:Option ι).isSome=D m:=l;rw[k] at this;cases this
  |some j=>exact h _ _ _ _
theorem iM.fam(h1:aA f m=ae)(h2:aA g m=ae)(u:aA d m=ae)(v:iu all f m=ab)(y:iu all d m=ab)(p:∀ j q,q=m∨iu all q m=ab∨x (aa j) q=x af q)
  (h:∀ b,tQ X N all o (nL all φ (x af) m) (s af ae b ae) (λj=>x (aa j) m) (λj=>s (aa j) ae b ae)):iM X N all φ x (SO s f g d) (IO ι m) m o:=by
 refine iM.ofI λt D w z l=>?_
 have a:=l m (.inl rfl);have c:=l f (.inr v);have k:=l d (.inr y);have r:t=af:=by
  cases t with
  |none=>rfl
  |some j=>have:(aa j).isSome=D m:=w;rw[a] at this;cases this
 subst r;refine⟨ι,λj=>x (aa j) m,λj=>s (aa j) ae (D g) ae,?_,λj=>⟨aa j,⟨λq n=>?_,?_⟩,rfl,?_⟩⟩
 .show tQ X N all o _ (s af (D f) (D g) (D d)) _ _;rw[c,k];exact h _
 .rcases p j q with rfl|hb|e
  .rw[a] at n;cases n
  .rw[l q (.inr hb)] at n;cases n
  .exact e
 .show (aa j).isSome=cY m D m;rw[Bn];rfl
 .show s (aa j) ae (D g) ae=s (aa j) (cY m D f) (cY m D g) (cY m D d);rw[ir h1,ir h2,ir u,c,k]
theorem iM.W0(l:aA m f=ae)(h2:aA g f=ae)(k:aA d f=ae)(q:iu all f m=ab)(r:iu all d f=ab)
  (h:∀ j b,OA X N all o (nL all φ (x (aa j)) f) (s (aa j) ae b ae) (x (aa j) f) (s (aa j) ab b ae)):iM X N all φ x (SO s f g d) (IO ι m) f o:=by
 refine iM.of λp D c n e=>?_
 have a:=n m q;cases p with
 |none=>have:(af:Option ι).isSome=D m:=c;rw[a] at this;cases this
 |some j =>
  refine⟨?_,?_⟩
  .show (aa j).isSome=cY f D m;rw[ir l];exact c
  .show OA X N all o _ (s (aa j) (D f) (D g) (D d)) _ (s (aa j) (cY f D f) (cY f D g) (cY f D d));rw[Bn,ir h2,ir k,e f (.inl rfl),e d (.inr r)];exact h _ _
theorem iM.W1(j:aA m g=ae)(h1:aA f g=ae)(e:aA d g=ae)(l:iu all d g=ab)
  (h:∀ b a,OA X N all o (nL all φ (x b) g) (s b a ae ae) (x b g) (s b a ab ae)):iM X N all φ x (SO s f g d) (IO ι m) g o:=by
 refine iM.of λb D k n c=>⟨?_,?_⟩
 .show b.isSome=cY g D m;rw[ir j];exact k
 .show OA X N all o _ (s b (D f) (D g) (D d)) _ (s b (cY g D f) (cY g D g) (cY g D d));rw[Bn,ir h1,ir e,c g (.inl rfl),c d (.inr l)];exact h _ _
theorem iM.W2(e:aA m d=ae)(h1:aA f d=ae)(h2:aA g d=ae)(n:iu all d m=ab)(k:iu all d f=ab)(p:iu all d g=ab)
  (h:∀ j,OA X N all o (nL all φ (x (aa j)) d) (s (aa j) ab ab ae) (x (aa j) d) (s (aa j) ab ab ab)):iM X N all φ x (SO s f g d) (IO ι m) d o:=by
 refine iM.of λl D c b q=>?_
 have a:=b m n;cases l with
 |none=>have:(af:Option ι).isSome=D m:=c;rw[a] at this;cases this
 |some j =>
  refine⟨?_,?_⟩
  .show (aa j).isSome=cY d D m;rw[ir e];exact c
  .show OA X N all o _ (s (aa j) (D f) (D g) (D d)) _ (s (aa j) (cY d D f) (cY d D g) (cY d D d));rw[Bn,ir h1,ir h2,b f k,b g p,q d (.inl rfl)];exact h _
end
end Go.AM
namespace Go.AM.R1
open Go.Proofs
variable {X:Cx ah} [X.jN]
abbrev Oo(s:xp):aW:=.cells 35 (C6 7 s.1 s.2.1 2)
abbrev YR(k:Nat):={ q:gR×Nat // EvP k q }
def w5B(m:Nat)(b:Nat->Int)(k:Nat)(s:xp)(a:Option (YR k))(d3 d7 d8:Bool):List aW :=
 match a with
 |none=>match d7 with
  |false=>[nC m b k,oO]++F0 s++[Oo s]
  |true=>[nC m b k,oO]++F0 s++[Oo s,oO]
 |some q=>match d3,d7,d8 with
  |false,ae,_=>[nC m b q.1.2,oO]++F0 s++[Oo s]
  |false,ab,_=>[nC m b q.1.2,oO]++F0 s++[Oo s,oO]
  |true,ae,_=>[nC m b q.1.2,oO]++F0 (uq 7 s q.1.1).1++[Oo s]
  |true,ab,ae=>[nC m b q.1.2,oO]++F0 (uq 7 s q.1.1).1++[Oo s,oO]
  |true,ab,ab=>[nC m b q.1.2,oO]++F0 (uq 7 s q.1.1).1++[Oo s,Oo (uq 7 s q.1.1).1]
abbrev YS(s:xp):D:=.e (.agg (C6 7 s.1 s.2.1 2))
def x5(k:Nat)(s:xp)(a:Option (YR k))(i:Nat):D :=
 match a with
 |none=>[YS s,.e (.one (.ptr 0 0)),.any,.any,.any,.any,.any,.e (.one (.ptr 5 0)),.any,.any].getD i .any
 |some q=>[YS s,.e (.one (.ptr 0 0)),VZ q.1.1,.fW [.agg (C6 7 (uq 7 s q.1.1).1.1 (uq 7 s q.1.1).1.2.1 2),.one (.c (.bool (uq 7 s q.1.1).2))],.fW [.agg (C6 7 (uq 7 s q.1.1).1.1 (uq 7 s q.1.1).1.2.1 2),.one (.c (.bool (uq 7 s q.1.1).2))],
   YS (uq 7 s q.1.1).1,dB (uq 7 s q.1.1).2,.e (.one (.ptr 5 0)),.any,dB (uq 7 s q.1.1).2].getD i .any
abbrev YT:xp:=(Me,xS,YU,YV)
theorem WI.zero:WI 0 YT:=⟨TW.nil,rfl,rfl⟩
theorem LG:∀ j,j<1->([0,5,6,7]:List Nat)[j]?=aa j:=λj a=>by
 match j,a with
 |0,_=>rfl
def ff(es:List gR):xp:=es.foldl (λs e=>(uq 7 s e).1) YT
theorem qY(es:List gR)(e:gR):ff (es++[e])=(uq 7 (ff es) e).1:=by unfold ff;rw[jG];rfl
theorem CV:∀ (r es:List gR),WI es.length (ff es)->WI (es++r).length (ff (es++r))
 |[],es,h=>by rw[hJ];exact h
 |e::r,es,h=>by
  have a:WI (es++[e]).length (ff (es++[e])):=by rw[qY,bF];exact h.do
  have:=CV r (es++[e]) a
  rwa [dq] at this
theorem nK(es:List gR):WI es.length (ff es):=CV es [] WI.zero
def jw(v:Int)(s:xp):fA :=
 if v=0 then (7,s.1,s.2.1,s.2.2.1,[0]) else if v=1 then (7,s.1,s.2.1,s.2.2.1.set 0 (10,(s.2.2.1.getD 0 (0,0)).2),s.2.2.2) else (7,s.1,s.2.1,s.2.2.1,s.2.2.2)
structure Mf (k:Nat) where
 es:List gR
 v:Int
 k1:Nat
 hn:es.length<=8
 lo:k<=k1
 hi:k1<=k+4002
abbrev Mf.w{k:Nat}(q:Mf k):fA:=jw q.v (ff q.es)
theorem yZ{v:Int}{es:List gR}(h:es.length<=8):LF (jw v (ff es)).2.1/\(jw v (ff es)).2.2.2.1.length<=2/\(jw v (ff es)).2.2.2.2.length<=2:=by
 have b:=nK es;have a:=b.w.sz (by omega)
 have d:=b.k;have c:=b.f;unfold jw;split
 .exact⟨a,by simp only;omega,by simp⟩
 split
 .exact⟨a,by simp only[mi];omega,by simp only;omega⟩
 .exact⟨a,by simp only;omega,by simp only;omega⟩
set_option maxHeartbeats 8000000 in
set_option maxRecDepth 20000 in
theorem EH(m:Nat)(b:Nat->Int)(G:Bytes b)(k:Nat)(hk:k<=30000)(K:m<=1048576) :
  dZ (ι:=Mf k) X 14 [.e (.one (.ptr 0 0))] [nC m b k] (λq=>.e (.agg (Sk q.w 1 2))) (λq=>[nC m b q.k1,ur q.w.2.1]++dKf q.w.2.2.2.1 q.w.2.2.2.2):=by
 refine dZ.kL tok Tryz.func14 rfl rfl rfl λV=>?_
 refine bP rfl ay ?_;refine AK.bM (AV 7 (by decide)) [] rfl rfl rfl rfl rfl rfl rfl rfl rfl rfl rfl ?_
 refine bP rfl ay ?_;refine AK.cx (ek m b G k 9 (by omega) K (by omega)) [0] rfl rfl rfl rfl rfl rfl rfl (λ_=>rfl) rfl (λ_=>rfl) rfl ?_
 rintro⟨u,u0,u1⟩;refine bP rfl ay ?_;refine AK.cd 5 (λq:Nat×List gR×Nat=>q.1+q.2.1.length<=8/\k<=q.2.2/\q.2.2<=k+1+500*q.2.1.length) (λq=>[(0,.e (.one (.ptr 0 0))),(2,.e (.one (.ptr 1 0))),(3,.e (.one (.ptr 4 0))),(5,dI q.1)])
  (λq=>[nC m b q.2.2,oO]++F0 (ff q.2.1)++[Oo (ff q.2.1)]) (λq=>q.1) (u.toNat,[],k+1) rfl ?_ rfl ?_ rfl ⟨by simp only[eu];omega,by simp only;omega,by simp only;omega⟩ ?_
 .simp only[ai.cat,ai,aG,aF];omega
 .have e:ff []=YT:=rfl;simp[ai.cat,ai,a9.same,e]
 rintro⟨n,es,k1⟩ ⟨Q,S,R⟩;simp only at Q S R;have t:=nK es;have x:=qY es;have y:∀ v,LF (jw v (ff es)).2.1/\(jw v (ff es)).2.2.2.1.length<=2/\(jw v (ff es)).2.2.2.2.length<=2:=λv=>yZ (by omega)
 have o:∀ v k1,k<=k1->k1<=k+4002->∃ q:Mf k,q.w=jw v (ff es)/\q.k1=k1:=λv k1 a b=>⟨⟨es,v,k1,by omega,a,b⟩,rfl,rfl⟩
 by_cases h:0<n
 .refine bd [(15,ab),(1000005,ab)] 100 rfl (by simp only[ai,bh];omega) ?_
  generalize Y:ff es=s at *;refine AK.P7 eQ (x5 k1 s) (SO (w5B m b k1 s) 3 7 8) (IO (YR k1) 2) af rfl rfl rfl rfl rfl
   ⟨iM.quiet rfl rfl rfl rfl (λp a b c=>by rcases p with _|q <;> cases a <;> cases b <;> cases c <;> exact OA.cK tok b5.nil rfl),
   iM.quiet rfl rfl rfl rfl (λp a b c=>by rcases p with _|q <;> cases a <;> cases b <;> cases c <;> exact OA.cK tok b5.nil rfl),
   iM.fam rfl rfl rfl rfl rfl (λj q=>by
    match q with
    |0=>exact .inr (.inr rfl)
    |1=>exact .inr (.inr rfl)
    |2=>exact .inl rfl
    |3=>exact .inr (.inl rfl)
    |4=>exact .inr (.inl rfl)
    |5=>exact .inr (.inl rfl)
    |6=>exact .inr (.inl rfl)
    |7=>exact .inr (.inr rfl)
    |8=>exact .inr (.inr rfl)
    |9=>exact .inr (.inl rfl)
    |q+10=>exact .inr (.inr rfl)) (λa=>by cases a <;> exact tQ.cx (EI m b G k1 (by omega) K) [0] rfl rfl rfl rfl rfl rfl rfl (λ_=>rfl) rfl (λ_=>rfl)),
   iM.W0 rfl rfl rfl rfl rfl (λj a=>by
    have U:b5 X [(27,FH [YO 7 s,VZ j.1.1] (F0 s) (YP 7 (uq 7 s j.1.1).1 (uq 7 s j.1.1).2) (F0 (uq 7 s j.1.1).1))]:=.cons (Ks (Om 7 s j.1.1 es.length t (by omega))) .nil
    cases a <;> exact hY (ds:=[]) tok U (σ':=aa _) rfl ⟨rfl,rfl⟩),
   iM.zL rfl rfl rfl rfl rfl (λq a b c=>by cases a <;> cases b <;> cases c <;> exact OA.cK tok b5.nil rfl),
   iM.zL rfl rfl rfl rfl rfl (λq a b c=>by cases a <;> cases b <;> cases c <;> exact OA.cK tok b5.nil rfl),
   iM.zL rfl rfl rfl rfl rfl (λq a b c=>by cases a <;> cases b <;> cases c <;> exact OA.cK tok b5.nil rfl),
   iM.W1 rfl rfl rfl rfl (λp a=>by rcases p with _|q <;> cases a <;> exact hY (ds:=[]) tok b5.nil (σ':=aa _) rfl ay),
   iM.W2 rfl rfl rfl rfl rfl rfl (λj=>hY (ds:=[]) tok b5.nil (σ':=aa _) rfl ay),
   iM.zL rfl rfl rfl rfl rfl (λq a b c=>by cases a <;> cases b <;> cases c <;> exact OA.cK tok b5.nil rfl),ay⟩ ?_
  intro p D T E;have J:p.isSome=ab:=(show p.isSome=D 2 from T).trans (E 2 (by decide))
  cases p with
  |none=>cases J
  |some q =>
  obtain⟨⟨e,O⟩,C⟩:=q;have H:=C.lo;have I:=C.hi;simp only at H I;show AK X _ _ _ _ _ (w5B m b k1 s (aa ⟨(e,O),C⟩) (D 3) (D 7) (D 8));rw[E 3 (by decide),E 7 (by decide),E 8 (by decide)]
  have x:=x e;refine bP rfl ?_ (AK.bg (n-1,es++[e],O) rfl ?_ rfl rfl rfl ?_ rfl ⟨by simp only[bF,dw];omega,by simp only;omega,by simp only[bF,dw];omega⟩ (by simp only;omega))
  .simp only[ai,bD];omega
  .simp only[ai.cat,ai,aG,aF];omega
  .simp only[x];simp[ai.cat,ai,a9.same]
 refine bd [(15,ae)] 100 rfl (by simp only[ai,bY];omega) (AK.leaveD rfl rfl ?_)
 refine bP rfl ay ?_;refine AK.cx (ek m b G k1 40 (by omega) K (by omega)) [0] rfl rfl rfl rfl rfl rfl rfl (λ_=>rfl) rfl (λ_=>rfl) rfl ?_
 rintro⟨v,v0,v1⟩;have d:(ff es).2.2.1.length=2:=t.k;have g:(ff es).2.2.2.length=2:=t.f
 by_cases M:v=0
 .obtain⟨q,l,B⟩:=o 0 (k1+1) (by omega) (by omega)
  obtain⟨z,N,P⟩:=y 0;have A:=qX (X:=X) _ z (by omega) (by omega)
  refine bd [(29,ab),(1000012,ab)] 100 rfl (by simp[ai,M]) ?_
  refine AK.oV 2 rfl rfl rfl (by simp[ai.cat,ai]) (by simp[ai.cat,ai]) ?_
  refine bP rfl ay ?_;refine AK.my A.EW [] rfl rfl rfl rfl ?_ rfl rfl rfl (λ_=>rfl) rfl (λ_=>rfl) rfl ?_
  .simp only[jw,aU,ai.cat,ai,aG,aF]
   and_intros <;> first|exact a9.same|rfl|omega|exact d|exact g|exact d.symm|exact g.symm|(intro i hi;match i,hi with|0,_=>rfl)|(simp only[mi];omega)
  rintro -;refine bP rfl ay ?_;rw[<-l,show (k1:Int)+1=((q.k1:Nat):Int) by omega]
  refine AK.fC q [0,5,6,7] rfl rfl rfl rfl rfl rfl rfl rfl ?_ rfl rfl rfl rfl LG;simp[ai.cat,ai,a9.same]
 by_cases r:v=1
 .obtain⟨q,l,B⟩:=o 1 (k1+1) (by omega) (by omega)
  obtain⟨z,N,P⟩:=y 1;have A:=qX (X:=X) _ z (by omega) (by omega)
  obtain⟨W,Z,L⟩:∃ a b,(ff es).2.2.1=[a,b]:=by
   match C:(ff es).2.2.1,d with
   |[a,b],_=>exact⟨a,b,rfl⟩
  have F:a9 2 (sR 0 (nu 0 [.int .i64 10,.int .i64 ((ff es).2.2.1.getD 0 (0,0)).2] (cH.fn (ff es).2.2.1))) (cH.fn ((ff es).2.2.1.set 0 (10,((ff es).2.2.1.getD 0 (0,0)).2))):=by
   rw[L];intro i hi
   match i,hi with
   |0,_=>rfl
   |1,_=>rfl
  refine bd [(29,ae),(33,ab),(1000012,ab)] 100 rfl (by simp[ai,r]) ?_
  refine AK.oV 2 rfl rfl rfl (by simp[ai.cat,ai]) (by simp[ai.cat,ai]) ?_
  refine AK.oV 3 rfl rfl rfl (by simp[ai.cat,ai]) (by simp[ai.cat,ai]) ?_
  refine bP rfl ay ?_;refine AK.my A.EW [] rfl rfl rfl rfl ?_ rfl rfl rfl (λ_=>rfl) rfl (λ_=>rfl) rfl ?_
  .simp only[jw,aO (show ¬(1:Int)=0 by decide),aU,ai.cat,ai,aG,aF]
   and_intros <;> first|exact a9.same|exact F|rfl|omega|exact d|exact g|exact d.symm|exact g.symm|(intro i hi;match i,hi with|0,_=>rfl)|(simp only[mi];omega)
  rintro -;refine bP rfl ay ?_;rw[<-l,show (k1:Int)+1=((q.k1:Nat):Int) by omega]
  refine AK.fC q [0,5,6,7] rfl rfl rfl rfl rfl rfl rfl rfl ?_ rfl rfl rfl rfl LG;simp[ai.cat,ai,a9.same]
 .obtain⟨q,l,B⟩:=o v (k1+1) (by omega) (by omega)
  obtain⟨z,N,P⟩:=y v;have A:=qX (X:=X) _ z (by omega) (by omega)
  refine bd [(29,ae),(33,ae),(1000012,ab)] 100 rfl (by simp[ai,M,r]) ?_
  refine AK.oV 2 rfl rfl rfl (by simp[ai.cat,ai]) (by simp[ai.cat,ai]) ?_
  refine AK.oV 3 rfl rfl rfl (by simp[ai.cat,ai]) (by simp[ai.cat,ai]) ?_
  refine bP rfl ay ?_;refine AK.my A.EW [] rfl rfl rfl rfl ?_ rfl rfl rfl (λ_=>rfl) rfl (λ_=>rfl) rfl ?_
  .simp only[jw,aO M,aO r,ai.cat,ai,aG,aF]
   and_intros <;> first|exact a9.same|rfl|omega|exact d|exact g|exact d.symm|exact g.symm|(intro i hi;match i,hi with|0,_=>rfl)|(simp only[mi];omega)
  rintro -;refine bP rfl ay ?_;rw[<-l,show (k1:Int)+1=((q.k1:Nat):Int) by omega]
  refine AK.fC q [0,5,6,7] rfl rfl rfl rfl rfl rfl rfl rfl ?_ rfl rfl rfl rfl LG;simp[ai.cat,ai,a9.same]
end Go.AM.R1
namespace Go.AM.R1
open Go.Proofs
abbrev cTr:List (Nat×dC):=[(98,yr)]
set_option maxHeartbeats 4000000 in
theorem Ew(k:Int)(s:bo)(x:Pc s):Ev (Cx.beside ah) 70 [k7 s,dI k] [] (dB ((bc s.2.1.length).all (j0 k s))) []:=by
 refine Ev.body Tryz.func70 rfl rfl rfl λA=>?_
 have B:=x.sN;have u:=x.sm;have o:b5 (Cx.beside ah) cTr:=.cons GK .nil;refine aE o [] 100 rfl ay ?_;refine AK.cd 1 (λi=>i<=s.2.1.length/\∀ j,j<i->j0 k s j=ab) (λi:Nat=>[(1,dI k),(2,.e (.one (.ptr 0 0))),(10,dz.sl s.2.1),(11,dI s.2.1.length),(12,dI i)]) (λ_=>[HW s]) (λi=>s.2.1.length-i) 0 rfl (by simp[ai.cat,ai,a9.same]) rfl (by simp[ai.cat,ai,a9.same]) rfl ⟨by omega,by omega⟩ ?_
 rintro i ⟨hi,n⟩
 by_cases h:i<s.2.1.length
 .have t:s.2.1.getD i dz.bU=s.2.1.getD i (0,[]):=rfl;have r:s.2.1.getD (i-1) dz.bU=s.2.1.getD (i-1) (0,[]):=rfl;have c:j0 k s i=(decide (1<=(s.2.1.getD i (0,[])).1/\(s.2.1.getD i (0,[])).1<=20)&&Cn (·.1) (0,[]) s.2.1 i&&(cO k (s.2.1.getD i (0,[])) s.1).isSome):=rfl;have v:=mL (f:=λp:dA=>p.1) (d:=(0,[])) (l:=s.2.1) (i:=i)
  have g:=u _ (eK (d:=(0,[])) h);generalize s.2.1.getD i (0,[])=p at *;generalize s.2.1.getD (i-1) (0,[])=p' at *
  by_cases z:1<=p.1
  rotate_left
  .refine aE o [(13,ab),(20,ab),(25,ab),(40,ab)] 100 rfl ?_ (AK.eC (cn.zero rfl ?_))
   .simp[-ag,ai,t];omega
   .rw[dT h (by rw[c,cJ (by omega)];rfl)];simp[ai]
  by_cases c2:p.1<=20
  rotate_left
  .refine aE o [(13,ab),(20,ae),(25,ab),(40,ab)] 100 rfl ?_ (AK.eC (cn.zero rfl ?_))
   .simp[-ag,ai,t];omega
   .rw[dT h (by rw[c,cJ (by omega)];rfl)];simp[ai]
  rw[b9 ⟨z,c2⟩,dH] at c
  by_cases y:i=0
  .subst y;rw[show Cn (·.1) (0,[]) s.2.1 0=ab from rfl,dH] at c
   cases q:(cO k p s.1).isSome with
   |false =>
    refine aE o [(13,ab),(20,ae),(25,ae),(27,ae),(40,ae),(50,ab)] 100 rfl ?_ (AK.eC (cn.zero rfl ?_))
    .simp[-ag,ai,t,bD,cL.list_fn,cL.aH,cP.list_fn,cP.aH,q,g.1];and_intros <;> first|omega|exactλa b m=>g.2 (a,b) m
    .rw[dT h (c.trans q)];simp[ai]
   |true =>
    refine aE o [(13,ab),(20,ae),(25,ae),(27,ae),(40,ae),(50,ae)] 100 rfl ?_ (AK.bg 1 rfl (by simp[ai.cat,ai,a9.same]) rfl rfl rfl (by simp[ai.cat,ai,a9.same]) rfl ⟨h,fy n (c.trans q)⟩ (by omega))
    simp[-ag,ai,t,bD,cL.list_fn,cL.aH,cP.list_fn,cP.aH,q,g.1];and_intros <;> first|omega|exactλa b m=>g.2 (a,b) m
  rw[v y] at c
  by_cases w:p'.1<p.1
  rotate_left
  .refine aE o [(13,ab),(20,ae),(25,ae),(28,ab),(38,ab),(40,ab)] 100 rfl ?_ (AK.eC (cn.zero rfl ?_))
   .simp[-ag,ai,t,r,bD];omega
   .rw[dT h (by rw[c,cJ w];rfl)];simp[ai]
  rw[b9 w,dH] at c;cases q:(cO k p s.1).isSome with
  |false =>
   refine aE o [(13,ab),(20,ae),(25,ae),(28,ab),(38,ae),(40,ae),(50,ab)] 100 rfl ?_ (AK.eC (cn.zero rfl ?_))
   .simp[-ag,ai,t,r,bD,cL.list_fn,cL.aH,cP.list_fn,cP.aH,q,g.1];and_intros <;> first|omega|exactλa b m=>g.2 (a,b) m
   .rw[dT h (c.trans q)];simp[ai]
  |true =>
   refine aE o [(13,ab),(20,ae),(25,ae),(28,ab),(38,ae),(40,ae),(50,ae)] 100 rfl ?_ (AK.bg (i+1) rfl (by simp[ai.cat,ai,a9.same]) rfl rfl rfl (by simp[ai.cat,ai,a9.same]) rfl ⟨h,fy n (c.trans q)⟩ (by omega))
   simp[-ag,ai,t,r,bD,cL.list_fn,cL.aH,cP.list_fn,cP.aH,q,g.1];and_intros <;> first|omega|exactλa b m=>g.2 (a,b) m
 obtain rfl:i=s.2.1.length:=by omega
 rw[bX.2 n];refine aE o [(13,ae)] 100 rfl (by simp[ai]) (AK.leaveD rfl rfl ?_)
 exact aE o [] 100 rfl ay (AK.br rfl (by simp[ai]))
theorem xM(k:Int)(s:bo):gN k s=(cD k&&yN k s&&(bc s.2.1.length).all (j0 k s)&&kT s.2.2):=by
 unfold gN yN;cases (bc s.1.length).all (l7 k s.1) <;> cases decide (b8 s.1).Nodup <;> cases (bc s.2.1.length).all (j0 k s) <;> cases cD k <;> cases kT s.2.2 <;> cases decide (s.1.length<=20) <;> rfl
abbrev RO:dC:=qb Np aI (λs k=>dB (yN k s)) λs k=>[cD k=ab,Pc s]
abbrev RP:dC:=qb Np aI (λs k=>dB ((bc s.2.1.length).all (j0 k s))) λs _=>[Pc s]
theorem Cy(k:Int)(s:bo)(f:Pc s):Ev (Cx.beside ah) 30 [dI k,k7 s] [] (dB (gN k s)) []:=by
 refine Ev.body Tryz.func30 rfl rfl rfl λj=>?_
 have d:b5 (Cx.beside ah) [(67,KX),(68,k6 aI (λk=>dB (cD k)) λ_=>[]),(69,RO),(70,RP),(71,sr)]:=.cons RN (.cons t68 (.cons (.te λs k h=>Eu k s h.1 h.2) (.cons (.te λs k h=>Ew k s h) (.cons NX .nil))))
 have b:=cP.list_fn s.1;have c:=dz.list_fn s.2.1;have a:=cH.list_fn s.2.2;rw[xM];cases e:cD k
 .exact aE d [(10,ae),(15,ae),(20,ae)] 100 rfl (by simp[ai,e,b,c,a,cP.aH,dz.aH,cH.aH]) (AK.br rfl (by simp[ai]))
 cases g:yN k s
 .exact aE d [(10,ab),(15,ae),(20,ae)] 100 rfl (by simp[ai,e,b,c,a,cP.aH,dz.aH,cH.aH,f,g]) (AK.br rfl (by simp[ai]))
 cases i:(bc s.2.1.length).all (j0 k s)
 .exact aE d [(10,ab),(15,ab),(20,ae)] 100 rfl (by simp[-bq,-List.all_eq_false,ai,e,b,c,a,cP.aH,dz.aH,cH.aH,f,g,i]) (AK.br rfl (by simp[ai]))
 exact aE d [(10,ab),(15,ab),(20,ab)] 100 rfl (by simp[-bq,-List.all_eq_false,ai,e,b,c,a,cP.aH,dz.aH,cH.aH,f,g,i]) (AK.br rfl (by simp[ai,a]))
abbrev yO:dC:=qb aI Np (λk s=>dB (gN k s)) λ_ s=>[Pc s]
theorem Ho:eb (Cx.beside ah) 30 yO:=.te λk s h=>Cy k s h
end Go.AM.R1
namespace Go.AM
open Go.Conc (G)
def tq(f:ak)(l:List Int):ak->(Nat->Option Obj)->Prop:=λv a=>v=f/\∃ r es c,f=.map (aa r)/\(∀ b,a b=if b=r then aa (.map es c) else af)/\MapKept.Stamped es c /\
 (∀ e∈es.toList,∃ n,e.key=.int .i64 n/\e.val=.bool ab)/\∀ n,n∈l↔∃ e∈es.toList,e.key=.int .i64 n
structure UX (σ:List aW)(s:St)(b:Nat)(f:ak)(l:List Int)(L:Loc)(r:Nat)(es:Array MapEntry)(c:Nat):Prop where
 at':s.β[b]?=aa L
 v:L.v=f
 m:f=.map (aa r)
 st:MapKept.Stamped es c
 kv:∀ e∈es.toList,∃ n,e.key=.int .i64 n/\e.val=.bool ab
 mem:∀ n,n∈l↔∃ e∈es.toList,e.key=.int .i64 n
 heap:s.w.heap[r]?=aa (.map es c)
 bs:∀ b,b∈L.bs↔b=r
theorem tq.open{σ:List aW}{s:St}{b:Nat}{f:ak}{l:List Int}(hh:aJ σ s)(hl:σ[b]?=aa (.dM (tq f l))):∃ L r es c,UX σ s b f l L r es c:=by
 have hb:b<s.β.length:=by rw[hh.len];exact(bt.1 hl).1
 obtain⟨ch,⟨h1,r,es,c,h2,a,d,h,j⟩,g,i,_⟩:=hh.box b _ _ hl (aR hb);exact⟨_,r,es,c,aR hb,h1,h2,d,h,j,g r _ (by rw[a,aU rfl]),λb=>by rw[i,a];by_cases e:b=r <;> simp[e]⟩
section
variable {P:an}{o:av}{p:aq->D}{σ:List aW}{T q t:ar}{x y z:aq}{f:ak}{l:List Int}{n:Int}{b:Nat}
theorem UY{es:Array MapEntry}(h:∀ e∈es.toList,∃ n,e.key=.int .i64 n/\e.val=.bool ab):∀ e∈es.toList,MapKept.IsKey (.int .i64) e.key:=λe a=>by
 obtain⟨n,c,_⟩:=h e a;rw[c];rfl
theorem Z3{σ:List aW}{s:St}{v f:ak}{d:D}(h:dh σ s v d)(e:d=.e (.one (.v f))):v=f:=by subst e;exact Rd.gm h
theorem Z4{σ:List aW}{s:St}{v:ak}{n:Int}{d:D}(h:dh σ s v d)(e:d=.e (.one (.c (.int .i64 n)))):v=.int .i64 n:=by
 subst e;have:=ga h;generalize v=w at this;cases this;rfl
theorem bR.NL(h:o.op=.lookup T x y ae)(E:P.underlying T=aa (.map q t))(B:P.underlying q=aa (.int .i64))(J:∀ w,(zeroValue t).run P w=.ok (.bool ae) w)(hl:σ[b]?=aa (.dM (tq f l)))
  (R:p x=.e (.one (.v f))) (M:p y=.e (.one (.c (.int .i64 n)))):bR P o p σ (.e (.one (.c (.bool (l.contains n))))) σ:=by
 refine bR.n5 λs ρ hh hr=>?_
 obtain⟨L,r,es,c,g⟩:=tq.open hh hl;have ex:ρ x=.map (aa r):=(Z3 (hr x) R).trans g.m;have F:=Z4 (hr y) M;obtain⟨a,A⟩:=yd (d:=.int .i64) (k:=.int .i64 n) rfl (UY g.kv);have Q:oG s ⟨.obj r,ae,ae⟩:=lT (bz g.at') ((g.bs r).2 rfl);have key:∃ v:Bool,(Instr.lookup T (.map (aa r)) (.int .i64 n) ae).run P s.w=.ok (.bool v) s.w/\(Instr.lookup T (.map (aa r)) (.int .i64 n) ae).events P s.w #[]=#[⟨.obj r,ae,ae⟩]/\v=l.contains n:=by
  cases a with
  |none =>
   obtain⟨i,u⟩:=tT (ok:=ae) E B g.heap A (λ_=>J s.w)
   exact⟨ae,i,u,by
    symm;rw[<-ln,zb,g.mem]
    rintro⟨e,O,B⟩;exact A.no rfl e O B⟩
  |some jv =>
   obtain⟨j,v⟩:=jv;obtain⟨i,u⟩:=tT (ok:=ae) (z:=aj) E B g.heap A (λh=>by cases h)
   obtain⟨e,h1,h2,I⟩:=A.yes j v rfl;have C:e∈es.toList:=by rw[Array.mem_toList_iff];exact pA h1
   obtain⟨_,_,G⟩:=g.kv e C;exact⟨ab,i.trans (show Result.ok v s.w=_ by rw[show v=.bool ab from I.symm.trans G]),u,by symm;rw[zb,g.mem];exact⟨e,C,h2⟩⟩
 obtain⟨v,i,u,H⟩:=key;refine⟨.bool v,?_,by rw[<-H];exact Rd.bool,?_⟩
 .simp only[aw,h,ex,F,bZ,i,cg,c7]
 .simp only[aw,h,ex,F,aP,i,u,aV,Sem.events_pure];exact .one Q
theorem bR.RI(h:o.op=.mapUpdate T x y z)(O:P.underlying T=aa (.map q t))(R:P.underlying q=aa (.int .i64))(hl:σ[b]?=aa (.dM (tq f l)))
  (Y:p x=.e (.one (.v f))) (V:p y=.e (.one (.c (.int .i64 n)))) (hz:p z=.e (.one (.c (.bool ab)))):bR P o p σ .any (σ.set b (.dM (tq f (l++[n])))):=by
 intro s ρ hh hr;obtain⟨L,r,es,c,g⟩:=tq.open hh hl;have ex:ρ x=.map (aa r):=(Z3 (hr x) Y).trans g.m;have Q:=Z4 (hr y) V;have J:ρ z=.bool ab:=by
  have:=hr z;rw[hz] at this;have:=ga this;generalize ρ z=w at this;cases this;rfl
 obtain⟨a,E⟩:=yd (d:=.int .i64) (k:=.int .i64 n) rfl (UY g.kv);have I:∀ w,oG s ⟨.obj r,w,ae⟩:=λw=>lT (bz g.at') ((g.bs r).2 rfl)
 have G:r<s.w.heap.size:=(gE.1 g.heap).1;have key:∃ es' c',(Instr.mapUpdate T (.map (aa r)) (.int .i64 n) (.bool ab)).run P s.w=.ok () { s.w with heap:=s.w.heap.setIfInBounds r (.map es' c') }/\(Instr.mapUpdate T (.map (aa r)) (.int .i64 n) (.bool ab)).events P s.w #[]=#[⟨.obj r,ae,ae⟩,⟨.obj r,ab,ae⟩] /\
   MapKept.Stamped es' c'/\(∀ e∈es'.toList,∃ n,e.key=.int .i64 n/\e.val=.bool ab)/\∀ m,m∈l++[n]↔∃ e∈es'.toList,e.key=.int .i64 m:=by
  cases a with
  |none =>
   obtain⟨A,B⟩:=tU (x:=.bool ab) O R g.heap E;refine⟨_,_,A,B,MapKept.stamped_push g.st (E.no rfl),λe u=>?_,λm=>?_⟩
   .rw[Array.toList_push,dr] at u;rcases u with u|u
    .exact g.kv e u
    .simp at u;subst u;exact⟨n,rfl,rfl⟩
   .rw[dr,g.mem,Array.toList_push]
    constructor
    .rintro(⟨e,h1,h2⟩|h1)
     .exact⟨e,List.mem_append_left _ h1,h2⟩
     .simp at h1;subst h1;exact⟨_,List.mem_append_right _ (fV.2 rfl),rfl⟩
    .rintro⟨e,h1,h2⟩;rcases dr.1 h1 with h1|h1
     .exact .inl ⟨e,h1,h2⟩
     .simp at h1;subst h1;cases h2;exact .inr (by simp)
  |some jv =>
   obtain⟨j,v⟩:=jv;obtain⟨e,h1,h2,h3⟩:=E.yes j v rfl;have M:e∈es.toList:=by rw[Array.mem_toList_iff];exact pA h1
   obtain⟨_,_,S⟩:=g.kv e M;have H:es.modify j (λe=>{ key:=.int .i64 n,val:=.bool ab,born:=e.born })=es:=by
    apply Array.ext_getElem?
    intro i;rw[zc];split
    .rename_i hi;subst hi;rw[h1,<-h2,<-S];rfl
    .rfl
   obtain⟨A,B⟩:=tU (x:=.bool ab) O R g.heap E;refine⟨es,c,A.trans (show Result.ok () { s.w with heap:=s.w.heap.setIfInBounds r (.map (es.modify j λe=>{ key:=.int .i64 n,val:=.bool ab,born:=e.born }) c) }=_ by rw[H]),B,g.st,g.kv,λm=>?_⟩
   rw[dr,g.mem]
   constructor
   .rintro(C|C)
    .exact C
    .simp at C;subst C;exact⟨e,M,h2⟩
   .exactλh=>.inl h
 obtain⟨es',c',A,B,Z,U,W⟩:=key;have F:=hh.k5 (H':=tq f (l++[n])) (L':=L) (w':={ s.w with heap:=s.w.heap.setIfInBounds r (.map es' c') }) hl g.at' rfl (by simp) (λb _ hb=>by
   show (s.w.heap.setIfInBounds r _)[b]?=_;rw[kX (by rintro rfl;exact hb ((g.bs r).2 rfl))]) (λb hb=>.inl hb)
  ⟨λb=>if b=r then aa (.map es' c') else af,⟨g.v,r,es',c',g.m,λ_=>rfl,Z,U,W⟩,λb ob hb=>by
   show (s.w.heap.setIfInBounds r _)[b]?=_
   by_cases e:b=r
   .subst e;simp only[bO] at hb;cases hb;rw[mO G]
   .simp[e] at hb,λb=>by rw[g.bs];by_cases e:b=r <;> simp[e]⟩ rfl rfl rfl
 have e1:s.β.set b L=s.β:=by
  apply jk
  intro i
  by_cases e:b=i
  .subst e;rw[cf (bt.1 g.at').1,g.at']
  .rw[cQ e]
 rw[e1] at F;refine⟨.skip,_,?_,rfl,F.1,F.2,?_⟩
 .simp only[aw,h,ex,Q,J,bZ,A,cg,c7]
 .simp only[aw,h,ex,Q,J,aP,A,B,aV,Sem.events_pure];exact .two (I _) (I _)
end
section
variable {P:an}{X:Cx P}{N:Nat}{Qf:Post}{K:List It}{φ:Fr}{σ:List aW}{all rest:List av}{o:av}{T:ar}
theorem AK.RJ(h:o.op=.makeMap T af)(m:o.guard=af)(A:iP N o.dst=ab)
  (k:∀ f,AK X N Qf (.ops all rest::K) .normal (m9 o.dst (.e (.one (.v f))) φ) (σ++[.dM (tq f [])])):AK X N Qf (.ops all (o::rest)::K) .normal φ σ:=by
 refine AK.hand (ι:=ak) (λf=>.e (.one (.v f))) (λf=>σ++[.dM (tq f [])]) m A (λs a C hh=>?_) k
 let w':az:={ s.w with heap:=s.w.heap.push (.map #[] 0) }
 have c:w'.heap[s.w.heap.size]?=aa (.map #[] 0):=by simp[w']
 have j:w'.heap.size=s.w.heap.size+1:=by simp[w']
 obtain⟨i,g2⟩:=hh.grow (M':=s.M) (w':=w') (by simp[w']) (λb hb=>by show (s.w.heap.push _)[b]?=_;rw[q8 hb,dm hb]) (λ_ _ _=>rfl) (λb hb o v d=>by have:=hh.block d;omega) rfl rfl rfl
 obtain⟨g,r⟩:=i.ix g2 rfl hh (B:=.dM (tq (.map (aa s.w.heap.size)) [])) (L:=⟨.map (aa s.w.heap.size),[s.w.heap.size]⟩)
  ⟨λb=>if b=s.w.heap.size then aa (.map #[] 0) else af,⟨rfl,_,#[],0,rfl,λ_=>rfl,MapKept.stamped_empty 0,λe u=>by simp at u,λn=>by simp⟩,λb o hb=>by
   by_cases e:b=s.w.heap.size
   .subst e;simp only[bO] at hb;cases hb;exact c
   .simp[e] at hb,λb=>by by_cases e:b=s.w.heap.size <;> simp[e],λb hb o=>by
   simp at hb;subst hb;show s.M _ _=af;cases d:s.M s.w.heap.size o with
   |none=>rfl
   |some v=>have:=hh.block d;omega⟩ (λb hb=>by simp at hb;subst hb;exact⟨ba _,by show _<w'.heap.size;omega⟩)
 refine⟨.map (aa s.w.heap.size),.value (.map (aa s.w.heap.size)),_,.map (aa s.w.heap.size),?_,.inl rfl,Rd.val rfl,g,r,?_⟩
 .simp[aw,h,Instr.makeMap,run_newObj,w']
 .simp[aw,h,Instr.makeMap];exact .nil
end
end Go.AM
namespace Go.AM.R1
open Go.Proofs
variable {X:Cx ah}
def i76:TI:=⟨1,8,ae,TypeDesc.map 3 4,[.val (.map af)],[]⟩
theorem g76:bS ah 76 i76:=⟨Tryz.underlying76,rfl,⟨Tryz.t76,_,bA Tryz.type76,rfl,rfl,rfl,rfl,⟨#[],rfl⟩,rfl⟩,λh=>absurd rfl h⟩
theorem ia:dk ah ((76,i76)::tt):=dk.cons g76 tok
abbrev Z6(v:ak):D:=.e (.one (.v v))
abbrev Ex(a:ak)(l:List Int):aW:=.dM (tq a l)
theorem RQ(c:ak)(a l:List Int):Ev X 31 [Z6 c,cI.sl l] [Ex c a] (.fW []) [Ex c (a++l)]:=by
 refine Ev.body Tryz.func31 rfl rfl rfl λe=>?_
 have d:=e.sl 1 rfl;refine AK.fh eQ ia b5.nil [] 100 rfl ay ?_;refine AK.cd 1 (λi=>i<=l.length) (λi:Nat=>[(0,Z6 c),(6,cI.sl l),(7,dI l.length),(8,dI i)]) (λi=>[Ex c (a++l.take i)]) (λi=>l.length-i) 0 rfl (by simp[ai.cat,ai,a9.same]) rfl (by simp[ai.cat,ai]) rfl (by omega) ?_
 intro i hi
 by_cases h:i<l.length
 .have f:l.getD (i:Int).toNat cI.bU=l.getD i 0:=by rw[bu];rfl
  refine AK.fh eQ ia b5.nil [(9,ab)] 100 rfl (by simp[ai];omega) ?_
  refine AK.law (bR.RI rfl Tryz.underlying76 Tryz.underlying3 (b:=0) rfl rfl rfl rfl) rfl rfl ?_;refine AK.fh eQ ia b5.nil [] 100 rfl ?_ (AK.bg (i+1) rfl ?_ rfl rfl rfl ?_ rfl h (by omega))
  .simp[ai,bD];omega
  .simp[ai.cat,ai,a9.same]
  .rw[bx h 0,<-dq];simp only[ai.cat,ai,f,aF]
 obtain rfl:i=l.length:=by omega
 rw[cq];refine AK.fh eQ ia b5.nil [(9,ae)] 100 rfl (by simp[ai]) (AK.leaveD rfl rfl ?_)
 exact cn.tb [0] rfl (by simp[ai]) rfl rfl rfl qO
theorem AF(a:ak)(l:List Int) (n:Int):Ev X 34 [dI n,.e (.one (.c (.rp [.val a])))] [Ex a l] (dB (!l.contains n)) [Ex a l]:=by
 refine Ev.body Tryz.func34 rfl rfl rfl λd=>?_
 refine AK.fh eQ ia b5.nil [] 100 rfl ay ?_;refine AK.law (bR.NL rfl Tryz.underlying76 Tryz.underlying3 (λw=>Tryz.zeroValue4 w) (b:=0) rfl rfl rfl) rfl rfl ?_
 exact AK.fh eQ ia b5.nil [] 100 rfl ay (AK.eB [0] rfl (by simp[ai]) rfl rfl rfl qO)
theorem Hp(p:bC) (n:Int):Ev X 36 [GB p,.e (.one (.c (.rp [.int .i64 n])))] [] (dB (p.1==n)) []:=by
 refine Ev.body Tryz.func36 rfl rfl rfl λa=>?_
 exact bP rfl ay (AK.br rfl (by simp[ai]))
theorem Ey(x:dA)(b:x.2.length<=4000000)(a:(cp x.2).length<=4000000):Ev X 33 [No x] [] (cI.sl (ib x)) []:=by
 refine Ev.body Tryz.func33 rfl rfl rfl λc=>?_
 refine bP rfl ay ?_;refine AK.bM (AG x b a) [] rfl rfl rfl rfl rfl rfl rfl rfl rfl rfl rfl ?_;exact bP rfl ay (AK.br rfl (by simp[ai,a9.same]))
end Go.AM.R1
namespace Go.AM.R1
open Go.Proofs
structure Pd (w:cU):Prop extends Pc w.1 where
 Z7:w.2.1.length<=4000000
 lft:w.2.2.length<=4000000
theorem Hq{l:List dA}{i:Nat}(h:i<l.length):(cp (l.getD i (0,[])).2).length<=(jD l).length:=by
 have:=Cq l (i+1);rw[qT h,bF] at this;omega
theorem xN(k:Int)(w:cU):fR k w=(gN k w.1&&(bc w.1.2.1.length).all (λi=>!(ib (w.1.2.1.getD i (0,[]))).any λn=>!w.2.1.contains n)&&(bc w.2.2.length).all (l9 w.1.1 w.2.2)):=by
 rw[fR,Hr];cases gN k w.1 <;> simp
set_option maxHeartbeats 4000000 in
theorem Cz(k:Int)(w:cU)(r:Pd w):Ev (Cx.beside ah) 16 [dI k,H5 w] [] (dB (fR k w)) []:=by
 refine Ev.body Tryz.func16 rfl rfl rfl λM=>?_
 have b:b5 (Cx.beside ah) [(30,yO)]:=.cons Ho .nil;have D:=cP.list_fn w.1.1;have E:=dz.list_fn w.1.2.1;have C:=cH.list_fn w.1.2.2;have t:=r.toPc;rw[xN];cases F:gN k w.1
 .exact AK.fh eQ ia b [(14,ab)] 100 rfl (by simp[ai,F,D,E,C,cP.aH,dz.aH,cH.aH,t]) (AK.br rfl (by simp[ai]))
 refine AK.fh eQ ia b [(14,ae)] 100 rfl (by simp[ai,F,D,E,C,cP.aH,dz.aH,cH.aH,t]) ?_
 rw[dH];refine AK.RJ rfl rfl rfl λo=>?_
 refine AK.fh eQ ia b [] 100 rfl ay ?_;refine AK.bM (RQ o [] w.2.1) [1] rfl rfl rfl rfl rfl rfl rfl rfl rfl rfl rfl ?_;rw[rn];refine AK.fh eQ ia b [(1000005,ab)] 100 rfl ay ?_;refine AK.freeze 5 2 rfl rfl rfl ?_;refine AK.fh eQ ia b [] 100 rfl ay ?_;refine AK.cd 3 (λi=>i<=w.1.2.1.length/\∀ j,j<i->(!(ib (w.1.2.1.getD j (0,[]))).any λn=>!w.2.1.contains n)=ab) (λi:Nat=>[(0,dI k),(3,.e (.one (.ptr 0 0))),(5,.e (.one (.c (.rp [.val o])))),(22,dz.sl w.1.2.1),(23,dI w.1.2.1.length),(24,dI i)]) (λ_=>[Md w,Ex o w.2.1,.dead]) (λi=>w.1.2.1.length-i) 0 rfl (by simp[ai.cat,ai,a9.same]) rfl (by simp[ai.cat,ai,a9.same]) rfl ⟨by omega,by omega⟩ ?_
 have G:=r.sN;rintro i ⟨hi,a⟩
 by_cases h:i<w.1.2.1.length
 .have A:w.1.2.1.getD (i:Int).toNat dz.bU=w.1.2.1.getD i (0,[]):=by rw[bu];rfl
  have v:=r.sm _ (eK (d:=(0,[])) h);have H:=Hq h;have I:=r.aN;have K:=dT (p:=λj=>!(ib (w.1.2.1.getD j (0,[]))).any λn=>!w.2.1.contains n) h
  have y:=fy (p:=λj=>!(ib (w.1.2.1.getD j (0,[]))).any λn=>!w.2.1.contains n) (i:=i)
  generalize w.1.2.1.getD i (0,[])=x at *;refine AK.fh eQ ia b [(25,ab)] 100 rfl (by simp[ai];omega) ?_
  rw[A];refine AK.bM (Ey x v.1 (by omega)) [] rfl rfl rfl rfl rfl rfl rfl rfl rfl rfl rfl ?_
  refine AK.fh eQ ia b [] 100 rfl ay ?_;refine AK.bM (KH (ib x) 34 [.val o] (tq o w.2.1) (λn=>!w.2.1.contains n) λn _=>AF o w.2.1 n) [1] rfl rfl rfl rfl rfl rfl rfl rfl rfl rfl rfl ?_
  cases u:(ib x).any λn=>!w.2.1.contains n with
  |true =>
   refine AK.fh eQ ia b [] 100 rfl ay (AK.eC (cn.zero rfl ?_));rw[K (by rw[u];rfl)];simp[ai]
  |false =>
   refine AK.fh eQ ia b [] 100 rfl ?_ (AK.bg (i+1) rfl (by simp[ai.cat,ai,a9.same]) rfl rfl rfl (by simp[ai.cat,ai,a9.same]) rfl ⟨h,y a (by rw[u];rfl)⟩ (by omega))
   simp[ai,bD];omega
 obtain rfl:i=w.1.2.1.length:=by omega
 rw[bX.2 a,dH];refine AK.fh eQ ia b [(25,ae)] 100 rfl (by simp[ai]) (AK.leaveD rfl rfl ?_)
 refine AK.fh eQ ia b [] 100 rfl ay ?_;have J:=r.lft;refine AK.cd 3 (λi=>i<=w.2.2.length/\∀ j,j<i->l9 w.1.1 w.2.2 j=ab) (λi:Nat=>[(0,dI k),(3,.e (.one (.ptr 0 0))),(34,cI.sl w.2.2),(35,dI w.2.2.length),(36,dI i)]) (λ_=>[Md w,Ex o w.2.1,.dead]) (λi=>w.2.2.length-i) 0 rfl (by simp[ai.cat,ai,a9.same]) rfl (by simp[ai.cat,ai,a9.same]) rfl ⟨by omega,by omega⟩ ?_
 rintro i ⟨hi,a⟩
 by_cases h:i<w.2.2.length
 .have A:w.2.2.getD (i:Int).toNat cI.bU=w.2.2.getD i 0:=by rw[bu];rfl
  have q:w.2.2.getD (i-1) cI.bU=w.2.2.getD (i-1) 0:=rfl;have m:l9 w.1.1 w.2.2 i=((w.1.1.any λp=>p.1==w.2.2.getD i 0)&&Cn (λx=>x) 0 w.2.2 i):=rfl
  have s:=mL (f:=λx:Int=>x) (d:=0) (l:=w.2.2) (i:=i)
  generalize w.2.2.getD i 0=n at *;generalize w.2.2.getD (i-1) 0=n' at *;have qa:b5 (Cx.beside ah) [(35,Ea [cP.sl w.1.1,.e (.one (.c (.fn (.func 36) [] [.rp [.int .i64 n]])))] (dB (w.1.1.any λp=>p.1==n)))]:=.cons (Kr (KF w.1.1 36 [.int .i64 n] (λp=>p.1==n) λp _=>Hp p n)) .nil
  refine AK.fh eQ ia b [(37,ab),(1000014,ab)] 100 rfl (by simp[ai];omega) ?_
  rw[A];refine AK.freeze 9 3 rfl rfl rfl ?_;have fin:w.1.1.any (λp=>p.1==n)=ab->Cn (λx=>x) 0 w.2.2 i=ab->l9 w.1.1 w.2.2 i=ab:=λu L=>by rw[m,u,L];rfl
  by_cases z:i=0
  .subst z;cases g:w.1.1.any (λp=>p.1==n) with
   |true =>
    refine AK.fh eQ ia qa [(43,ae),(60,ae)] 100 rfl ?_ (AK.bg 1 rfl (by simp[ai.cat,ai,a9.same]) rfl rfl rfl (by simp[ai.cat,ai,a9.same]) rfl ⟨h,fy a (fin g rfl)⟩ (by omega))
    simp[ai,bD,g,iv.sl]
   |false =>
    refine AK.fh eQ ia qa [(43,ae),(60,ab)] 100 rfl ?_ (AK.eC (cn.zero rfl ?_))
    .simp[ai,g,iv.sl]
    .rw[dT h (by rw[m,g];rfl)];simp[ai]
  by_cases B:n'<n
  rotate_left
  .refine AK.fh eQ ia qa [(43,ab),(51,ab),(60,ab)] 100 rfl ?_ (AK.eC (cn.zero rfl ?_))
   .simp[-ag,ai,q,bD];omega
   .rw[dT h (by rw[m,s z,cJ B,mn])];simp[ai]
  cases g:w.1.1.any (λp=>p.1==n) with
  |true =>
   refine AK.fh eQ ia qa [(43,ab),(51,ae),(60,ae)] 100 rfl ?_ (AK.bg (i+1) rfl (by simp[ai.cat,ai,a9.same]) rfl rfl rfl (by simp[ai.cat,ai,a9.same]) rfl ⟨h,fy a (fin g (by rw[s z];exact b9 B))⟩ (by omega))
   simp[-ag,ai,q,bD,g,iv.sl];omega
  |false =>
   refine AK.fh eQ ia qa [(43,ab),(51,ae),(60,ab)] 100 rfl ?_ (AK.eC (cn.zero rfl ?_))
   .simp[-ag,ai,q,bD,g,iv.sl];omega
   .rw[dT h (by rw[m,g];rfl)];simp[ai]
 obtain rfl:i=w.2.2.length:=by omega
 rw[bX.2 a];refine AK.fh eQ ia b [(37,ae)] 100 rfl (by simp[ai]) (AK.leaveD rfl rfl ?_)
 exact AK.fh eQ ia b [] 100 rfl ay (AK.br rfl (by simp[ai]))
abbrev yP:dC:=qb aI (UA VV) (λk w=>dB (fR k w)) λ_ w=>[Pd w]
theorem Hs:eb (Cx.beside ah) 16 yP:=.te λk w h=>Cz k w h
abbrev wdB(w:fA):aW:=.cells 35 (VW w)
theorem xO(w:fA):fe w=(fR w.1 w.2.1&&decide (w.2.2.2.1.length=2)&&decide (w.2.2.2.2.length=2)&&(bc 2).all (qB w)):=by
 unfold fe;cases fR w.1 w.2.1 <;> cases decide (w.2.2.2.1.length=2) <;> cases decide (w.2.2.2.2.length=2) <;> simp
set_option maxHeartbeats 4000000 in
theorem CB(w:fA)(n:Pd w.2.1):Ev (Cx.beside ah) 6 [VX w] [] (dB (fe w)) []:=by
 refine Ev.body Tryz.func6 rfl rfl rfl λv=>?_
 have b:b5 (Cx.beside ah) [(16,yP)]:=.cons Hs .nil;have l:=cP.list_fn w.2.1.1.1;have m:=dz.list_fn w.2.1.1.2.1;have o:=cH.list_fn w.2.1.1.2.2;have k:=cI.list_fn w.2.1.2.1;have q:=cI.list_fn w.2.1.2.2;rw[xO];cases g:fR w.1 w.2.1
 .exact AK.fh eQ ia b [(11,ab),(17,ab),(22,ab)] 100 rfl (by simp[ai.cat,ai,g,l,m,o,k,q,cP.aH,dz.aH,cH.aH,cI.aH,n]) (AK.br rfl (by simp[ai]))
 by_cases s:w.2.2.2.1.length=2
 rotate_left
 .exact AK.fh eQ ia b [(11,ae),(17,ab),(22,ab)] 100 rfl (by simp[ai.cat,ai,g,l,m,o,k,q,cP.aH,dz.aH,cH.aH,cI.aH,n];omega) (AK.br rfl (by simp[ai,cJ s]))
 by_cases r:w.2.2.2.2.length=2
 rotate_left
 .exact AK.fh eQ ia b [(11,ae),(17,ae),(22,ab)] 100 rfl (by simp[ai.cat,ai,g,l,m,o,k,q,cP.aH,dz.aH,cH.aH,cI.aH,n];omega) (AK.br rfl (by simp[ai,cJ r]))
 refine AK.fh eQ ia b [(11,ae),(17,ae),(22,ae)] 100 rfl (by simp[ai.cat,ai,g,l,m,o,k,q,cP.aH,dz.aH,cH.aH,cI.aH,n];omega) ?_
 rw[b9 s,b9 r,dH,dH,dH];refine AK.cd 1 (λi=>i<=2/\∀ j,j<i->qB w j=ab) (λi:Nat=>[(1,.e (.one (.ptr 0 0))),(24,cH.sl w.2.2.2.1),(25,dI w.2.2.2.1.length),(26,dI i)]) (λ_=>[wdB w]) (λi=>2-i) 0 rfl (by simp[ai.cat,ai,a9.same]) rfl (by simp[ai.cat,ai,a9.same]) rfl ⟨by omega,by omega⟩ ?_
 rintro i ⟨hi,c⟩
 by_cases h:i<2
 .have f:w.2.2.2.1.getD i cH.bU=xL w i:=rfl;have d:w.2.2.2.2.getD i cI.bU=tz w i:=rfl;have a:qB w i=(decide (0<=(xL w i).1/\(xL w i).1<=9)&&decide (0<=(xL w i).2)&&decide (0<=tz w i/\tz w i<=2)):=rfl
  by_cases u:0<=(xL w i).1
  rotate_left
  .refine AK.fh eQ ia b [(27,ab),(34,ab),(39,ab),(44,ab),(52,ab),(59,ab)] 100 rfl ?_ (AK.eC (cn.zero rfl ?_))
   .simp[-ag,ai,f];omega
   .rw[dT h (by rw[a,cJ (by omega)];rfl)];simp[ai]
  by_cases c2:(xL w i).1<=9
  rotate_left
  .refine AK.fh eQ ia b [(27,ab),(34,ae),(39,ab),(44,ab),(52,ab),(59,ab)] 100 rfl ?_ (AK.eC (cn.zero rfl ?_))
   .simp[-ag,ai,f];omega
   .rw[dT h (by rw[a,cJ (by omega)];rfl)];simp[ai]
  by_cases c3:0<=(xL w i).2
  rotate_left
  .refine AK.fh eQ ia b [(27,ab),(34,ae),(39,ae),(44,ab),(52,ab),(59,ab)] 100 rfl ?_ (AK.eC (cn.zero rfl ?_))
   .simp[-ag,ai,f];omega
   .rw[dT h (by rw[a,cJ c3,mn];rfl)];simp[ai]
  by_cases c4:0<=tz w i
  rotate_left
  .refine AK.fh eQ ia b [(27,ab),(34,ae),(39,ae),(44,ae),(52,ab),(59,ab)] 100 rfl ?_ (AK.eC (cn.zero rfl ?_))
   .simp[-ag,ai,f,d];omega
   .rw[dT h (by rw[a,cJ (p:=0<=tz w i/\_) (by omega),mn])];simp[ai]
  by_cases t:tz w i<=2
  rotate_left
  .refine AK.fh eQ ia b [(27,ab),(34,ae),(39,ae),(44,ae),(52,ae),(59,ab)] 100 rfl ?_ (AK.eC (cn.zero rfl ?_))
   .simp[-ag,ai,f,d];omega
   .rw[dT h (by rw[a,cJ (p:=0<=tz w i/\_) (by omega),mn])];simp[ai]
  refine AK.fh eQ ia b [(27,ab),(34,ae),(39,ae),(44,ae),(52,ae),(59,ae)] 100 rfl ?_ (AK.bg (i+1) rfl (by simp[ai.cat,ai,a9.same]) rfl rfl rfl (by simp[ai.cat,ai,a9.same]) rfl ⟨h,fy c (by rw[a,b9 ⟨u,c2⟩,b9 c3,b9 ⟨c4,t⟩];rfl)⟩ (by omega))
  simp[-ag,ai,f,d,bD];omega
 obtain rfl:i=2:=by omega
 rw[bX.2 c];refine AK.fh eQ ia b [(27,ae)] 100 rfl (by simp[ai];omega) (AK.leaveD rfl rfl ?_)
 exact AK.fh eQ ia b [] 100 rfl ay (AK.br rfl (by simp[ai]))
section
variable {X:Cx ah} [X.jN]
structure LH where
 q:Mf 0
 z:Bool
def LH.w(q:LH):fA:=if q.z=ab then (q.q.w.1,(q.q.w.2.1.1,q.q.w.2.1.2.1,q.q.w.2.1.2.2++[9]),q.q.w.2.2) else q.q.w
set_option maxHeartbeats 4000000 in
set_option maxRecDepth 20000 in
theorem HI(m:Nat)(b:Nat->Int)(d:Bytes b)(h:m<=1048576) :
  dZ (ι:=LH) X 5 [.e (.one (.c (.sl ae 1 m (Rb b))))] [] (λq=>VX q.w) (λ_=>[]):=by
 refine dZ.kL tok Tryz.func5 rfl rfl rfl λo=>?_
 refine bP rfl ay ?_;refine AK.cx (N1 m b h) [] rfl rfl rfl rfl rfl rfl rfl (λ_=>rfl) rfl (λ_=>rfl) rfl ?_
 rintro⟨f,hm'⟩;refine bP rfl ay ?_;refine AK.cx (EH f b d 0 (by omega) hm') [1] rfl rfl rfl rfl rfl rfl rfl (λ_=>rfl) rfl (λ_=>rfl) rfl ?_
 intro q;have i:=q.hi;have k:q.w.2.1.2.2.length<=4000000:=(yZ (v:=q.v) q.hn).1.l;refine bP rfl ay ?_;refine AK.cx (ek f b d q.k1 6 (by omega) hm' (by omega)) [1] rfl rfl rfl rfl rfl rfl rfl (λ_=>rfl) rfl (λ_=>rfl) rfl ?_
 rintro⟨v,v0,v1⟩;have n:=cI.cu q.w.2.1.2.2 9
 by_cases g:v=0
 .refine bd [(11,ab)] 100 rfl ?_ ?_
  .simp only[ai,g,fp,show i3.bytes=8 from rfl,aG,aF];omega
  refine AK.oV 3 rfl rfl rfl (by simp[ai.cat,ai]) (by simp[ai.cat,ai]) ?_
  refine AK.oV 4 rfl rfl rfl (by simp[ai.cat,ai]) (by simp[ai.cat,ai]) ?_
  refine AK.fC ⟨q,ab⟩ [] rfl rfl rfl rfl rfl rfl rfl rfl ?_ rfl rfl rfl rfl (λj a=>absurd a (by simp))
  simp only[LH.w,aU,ai.cat,ai,bF,dw,sR,aG,aF]
  and_intros <;> first|exact a9.same|exact n|rfl
 .refine bd [(11,ae)] 100 rfl (by simp[ai,g]) ?_
  refine AK.oV 3 rfl rfl rfl (by simp[ai.cat,ai]) (by simp[ai.cat,ai]) ?_
  refine AK.oV 4 rfl rfl rfl (by simp[ai.cat,ai]) (by simp[ai.cat,ai]) ?_
  refine AK.fC ⟨q,ae⟩ [] rfl rfl rfl rfl rfl rfl rfl rfl ?_ rfl rfl rfl rfl (λj a=>absurd a (by simp))
  simp[LH.w,ai.cat,ai,a9.same,sR]
end
theorem xT{w:fA}(h:fe w=ab):KZ w.1 w.2.1:=by
 simp only[fe,bG] at h;exact uj.1 h.2
variable {X:Cx ah}
end Go.AM.R1
namespace Go.AM.R1
structure PB (n:Nat)(s:bo):Prop where
 pb:∀ p∈s.1,p.1<=s.1.length+n
 ne:∀ p∈s.1,p.2≠[]
theorem PB.mono{n m:Nat}{s:bo}(h:PB n s)(b:n<=m):PB m s:=⟨λp a=>by have:=h.pb p a;omega,h.ne⟩
theorem PB.nil{n:Nat}:PB n ([],[],[]):=⟨by simp,by simp⟩
theorem PB.save{k:Int}{n:Nat}{s:bo}{t:List bJ}{by_:Int}(h:PB n s)(d:dt t=ab):PB n (lj k s by_ t):=by
 have c:=λx (c:x∈ub k s t)=>tA k _ (gf s) _ (qS (k:=k) (l:=indexOf s.1) (pv d)).1 x c
 have i:gf s<=s.1.length+n+1:=by
  unfold gf;split
  .omega
  .rename_i g
   have:=h.pb _ (yQ g (0,[]));omega
 unfold lj;refine⟨λp a=>?_,λp a=>?_⟩
 .rcases dr.1 a with a|a
  .have:=h.pb p a;simp only[bF];omega
  .obtain⟨b,f,a1,a2,a3,a4,a5,rfl⟩:=c p a;have a2:b<gf s+(ub k s t).length:=a2;simp only[bF];show b<=_;omega
 .rcases dr.1 a with a|a
  .exact h.ne p a
  .obtain⟨b,f,a1,a2,a3,a4,a5,rfl⟩:=c p a;intro e;have:=dc List.length e;rw[CC] at this;simp at this;rw[this] at a3;simp at a3
theorem xm(no:Int)(ms:List Int):∀ ps:List bC,ps.Pairwise (λp q=>p.1<q.1)->(∀ p∈ps,p.2≠[])->ps.length<=(eX no ms ps).length+1
 |[],_,_=>by simp
 |p::ps,f,d=>by
  have b:=List.pairwise_cons.1 f;have a:∀ q∈ps,q.2≠[]:=λq c=>d q (j9 _ c)
  by_cases h:p.1=no
  .have e:eX no ms ps=ps:=by
    unfold eX;rw[show ps.map (iI no ms)=ps from by
     conv=>rhs;rw[<-List.map_id ps]
     exact List.map_congr_left λq c=>by have:=b.1 q c;unfold iI;rw[aO (by omega)];rfl]
    exact List.filter_eq_self.2 λq c=>by have:=a q c;simpa using this
   have:(eX no ms (p::ps)).length≥(eX no ms ps).length:=by
    unfold eX;rw[jJ,rm];split <;> simp
   rw[e] at this;simp only[db];omega
  .have g:=xm no ms ps b.2 a;have e:iI no ms p=p:=by unfold iI;rw[aO h]
   have:(eX no ms (p::ps)).length=(eX no ms ps).length+1:=by
    unfold eX;rw[jJ,e,rm,aU (by have:=d p me;simpa using this),db]
   simp only[db];omega
theorem PB.step{n:Nat}{s:bo}(h:PB n s)(a:s.1.Pairwise λp q=>p.1<q.1) (no:Int)(ms:List Int):PB (n+1) (eX no ms s.1,s.2):=by
 have hl:=xm no ms s.1 a h.ne;refine⟨λq b=>?_,λq b=>?_⟩
 .obtain⟨p,a,rfl,_⟩:=qV b;have:=h.pb p a;rw[qh];show _<=((eX no ms s.1).length:Int)+_;omega
 .exact(qV b).choose_spec.2.2
theorem PB.do{k:Int}{n:Nat}{s:xp}{e:gR}{N:Nat}(hi:WI N s)(h:PB n s.1.1):PB (n+1) (uq k s e).1.1.1:=by
 unfold uq;split
 .split
  .unfold uu;split
   .split
    .rename_i a
     obtain⟨_,h2,_,_,c,_⟩:=AX hi.w a;simp only[h2];exact(h.save c).mono (by omega)
    .exact h.mono (by omega)
   .exact h.mono (by omega)
  .exact h.mono (by omega)
 split
 .split <;> exact h.mono (by omega)
 split
 .exact h.mono (by omega)
 split
 .split
  .unfold AY;split
   .exact⟨λp b=>by have:=h.pb p b;simp only;omega,h.ne⟩
   .exact PB.nil
  .exact h.mono (by omega)
 split
 .unfold xd;split
  .exact h.mono (by omega)
  .exact h.step hi.w.s.pa _ _
 .exact h.mono (by omega)
theorem CW:∀ (r es:List gR),PB es.length (ff es).1.1->PB (es++r).length (ff (es++r)).1.1
 |[],es,h=>by rw[hJ];exact h
 |e::r,es,h=>by
  have a:PB (es++[e]).length (ff (es++[e])).1.1:=by rw[qY,bF];exact h.do (nK es)
  have:=CW r (es++[e]) a
  rwa [dq] at this
theorem LI(es:List gR)(h:es.length<=8):∀ p∈(ff es).1.1.1,p.1<=28:=λp a=>by
 have b:=(CW es [] PB.nil).pb p a;have c:=(nK es).w.s.a1;simp only[rn] at b;omega
theorem tJ(v:Int)(s:xp):(jw v s).2.1=s.1/\(jw v s).2.2.1=s.2.1:=by
 unfold jw;split
 .exact⟨rfl,rfl⟩
 split
 .exact⟨rfl,rfl⟩
 .exact⟨rfl,rfl⟩
theorem TW.Vh{n:Nat}{w:cU}(h:TW n w)(hn:n<=1000000):Pd w:=⟨h.s.tolk.X8,by have:=h.m;omega,by have:=h.l;omega⟩
theorem Mf.Vh{k:Nat}(q:Mf k):Pd q.w.2.1:=by
 have h:=q.hn;rw[(tJ q.v (ff q.es)).1];exact(nK q.es).w.Vh (by omega)
theorem LH.Vh(q:LH):Pd q.w.2.1:=by
 have h:=q.q.Vh;unfold LH.w;split
 .refine⟨h.toPc,h.Z7,?_⟩;have h2:=q.q.hn;have b:=(nK q.q.es).w.l;have a:=(tJ q.q.v (ff q.q.es)).1;simp only[bF,dw,Mf.w,a];omega
 .exact h
theorem LH.no(q:LH):∀ p∈q.w.2.1.1.1,p.1<=28:=by
 have h:=LI q.q.es q.q.hn;have a:=(tJ q.q.v (ff q.q.es)).1;unfold LH.w;split
 .simp only[Mf.w,a];exact h
 .simp only[Mf.w,a];exact h
end Go.AM.R1
namespace Go.AM.R1
open Go.Proofs
variable {X:Cx ah}
abbrev sB(p:dA):aW:=.cells 59 [.c (.int .i64 p.1),.c (.sl ae 2 p.2.length (cL.fn p.2))]
end Go.AM.R1
namespace Go.AM.R1
open Go.Proofs
abbrev XW:Cx ah:=Cx.beside ah
abbrev y3:dC:=k6 (UA Z5) (λw=>dB (fe w)) λw=>[Pd w.2.1]
theorem HN:eb XW 6 y3:=.pf λw h=>CB w h
theorem Vl(w:fA):(w.1,((cP.list w.2.1.1.1.length (cP.fn w.2.1.1.1),dz.list w.2.1.1.2.1.length (dz.fn w.2.1.1.2.1),cH.list w.2.1.1.2.2.length (cH.fn w.2.1.1.2.2)),cI.list w.2.1.2.1.length (cI.fn w.2.1.2.1),cI.list w.2.1.2.2.length (cI.fn w.2.1.2.2)),w.2.2.1,cH.list w.2.2.2.1.length (cH.fn w.2.2.2.1),cI.list w.2.2.2.2.length (cI.fn w.2.2.2.2))=w:=by
 simp only[cP.list_fn,dz.list_fn,cH.list_fn,cI.list_fn]
theorem xV{w:fA}(h:w.2.2.2.1.length≠2):fe w=ae:=by unfold fe;rw[cJ h];rfl
theorem A2{w:fA}(h:∀ p∈w.2.1.1.1,p.1<=28)(c:w.2.1.2.2=[98]):fe w=ae:=by
 cases a:fe w with
 |false=>rfl
 |true =>
  obtain⟨p,b,d⟩:=(xT a).lp 98 (by rw[c];simp)
  have:=h p b;omega
theorem xX{w:fA}(h:w.2.2.2.2=[3,0]):fe w=ae:=by
 unfold fe;have:(bc 2).all (qB w)=ae:=dT (i:=0) (by decide) (by unfold qB tz;rw[h];simp)
 rw[this];simp
set_option maxHeartbeats 4000000 in
theorem uG(m:Nat)(b:Nat->Int)(o:Bytes b)(v:m<=9223372036854775807):Ev XW 3 [.e (.one (.c (.sl ae 1 m (Rb b))))] [] (dB ab) []:=by
 refine Ev.body Tryz.func3 rfl rfl rfl λu=>?_
 by_cases x:m>1048576
 .refine bd [(10,ab)] 100 rfl (by simp only[ai,bh];omega) (AK.br rfl (by simp[ai]))
 refine bd [(10,ae)] 100 rfl (by simp only[ai,bY];omega) ?_
 refine AK.cx (HI m b o (by omega)) [] rfl rfl rfl rfl rfl rfl rfl (λ_=>rfl) rfl (λ_=>rfl) rfl ?_
 intro q;have a:=q.Vh;have f:=q.no;generalize q.w=w at *;have h:b5 XW [(6,y3),(7,yM)]:=.cons HN (.cons Hh .nil);have g:=Vl w;cases d:fe w with
 |false =>
  refine aE h [(19,ae),(22,ab)] 200 rfl ?_ (AK.br rfl ?_)
  .simp only[ai,cP.list_fn,cP.aH,dz.list_fn,dz.aH,cH.list_fn,cH.aH,cI.list_fn,cI.aH,d,a,a.toNW,g,aG,aF]
   decide
  .simp[ai,cP.list_fn,dz.list_fn,cH.list_fn,cI.list_fn]
 |true =>
  have t:w.2.2.2.1.length=2:=by simp only[fe,bG,bh] at d;exact d.1.1.1
  have k:fe (w.1,((w.2.1.1.1,w.2.1.1.2.1,w.2.1.1.2.2),w.2.1.2.1,cI.list 1 λi=>[[C.int IntKind.i64 98]].getD i []),(w.2.2.1.1,w.2.2.1.2.1,w.2.2.1.2.2.1,w.2.2.1.2.2.2),w.2.2.2.1,w.2.2.2.2)=ae:=A2 f rfl
  have r:fe (w.1,((w.2.1.1.1,w.2.1.1.2.1,w.2.1.1.2.2),w.2.1.2.1,w.2.1.2.2),(w.2.2.1.1,w.2.2.1.2.1,w.2.2.1.2.2.1,w.2.2.1.2.2.2),cH.list (cE w.2.2.2.1.length (aa 1)-cE 0 af) (jb (cE 0 af) (cH.fn w.2.2.2.1)),w.2.2.2.2)=ae:=xV (by simp[iv.pw,cE])
  have s:fe (w.1,((cP.list w.2.1.1.1.length (cP.fn w.2.1.1.1),dz.list w.2.1.1.2.1.length (dz.fn w.2.1.1.2.1),cH.list w.2.1.1.2.2.length (cH.fn w.2.1.1.2.2)),cI.list w.2.1.2.1.length (cI.fn w.2.1.2.1),cI.list w.2.1.2.2.length (cI.fn w.2.1.2.2)),(w.2.2.1.1,w.2.2.1.2.1,w.2.2.1.2.2.1,w.2.2.1.2.2.2),cH.list w.2.2.2.1.length (cH.fn w.2.2.2.1),cI.list 2 λi=>[[C.int IntKind.i64 3],[C.int IntKind.i64 0]].getD i [])=ae:=xX rfl
  have l:cI.fits 2 λi=>[[C.int IntKind.i64 3],[C.int IntKind.i64 0]].getD i []:=λi hi=>by
   match i,hi with
   |0,_=>rfl
   |1,_=>rfl
  have j:cI.fits 1 λi=>[[C.int IntKind.i64 98]].getD i []:=λi hi=>by
   match i,hi with
   |0,_=>rfl
  have n:cH.fits (cE w.2.2.2.1.length (aa 1)-cE 0 af) (jb (cE 0 af) (cH.fn w.2.2.2.1)):=cH.Ap w.2.2.2.1 (λi hi=>by simp[jb,cE])
  have p:Pd ((w.2.1.1.1,w.2.1.1.2.1,w.2.1.1.2.2),w.2.1.2.1,cI.list 1 λi=>[[C.int IntKind.i64 98]].getD i []):=⟨a.toPc,a.Z7,by simp[iv.pw]⟩
  refine aE h [(19,ae),(22,ae),(42,ab),(47,ab)] 200 rfl ?_ (AK.br rfl ?_)
  .simp only[ai,cP.list_fn,cP.aH,dz.list_fn,dz.aH,cH.list_fn,cH.aH,cI.list_fn,cI.aH,d,a,a.toNW,g,aG,aF,k,r,l,j,n,p]
   and_intros <;> first|decide|omega
  .simp only[ai,s];rfl
end Go.AM.R1
namespace Go.AM
open Go.RowKit
open Go.Conc (G solo crowd AtRel Past EvL Leavers)
def St.top(w:az):St:={ β:=[],M:=λb o=>w.cell? ⟨b,o,af⟩,w:=w,own:=λb=>b<w.heap.size }
theorem aJ.top(w:az):aJ [] (St.top w):=⟨λ_ _ _ h=>h,rfl,by simp,by simp[St.top],by simp[St.top],λb hb=>⟨hb,by simp[St.top]⟩⟩
theorem QJ{P:an}{f:aX}{a:aQ}{v:ak}{s:St}(h:uv P f a v s)(hi:P.inits.idxOf? f=af)(w:az)(j:∀ b o u,s.M b o=aa u->w.cell? ⟨b,o,af⟩=aa u):∃ es,aK P ab (G a []) w=.ended (.done v) w es/\∀ e∈es,∃ b o u,e=⟨.cell ⟨b,o,af⟩,ae,ae⟩/\s.M b o=aa u:=by
 obtain⟨fn,i,c⟩:=h.fn;obtain⟨l,g⟩:=c w j;refine⟨seen P a.fn ((results fn a.tmps).events P w #[]),?_,λe k=>g e (Go.Conc.mem_seen k)⟩
 have d:P.inits.idxOf? a.fn=af:=by rw[h.isF];exact hi
 simp[G,aK,unwind,doReturn,h.mode,h.defers,h.kind,i,l,d,GStep.after]
theorem dZ.XE{P:an}{ι:Type}{f:aX}{args:List D}{res:ι->D}{σ':ι->List aW}(h:dZ (Cx.beside P) f args [] res σ')(hi:P.inits.idxOf? f=af){w:az}{vs:List ak}(J:cG [] (St.top w) vs args){Post:ak->az->Prop}
  (x:∀ i v s',dh (σ' i) s' v (res i)->aJ (σ' i) s'->Below w.heap.size w s'.w->∀ d,Post v (s'.w.at d)) :
  ∃ M last o w' t',runNT P (M+1) (solo (G (Frame.enter P f vs.toArray .normal) []) w) #[]=(.ended o w',t')/\runN P M (solo (G (Frame.enter P f vs.toArray .normal) []) w)=.next last /\
   step P last=.ended o w'/\Go.Conc.Good P Post last o w' t':=by
 have key:=h.2 (St.top w) vs J (aJ.top w) (λg s'=>∃ i v fr,g=G fr []/\uv P f fr v s'/\dh (σ' i) s' v (res i)/\aJ (σ' i) s'/\Below w.heap.size w s'.w) []
  (λi fr v s' h1 h2 h3 h4=>.stop ⟨i,v,fr,rfl,h1,h2,h3,⟨h4.os,h4.tape,h4.output,h4.size,λk R=>h4.eH k R⟩⟩)
 have t:AM.lQ (λ_=>False)=λ_=>False:=by funext l;cases l <;> rfl
 obtain⟨N,q,r,g',s',c,t',T,h1,h2,h3,h4,y,A,S,⟨i,v,fr,rfl,k1,K,E,I⟩⟩:=key.beside (λ_=>False) #[G (Frame.enter P f vs.toArray .normal) []] af #[] (λ_=>0) (aJ.top w).mem rfl (Go.Conc.leavers_one P _)
  (by rw[t];exact Go.Conc.past_nil.mono (iK _)) ⟨λ_ h=>h.elim,λ_ h=>h.elim,λ_ h=>h.elim,λ_ h=>h.elim⟩ (λa=>by intro i hi;simp[Trace.act?] at hi)
 have j:=Go.Conc.beside_ends (P:=P) (Shun:=AM.lQ q) (B:=s'.w.heap.size) (D:=λ_ _ _=>False) (Post:=Post) (λ_ _ _ h=>h.elim) (sl:=c) (n:=0) h3 h4 y (Go.Conc.Goes.stop λw1 PF=>by
  obtain⟨d,rfl⟩:=PF;obtain⟨es,e1,e2⟩:=QJ k1 hi (s'.w.at d) (λb o u p=>h2 b o u p)
  refine⟨rfl,v,es,e1,λe H=>?_,x i v s' K E I d⟩
  obtain⟨b,o,u,rfl,p⟩:=e2 e H;refine Go.Conc.evL_cell _ _ (λz=>?_) (gC.lt h2 p)
  have:=A.M b z o;rw[p] at this;cases this)
 obtain⟨m,last,o,w',Q,C,L,O,F⟩:=j;refine⟨N+m,last,o,w',Q,?_,?_,O,F⟩
 .rw[show N+m+1=N+(m+1) by omega]
  exact(runNT_add N (m+1) h1).trans C
 .have e:=runNT_fst P N (crowd #[G (Frame.enter P f vs.toArray .normal) []] w af) #[];have s:(runNT P N (crowd #[G (Frame.enter P f vs.toArray .normal) []] w af) #[]).1=.next (crowd r s'.w c):=by
   have:runNT P N (crowd #[G (Frame.enter P f vs.toArray .normal) []] w af) #[]=_:=h1;rw[this]
  rw[s] at e;rw[Go.Conc.solo_eq_crowd,runN_add,<-e];exact L
end Go.AM
namespace Go.AM
open Go.ChangeShapes Go.WideShapes Go.ChangeAt Go.RowKit
theorem BZ{H:Type}{enc:ar×ak->H}{a:Assume}{C:Checked}{os:Os}{f:aX}{fn:Func}{s:ChangeSpec}{h:List PathCond}{apart fresh handsOn again:Bool}{X:az->Array ak->Prop}
  (J:∀ (w w':az) (args:Array ak),w.heap=w'.heap->X w args->X w' args)
  (own:ownKnob C.prog.godebug=af) (d:os.Started) (u:C.prog.funcs[f]?=aa fn)
  (g:∃ (w:az) (b:Tape) (i:Input),w.os=os/\(w.forCall b i).Shaped C.prog/\i.vars=[]/\Input.okWide C.prog (w.forCall b i) .any w.heap.size f i /\
   ((s.pre enc C.prog fn h apart (w.forCall b i).memory i.args/\X (w.forCall b i).memory i.args)/\sizedMet enc C.prog fn (OpenSpec.ofChange s) apart (w.forCall b i).memory i.args)/\a.holds C.prog (lone (Frame.enter C.prog f i.args .normal) [] (w.forCall b i)))
  (l:∀ (W:az) (base:Nat) (args:Array ak) (ds gs:List (DataW H)) (c:List MemPlace),
   (∀ (j:Nat) t v,fn.params[j]?=aa t->args[j]?=aa v->Value.okWide C.prog W .any base t v) ->
   DataW.Whole enc C.prog fn.params.toList s.vars apart W args.toList ds gs c ->
   ∃ M last o w' t',runNT C.prog (M+1) (Conc.solo (Conc.G (Frame.enter C.prog f args .normal) []) W) #[]=(.ended o w',t')/\runN C.prog M (Conc.solo (Conc.G (Frame.enter C.prog f args .normal) []) W)=.next last /\
    step C.prog last=.ended o w'/\Conc.Good C.prog (λv D=>s.post enc C.prog fn apart fresh handsOn again W args v D) last o w' t') :
  ReturnsInLeavingWide a C os f .any (λw args=>(s.pre enc C.prog fn h apart w args/\X w args)/\sizedMet enc C.prog fn (OpenSpec.ofChange s) apart w args) (s.post enc C.prog fn apart fresh handsOn again):=by
 refine returnsInLeavingWide_of_good own d g ?_;intro w b i _ _ _ q m p;obtain⟨_,_,_,x,n,_,_,_,_,k⟩:=q;have e:x=fn:=lM (n.symm.trans u);subst e;obtain⟨⟨⟨ds,gs,c,z,I⟩,K⟩,L⟩:=m;have r:=DataW.Whole.of_heap (w':=w.forCall b i) (by rfl) z
 obtain⟨M,last,o,w',t',A,E,B,y⟩:=l (w.forCall b i) w.heap.size i.args ds gs c k r;exact⟨M,last,o,w',t',A,E,B,y.mono λv F=>ChangeSpec.post_blind F⟩
theorem GR(l:Looks){p:Pinned}{s:OpenSpec}{c:OpenClaim}(n:List (List PathCond))(kinds:List LaidKind)(a:Bool)(b:Bool×String)(d:Bool)
  (z:c.holds p s) (m:∀ D∈n,(c.withDomain D).holds p s) (x:c.wfByText s=ab) (e:∀ D∈n,(c.withDomain D).wfByText s=ab)
  (g:c.laidByTextAt l p kinds a)
  (i:c.start=.entering) (k:c.noBlocks=ae/\c.again=ae) (o:p.checked.prog.mainIs=aa (b.1,b.2.toList)) (w:(!b.1&&b.2.isEmpty&&!d)=ae)
  (u:∀ f fn,p.checked.prog.funcNamed c.func=aa f->p.checked.prog.funcs[f]?=aa fn->d=p.checked.prog.looks []/\∀ (j:Nat) t,fn.params[j]?=aa t->p.checked.prog.wantsStandIn t=ae)
  (y:ab=c.goesBy p.checked.prog) :
  Claim7.holds p (.plain s) { stood:={ row:=c,standIns:=[],harness:=b,looks:=d },kinds:=[],alts:=n,goes:=ab,laidByText:=ab,laidKinds:=kinds,laidTests:=a,laidLooks:=l }:=by
 have v:∀ r:OpenClaim,Claim7.isSixth { stood:={ row:=r,standIns:=[],harness:=b,looks:=d },kinds:=[] }=ae:=λr=>by simpa[Claim7.isSixth] using w
 refine⟨Claim7.tied_new_at l kinds a (Claim7.new_of_sixth z b d i k o (v c) u) x,λD q=>?_,g,(λh=>by cases h),y⟩
 exact Claim7.tied_new_at l kinds a (Claim7.new_of_sixth (m D q) b d i k o (v _) u) (e D q)
end Go.AM
