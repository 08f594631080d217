/-
  Part 7 of a machine of values without memory, proved sound over the model, and of contracts of the functions that the laws reach. Nothing is taken for granted: no condition.
-/
import Derived.Test.YtplldmnmndnomaaGreatDoorA6
import Derived.ProofKit
import Derived.OpenShut
import Derived.OpenVars
import Derived.LaidMore
import Derived.Lay
import Derived.SevenTiedAt
import Derived.Below
set_option linter.unusedVariables false
set_option linter.unusedSimpArgs false
set_option linter.defProp false
set_option linter.deprecated false
namespace Go.AM.R1
open Go.Proofs
variable {X:Cx Tryz.prog}
def mO(c:Nat) (l:Int):Int:=if (c:Int)<=l then l-c else -1
theorem bK{c:Nat}{l:Int}(h:(c:Int)<=l):mO c l=l-c:=aq h
theorem bE{c:Nat}{l:Int}(h:¬(c:Int)<=l):mO c l=-1:=an h
def fp{α:Type}(f:α->Nat)(a:List α):Nat:=a.length+(a.map f).sum
def fU{α:Type}(f:α->Nat)(a:List α)(i:Nat):Nat:=a.length+((a.take i).map f).sum
theorem n8{α:Type}{f:α->Nat}{a:List α}{i:Nat}(h:i<a.length)(d:α):fU f a (i+1)=fU f a i+f (a.getD i d):=by
 unfold fU;rw[bx h d];simp;omega
theorem jQ{α:Type}(f:α->Nat)(a:List α)(i:Nat):fU f a i<=fp f a:=by
 unfold fU fp;have:(a.map f).sum=((a.take i).map f).sum+((a.drop i).map f).sum:=by rw[<-List.sum_append,<-ni,jT]
 omega
theorem n9{α:Type}(f:α->Nat)(a:List α):fU f a a.length=fp f a:=by unfold fU fp;rw[cZ]
theorem CE(a:List Int) (l:Int)(c:0<=l/\l<=1048576):Ev X 12 [cI.sl a,dI l] [] (dI (mO (a.length) l)) []:=by
 refine Ev.body Tryz.func12 rfl rfl rfl λb=>?_
 have d:=b.sl 0 rfl
 by_cases h:((a.length:Nat):Int)<=l
 ·exact aF [(10,false)] 100 rfl (by simp[aa,aB];omega) (AK.au rfl (by simp[aa,bK h]))
 ·exact aF [(10,true)] 100 rfl (by simp[aa,aB];omega) (AK.au rfl (by simp[aa,bE h]))
abbrev qj:bH:=ga (aL cI) aI (λx l=>dI (mO (x.length) l)) λ_ l=>[0<=l/\l<=1048576]
theorem vB:bU X 12 qj:=.gX λx l h=>CE x l h
theorem zt(a:List gu) (l:Int)(c:0<=l/\l<=1048576):Ev X 42 [cH.sl a,dI l] [] (dI (mO (a.length) l)) []:=by
 refine Ev.body Tryz.func42 rfl rfl rfl λb=>?_
 have d:=b.sl 0 rfl
 by_cases h:((a.length:Nat):Int)<=l
 ·exact aF [(10,false)] 100 rfl (by simp[aa,aB];omega) (AK.au rfl (by simp[aa,bK h]))
 ·exact aF [(10,true)] 100 rfl (by simp[aa,aB];omega) (AK.au rfl (by simp[aa,bE h]))
abbrev xG:bH:=ga (aL cH) aI (λx l=>dI (mO (x.length) l)) λ_ l=>[0<=l/\l<=1048576]
theorem Ga:bU X 42 xG:=.gX λx l h=>zt x l h
theorem vC(a:List gu) (l:Int)(c:0<=l/\l<=1048576):Ev X 11 [cH.sl a,dI l] [] (dI (mO (a.length) l)) []:=by
 refine Ev.body Tryz.func11 rfl rfl rfl λb=>?_
 have d:=b.sl 0 rfl
 by_cases h:((a.length:Nat):Int)<=l
 ·exact aF [(10,false)] 100 rfl (by simp[aa,aB];omega) (AK.au rfl (by simp[aa,bK h]))
 ·exact aF [(10,true)] 100 rfl (by simp[aa,aB];omega) (AK.au rfl (by simp[aa,bE h]))
abbrev rW:bH:=ga (aL cH) aI (λx l=>dI (mO (x.length) l)) λ_ l=>[0<=l/\l<=1048576]
theorem zu:bU X 11 rW:=.gX λx l h=>vC x l h
def fV(x:ew):Nat:=x.2.length
theorem CF(x:ew) (l:Int)(b:0<=l/\l<=1048576):Ev X 101 [yJ.enc x,dI l] [] (dI (mO (fV x) l)) []:=by
 refine Ev.body Tryz.func101 rfl rfl rfl λa=>?_
 have c:=a.NX 0 rfl 1 rfl;unfold fV
 by_cases h:((x.2.length:Nat):Int)<=l
 ·exact aF [(11,false)] 100 rfl (by simp[aa,aB];omega) (AK.au rfl (by simp[aa,bK h]))
 ·exact aF [(11,true)] 100 rfl (by simp[aa,aB];omega) (AK.au rfl (by simp[aa,bE h]))
abbrev AY:bH:=ga yJ aI (λx l=>dI (mO (fV x) l)) λ_ l=>[0<=l/\l<=1048576]
theorem Iy:bU X 101 AY:=.gX λx l h=>CF x l h
theorem Gb(x:Int×Int×Int×Bs) (l:Int)(b:0<=l/\l<=1048576):Ev X 10 [(ln pE).enc x,dI l] [] (dI (mO (x.2.2.2.length) l)) []:=by
 refine Ev.body Tryz.func10 rfl rfl rfl λa=>?_
 have c:=a.NX 0 rfl 3 rfl
 by_cases h:((x.2.2.2.length:Nat):Int)<=l
 ·exact aF [(11,false)] 100 rfl (by simp[aa,aB];omega) (AK.au rfl (by simp[aa,bK h]))
 ·exact aF [(11,true)] 100 rfl (by simp[aa,aB];omega) (AK.au rfl (by simp[aa,bE h]))
abbrev Gc:bH:=ga (ln pE) aI (λx l=>dI (mO (x.2.2.2.length) l)) λ_ l=>[0<=l/\l<=1048576]
theorem LG:bU X 10 Gc:=.gX λx l h=>Gb x l h
theorem zv(a:List (ew)) (l:Int)(n:0<=l/\l<=1048576):Ev X 82 [cK.sl a,dI l] [] (dI (mO (fp fV a) l)) []:=by
 refine Ev.body Tryz.func82 rfl rfl rfl λj=>?_
 have p:=j.sl 0 rfl;have b:aO X [(101,AY)]:=.cons Iy .nil;have m:=jQ fV a 0;simp only[fU,pQ,jz,List.sum_nil,ey] at m
 by_cases g:(a.length:Int)<=l
 rotate_left
 ·exact af b [(11,true)] 100 rfl (by simp[aa,aB];omega) (AK.au rfl (by rw[bE (by omega)];simp[aa]))
 refine af b [(11,false)] 100 rfl (by simp[aa,aB];omega) ?_
 refine AK.eg (λi=>i<=a.length/\(fU fV a i:Int)<=l) (λi:Nat=>[(0,cK.sl a),(5,dI i),(1,dI (l-(fU fV a i:Nat)))]) (λ_=>[]) (λi=>a.length-i) 0 rfl (by simp[fU,aa.cat,aa,ay.same]) rfl ab ⟨by omega,by simpa[fU] using g⟩ ?_
 rintro i ⟨hi,d⟩
 by_cases h:i<a.length
 ·have c:a.getD (i:Int).toNat cK.bD=a.getD i (0,[]):=by rw[az];rfl
  have o:=n8 (f:=fV) h (0,[]);have k:=jQ fV a (i+1);generalize a.getD i (0,[])=x at *
  by_cases c2:((fV x:Nat):Int)<=l-(fU fV a i:Nat)
  ·have e:=bK c2;refine af b [(15,true),(25,false)] 100 rfl ?_ (AK.cR (i+1) rfl ?_ rfl ab ⟨h,by omega⟩ (by omega))
   ·simp only[aa,c,aB,e];simp;and_intros <;> omega
   ·simp only[aa.cat,aa,c,e];simp only[ah,ai];and_intros <;> first|exact ay.same|omega|rfl
  ·have e:=bE c2;refine af b [(15,true),(25,true)] 100 rfl ?_ (AK.dW (aW.zero rfl (by rw[bE (by omega)];simp[aa])))
   simp only[aa,c,aB,e];simp;and_intros <;> omega
 obtain rfl:i=a.length:=by omega
 rw[n9] at d ⊢;refine af b [(15,false)] 100 rfl (by simp[aa]) (AK.leave rfl rfl ?_)
 exact af b [] 100 rfl ab (AK.au rfl (by rw[bK d];simp[aa]))
abbrev xH:bH:=ga (aL cK) aI (λa l=>dI (mO (fp fV a) l)) λ_ l=>[0<=l/\l<=1048576]
theorem Gd:bU X 82 xH:=.gX λa l h=>zv a l h
def dw(x:aR):Nat:=fp fV x.2
theorem CG(x:aR) (l:Int)(g:0<=l/\l<=1048576):Ev X 63 [(na cK).enc x,dI l] [] (dI (mO (dw x) l)) []:=by
 refine Ev.body Tryz.func63 rfl rfl rfl λh=>?_
 have b:aO X [(82,xH)]:=.cons Gd (.nil);unfold dw
 by_cases d:((fp fV x.2:Nat):Int)<=l
 rotate_left
 ·have e:=bE d;exact af b [(10,true)] 100 rfl (by simp[-List.map_map,aa,aB,e,cK.list_fn,cK.ae];omega) (AK.au rfl (by rw[bE (by omega)];simp[aa]))
 have a:=bK d;have f:=bK (c:=fp fV x.2) (l:=l) (by omega)
 exact af b [(10,false)] 100 rfl (by simp[-List.map_map,aa,aB,a,cK.list_fn,cK.ae];omega) (AK.au rfl (by simp[aa,f,a,cK.list_fn,cK.ae];try omega))
abbrev AZ:bH:=ga (na cK) aI (λx l=>dI (mO (dw x) l)) λ_ l=>[0<=l/\l<=1048576]
theorem Iz:bU X 63 AZ:=.gX λx l h=>CG x l h
theorem zw(a:List (aR)) (l:Int)(n:0<=l/\l<=1048576):Ev X 40 [cP.sl a,dI l] [] (dI (mO (fp dw a) l)) []:=by
 refine Ev.body Tryz.func40 rfl rfl rfl λj=>?_
 have p:=j.sl 0 rfl;have b:aO X [(63,AZ)]:=.cons Iz .nil;have m:=jQ dw a 0;simp only[fU,pQ,jz,List.sum_nil,ey] at m
 by_cases g:(a.length:Int)<=l
 rotate_left
 ·exact af b [(11,true)] 100 rfl (by simp[aa,aB];omega) (AK.au rfl (by rw[bE (by omega)];simp[aa]))
 refine af b [(11,false)] 100 rfl (by simp[aa,aB];omega) ?_
 refine AK.eg (λi=>i<=a.length/\(fU dw a i:Int)<=l) (λi:Nat=>[(0,cP.sl a),(5,dI i),(1,dI (l-(fU dw a i:Nat)))]) (λ_=>[]) (λi=>a.length-i) 0 rfl (by simp[fU,aa.cat,aa,ay.same]) rfl ab ⟨by omega,by simpa[fU] using g⟩ ?_
 rintro i ⟨hi,d⟩
 by_cases h:i<a.length
 ·have c:a.getD (i:Int).toNat cP.bD=a.getD i (0,[]):=by rw[az];rfl
  have o:=n8 (f:=dw) h (0,[]);have k:=jQ dw a (i+1);generalize a.getD i (0,[])=x at *
  by_cases c2:((dw x:Nat):Int)<=l-(fU dw a i:Nat)
  ·have e:=bK c2;refine af b [(15,true),(25,false)] 100 rfl ?_ (AK.cR (i+1) rfl ?_ rfl ab ⟨h,by omega⟩ (by omega))
   ·simp only[aa,c,aB,cK.list_fn,cK.ae,e];simp;and_intros <;> omega
   ·simp only[aa.cat,aa,c,cK.list_fn,cK.list_fn,e];simp only[ah,ai];and_intros <;> first|exact ay.same|omega|rfl
  ·have e:=bE c2;refine af b [(15,true),(25,true)] 100 rfl ?_ (AK.dW (aW.zero rfl (by rw[bE (by omega)];simp[aa])))
   simp only[aa,c,aB,cK.list_fn,cK.ae,e];simp;and_intros <;> omega
 obtain rfl:i=a.length:=by omega
 rw[n9] at d ⊢;refine af b [(15,false)] 100 rfl (by simp[aa]) (AK.leave rfl rfl ?_)
 exact af b [] 100 rfl ab (AK.au rfl (by rw[bK d];simp[aa]))
abbrev xI:bH:=ga (aL cP) aI (λa l=>dI (mO (fp dw a) l)) λ_ l=>[0<=l/\l<=1048576]
theorem Ge:bU X 40 xI:=.gX λa l h=>zw a l h
def cx(x:cN):Nat:=x.1.length+x.2.length
theorem xJ(x:cN) (l:Int)(i:0<=l/\l<=1048576)(h:x.1.length<=9223372036854775807):Ev X 102 [(ln GI).enc x,dI l] [] (dI (mO (cx x) l)) []:=by
 refine Ev.body Tryz.func102 rfl rfl rfl λj=>?_
 have a:aO X [(12,qj)]:=.cons vB (.nil);unfold cx
 by_cases f:((x.1.length:Nat):Int)<=l
 rotate_left
 ·have e:=bE f;exact af a [(11,true)] 100 rfl (by simp[-List.map_map,aa,aB,e,cI.list_fn,cI.ae];omega) (AK.au rfl (by rw[bE (by omega)];simp[aa]))
 by_cases d:((x.2.length:Nat):Int)<=l-(x.1.length:Nat)
 rotate_left
 ·have e:=bE d;exact af a [(11,false),(17,true)] 100 rfl (by simp[-List.map_map,aa,aB,e,cI.list_fn,cI.ae];omega) (AK.au rfl (by rw[bE (by omega)];simp[aa]))
 have b:=bK d;have g:=bK (c:=x.1.length+x.2.length) (l:=l) (by omega)
 exact af a [(11,false),(17,false)] 100 rfl (by simp[-List.map_map,aa,aB,b,cI.list_fn,cI.ae];omega) (AK.au rfl (by simp[aa,g,b,cI.list_fn,cI.ae];try omega))
abbrev tM:bH:=ga (ln GI) aI (λx l=>dI (mO (cx x) l)) λx l=>[0<=l/\l<=1048576,x.1.length<=9223372036854775807]
theorem CH:bU X 102 tM:=.gX λx l h=>xJ x l h.1 h.2
theorem vD(a:List (cN)) (l:Int)(p:0<=l/\l<=1048576):Ev X 83 [cL.sl a,dI l] [] (dI (mO (fp cx a) l)) []:=by
 refine Ev.body Tryz.func83 rfl rfl rfl λg=>?_
 have r:=g.sl 0 rfl;have b:aO X [(102,tM)]:=.cons CH .nil;have n:=jQ cx a 0;simp only[fU,pQ,jz,List.sum_nil,ey] at n
 by_cases k:(a.length:Int)<=l
 rotate_left
 ·exact af b [(11,true)] 100 rfl (by simp[aa,aB];omega) (AK.au rfl (by rw[bE (by omega)];simp[aa]))
 refine af b [(11,false)] 100 rfl (by simp[aa,aB];omega) ?_
 refine AK.eg (λi=>i<=a.length/\(fU cx a i:Int)<=l) (λi:Nat=>[(0,cL.sl a),(5,dI i),(1,dI (l-(fU cx a i:Nat)))]) (λ_=>[]) (λi=>a.length-i) 0 rfl (by simp[fU,aa.cat,aa,ay.same]) rfl ab ⟨by omega,by simpa[fU] using k⟩ ?_
 rintro i ⟨hi,d⟩
 by_cases h:i<a.length
 ·have c:a.getD (i:Int).toNat cL.bD=a.getD i ([],[]):=by rw[az];rfl
  have q:=n8 (f:=cx) h ([],[]);have m:=jQ cx a (i+1);have o:(a.getD i ([],[])).1.length<=9223372036854775807:=g.NW 0 rfl h (j:=0) rfl;generalize a.getD i ([],[])=x at *
  by_cases c2:((cx x:Nat):Int)<=l-(fU cx a i:Nat)
  ·have e:=bK c2;refine af b [(15,true),(25,false)] 100 rfl ?_ (AK.cR (i+1) rfl ?_ rfl ab ⟨h,by omega⟩ (by omega))
   ·simp only[aa,c,aB,cI.list_fn,cI.ae,e];simp;and_intros <;> omega
   ·simp only[aa.cat,aa,c,cI.list_fn,cI.list_fn,e];simp only[ah,ai];and_intros <;> first|exact ay.same|omega|rfl
  ·have e:=bE c2;refine af b [(15,true),(25,true)] 100 rfl ?_ (AK.dW (aW.zero rfl (by rw[bE (by omega)];simp[aa])))
   simp only[aa,c,aB,cI.list_fn,cI.ae,e];simp;and_intros <;> omega
 obtain rfl:i=a.length:=by omega
 rw[n9] at d ⊢;refine af b [(15,false)] 100 rfl (by simp[aa]) (AK.leave rfl rfl ?_)
 exact af b [] 100 rfl ab (AK.au rfl (by rw[bK d];simp[aa]))
abbrev rX:bH:=ga (aL cL) aI (λa l=>dI (mO (fp cx a) l)) λ_ l=>[0<=l/\l<=1048576]
theorem zx:bU X 83 rX:=.gX λa l h=>vD a l h
def de(x:cy):Nat:=fp cx x.2
theorem CI(x:cy) (l:Int)(g:0<=l/\l<=1048576):Ev X 64 [(na cL).enc x,dI l] [] (dI (mO (de x) l)) []:=by
 refine Ev.body Tryz.func64 rfl rfl rfl λh=>?_
 have b:aO X [(83,rX)]:=.cons zx (.nil);unfold de
 by_cases d:((fp cx x.2:Nat):Int)<=l
 rotate_left
 ·have e:=bE d;exact af b [(10,true)] 100 rfl (by simp[-List.map_map,aa,aB,e,cL.list_fn,cL.ae];omega) (AK.au rfl (by rw[bE (by omega)];simp[aa]))
 have a:=bK d;have f:=bK (c:=fp cx x.2) (l:=l) (by omega)
 exact af b [(10,false)] 100 rfl (by simp[-List.map_map,aa,aB,a,cL.list_fn,cL.ae];omega) (AK.au rfl (by simp[aa,f,a,cL.list_fn,cL.ae];try omega))
abbrev A0:bH:=ga (na cL) aI (λx l=>dI (mO (de x) l)) λ_ l=>[0<=l/\l<=1048576]
theorem IA:bU X 64 A0:=.gX λx l h=>CI x l h
theorem zy(a:List (cy)) (l:Int)(n:0<=l/\l<=1048576):Ev X 41 [cG.sl a,dI l] [] (dI (mO (fp de a) l)) []:=by
 refine Ev.body Tryz.func41 rfl rfl rfl λj=>?_
 have p:=j.sl 0 rfl;have b:aO X [(64,A0)]:=.cons IA .nil;have m:=jQ de a 0;simp only[fU,pQ,jz,List.sum_nil,ey] at m
 by_cases g:(a.length:Int)<=l
 rotate_left
 ·exact af b [(11,true)] 100 rfl (by simp[aa,aB];omega) (AK.au rfl (by rw[bE (by omega)];simp[aa]))
 refine af b [(11,false)] 100 rfl (by simp[aa,aB];omega) ?_
 refine AK.eg (λi=>i<=a.length/\(fU de a i:Int)<=l) (λi:Nat=>[(0,cG.sl a),(5,dI i),(1,dI (l-(fU de a i:Nat)))]) (λ_=>[]) (λi=>a.length-i) 0 rfl (by simp[fU,aa.cat,aa,ay.same]) rfl ab ⟨by omega,by simpa[fU] using g⟩ ?_
 rintro i ⟨hi,d⟩
 by_cases h:i<a.length
 ·have c:a.getD (i:Int).toNat cG.bD=a.getD i (0,[]):=by rw[az];rfl
  have o:=n8 (f:=de) h (0,[]);have k:=jQ de a (i+1);generalize a.getD i (0,[])=x at *
  by_cases c2:((de x:Nat):Int)<=l-(fU de a i:Nat)
  ·have e:=bK c2;refine af b [(15,true),(25,false)] 100 rfl ?_ (AK.cR (i+1) rfl ?_ rfl ab ⟨h,by omega⟩ (by omega))
   ·simp only[aa,c,aB,cL.list_fn,cL.ae,e];simp;and_intros <;> omega
   ·simp only[aa.cat,aa,c,cL.list_fn,cL.list_fn,e];simp only[ah,ai];and_intros <;> first|exact ay.same|omega|rfl
  ·have e:=bE c2;refine af b [(15,true),(25,true)] 100 rfl ?_ (AK.dW (aW.zero rfl (by rw[bE (by omega)];simp[aa])))
   simp only[aa,c,aB,cL.list_fn,cL.ae,e];simp;and_intros <;> omega
 obtain rfl:i=a.length:=by omega
 rw[n9] at d ⊢;refine af b [(15,false)] 100 rfl (by simp[aa]) (AK.leave rfl rfl ?_)
 exact af b [] 100 rfl ab (AK.au rfl (by rw[bK d];simp[aa]))
abbrev xK:bH:=ga (aL cG) aI (λa l=>dI (mO (fp de a) l)) λ_ l=>[0<=l/\l<=1048576]
theorem Gf:bU X 41 xK:=.gX λa l h=>zy a l h
def iI(x:cM):Nat:=fp dw x.1+fp de x.2.1+x.2.2.length
theorem zz(x:cM) (l:Int)(k:0<=l/\l<=1048576):Ev X 25 [Ay.enc x,dI l] [] (dI (mO (iI x) l)) []:=by
 refine Ev.body Tryz.func25 rfl rfl rfl λm=>?_
 have b:aO X [(40,xI),(41,xK),(42,xG)]:=.cons Ge (.cons Gf (.cons Ga (.nil)));unfold iI
 by_cases g:((fp dw x.1:Nat):Int)<=l
 rotate_left
 ·have e:=bE g;exact af b [(10,true)] 100 rfl (by simp[-List.map_map,aa,aB,e,cP.list_fn,cP.ae,cG.list_fn,cG.ae,cH.list_fn,cH.ae];omega) (AK.au rfl (by rw[bE (by omega)];simp[aa]))
 have a:=bK g
 by_cases i:((fp de x.2.1:Nat):Int)<=l-(fp dw x.1:Nat)
 rotate_left
 ·have e:=bE i;exact af b [(10,false),(16,true)] 100 rfl (by simp[-List.map_map,aa,aB,e,a,cP.list_fn,cP.ae,cG.list_fn,cG.ae,cH.list_fn,cH.ae];omega) (AK.au rfl (by rw[bE (by omega)];simp[aa]))
 have d:=bK i
 by_cases h:((x.2.2.length:Nat):Int)<=l-(fp dw x.1:Nat)-(fp de x.2.1:Nat)
 rotate_left
 ·have e:=bE h;exact af b [(10,false),(16,false),(22,true)] 100 rfl (by simp[-List.map_map,aa,aB,e,a,d,cP.list_fn,cP.ae,cG.list_fn,cG.ae,cH.list_fn,cH.ae];omega) (AK.au rfl (by rw[bE (by omega)];simp[aa]))
 have f:=bK h;have j:=bK (c:=fp dw x.1+fp de x.2.1+x.2.2.length) (l:=l) (by omega)
 exact af b [(10,false),(16,false),(22,false)] 100 rfl (by simp[-List.map_map,aa,aB,a,d,f,cP.list_fn,cP.ae,cG.list_fn,cG.ae,cH.list_fn,cH.ae];omega) (AK.au rfl (by simp[aa,j,a,d,f,cP.list_fn,cP.ae,cG.list_fn,cG.ae,cH.list_fn,cH.ae];try omega))
abbrev xL:bH:=ga Ay aI (λx l=>dI (mO (iI x) l)) λ_ l=>[0<=l/\l<=1048576]
theorem Gg:bU X 25 xL:=.gX λx l h=>zz x l h
def g8(x:fT):Nat:=iI x.1+x.2.1.length+x.2.2.length
theorem zA(x:fT) (l:Int)(k:0<=l/\l<=1048576):Ev X 9 [(ln Fl).enc x,dI l] [] (dI (mO (g8 x) l)) []:=by
 refine Ev.body Tryz.func9 rfl rfl rfl λm=>?_
 have b:aO X [(25,xL),(12,qj)]:=.cons Gg (.cons vB (.nil));unfold g8
 by_cases g:((iI x.1:Nat):Int)<=l
 rotate_left
 ·have e:=bE g;exact af b [(10,true)] 100 rfl (by simp[-List.map_map,aa,aB,e,cP.list_fn,cP.ae,cG.list_fn,cG.ae,cH.list_fn,cH.ae,cI.list_fn,cI.ae];omega) (AK.au rfl (by rw[bE (by omega)];simp[aa]))
 have a:=bK g
 by_cases i:((x.2.1.length:Nat):Int)<=l-(iI x.1:Nat)
 rotate_left
 ·have e:=bE i;exact af b [(10,false),(16,true)] 100 rfl (by simp[-List.map_map,aa,aB,e,a,cP.list_fn,cP.ae,cG.list_fn,cG.ae,cH.list_fn,cH.ae,cI.list_fn,cI.ae];omega) (AK.au rfl (by rw[bE (by omega)];simp[aa]))
 have d:=bK i
 by_cases h:((x.2.2.length:Nat):Int)<=l-(iI x.1:Nat)-(x.2.1.length:Nat)
 rotate_left
 ·have e:=bE h;exact af b [(10,false),(16,false),(22,true)] 100 rfl (by simp[-List.map_map,aa,aB,e,a,d,cP.list_fn,cP.ae,cG.list_fn,cG.ae,cH.list_fn,cH.ae,cI.list_fn,cI.ae];omega) (AK.au rfl (by rw[bE (by omega)];simp[aa]))
 have f:=bK h;have j:=bK (c:=iI x.1+x.2.1.length+x.2.2.length) (l:=l) (by omega)
 exact af b [(10,false),(16,false),(22,false)] 100 rfl (by simp[-List.map_map,aa,aB,a,d,f,cP.list_fn,cP.ae,cG.list_fn,cG.ae,cH.list_fn,cH.ae,cI.list_fn,cI.ae];omega) (AK.au rfl (by simp[aa,j,a,d,f,cP.list_fn,cP.ae,cG.list_fn,cG.ae,cH.list_fn,cH.ae,cI.list_fn,cI.ae];try omega))
abbrev xM:bH:=ga (ln Fl) aI (λx l=>dI (mO (g8 x) l)) λ_ l=>[0<=l/\l<=1048576]
theorem Gh:bU X 9 xM:=.gX λx l h=>zA x l h
def mz(x:eL):Nat:=g8 x.2.1+x.2.2.1.2.2.2.length+x.2.2.2.1.length+x.2.2.2.2.length
theorem zB(x:eL) (l:Int)(n:0<=l/\l<=1048576):Ev X 4 [(ln GH).enc x,dI l] [] (dI (mO (mz x) l)) []:=by
 refine Ev.body Tryz.func4 rfl rfl rfl λo=>?_
 have b:aO X [(9,xM),(10,Gc),(11,rW),(12,qj)]:=.cons Gh (.cons LG (.cons zu (.cons vB (.nil))));unfold mz
 by_cases i:((g8 x.2.1:Nat):Int)<=l
 rotate_left
 ·have e:=bE i;exact af b [(10,true)] 100 rfl (by simp[-List.map_map,aa,aB,e,cP.list_fn,cP.ae,cG.list_fn,cG.ae,cH.list_fn,cH.ae,cI.list_fn,cI.ae,aa.cat];omega) (AK.au rfl (by rw[bE (by omega)];simp[aa]))
 have a:=bK i
 by_cases k:((x.2.2.1.2.2.2.length:Nat):Int)<=l-(g8 x.2.1:Nat)
 rotate_left
 ·have e:=bE k;exact af b [(10,false),(16,true)] 100 rfl (by simp[-List.map_map,aa,aB,e,a,cP.list_fn,cP.ae,cG.list_fn,cG.ae,cH.list_fn,cH.ae,cI.list_fn,cI.ae,aa.cat];omega) (AK.au rfl (by rw[bE (by omega)];simp[aa]))
 have d:=bK k
 by_cases j:((x.2.2.2.1.length:Nat):Int)<=l-(g8 x.2.1:Nat)-(x.2.2.1.2.2.2.length:Nat)
 rotate_left
 ·have e:=bE j;exact af b [(10,false),(16,false),(22,true)] 100 rfl (by simp[-List.map_map,aa,aB,e,a,d,cP.list_fn,cP.ae,cG.list_fn,cG.ae,cH.list_fn,cH.ae,cI.list_fn,cI.ae,aa.cat];omega) (AK.au rfl (by rw[bE (by omega)];simp[aa]))
 have f:=bK j
 by_cases g:((x.2.2.2.2.length:Nat):Int)<=l-(g8 x.2.1:Nat)-(x.2.2.1.2.2.2.length:Nat)-(x.2.2.2.1.length:Nat)
 rotate_left
 ·have e:=bE g;exact af b [(10,false),(16,false),(22,false),(28,true)] 100 rfl (by simp[-List.map_map,aa,aB,e,a,d,f,cP.list_fn,cP.ae,cG.list_fn,cG.ae,cH.list_fn,cH.ae,cI.list_fn,cI.ae,aa.cat];omega) (AK.au rfl (by rw[bE (by omega)];simp[aa]))
 have h:=bK g;have m:=bK (c:=g8 x.2.1+x.2.2.1.2.2.2.length+x.2.2.2.1.length+x.2.2.2.2.length) (l:=l) (by omega)
 exact af b [(10,false),(16,false),(22,false),(28,false)] 100 rfl (by simp[-List.map_map,aa,aB,a,d,f,h,cP.list_fn,cP.ae,cG.list_fn,cG.ae,cH.list_fn,cH.ae,cI.list_fn,cI.ae,aa.cat];omega) (AK.au rfl (by simp[aa,m,a,d,f,h,cP.list_fn,cP.ae,cG.list_fn,cG.ae,cH.list_fn,cH.ae,cI.list_fn,cI.ae,aa.cat];try omega))
abbrev xN:bH:=ga (ln GH) aI (λx l=>dI (mO (mz x) l)) λ_ l=>[0<=l/\l<=1048576]
theorem Gi:bU X 4 xN:=.gX λx l h=>zB x l h
theorem rE{α:Type}{q:α->Bool}{l:List α}(h:l.any q=true):0<=rz q l:=by
 unfold rz;cases e:l.findIdx? q with
 |some i=>exact Int.natCast_nonneg i
 |none =>
  rw[mQ] at e;obtain⟨x,b,a⟩:=List.any_eq_true.1 h;rw[e x b] at a;cases a
theorem rF{α:Type}{q:α->Bool}{l:List α}(h:l.any q=false):rz q l=-1:=by
 unfold rz;have:l.findIdx? q=none:=by
  rw[mQ];intro x a;have:=pL.1 h x a;simpa using this
 rw[this]
theorem EX(l:List (Int×Int))(b:Nat)(q:Int×Int->Bool)(o:∀ x,x∈l->Ev X b [.e (.agg [.c (.int .i64 x.1),.c (.int .i64 x.2)])] [] (dB (q x)) []) :
  Ev X 98 [cH.sl l,.e (.one (.c (.fn (.func b) [] [])))] [] (dI (rz q l)) []:=by
 refine Ev.body Tryz.func98 rfl rfl rfl λn=>?_
 have f:=n.sl 0 rfl;refine bw rfl ab ?_;refine AK.eg (λi=>i<=l.length/\∀ j,j<i->q (l.getD j (0,0))=false) (λi:Nat=>[(0,cH.sl l),(1,.e (.one (.c (.fn (.func b) [] [])))),(7,dI l.length),(8,dI i)]) (λ_=>[]) (λi=>l.length-i) 0 rfl ?_ rfl ab ⟨by omega,by omega⟩ ?_
 ·simp[aa.cat,aa,ay.same]
 rintro i ⟨hi,a⟩
 by_cases h:i<l.length
 ·have k:l.getD i (0,0)∈l:=by rw[List.getD_eq_getElem?_getD,aj h];exact gF h
  have m:l.getD (i:Int).toNat cH.bD=l.getD i (0,0):=by rw[az];rfl
  refine aF [(9,true)] 100 rfl ?_ ?_
  ·simp only[aa];exact⟨by omega,by omega,aQ (by omega)⟩
  rw[m];refine AK.aP (o _ k) [] rfl rfl rfl rfl rfl rfl rfl rfl rfl rfl rfl ?_;cases g:q (l.getD i (0,0)) with
  |true =>
   refine aF [(16,true)] 100 rfl ?_ (AK.dW (aW.zero rfl ?_))
   ·simp[aa]
   ·simp[aa,vd h g a]
  |false =>
   refine aF [(16,false)] 100 rfl ?_ (AK.cR (i+1) rfl ?_ rfl ab ?_ ?_)
   ·simp[aa,aB];omega
   ·simp[aa.cat,aa,ay.same]
   ·refine⟨by omega,λj d=>?_⟩
    rcases dG.1 d with d|rfl
    ·exact a j d
    ·exact g
   ·omega
 ·refine aF [(9,false)] 100 rfl (by simp[aa];omega) (AK.leave rfl rfl ?_)
  refine bw rfl ab (AK.au rfl ?_);simp[aa,oG (λj d=>a j (by omega))]
theorem EY(l:List (Int×Int))(a:Nat)(q:Int×Int->Bool)(b:∀ x,x∈l->Ev X a [.e (.agg [.c (.int .i64 x.1),.c (.int .i64 x.2)])] [] (dB (q x)) []) :
  Ev X 76 [cH.sl l,.e (.one (.c (.fn (.func a) [] [])))] [] (dB (l.any q)) []:=by
 refine Ev.body Tryz.func76 rfl rfl rfl λd=>?_
 refine bw rfl ab ?_;refine AK.aP (EX l a q b) [] rfl rfl rfl rfl rfl rfl rfl rfl rfl rfl rfl ?_;cases h:l.any q with
 |true =>
  refine aF [(8,true)] 100 rfl (aQ (rE h)) (AK.au rfl ?_);simp[aa]
 |false =>
  refine aF [(8,false)] 100 rfl (bV (by rw[rF h];decide)) (AK.au rfl ?_)
  simp[aa]
theorem EZ(l:List (aR))(b:Nat)(cs:List C)(q:aR->Bool)(o:∀ x,x∈l->Ev X b [Jf x,.e (.one (.c (.rp cs)))] [] (dB (q x)) []) :
  Ev X 59 [cP.sl l,.e (.one (.c (.fn (.func b) [] [.rp cs])))] [] (dI (rz q l)) []:=by
 refine Ev.body Tryz.func59 rfl rfl rfl λn=>?_
 have f:=n.sl 0 rfl;refine bw rfl ab ?_;refine AK.eg (λi=>i<=l.length/\∀ j,j<i->q (l.getD j (0,[]))=false) (λi:Nat=>[(0,cP.sl l),(1,.e (.one (.c (.fn (.func b) [] [.rp cs])))),(7,dI l.length),(8,dI i)]) (λ_=>[]) (λi=>l.length-i) 0 rfl ?_ rfl ab ⟨by omega,by omega⟩ ?_
 ·simp[aa.cat,aa,ay.same]
 rintro i ⟨hi,a⟩
 by_cases h:i<l.length
 ·have k:l.getD i (0,[])∈l:=by rw[List.getD_eq_getElem?_getD,aj h];exact gF h
  have m:l.getD (i:Int).toNat cP.bD=l.getD i (0,[]):=by rw[az];rfl
  refine aF [(9,true)] 100 rfl ?_ ?_
  ·simp only[aa];exact⟨by omega,by omega,aQ (by omega)⟩
  rw[m];refine AK.aP (o _ k) [] rfl rfl rfl rfl rfl rfl rfl rfl rfl rfl rfl ?_;cases g:q (l.getD i (0,[])) with
  |true =>
   refine aF [(16,true)] 100 rfl ?_ (AK.dW (aW.zero rfl ?_))
   ·simp[aa]
   ·simp[aa,vd h g a]
  |false =>
   refine aF [(16,false)] 100 rfl ?_ (AK.cR (i+1) rfl ?_ rfl ab ?_ ?_)
   ·simp[aa,aB];omega
   ·simp[aa.cat,aa,ay.same]
   ·refine⟨by omega,λj d=>?_⟩
    rcases dG.1 d with d|rfl
    ·exact a j d
    ·exact g
   ·omega
 ·refine aF [(9,false)] 100 rfl (by simp[aa];omega) (AK.leave rfl rfl ?_)
  refine bw rfl ab (AK.au rfl ?_);simp[aa,oG (λj d=>a j (by omega))]
theorem E3(l:List (aR))(a:Nat)(cs:List C)(q:aR->Bool)(b:∀ x,x∈l->Ev X a [Jf x,.e (.one (.c (.rp cs)))] [] (dB (q x)) []) :
  Ev X 36 [cP.sl l,.e (.one (.c (.fn (.func a) [] [.rp cs])))] [] (dB (l.any q)) []:=by
 refine Ev.body Tryz.func36 rfl rfl rfl λd=>?_
 refine bw rfl ab ?_;refine AK.aP (EZ l a cs q b) [] rfl rfl rfl rfl rfl rfl rfl rfl rfl rfl rfl ?_;cases h:l.any q with
 |true =>
  refine aF [(8,true)] 100 rfl (aQ (rE h)) (AK.au rfl ?_);simp[aa]
 |false =>
  refine aF [(8,false)] 100 rfl (bV (by rw[rF h];decide)) (AK.au rfl ?_)
  simp[aa]
theorem E4(l:List (Int))(b:Nat)(cs:List C)(H:Value->(Nat->Option Obj)->Prop)(q:Int->Bool)(o:∀ x,x∈l->Ev X b [dI x,.e (.one (.c (.rp cs)))] [.cQ H] (dB (q x)) [.cQ H]) :
  Ev X 57 [cI.sl l,.e (.one (.c (.fn (.func b) [] [.rp cs])))] [.cQ H] (dI (rz q l)) [.cQ H]:=by
 refine Ev.body Tryz.func57 rfl rfl rfl λn=>?_
 have f:=n.sl 0 rfl;refine bw rfl ab ?_;refine AK.bY 1 (λi=>i<=l.length/\∀ j,j<i->q (l.getD j 0)=false) (λi:Nat=>[(0,cI.sl l),(1,.e (.one (.c (.fn (.func b) [] [.rp cs])))),(7,dI l.length),(8,dI i)]) (λ_=>[.cQ H]) (λi=>l.length-i) 0 rfl ?_ rfl ?_ rfl ⟨by omega,by omega⟩ ?_
 ·simp[aa.cat,aa,ay.same]
 ·simp[aa.cat,aa,ay.same]
 rintro i ⟨hi,a⟩
 by_cases h:i<l.length
 ·have k:l.getD i 0∈l:=by rw[List.getD_eq_getElem?_getD,aj h];exact gF h
  have m:l.getD (i:Int).toNat cI.bD=l.getD i 0:=by rw[az];rfl
  refine aF [(9,true)] 100 rfl ?_ ?_
  ·simp only[aa];exact⟨by omega,by omega,aQ (by omega)⟩
  rw[m];refine AK.aP (o _ k) [0] rfl rfl rfl rfl rfl rfl rfl rfl rfl rfl rfl ?_;cases g:q (l.getD i 0) with
  |true =>
   refine aF [(16,true)] 100 rfl ?_ (AK.cV (aW.mk [0] rfl ?_ rfl rfl rfl m3))
   ·simp[aa]
   ·simp[aa,vd h g a]
  |false =>
   refine aF [(16,false)] 100 rfl ?_ (AK.aA (i+1) rfl ?_ rfl rfl rfl ?_ rfl ?_ ?_)
   ·simp[aa,aB];omega
   ·simp[aa.cat,aa,ay.same]
   ·simp[aa.cat,aa,ay.same]
   ·refine⟨by omega,λj d=>?_⟩
    rcases dG.1 d with d|rfl
    ·exact a j d
    ·exact g
   ·omega
 ·refine aF [(9,false)] 100 rfl (by simp[aa];omega) (AK.leaveD rfl rfl ?_)
  refine bw rfl ab (AK.eK [0] rfl ?_ rfl rfl rfl m3);simp[aa,oG (λj d=>a j (by omega))]
theorem E5(l:List (Int))(a:Nat)(cs:List C)(H:Value->(Nat->Option Obj)->Prop)(q:Int->Bool)(b:∀ x,x∈l->Ev X a [dI x,.e (.one (.c (.rp cs)))] [.cQ H] (dB (q x)) [.cQ H]) :
  Ev X 33 [cI.sl l,.e (.one (.c (.fn (.func a) [] [.rp cs])))] [.cQ H] (dB (l.any q)) [.cQ H]:=by
 refine Ev.body Tryz.func33 rfl rfl rfl λd=>?_
 refine bw rfl ab ?_;refine AK.aP (E4 l a cs H q b) [0] rfl rfl rfl rfl rfl rfl rfl rfl rfl rfl rfl ?_;cases h:l.any q with
 |true =>
  refine aF [(8,true)] 100 rfl (aQ (rE h)) (AK.eK [0] rfl ?_ rfl rfl rfl m3);simp[aa]
 |false =>
  refine aF [(8,false)] 100 rfl (bV (by rw[rF h];decide)) (AK.eK [0] rfl ?_ rfl rfl rfl m3)
  simp[aa]
end Go.AM.R1
namespace Go.AM
open Go.Conc (G)
def lQ(i:Nat)(D:Nat->Bool):Nat->Bool:=λj=>match Nat.beq j i with|true=>true|false=>D j
section
variable {P:Program}{X:Cx P}{N:Nat}{ops:Array Oper}{φ:Fr}{σ:List ak}{x:Nat->D}{idx:Nat->Option Nat}{S:(Nat->Bool)->List ak}
def IY:List Oper->List (List Bool)->List (List Bool)
 |[],a=>a
 |o::r,a=>uK (z0 a (bu o.after.toList)) λc=>IY r (a++[c])
 where uK:List Bool->(List Bool->List (List Bool))->List (List Bool)
 |[],q=>q []
 |true::r,q=>uK r λr=>q (true::r)
 |false::r,q=>uK r λr=>q (false::r)
def Hb(all:List Oper)(i j:Nat):Bool:=match (IY all [])[i]? with|some c=>bit c j|none=>false
def vY{P:Program}(X:Cx P)(N:Nat)(all:List Oper)(φ:Fr)(x:Nat->D)(S:(Nat->Bool)->List ak)(i:Nat)(o:Oper):Prop :=
 ∀ D:Nat->Bool,(∀ j,Hb all i j=true->D j=true)->(∀ j,(j=i∨Hb all j i=true)->D j=false)->OA X N all o (mE all φ x i) (S D) (x i) (S (lQ i D))
end
end Go.AM
namespace Go.AM.R1
open Go.Proofs
def BW(a:List D)(res:D):bH:=λargs σ=>match σ with|[]=>some (res,[],[args=a])|_=>none
theorem HS{X:Cx Tryz.prog}{f:FuncId}{a:List D}{res:D}(h:Ev X f a [] res []):bU X f (BW a res):=by
 intro args σ r σ' obs he ho;unfold BW at he;split at he
 ·cases he;have:args=a:=ho;subst this;exact h
 ·cases he
variable {X:Cx Tryz.prog} [X.qp]
end Go.AM.R1
namespace Go.AM
theorem fb.die{P:Program}{ι:Type}{X:Cx P}{f:FuncId}{args:List D}{E k n:Nat}{b:Nat->List C}{w:BP}{es:ι->Nat->List C}{m:ι->Nat}(h:fb X f args [.buf E k n b] (λ_=>.e (.one (.bp 0 w))) (λi=>[.buf E k (m i) (es i)])):Ev X f args [.buf E k n b] (.e (.one (.bp 0 w))) [.dead] :=
 ⟨h.1,λs vs hr hh S cs hS=>h.2 s vs hr hh S cs λi fr v s' hl ph j9 st=>hS fr v s' hl (by
  obtain⟨lv,h1,_,_⟩:eQ _ _ _ (.bp 0 w):=ph;exact(⟨lv,h1,by simp,λ_ _ _ _ d=>by simp at d⟩:eQ [.dead] s' v (.bp 0 w))) j9.jF
  ⟨st.size,st.ee,st.mem,st.gJ,st.pT,λl B L a c=>by
   obtain⟨B',L',h1,h2,g⟩:=st.box l B L a c;cases l with
   |zero=>simp at a;subst a;exact⟨.dead,L',rfl,h2,ab⟩
   |succ l=>simp at a,st.os,st.tape,st.output,st.own⟩⟩
namespace R1
open Go.Proofs
variable {X:Cx Tryz.prog}
theorem y9(h:gu):Ev X 78 [QD h] [] (dB (fD h)) []:=by
 refine Ev.body Tryz.func78 rfl rfl rfl λc=>?_
 have a:aO X []:=.nil;unfold fD
 by_cases b:h.1=1
 ·by_cases c3:1<=h.2
  ·exact af a [(6,true),(11,true),(16,true)] 100 rfl (by simp[aa,b,c3]) (AK.au rfl (by simp[aa,b,c3]))
  ·exact af a [(6,true),(11,true),(16,false)] 100 rfl (by simp[aa,b];omega) (AK.au rfl (by simp[aa,c3]))
 ·by_cases c2:h.1=2
  ·by_cases c3:1<=h.2
   ·exact af a [(6,false),(11,true),(16,true)] 100 rfl (by simp[aa,c2,c3]) (AK.au rfl (by simp[aa,c2,c3]))
   ·exact af a [(6,false),(11,true),(16,false)] 100 rfl (by simp[aa,c2];omega) (AK.au rfl (by simp[aa,c3]))
  ·exact af a [(6,false),(11,false),(16,false)] 100 rfl (by simp[aa,b,c2]) (AK.au rfl (by
    have:¬(1<=h.1/\h.1<=2):=by omega
    simp only[aa,bV this];simp))
theorem Cc(h:gu):Ev X 77 [QD h] [] (dB (!fD h)) []:=by
 refine Ev.body Tryz.func77 rfl rfl rfl λb=>?_
 have a:aO X [(78,fY tf (λh=>dB (fD h)) λ_=>[])]:=.cons (.jo λh _=>y9 h) .nil
 exact af a [] 100 rfl ab (AK.au rfl (by simp[aa]))
theorem Cd(l:List gu):mM l=(decide (l.length<=9)&&!l.any λh=>!fD h):=by
 have:(List.range l.length).all (λi=>fD (l.getD i (0,0)))=!l.any λh=>!fD h:=by
  rw[lE,ba,iM,pL]
  constructor
  ·intro h x a;obtain⟨i,hi,rfl⟩:=jV.1 a;have:=h i hi;rw[List.getD_eq_getElem?_getD,aj hi] at this;simpa using this
  ·intro h i hi;have:=h _ (cJ (d:=(0,0)) hi);simpa using this
 rw[mM,this,Bool.and_comm]
theorem Ce(l:List gu):Ev X 56 [cH.sl l] [] (dB (mM l)) []:=by
 refine Ev.body Tryz.func56 rfl rfl rfl λd=>?_
 have a:=EY (X:=X) l 77 (λh=>!fD h) λx _=>Cc x
 have b:aO X [(76,BW [cH.sl l,.e (.one (.c (.fn (.func 77) [] [])))] (dB (l.any λh=>!fD h)))]:=.cons (HS a) .nil
 rw[Cd]
 by_cases h:l.length<=9
 ·exact af b [(6,true)] 100 rfl ⟨rfl,aQ (by omega)⟩ (AK.au rfl (by simp[aa,h]))
 ·exact af b [(6,false)] 100 rfl (by simp[aa];omega) (AK.au rfl (by simp[aa,bV h]))
theorem H7:bU X 56 qh:=.jo λl _=>Ce l
theorem vk(p:aR)(d:p.2.length<=4000000):Ev X 92 [Jf p] [] (cI.sl (p.2.map (·.1))) []:=by
 refine Ev.body Tryz.func92 rfl rfl rfl λf=>?_
 refine aF [(1000002,true)] 100 rfl ab ?_;refine AK.lS 3 3 1 rfl rfl ?_;refine bw rfl ab ?_;refine AK.bY 2 (λi=>i<=p.2.length) (λi:Nat=>[(1,.e (.one (.ptr 0 0))),(3,.e (.one (.vec 1 1 i (cI.fn ((p.2.take i).map (·.1)))))),(7,cK.sl p.2),(8,dI p.2.length),(9,dI i)]) (λi=>[K4 p,.vec 3 1 i (cI.fn ((p.2.take i).map (·.1)))]) (λi=>p.2.length-i) 0 rfl (by simp[aa.cat,aa,ay.same,ay.nil]) rfl (by simp[aa.cat,aa,ay.same,ay.nil]) rfl (by omega) ?_
 intro i hi
 by_cases h:i<p.2.length
 ·have b:p.2.getD (i:Int).toNat cK.bD=dT p i:=by rw[az];rfl
  have a:(p.2.take (i+1)).map (·.1)=(p.2.take i).map (·.1)++[(dT p i).1]:=by rw[bx h (0,[])];simp
  have c:((p.2.take i).map (·.1)).length=i:=by simp;omega
  have e:=cI.eU ((p.2.take i).map (·.1)) (dT p i).1;rw[c] at e;refine aF [(10,true)] 100 rfl ?_ (AK.aA (i+1) rfl ?_ rfl rfl rfl ?_ rfl h (by omega))
  ·simp only[aa,aB,show i3.bytes=8 from rfl];simp;omega
  ·rw[a];simp only[aa.cat,aa,b,ai,ah];and_intros <;> first|exact ay.same|exact e|rfl|omega
  ·rw[a];simp only[aa.cat,aa,b,ai,ah];and_intros <;> first|exact ay.same|exact e|rfl|omega
 obtain rfl:i=p.2.length:=by omega
 rw[cZ];refine aF [(10,false)] 100 rfl (by simp[aa]) (AK.leaveD rfl rfl ?_)
 exact bw rfl ab (AK.au rfl (by simp[aa,aa.cat,ay.same]))
abbrev xd:bH:=fY (na cK) (λp=>cI.sl (p.2.map (·.1))) λp=>[p.2.length<=4000000]
theorem Fs:bU X 92 xd:=.jo λp h=>vk p h
theorem Cf(ps:List aR)(i:Nat):(aK (ps.take i)).length<=(aK ps).length:=by
 have:aK ps=aK (ps.take i)++aK (ps.drop i):=by unfold aK;rw[<-pK,jT]
 rw[this,bc];omega
abbrev QG(l:List Int):D:=.e (.one (.bp 0 (.sl l.length 1 0 l.length)))
theorem xe(ps:List aR)(l:∀ p∈ps,p.2.length<=4000000)(q:(aK ps).length<=4000000):Ev X 72 [cP.sl ps] [] (QG (aK ps)) [Cg (aK ps).length (aK ps)]:=by
 refine Ev.body Tryz.func72 rfl rfl rfl λo=>?_
 have k:=o.sl 0 rfl;have c:aO X [(92,xd)]:=.cons Fs .nil;refine af c [(1000002,true)] 100 rfl ab ?_;refine AK.Ni 3 3 1 (cI.fn []) rfl ?_;refine af c [] 100 rfl ab ?_;refine AK.bY 1 (λi=>i<=ps.length) (λi:Nat=>[(3,.e (.one (.bp 0 (.sl (aK (ps.take i)).length 1 0 (aK (ps.take i)).length)))),(6,cP.sl ps),(7,dI ps.length),(8,dI i)]) (λi=>[Cg (aK (ps.take i)).length (aK (ps.take i))]) (λi=>ps.length-i) 0 rfl (by simp[aa.cat,aa,ay.same,aK]) rfl (by simp[aa.cat,aa,ay,aK]) rfl (by omega) ?_
 intro i hi
 by_cases h:i<ps.length
 ·have g:ps.getD (i:Int).toNat cP.bD=ps.getD i (0,[]):=by rw[az];rfl
  have b:=rH h;have f:=Cf ps (i+1);have n:=l _ (cJ (d:=(0,[])) h);generalize ps.getD i (0,[])=p at *;rw[b] at f;generalize aK (ps.take i)=a at *;have e:=cI.Ft a (p.2.map (·.1)) _ rfl;simp only[bc,iN] at f e;refine af c [(9,true)] 100 rfl ?_ (AK.aA (i+1) rfl ?_ rfl rfl rfl ?_ rfl h (by omega))
  ·simp only[aa,g,aB,cK.list_fn,cK.ae,iN,show i3.bytes=8 from rfl];simp;omega
  ·rw[b];simp only[aa.cat,aa,g,cK.list_fn,bc,iN,ai,ah];and_intros <;> first|exact ay.same|rfl|omega
  ·rw[b];simp only[aa.cat,aa,g,cK.list_fn,bc,iN,ai,ah];and_intros <;> first|exact ay.same|exact e|rfl|omega
 obtain rfl:i=ps.length:=by omega
 rw[cZ];refine af c [(9,false)] 100 rfl (by simp[aa]) (AK.leaveD rfl rfl ?_)
 refine af c [] 100 rfl ab (AK.eK [0] rfl ?_ rfl rfl rfl (λj m=>absurd m (by simp)))
 simp[aa]
theorem Ch(ps:List aR)(b:∀ p∈ps,p.2.length<=4000000)(a:(aK ps).length<=4000000):Ev X 72 [cP.sl ps] [] (cI.sl (aK ps)) [] :=
 Ev.lW (σ1:=[]) (E:=3) (k:=1) (n:=(aK ps).length) (es:=cI.fn (aK ps)) (xe ps b a) rfl (by simp[aa]) rfl (ar _)
end R1
end Go.AM
namespace Go.AM.R1
theorem tB{l:List Int}:∀ {k:Nat},(gB l k).length=k->∀ i,1<=i->i<k->l.getD i 0≠l.getD (i-1) 0
 |0,_,i,_,h=>by omega
 |k+1,h,i,c,f=>by
  have d:=n5 l k;rw[gB] at h;split at h
  ·omega
  ·rename_i a
   simp only[bc,fw] at h
   by_cases e:i=k
   ·subst e;exactλb=>a ⟨by omega,b⟩
   ·exact tB (k:=k) (by omega) i c (by omega)
theorem vo(l:List Int):(jO l).Pairwise λx y=>x<=y:=by
 have:=List.pairwise_mergeSort (le:=λx y:Int=>decide (x<=y)) (λa b c e d=>by simp at *;omega) (λa b=>by simp;omega) l
 exact this.imp λh=>by simpa using h
theorem rN(l:List Int):(jO l).Perm l:=List.mergeSort_perm _ _
theorem vl(l:List Int):(cq (jO l)).length=l.length↔l.Nodup:=by
 rw[<-eC l,<-(rN l).nodup_iff];have d:=vo l;generalize jO l=s at *;have b:∀ {i:Nat} (h:i<s.length),s.getD i 0=s[i]:=λ{i} h=>by rw[List.getD_eq_getElem?_getD,aj h];rfl
 constructor
 ·intro h;have c:=tB h;refine List.Pairwise.imp (R:=λx y=>x<y) (λh e=>by omega) (tR.2 λi j hi hj V3=>?_)
  have a:=tR.1 d;have f:=c j (by omega) hj
  rw[b hj,b (by omega)] at f
  have g:=a (j-1) j (by omega) hj (by omega)
  by_cases e:i=j-1
  ·subst e;omega
  ·have:=a i (j-1) hi (by omega) (by omega);omega
 ·intro h;unfold cq;rw[kC (ar _),cZ];intro i c a e;rw[b a,b (by omega)] at e
  have:=(tR.1 h) (i-1) i (by omega) a (by omega)
  exact this e.symm
structure UT (x:aR):Prop where
 ex:∃ no ps,1<=no/\no<=99/\0<ps.length/\ps.length<=4/\(∀ q∈ps,aY q=true)/\x=Fv no 7 ps
structure UU (x:cy):Prop where
 ex:∃ no t,1<=no/\no<=20/\im t=true/\x=Lf no 7 t
structure D7 (st:cM):Prop where
 p:∀ x∈st.1,UT x
 pl:st.1.length<=20
 s:∀ x∈st.2.1,UU x
 w6:st.2.1.Pairwise λa b=>a.1<b.1
 h:∀ x∈st.2.2,(1<=x.1/\x.1<=2)/\1<=x.2/\x.2<=20
 hl:st.2.2.length<=9
 UW:st.1.Pairwise λa b=>a.1<b.1
theorem H8{l:List cy}:∀ (a:Int),l.Pairwise (λa b=>a.1<b.1)->(∀ x∈l,a<=x.1/\x.1<=20)->(l.length:Int)<=max 0 (21-a):=by
 induction l with
 |nil=>intro a _ _;simp;omega
 |cons x r f =>
  intro a h d;obtain⟨g,e⟩:=List.pairwise_cons.1 h;have i:=d x List.mem_cons_self;have:=f (x.1+1) e λy c=>⟨by have:=g y c;omega,(d y (mT _ c)).2⟩
  simp only[fa];omega
theorem D7.sl{s:cM}(h:D7 s):s.2.1.length<=20:=by
 have:=H8 1 h.w6 λx a=>(h.s x a).no
 omega
end Go.AM.R1
namespace Go.AM
section
variable {P:Program}{X:Cx P}{N:Nat}{all:List Oper}{φ:Fr}{x:Nat->D}{k:Bool->Bool->Bool->List ak}{i g f b:Nat}{o:Oper}
abbrev AF(k:Bool->Bool->Bool->List ak)(g f b:Nat):(Nat->Bool)->List ak:=λD=>k (D g) (D f) (D b)
theorem iF{i j:Nat}{D:Nat->Bool}(h:Nat.beq j i=false):lQ i D j=D j:=by simp only[lQ,h]
theorem vf{i:Nat}{D:Nat->Bool}:lQ i D i=true:=by simp only[lQ,jX]
theorem vY.q3(h1:Nat.beq g i=false)(h2:Nat.beq f i=false)(e:Nat.beq b i=false)(h:∀ a c d,OA X N all o (mE all φ x i) (k a c d) (x i) (k a c d)):vY X N all φ x (AF k g f b) i o:=by
 intro D _ _;show OA X N all o _ (k (D g) (D f) (D b)) _ (k (lQ i D g) (lQ i D f) (lQ i D b));rw[iF h1,iF h2,iF e];exact h _ _ _
theorem vY.e1(hi:Nat.beq g i=true)(h1:Nat.beq g i=true)(h2:Nat.beq f i=false)(a:Nat.beq b i=false)(h:∀ c d,OA X N all o (mE all φ x i) (k false c d) (x i) (k true c d)):vY X N all φ x (AF k g f b) i o:=by
 intro D _ j;have e:=bk hi;subst e;show OA X N all o _ (k (D g) (D f) (D b)) _ (k (lQ g D g) (lQ g D f) (lQ g D b));rw[vf,iF h2,iF a,j g (.inl rfl)];exact h _ _
theorem vY.e2(hi:Nat.beq f i=true)(h1:Nat.beq g i=false)(j:Nat.beq b i=false)(l:Hb all b i=true)(d:Nat.beq f i=true)(h:∀ a,OA X N all o (mE all φ x i) (k a false false) (x i) (k a true false)):vY X N all φ x (AF k g f b) i o:=by
 intro D _ c;have e:=bk hi;subst e;show OA X N all o _ (k (D g) (D f) (D b)) _ (k (lQ f D g) (lQ f D f) (lQ f D b));rw[vf,iF h1,iF j,c f (.inl rfl),c b (.inr l)];exact h _
theorem vY.e3(hi:Nat.beq b i=true)(h1:Nat.beq g i=false)(h2:Nat.beq f i=false)(l:Hb all i f=true)(d:Nat.beq b i=true)(h:∀ a,OA X N all o (mE all φ x i) (k a true false) (x i) (k a true true)):vY X N all φ x (AF k g f b) i o:=by
 intro D c j;have e:=bk hi;subst e;show OA X N all o _ (k (D g) (D f) (D b)) _ (k (lQ b D g) (lQ b D f) (lQ b D b));rw[vf,iF h1,iF h2,j b (.inl rfl),c f l];exact h _
end
namespace R1
open Go.Proofs
variable {X:Cx Tryz.prog} [X.qp]
end R1
end Go.AM
namespace Go.AM.R1
open Go.Proofs
def Jp(a:List D)(b:List ak)(res:D)(σ1:List ak):bH:=λargs σ=>some (res,σ1,[args=a,σ=b])
theorem NS{X:Cx Tryz.prog}{f:FuncId}{a:List D}{b σ1:List ak}{res:D}(h:Ev X f a b res σ1):bU X f (Jp a b res σ1):=by
 intro args σ r σ' obs he ho;cases he;obtain⟨d,c⟩:args=a/\σ=b:=ho;subst d c;exact h
variable {X:Cx Tryz.prog} [X.qp]
end Go.AM.R1
namespace Go.AM.R1
open Go.Proofs
variable {X:Cx Tryz.prog}
theorem za(s:cM):Ev X 52 [BN s] [] (BN s) []:=by
 refine Ev.ko Tryz.func52 rfl rfl rfl λb=>?_
 refine bw rfl (by simp[aa]) ?_
 refine AK.freeze 2 1 rfl rfl rfl ?_;exact AK.pq tok [] rfl (by simp[aa,aa.cat,ay.same]) rfl rfl rfl (λj a=>absurd a (by simp))
abbrev Fu:bH:=fY Ay (λs=>BN s) λ_=>[]
theorem La:bU X 52 Fu:=.jo λs _=>za s
abbrev CU(s:cM):ak:=.cells 106 [.c (.sl false 2 s.1.length (cP.fn s.1)),.c (.sl false 2 s.2.1.length (cG.fn s.2.1)),.c (.sl false 2 s.2.2.length (cH.fn s.2.2))]
structure Lb (s:cM):Prop extends NZ s where
 pk:∀ p∈s.1,p.2.length<=4000000
 nm:(aK s.1).length<=4000000
def tw(k:Int)(s:cM):Bool:=(List.range s.1.length).all (m6 k s.1)&&decide (s.1.length<=20)&&decide (aK s.1).Nodup
set_option maxHeartbeats 4000000 in
theorem zb(k:Int)(s:cM)(w:bO k=true)(c:Lb s):Ev X 54 [BN s,dI k] [] (dB (tw k s)) []:=by
 refine Ev.body Tryz.func54 rfl rfl rfl λG=>?_
 have F:=c.pN;have z:=c.pk;have y:=Ch (X:=X) s.1 c.pk c.nm;have n:aO X [(71,Az)]:=.cons HI .nil;refine af n [] 100 rfl ab ?_;unfold tw;refine AK.bY 1 (λi=>i<=s.1.length/\∀ j,j<i->m6 k s.1 j=true) (λi:Nat=>[(1,dI k),(2,.e (.one (.ptr 0 0))),(9,cP.sl s.1),(10,dI s.1.length),(11,dI i)]) (λ_=>[CU s]) (λi=>s.1.length-i) 0 rfl (by simp[aa.cat,aa,ay.same]) rfl (by simp[aa.cat,aa,ay.same]) rfl ⟨by omega,by omega⟩ ?_
 rintro i ⟨hi,b⟩
 by_cases h:i<s.1.length
 ·have v:s.1.getD i cP.bD=s.1.getD i (0,[]):=rfl;have u:s.1.getD (i-1) cP.bD=s.1.getD (i-1) (0,[]):=rfl;have a:m6 k s.1 i=(gO k (s.1.getD i (0,[]))&&w6 (·.1) (0,[]) s.1 i):=rfl;have m:=mx (f:=λp:aR=>p.1) (d:=(0,[])) (l:=s.1) (i:=i)
  have g:=z _ (cJ (d:=(0,[])) h);generalize s.1.getD i (0,[])=p at *;generalize s.1.getD (i-1) (0,[])=p' at *;cases q:gO k p with
  |false =>
   rw[q,kP] at a;refine af n [(12,true),(20,true),(35,true)] 100 rfl ?_ (AK.cV (aW.zero rfl ?_))
   ·simp[-List.getD_eq_getElem?_getD,aa,v,w,g,q,cK.list_fn,cK.ae];omega
   ·rw[cw h a];simp[aa]
  |true =>
   rw[q,ck] at a
   by_cases B:i=0
   ·subst B;refine af n [(12,true),(20,false),(23,false),(35,false)] 100 rfl ?_ (AK.aA 1 rfl (by simp[aa.cat,aa,ay.same]) rfl rfl rfl (by simp[aa.cat,aa,ay.same]) rfl ⟨h,dn b (by rw[a];rfl)⟩ (by omega))
    simp[-List.getD_eq_getElem?_getD,aa,v,w,g,q,cK.list_fn,cK.ae,aB];omega
   have m:=m B
   by_cases C:p'.1<p.1
   ·refine af n [(12,true),(20,false),(23,true),(33,false),(35,false)] 100 rfl ?_ (AK.aA (i+1) rfl (by simp[aa.cat,aa,ay.same]) rfl rfl rfl (by simp[aa.cat,aa,ay.same]) rfl ⟨h,dn b (by rw[a,m];exact aQ C)⟩ (by omega))
    simp[-List.getD_eq_getElem?_getD,aa,v,u,w,g,q,cK.list_fn,cK.ae,aB];omega
   ·refine af n [(12,true),(20,false),(23,true),(33,true),(35,true)] 100 rfl ?_ (AK.cV (aW.zero rfl ?_))
    ·simp[-List.getD_eq_getElem?_getD,aa,v,u,w,g,q,cK.list_fn,cK.ae,aB];omega
    ·rw[cw h (by rw[a,m];exact bV C)];simp[aa]
 obtain rfl:i=s.1.length:=by omega
 rw[ba.2 b,ck];refine af n [(12,false)] 100 rfl (by simp[aa]) (AK.leaveD rfl rfl ?_)
 refine af n [] 100 rfl ab ?_;refine AK.aP (xe s.1 c.pk c.nm) [] rfl rfl rfl rfl rfl rfl rfl rfl rfl rfl rfl ?_;refine af n [] 100 rfl ab ?_;refine AK.aP (xf (aK s.1) c.nm) [1] rfl rfl rfl rfl rfl rfl rfl rfl rfl rfl rfl ?_;have x:=vl (aK s.1);have t:=(rM (X:=X) (jO (aK s.1)) (by rw[eC];exact c.nm)).die
 rw[eC] at t;have A:=n3 (jO (aK s.1));rw[eC] at A;have D:=c.nm;generalize cq (jO (aK s.1))=cs at *;generalize jO (aK s.1)=so at *;have mr:aO X [(74,Jp [gY (aK s.1).length] [Cg (aK s.1).length so] (.e (.one (.bp 0 (.sl (aK s.1).length 1 0 cs.length)))) [.dead]),(72,BW [cP.sl s.1] (cI.sl (aK s.1)))]:=.cons (NS t) (.cons (HS y) .nil);refine af mr [(1000009,true)] 100 rfl ab ?_
 by_cases r:s.1.length<=20
 rotate_left
 ·refine af mr [(46,false)] 100 rfl ?_ (AK.au rfl ?_)
  ·simp[aa];omega
  ·simp[aa,r]
 have o:(s.1.length:Int)<=20:=by omega
 generalize E:aK s.1=N at *;refine AK.wz (ι:=Unit) du 6 (λi=>match Nat.ble i 5 with|true=>true|false=>match Nat.beq i 8 with|true=>true|false=>Nat.beq i 9) (λi=>[.e (.one (.ptr 0 0)),cP.sl s.1,dI s.1.length,dB (decide ((s.1.length:Int)<=20)),dB true,.e (.one (.bp 1 (.sl N.length 1 0 N.length))),.any,.any,.e (.one (.ptr 0 0)),cP.sl s.1].getD i .any)
  (λ_ i=>[.any,.any,.any,.any,.any,.any,.e (.one (.bp 1 (.sl N.length 1 0 cs.length))),dI cs.length,.any,.any,cI.sl N,dI N.length,dB ((cs.length:Int)==N.length),dB ((cs.length:Int)==N.length),dB ((cs.length:Int)==N.length)].getD i .any) (λ_=>[CU s,.dead]) rfl rfl rfl rfl rfl rfl ?_ ?_ ?_ ?_
 ·exact⟨.dE tok mr rfl,.dE tok mr rfl,.dE tok mr rfl,.dE tok mr rfl,.eval tok mr (ds:=[(46,true)]) rfl (aQ o),.dE tok mr rfl,ab,ab,.dE tok mr rfl,.dE tok mr rfl,ab,ab,ab,ab,ab,ab⟩
 ·intro _;exact⟨.dE tok mr rfl,.dE tok mr rfl,.dE tok mr rfl,.dE tok mr rfl,.eval tok mr (ds:=[(46,true)]) rfl (aQ o),.dE tok mr rfl,ab,.dE tok mr rfl,.dE tok mr rfl,.dE tok mr rfl,.eval tok mr (ds:=[]) rfl rfl,.dE tok mr rfl,.dE tok mr rfl,.dE tok mr rfl,.dE tok mr rfl,ab⟩
 ·exact .uT (k5 tok mr (ds:=[]) (σ':=some [CU s,.dead]) rfl ⟨rfl,rfl⟩)
 ·intro _;refine af mr [] 100 rfl ab (AK.au rfl ?_);have:((cs.length:Int)==N.length)=decide N.Nodup:=by
   rw[lE,gf,decide_eq_true_iff,<-x];omega
  simp[aa,this,r]
end Go.AM.R1
namespace Go.AM.R1
open Go.Proofs
abbrev UP:List (Nat×bH):=[(75,th)]
set_option maxHeartbeats 4000000 in
theorem zc(k:Int)(s:cM)(x:Lb s):Ev (Cx.beside Tryz.prog) 55 [BN s,dI k] [] (dB ((List.range s.2.1.length).all (j4 k s))) []:=by
 refine Ev.body Tryz.func55 rfl rfl rfl λB=>?_
 have A:=x.sN;have u:=x.sm;have o:aO (Cx.beside Tryz.prog) UP:=.cons BO .nil;refine af o [] 100 rfl ab ?_;refine AK.bY 1 (λi=>i<=s.2.1.length/\∀ j,j<i->j4 k s j=true) (λi:Nat=>[(1,dI k),(2,.e (.one (.ptr 0 0))),(10,cG.sl s.2.1),(11,dI s.2.1.length),(12,dI i)]) (λ_=>[CU s]) (λi=>s.2.1.length-i) 0 rfl (by simp[aa.cat,aa,ay.same]) rfl (by simp[aa.cat,aa,ay.same]) rfl ⟨by omega,by omega⟩ ?_
 rintro i ⟨hi,n⟩
 by_cases h:i<s.2.1.length
 ·have r:s.2.1.getD i cG.bD=s.2.1.getD i (0,[]):=rfl;have t:s.2.1.getD (i-1) cG.bD=s.2.1.getD (i-1) (0,[]):=rfl;have c:j4 k s i=(decide (1<=(s.2.1.getD i (0,[])).1/\(s.2.1.getD i (0,[])).1<=20)&&w6 (·.1) (0,[]) s.2.1 i&&(b0 k (s.2.1.getD i (0,[])) s.1).isSome):=rfl;have v:=mx (f:=λp:cy=>p.1) (d:=(0,[])) (l:=s.2.1) (i:=i)
  have g:=u _ (cJ (d:=(0,[])) h);generalize s.2.1.getD i (0,[])=p at *;generalize s.2.1.getD (i-1) (0,[])=p' at *
  by_cases z:1<=p.1
  rotate_left
  ·refine af o [(13,true),(20,true),(25,true),(40,true)] 100 rfl ?_ (AK.cV (aW.zero rfl ?_))
   ·simp[-List.getD_eq_getElem?_getD,aa,r];omega
   ·rw[cw h (by rw[c,bV (by omega)];rfl)];simp[aa]
  by_cases c2:p.1<=20
  rotate_left
  ·refine af o [(13,true),(20,false),(25,true),(40,true)] 100 rfl ?_ (AK.cV (aW.zero rfl ?_))
   ·simp[-List.getD_eq_getElem?_getD,aa,r];omega
   ·rw[cw h (by rw[c,bV (by omega)];rfl)];simp[aa]
  rw[aQ ⟨z,c2⟩,ck] at c
  by_cases y:i=0
  ·subst y;rw[show w6 (·.1) (0,[]) s.2.1 0=true from rfl,ck] at c
   cases q:(b0 k p s.1).isSome with
   |false =>
    refine af o [(13,true),(20,false),(25,false),(27,false),(40,false),(50,true)] 100 rfl ?_ (AK.cV (aW.zero rfl ?_))
    ·simp[-List.getD_eq_getElem?_getD,aa,r,aB,cL.list_fn,cL.ae,cP.list_fn,cP.ae,q,g.1];and_intros <;> first|omega|exactλa b m=>g.2 (a,b) m
    ·rw[cw h (c.trans q)];simp[aa]
   |true =>
    refine af o [(13,true),(20,false),(25,false),(27,false),(40,false),(50,false)] 100 rfl ?_ (AK.aA 1 rfl (by simp[aa.cat,aa,ay.same]) rfl rfl rfl (by simp[aa.cat,aa,ay.same]) rfl ⟨h,dn n (c.trans q)⟩ (by omega))
    simp[-List.getD_eq_getElem?_getD,aa,r,aB,cL.list_fn,cL.ae,cP.list_fn,cP.ae,q,g.1];and_intros <;> first|omega|exactλa b m=>g.2 (a,b) m
  rw[v y] at c
  by_cases w:p'.1<p.1
  rotate_left
  ·refine af o [(13,true),(20,false),(25,false),(28,true),(38,true),(40,true)] 100 rfl ?_ (AK.cV (aW.zero rfl ?_))
   ·simp[-List.getD_eq_getElem?_getD,aa,r,t,aB];omega
   ·rw[cw h (by rw[c,bV w];rfl)];simp[aa]
  rw[aQ w,ck] at c;cases q:(b0 k p s.1).isSome with
  |false =>
   refine af o [(13,true),(20,false),(25,false),(28,true),(38,false),(40,false),(50,true)] 100 rfl ?_ (AK.cV (aW.zero rfl ?_))
   ·simp[-List.getD_eq_getElem?_getD,aa,r,t,aB,cL.list_fn,cL.ae,cP.list_fn,cP.ae,q,g.1];and_intros <;> first|omega|exactλa b m=>g.2 (a,b) m
   ·rw[cw h (c.trans q)];simp[aa]
  |true =>
   refine af o [(13,true),(20,false),(25,false),(28,true),(38,false),(40,false),(50,false)] 100 rfl ?_ (AK.aA (i+1) rfl (by simp[aa.cat,aa,ay.same]) rfl rfl rfl (by simp[aa.cat,aa,ay.same]) rfl ⟨h,dn n (c.trans q)⟩ (by omega))
   simp[-List.getD_eq_getElem?_getD,aa,r,t,aB,cL.list_fn,cL.ae,cP.list_fn,cP.ae,q,g.1];and_intros <;> first|omega|exactλa b m=>g.2 (a,b) m
 obtain rfl:i=s.2.1.length:=by omega
 rw[ba.2 n];refine af o [(13,false)] 100 rfl (by simp[aa]) (AK.leaveD rfl rfl ?_)
 exact af o [] 100 rfl ab (AK.au rfl (by simp[aa]))
theorem su(k:Int)(s:cM):gv k s=(bO k&&tw k s&&(List.range s.2.1.length).all (j4 k s)&&mM s.2.2):=by
 unfold gv tw;cases (List.range s.1.length).all (m6 k s.1) <;> cases decide (aK s.1).Nodup <;> cases (List.range s.2.1.length).all (j4 k s) <;> cases bO k <;> cases mM s.2.2 <;> cases decide (s.1.length<=20) <;> rfl
abbrev Lc:bH:=ga Ay aI (λs k=>dB (tw k s)) λs k=>[bO k=true,Lb s]
abbrev Ld:bH:=ga Ay aI (λs k=>dB ((List.range s.2.1.length).all (j4 k s))) λs _=>[Lb s]
theorem xg(k:Int)(s:cM)(f:Lb s):Ev (Cx.beside Tryz.prog) 31 [dI k,BN s] [] (dB (gv k s)) []:=by
 refine Ev.body Tryz.func31 rfl rfl rfl λj=>?_
 have b:aO (Cx.beside Tryz.prog) [(52,Fu),(53,fY aI (λk=>dB (bO k)) λ_=>[]),(54,Lc),(55,Ld),(56,qh)]:=.cons La (.cons t53 (.cons (.gX λs k h=>zb k s h.1 h.2) (.cons (.gX λs k h=>zc k s h) (.cons H7 .nil))))
 have d:=cP.list_fn s.1;have c:=cG.list_fn s.2.1;have a:=cH.list_fn s.2.2;rw[su];cases e:bO k
 ·exact af b [(10,false),(15,false),(20,false)] 100 rfl (by simp[aa,e,d,c,a,cP.ae,cG.ae,cH.ae]) (AK.au rfl (by simp[aa]))
 cases g:tw k s
 ·exact af b [(10,true),(15,false),(20,false)] 100 rfl (by simp[aa,e,d,c,a,cP.ae,cG.ae,cH.ae,f,g]) (AK.au rfl (by simp[aa]))
 cases i:(List.range s.2.1.length).all (j4 k s)
 ·exact af b [(10,true),(15,true),(20,false)] 100 rfl (by simp[-List.all_eq_true,-List.all_eq_false,aa,e,d,c,a,cP.ae,cG.ae,cH.ae,f,g,i]) (AK.au rfl (by simp[aa]))
 exact af b [(10,true),(15,true),(20,true)] 100 rfl (by simp[-List.all_eq_true,-List.all_eq_false,aa,e,d,c,a,cP.ae,cG.ae,cH.ae,f,g,i]) (AK.au rfl (by simp[aa,a]))
abbrev tz:bH:=ga aI Ay (λk s=>dB (gv k s)) λ_ s=>[Lb s]
theorem Ci:bU (Cx.beside Tryz.prog) 31 tz:=.gX λk s h=>xg k s h
end Go.AM.R1
namespace Go.AM
open Go.Conc (G)
def oH(f:Value)(l:List Int):Value->(Nat->Option Obj)->Prop:=λv a=>v=f/\∃ r es c,f=.map (some r)/\(∀ b,a b=if b=r then some (.map es c) else none)/\MapKept.Stamped es c /\
 (∀ e∈es.toList,∃ n,e.key=.int .i64 n/\e.val=.bool true)/\∀ n,n∈l↔∃ e∈es.toList,e.key=.int .i64 n
structure NU (σ:List ak)(s:St)(b:Nat)(f:Value)(l:List Int)(L:Loc)(r:Nat)(es:Array MapEntry)(c:Nat):Prop where
 at':s.β[b]?=some L
 v:L.v=f
 m:f=.map (some r)
 st:MapKept.Stamped es c
 kv:∀ e∈es.toList,∃ n,e.key=.int .i64 n/\e.val=.bool true
 mem:∀ n,n∈l↔∃ e∈es.toList,e.key=.int .i64 n
 heap:s.w.heap[r]?=some (.map es c)
 bs:∀ b,b∈L.bs↔b=r
theorem oH.open{σ:List ak}{s:St}{b:Nat}{f:Value}{l:List Int}(hh:ag σ s)(hl:σ[b]?=some (.cQ (oH f l))):∃ L r es c,NU σ s b f l L r es c:=by
 have a:b<s.β.length:=by rw[hh.len];exact(aE.1 hl).1
 obtain⟨ch,⟨h1,r,es,c,h2,d,h,g,j⟩,k,i,_⟩:=hh.box b _ _ hl (aj a);exact⟨_,r,es,c,aj a,h1,h2,h,g,j,k r _ (by rw[d,aq rfl]),λb=>by rw[i,d];by_cases e:b=r <;> simp[e]⟩
section
variable {P:Program}{o:Oper}{p:Operand->D}{σ:List ak}{T q t:TypeId}{x y z:Operand}{f:Value}{l:List Int}{n:Int}{b:Nat}
theorem NV{es:Array MapEntry}(h:∀ e∈es.toList,∃ n,e.key=.int .i64 n/\e.val=.bool true):∀ e∈es.toList,MapKept.IsKey (.int .i64) e.key:=λe c=>by
 obtain⟨n,a,_⟩:=h e c;rw[a];rfl
theorem Sv{σ:List ak}{s:St}{v f:Value}{d:D}(h:b5 σ s v d)(e:d=.e (.one (.v f))):v=f:=by subst e;exact Rd.ft h
theorem Sw{σ:List ak}{s:St}{v:Value}{n:Int}{d:D}(h:b5 σ s v d)(e:d=.e (.one (.c (.int .i64 n)))):v=.int .i64 n:=by
 subst e;have:=eB h;generalize v=w at this;cases this;rfl
theorem aH.HU(h:o.op=.lookup T x y false)(E:P.underlying T=some (.map q t))(B:P.underlying q=some (.int .i64))(M:∀ w,(zeroValue t).run P w=.ok (.bool false) w)(hl:σ[b]?=some (.cQ (oH f l)))
  (G:p x=.e (.one (.v f))) (R:p y=.e (.one (.c (.int .i64 n)))):aH P o p σ (.e (.one (.c (.bool (l.contains n))))) σ:=by
 refine aH.kU λs H hh hr=>?_
 obtain⟨L,r,es,c,g⟩:=oH.open hh hl;have ex:H x=.map (some r):=(Sv (hr x) G).trans g.m;have F:=Sw (hr y) R;obtain⟨a,A⟩:=sV (d:=.int .i64) (k:=.int .i64 n) rfl (NV g.kv);have O:lF s ⟨.obj r,false,false⟩:=iX (aG g.at') ((g.bs r).2 rfl);have key:∃ v:Bool,(Instr.lookup T (.map (some r)) (.int .i64 n) false).run P s.w=.ok (.bool v) s.w/\(Instr.lookup T (.map (some r)) (.int .i64 n) false).events P s.w #[]=#[⟨.obj r,false,false⟩]/\v=l.contains n:=by
  cases a with
  |none =>
   obtain⟨i,u⟩:=oZ (ok:=false) E B g.heap A (λ_=>M s.w)
   exact⟨false,i,u,by
    symm;rw[<-kJ,tZ,g.mem]
    rintro⟨e,S,B⟩;exact A.no rfl e S B⟩
  |some jv =>
   obtain⟨j,v⟩:=jv;obtain⟨i,u⟩:=oZ (ok:=false) (z:=undef) E B g.heap A (λh=>by cases h)
   obtain⟨e,h1,h2,J⟩:=A.yes j v rfl;have C:e∈es.toList:=by rw[Array.mem_toList_iff];exact og h1
   obtain⟨_,_,I⟩:=g.kv e C;exact⟨true,i.trans (show Result.ok v s.w=_ by rw[show v=.bool true from J.symm.trans I]),u,by symm;rw[tZ,g.mem];exact⟨e,C,h2⟩⟩
 obtain⟨v,i,u,Q⟩:=key;refine⟨.bool v,?_,by rw[<-Q];exact Rd.bool,?_⟩
 ·simp only[execOp,h,ex,F,aU,i,bj,cd]
 ·simp only[execOp,h,ex,F,Sem.events_bind,i,u,Result.evThen_ok,Sem.events_pure];exact .one O
theorem aH.K2(h:o.op=.mapUpdate T x y z)(M:P.underlying T=some (.map q t))(S:P.underlying q=some (.int .i64))(hl:σ[b]?=some (.cQ (oH f l)))
  (Y:p x=.e (.one (.v f))) (hy:p y=.e (.one (.c (.int .i64 n)))) (V:p z=.e (.one (.c (.bool true)))):aH P o p σ .any (σ.set b (.cQ (oH f (l++[n])))):=by
 intro s H hh hr;obtain⟨L,r,es,c,g⟩:=oH.open hh hl;have ex:H x=.map (some r):=(Sv (hr x) Y).trans g.m;have Q:=Sw (hr y) hy;have U:H z=.bool true:=by
  have:=hr z;rw[V] at this;have:=eB this;generalize H z=w at this;cases this;rfl
 obtain⟨a,F⟩:=sV (d:=.int .i64) (k:=.int .i64 n) rfl (NV g.kv);have R:∀ w,lF s ⟨.obj r,w,false⟩:=λw=>iX (aG g.at') ((g.bs r).2 rfl)
 have G:r<s.w.heap.size:=(dF.1 g.heap).1;have key:∃ es' c',(Instr.mapUpdate T (.map (some r)) (.int .i64 n) (.bool true)).run P s.w=.ok () { s.w with heap:=s.w.heap.setIfInBounds r (.map es' c') }/\(Instr.mapUpdate T (.map (some r)) (.int .i64 n) (.bool true)).events P s.w #[]=#[⟨.obj r,false,false⟩,⟨.obj r,true,false⟩] /\
   MapKept.Stamped es' c'/\(∀ e∈es'.toList,∃ n,e.key=.int .i64 n/\e.val=.bool true)/\∀ m,m∈l++[n]↔∃ e∈es'.toList,e.key=.int .i64 m:=by
  cases a with
  |none =>
   obtain⟨B,C⟩:=o0 (x:=.bool true) M S g.heap F;refine⟨_,_,B,C,MapKept.stamped_push g.st (F.no rfl),λe u=>?_,λm=>?_⟩
   ·rw[Array.toList_push,dJ] at u;rcases u with u|u
    ·exact g.kv e u
    ·simp at u;subst u;exact⟨n,rfl,rfl⟩
   ·rw[dJ,g.mem,Array.toList_push]
    constructor
    ·rintro(⟨e,h1,h2⟩|h1)
     ·exact⟨e,List.mem_append_left _ h1,h2⟩
     ·simp at h1;subst h1;exact⟨_,List.mem_append_right _ (fy.2 rfl),rfl⟩
    ·rintro⟨e,h1,h2⟩;rcases dJ.1 h1 with h1|h1
     ·exact .inl ⟨e,h1,h2⟩
     ·simp at h1;subst h1;cases h2;exact .inr (by simp)
  |some jv =>
   obtain⟨j,v⟩:=jv;obtain⟨e,h1,h2,h3⟩:=F.yes j v rfl;have O:e∈es.toList:=by rw[Array.mem_toList_iff];exact og h1
   obtain⟨_,_,h4⟩:=g.kv e O;have J:es.modify j (λe=>{ key:=.int .i64 n,val:=.bool true,born:=e.born })=es:=by
    apply Array.ext_getElem?
    intro i;rw[ua];split
    ·rename_i hi;subst hi;rw[h1,<-h2,<-h4];rfl
    ·rfl
   obtain⟨B,C⟩:=o0 (x:=.bool true) M S g.heap F;refine⟨es,c,B.trans (show Result.ok () { s.w with heap:=s.w.heap.setIfInBounds r (.map (es.modify j λe=>{ key:=.int .i64 n,val:=.bool true,born:=e.born }) c) }=_ by rw[J]),C,g.st,g.kv,λm=>?_⟩
   rw[dJ,g.mem]
   constructor
   ·rintro(E|E)
    ·exact E
    ·simp at E;subst E;exact⟨e,O,h2⟩
   ·exactλh=>.inl h
 obtain⟨es',c',B,C,k2,W,Z⟩:=key;have I:=hh.jq (H':=oH f (l++[n])) (L':=L) (w':={ s.w with heap:=s.w.heap.setIfInBounds r (.map es' c') }) hl g.at' rfl (by simp) (λb _ A=>by
   show (s.w.heap.setIfInBounds r _)[b]?=_;rw[ic (by rintro rfl;exact A ((g.bs r).2 rfl))]) (λb A=>.inl A)
  ⟨λb=>if b=r then some (.map es' c') else none,⟨g.v,r,es',c',g.m,λ_=>rfl,k2,W,Z⟩,λb ob A=>by
   show (s.w.heap.setIfInBounds r _)[b]?=_
   by_cases e:b=r
   ·subst e;simp only[aV] at A;cases A;rw[jR G]
   ·simp[e] at A,λb=>by rw[g.bs];by_cases e:b=r <;> simp[e]⟩ rfl rfl rfl
 have e1:s.β.set b L=s.β:=by
  apply lB
  intro i
  by_cases e:b=i
  ·subst e;rw[br (aE.1 g.at').1,g.at']
  ·rw[b7 e]
 rw[e1] at I;refine⟨.skip,_,?_,rfl,I.1,I.2,?_⟩
 ·simp only[execOp,h,ex,Q,U,aU,B,bj,cd]
 ·simp only[execOp,h,ex,Q,U,Sem.events_bind,B,C,Result.evThen_ok,Sem.events_pure];exact .two (R _) (R _)
end
section
variable {P:Program}{X:Cx P}{N:Nat}{Qf:Post}{K:List It}{φ:Fr}{σ:List ak}{all rest:List Oper}{o:Oper}{T:TypeId}
theorem AK.K3(h:o.op=.makeMap T none)(i:o.guard=none)(m:iu N o.dst=true)
  (k:∀ f,AK X N Qf (.ops all rest::K) .normal (mX o.dst (.e (.one (.v f))) φ) (σ++[.cQ (oH f [])])):AK X N Qf (.ops all (o::rest)::K) .normal φ σ:=by
 refine AK.hand (ι:=Value) (λf=>.e (.one (.v f))) (λf=>σ++[.cQ (oH f [])]) i m (λs a C hh=>?_) k
 let w':World:={ s.w with heap:=s.w.heap.push (.map #[] 0) }
 have d:w'.heap[s.w.heap.size]?=some (.map #[] 0):=by simp[w']
 have r:w'.heap.size=s.w.heap.size+1:=by simp[w']
 obtain⟨g1,g2⟩:=hh.grow (M':=s.M) (w':=w') (by simp[w']) (λb c=>by show (s.w.heap.push _)[b]?=_;rw[nb c,bJ c]) (λ_ _ _=>rfl) (λb c o v g=>by have:=hh.block g;omega) rfl rfl rfl
 obtain⟨u,j⟩:=g1.ij g2 rfl hh (B:=.cQ (oH (.map (some s.w.heap.size)) [])) (L:=⟨.map (some s.w.heap.size),[s.w.heap.size]⟩)
  ⟨λb=>if b=s.w.heap.size then some (.map #[] 0) else none,⟨rfl,_,#[],0,rfl,λ_=>rfl,MapKept.stamped_empty 0,λe A=>by simp at A,λn=>by simp⟩,λb o c=>by
   by_cases e:b=s.w.heap.size
   ·subst e;simp only[aV] at c;cases c;exact d
   ·simp[e] at c,λb=>by by_cases e:b=s.w.heap.size <;> simp[e],λb c o=>by
   simp at c;subst c;show s.M _ _=none;cases g:s.M s.w.heap.size o with
   |none=>rfl
   |some v=>have:=hh.block g;omega⟩ (λb c=>by simp at c;subst c;exact⟨ar _,by show _<w'.heap.size;omega⟩)
 refine⟨.map (some s.w.heap.size),.value (.map (some s.w.heap.size)),_,.map (some s.w.heap.size),?_,.inl rfl,Rd.val rfl,u,j,?_⟩
 ·simp[execOp,h,Instr.makeMap,run_newObj,w']
 ·simp[execOp,h,Instr.makeMap];exact .nil
end
end Go.AM
namespace Go.AM.R1
open Go.Proofs
variable {X:Cx Tryz.prog}
def i79:TI:=⟨1,8,false,TypeDesc.map 3 4,[.val (.map none)],[]⟩
theorem UQ:aC Tryz.prog 79 i79:=⟨Tryz.underlying79,rfl,⟨Tryz.t79,_,av Tryz.type79,rfl,rfl,rfl,rfl,⟨#[],rfl⟩,rfl⟩,λh=>absurd rfl h⟩
theorem eN:bX Tryz.prog ((79,i79)::tt):=bX.cons UQ tok
abbrev Sy(v:Value):D:=.e (.one (.v v))
abbrev zd(a:Value)(l:List Int):ak:=.cQ (oH a l)
theorem Le(c:Value)(a l:List Int):Ev X 32 [Sy c,cI.sl l] [zd c a] (.eD []) [zd c (a++l)]:=by
 refine Ev.body Tryz.func32 rfl rfl rfl λf=>?_
 have d:=f.sl 1 rfl;refine AK.dc du eN aO.nil [] 100 rfl ab ?_;refine AK.bY 1 (λi=>i<=l.length) (λi:Nat=>[(0,Sy c),(6,cI.sl l),(7,dI l.length),(8,dI i)]) (λi=>[zd c (a++l.take i)]) (λi=>l.length-i) 0 rfl (by simp[aa.cat,aa,ay.same]) rfl (by simp[aa.cat,aa]) rfl (by omega) ?_
 intro i hi
 by_cases h:i<l.length
 ·have e:l.getD (i:Int).toNat cI.bD=l.getD i 0:=by rw[az];rfl
  refine AK.dc du eN aO.nil [(9,true)] 100 rfl (by simp[aa];omega) ?_
  refine AK.law (aH.K2 rfl Tryz.underlying79 Tryz.underlying3 (b:=0) rfl rfl rfl rfl) rfl rfl ?_;refine AK.dc du eN aO.nil [] 100 rfl ?_ (AK.aA (i+1) rfl ?_ rfl rfl rfl ?_ rfl h (by omega))
  ·simp[aa,aB];omega
  ·simp[aa.cat,aa,ay.same]
  ·rw[bx h 0,<-c9];simp only[aa.cat,aa,e,ah]
 obtain rfl:i=l.length:=by omega
 rw[cZ];refine AK.dc du eN aO.nil [(9,false)] 100 rfl (by simp[aa]) (AK.leaveD rfl rfl ?_)
 exact aW.oz [0] rfl (by simp[aa]) rfl rfl rfl m3
theorem vm(a:Value)(l:List Int) (n:Int):Ev X 35 [dI n,.e (.one (.c (.rp [.val a])))] [zd a l] (dB (!l.contains n)) [zd a l]:=by
 refine Ev.body Tryz.func35 rfl rfl rfl λd=>?_
 refine AK.dc du eN aO.nil [] 100 rfl ab ?_;refine AK.law (aH.HU rfl Tryz.underlying79 Tryz.underlying3 (λw=>Tryz.zeroValue4 w) (b:=0) rfl rfl rfl) rfl rfl ?_
 exact AK.dc du eN aO.nil [] 100 rfl ab (AK.eK [0] rfl (by simp[aa]) rfl rfl rfl m3)
theorem Cj(p:aR) (n:Int):Ev X 37 [Jf p,.e (.one (.c (.rp [.int .i64 n])))] [] (dB (p.1==n)) []:=by
 refine Ev.body Tryz.func37 rfl rfl rfl λa=>?_
 exact bw rfl ab (AK.au rfl (by simp[aa]))
theorem ze(x:cy)(b:x.2.length<=4000000)(a:(aZ x.2).length<=4000000):Ev X 34 [KF x] [] (cI.sl (eO x)) []:=by
 refine Ev.body Tryz.func34 rfl rfl rfl λc=>?_
 refine bw rfl ab ?_;refine AK.aP (vn x b a) [] rfl rfl rfl rfl rfl rfl rfl rfl rfl rfl rfl ?_;exact bw rfl ab (AK.au rfl (by simp[aa,ay.same]))
end Go.AM.R1
namespace Go.AM.R1
theorem tC(n m:Int):∀ (l:List Int)(a:List Int)(b:Bool),(b=true->n∈a) ->
  ((m∈(l.foldl (fi n) (a,b)).1∨(m=n/\(l.foldl (fi n) (a,b)).2=false))↔((m∈a∨(m=n/\b=false))∨m∈l))
 |[],a,b,_=>by simp
 |y::l,a,b,h=>by
  rw[kO];have one:∀ a' b',fi n (a,b) y=(a',b')->(b'=true->n∈a')/\((m∈a'∨(m=n/\b'=false))↔((m∈a∨(m=n/\b=false))∨m=y)):=λa' b' e=>by
   unfold fi at e;cases b with
   |true =>
    have h:=h rfl;simp only[aV] at e;split at e
    ·rename_i c;subst c;cases e
     exact⟨λ_=>h,by simp;rintro rfl;exact h⟩
    ·cases e;exact⟨λ_=>by simp[h],by simp⟩
   |false =>
    simp only[fO,aM] at e;split at e
    ·split at e
     ·rename_i c;subst c;cases e;exact⟨λ_=>by simp,by simp⟩
     ·cases e;exact⟨λ_=>by simp,by simp;grind⟩
    ·cases e;exact⟨λh=>(by cases h),by simp;grind⟩
  cases d:fi n (a,b) y with
  |mk a' b' =>
   obtain⟨f,g⟩:=one a' b' d;rw[tC n m l a' b' f,g,dy,or_assoc]
theorem Fw{l:List Int}{n m:Int}:m∈j5 l n↔m∈l∨m=n:=by
 have:=tC n m l [] false (by simp)
 unfold j5;generalize l.foldl (fi n) ([],false)=r at *;obtain⟨a,b⟩:=r;cases b <;> simp at this ⊢ <;> rw[this] <;> exact or_comm
theorem oK{m:Int}:∀ {l a:List Int},m∈l.foldl j5 a↔m∈a∨m∈l
 |[],a=>by simp
 |x::l,a=>by rw[kO,oK,Fw,dy,or_assoc]
theorem zf{l:List cN}{m:Int}:m∈ei l↔m∈aZ l:=by unfold ei;rw[oK];simp
theorem tD{m:Int}:∀ {l:List cy}{a:List Int},m∈l.foldl (λout x=>(ei x.2).foldl j5 out) a↔m∈a∨∃ x∈l,m∈aZ x.2
 |[],a=>by simp
 |x::l,a=>by
  rw[kO,tD,oK,zf,or_assoc];simp
theorem tE{l:List cy}{m:Int}:m∈dZ l↔∃ x∈l,m∈aZ x.2:=by unfold dZ;rw[tD];simp
theorem xj{l:List Int}{m:Int}:∀ {j:Nat},j<=l.length->(m∈gB l j↔m∈l.take j)
 |0,_=>by simp[gB]
 |j+1,h=>by
  have b:=xj (l:=l) (m:=m) (j:=j) (by omega)
  rw[gB,bx (by omega) 0]
  split
  ·rename_i c
   rw[b,dJ]
   constructor
   ·exact .inl
   ·rintro(a|a)
    ·exact a
    ·simp only[fy] at a;subst a;rw[c.2,List.getD_eq_getElem?_getD,aj (by omega)]
     exact jV.2 ⟨j-1,by simp;omega,by simp⟩
  ·rw[dJ,dJ,b]
theorem rO{x:cy}{m:Int}:m∈eO x↔m∈aZ x.2:=by
 unfold eO cq;rw[xj (ar _),cZ];exact(rN _).mem_iff
theorem Cl{l:List cy}{p:Int->Bool}:(dZ l).all p=(List.range l.length).all λi=>!(eO (l.getD i (0,[]))).any λn=>!p n:=by
 rw[lE,List.all_eq_true,ba]
 constructor
 ·intro h i hi;rw[iM,pL];intro n a;have:=h n (tE.2 ⟨_,cJ hi,rO.1 a⟩);simp[this]
 ·intro h n a;obtain⟨x,c,d⟩:=tE.1 a;obtain⟨i,hi,rfl⟩:=jV.1 c;have b:=h i hi;rw[List.getD_eq_getElem?_getD,aj hi,cp,iM,pL] at b;simpa using b n (rO.2 d)
end Go.AM.R1
namespace Go.AM.R1
open Go.Proofs
structure OU (w:fT):Prop extends Lb w.1 where
 V2:w.2.1.length<=4000000
 UR:w.2.2.length<=4000000
theorem Ck{l:List cy}{i:Nat}(h:i<l.length):(aZ (l.getD i (0,[])).2).length<=(ix l).length:=by
 have:=w9 l (i+1);rw[m8 h,bc] at this;omega
theorem sv(k:Int)(w:fT):gx k w=(gv k w.1&&(List.range w.1.2.1.length).all (λi=>!(eO (w.1.2.1.getD i (0,[]))).any λn=>!w.2.1.contains n)&&(List.range w.2.2.length).all (m9 w.1.1 w.2.2)):=by
 rw[gx,Cl];cases gv k w.1 <;> simp
set_option maxHeartbeats 4000000 in
theorem xh(k:Int)(w:fT)(r:OU w):Ev (Cx.beside Tryz.prog) 20 [dI k,NY w] [] (dB (gx k w)) []:=by
 refine Ev.body Tryz.func20 rfl rfl rfl λM=>?_
 have b:aO (Cx.beside Tryz.prog) [(31,tz)]:=.cons Ci .nil;have C:=cP.list_fn w.1.1;have B:=cG.list_fn w.1.2.1;have F:=cH.list_fn w.1.2.2;have s:=r.toLb;rw[sv];cases E:gv k w.1
 ·exact AK.dc du eN b [(14,true)] 100 rfl (by simp[aa,E,C,B,F,cP.ae,cG.ae,cH.ae,s]) (AK.au rfl (by simp[aa]))
 refine AK.dc du eN b [(14,false)] 100 rfl (by simp[aa,E,C,B,F,cP.ae,cG.ae,cH.ae,s]) ?_
 rw[ck];refine AK.K3 rfl rfl rfl λo=>?_
 refine AK.dc du eN b [] 100 rfl ab ?_;refine AK.aP (Le o [] w.2.1) [1] rfl rfl rfl rfl rfl rfl rfl rfl rfl rfl rfl ?_;rw[List.nil_append];refine AK.dc du eN b [(1000005,true)] 100 rfl ab ?_;refine AK.freeze 5 2 rfl rfl rfl ?_;refine AK.dc du eN b [] 100 rfl ab ?_;refine AK.bY 3 (λi=>i<=w.1.2.1.length/\∀ j,j<i->(!(eO (w.1.2.1.getD j (0,[]))).any λn=>!w.2.1.contains n)=true) (λi:Nat=>[(0,dI k),(3,.e (.one (.ptr 0 0))),(5,.e (.one (.c (.rp [.val o])))),(22,cG.sl w.1.2.1),(23,dI w.1.2.1.length),(24,dI i)]) (λ_=>[N0 w,zd o w.2.1,.dead]) (λi=>w.1.2.1.length-i) 0 rfl (by simp[aa.cat,aa,ay.same]) rfl (by simp[aa.cat,aa,ay.same]) rfl ⟨by omega,by omega⟩ ?_
 have L:=r.sN;rintro i ⟨hi,a⟩
 by_cases h:i<w.1.2.1.length
 ·have z:w.1.2.1.getD (i:Int).toNat cG.bD=w.1.2.1.getD i (0,[]):=by rw[az];rfl
  have y:=r.sm _ (cJ (d:=(0,[])) h);have K:=Ck h;have G:=r.aN;have J:=cw (p:=λj=>!(eO (w.1.2.1.getD j (0,[]))).any λn=>!w.2.1.contains n) h
  have A:=dn (p:=λj=>!(eO (w.1.2.1.getD j (0,[]))).any λn=>!w.2.1.contains n) (i:=i)
  generalize w.1.2.1.getD i (0,[])=x at *;refine AK.dc du eN b [(25,true)] 100 rfl (by simp[aa];omega) ?_
  rw[z];refine AK.aP (ze x y.1 (by omega)) [] rfl rfl rfl rfl rfl rfl rfl rfl rfl rfl rfl ?_
  refine AK.dc du eN b [] 100 rfl ab ?_;refine AK.aP (E5 (eO x) 35 [.val o] (oH o w.2.1) (λn=>!w.2.1.contains n) λn _=>vm o w.2.1 n) [1] rfl rfl rfl rfl rfl rfl rfl rfl rfl rfl rfl ?_
  cases u:(eO x).any λn=>!w.2.1.contains n with
  |true =>
   refine AK.dc du eN b [] 100 rfl ab (AK.cV (aW.zero rfl ?_));rw[J (by rw[u];rfl)];simp[aa]
  |false =>
   refine AK.dc du eN b [] 100 rfl ?_ (AK.aA (i+1) rfl (by simp[aa.cat,aa,ay.same]) rfl rfl rfl (by simp[aa.cat,aa,ay.same]) rfl ⟨h,A a (by rw[u];rfl)⟩ (by omega))
   simp[aa,aB];omega
 obtain rfl:i=w.1.2.1.length:=by omega
 rw[ba.2 a,ck];refine AK.dc du eN b [(25,false)] 100 rfl (by simp[aa]) (AK.leaveD rfl rfl ?_)
 refine AK.dc du eN b [] 100 rfl ab ?_;have I:=r.UR;refine AK.bY 3 (λi=>i<=w.2.2.length/\∀ j,j<i->m9 w.1.1 w.2.2 j=true) (λi:Nat=>[(0,dI k),(3,.e (.one (.ptr 0 0))),(34,cI.sl w.2.2),(35,dI w.2.2.length),(36,dI i)]) (λ_=>[N0 w,zd o w.2.1,.dead]) (λi=>w.2.2.length-i) 0 rfl (by simp[aa.cat,aa,ay.same]) rfl (by simp[aa.cat,aa,ay.same]) rfl ⟨by omega,by omega⟩ ?_
 rintro i ⟨hi,a⟩
 by_cases h:i<w.2.2.length
 ·have z:w.2.2.getD (i:Int).toNat cI.bD=w.2.2.getD i 0:=by rw[az];rfl
  have q:w.2.2.getD (i-1) cI.bD=w.2.2.getD (i-1) 0:=rfl;have g:m9 w.1.1 w.2.2 i=((w.1.1.any λp=>p.1==w.2.2.getD i 0)&&w6 (λx=>x) 0 w.2.2 i):=rfl
  have t:=mx (f:=λx:Int=>x) (d:=0) (l:=w.2.2) (i:=i)
  generalize w.2.2.getD i 0=n at *;generalize w.2.2.getD (i-1) 0=n' at *;have mr:aO (Cx.beside Tryz.prog) [(36,BW [cP.sl w.1.1,.e (.one (.c (.fn (.func 37) [] [.rp [.int .i64 n]])))] (dB (w.1.1.any λp=>p.1==n)))]:=.cons (HS (E3 w.1.1 37 [.int .i64 n] (λp=>p.1==n) λp _=>Cj p n)) .nil
  refine AK.dc du eN b [(37,true),(1000014,true)] 100 rfl (by simp[aa];omega) ?_
  rw[z];refine AK.freeze 9 3 rfl rfl rfl ?_;have fin:w.1.1.any (λp=>p.1==n)=true->w6 (λx=>x) 0 w.2.2 i=true->m9 w.1.1 w.2.2 i=true:=λu H=>by rw[g,u,H];rfl
  by_cases v:i=0
  ·subst v;cases m:w.1.1.any (λp=>p.1==n) with
   |true =>
    refine AK.dc du eN mr [(43,false),(60,false)] 100 rfl ?_ (AK.aA 1 rfl (by simp[aa.cat,aa,ay.same]) rfl rfl rfl (by simp[aa.cat,aa,ay.same]) rfl ⟨h,dn a (fin m rfl)⟩ (by omega))
    simp[aa,aB,m,jm.sl]
   |false =>
    refine AK.dc du eN mr [(43,false),(60,true)] 100 rfl ?_ (AK.cV (aW.zero rfl ?_))
    ·simp[aa,m,jm.sl]
    ·rw[cw h (by rw[g,m];rfl)];simp[aa]
  by_cases D:n'<n
  rotate_left
  ·refine AK.dc du eN mr [(43,true),(51,true),(60,true)] 100 rfl ?_ (AK.cV (aW.zero rfl ?_))
   ·simp[-List.getD_eq_getElem?_getD,aa,q,aB];omega
   ·rw[cw h (by rw[g,t v,bV D,kQ])];simp[aa]
  cases m:w.1.1.any (λp=>p.1==n) with
  |true =>
   refine AK.dc du eN mr [(43,true),(51,false),(60,false)] 100 rfl ?_ (AK.aA (i+1) rfl (by simp[aa.cat,aa,ay.same]) rfl rfl rfl (by simp[aa.cat,aa,ay.same]) rfl ⟨h,dn a (fin m (by rw[t v];exact aQ D))⟩ (by omega))
   simp[-List.getD_eq_getElem?_getD,aa,q,aB,m,jm.sl];omega
  |false =>
   refine AK.dc du eN mr [(43,true),(51,false),(60,true)] 100 rfl ?_ (AK.cV (aW.zero rfl ?_))
   ·simp[-List.getD_eq_getElem?_getD,aa,q,aB,m,jm.sl];omega
   ·rw[cw h (by rw[g,m];rfl)];simp[aa]
 obtain rfl:i=w.2.2.length:=by omega
 rw[ba.2 a];refine AK.dc du eN b [(37,false)] 100 rfl (by simp[aa]) (AK.leaveD rfl rfl ?_)
 exact AK.dc du eN b [] 100 rfl ab (AK.au rfl (by simp[aa]))
abbrev tA:bH:=ga aI (ln Fl) (λk w=>dB (gx k w)) λ_ w=>[OU w]
theorem Cm:bU (Cx.beside Tryz.prog) 20 tA:=.gX λk w h=>xh k w h
end Go.AM.R1
namespace Go.AM.R1
open Go.Proofs
variable {X:Cx Tryz.prog}
structure Rv (s:cM):Prop where
 c1:s.1.length<=4000000
 c2:∀ x∈s.1,x.2.length<=4000000
 c3:s.2.1.length<=4000000
 c4:∀ x∈s.2.1,(x.2.length<=4000000)/\(∀ y∈x.2,y.2.length<=4000000)
 c5:s.2.2.length<=4000000
theorem zC(x:cM)(h:Rv x):Ev X 29 [BN x] [] (BN x) []:=by
 refine Ev.ko Tryz.func29 rfl rfl rfl λb=>?_
 have a:aO X [(49,xO),(50,xP),(51,xQ)]:=.cons Gj (.cons Gk (.cons Gl .nil));refine af a [] 100 rfl ?_ (AK.freeze 2 1 rfl rfl rfl (AK.pq tok [] rfl ?_ rfl rfl rfl xR))
 ·simp only[aa,aa.cat,cP.list_fn,cP.ae,cG.list_fn,cG.ae,cH.list_fn,cH.ae,ai,ah]
  and_intros <;> first|exact h.c1|exact h.c2|exact h.c3|exact h.c4|exact h.c5
 ·simp[aa,aa.cat,ay.same,cP.list_fn,cG.list_fn,cH.list_fn]
abbrev xS:bH:=fY Ay (λx=>BN x) λx=>[Rv x]
theorem Gm:bU X 29 xS:=.jo λx h=>zC x h
structure Rw (w:fT):Prop extends Rv w.1 where
 d1:w.2.1.length<=4000000
 d2:w.2.2.length<=4000000
theorem zD(x:fT)(h:Rw x):Ev X 16 [NY x] [] (NY x) []:=by
 refine Ev.ko Tryz.func16 rfl rfl rfl λb=>?_
 have a:aO X [(29,xS),(19,qk)]:=.cons Gm (.cons vE .nil);refine af a [] 100 rfl ?_ (AK.freeze 2 1 rfl rfl rfl (AK.pq tok [] rfl ?_ rfl rfl rfl xR))
 ·simp only[aa,aa.cat,cP.list_fn,cP.ae,cG.list_fn,cG.ae,cH.list_fn,cH.ae,cI.list_fn,cI.ae,ai,ah]
  and_intros <;> first|exact h.toRv|exact h.d1|exact h.d2
 ·simp[aa,aa.cat,ay.same,cP.list_fn,cG.list_fn,cH.list_fn,cI.list_fn]
abbrev xT:bH:=fY (ln Fl) (λx=>NY x) λx=>[Rw x]
theorem Gn:bU X 16 xT:=.jo λx h=>zD x h
theorem Gp(x:Int×Int×Int×Bs):Ev X 17 [(ln pE).enc x] [] ((ln pE).enc x) []:=by
 refine Ev.ko Tryz.func17 rfl rfl rfl λa=>?_
 refine bw rfl ?_ (AK.freeze 2 1 rfl rfl rfl (AK.pq tok [] rfl ?_ rfl rfl rfl xR))
 ·trivial
 ·simp[aa,aa.cat]
abbrev Gq:bH:=fY (ln pE) (λx=>(ln pE).enc x) λ_=>[]
theorem LH:bU X 17 Gq:=.jo λx _=>Gp x
structure Rx (w:eL):Prop extends Rw w.2.1 where
 g1:w.2.2.2.1.length<=4000000
 g2:w.2.2.2.2.length<=4000000
theorem zE(x:eL)(h:Rx x):Ev X 6 [K9 x] [] (K9 x) []:=by
 refine Ev.ko Tryz.func6 rfl rfl rfl λb=>?_
 have a:aO X [(16,xT),(17,Gq),(18,rY),(19,qk)]:=.cons Gn (.cons LH (.cons zF (.cons vE .nil)));refine af a [] 100 rfl ?_ (AK.freeze 2 1 rfl rfl rfl (AK.pq tok [] rfl ?_ rfl rfl rfl xR))
 ·simp only[aa,aa.cat,cP.list_fn,cP.ae,cG.list_fn,cG.ae,cH.list_fn,cH.ae,cI.list_fn,cI.ae,ai,ah]
  and_intros <;> first|exact h.toRw|exact h.g1|exact h.g2
 ·simp[aa,aa.cat,ay.same,cP.list_fn,cG.list_fn,cH.list_fn,cI.list_fn]
abbrev xU:bH:=fY (ln GH) (λx=>K9 x) λx=>[Rx x]
theorem Gr:bU X 6 xU:=.jo λx h=>zE x h
theorem Cu(a:List (Int)):Ev X 24 [cI.sl a,cI.sl a] [] (dB true) []:=by
 refine Ev.body Tryz.func24 rfl rfl rfl λd=>?_
 have e:=d.sl 0 rfl;have b:aO X []:=.nil;refine af b [(10,false)] 100 rfl (by simp[aa]) ?_
 refine AK.eg (λi=>i<=a.length) (λi:Nat=>[(0,cI.sl a),(1,cI.sl a),(5,dI i)]) (λ_=>[]) (λi=>a.length-i) 0 rfl (by simp[aa.cat,aa,ay.same]) rfl ab (by omega) ?_
 intro i hi
 by_cases h:i<a.length
 ·have c:a.getD (i:Int).toNat cI.bD=a.getD i 0:=by rw[az];rfl
  refine af b [(14,true),(25,false)] 100 rfl ?_ (AK.cR (i+1) rfl (by simp[aa.cat,aa,ay.same]) rfl ab h (by omega))
  simp only[aa,c,aB];simp;omega
 obtain rfl:i=a.length:=by omega
 refine af b [(14,false)] 100 rfl (by simp[aa]) (AK.leave rfl rfl ?_)
 exact af b [] 100 rfl ab (AK.au rfl (by simp[aa]))
abbrev qi:bH:=ga (aL cI) (aL cI) (λ_ _=>dB true) λa b=>[a=b]
theorem vv:bU X 24 qi:=.gX λa b h=>by obtain rfl:a=b:=h;exact Cu a
theorem Cv(x:ew):Ev X 139 [yJ.enc x,yJ.enc x] [] (dB true) []:=by
 refine Ev.body Tryz.func139 rfl rfl rfl λb=>?_
 have a:aO X []:=.nil;exact af a [(9,false),(14,false)] 100 rfl (by simp[aa,aa.cat]) (AK.au rfl (by simp[aa]))
abbrev AT:bH:=ga yJ yJ (λ_ _=>dB true) λa b=>[a=b]
theorem Is:bU X 139 AT:=.gX λa b h=>by obtain rfl:a=b:=h;exact Cv a
theorem zj(a:List (ew)):Ev X 99 [cK.sl a,cK.sl a] [] (dB true) []:=by
 refine Ev.body Tryz.func99 rfl rfl rfl λd=>?_
 have e:=d.sl 0 rfl;have b:aO X [(139,AT)]:=.cons Is .nil;refine af b [(10,false)] 100 rfl (by simp[aa]) ?_
 refine AK.eg (λi=>i<=a.length) (λi:Nat=>[(0,cK.sl a),(1,cK.sl a),(5,dI i)]) (λ_=>[]) (λi=>a.length-i) 0 rfl (by simp[aa.cat,aa,ay.same]) rfl ab (by omega) ?_
 intro i hi
 by_cases h:i<a.length
 ·have c:a.getD (i:Int).toNat cK.bD=a.getD i (0,[]):=by rw[az];rfl
  refine af b [(14,true),(26,false)] 100 rfl ?_ (AK.cR (i+1) rfl (by simp[aa.cat,aa,ay.same]) rfl ab h (by omega))
  simp only[aa,c,aB];simp;omega
 obtain rfl:i=a.length:=by omega
 refine af b [(14,false)] 100 rfl (by simp[aa]) (AK.leave rfl rfl ?_)
 exact af b [] 100 rfl ab (AK.au rfl (by simp[aa]))
abbrev xw:bH:=ga (aL cK) (aL cK) (λ_ _=>dB true) λa b=>[a=b]
theorem F1:bU X 99 xw:=.gX λa b h=>by obtain rfl:a=b:=h;exact zj a
theorem Cw(x:aR):Ev X 79 [(na cK).enc x,(na cK).enc x] [] (dB true) []:=by
 refine Ev.body Tryz.func79 rfl rfl rfl λb=>?_
 have a:aO X [(99,xw)]:=.cons F1 (.nil);exact af a [(9,false),(15,false)] 100 rfl (by simp[aa,aa.cat,cK.list_fn,cK.ae]) (AK.au rfl (by simp[aa]))
abbrev AU:bH:=ga (na cK) (na cK) (λ_ _=>dB true) λa b=>[a=b]
theorem Iu:bU X 79 AU:=.gX λa b h=>by obtain rfl:a=b:=h;exact Cw a
theorem zk(a:List (aR)):Ev X 60 [cP.sl a,cP.sl a] [] (dB true) []:=by
 refine Ev.body Tryz.func60 rfl rfl rfl λd=>?_
 have e:=d.sl 0 rfl;have b:aO X [(79,AU)]:=.cons Iu .nil;refine af b [(10,false)] 100 rfl (by simp[aa]) ?_
 refine AK.eg (λi=>i<=a.length) (λi:Nat=>[(0,cP.sl a),(1,cP.sl a),(5,dI i)]) (λ_=>[]) (λi=>a.length-i) 0 rfl (by simp[aa.cat,aa,ay.same]) rfl ab (by omega) ?_
 intro i hi
 by_cases h:i<a.length
 ·have c:a.getD (i:Int).toNat cP.bD=a.getD i (0,[]):=by rw[az];rfl
  refine af b [(14,true),(26,false)] 100 rfl ?_ (AK.cR (i+1) rfl (by simp[aa.cat,aa,ay.same]) rfl ab h (by omega))
  simp only[aa,c,aB,cK.list_fn,cK.ae];simp;omega
 obtain rfl:i=a.length:=by omega
 refine af b [(14,false)] 100 rfl (by simp[aa]) (AK.leave rfl rfl ?_)
 exact af b [] 100 rfl ab (AK.au rfl (by simp[aa]))
abbrev xx:bH:=ga (aL cP) (aL cP) (λ_ _=>dB true) λa b=>[a=b]
theorem F2:bU X 60 xx:=.gX λa b h=>by obtain rfl:a=b:=h;exact zk a
theorem xy(x:cN):Ev X 140 [(ln GI).enc x,(ln GI).enc x] [] (dB true) []:=by
 refine Ev.body Tryz.func140 rfl rfl rfl λb=>?_
 have a:aO X [(24,qi)]:=.cons vv (.nil);exact af a [(9,false),(15,false)] 100 rfl (by simp[aa,aa.cat,cI.list_fn,cI.ae]) (AK.au rfl (by simp[aa]))
abbrev tK:bH:=ga (ln GI) (ln GI) (λ_ _=>dB true) λa b=>[a=b]
theorem Cy:bU X 140 tK:=.gX λa b h=>by obtain rfl:a=b:=h;exact xy a
theorem vw(a:List (cN)):Ev X 100 [cL.sl a,cL.sl a] [] (dB true) []:=by
 refine Ev.body Tryz.func100 rfl rfl rfl λd=>?_
 have e:=d.sl 0 rfl;have b:aO X [(140,tK)]:=.cons Cy .nil;refine af b [(10,false)] 100 rfl (by simp[aa]) ?_
 refine AK.eg (λi=>i<=a.length) (λi:Nat=>[(0,cL.sl a),(1,cL.sl a),(5,dI i)]) (λ_=>[]) (λi=>a.length-i) 0 rfl (by simp[aa.cat,aa,ay.same]) rfl ab (by omega) ?_
 intro i hi
 by_cases h:i<a.length
 ·have c:a.getD (i:Int).toNat cL.bD=a.getD i ([],[]):=by rw[az];rfl
  refine af b [(14,true),(26,false)] 100 rfl ?_ (AK.cR (i+1) rfl (by simp[aa.cat,aa,ay.same]) rfl ab h (by omega))
  simp only[aa,c,aB,cI.list_fn,cI.ae];simp;omega
 obtain rfl:i=a.length:=by omega
 refine af b [(14,false)] 100 rfl (by simp[aa]) (AK.leave rfl rfl ?_)
 exact af b [] 100 rfl ab (AK.au rfl (by simp[aa]))
abbrev rU:bH:=ga (aL cL) (aL cL) (λ_ _=>dB true) λa b=>[a=b]
theorem zl:bU X 100 rU:=.gX λa b h=>by obtain rfl:a=b:=h;exact vw a
theorem Cz(x:cy):Ev X 80 [(na cL).enc x,(na cL).enc x] [] (dB true) []:=by
 refine Ev.body Tryz.func80 rfl rfl rfl λb=>?_
 have a:aO X [(100,rU)]:=.cons zl (.nil);exact af a [(9,false),(15,false)] 100 rfl (by simp[aa,aa.cat,cL.list_fn,cL.ae]) (AK.au rfl (by simp[aa]))
abbrev AV:bH:=ga (na cL) (na cL) (λ_ _=>dB true) λa b=>[a=b]
theorem Iv:bU X 80 AV:=.gX λa b h=>by obtain rfl:a=b:=h;exact Cz a
theorem zm(a:List (cy)):Ev X 61 [cG.sl a,cG.sl a] [] (dB true) []:=by
 refine Ev.body Tryz.func61 rfl rfl rfl λd=>?_
 have e:=d.sl 0 rfl;have b:aO X [(80,AV)]:=.cons Iv .nil;refine af b [(10,false)] 100 rfl (by simp[aa]) ?_
 refine AK.eg (λi=>i<=a.length) (λi:Nat=>[(0,cG.sl a),(1,cG.sl a),(5,dI i)]) (λ_=>[]) (λi=>a.length-i) 0 rfl (by simp[aa.cat,aa,ay.same]) rfl ab (by omega) ?_
 intro i hi
 by_cases h:i<a.length
 ·have c:a.getD (i:Int).toNat cG.bD=a.getD i (0,[]):=by rw[az];rfl
  refine af b [(14,true),(26,false)] 100 rfl ?_ (AK.cR (i+1) rfl (by simp[aa.cat,aa,ay.same]) rfl ab h (by omega))
  simp only[aa,c,aB,cL.list_fn,cL.ae];simp;omega
 obtain rfl:i=a.length:=by omega
 refine af b [(14,false)] 100 rfl (by simp[aa]) (AK.leave rfl rfl ?_)
 exact af b [] 100 rfl ab (AK.au rfl (by simp[aa]))
abbrev xz:bH:=ga (aL cG) (aL cG) (λ_ _=>dB true) λa b=>[a=b]
theorem F3:bU X 61 xz:=.gX λa b h=>by obtain rfl:a=b:=h;exact zm a
theorem CB(x:gu):Ev X 81 [tf.enc x,tf.enc x] [] (dB true) []:=by
 refine Ev.body Tryz.func81 rfl rfl rfl λb=>?_
 have a:aO X []:=.nil;exact af a [(9,false),(14,false)] 100 rfl (by simp[aa,aa.cat]) (AK.au rfl (by simp[aa]))
abbrev AX:bH:=ga tf tf (λ_ _=>dB true) λa b=>[a=b]
theorem Iw:bU X 81 AX:=.gX λa b h=>by obtain rfl:a=b:=h;exact CB a
theorem zn(a:List (gu)):Ev X 62 [cH.sl a,cH.sl a] [] (dB true) []:=by
 refine Ev.body Tryz.func62 rfl rfl rfl λd=>?_
 have e:=d.sl 0 rfl;have b:aO X [(81,AX)]:=.cons Iw .nil;refine af b [(10,false)] 100 rfl (by simp[aa]) ?_
 refine AK.eg (λi=>i<=a.length) (λi:Nat=>[(0,cH.sl a),(1,cH.sl a),(5,dI i)]) (λ_=>[]) (λi=>a.length-i) 0 rfl (by simp[aa.cat,aa,ay.same]) rfl ab (by omega) ?_
 intro i hi
 by_cases h:i<a.length
 ·have c:a.getD (i:Int).toNat cH.bD=a.getD i (0,0):=by rw[az];rfl
  refine af b [(14,true),(26,false)] 100 rfl ?_ (AK.cR (i+1) rfl (by simp[aa.cat,aa,ay.same]) rfl ab h (by omega))
  simp only[aa,c,aB];simp;omega
 obtain rfl:i=a.length:=by omega
 refine af b [(14,false)] 100 rfl (by simp[aa]) (AK.leave rfl rfl ?_)
 exact af b [] 100 rfl ab (AK.au rfl (by simp[aa]))
abbrev xA:bH:=ga (aL cH) (aL cH) (λ_ _=>dB true) λa b=>[a=b]
theorem F4:bU X 62 xA:=.gX λa b h=>by obtain rfl:a=b:=h;exact zn a
theorem xB(x:gu):Ev X 39 [tf.enc x,tf.enc x] [] (dB true) []:=by
 refine Ev.body Tryz.func39 rfl rfl rfl λb=>?_
 have a:aO X []:=.nil;exact af a [(9,false),(14,false)] 100 rfl (by simp[aa,aa.cat]) (AK.au rfl (by simp[aa]))
abbrev tL:bH:=ga tf tf (λ_ _=>dB true) λa b=>[a=b]
theorem CC:bU X 39 tL:=.gX λa b h=>by obtain rfl:a=b:=h;exact xB a
theorem vA(a:List (gu)):Ev X 23 [cH.sl a,cH.sl a] [] (dB true) []:=by
 refine Ev.body Tryz.func23 rfl rfl rfl λd=>?_
 have e:=d.sl 0 rfl;have b:aO X [(39,tL)]:=.cons CC .nil;refine af b [(10,false)] 100 rfl (by simp[aa]) ?_
 refine AK.eg (λi=>i<=a.length) (λi:Nat=>[(0,cH.sl a),(1,cH.sl a),(5,dI i)]) (λ_=>[]) (λi=>a.length-i) 0 rfl (by simp[aa.cat,aa,ay.same]) rfl ab (by omega) ?_
 intro i hi
 by_cases h:i<a.length
 ·have c:a.getD (i:Int).toNat cH.bD=a.getD i (0,0):=by rw[az];rfl
  refine af b [(14,true),(26,false)] 100 rfl ?_ (AK.cR (i+1) rfl (by simp[aa.cat,aa,ay.same]) rfl ab h (by omega))
  simp only[aa,c,aB];simp;omega
 obtain rfl:i=a.length:=by omega
 refine af b [(14,false)] 100 rfl (by simp[aa]) (AK.leave rfl rfl ?_)
 exact af b [] 100 rfl ab (AK.au rfl (by simp[aa]))
abbrev rV:bH:=ga (aL cH) (aL cH) (λ_ _=>dB true) λa b=>[a=b]
theorem zo:bU X 23 rV:=.gX λa b h=>by obtain rfl:a=b:=h;exact vA a
theorem F5(x:Int×Int×Int×Bs):Ev X 22 [(ln pE).enc x,(ln pE).enc x] [] (dB true) []:=by
 refine Ev.body Tryz.func22 rfl rfl rfl λb=>?_
 have a:aO X []:=.nil;exact af a [(9,false),(14,false),(19,false),(24,false)] 100 rfl (by simp[aa,aa.cat]) (AK.au rfl (by simp[aa]))
abbrev F6:bH:=ga (ln pE) (ln pE) (λ_ _=>dB true) λa b=>[a=b]
theorem LC:bU X 22 F6:=.gX λa b h=>by obtain rfl:a=b:=h;exact F5 a
theorem zp(x:cM):Ev X 38 [Ay.enc x,Ay.enc x] [] (dB true) []:=by
 refine Ev.body Tryz.func38 rfl rfl rfl λb=>?_
 have a:aO X [(60,xx),(61,xz),(62,xA)]:=.cons F2 (.cons F3 (.cons F4 (.nil)));exact af a [(10,false),(16,false),(22,false)] 100 rfl (by simp[aa,aa.cat,cP.list_fn,cP.ae,cG.list_fn,cG.ae,cH.list_fn,cH.ae]) (AK.au rfl (by simp[aa]))
abbrev xC:bH:=ga Ay Ay (λ_ _=>dB true) λa b=>[a=b]
theorem F7:bU X 38 xC:=.gX λa b h=>by obtain rfl:a=b:=h;exact zp a
theorem zq(x:fT):Ev X 21 [(ln Fl).enc x,(ln Fl).enc x] [] (dB true) []:=by
 refine Ev.body Tryz.func21 rfl rfl rfl λb=>?_
 have a:aO X [(38,xC),(24,qi)]:=.cons F7 (.cons vv (.nil));exact af a [(10,false),(16,false),(22,false)] 100 rfl (by simp[aa,aa.cat,cP.list_fn,cP.ae,cG.list_fn,cG.ae,cH.list_fn,cH.ae,cI.list_fn,cI.ae]) (AK.au rfl (by simp[aa]))
abbrev xE:bH:=ga (ln Fl) (ln Fl) (λ_ _=>dB true) λa b=>[a=b]
theorem F8:bU X 21 xE:=.gX λa b h=>by obtain rfl:a=b:=h;exact zq a
theorem zr(x:eL):Ev X 8 [(ln GH).enc x,(ln GH).enc x] [] (dB true) []:=by
 refine Ev.body Tryz.func8 rfl rfl rfl λb=>?_
 have a:aO X [(21,xE),(22,F6),(23,rV),(24,qi)]:=.cons F8 (.cons LC (.cons zo (.cons vv (.nil))));exact af a [(9,false),(15,false),(21,false),(27,false),(33,false)] 100 rfl (by simp[aa,aa.cat,cP.list_fn,cP.ae,cG.list_fn,cG.ae,cH.list_fn,cH.ae,cI.list_fn,cI.ae]) (AK.au rfl (by simp[aa]))
abbrev xF:bH:=ga (ln GH) (ln GH) (λ_ _=>dB true) λa b=>[a=b]
theorem F9:bU X 8 xF:=.gX λa b h=>by obtain rfl:a=b:=h;exact zr a
def tu(m:Int×Int):Bool:=decide (0<=m.1/\m.1<=9)&&decide (0<=m.2)
abbrev ss(w:eL)(i:Nat):Int×Int:=w.2.2.2.1.getD i (0,0)
abbrev pF(w:eL)(i:Nat):Int:=w.2.2.2.2.getD i 0
def pd(w:eL)(i:Nat):Bool:=tu (ss w i)&&decide (0<=pF w i/\pF w i<=2)
def lh(w:eL):Bool:=decide (w.2.2.2.1.length=2)&&decide (w.2.2.2.2.length=2)&&(List.range 2).all (pd w)&&gx w.1 w.2.1
theorem Fq(m:Int×Int):Ev X 13 [tf.enc m] [] (dB (tu m)) []:=by
 refine Ev.body Tryz.func13 rfl rfl rfl λb=>?_
 have a:aO X [(14,wR)]:=.cons y0 .nil
 by_cases c:0<=m.1/\m.1<=9
 ·exact af a [(6,true)] 100 rfl (by simp[aa,c]) (AK.au rfl (by simp[aa,tu,c]))
 ·exact af a [(6,false)] 100 rfl (by simp[aa];omega) (AK.au rfl (by simp only[aa,tu,bV c];simp))
theorem xc(w:eL)(n:NZ w.2.1.1):Ev X 5 [K9 w] [] (dB (lh w)) []:=by
 refine Ev.body Tryz.func5 rfl rfl rfl λo=>?_
 have a:aO X [(13,fY tf (λm=>dB (tu m)) λ_=>[]),(14,wR),(15,tr)]:=.cons (.jo λm _=>Fq m) (.cons y0 (.cons Ca .nil))
 unfold lh
 by_cases l:w.2.2.2.1.length=2
 rotate_left
 ·exact af a [(8,true),(13,true)] 100 rfl (by simp[aa];omega) (AK.au rfl (by simp[aa,bV l]))
 by_cases k:w.2.2.2.2.length=2
 rotate_left
 ·exact af a [(8,false),(13,true)] 100 rfl (by simp[aa];omega) (AK.au rfl (by simp[aa,bV k]))
 refine af a [(8,false),(13,false)] 100 rfl (by simp[aa];omega) ?_
 rw[aQ l,aQ k,ck,ck];refine AK.bY 1 (λi=>i<=2/\∀ j,j<i->pd w j=true) (λi:Nat=>[(1,.e (.one (.ptr 0 0))),(3,dI i)]) (λ_=>[.cells 47 (QF w)]) (λi=>2-i) 0 rfl (by simp[aa.cat,aa]) rfl (by simp[aa.cat,aa,ay.same]) rfl ⟨by omega,by omega⟩ ?_
 rintro i ⟨hi,b⟩
 by_cases h:i<2
 ·have f:w.2.2.2.1.getD i cH.bD=ss w i:=rfl;have d:w.2.2.2.2.getD i cI.bD=pF w i:=rfl;cases c:tu (ss w i) with
  |false =>
   refine af a [(15,true),(25,true),(33,true)] 100 rfl ?_ (AK.cV (aW.zero rfl ?_))
   ·simp[-List.getD_eq_getElem?_getD,aa,f,c];omega
   ·rw[cw h (by rw[pd,c];rfl)];simp[aa]
  |true =>
   by_cases g:0<=pF w i/\pF w i<=2
   ·refine af a [(15,true),(25,false),(33,false)] 100 rfl ?_ (AK.aA (i+1) rfl (by simp[aa.cat,aa]) rfl rfl rfl (by simp[aa.cat,aa,ay.same]) rfl ⟨h,dn b (by rw[pd,c,aQ g];rfl)⟩ (by omega))
    simp[-List.getD_eq_getElem?_getD,aa,f,d,c,aB];omega
   ·refine af a [(15,true),(25,false),(33,true)] 100 rfl ?_ (AK.cV (aW.zero rfl ?_))
    ·simp[-List.getD_eq_getElem?_getD,aa,f,d,c];omega
    ·rw[cw h (by rw[pd,bV g,kQ])];simp[aa]
 obtain rfl:i=2:=by omega
 rw[ba.2 b,ck];refine af a [(15,false)] 100 rfl (by simp[aa]) (AK.leaveD rfl rfl ?_)
 refine af a [] 100 rfl ?_ (AK.au rfl ?_)
 ·simp[aa.cat,aa,cP.list_fn,cP.ae,cG.list_fn,cG.ae,cH.list_fn,cH.ae,cI.list_fn,cI.ae,n]
 ·simp[aa,cP.list_fn,cG.list_fn,cH.list_fn,cI.list_fn]
abbrev tv:bH:=fY (ln GH) (λw=>dB (lh w)) λw=>[NZ w.2.1.1]
theorem Cb:bU X 5 tv:=.jo λw h=>xc w h
end Go.AM.R1
namespace Go.AM.R1
open Go.Proofs
abbrev US(w:eL):ak:=.cells 47 (QF w)
theorem sx(w:eL):lh w=(gx w.1 w.2.1&&decide (w.2.2.2.1.length=2)&&decide (w.2.2.2.2.length=2)&&(List.range 2).all (pd w)):=by
 unfold lh;cases gx w.1 w.2.1 <;> cases decide (w.2.2.2.1.length=2) <;> cases decide (w.2.2.2.2.length=2) <;> simp
set_option maxHeartbeats 4000000 in
theorem xi(w:eL)(g:OU w.2.1):Ev (Cx.beside Tryz.prog) 7 [K9 w] [] (dB (lh w)) []:=by
 refine Ev.body Tryz.func7 rfl rfl rfl λv=>?_
 have b:aO (Cx.beside Tryz.prog) [(20,tA)]:=.cons Cm .nil;have l:=cP.list_fn w.2.1.1.1;have k:=cG.list_fn w.2.1.1.2.1;have m:=cH.list_fn w.2.1.1.2.2;have o:=cI.list_fn w.2.1.2.1;have n:=cI.list_fn w.2.1.2.2;rw[sx];cases q:gx w.1 w.2.1
 ·exact AK.dc du eN b [(11,true),(17,true),(22,true)] 100 rfl (by simp[aa.cat,aa,q,l,k,m,o,n,cP.ae,cG.ae,cH.ae,cI.ae,g]) (AK.au rfl (by simp[aa]))
 by_cases r:w.2.2.2.1.length=2
 rotate_left
 ·exact AK.dc du eN b [(11,false),(17,true),(22,true)] 100 rfl (by simp[aa.cat,aa,q,l,k,m,o,n,cP.ae,cG.ae,cH.ae,cI.ae,g];omega) (AK.au rfl (by simp[aa,bV r]))
 by_cases s:w.2.2.2.2.length=2
 rotate_left
 ·exact AK.dc du eN b [(11,false),(17,false),(22,true)] 100 rfl (by simp[aa.cat,aa,q,l,k,m,o,n,cP.ae,cG.ae,cH.ae,cI.ae,g];omega) (AK.au rfl (by simp[aa,bV s]))
 refine AK.dc du eN b [(11,false),(17,false),(22,false)] 100 rfl (by simp[aa.cat,aa,q,l,k,m,o,n,cP.ae,cG.ae,cH.ae,cI.ae,g];omega) ?_
 rw[aQ r,aQ s,ck,ck,ck];refine AK.bY 1 (λi=>i<=2/\∀ j,j<i->pd w j=true) (λi:Nat=>[(1,.e (.one (.ptr 0 0))),(24,cH.sl w.2.2.2.1),(25,dI w.2.2.2.1.length),(26,dI i)]) (λ_=>[US w]) (λi=>2-i) 0 rfl (by simp[aa.cat,aa,ay.same]) rfl (by simp[aa.cat,aa,ay.same]) rfl ⟨by omega,by omega⟩ ?_
 rintro i ⟨hi,c⟩
 by_cases h:i<2
 ·have f:w.2.2.2.1.getD i cH.bD=ss w i:=rfl;have d:w.2.2.2.2.getD i cI.bD=pF w i:=rfl;have a:pd w i=(decide (0<=(ss w i).1/\(ss w i).1<=9)&&decide (0<=(ss w i).2)&&decide (0<=pF w i/\pF w i<=2)):=rfl
  by_cases t:0<=(ss w i).1
  rotate_left
  ·refine AK.dc du eN b [(27,true),(34,true),(39,true),(44,true),(52,true),(59,true)] 100 rfl ?_ (AK.cV (aW.zero rfl ?_))
   ·simp[-List.getD_eq_getElem?_getD,aa,f];omega
   ·rw[cw h (by rw[a,bV (by omega)];rfl)];simp[aa]
  by_cases c2:(ss w i).1<=9
  rotate_left
  ·refine AK.dc du eN b [(27,true),(34,false),(39,true),(44,true),(52,true),(59,true)] 100 rfl ?_ (AK.cV (aW.zero rfl ?_))
   ·simp[-List.getD_eq_getElem?_getD,aa,f];omega
   ·rw[cw h (by rw[a,bV (by omega)];rfl)];simp[aa]
  by_cases c3:0<=(ss w i).2
  rotate_left
  ·refine AK.dc du eN b [(27,true),(34,false),(39,false),(44,true),(52,true),(59,true)] 100 rfl ?_ (AK.cV (aW.zero rfl ?_))
   ·simp[-List.getD_eq_getElem?_getD,aa,f];omega
   ·rw[cw h (by rw[a,bV c3,kQ];rfl)];simp[aa]
  by_cases c4:0<=pF w i
  rotate_left
  ·refine AK.dc du eN b [(27,true),(34,false),(39,false),(44,false),(52,true),(59,true)] 100 rfl ?_ (AK.cV (aW.zero rfl ?_))
   ·simp[-List.getD_eq_getElem?_getD,aa,f,d];omega
   ·rw[cw h (by rw[a,bV (p:=0<=pF w i/\_) (by omega),kQ])];simp[aa]
  by_cases u:pF w i<=2
  rotate_left
  ·refine AK.dc du eN b [(27,true),(34,false),(39,false),(44,false),(52,false),(59,true)] 100 rfl ?_ (AK.cV (aW.zero rfl ?_))
   ·simp[-List.getD_eq_getElem?_getD,aa,f,d];omega
   ·rw[cw h (by rw[a,bV (p:=0<=pF w i/\_) (by omega),kQ])];simp[aa]
  refine AK.dc du eN b [(27,true),(34,false),(39,false),(44,false),(52,false),(59,false)] 100 rfl ?_ (AK.aA (i+1) rfl (by simp[aa.cat,aa,ay.same]) rfl rfl rfl (by simp[aa.cat,aa,ay.same]) rfl ⟨h,dn c (by rw[a,aQ ⟨t,c2⟩,aQ c3,aQ ⟨c4,u⟩];rfl)⟩ (by omega))
  simp[-List.getD_eq_getElem?_getD,aa,f,d,aB];omega
 obtain rfl:i=2:=by omega
 rw[ba.2 c];refine AK.dc du eN b [(27,false)] 100 rfl (by simp[aa];omega) (AK.leaveD rfl rfl ?_)
 exact AK.dc du eN b [] 100 rfl ab (AK.au rfl (by simp[aa]))
theorem oa{α:Type}(f:α->Nat)(a:List α):a.length<=fp f a:=by unfold fp;omega
theorem A5{α:Type}{f:α->Nat}:∀ {a:List α}{x:α},x∈a->f x<=(a.map f).sum
 |y::r,x,h=>by
  rcases dy.1 h with rfl|h
  ·simp
  ·have:=A5 (f:=f) h;simp only[iO,List.sum_cons];omega
theorem r5{α:Type}{f:α->Nat}{a:List α}{x:α}(h:x∈a):f x<=fp f a:=by have:=A5 (f:=f) h;unfold fp;omega
theorem ql{α b:Type}{f:α->List b}{g:α->Nat}(h:∀ x,(f x).length<=g x):∀ a:List α,(a.flatMap f).length<=(a.map g).sum
 |[]=>by simp
 |x::r=>by have:=ql h r;have:=h x;simp only[List.flatMap_cons,bc,iO,List.sum_cons];omega
theorem Gt{w:eL}(h:mz w<=1048576):Rx w/\OU w.2.1:=by
 unfold mz g8 iI at h;have i:∀ p:aR,p.2.length<=dw p:=λp=>oa _ _
 have d:∀ y:cN,y.2.length<=cx y:=λy=>by unfold cx;omega
 have c:∀ x:cy,x.2.length<=de x:=λx=>oa _ _
 have a:∀ x:cy,(aZ x.2).length<=de x:=λx=>by
  have:=ql (f:=λy:cN=>y.2) (g:=cx) d x.2
  unfold de fp aZ;omega
 have q:=oa dw w.2.1.1.1;have n:=oa de w.2.1.1.2.1;have p2:∀ x∈w.2.1.1.1,x.2.length<=4000000:=λx b=>by have:=r5 (f:=dw) b;have:=i x;omega
 have s2:∀ x∈w.2.1.1.2.1,x.2.length<=4000000/\∀ y∈x.2,y.2.length<=4000000:=λx b=>by
  have e:=r5 (f:=de) b;have j:=c x;refine⟨by omega,λy m=>?_⟩
  have o:cx y<=de x:=r5 (f:=cx) m;have:=d y;omega
 have l:(aK w.2.1.1.1).length<=4000000:=by
  have e:=ql (f:=λp:aR=>p.2.map (·.1)) (g:=dw) (λp=>by rw[iN];exact i p) w.2.1.1.1
  have j:fp dw w.2.1.1.1=w.2.1.1.1.length+(w.2.1.1.1.map dw).sum:=rfl;unfold aK;omega
 have k:(ix w.2.1.1.2.1).length<=4000000:=by
  have e:=ql (f:=λx:cy=>aZ x.2) (g:=de) a w.2.1.1.2.1
  have j:fp de w.2.1.1.2.1=w.2.1.1.2.1.length+(w.2.1.1.2.1.map de).sum:=rfl;unfold ix;omega
 exact⟨⟨⟨⟨by omega,p2,by omega,s2,by omega⟩,by omega,by omega⟩,by omega,by omega⟩,⟨⟨⟨by omega,s2,by omega,k⟩,p2,l⟩,by omega,by omega⟩⟩
set_option maxHeartbeats 4000000 in
theorem pC(w:eL):Ev (Cx.beside Tryz.prog) 3 [K9 w] [] (dB true) []:=by
 refine Ev.body Tryz.func3 rfl rfl rfl λp=>?_
 have o:=(ln GH).enc w;have g:=cP.list_fn w.2.1.1.1;have d:=cG.list_fn w.2.1.1.2.1;have f:=cH.list_fn w.2.1.1.2.2;have j:=cI.list_fn w.2.1.2.1;have h:=cI.list_fn w.2.1.2.2;have i:=cH.list_fn w.2.2.2.1;have c:=cI.list_fn w.2.2.2.2;have b:aO (Cx.beside Tryz.prog) [(4,xN)]:=.cons Gi .nil
 by_cases a:((mz w:Nat):Int)<=1048576
 rotate_left
 ·have e:=bE a;exact af b [(11,true)] 100 rfl (by simp[aa.cat,aa,e,g,d,f,j,h,i,c,cP.ae,cG.ae,cH.ae,cI.ae]) (AK.au rfl (by simp[aa]))
 have e:=bK a;obtain⟨n,k⟩:=Gt (w:=w) (by omega)
 have l:=k.toNZ;refine af b [(11,false)] 100 rfl (by simp[aa.cat,aa,e,g,d,f,j,h,i,c,cP.ae,cG.ae,cH.ae,cI.ae];omega) ?_
 have m:aO (Cx.beside Tryz.prog) [(6,xU),(5,tv),(7,BW [K9 w] (dB (lh w))),(8,xF)]:=.cons Gr (.cons Cb (.cons (HS (xi w k)) (.cons F9 .nil)));refine af m [(21,false),(26,false)] 100 rfl ?_ (AK.au rfl (by simp[aa]))
 simp[aa.cat,aa,g,d,f,j,h,i,c,cP.ae,cG.ae,cH.ae,cI.ae,n,l]
end Go.AM.R1
namespace Go.AM.R1
open Go.Proofs
variable {H:Type}{enc:TypeId×Value->H}{W:World}
abbrev rI:Reads enc Tryz.prog W 3 (λn:Int=>[.int .i64 n]):=.int Tryz.underlying3
abbrev rS:Reads enc Tryz.prog W 9 (λs:Bs=>[.str s]):=.str Tryz.underlying9
theorem OV:Reads enc Tryz.prog W 27 (fL cI).enc:=.sl cI Tryz.underlying27 (by kernel_rfl) (by decide) rI
theorem Of:Reads enc Tryz.prog W 163 cK.enc:=(Reads.struct Tryz.underlying163 (tot:=2) (by kernel_rfl) (.cons rI rfl (n:=1) (by kernel_rfl) (.one rS rfl (by kernel_rfl)))).to λ_=>rfl
theorem Og:Reads enc Tryz.prog W 116 cP.enc:=(Reads.struct Tryz.underlying116 (tot:=2) (by kernel_rfl) (.cons rI rfl (n:=1) (by kernel_rfl) (.one (.sl cK Tryz.underlying114 (by kernel_rfl) (by decide) Of) rfl (by kernel_rfl)))).to λ_=>rfl
theorem Ix:Reads enc Tryz.prog W 165 cL.enc:=(Reads.struct Tryz.underlying165 (tot:=2) (by kernel_rfl) (.cons rS rfl (n:=1) (by kernel_rfl) (.one OV rfl (by kernel_rfl)))).to λ_=>rfl
theorem Oh:Reads enc Tryz.prog W 120 cG.enc:=(Reads.struct Tryz.underlying120 (tot:=2) (by kernel_rfl) (.cons rI rfl (n:=1) (by kernel_rfl) (.one (.sl cL Tryz.underlying118 (by kernel_rfl) (by decide) Ix) rfl (by kernel_rfl)))).to λ_=>rfl
theorem Oi:Reads enc Tryz.prog W 133 cH.enc:=(Reads.struct Tryz.underlying133 (tot:=2) (by kernel_rfl) (.cons rI rfl (n:=1) (by kernel_rfl) (.one rI rfl (by kernel_rfl)))).to λ_=>rfl
theorem Rt:Reads enc Tryz.prog W 77 cH.enc:=(Reads.struct Tryz.underlying77 (tot:=2) (by kernel_rfl) (.cons rI rfl (n:=1) (by kernel_rfl) (.one rI rfl (by kernel_rfl)))).to λ_=>rfl
theorem LD:Reads enc Tryz.prog W 26 Sx.enc:=(Reads.struct Tryz.underlying26 (tot:=3) (by kernel_rfl) (.cons (.sl cP Tryz.underlying22 (by kernel_rfl) (by decide) Og) rfl (n:=1) (by kernel_rfl) (.cons (.sl cG Tryz.underlying23 (by kernel_rfl) (by decide) Oh) rfl (n:=1) (by kernel_rfl) (.one (.sl cH Tryz.underlying24 (by kernel_rfl) (by decide) Oi) rfl (by kernel_rfl))))).to λ_=>rfl
theorem LF:Reads enc Tryz.prog W 29 Fl.enc:=(Reads.struct Tryz.underlying29 (tot:=5) (by kernel_rfl) (.cons LD rfl (n:=3) (by kernel_rfl) (.cons OV rfl (n:=1) (by kernel_rfl) (.one OV rfl (by kernel_rfl))))).to λ_=>rfl
theorem Ru:Reads enc Tryz.prog W 31 pE.enc:=(Reads.struct Tryz.underlying31 (tot:=4) (by kernel_rfl) (.cons rI rfl (n:=1) (by kernel_rfl) (.cons rI rfl (n:=1) (by kernel_rfl) (.cons rI rfl (n:=1) (by kernel_rfl) (.one rS rfl (by kernel_rfl)))))).to λ_=>rfl
theorem KR:Reads enc Tryz.prog W 34 GH.enc:=(Reads.struct Tryz.underlying34 (tot:=12) (by kernel_rfl) (.cons rI rfl (n:=1) (by kernel_rfl) (.cons LF rfl (n:=5) (by kernel_rfl) (.cons Ru rfl (n:=4) (by kernel_rfl) (.cons (.sl cH Tryz.underlying32 (by kernel_rfl) (by decide) Rt) rfl (n:=1) (by kernel_rfl) (.one OV rfl (by kernel_rfl))))))).to λ_=>rfl
end Go.AM.R1
namespace Go.AM
open Go.ChangeShapes Go.WideShapes Go.ChangeAt Go.RowKit
theorem wQ{H:Type}{enc:TypeId×Value->H}{a:Assume}{C:Checked}{os:Os}{f:FuncId}{fn:Func}{s:ChangeSpec}{g:List PathCond}{apart fresh handsOn again:Bool}{X:World->Array Value->Prop}
  (I:∀ (w w':World) (args:Array Value),w.heap=w'.heap->X w args->X w' args)
  (own:ownKnob C.prog.godebug=none) (h:os.Started) (u:C.prog.funcs[f]?=some fn)
  (d:∃ (w:World) (b:Tape) (i:Input),w.os=os/\(w.forCall b i).Shaped C.prog/\i.vars=[]/\Input.okWide C.prog (w.forCall b i) .any w.heap.size f i /\
   ((s.pre enc C.prog fn g apart (w.forCall b i).memory i.args/\X (w.forCall b i).memory i.args)/\sizedMet enc C.prog fn (OpenSpec.ofChange s) apart (w.forCall b i).memory i.args)/\a.holds C.prog (lone (Frame.enter C.prog f i.args .normal) [] (w.forCall b i)))
  (n:∀ (W:World) (base:Nat) (args:Array Value) (ds gs:List (DataW H)) (c:List MemPlace),
   (∀ (j:Nat) t v,fn.params[j]?=some t->args[j]?=some v->Value.okWide C.prog W .any base t v) ->
   DataW.Whole enc C.prog fn.params.toList s.vars apart W args.toList ds gs c ->
   ∃ M last o w' t',runNT C.prog (M+1) (Conc.solo (Conc.G (Frame.enter C.prog f args .normal) []) W) #[]=(.ended o w',t')/\runN C.prog M (Conc.solo (Conc.G (Frame.enter C.prog f args .normal) []) W)=.next last /\
    step C.prog last=.ended o w'/\Conc.Good C.prog (λv E=>s.post enc C.prog fn apart fresh handsOn again W args v E) last o w' t') :
  ReturnsInLeavingWide a C os f .any (λw args=>(s.pre enc C.prog fn g apart w args/\X w args)/\sizedMet enc C.prog fn (OpenSpec.ofChange s) apart w args) (s.post enc C.prog fn apart fresh handsOn again):=by
 refine returnsInLeavingWide_of_good own h d ?_;intro w b i _ _ _ r k p;obtain⟨_,_,_,x,l,_,_,_,_,m⟩:=r;have e:x=fn:=lD (l.symm.trans u);subst e;obtain⟨⟨⟨ds,gs,c,F,L⟩,K⟩,J⟩:=k;have q:=DataW.Whole.of_heap (w':=w.forCall b i) (by rfl) F
 obtain⟨M,last,o,w',t',B,z,y,D⟩:=n (w.forCall b i) w.heap.size i.args ds gs c m q;exact⟨M,last,o,w',t',B,z,y,D.mono λv A=>ChangeSpec.post_blind A⟩
theorem BU(l:Looks){p:Pinned}{s:OpenSpec}{c:OpenClaim}(n:List (List PathCond))(kinds:List LaidKind)(a:Bool)(b:Bool×String)(d:Bool)
  (x:c.holds p s) (m:∀ D∈n,(c.withDomain D).holds p s) (y:c.wfByText s=true) (i:∀ D∈n,(c.withDomain D).wfByText s=true)
  (k:c.laidByTextAt l p kinds a)
  (e:c.start=.entering) (g:c.noBlocks=false/\c.again=false) (u:p.checked.prog.mainIs=some (b.1,b.2.toList)) (z:(!b.1&&b.2.isEmpty&&!d)=false)
  (o:∀ f fn,p.checked.prog.funcNamed c.func=some f->p.checked.prog.funcs[f]?=some fn->d=p.checked.prog.looks []/\∀ (j:Nat) t,fn.params[j]?=some t->p.checked.prog.wantsStandIn t=false)
  (w:true=c.goesBy p.checked.prog) :
  Claim7.holds p (.plain s) { stood:={ row:=c,standIns:=[],harness:=b,looks:=d },kinds:=[],alts:=n,goes:=true,laidByText:=true,laidKinds:=kinds,laidTests:=a,laidLooks:=l }:=by
 have v:∀ r:OpenClaim,Claim7.isSixth { stood:={ row:=r,standIns:=[],harness:=b,looks:=d },kinds:=[] }=false:=λr=>by simpa[Claim7.isSixth] using z
 refine⟨Claim7.tied_new_at l kinds a (Claim7.new_of_sixth x b d e g u (v c) o) y,λD q=>?_,k,(λh=>by cases h),w⟩
 exact Claim7.tied_new_at l kinds a (Claim7.new_of_sixth (m D q) b d e g u (v _) o) (i D q)
theorem yY{P:Program}{w:World}{r:Reach}{base:Nat}{t:TypeId}{v:Value}{fs:Array Field}(a:P.underlying t=some (.struct fs))(h:Value.okWide P w r base t v):∃ vs:List Value,v=.agg vs.toArray:=by
 simp only[Value.okWide,a] at h;obtain⟨cs,rfl,_⟩:=h;exact⟨cs.toList,by simp⟩
end Go.AM
