/-
  Part 6: a machine of values without memory, sound over the model, and contracts of functions. No condition.
-/
import Derived.Test.YtemefbgdmkionaaGreatDoorA5
set_option linter.unusedVariables false
set_option linter.unusedSimpArgs false
set_option linter.defProp false
set_option linter.deprecated false
open Go renaming Value → ak
open Option renaming some → aa
open Go renaming Program → an
open Go renaming TypeId → ar
open Bool renaming true → ab
open Option renaming none → af
open Go renaming Oper → av
open Go renaming Operand → aq
open Bool renaming false → ae
open Go renaming undef → aj
open Go.World renaming cell? → aY
open List renaming length_take → bn
open List renaming getD_eq_getElem?_getD → ag
open Go renaming execOp → aw
open Go renaming World → az
open Go renaming Goroutine → au
open Go renaming Frame → aQ
open List renaming range → bc
open Go renaming FuncId → aX
open Nat renaming beq → aA
open Nat renaming ble → bw
open Go.Proofs.Tryz renaming prog → ah
open List renaming all_eq_true → bq
namespace Go.AM.R1
open Go.Proofs
variable {X:Cx ah}
theorem Ca{s r:Bs}(h:ck s=ab)(a:∀ b∈r,b∈s):ck r=ab:=by
 unfold ck at h ⊢;rw[bq] at h ⊢;exactλb c=>h b (a b c)
theorem wR{t:Bs}(d:ck t=ab):∀ k f,∀ p∈fw t k f,bT p=ab
 |0,_,p,a=>by simp[fw] at a
 |k+1,f,p,a=>by
  simp only[fw] at a;split at a
  .rename_i h
   have c:=nz t f h;rcases ew.1 a with rfl|a
   .have e:((t.drop f).take (cutAt t f-f)).length=cutAt t f-f:=by simp;omega
    simp only[bT,bG,bh];refine⟨⟨by omega,by omega⟩,Ca d λb c=>uP (gY c)⟩
   .exact wR d k _ p a
  .simp at a
theorem tk{t:Bs}(a:ck t=ab):∀ p∈pieces t,bT p=ab:=wR a _ _
theorem ue(t:Bs):∀ k f,(fw t k f).length<=k
 |0,_=>ba _
 |k+1,f=>by
  simp only[fw];split
  .have:=ue t k (cutAt t f);simp;omega
  .simp
theorem ov(t:Bs):(pieces t).length<=t.length:=ue t _ _
def kr(t:List bJ):List Bs:=t.flatMap λf=>pieces f.2
theorem G2{t:List bJ}{i:Nat}(h:i<t.length):kr (t.take (i+1))=kr (t.take i)++pieces (t.getD i ([],[])).2:=by
 rw[bx h ([],[])];simp[kr]
theorem NI(t:List bJ)(i:Nat):(kr (t.take i)).length<=(kr t).length:=by
 have h:kr t=kr (t.take i)++kr (t.drop i):=by
  unfold kr;rw[<-nU,j8]
 rw[h,bF];omega
theorem yw(k:Int)(l:List dv)(ps:List Bs):∀ a:List Bs,(ps.foldl (nB k l) a).length<=a.length+ps.length:=by
 induction ps with
 |nil=>intro a;simp
 |cons p r b =>
  intro a;have d:=b (nB k l a p);have c:(nB k l a p).length<=a.length+1:=by unfold nB;split <;> simp
  simp only[g7,db];omega
abbrev KA:dC:=qb (aL oM) aI (λl n=>dI (ua l n)) λl _=>[l.length<=4000000]
theorem RA:eb X 157 KA:=.te λl n h=>Kd l n h
abbrev Pa:dC:=qb (aL cS) aS (λl p=>dB (l.contains p)) λl _=>[l.length<=4000000]
theorem UR:eb X 158 Pa:=.te λl p h=>NA l p h
abbrev Z1(a:List Bs):D:=.e (.one (.vec 0 1 a.length (cS.fn a)))
structure wO (t:List bJ):Prop where
 len:t.length<=4000000
 Aq:∀ f∈t,ck f.2=ab/\f.2.length<=4000000
 all:(kr t).length<=100000
set_option maxHeartbeats 4000000 in
theorem Kp(k:Int)(t:List bJ)(l:List dv)(w:cD k=ab)(s:wO t)(E:l.length<=4000000):Ev X 122 [dI k,cF.sl t,oM.sl l] [] (cS.sl (jX k t l)) []:=by
 refine Ev.body Tryz.func122 rfl rfl rfl λC=>?_
 have d:b5 X [(156,FG),(118,Au),(157,KA),(158,Pa)]:=.cons Kk (.cons An (.cons RA (.cons UR .nil)));refine aE d [(1000002,ab)] 200 rfl ay ?_;refine AK.iD 7 9 1 rfl rfl ?_;refine aE d [] 200 rfl ay ?_;refine AK.cd 1 (λi=>i<=t.length) (λi:Nat=>[(0,dI k),(1,cF.sl t),(2,oM.sl l),(7,Z1 ((kr (t.take i)).foldl (nB k l) [])),(8,dI i)]) (λi=>[.vec 9 1 ((kr (t.take i)).foldl (nB k l) []).length (cS.fn ((kr (t.take i)).foldl (nB k l) []))]) (λi=>t.length-i) 0 rfl ?_ rfl ?_ rfl (by omega) ?_
 .simp[ai.cat,ai,a9.same,a9.nil,kr]
 .simp[ai.cat,ai,a9.same,a9.nil,kr]
 intro i hi
 by_cases h:i<t.length
 .have A:t.getD (i:Int).toNat cF.bU=t.getD i ([],[]):=by rw[bu];rfl
  have n:t.getD i ([],[])∈t:=by rw[ag,aR h];exact dy h
  obtain⟨y,D⟩:=s.Aq _ n;have g:=G2 h;have u:=NI t (i+1);have x:=s.all;have B:=s.len;have v:=tk y;generalize t.getD i ([],[])=f at *;rw[g,bF] at u;refine aE d [(15,ab)] 200 rfl ?_ ?_
  .simp only[ai,A,y,bh,aG,aF];and_intros <;> omega
  rw[A];refine AK.cd 1 (λj=>j<=(pieces f.2).length) (λj:Nat=>[(0,dI k),(1,cF.sl t),(2,oM.sl l),(7,Z1 ((kr (t.take i)++(pieces f.2).take j).foldl (nB k l) [])),(8,dI i),(9,cS.sl (pieces f.2)),(10,dI j)]) (λj=>[.vec 9 1 ((kr (t.take i)++(pieces f.2).take j).foldl (nB k l) []).length (cS.fn ((kr (t.take i)++(pieces f.2).take j).foldl (nB k l) []))]) (λj=>(pieces f.2).length-j) 0 rfl ?_ rfl ?_ rfl (by omega) ?_
  .simp[ai.cat,ai,a9.same]
  .simp[ai.cat,ai,a9.same]
  intro j F;have q:=yw k l (kr (t.take i)++(pieces f.2).take j) [];simp only[eu,bF,bn] at q
  by_cases r:j<(pieces f.2).length
  .have c:(pieces f.2).getD (j:Int).toNat cS.bU=(pieces f.2).getD j []:=by rw[bu];rfl
   have e:bT ((pieces f.2).getD j [])=ab:=v _ (by rw[ag,aR r];exact dy r)
   have a:(kr (t.take i)++(pieces f.2).take (j+1)).foldl (nB k l) []=nB k l ((kr (t.take i)++(pieces f.2).take j).foldl (nB k l) []) ((pieces f.2).getD j []):=by
    rw[bx r [],<-dq,jG];rfl
   generalize (kr (t.take i)++(pieces f.2).take j).foldl (nB k l) []=out at *;generalize (pieces f.2).getD j []=p at *;have z:=cS.cu out p
   by_cases b:ua l (jd k p)=0
   .cases o:out.contains p with
    |true =>
     rw[nB,aO (by rw[o,hO,mn];simp)] at a
     refine aE d [(27,ab),(38,ab),(45,ab)] 200 rfl ?_ (AK.bg (j+1) rfl ?_ rfl rfl rfl ?_ rfl ?_ ?_)
     .simp only[ai,c,w,e,b,o,bD,cS.list_fn,oM.list_fn,fp,bh,aG,aF];and_intros <;> first|exact cS.aH _|exact oM.aH _|omega
     .rw[a];simp[ai.cat,ai,a9.same]
     .rw[a];simp[ai.cat,ai,a9.same]
     .show j+1<=_;omega
     .omega
    |false =>
     rw[nB,aU (by rw[o,b];rfl)] at a
     refine aE d [(27,ab),(38,ab),(45,ae)] 200 rfl ?_ (AK.bg (j+1) rfl ?_ rfl rfl rfl ?_ rfl ?_ ?_)
     .simp only[ai,c,w,e,b,o,bD,show i9.bytes=16 from rfl,cS.list_fn,oM.list_fn,fp,bh,aG,aF];and_intros <;> first|exact cS.aH _|exact oM.aH _|omega
     .rw[a];simp only[ai.cat,ai,c,bF,db,eu,aG,aF]
      and_intros <;> first|exactλ_ _=>rfl|exact z|rfl|omega
     .rw[a];simp only[ai.cat,ai,c,bF,db,eu,aG,aF]
      and_intros <;> first|exact z|rfl|omega
     .show j+1<=_;omega
     .omega
   .rw[nB,aO (by simp[b])] at a
    refine aE d [(27,ab),(38,ae)] 200 rfl ?_ (AK.bg (j+1) rfl ?_ rfl rfl rfl ?_ rfl ?_ ?_)
    .simp only[ai,c,w,e,bD,oM.list_fn,dx,cW,b,nV,bh,aG,aF];and_intros <;> first|exact oM.aH _|omega
    .rw[a];simp[ai.cat,ai,a9.same]
    .rw[a];simp[ai.cat,ai,a9.same]
    .show j+1<=_;omega
    .omega
  .have m:j=(pieces f.2).length:=by omega
   refine aE d [(27,ae)] 200 rfl (by simp only[ai,bY];omega) (AK.leaveD rfl rfl ?_)
   refine aE d [] 200 rfl ?_ (AK.bg (i+1) rfl ?_ rfl rfl rfl ?_ rfl ?_ ?_)
   .simp only[ai,bD];omega
   .rw[g,m,cq];simp[ai.cat,ai,a9.same]
   .rw[g,m,cq];simp[ai.cat,ai,a9.same]
   .show i+1<=_;omega
   .omega
 .obtain rfl:i=t.length:=by omega
  rw[cq];refine aE d [(15,ae)] 200 rfl (by simp[ai]) (AK.leaveD rfl rfl ?_)
  refine aE d [] 200 rfl ay (AK.br rfl ?_);simp[ai,ai.cat,a9.same,jX,kr]
abbrev oE(k:Int)(ps:List Bs):List Int:=ps.map (jd k)
abbrev tn(k:Int)(t:List bJ):List gL:=t.map (yF k)
abbrev Pb(no:Int)(ls:List gL):List aW:=[.cells 59 [.c (.int .i64 0),.c (.sl ab 0 0 λ_=>[])],.cells 59 [.c (.int .i64 no),.vec 2 2 ls.length (cL.fn ls)],.vec 90 2 ls.length (cL.fn ls)]
set_option maxHeartbeats 4000000 in
theorem NF(no k:Int)(t:List bJ)(z:cD k=ab)(s:wO t):Ev X 125 [dI no,dI k,cF.sl t] [] (No (kq no k t)) []:=by
 refine Ev.lY tok Tryz.func125 rfl rfl rfl λA=>?_
 have a:b5 X [(156,FG),(118,Au)]:=.cons Kk (.cons An .nil);refine aE a [(1000002,ab)] 200 rfl ay ?_;refine AK.gV 1 1 90 2 (cL.fn []) rfl rfl ?_;refine aE a [] 200 rfl ay ?_;refine AK.cd 3 (λi=>i<=t.length) (λi:Nat=>[(1,dI k),(2,cF.sl t),(6,.e (.one (.ptr 0 0))),(7,.e (.one (.ptr 1 0))),(8,dI i)]) (λi=>Pb no (tn k (t.take i))) (λi=>t.length-i) 0 rfl ?_ rfl ?_ rfl (by omega) ?_
 .simp[ai.cat,ai,a9.same]
 .simp[ai.cat,ai,a9.same,a9.nil]
 intro i hi
 by_cases h:i<t.length
 .have o:t.getD (i:Int).toNat cF.bU=t.getD i ([],[]):=by rw[bu];rfl
  have g:t.getD i ([],[])∈t:=by rw[ag,aR h];exact dy h
  obtain⟨q,B⟩:=s.Aq _ g;have w:=s.len;have p:=tk q;have v:=ov (t.getD i ([],[])).2;have d:tn k (t.take (i+1))=tn k (t.take i)++[yF k (t.getD i ([],[]))]:=by
   rw[bx h ([],[]),tn,mh];rfl
  have y:(tn k (t.take i)).length=i:=by simp;omega
  generalize t.getD i ([],[])=f at *;generalize tn k (t.take i)=ls at *;refine aE a [(18,ab),(1000007,ab)] 200 rfl ?_ ?_
  .simp only[ai,o,q,bh,aG,aF];and_intros <;> omega
  rw[o];refine AK.iD 10 3 1 rfl rfl ?_;refine aE a [] 200 rfl ay ?_;refine AK.cd 4 (λj=>j<=(pieces f.2).length) (λj:Nat=>[(1,dI k),(2,cF.sl t),(6,.e (.one (.ptr 0 0))),(7,.e (.one (.ptr 1 0))),(8,dI i),(9,cS.sl (pieces f.2)),(10,.e (.one (.vec 3 1 j (cI.fn (oE k ((pieces f.2).take j)))))),(11,dI j)]) (λj=>Pb no ls++[.vec 3 1 j (cI.fn (oE k ((pieces f.2).take j)))]) (λj=>(pieces f.2).length-j) 0 rfl ?_ rfl ?_ rfl (by omega) ?_
  .simp[ai.cat,ai,a9.same,a9.nil]
  .simp[ai.cat,ai,a9.same,a9.nil]
  intro j u
  by_cases n:j<(pieces f.2).length
  .have b:(pieces f.2).getD (j:Int).toNat cS.bU=(pieces f.2).getD j []:=by rw[bu];rfl
   have m:bT ((pieces f.2).getD j [])=ab:=p _ (by rw[ag,aR n];exact dy n)
   have c:=cI.cu (oE k ((pieces f.2).take j)) (jd k ((pieces f.2).getD j []));rw[show (oE k ((pieces f.2).take j)).length=j by simp;omega,show oE k ((pieces f.2).take j)++[jd k ((pieces f.2).getD j [])]=oE k ((pieces f.2).take (j+1)) by rw[bx n [],oE,oE,mh];rfl] at c
   refine aE a [(31,ab)] 200 rfl ?_ (AK.bg (j+1) rfl ?_ rfl rfl rfl ?_ rfl ?_ ?_)
   .simp only[ai,b,z,m,bD,show i3.bytes=8 from rfl,bh,aG,aF];and_intros <;> omega
   .simp only[ai.cat,ai,b,aG,aF]
    and_intros <;> first|exactλ_ _=>rfl|exact c|rfl|omega
   .simp only[ai.cat,ai,b,aG,aF]
    and_intros <;> first|exactλ_ _=>rfl|exact c|rfl|omega
   .show j+1<=_;omega
   .omega
  .have l:j=(pieces f.2).length:=by omega
   rw[l,cq];have c:=cL.cu ls (yF k f);have r:ls.length+1=(ls++[yF k f]).length:=by simp
   have x:cL.enc (yF k f)=[C.str f.1,C.sl ae 1 (pieces f.2).length (cI.fn (oE k (pieces f.2)))]:=by
    show [C.str f.1,C.sl ae 1 (oE k (pieces f.2)).length (cI.fn (oE k (pieces f.2)))]=_;rw[show (oE k (pieces f.2)).length=(pieces f.2).length from iw ..]
   rw[x,<-d] at c;rw[<-d] at r;refine aE a [(31,ae)] 200 rfl (by simp only[ai,bY];omega) (AK.leaveD rfl rfl ?_)
   refine aE a [] 200 rfl ?_ (AK.bg (i+1) rfl ?_ rfl rfl rfl ?_ rfl ?_ ?_)
   .simp only[ai,bD,show i90.bytes=40 from rfl,aG,aF];and_intros <;> omega
   .simp[ai.cat,ai,a9.same]
   .simp only[ai.cat,ai,o,aG,aF]
    and_intros <;> first|exact a9.same|exact c|exact r|rfl
   .show i+1<=_;omega
   .omega
 .obtain rfl:i=t.length:=by omega
  rw[cq];refine aE a [(18,ae)] 200 rfl (by simp[ai]) (AK.leaveD rfl rfl ?_)
  refine aE a [] 200 rfl ay ?_;refine AK.fC () [] rfl rfl rfl rfl rfl rfl rfl rfl ?_ rfl rfl rfl rfl (λj u=>absurd u (by simp))
  simp[ai,ai.cat,a9.same,kq]
theorem gx(f g:Nat->List C):cX 0 f g=g:=by funext i;simp[cX]
abbrev H3(s:bo):aW:=.cells 27 [.c (.sl ae 2 s.1.length (cP.fn s.1)),.c (.sl ae 2 s.2.1.length (dz.fn s.2.1)),.c (.sl ae 2 s.2.2.length (cH.fn s.2.2))]
abbrev RB(s:bo)(i:Nat)(p:List bC)(j:Nat)(q:List dA):List aW:=[H3 s,.cells 27 [gA,gA,gA],.buf 55 2 i (cP.fn p),.buf 59 2 j (dz.fn q),.buf 86 2 s.2.2.length (cH.fn s.2.2),.cells 27 [.bp 2 (.sl i 2 0 i),.bp 3 (.sl j 2 0 j),.bp 4 (.sl s.2.2.length 2 0 s.2.2.length)]]
set_option maxHeartbeats 4000000 in
theorem GY(s:bo)(r:s.1.length<=4000000)(k:∀ p∈s.1,p.2.length<=4000000)(t:s.2.1.length<=4000000)(g:mZ s)(n:s.2.2.length<=4000000) :
  Ev X 41 [k7 s] [] (.e (.agg [.bp 0 (.sl s.1.length 2 0 s.1.length),.bp 1 (.sl s.2.1.length 2 0 s.2.1.length),.bp 2 (.sl s.2.2.length 2 0 s.2.2.length)])) [.buf 55 2 s.1.length (cP.fn s.1),.buf 59 2 s.2.1.length (dz.fn s.2.1),.buf 86 2 s.2.2.length (cH.fn s.2.2)]:=by
 refine Ev.lY tok Tryz.func41 rfl rfl rfl λo=>?_
 refine bd [(1000001,ab)] 200 rfl ay ?_;refine AK.region ?_;refine bd [] 5 rfl ay ?_;refine AK.ye 9 55 2 (cP.fn []) rfl ?_;refine AK.ye 10 59 2 (dz.fn []) rfl ?_;refine AK.ye 11 86 2 (cH.fn []) rfl ?_;refine ee rfl ?_ ?_
 .simp only[ai,show i86.bytes=16 from rfl,aG,aF];and_intros <;> omega
 refine AK.cd 6 (λi=>i<=s.1.length) (λi:Nat=>[(1,.e (.one (.ptr 0 0))),(2,.e (.one (.ptr 1 0))),(3,.e (.one (.ptr 5 0))),(4,dI i)]) (λi=>RB s i (s.1.take i) 0 []) (λi=>s.1.length-i) 0 rfl ?_ rfl ?_ rfl (by omega) ?_
 .simp[ai.cat,ai]
 .simp[ai.cat,ai,a9,gx];rfl
 intro i hi
 by_cases h:i<s.1.length
 .have f:s.1.getD i (0,[])∈s.1:=by rw[ag,aR h];exact dy h
  have a:s.1.getD (i:Int).toNat cP.bU=s.1.getD i (0,[]):=by rw[bu];rfl
  have q:=k _ f;refine bd [(20,ab),(2000038,ab)] 200 rfl ?_ (AK.bg (i+1) rfl ?_ rfl rfl rfl ?_ rfl ?_ ?_)
  .simp only[ai,a,bD,show i55.bytes=32 from rfl,show i88.bytes=24 from rfl,bh,gq,aG,aF];and_intros <;> omega
  .simp[ai.cat,ai]
  .have e:=cP.lB s.1 h (0,[]);simp only[ai.cat,ai,a,gx,bm,aF,aG]
   and_intros <;> first|exactλ_ _=>rfl|exact e|rfl
  .show i+1<=_;omega
  .omega
 obtain rfl:i=s.1.length:=by omega
 rw[cq];refine bd [(20,ae)] 200 rfl (by simp[ai]) (AK.leaveD rfl rfl ?_)
 refine ee rfl ay ?_;refine AK.cd 6 (λi=>i<=s.2.1.length) (λi:Nat=>[(1,.e (.one (.ptr 0 0))),(2,.e (.one (.ptr 1 0))),(3,.e (.one (.ptr 5 0))),(5,dI i)]) (λi=>RB s s.1.length s.1 i (s.2.1.take i)) (λi=>s.2.1.length-i) 0 rfl ?_ rfl ?_ rfl (by omega) ?_
 .simp[ai.cat,ai]
 .simp[ai.cat,ai,a9.same,a9]
 intro i hi
 by_cases h:i<s.2.1.length
 .have f:s.2.1.getD i (0,[])∈s.2.1:=by rw[ag,aR h];exact dy h
  have a:s.2.1.getD (i:Int).toNat dz.bU=s.2.1.getD i (0,[]):=by rw[bu];rfl
  have q:=g _ f;have e:=dz.lB s.2.1 h (0,[]);generalize s.2.1.getD i (0,[])=x at *;refine bd [(47,ab),(1000010,ab)] 200 rfl ?_ ?_
  .simp only[ai,a,bh,gq,aG,aF];and_intros <;> omega
  rw[a];refine AK.gV 6 1 90 2 (cL.fn []) rfl rfl ?_;refine ee rfl ay ?_;refine AK.cd 8 (λj=>j<=x.2.length) (λj:Nat=>[(1,.e (.one (.ptr 0 0))),(2,.e (.one (.ptr 1 0))),(3,.e (.one (.ptr 5 0))),(5,dI i),(6,.e (.one (.ptr 6 0))),(7,dI j)]) (λj=>RB s s.1.length s.1 i (s.2.1.take i)++[.cells 59 [.c (.int .i64 x.1),.vec 7 2 j (cL.fn (x.2.take j))],.vec 90 2 j (cL.fn (x.2.take j))]) (λj=>x.2.length-j) 0 rfl ?_ rfl ?_ rfl (by omega) ?_
  .simp[ai.cat,ai]
  .simp[ai.cat,ai,a9.same,a9]
  intro j l
  by_cases d:j<x.2.length
  .have b:x.2.getD (j:Int).toNat cL.bU=x.2.getD j ([],[]):=by rw[bu];rfl
   have u:=q.2 (x.2.getD j ([],[])) (by rw[ag,aR d];exact dy d)
   have m:=cL.lB x.2 d ([],[]);refine bd [(66,ab),(2000085,ab)] 200 rfl ?_ (AK.bg (j+1) rfl ?_ rfl rfl rfl ?_ rfl ?_ ?_)
   .simp only[ai,a,b,bD,show i90.bytes=40 from rfl,show i3.bytes=8 from rfl,bh,gq,aG,aF];and_intros <;> omega
   .simp[ai.cat,ai]
   .simp only[ai.cat,ai,a,b,gx,bm,aF,aG]
    and_intros <;> first|exactλ_ _=>rfl|exact m|rfl
   .show j+1<=_;omega
   .omega
  obtain rfl:j=x.2.length:=by omega
  rw[cq];refine bd [(66,ae)] 200 rfl ?_ (AK.leaveD rfl rfl ?_)
  .simp only[ai,a,bY];and_intros <;> omega
  refine ee rfl ?_ (AK.bg (i+1) rfl ?_ rfl rfl rfl ?_ rfl ?_ ?_)
  .simp only[ai,a,bD,show i59.bytes=32 from rfl,aG,aF];and_intros <;> omega
  .simp[ai.cat,ai]
  .simp only[ai.cat,ai,aF,aG]
   and_intros <;> first|exactλ_ _=>rfl|exact e|rfl
  .show i+1<=_;omega
  .omega
 obtain rfl:i=s.2.1.length:=by omega
 rw[cq];refine bd [(47,ae)] 200 rfl (by simp[ai]) (AK.leaveD rfl rfl ?_)
 refine ee rfl ay ?_;refine AK.fC () [2,3,4] rfl rfl rfl rfl rfl rfl rfl rfl ?_ rfl rfl rfl rfl (λj l=>absurd l (by simp))
 .simp[ai.cat,ai,a9.same]
theorem KB{o:av}{k:aq->D}{σ:List aW}{x y:aq}{j:Array ar}{a b:Int} (m:Int)(h:o.op=.call { callee:=.builtin .max,args:=#[x,y],argTypes:=j })(q:k x=dI a)(n:k y=dI b)(l:max a b=m)(p:bD .i64 m):bR ah o k σ (dI m) σ:=by
 refine .quiet λs ρ r d=>?_
 have i:=d x;have c:=d y;rw[q] at i;rw[n] at c
 replace i:=ga i
 replace c:=ga c
 generalize f:ρ x=vx at i;generalize g:ρ y=vy at c;cases i;cases c;have e:(if a<b then b else a)=m:=by
  rw[<-l];split <;> omega
 exact⟨.int .i64 m,by simp[aw,h,resolve,invoke,builtin,f,g,Builtin.max_,Builtin.max2,e],.int p,by simp[aw,h,resolve,invoke,builtin,f,g,Builtin.max_,Builtin.max2]⟩
def gf(s:bo):Int:=if s.1.length=0 then 1 else (s.1.getD (s.1.length-1) (0,[])).1+1
def pr(l:List (Int×Int)):Int:=l.foldl (λm h=>max m (h.2+1)) 1
def fM(s:bo):Int:=if s.2.1.length=0 then pr s.2.2 else max (pr s.2.2) ((s.2.1.getD (s.2.1.length-1) (0,[])).1+1)
structure Rw (st:bo):Prop where
 p:∀ x∈st.1,-4000000<=x.1/\x.1<=4000000
 s:∀ x∈st.2.1,-4000000<=x.1/\x.1<=4000000
 h:∀ x∈st.2.2,-4000000<=x.2/\x.2<=4000000
theorem sd(l:List (Int×Int))(h:∀ x∈l,-4000000<=x.2/\x.2<=4000000):1<=pr l/\pr l<=4000001:=by
 have:∀ (l:List (Int×Int)) (m:Int),(∀ x∈l,-4000000<=x.2/\x.2<=4000000)->1<=m->m<=4000001->1<=l.foldl (λm h=>max m (h.2+1)) m/\l.foldl (λm h=>max m (h.2+1)) m<=4000001:=by
  intro l
  induction l with
  |nil=>intro m _ c a;exact⟨c,a⟩
  |cons x r e =>
   intro m b c a;have:=b x me;exact e _ (λy d=>b y (j9 _ d)) (by simp only;omega) (by simp only;omega)
 exact this l 1 h (by omega) (by omega)
theorem Eg{l:List (Int×Int)}{i:Nat}(h:i<l.length):pr (l.take (i+1))=max (pr (l.take i)) ((l.getD i (0,0)).2+1):=by
 unfold pr;rw[bx h (0,0),jG];rfl
theorem jB{α:Type}{l:List α}{i:Nat}(h:i<l.length)(d:α):l.getD i d∈l:=by
 rw[ag,aR h];exact dy h
theorem GV(s:bo)(d:gU s)(b:Rw s):Ev X 121 [k7 s] [] (.fW [.one (.c (.int .i64 (gf s))),.one (.c (.int .i64 (fM s)))]) []:=by
 refine Ev.body Tryz.func121 rfl rfl rfl λo=>?_
 have l:=d.p;have g:=d.sn;have m:=d.h
 apply AK.join [(1,.e (.one (.ptr 0 0))),(4,dI (gf s)),(5,dI 1)] [H3 s]
 .intro out
  by_cases h:s.1.length=0
  .refine bd [(10,ae),(1000005,ab)] 200 rfl (by simp only[ai,bY];omega) ?_
   exact out _ _ rfl (by simp[ai.cat,ai,gf,h])
  .have f:=b.p _ (jB (show s.1.length-1<s.1.length by omega) (0,[]))
   have a:s.1.getD ((s.1.length:Int)-1).toNat cP.bU=s.1.getD (s.1.length-1) (0,[]):=by rw[show ((s.1.length:Int)-1).toNat=s.1.length-1 by omega];rfl
   refine bd [(10,ab),(1000005,ab)] 200 rfl ?_ ?_
   .simp only[ai,a,bD,bh,aG,aF];and_intros <;> omega
   exact out _ _ rfl (by simp only[ai.cat,ai,gf,aO h,a,aG,aF])
 refine ee rfl ay ?_;refine AK.cd 1 (λi=>i<=s.2.2.length) (λi:Nat=>[(1,.e (.one (.ptr 0 0))),(4,dI (gf s)),(5,dI (pr (s.2.2.take i))),(6,dI i)]) (λi=>[H3 s]) (λi=>s.2.2.length-i) 0 rfl ?_ rfl ?_ rfl (by omega) ?_
 .simp[ai.cat,ai,pr]
 .simp[ai.cat,ai,a9.same]
 intro i hi
 by_cases h:i<s.2.2.length
 .have f:=b.h _ (jB h (0,0));have j:=sd (s.2.2.take i) λx n=>b.h x (gY n)
  have a:s.2.2.getD (i:Int).toNat cH.bU=s.2.2.getD i (0,0):=by rw[bu];rfl
  have k:=Eg h;refine bd [(25,ab)] 200 rfl ?_ ?_
  .simp only[ai,a,bD,bh,aG,aF];and_intros <;> omega
  rw[a];refine AK.law (KB (pr (s.2.2.take (i+1))) rfl rfl rfl k.symm (by simp only[bD];omega)) rfl rfl ?_
  refine ee rfl ?_ (AK.bg (i+1) rfl ?_ rfl rfl rfl ?_ rfl ?_ ?_)
  .simp only[ai,bD];omega
  .simp[ai.cat,ai]
  .simp[ai.cat,ai,a9.same]
  .show i+1<=_;omega
  .omega
 obtain rfl:i=s.2.2.length:=by omega
 rw[cq];refine bd [(25,ae)] 200 rfl (by simp[ai]) (AK.leaveD rfl rfl ?_)
 have j:=sd s.2.2 b.h
 by_cases h:s.2.1.length=0
 .refine bd [(40,ae)] 200 rfl (by simp only[ai,bY];omega) (AK.br rfl ?_)
  simp[ai.cat,ai,fM,h]
 .have f:=b.s _ (jB (show s.2.1.length-1<s.2.1.length by omega) (0,[]))
  have a:s.2.1.getD ((s.2.1.length:Int)-1).toNat dz.bU=s.2.1.getD (s.2.1.length-1) (0,[]):=by rw[show ((s.2.1.length:Int)-1).toNat=s.2.1.length-1 by omega];rfl
  refine bd [(40,ab)] 200 rfl ?_ ?_
  .simp only[ai,a,bD,bh,aG,aF];and_intros <;> omega
  rw[a];refine AK.law (KB (fM s) rfl rfl rfl (by rw[fM,aO h]) (by rw[fM,aO h];simp only[bD];omega)) rfl rfl ?_
  refine ee rfl ay (AK.br rfl ?_);simp[ai.cat,ai]
abbrev RD(s:bo)(i:Nat)(p:List bC)(j:Nat)(q:List dA):List aW:=[H3 s,.cells 27 [gA,gA,gA],.vec 86 2 s.2.2.length (cH.fn s.2.2),.cells 27 [.vec 4 2 i (cP.fn p),.vec 5 2 j (dz.fn q),.vec 2 2 s.2.2.length (cH.fn s.2.2)],.vec 55 2 i (cP.fn p),.vec 59 2 j (dz.fn q)]
set_option maxHeartbeats 4000000 in
theorem fO(s:bo)(r:s.1.length<=4000000)(k:∀ p∈s.1,p.2.length<=4000000)(t:s.2.1.length<=4000000)(g:mZ s)(n:s.2.2.length<=4000000) :
  Ev X 41 [k7 s] [] (.e (.agg [.vec 0 2 s.1.length (cP.fn s.1),.vec 1 2 s.2.1.length (dz.fn s.2.1),.vec 2 2 s.2.2.length (cH.fn s.2.2)])) [.vec 55 2 s.1.length (cP.fn s.1),.vec 59 2 s.2.1.length (dz.fn s.2.1),.vec 86 2 s.2.2.length (cH.fn s.2.2)]:=by
 refine Ev.lY tok Tryz.func41 rfl rfl rfl λo=>?_
 refine bd [(1000002,ab)] 200 rfl ?_ ?_
 .simp only[ai,show i86.bytes=16 from rfl,aG,aF,gq];and_intros <;> omega
 refine AK.gV 3 0 55 2 (cP.fn []) rfl rfl ?_;refine AK.gV 3 1 59 2 (dz.fn []) rfl rfl ?_;refine ee rfl ay ?_;refine AK.cd 6 (λi=>i<=s.1.length) (λi:Nat=>[(1,.e (.one (.ptr 0 0))),(2,.e (.one (.ptr 1 0))),(3,.e (.one (.ptr 3 0))),(4,dI i)]) (λi=>RD s i (s.1.take i) 0 []) (λi=>s.1.length-i) 0 rfl ?_ rfl ?_ rfl (by omega) ?_
 .simp[ai.cat,ai]
 .simp[ai.cat,ai,a9,gx]
 intro i hi
 by_cases h:i<s.1.length
 .have f:s.1.getD i (0,[])∈s.1:=by rw[ag,aR h];exact dy h
  have a:s.1.getD (i:Int).toNat cP.bU=s.1.getD i (0,[]):=by rw[bu];rfl
  have q:=k _ f;refine bd [(20,ab),(2000038,ab)] 200 rfl ?_ (AK.bg (i+1) rfl ?_ rfl rfl rfl ?_ rfl ?_ ?_)
  .simp only[ai,a,bD,show i55.bytes=32 from rfl,show i88.bytes=24 from rfl,bh,gq,aG,aF];and_intros <;> omega
  .simp[ai.cat,ai]
  .have e:=cP.lB s.1 h (0,[]);simp only[ai.cat,ai,a,gx,bm,aF,aG]
   and_intros <;> first|exactλ_ _=>rfl|exact e|rfl|omega
  .show i+1<=_;omega
  .omega
 obtain rfl:i=s.1.length:=by omega
 rw[cq];refine bd [(20,ae)] 200 rfl (by simp[ai]) (AK.leaveD rfl rfl ?_)
 refine ee rfl ay ?_;refine AK.cd 6 (λi=>i<=s.2.1.length) (λi:Nat=>[(1,.e (.one (.ptr 0 0))),(2,.e (.one (.ptr 1 0))),(3,.e (.one (.ptr 3 0))),(5,dI i)]) (λi=>RD s s.1.length s.1 i (s.2.1.take i)) (λi=>s.2.1.length-i) 0 rfl ?_ rfl ?_ rfl (by omega) ?_
 .simp[ai.cat,ai]
 .simp[ai.cat,ai,a9.same,a9]
 intro i hi
 by_cases h:i<s.2.1.length
 .have f:s.2.1.getD i (0,[])∈s.2.1:=by rw[ag,aR h];exact dy h
  have a:s.2.1.getD (i:Int).toNat dz.bU=s.2.1.getD i (0,[]):=by rw[bu];rfl
  have q:=g _ f;have e:=dz.lB s.2.1 h (0,[]);generalize s.2.1.getD i (0,[])=x at *;refine bd [(47,ab),(1000010,ab)] 200 rfl ?_ ?_
  .simp only[ai,a,bh,gq,aG,aF];and_intros <;> omega
  rw[a];refine AK.gV 6 1 90 2 (cL.fn []) rfl rfl ?_;refine ee rfl ay ?_;refine AK.cd 8 (λj=>j<=x.2.length) (λj:Nat=>[(1,.e (.one (.ptr 0 0))),(2,.e (.one (.ptr 1 0))),(3,.e (.one (.ptr 3 0))),(5,dI i),(6,.e (.one (.ptr 6 0))),(7,dI j)]) (λj=>RD s s.1.length s.1 i (s.2.1.take i)++[.cells 59 [.c (.int .i64 x.1),.vec 7 2 j (cL.fn (x.2.take j))],.vec 90 2 j (cL.fn (x.2.take j))]) (λj=>x.2.length-j) 0 rfl ?_ rfl ?_ rfl (by omega) ?_
  .simp[ai.cat,ai]
  .simp[ai.cat,ai,a9.same,a9]
  intro j l
  by_cases d:j<x.2.length
  .have b:x.2.getD (j:Int).toNat cL.bU=x.2.getD j ([],[]):=by rw[bu];rfl
   have u:=q.2 (x.2.getD j ([],[])) (by rw[ag,aR d];exact dy d)
   have m:=cL.lB x.2 d ([],[]);refine bd [(66,ab),(2000085,ab)] 200 rfl ?_ (AK.bg (j+1) rfl ?_ rfl rfl rfl ?_ rfl ?_ ?_)
   .simp only[ai,a,b,bD,show i90.bytes=40 from rfl,show i3.bytes=8 from rfl,bh,gq,aG,aF];and_intros <;> omega
   .simp[ai.cat,ai]
   .simp only[ai.cat,ai,a,b,gx,bm,aF,aG]
    and_intros <;> first|exactλ_ _=>rfl|exact m|rfl
   .show j+1<=_;omega
   .omega
  obtain rfl:j=x.2.length:=by omega
  rw[cq];refine bd [(66,ae)] 200 rfl ?_ (AK.leaveD rfl rfl ?_)
  .simp only[ai,a,bY];and_intros <;> omega
  refine ee rfl ?_ (AK.bg (i+1) rfl ?_ rfl rfl rfl ?_ rfl ?_ ?_)
  .simp only[ai,a,bD,show i59.bytes=32 from rfl,aG,aF];and_intros <;> omega
  .simp[ai.cat,ai]
  .simp only[ai.cat,ai,aF,aG]
   and_intros <;> first|exactλ_ _=>rfl|exact e|rfl|omega
  .show i+1<=_;omega
  .omega
 obtain rfl:i=s.2.1.length:=by omega
 rw[cq];refine bd [(47,ae)] 200 rfl (by simp[ai]) (AK.leaveD rfl rfl ?_)
 refine ee rfl ay ?_;refine AK.fC () [4,5,2] rfl rfl rfl rfl rfl rfl rfl rfl ?_ rfl rfl rfl rfl (λj l=>absurd l (by simp))
 .simp[ai.cat,ai,a9.same]
theorem _root_.Go.AM.iv.yv{α:Type}(c:iv α)(l:List α){n:Nat}{es:Nat->List C}(a:a9 n es (c.fn l))(hn:n<=l.length):c.list n es=l.take n:=by
 apply pF
 .simp[iv.list];omega
 .intro i h1 h2;have hi:i<n:=by simpa[iv.list] using h1
  simp[iv.list,a i hi,iv.fn,vm,ag,aR (show i<l.length by omega),c.inv]
theorem _root_.Go.AM.iv.Ap{α:Type}(c:iv α)(l:List α){n:Nat}{es:Nat->List C}(a:a9 n es (c.fn l)):c.fits n es:=λi hi=>by
 rw[a i hi];exact c.aH l i (Nat.lt_succ_self i)
theorem Kl(a b:Nat):min (a:Int) (b:Int)=((min a b:Nat):Int):=by
 rcases Nat.le_total a b with h|h
 .rw[Nat.min_eq_left h,Int.min_eq_left (by omega)]
 .rw[Nat.min_eq_right h,Int.min_eq_right (by omega)]
def hZ(k:Int):Nat->Int->List Bs->List bC
 |0,_,_=>[]
 |f+1,no,ps=>if 0<ps.length then kS no k (ps.take 4)::hZ k f (no+1) (ps.drop 4) else []
def ub(k:Int)(s:bo)(t:List bJ):List bC:=hZ k (jX k t (indexOf s.1)).length (gf s) (jX k t (indexOf s.1))
def j5(k:Int)(s:bo)(t:List bJ):Bool:=decide (20<s.1.length+(ub k s t).length)||(decide (99<gf s+(ub k s t).length-1)||(decide (20<fM s)||decide (9<=s.2.2.length)))
def lj(k:Int)(s:bo) (by_:Int)(t:List bJ):bo:=(s.1++ub k s t,s.2.1++[kq (fM s) k t],s.2.2++[(by_,fM s)])
theorem wN(k:Int):∀ f no ps,(hZ k f no ps).length<=f
 |0,_,_=>ba _
 |f+1,no,ps=>by
  simp only[hZ];split
  .have:=wN k f (no+1) (ps.drop 4);simp;omega
  .simp
abbrev Km:dC:=C5 aI aI (aL cS) (λno k ps=>GB (kS no k ps)) λ_ k ps=>[cD k=ab,∀ p∈ps,bT p=ab,ps.length<=4000000]
theorem Ru:eb X 124 Km:=.H0 λno k ps h=>Kn no k ps h.1 h.2.1 h.2.2
abbrev O6:dC:=C5 aI aI (aL cF) (λno k t=>No (kq no k t)) λ_ k t=>[cD k=ab,wO t]
theorem UN:eb X 125 O6:=.H0 λno k t h=>NF no k t h.1 h.2
abbrev Ko:dC:=C5 aI (aL cF) (aL oM) (λk t l=>cS.sl (jX k t l)) λk t l=>[cD k=ab,wO t,l.length<=4000000]
theorem Rv:eb X 122 Ko:=.H0 λk t l h=>Kp k t l h.1 h.2.1 h.2.2
theorem qS{k:Int}{t:List bJ}{l:List dv}(d:wO t):(∀ p∈jX k t l,bT p=ab)/\(jX k t l).length<=100000:=by
 constructor
 .have:∀ (ps a:List Bs),(∀ p∈ps,bT p=ab)->(∀ p∈a,bT p=ab)->∀ p∈ps.foldl (nB k l) a,bT p=ab:=by
   intro ps
   induction ps with
   |nil=>intro a _ h;exact h
   |cons q r i =>
    intro a e c;refine i _ (λp b=>e p (j9 _ b)) λp b=>?_
    unfold nB at b;split at b
    .rcases dr.1 b with b|b
     .exact c p b
     .rw[fV] at b;subst b;exact e _ me
    .exact c p b
  refine this _ [] (λp b=>?_) (by simp)
  obtain⟨f,g,b⟩:=List.mem_flatMap.1 b;exact tk (d.Aq f g).1 p b
 .have:=yw k l (kr t) [];have c:=d.all;unfold jX;simp only[eu] at this;exact eG this (by omega)
theorem B4{l:List bC}(h:(fN l).length<=100000):(indexOf l).length<=100000:=by
 unfold indexOf;split
 .have:=yx (fN l) [];simp only[eu] at this;omega
 .simp
abbrev X0(k by_ no:Int)(s:bo)(t:List bJ)(rest:List Bs):Fr:=[(0,dI k),(2,dI by_),(3,cF.sl t),(5,.e (.one (.ptr 0 0))),(8,.e (.one (.ptr 1 0))),(10,.e (.one (.ptr 5 0))),(11,dI no),(12,dI (fM s)),(13,cS.sl rest)]
abbrev UO(s:bo)(ps:List bC):List aW:=[H3 s,.cells 27 [gA,gA,gA],.vec 55 2 ps.length (cP.fn ps),.vec 59 2 s.2.1.length (dz.fn s.2.1),.vec 86 2 s.2.2.length (cH.fn s.2.2),.cells 27 [.vec 2 2 ps.length (cP.fn ps),.vec 3 2 s.2.1.length (dz.fn s.2.1),.vec 4 2 s.2.2.length (cH.fn s.2.2)]]
abbrev tSt(s:bo)(b:Bool):D:=.fW [.agg [.c (.sl ae 2 s.1.length (cP.fn s.1)),.c (.sl ae 2 s.2.1.length (dz.fn s.2.1)),.c (.sl ae 2 s.2.2.length (cH.fn s.2.2))],.one (.c (.bool b))]
set_option maxHeartbeats 8000000 in
theorem GU(k:Int)(s:bo) (by_:Int)(t:List bJ)(v:cD k=ab)(a:gU s)(j:Rw s)(g:wO t)(n:(fN s.1).length<=100000) :
  Ev X 106 [dI k,k7 s,dI by_,cF.sl t] [] (tSt (if j5 k s t=ab then s else lj k s by_ t) (!j5 k s t)) []:=by
 refine Ev.kL Tryz.func106 rfl rfl rfl λO=>?_
 have c:b5 X [(123,Kq),(122,Ko),(124,Km),(125,O6)]:=.cons Rx (.cons Rv (.cons Ru (.cons UN .nil)));have P:=a.p;have R:=a.sn;have Q:=a.h;have N:=B4 n;refine aE c [] 200 rfl ay ?_;refine AK.bM (fO s a.p a.p2 a.sn a.s2 a.h) [] rfl rfl rfl rfl rfl rfl rfl rfl rfl rfl rfl ?_;refine aE c [] 200 rfl ay ?_;refine AK.bM (GV s a j) [] rfl rfl rfl rfl rfl rfl rfl rfl rfl rfl rfl ?_;refine aE c [] 200 rfl ?_ ?_
 .simp only[ai,cP.list_fn,oM.list_fn,cF.list_fn,v,g]
  and_intros <;> first|exact cP.aH _|exact oM.aH _|exact cF.aH _|trivial|exact g|omega
 simp only[cP.list_fn,oM.list_fn,cF.list_fn];obtain⟨q,o⟩:=qS (k:=k) (l:=indexOf s.1) g;have z:ub k s t=hZ k (jX k t (indexOf s.1)).length (gf s) (jX k t (indexOf s.1)):=rfl;generalize jX k t (indexOf s.1)=pc at *;generalize y:ub k s t=np at *;have G:-4000000<=gf s/\gf s<=4000001:=by
  unfold gf;split
  .omega
  .rename_i h
   have:=j.p _ (jB (show s.1.length-1<s.1.length by omega) (0,[]))
   omega
 have F:np.length<=100000:=by rw[z];exact eG (wN k _ _ _) o
 refine AK.kP (S2:=Unit) 0 rfl rfl (λ_=>True) (λ_=>[(0,dI k),(2,dI by_),(3,cF.sl t),(5,.e (.one (.ptr 0 0))),(8,.e (.one (.ptr 1 0))),(10,.e (.one (.ptr 5 0))),(11,dI (gf s+np.length)),(12,dI (fM s))]) (λ_=>UO s (s.1++np)) 6
  (λx:List Bs×List bC=>(∀ p∈x.1,bT p=ab)/\x.2.length+x.1.length<=5000000/\s.1.length<=x.2.length/\∃ f,x.1.length<=f/\s.1++np=x.2++hZ k f (gf s+(x.2.length-s.1.length:Nat)) x.1) (λx=>X0 k by_ (gf s+(x.2.length-s.1.length:Nat)) s t x.1) (λx=>UO s x.2) (λx=>x.1.length) (pc,s.1) rfl ?_ rfl ?_ rfl ⟨q,by simp only;omega,ba _,pc.length,ba _,by simp[z]⟩ ?_ ?_
 .simp[ai.cat,ai,a9.same]
 .simp[ai.cat,ai,a9.same]
 .rintro out ⟨rest,ps⟩ ⟨m,g2,g3,f,g4,g5⟩;simp only at m g2 g3 g4 g5
  by_cases h:0<rest.length
  .obtain⟨f,rfl⟩:∃ E,f=E+1:=⟨f-1,by omega⟩
   simp only[hZ,aU h] at g5;have I:bD .i64 ((min rest.length 4:Nat):Int):=by simp only[bD];omega
   refine aE c [(30,ab)] 200 rfl (by simp only[ai,bh];omega) ?_
   refine AK.law (Ag ((min rest.length 4:Nat):Int) rfl rfl rfl (Kl rest.length 4) I) rfl rfl ?_;have A:cS.list (cE rest.length (aa ((min rest.length 4:Nat):Int))-cE 0 af) (jb (cE 0 af) (cS.fn rest))=rest.take 4:=by
    have r:cE rest.length (aa ((min rest.length 4:Nat):Int))-cE 0 af=min rest.length 4:=by simp[cE]
    rw[r,cS.yv rest (λi hi=>by simp[jb,cE]) (by omega)]
    rcases Nat.le_total rest.length 4 with h|h
    .rw[Nat.min_eq_left h,cq,pz h]
    .rw[Nat.min_eq_right h]
   have D:cS.fits (cE rest.length (aa ((min rest.length 4:Nat):Int))-cE 0 af) (jb (cE 0 af) (cS.fn rest)):=cS.Ap rest (λi hi=>by simp[jb,cE])
   have H:a9 (rest.length-min rest.length 4) (jb (min rest.length 4) (cS.fn rest)) (cS.fn (rest.drop 4)):=by
    intro i hi;have C:min rest.length 4=4:=by omega
    rw[C];simp only[jb,iv.fn,vm,ag,mR]
   have w:∀ p∈rest.take 4,bT p=ab:=λp u=>m p (gY u)
   have L:=cP.cu ps (kS (gf s+(ps.length-s.1.length:Nat)) k (rest.take 4));refine aE c [] 200 rfl ?_ (AK.bg (rest.drop 4,ps++[kS (gf s+(ps.length-s.1.length:Nat)) k (rest.take 4)]) rfl ?_ rfl rfl rfl ?_ rfl ?_ ?_)
   .simp only[ai,bD,A,v,D,bn,show i55.bytes=32 from rfl,aG,aF]
    and_intros <;> first|exact w|omega
   .simp only[ai.cat,ai,bF,db,eu,gF,cE,bu,aG,aF]
    and_intros <;> first|rfl|omega|exactλ_ _=>rfl|exact H
   .simp only[ai.cat,ai,A,bF,db,eu,aG,aF]
    and_intros <;> first|rfl|exactλ_ _=>rfl|exact L|omega
   .refine⟨λp u=>m p (uP u),by simp only[bF,db,eu,gF];omega,by simp only[bF,db,eu];omega,f,by simp only[gF];omega,?_⟩
    simp only[bF,db,eu];rw[g5,dq,y9];rw[show gf s+((ps.length-s.1.length:Nat):Int)+1=gf s+((ps.length+(0+1)-s.1.length:Nat):Int) by omega]
   .simp only[gF];omega
  .have e:ps=s.1++np:=by
    rw[g5];cases f <;> simp[hZ,h]
   refine aE c [(30,ae)] 200 rfl (by simp only[ai,bY];omega) (AK.leaveD rfl rfl ?_)
   refine out () ay rfl ?_ rfl ?_
   .simp only[ai.cat,ai,e,bF,aG,aF]
    and_intros <;> first|rfl|omega|exactλ_ _=>rfl
   .simp[ai.cat,ai,a9.same,e]
 rintro⟨⟩ -;have d:j5 k s t=(decide (20<s.1.length+np.length)||(decide (99<gf s+np.length-1)||(decide (20<fM s)||decide (9<=s.2.2.length)))):=by unfold j5;rw[y]
 have M:-4000000<=fM s/\fM s<=4000001:=by
  have:=sd s.2.2 j.h;unfold fM;split
  .omega
  .rename_i h
   have:=j.s _ (jB (show s.2.1.length-1<s.2.1.length by omega) (0,[]))
   omega
 have K:(s.1++np).length=s.1.length+np.length:=bF
 by_cases B:20<s.1.length+np.length
 .have b:j5 k s t=ab:=by rw[d];simp[B]
  rw[b];refine aE c [(53,ab)] 200 rfl ?_ ?_
  .simp only[ai,bF,bD,bh,bY,aG,aF];and_intros <;> omega
  refine AK.bM (fO s a.p a.p2 a.sn a.s2 a.h) [] rfl rfl rfl rfl rfl rfl rfl rfl rfl rfl rfl ?_;refine aE c [] 200 rfl ay ?_;refine AK.freeze 8 1 rfl rfl rfl ?_;refine AK.mX tok [] rfl ?_ rfl rfl rfl l3;simp[ai.cat,ai,a9.same]
 by_cases c2:99<gf s+np.length-1
 .have b:j5 k s t=ab:=by rw[d];simp[c2]
  rw[b];refine aE c [(53,ae),(57,ab)] 200 rfl ?_ ?_
  .simp only[ai,bF,bD,bh,bY,aG,aF];and_intros <;> omega
  refine AK.bM (fO s a.p a.p2 a.sn a.s2 a.h) [] rfl rfl rfl rfl rfl rfl rfl rfl rfl rfl rfl ?_;refine aE c [] 200 rfl ay ?_;refine AK.freeze 8 1 rfl rfl rfl ?_;refine AK.mX tok [] rfl ?_ rfl rfl rfl l3;simp[ai.cat,ai,a9.same]
 by_cases c3:20<fM s
 .have b:j5 k s t=ab:=by rw[d];simp[c3]
  rw[b];refine aE c [(53,ae),(57,ae),(61,ab)] 200 rfl ?_ ?_
  .simp only[ai,bF,bD,bh,bY,aG,aF];and_intros <;> omega
  refine AK.bM (fO s a.p a.p2 a.sn a.s2 a.h) [] rfl rfl rfl rfl rfl rfl rfl rfl rfl rfl rfl ?_;refine aE c [] 200 rfl ay ?_;refine AK.freeze 8 1 rfl rfl rfl ?_;refine AK.mX tok [] rfl ?_ rfl rfl rfl l3;simp[ai.cat,ai,a9.same]
 by_cases c4:9<=s.2.2.length
 .have b:j5 k s t=ab:=by rw[d];simp[c4]
  rw[b];refine aE c [(53,ae),(57,ae),(61,ae),(67,ab)] 200 rfl ?_ ?_
  .simp only[ai,bF,bD,bh,bY,aG,aF];and_intros <;> omega
  refine AK.bM (fO s a.p a.p2 a.sn a.s2 a.h) [] rfl rfl rfl rfl rfl rfl rfl rfl rfl rfl rfl ?_;refine aE c [] 200 rfl ay ?_;refine AK.freeze 8 1 rfl rfl rfl ?_;refine AK.mX tok [] rfl ?_ rfl rfl rfl l3;simp[ai.cat,ai,a9.same]
 have b:j5 k s t=ae:=by rw[d,cJ B,cJ c2,cJ c3,cJ c4];rfl
 rw[b];have r:=dz.cu s.2.1 (kq (fM s) k t);have J:=cH.cu s.2.2 (by_,fM s);refine aE c [(53,ae),(57,ae),(61,ae),(67,ae)] 200 rfl ?_ ?_
 .simp only[ai,v,cF.list_fn,bF,bD,show i59.bytes=32 from rfl,show i86.bytes=16 from rfl,bh,bY,aG,aF]
  and_intros <;> first|exact g|exact cF.aH _|rfl|omega
 refine AK.freeze 8 1 rfl rfl rfl ?_;refine AK.mX tok [] rfl ?_ rfl rfl rfl l3;simp only[ai.cat,ai,cF.list_fn,lj,y,bF,db,eu,aG,aF]
 and_intros <;> first|rfl|exactλ_ _=>rfl|exact r|exact J|simp
end Go.AM.R1
namespace Go.AM.R1
theorem pv{t:List bJ}(h:dt t=ab):wO t:=by
 obtain⟨m,_,_,n⟩:=ui.1 h;have e:∀ f∈t,ck f.2=ab/\f.2.length<=40:=λf d=>by
  have:=(m f d).2;simp only[ef,bG,bh] at this;exact⟨this.2,this.1⟩
 refine⟨by omega,λf d=>⟨(e f d).1,by have:=(e f d).2;omega⟩,?_⟩
 have:∀ l:List bJ,(∀ f∈l,f.2.length<=40)->(kr l).length<=40*l.length:=by
  intro l
  induction l with
  |nil=>intro _;simp[kr]
  |cons f r k =>
   intro i;have a:=k λg j=>i g (j9 _ j)
   have b:=i f me;have c:=ov f.2;simp only[kr,pD,bF,db] at a ⊢;omega
 have:=this t λf d=>(e f d).2
 omega
theorem CC(no k:Int)(ps:List Bs):(kS no k ps).2.length=ps.length:=FI k ps
theorem AI{l:List dA}:∀ (a:Int),l.Pairwise (λa b=>a.1<b.1)->(∀ x∈l,a<=x.1/\x.1<=20)->(l.length:Int)<=max 0 (21-a):=by
 induction l with
 |nil=>intro a _ _;simp;omega
 |cons x r g =>
  intro a h c;obtain⟨f,e⟩:=List.pairwise_cons.1 h;have i:=c x me;have:=g (x.1+1) e λy d=>⟨by have:=f y d;omega,(c y (j9 _ d)).2⟩
  simp only[db];omega
theorem tA(k:Int):∀ (f:Nat) (no:Int)(ps:List Bs),(∀ q∈ps,bT q=ab)->∀ x∈hZ k f no ps,∃ a c,no<=a/\a<no+(hZ k f no ps).length/\0<c.length/\c.length<=4/\(∀ q∈c,bT q=ab)/\x=kS a k c
 |0,_,_,_,x,b=>by simp[hZ] at b
 |f+1,no,ps,e,x,b=>by
  simp only[hZ] at b ⊢;split at b
  .rename_i h
   rw[aU h];rcases ew.1 b with rfl|b
   .refine⟨no,ps.take 4,ry _,by simp;omega,by simp;omega,by simp;omega,λq d=>e q (gY d),rfl⟩
   .obtain⟨a,c,j,i,g⟩:=tA k f (no+1) (ps.drop 4) (λq d=>e q (uP d)) x b
    exact⟨a,c,by omega,by simp only[db];omega,g⟩
  .simp at b
theorem yQ{α:Type}{l:List α}(h:l.length≠0)(d:α):l.getD (l.length-1) d∈l:=jB (by omega) d
theorem tB(k:Int):∀ (f:Nat) (no:Int)(ps:List Bs),∀ x∈hZ k f no ps,no<=x.1
 |0,_,_,x,a=>by simp[hZ] at a
 |f+1,no,ps,x,a=>by
  simp only[hZ] at a;split at a
  .rcases ew.1 a with rfl|a
   .exact ry _
   .have:=tB k f (no+1) (ps.drop 4) x a;omega
  .simp at a
theorem w9(k:Int):∀ (f:Nat) (no:Int)(ps:List Bs),(hZ k f no ps).Pairwise λa b=>a.1<b.1
 |0,_,_=>by simp[hZ]
 |f+1,no,ps=>by
  simp only[hZ];split
  .refine List.pairwise_cons.2 ⟨λx c=>?_,w9 k f (no+1) (ps.drop 4)⟩
   have:=tB k f (no+1) (ps.drop 4) x c;show no<x.1;omega
  .simp
end Go.AM.R1
namespace Go.AM.R1
open Go.Proofs
variable {X:Cx ah}
theorem wU{α:Type}{q:α->Bool}{l:List α}(h:l.any q=ab):0<=wL q l:=by
 unfold wL;cases e:l.findIdx? q with
 |some i=>exact Int.natCast_nonneg i
 |none =>
  rw[qD] at e;obtain⟨x,b,a⟩:=List.any_eq_true.1 h;rw[e x b] at a;cases a
theorem wV{α:Type}{q:α->Bool}{l:List α}(h:l.any q=ae):wL q l=-1:=by
 unfold wL;have:l.findIdx? q=af:=by
  rw[qD];intro x a;have:=uV.1 h x a;simpa using this
 rw[this]
theorem KC(l:List (Int×Int))(b:Nat)(q:Int×Int->Bool)(o:∀ x,x∈l->Ev X b [.e (.agg [.c (.int .i64 x.1),.c (.int .i64 x.2)])] [] (dB (q x)) []) :
  Ev X 83 [cH.sl l,.e (.one (.c (.fn (.func b) [] [])))] [] (dI (wL q l)) []:=by
 refine Ev.body Tryz.func83 rfl rfl rfl λk=>?_
 have g:=k.sl 0 rfl;refine bP rfl ay ?_;refine AK.j4 (λi=>i<=l.length/\∀ j,j<i->q (l.getD j (0,0))=ae) (λi:Nat=>[(0,cH.sl l),(1,.e (.one (.c (.fn (.func b) [] [])))),(7,dI l.length),(8,dI i)]) (λ_=>[]) (λi=>l.length-i) 0 rfl ?_ rfl ay ⟨by omega,by omega⟩ ?_
 .simp[ai.cat,ai,a9.same]
 rintro i ⟨hi,a⟩
 by_cases h:i<l.length
 .have n:l.getD i (0,0)∈l:=by rw[ag,aR h];exact dy h
  have m:l.getD (i:Int).toNat cH.bU=l.getD i (0,0):=by rw[bu];rfl
  refine bd [(9,ab)] 100 rfl ?_ ?_
  .simp only[ai];exact⟨by omega,by omega,b9 (by omega)⟩
  rw[m];refine AK.bM (o _ n) [] rfl rfl rfl rfl rfl rfl rfl rfl rfl rfl rfl ?_;cases f:q (l.getD i (0,0)) with
  |true =>
   refine bd [(16,ab)] 100 rfl ?_ (AK.iq (cn.zero rfl ?_))
   .simp[ai]
   .simp[ai,Al h f a]
  |false =>
   refine bd [(16,ae)] 100 rfl ?_ (AK.gw (i+1) rfl ?_ rfl ay ?_ ?_)
   .simp[ai,bD];omega
   .simp[ai.cat,ai,a9.same]
   .refine⟨by omega,λj d=>?_⟩
    rcases fU.1 d with d|rfl
    .exact a j d
    .exact f
   .omega
 .refine bd [(9,ae)] 100 rfl (by simp[ai];omega) (AK.leave rfl rfl ?_)
  refine bP rfl ay (AK.br rfl ?_);simp[ai,tj (λj d=>a j (by omega))]
theorem KD(l:List (Int×Int))(a:Nat)(q:Int×Int->Bool)(b:∀ x,x∈l->Ev X a [.e (.agg [.c (.int .i64 x.1),.c (.int .i64 x.2)])] [] (dB (q x)) []) :
  Ev X 52 [cH.sl l,.e (.one (.c (.fn (.func a) [] [])))] [] (dB (l.any q)) []:=by
 refine Ev.body Tryz.func52 rfl rfl rfl λd=>?_
 refine bP rfl ay ?_;refine AK.bM (KC l a q b) [] rfl rfl rfl rfl rfl rfl rfl rfl rfl rfl rfl ?_;cases h:l.any q with
 |true =>
  refine bd [(8,ab)] 100 rfl (b9 (wU h)) (AK.br rfl ?_);simp[ai]
 |false =>
  refine bd [(8,ae)] 100 rfl (cJ (by rw[wV h];decide)) (AK.br rfl ?_)
  simp[ai]
theorem KE(l:List (bC))(b:Nat)(cs:List C)(q:bC->Bool)(o:∀ x,x∈l->Ev X b [GB x,.e (.one (.c (.rp cs)))] [] (dB (q x)) []) :
  Ev X 74 [cP.sl l,.e (.one (.c (.fn (.func b) [] [.rp cs])))] [] (dI (wL q l)) []:=by
 refine Ev.body Tryz.func74 rfl rfl rfl λk=>?_
 have g:=k.sl 0 rfl;refine bP rfl ay ?_;refine AK.j4 (λi=>i<=l.length/\∀ j,j<i->q (l.getD j (0,[]))=ae) (λi:Nat=>[(0,cP.sl l),(1,.e (.one (.c (.fn (.func b) [] [.rp cs])))),(7,dI l.length),(8,dI i)]) (λ_=>[]) (λi=>l.length-i) 0 rfl ?_ rfl ay ⟨by omega,by omega⟩ ?_
 .simp[ai.cat,ai,a9.same]
 rintro i ⟨hi,a⟩
 by_cases h:i<l.length
 .have n:l.getD i (0,[])∈l:=by rw[ag,aR h];exact dy h
  have m:l.getD (i:Int).toNat cP.bU=l.getD i (0,[]):=by rw[bu];rfl
  refine bd [(9,ab)] 100 rfl ?_ ?_
  .simp only[ai];exact⟨by omega,by omega,b9 (by omega)⟩
  rw[m];refine AK.bM (o _ n) [] rfl rfl rfl rfl rfl rfl rfl rfl rfl rfl rfl ?_;cases f:q (l.getD i (0,[])) with
  |true =>
   refine bd [(16,ab)] 100 rfl ?_ (AK.iq (cn.zero rfl ?_))
   .simp[ai]
   .simp[ai,Al h f a]
  |false =>
   refine bd [(16,ae)] 100 rfl ?_ (AK.gw (i+1) rfl ?_ rfl ay ?_ ?_)
   .simp[ai,bD];omega
   .simp[ai.cat,ai,a9.same]
   .refine⟨by omega,λj d=>?_⟩
    rcases fU.1 d with d|rfl
    .exact a j d
    .exact f
   .omega
 .refine bd [(9,ae)] 100 rfl (by simp[ai];omega) (AK.leave rfl rfl ?_)
  refine bP rfl ay (AK.br rfl ?_);simp[ai,tj (λj d=>a j (by omega))]
theorem KF(l:List (bC))(a:Nat)(cs:List C)(q:bC->Bool)(b:∀ x,x∈l->Ev X a [GB x,.e (.one (.c (.rp cs)))] [] (dB (q x)) []) :
  Ev X 35 [cP.sl l,.e (.one (.c (.fn (.func a) [] [.rp cs])))] [] (dB (l.any q)) []:=by
 refine Ev.body Tryz.func35 rfl rfl rfl λd=>?_
 refine bP rfl ay ?_;refine AK.bM (KE l a cs q b) [] rfl rfl rfl rfl rfl rfl rfl rfl rfl rfl rfl ?_;cases h:l.any q with
 |true =>
  refine bd [(8,ab)] 100 rfl (b9 (wU h)) (AK.br rfl ?_);simp[ai]
 |false =>
  refine bd [(8,ae)] 100 rfl (cJ (by rw[wV h];decide)) (AK.br rfl ?_)
  simp[ai]
theorem KG(l:List (Int))(b:Nat)(cs:List C)(H:ak->(Nat->Option Obj)->Prop)(q:Int->Bool)(o:∀ x,x∈l->Ev X b [dI x,.e (.one (.c (.rp cs)))] [.dM H] (dB (q x)) [.dM H]) :
  Ev X 72 [cI.sl l,.e (.one (.c (.fn (.func b) [] [.rp cs])))] [.dM H] (dI (wL q l)) [.dM H]:=by
 refine Ev.body Tryz.func72 rfl rfl rfl λk=>?_
 have g:=k.sl 0 rfl;refine bP rfl ay ?_;refine AK.cd 1 (λi=>i<=l.length/\∀ j,j<i->q (l.getD j 0)=ae) (λi:Nat=>[(0,cI.sl l),(1,.e (.one (.c (.fn (.func b) [] [.rp cs])))),(7,dI l.length),(8,dI i)]) (λ_=>[.dM H]) (λi=>l.length-i) 0 rfl ?_ rfl ?_ rfl ⟨by omega,by omega⟩ ?_
 .simp[ai.cat,ai,a9.same]
 .simp[ai.cat,ai,a9.same]
 rintro i ⟨hi,a⟩
 by_cases h:i<l.length
 .have n:l.getD i 0∈l:=by rw[ag,aR h];exact dy h
  have m:l.getD (i:Int).toNat cI.bU=l.getD i 0:=by rw[bu];rfl
  refine bd [(9,ab)] 100 rfl ?_ ?_
  .simp only[ai];exact⟨by omega,by omega,b9 (by omega)⟩
  rw[m];refine AK.bM (o _ n) [0] rfl rfl rfl rfl rfl rfl rfl rfl rfl rfl rfl ?_;cases f:q (l.getD i 0) with
  |true =>
   refine bd [(16,ab)] 100 rfl ?_ (AK.eC (cn.mk [0] rfl ?_ rfl rfl rfl qO))
   .simp[ai]
   .simp[ai,Al h f a]
  |false =>
   refine bd [(16,ae)] 100 rfl ?_ (AK.bg (i+1) rfl ?_ rfl rfl rfl ?_ rfl ?_ ?_)
   .simp[ai,bD];omega
   .simp[ai.cat,ai,a9.same]
   .simp[ai.cat,ai,a9.same]
   .refine⟨by omega,λj d=>?_⟩
    rcases fU.1 d with d|rfl
    .exact a j d
    .exact f
   .omega
 .refine bd [(9,ae)] 100 rfl (by simp[ai];omega) (AK.leaveD rfl rfl ?_)
  refine bP rfl ay (AK.eB [0] rfl ?_ rfl rfl rfl qO);simp[ai,tj (λj d=>a j (by omega))]
theorem KH(l:List (Int))(a:Nat)(cs:List C)(H:ak->(Nat->Option Obj)->Prop)(q:Int->Bool)(b:∀ x,x∈l->Ev X a [dI x,.e (.one (.c (.rp cs)))] [.dM H] (dB (q x)) [.dM H]) :
  Ev X 32 [cI.sl l,.e (.one (.c (.fn (.func a) [] [.rp cs])))] [.dM H] (dB (l.any q)) [.dM H]:=by
 refine Ev.body Tryz.func32 rfl rfl rfl λd=>?_
 refine bP rfl ay ?_;refine AK.bM (KG l a cs H q b) [0] rfl rfl rfl rfl rfl rfl rfl rfl rfl rfl rfl ?_;cases h:l.any q with
 |true =>
  refine bd [(8,ab)] 100 rfl (b9 (wU h)) (AK.eB [0] rfl ?_ rfl rfl rfl qO);simp[ai]
 |false =>
  refine bd [(8,ae)] 100 rfl (cJ (by rw[wV h];decide)) (AK.eB [0] rfl ?_ rfl rfl rfl qO)
  simp[ai]
theorem wP:∀ j,j<1->([0]:List Nat)[j]?=aa j:=λj a=>by
 have:j=0:=by omega
 subst this;rfl
set_option maxRecDepth 20000 in
theorem K6(m:Nat)(b:Nat->Int)(g:Bytes b)(k:Nat)(h:k<=4000000)(d:m<=1048576)(l:List Bs)(i:1<=l.length/\l.length<=1000) :
  dZ (ι:={ p:Bs // p∈l }) X 93 [.e (.one (.ptr 0 0)),cS.sl l] [nC m b k] (λp=>dS p.1) (λ_=>[nC m b (k+1)]):=by
 refine dZ.sC Tryz.func93 rfl rfl rfl λf=>?_
 refine bP rfl ay ?_;refine AK.cx (ek m b g k l.length h d (by omega)) [0] rfl rfl rfl rfl rfl rfl rfl (λ_=>rfl) rfl (λ_=>rfl) rfl ?_
 rintro⟨v,v0,v1⟩;refine bP rfl ?_ ?_
 .simp[ai];omega
 have a:l.getD v.toNat cS.bU∈l:=by
  have c:v.toNat<l.length:=by omega
  rw[ag,aR c];exact dy c
 refine AK.nG ⟨l.getD v.toNat cS.bU,a⟩ (AK.eB [0] rfl ?_ rfl rfl rfl wP);simp[ai]
def K7:List Bs:=[[],[102],[97,47],[97,98],[97,47,98,47,99],[47,97]]
def K8:List Bs:=[[97],[98],[99,47,97],[99,47,98],[100,47,97],[101],[97,47,98],[100]]
set_option maxRecDepth 20000 in
theorem FU(m:Nat)(b:Nat->Int)(d:Bytes b)(k:Nat)(g:k<=100000)(c:m<=1048576) :
  dZ (ι:={ p:Bs // p.length<=8 }) X 91 [.e (.one (.ptr 0 0))] [nC m b k] (λp=>dS p.1) (λ_=>[nC m b (k+1+1)]):=by
 refine dZ.sC Tryz.func91 rfl rfl rfl λf=>?_
 refine bP rfl ay ?_;refine AK.cx (ek m b d k 40 (by omega) c (by omega)) [0] rfl rfl rfl rfl rfl rfl rfl (λ_=>rfl) rfl (λ_=>rfl) rfl ?_
 rintro⟨v,v0,v1⟩
 by_cases h:v=0
 .refine bd [(5,ab)] 100 rfl ?_ ?_
  .simp[ai,h]
  have:=K6 (X:=X) m b d (k+1) (by omega) c K7 (by decide)
  refine AK.my this [0] rfl rfl rfl rfl ?_ rfl rfl rfl (λ_=>rfl) rfl (λ_=>rfl) rfl ?_
  .refine⟨rfl,λi hi=>?_⟩
   rcases i with _|_|_|_|_|_|i <;> first|rfl|omega
  rintro⟨p,a⟩;refine bP rfl ay (AK.nG ⟨p,(by decide:∀ p∈K7,p.length<=8) p a⟩ (AK.eB [0] rfl ?_ rfl rfl rfl wP))
  simp[ai]
 .refine bd [(5,ae)] 100 rfl ?_ ?_
  .simp[ai,h]
  have:=K6 (X:=X) m b d (k+1) (by omega) c K8 (by decide)
  refine AK.my this [0] rfl rfl rfl rfl ?_ rfl rfl rfl (λ_=>rfl) rfl (λ_=>rfl) rfl ?_
  .refine⟨rfl,λi hi=>?_⟩
   rcases i with _|_|_|_|_|_|_|_|i <;> first|rfl|omega
  rintro⟨p,a⟩;refine bP rfl ay (AK.nG ⟨p,(by decide:∀ p∈K8,p.length<=8) p a⟩ (AK.eB [0] rfl ?_ rfl rfl rfl wP))
  simp[ai]
def words:List Bs:=[[97,98,99],[104,101,108,108,111],[119,111,114,108,100],[97,97,97,97],[107,101,101,112],[122,122],[98,97,99,107,117,112],[113]]
abbrev U1(k:Nat):={ q:Bs×Nat // q.1.length<=100000/\k<=q.2/\q.2<=k+60 }
theorem FV(s:Bs) (n:Int)(f:s.length<=10)(h:0<=n/\n<=100):dZ (ι:={ p:Bs // p.length<=100000 }) X 109 [dS s,dI n] [] (λp=>dS p.1) (λ_=>[]):=by
 refine dZ.sC Tryz.func109 rfl rfl rfl λd=>?_
 refine bP rfl ay ?_;refine AK.j4 (λx:Nat×Bs×Bs=>x.1<=100/\x.2.2.length+x.2.1.length*x.1<=1010) (λx=>[(0,dS x.2.1),(1,dI x.1),(5,dS x.2.2)]) (λ_=>[]) (λx=>x.1) (n.toNat,s,[]) rfl ?_ rfl ay ⟨by simp only;omega,?_⟩ ?_
 .simp[ai,ai.cat];omega
 .have:s.length*n.toNat<=10*100:=Nat.mul_le_mul f (by omega)
  simp only[eu];omega
 rintro⟨k,t,out⟩ ⟨g,c⟩;simp only at g c
 by_cases b:0<k
 .have l:t.length<=t.length*k:=qZ _ b;have j:((k:Int) / 2)=((k / 2:Nat):Int):=by omega
  by_cases i:k % 2=1
  .have a:(t++t).length*(k / 2)+t.length=t.length*k:=by
    have e:k=2*(k / 2)+1:=by omega
    generalize k / 2=q at *;subst e;simp only[bF,rv,ey];rw[<-u4,jH t.length 2,u4];omega
   refine bd [(7,ab),(10,ab)] 100 rfl ?_ (AK.gw (k / 2,t++t,out++t) rfl ?_ rfl ay ?_ ?_)
   .simp[ai,b];omega
   .simp[ai,ai.cat]
   .refine⟨by simp only;omega,?_⟩
    simp only[bF] at a ⊢;omega
   .simp only;omega
  .have a:(t++t).length*(k / 2)=t.length*k:=by
    have e:k=2*(k / 2):=by omega
    generalize k / 2=q at *;subst e;simp only[bF,ey];rw[<-u4,jH t.length 2,u4];omega
   refine bd [(7,ab),(10,ae)] 100 rfl ?_ (AK.gw (k / 2,t++t,out) rfl ?_ rfl ay ?_ ?_)
   .simp[ai,b];omega
   .simp[ai,ai.cat]
   .refine⟨by simp only;omega,?_⟩
    simp only at a ⊢;omega
   .simp only;omega
 .obtain rfl:k=0:=by omega
  refine bd [(7,ae)] 100 rfl (by simp[ai]) (AK.leave rfl rfl ?_)
  refine bP rfl ay (AK.nG ⟨out,by omega⟩ (AK.br rfl ?_))
  simp[ai]
set_option maxRecDepth 20000 in
theorem N0(m:Nat)(b:Nat->Int)(c:Bytes b)(k:Nat)(J:k<=100000)(d:m<=1048576) :
  dZ (ι:=U1 k) X 92 [.e (.one (.ptr 0 0))] [nC m b k] (λq=>dS q.1.1) (λq=>[nC m b q.1.2]):=by
 refine dZ.sC Tryz.func92 rfl rfl rfl λB=>?_
 refine bP rfl ay ?_;refine AK.cx (ek m b c k 5 (by omega) d (by omega)) [0] rfl rfl rfl rfl rfl rfl rfl (λ_=>rfl) rfl (λ_=>rfl) rfl ?_
 rintro⟨v,v0,v1⟩;refine bP rfl ay ?_;refine AK.cd 1 (λs:Nat×Bs×Nat=>s.1<=4/\s.2.1.length+6*s.1<=24/\k<=s.2.2/\s.2.2+s.1<=k+5) (λs=>[(0,.e (.one (.ptr 0 0))),(4,dI s.1),(3,dS s.2.1)]) (λs=>[nC m b s.2.2]) (λs=>s.1) (v.toNat,[],k+1) rfl ?_ rfl ?_ rfl ⟨by omega,by simp;omega,by simp,by simp;omega⟩ ?_
 .simp[ai,ai.cat];omega
 .simp[ai,ai.cat,a9.same]
 rintro⟨n,s,k1⟩ ⟨A,E,C,r⟩;simp only at A E C r
 by_cases j:0<n
 .refine bd [(9,ab)] 100 rfl ?_ ?_
  .simp[ai,j]
  have:=K6 (X:=X) m b c k1 (by omega) d words (by decide)
  refine AK.my this [0] rfl rfl rfl rfl ?_ rfl rfl rfl (λ_=>rfl) rfl (λ_=>rfl) rfl ?_
  .refine⟨rfl,λi hi=>?_⟩
   rcases i with _|_|_|_|_|_|_|_|i <;> first|rfl|omega
  rintro⟨p,h⟩;have o:p.length<=6:=(by decide:∀ p∈words,p.length<=6) p h
  refine bP rfl ?_ (AK.bg (n-1,s++p,k1+1) rfl ?_ rfl rfl rfl ?_ rfl ?_ ?_)
  .simp[ai,bD];omega
  .simp[ai,ai.cat];omega
  .simp[ai,ai.cat,a9.same]
  .simp;omega
  .simp;omega
 .obtain rfl:n=0:=by omega
  refine bd [(9,ae)] 100 rfl (by simp[ai]) (AK.leaveD rfl rfl ?_)
  refine bP rfl ay ?_;refine AK.cx (ek m b c k1 4 (by omega) d (by omega)) [0] rfl rfl rfl rfl rfl rfl rfl (λ_=>rfl) rfl (λ_=>rfl) rfl ?_
  rintro⟨u,H,K⟩
  by_cases l:u=0
  .refine bd [(19,ab)] 100 rfl (by simp[ai,l]) ?_
   refine AK.cx (ek m b c (k1+1) 12 (by omega) d (by omega)) [0] rfl rfl rfl rfl rfl rfl rfl (λ_=>rfl) rfl (λ_=>rfl) rfl ?_
   rintro⟨w,F,w1⟩;refine bP rfl ay ?_;refine AK.cd 1 (λs:Nat×Bs×Nat=>s.1<=11/\s.2.1.length+s.1<=36/\k<=s.2.2/\s.2.2+s.1<=k+20) (λs=>[(0,.e (.one (.ptr 0 0))),(5,dI s.1),(3,dS s.2.1)]) (λs=>[nC m b s.2.2]) (λs=>s.1) (w.toNat,s,k1+2) rfl ?_ rfl ?_ rfl ⟨by omega,by simp only;omega,by simp only;omega,by simp only;omega⟩ ?_
   .simp[ai,ai.cat];omega
   .simp[ai,ai.cat,a9.same];omega
   rintro⟨n,s2,f⟩ ⟨t,g2,g3,g4⟩;simp only at t g2 g3 g4
   by_cases j:0<n
   .refine bd [(23,ab)] 100 rfl ?_ ?_
    .simp[ai,j]
    refine AK.cx (ek m b c f 26 (by omega) d (by omega)) [0] rfl rfl rfl rfl rfl rfl rfl (λ_=>rfl) rfl (λ_=>rfl) rfl ?_
    rintro⟨x,I,G⟩;refine bP rfl ?_ (AK.bg (n-1,s2++[UInt8.ofNat (97+x).toNat],f+1) rfl ?_ rfl rfl rfl ?_ rfl ?_ ?_)
    .simp[ai,bD];omega
    .simp[ai,ai.cat];omega
    .simp[ai,ai.cat,a9.same]
    .simp;omega
    .simp;omega
   .obtain rfl:n=0:=by omega
    refine bd [(23,ae)] 100 rfl (by simp[ai]) (AK.leaveD rfl rfl ?_)
    refine bd [(36,ae)] 100 rfl ?_ ?_
    .simp[ai];omega
    refine AK.cx (ek m b c f 60 (by omega) d (by omega)) [0] rfl rfl rfl rfl rfl rfl rfl (λ_=>rfl) rfl (λ_=>rfl) rfl ?_
    rintro⟨y,D,z⟩
    by_cases g:y=0
    .refine bd [(41,ab)] 100 rfl ?_ (AK.nG ⟨(s2++[65],f+1),by simp;omega,by simp only;omega,by simp only;omega⟩ (AK.eB [0] rfl ?_ rfl rfl rfl wP))
     .simp[ai,g];omega
     .simp[ai]
    by_cases a:y=1
    .refine bd [(41,ae),(45,ab)] 100 rfl ?_ ?_
     .simp[ai,a]
     refine AK.cx (FV [97,98,99,100,101] 9 (by decide) (by decide)) [] rfl rfl rfl rfl rfl rfl rfl (λ_=>rfl) rfl (λ_=>rfl) rfl ?_
     rintro⟨p,h⟩;refine bP rfl ay (AK.nG ⟨(p,f+1),h,by simp only;omega,by simp only;omega⟩ (AK.eB [0] rfl ?_ rfl rfl rfl wP))
     simp[ai]
    .refine bd [(41,ae),(45,ae)] 100 rfl ?_ (AK.nG ⟨(s2,f+1),by simp only;omega,by simp only;omega,by simp only;omega⟩ (AK.eB [0] rfl ?_ rfl rfl rfl wP))
     .simp[ai,g,a]
     .simp[ai]
  .refine bd [(19,ae)] 2 rfl (by simp[ai,l]) ?_
   refine bd [(36,ae)] 100 rfl ?_ ?_
   .simp[ai];omega
   refine AK.cx (ek m b c (k1+1) 60 (by omega) d (by omega)) [0] rfl rfl rfl rfl rfl rfl rfl (λ_=>rfl) rfl (λ_=>rfl) rfl ?_
   rintro⟨y,D,z⟩
   by_cases g:y=0
   .refine bd [(41,ab)] 100 rfl ?_ (AK.nG ⟨(s++[65],(k1+1)+1),by simp;omega,by simp only;omega,by simp only;omega⟩ (AK.eB [0] rfl ?_ rfl rfl rfl wP))
    .simp[ai,g];omega
    .simp[ai]
   by_cases a:y=1
   .refine bd [(41,ae),(45,ab)] 100 rfl ?_ ?_
    .simp[ai,a]
    refine AK.cx (FV [97,98,99,100,101] 9 (by decide) (by decide)) [] rfl rfl rfl rfl rfl rfl rfl (λ_=>rfl) rfl (λ_=>rfl) rfl ?_
    rintro⟨p,h⟩;refine bP rfl ay (AK.nG ⟨(p,(k1+1)+1),h,by simp only;omega,by simp only;omega⟩ (AK.eB [0] rfl ?_ rfl rfl rfl wP))
    simp[ai]
   .refine bd [(41,ae),(45,ae)] 100 rfl ?_ (AK.nG ⟨(s,(k1+1)+1),by simp only;omega,by simp only;omega,by simp only;omega⟩ (AK.eB [0] rfl ?_ rfl rfl rfl wP))
    .simp[ai,g,a]
    .simp[ai]
theorem N1(m:Nat)(b:Nat->Int)(f:m<=1048576):dZ (ι:={ n:Nat // n<=1048576 }) X 13 [.e (.one (.c (.sl ae 1 m (Rb b))))] [] (λ_=>.e (.one (.ptr 0 0))) (λn=>[nC n.1 b 0]):=by
 refine dZ.sC Tryz.func13 rfl rfl rfl λd=>?_
 by_cases h:2000<m
 .refine bd [(5,ab)] 100 rfl ?_ (AK.norm [nC 2000 b 0] rfl ?_ (AK.nG ⟨2000,by decide⟩ (AK.eB [0] rfl ?_ rfl rfl rfl (λj a=>by simp at a))))
  .simp[ai];omega
  .simp[ai,ai.cat,a9,jb,cE]
  .simp[ai]
 .refine bd [(5,ae)] 100 rfl ?_ (AK.nG ⟨m,f⟩ (AK.eB [0] rfl ?_ rfl rfl rfl (λj a=>by simp at a)))
  .simp[ai];omega
  .simp[ai]
end Go.AM.R1
namespace Go.AM
def H6(p:Bs):ak:=.string ⟨p.toArray⟩
theorem RU{a:ByteArray}{p:Bs}(h:a.data.toList=p):Value.string a=H6 p:=by
 subst h;simp[H6]
theorem str_val{M:Mem}{v:ak}{p:Bs}(h:Rd M v (.str p)):v=H6 p/\c8 v=ab:=by
 cases h with
 |str e _=>exact⟨RU e,rfl⟩
end Go.AM
namespace Go.AM.R1
open Go.Proofs
variable {X:Cx ah} [X.jN]
theorem RV(t:List bJ):∀ i,i<t.length->(cF.fn t i).length=2/\∀ c∈cF.fn t i,vv c=ab:=by
 intro i _;refine⟨rfl,λc a=>?_⟩
 simp only[iv.fn,vm,cF,ew,rl,or_false] at a;rcases a with rfl|rfl <;> rfl
abbrev K9(t:List bJ)(xs:List ak):Prop:=e9 2 t.length (cF.fn t) xs
abbrev bK(bf:sJ)(n:Nat)(xs:List ak):aW:=.dM (iZ 129 2 bf n xs)
abbrev tKB(bf:sJ)(n:Nat)(b:Bool):D:=.fW [.one (.v (oH bf n)),.one (.c (.bool b))]
theorem CH(t:List bJ)(p x:Bs):dZ (ι:={ q:sJ×List ak // K9 (fT t p x).1 q.2 }) X 90 [cF.sl t,dS p,dS x] [] (λq=>tKB q.1.1 (fT t p x).1.length (fT t p x).2) (λq=>[bK q.1.1 (fT t p x).1.length q.1.2]) :=
 (uk t p x).thaw Tryz.func90 rfl (by simp[z8,pd,r9,ot,vA,vv]) (RV _)
theorem e9.nil{k:Nat}{es:Nat->List C}:e9 k 0 es []:=⟨by simp,λi hi=>by omega,λi hi=>by omega⟩
theorem Hw{t:List bJ}{p x:Bs}(h:(fT t p x).2=ab):(fT t p x).1.length<=6:=by
 unfold fT at h ⊢;split at h
 .rename_i b
  rw[aU b];split at h
  .rename_i a;rw[aU a];exact xe a
  .cases h
 .cases h
theorem U2{o:av}{x y:aq}(h:o.op=.call { callee:=.builtin .append,args:=#[x,y],argTypes:=#[69,69] }):mr ah o x y 129 i129 :=
 ⟨⟨69,69,i69,i69,h,Ya,rfl,Ya,rfl⟩,U0,by decide,by decide⟩
theorem La{M:Mem}{p:Bs}(h:p.length<=9223372036854775807):Rd M (H6 p) (.str p):=Rd.str rfl h
theorem K9.snoc{t:List bJ}{xs:List ak}(h:K9 t xs)(p x:Bs)(d:p.length<=9223372036854775807)(b:x.length<=9223372036854775807):K9 (t++[(p,x)]) (xs++[H6 p,H6 x]):=by
 unfold K9;rw[bF];refine e9.snoc h (λi hi=>?_) rfl rfl λq c a=>?_
 .simp[iv.fn,vm,ag,b7 hi]
 .have e:cF.fn (t++[(p,x)]) t.length=[.str p,.str x]:=by
   simp[iv.fn,vm,cF]
  rw[e] at a;rcases q with _|_|q
  .simp at a;subst a;exact⟨H6 p,rfl,λM=>La d⟩
  .simp at a;subst a;exact⟨H6 x,rfl,λM=>La b⟩
  .simp at a
theorem K9.N2{t:List bJ}{xs vs:List ak}(h:K9 t xs)(i:Nat)(hi:i<t.length)(x:Bs)(d:mV vs [.c (.str x)]):K9 (t.set i ((t.getD i cF.bU).1,x)) (xs.take (i*2+1)++vs++xs.drop (i*2+1+vs.length)):=by
 unfold K9;rw[mi];refine e9.fg h i 1 hi d (ba _) (λg f b=>?_) rfl λq c a=>?_
 .simp[iv.fn,vm,ag,iL b]
 .have e:cF.fn (t.set i ((t.getD i cF.bU).1,x)) i=[.str (t.getD i cF.bU).1,.str x]:=by
   simp[iv.fn,vm,cF,ag,hi]
  rw[e] at a;rcases q with _|_|q
  .right;simp at a;subst a;exact⟨by omega,rfl⟩
  .left;simp at a;subst a;exact⟨by omega,by simp,rfl⟩
  .simp at a
theorem N3:∀ j,j<1->([0,1]:List Nat)[j]?=aa j:=λj a=>by
 have:j=0:=by omega
 subst this;rfl
structure CI (k c:Nat) where
 t:List bJ
 bf:sJ
 xs:List ak
 k1:Nat
 fl:K9 t xs
 hl:t.length<=7
 h1:k<=k1
 h2:k1<=k+c
set_option maxRecDepth 20000 in
theorem N4(m:Nat)(b:Nat->Int)(i:Bytes b)(k:Nat)(U:k<=50000)(o:m<=1048576) :
  dZ (ι:=CI k 400) X 63 [.e (.one (.ptr 0 0))] [nC m b k] (λq=>.e (.one (.v (oH q.bf q.t.length)))) (λq=>[nC m b q.k1,bK q.bf q.t.length q.xs]):=by
 refine dZ.sC Tryz.func63 rfl rfl rfl λO=>?_
 refine bd [] 9 rfl ay ?_;refine AK.Mx 3 129 2 rfl λE=>?_
 refine bP rfl ay ?_;refine AK.cx (ek m b i k 6 (by omega) o (by omega)) [0] rfl rfl rfl rfl rfl rfl rfl (λ_=>rfl) rfl (λ_=>rfl) rfl ?_
 rintro⟨v,v0,v1⟩;refine bP rfl ay ?_;refine AK.cd 2 (λs:Nat×List bJ×sJ×List ak×Nat=>s.1<=5/\K9 s.2.1 s.2.2.2.1/\s.2.1.length<=6/\k<=s.2.2.2.2/\s.2.2.2.2+70*s.1<=k+351) (λs=>[(0,.e (.one (.ptr 0 0))),(4,dI s.1),(3,.e (.one (.v (oH s.2.2.1 s.2.1.length))))]) (λs=>[nC m b s.2.2.2.2,bK s.2.2.1 s.2.1.length s.2.2.2.1]) (λs=>s.1) (v.toNat,[],E,[],k+1) rfl ?_ rfl ?_ rfl ⟨by omega,e9.nil,by simp,by simp,by simp;omega⟩ ?_
 .simp[ai,ai.cat];omega
 .simp[ai,ai.cat,a9.same]
 rintro⟨n,t,bf,xs,k1⟩ ⟨L,a,F,J,K⟩;simp only at L a F J K
 by_cases R:0<n
 .refine bd [(11,ab)] 100 rfl (by simp[ai,R]) ?_
  refine AK.cx (FU m b i k1 (by omega) o) [0] rfl rfl rfl rfl rfl rfl rfl (λ_=>rfl) rfl (λ_=>rfl) rfl ?_
  rintro⟨p,S⟩;refine bP rfl ay ?_;refine AK.cx (N0 m b i (k1+1+1) (by omega) o) [0] rfl rfl rfl rfl rfl rfl rfl (λ_=>rfl) rfl (λ_=>rfl) rfl ?_
  rintro⟨⟨x,I⟩,P,B,y⟩;simp only at P B y;refine bP rfl ay ?_;refine AK.Il (CH t p x) 1 0 rfl rfl rfl rfl (iZ.EV rfl (cF.fn t) a.rd) rfl ?_ rfl (λ_=>rfl) (λ_=>rfl) rfl ?_
  .simp[ai,ai.cat,a9.same]
  rintro⟨⟨d,xs'⟩,f⟩;simp only at f ⊢;cases A:(fT t p x).2 with
  |true =>
   have r:=Hw A;generalize (fT t p x).1=t' at f r ⊢;refine bd [] 6 rfl ay ?_;refine AK.swap 1 2 (by decide) rfl rfl (λv N h=>h.1) (λv N h=>h.1) ?_
   refine bd [(23,ab)] 100 rfl ?_ (AK.bg (n-1,t',d,xs',I) rfl ?_ rfl rfl rfl ?_ rfl ?_ ?_)
   .simp[ai,bD];omega
   .simp[ai,ai.cat];omega
   .simp[ai,ai.cat,a9.same]
   .exact⟨by simp only;omega,f,r,by simp only;omega,by simp only;omega⟩
   .simp only;omega
  |false =>
   refine bd [(23,ae)] 100 rfl ?_ (AK.bg (n-1,t,bf,xs,I) rfl ?_ rfl rfl rfl ?_ rfl ?_ ?_)
   .simp[ai,bD];omega
   .simp[ai,ai.cat];omega
   .simp[ai,ai.cat,a9.same]
   .exact⟨by simp only;omega,a,F,by simp only;omega,by simp only;omega⟩
   .simp only;omega
 .obtain rfl:n=0:=by omega
  refine bd [(11,ae)] 100 rfl (by simp[ai]) (AK.leaveD rfl rfl ?_)
  refine bP rfl ay ?_;refine AK.cx (ek m b i k1 40 (by omega) o (by omega)) [0] rfl rfl rfl rfl rfl rfl rfl (λ_=>rfl) rfl (λ_=>rfl) rfl ?_
  rintro⟨u,T,V⟩
  by_cases G:u=0
  .refine bd [(27,ab)] 100 rfl (by simp[ai,G]) ?_
   refine AK.cx (FU m b i (k1+1) (by omega) o) [0] rfl rfl rfl rfl rfl rfl rfl (λ_=>rfl) rfl (λ_=>rfl) rfl ?_
   rintro⟨p,S⟩;refine bP rfl ay ?_;refine AK.De (l:=1) (bf:=bf) (xs:=xs) (n:=t.length) (xv:=[H6 p,H6 [97]]) (U2 rfl) rfl rfl rfl rfl rfl rfl rfl rfl (λM v j c D H=>?_) (by show _*32<=_;omega) λd=>?_
   .rcases j with _|_|j
    .cases D;have:=str_val H;exact⟨dc aa this.1.symm,this.2⟩
    .cases D;have:=str_val H;exact⟨dc aa this.1.symm,this.2⟩
    .cases D
   refine bP rfl ay (AK.nG ⟨t++[(p,[97])],d,xs++[H6 p,H6 [97]],k1+1+1+1,a.snoc p [97] (by omega) (by decide),by simp;omega,by omega,by omega⟩ (AK.eB [0,1] rfl ?_ ?_ rfl rfl ?_))
   .simp[ai]
   .simp;rfl
   .exact N3
  by_cases g:u=1
  .by_cases z:0<t.length
   .refine AK.Ox (iZ.len (l:=1) rfl) λC=>?_
    obtain⟨Q,cap,rfl⟩:=C.2.2.1 z;refine bd [(27,ae),(35,ab),(39,ab)] 100 rfl ?_ ?_
    .simp[ai,z,g];omega
    refine AK.Ir tok 1 rfl rfl rfl rfl rfl rfl rfl ?_ rfl rfl λvs Mv=>?_
    .have:=a.len;simp;omega
    have w:=a.N2 0 z [65] Mv;refine bP rfl ay (AK.nG ⟨t.set 0 ((t.getD 0 cF.bU).1,[65]),.row Q cap,_,k1+1,w,by simp;omega,by omega,by omega⟩ (AK.eB [0,1] rfl ?_ ?_ rfl rfl ?_))
    .simp[ai]
    .simp;rfl
    .exact N3
   .cases bf
    all_goals
     refine bd [(27,ae),(35,ab),(39,ae)] 100 rfl ?_ (AK.nG ⟨t,_,xs,k1+1,a,by omega,by omega,by omega⟩ (AK.eB [0,1] rfl ?_ rfl rfl rfl ?_))
     .simp[ai,z,g] <;> omega
     .simp[ai]
     .exact N3
  .refine bd [(27,ae),(35,ae)] 100 rfl (by simp[ai,G,g]) (AK.nG ⟨t,bf,xs,k1+1,a,by omega,by omega,by omega⟩ (AK.eB [0,1] rfl ?_ rfl rfl rfl ?_))
   .simp[ai]
   .exact N3
end Go.AM.R1
namespace Go.AM
open Go.Conc (G)
section
variable {P:an}{X:Cx P}{N:Nat}{ops:Array av}{φ:Fr}{σ:List aW}{x:Nat->D}{S:(Nat->Bool)->List aW}
def o4:List av->List (List Bool)->List (List Bool)
 |[],a=>a
 |o::r,a=>pZ (E5 a (b6 o.after.toList)) λc=>o4 r (a++[c])
 where pZ:List Bool->(List Bool->List (List Bool))->List (List Bool)
 |[],q=>q []
 |true::r,q=>pZ r λr=>q (ab::r)
 |false::r,q=>pZ r λr=>q (ae::r)
theorem oi:∀ (l:List Bool)(q:List Bool->List (List Bool)),o4.pZ l q=q l
 |[],q=>rfl
 |true::r,q=>by simp only[o4.pZ];rw[oi r]
 |false::r,q=>by simp only[o4.pZ];rw[oi r]
theorem Bo{all:List av}{D:Nat->Bool}(l:∀ (j:Nat)(o:av),all[j]?=aa o->D j=ab->∀ e∈b6 o.after.toList,D e=ab) :
  ∀ (r:List av) (a:List (List Bool)),(∀ k,r[k]?=all[a.length+k]?)->(∀ (j:Nat) (c:List Bool),a[j]?=aa c->∀ o,all[j]?=aa o->(∀ e∈b6 o.after.toList,D e=ab)->∀ q,bit c q=ab->D q=ab) ->
   ∀ (j:Nat) (c:List Bool),(o4 r a)[j]?=aa c->∀ o,all[j]?=aa o->(∀ e∈b6 o.after.toList,D e=ab)->∀ q,bit c q=ab->D q=ab
 |[],a,_,h=>h
 |o::r,a,t,h=>by
  simp only[o4];rw[oi];refine Bo l r _ (λk=>?_) ?_
  .have:=t (k+1);simp only[lK] at this;rw[this]
   congr 1
   simp;omega
  .intro j c f;have p:=t 0;simp only[kZ,gG] at p;rcases uU j a.length with n|rfl|y
   .rw[b7 n] at f;exact h j c f
   .rw[dg (ba _)] at f;simp at f;subst f;intro A i b q z;rw[<-p] at i;cases i;obtain⟨e,u,v⟩:=zG z;rcases v with rfl|⟨c2,g,m⟩
    .exact b _ u
    .have w:e<a.length:=(bt.1 g).1;cases d:all[e]? with
     |none =>
      have s:a.length<all.length:=(bt.1 p.symm).1;rw[uM] at d;omega
     |some oe=>exact h e c2 g oe d (l e oe d (b e u)) q m
   .rw[eU (by simp;omega)] at f
    cases f
def iu(all:List av)(i j:Nat):Bool:=match (o4 all [])[i]? with|some c=>bit c j|none=>ae
theorem vV{all:List av}{D:Nat->Bool}(a:∀ (j:Nat)(o:av),all[j]?=aa o->D j=ab->∀ e∈b6 o.after.toList,D e=ab):∀ (i:Nat) o,all[i]?=aa o->(∀ e∈b6 o.after.toList,D e=ab)->∀ j,iu all i j=ab->D j=ab:=by
 intro i o f d j b;unfold iu at b;split at b
 .rename_i c g
  exact Bo a all [] (by simp) (by simp) i c g o f d j b
 .cases b
theorem Fa{all:List av}{D:Nat->Bool}(c:∀ (j:Nat)(o:av),all[j]?=aa o->D j=ab->∀ e∈b6 o.after.toList,D e=ab){i:Nat}(h:D i=ae):∀ j,(j=i∨iu all j i=ab)->D j=ae:=by
 intro j f;rcases f with rfl|f
 .exact h
 .cases k:D j with
  |false=>rfl
  |true =>
   have a:∃ d,all[j]?=aa d:=by
    cases a:all[j]? with
    |some d=>exact⟨d,rfl⟩
    |none =>
     exfalso;have g:(o4 all []).length=all.length:=by
      have:∀ (r:List av) (b:List (List Bool)),(o4 r b).length=b.length+r.length:=by
       intro r
       induction r with
       |nil=>intro b;simp[o4]
       |cons o r l=>intro b;simp only[o4];rw[oi,l];simp;omega
      simpa using this all []
     unfold iu at f;rw[eU (by rw[g];exact uM.1 a)] at f
     cases f
   obtain⟨d,a⟩:=a;have:=vV c j d a (c j d a k) i f;rw[h] at this;cases this
def ez{P:an}(X:Cx P)(N:Nat)(all:List av)(φ:Fr)(x:Nat->D)(S:(Nat->Bool)->List aW)(i:Nat)(o:av):Prop :=
 ∀ D:Nat->Bool,(∀ j,iu all i j=ab->D j=ab)->(∀ j,(j=i∨iu all j i=ab)->D j=ae)->OA X N all o (nL all φ x i) (S D) (x i) (S (cY i D))
def IY{P:an}(X:Cx P)(N:Nat)(all:List av)(φ:Fr)(x:Nat->D)(S:(Nat->Bool)->List aW):List av->Nat->Prop
 |[],_=>True
 |o::r,i=>ez X N all φ x S i o/\IY X N all φ x S r (i+1)
theorem IY.get{all:List av}:∀ {l:List av}{k:Nat},IY X N all φ x S l k->∀ i o,l[i]?=aa o->ez X N all φ x S (k+i) o
 |[],_,_,i,o,h=>by simp at h
 |p::r,k,h,0,o,a=>by simp at a;subst a;exact h.1
 |p::r,k,h,i+1,o,a=>by
  have:=IY.get h.2 i o (by simpa using a)
  rwa [show k+(i+1)=k+1+i by omega]
theorem AK.flags{ops:Array av}{id:Nat}{K:List It}{Qf:Post}(j:P.follows Departure.mixedOrders=ab)(x:Nat->D)(S:(Nat->Bool)->List aW)(m:S (λ_=>ae)=σ)
  (a:nn ops.toList=ab) (b:tR ops.toList 0=ab) (c:o0 N ops.toList=ab) (one:IY X N ops.toList φ x S ops.toList 0)
  (k:∀ D,(∀ i,i<ops.toList.length->D i=ab)->AK X N Qf K .normal (MO ops.toList φ x) (S D)):AK X N Qf (.code (.region id ops ab)::K) .normal φ σ:=by
 have:=AW.reg (X:=X) (N:=N) (φ:=φ) (σ:=σ) j (all:=ops.toList) ops.toList.length (λ_:Unit=>x) (λ_=>S) (λ_ _=>True) () ay m a b c (ba _)
  (λi h1 h2=>absurd h2 (mq.2 h1)) (λg D _ _ i h1 h2=>absurd h2 (mq.2 h1))
  (λg D i o _ h _ f d e=>by
   have h1:=one.get i o h;rw[bm] at h1;exact(h1 D (vV e i o h d) (Fa e f)).EW ⟨(),λ_ _=>rfl,ay⟩ rfl rfl)
  (Q:=AK X N Qf K) (λg D _ l=>by
   rw[uW];exact .nil (k D l)) id
 rw[nT] at this;exact this
end
end Go.AM
namespace Go.AM.R1
open Go.Proofs
def Ea(a:List D)(res:D):dC:=λargs σ=>match σ with|[]=>aa (res,[],[args=a])|_=>af
theorem Kr{X:Cx ah}{f:aX}{a:List D}{res:D}(h:Ev X f a [] res []):eb X f (Ea a res):=by
 intro args σ r σ' obs he ho;unfold Ea at he;split at he
 .cases he;have:args=a:=ho;subst this;exact h
 .cases he
variable {X:Cx ah} [X.jN]
end Go.AM.R1
namespace Go.AM
theorem dZ.die{P:an}{ι:Type}{X:Cx P}{f:aX}{args:List D}{E k n:Nat}{b:Nat->List C}{w:BP}{es:ι->Nat->List C}{m:ι->Nat}(h:dZ X f args [.buf E k n b] (λ_=>.e (.one (.bp 0 w))) (λi=>[.buf E k (m i) (es i)])):Ev X f args [.buf E k n b] (.e (.one (.bp 0 w))) [.dead] :=
 ⟨h.1,λs vs hr hh S cs hS=>h.2 s vs hr hh S cs λi fr v s' hl oa lG st=>hS fr v s' hl (by
  obtain⟨lv,h1,_,_⟩:gB _ _ _ (.bp 0 w):=oa;exact(⟨lv,h1,by simp,λ_ _ _ _ hb=>by simp at hb⟩:gB [.dead] s' v (.bp 0 w))) lG.kD
  ⟨st.size,st.eH,st.mem,st.jq,st.tK,λl B L a c=>by
   obtain⟨B',L',h1,h2,d⟩:=st.box l B L a c;cases l with
   |zero=>simp at a;subst a;exact⟨.dead,L',rfl,h2,ay⟩
   |succ l=>simp at a,st.os,st.tape,st.output,st.own⟩⟩
namespace R1
open Go.Proofs
variable {X:Cx ah}
theorem Er(h:sq):Ev X 100 [X5 h] [] (dB (gz h)) []:=by
 refine Ev.body Tryz.func100 rfl rfl rfl λc=>?_
 have a:b5 X []:=.nil;unfold gz
 by_cases b:h.1=1
 .by_cases c3:1<=h.2
  .exact aE a [(6,ab),(11,ab),(16,ab)] 100 rfl (by simp[ai,b,c3]) (AK.br rfl (by simp[ai,b,c3]))
  .exact aE a [(6,ab),(11,ab),(16,ae)] 100 rfl (by simp[ai,b];omega) (AK.br rfl (by simp[ai,c3]))
 .by_cases c2:h.1=2
  .by_cases c3:1<=h.2
   .exact aE a [(6,ae),(11,ab),(16,ab)] 100 rfl (by simp[ai,c2,c3]) (AK.br rfl (by simp[ai,c2,c3]))
   .exact aE a [(6,ae),(11,ab),(16,ae)] 100 rfl (by simp[ai,c2];omega) (AK.br rfl (by simp[ai,c3]))
  .exact aE a [(6,ae),(11,ae),(16,ae)] 100 rfl (by simp[ai,b,c2]) (AK.br rfl (by
    have:¬(1<=h.1/\h.1<=2):=by omega
    simp only[ai,cJ this];simp))
theorem Hi(h:sq):Ev X 99 [X5 h] [] (dB (!gz h)) []:=by
 refine Ev.body Tryz.func99 rfl rfl rfl λb=>?_
 have a:b5 X [(100,k6 SF (λh=>dB (gz h)) λ_=>[])]:=.cons (.pf λh _=>Er h) .nil
 exact aE a [] 100 rfl ay (AK.br rfl (by simp[ai]))
theorem Hj(l:List sq):kT l=(decide (l.length<=9)&&!l.any λh=>!gz h):=by
 have:(bc l.length).all (λi=>gz (l.getD i (0,0)))=!l.any λh=>!gz h:=by
  rw[mj,bX,iS,uV]
  constructor
  .intro h x a;obtain⟨i,hi,rfl⟩:=lL.1 a;have:=h i hi;rw[ag,aR hi] at this;simpa using this
  .intro h i hi;have:=h _ (eK (d:=(0,0)) hi);simpa using this
 rw[kT,this,Bool.and_comm]
theorem Hk(l:List sq):Ev X 71 [cH.sl l] [] (dB (kT l)) []:=by
 refine Ev.body Tryz.func71 rfl rfl rfl λd=>?_
 have a:=KD (X:=X) l 99 (λh=>!gz h) λx _=>Hi x
 have b:b5 X [(52,Ea [cH.sl l,.e (.one (.c (.fn (.func 99) [] [])))] (dB (l.any λh=>!gz h)))]:=.cons (Kr a) .nil
 rw[Hj]
 by_cases h:l.length<=9
 .exact aE b [(6,ab)] 100 rfl ⟨rfl,b9 (by omega)⟩ (AK.br rfl (by simp[ai,h]))
 .exact aE b [(6,ae)] 100 rfl (by simp[ai];omega) (AK.br rfl (by simp[ai,cJ h]))
theorem NX:eb X 71 sr:=.pf λl _=>Hk l
theorem AD(p:bC)(f:p.2.length<=4000000):Ev X 111 [GB p] [] (cI.sl (p.2.map (·.1))) []:=by
 refine Ev.body Tryz.func111 rfl rfl rfl λd=>?_
 refine bd [(1000002,ab)] 100 rfl ay ?_;refine AK.iD 3 3 1 rfl rfl ?_;refine bP rfl ay ?_;refine AK.cd 2 (λi=>i<=p.2.length) (λi:Nat=>[(1,.e (.one (.ptr 0 0))),(3,.e (.one (.vec 1 1 i (cI.fn ((p.2.take i).map (·.1)))))),(7,eY.sl p.2),(8,dI p.2.length),(9,dI i)]) (λi=>[NR p,.vec 3 1 i (cI.fn ((p.2.take i).map (·.1)))]) (λi=>p.2.length-i) 0 rfl (by simp[ai.cat,ai,a9.same,a9.nil]) rfl (by simp[ai.cat,ai,a9.same,a9.nil]) rfl (by omega) ?_
 intro i hi
 by_cases h:i<p.2.length
 .have b:p.2.getD (i:Int).toNat eY.bU=fK p i:=by rw[bu];rfl
  have a:(p.2.take (i+1)).map (·.1)=(p.2.take i).map (·.1)++[(fK p i).1]:=by rw[bx h (0,[])];simp
  have c:((p.2.take i).map (·.1)).length=i:=by simp;omega
  have e:=cI.cu ((p.2.take i).map (·.1)) (fK p i).1;rw[c] at e;refine bd [(10,ab)] 100 rfl ?_ (AK.bg (i+1) rfl ?_ rfl rfl rfl ?_ rfl h (by omega))
  .simp only[ai,bD,show i3.bytes=8 from rfl];simp;omega
  .rw[a];simp only[ai.cat,ai,b,aG,aF];and_intros <;> first|exact a9.same|exact e|rfl|omega
  .rw[a];simp only[ai.cat,ai,b,aG,aF];and_intros <;> first|exact a9.same|exact e|rfl|omega
 obtain rfl:i=p.2.length:=by omega
 rw[cq];refine bd [(10,ae)] 100 rfl (by simp[ai]) (AK.leaveD rfl rfl ?_)
 exact bP rfl ay (AK.br rfl (by simp[ai,ai.cat,a9.same]))
abbrev Cu:dC:=k6 (JS eY) (λp=>cI.sl (p.2.map (·.1))) λp=>[p.2.length<=4000000]
theorem KV:eb X 111 Cu:=.pf λp h=>AD p h
theorem Hl(ps:List bC)(i:Nat):(b8 (ps.take i)).length<=(b8 ps).length:=by
 have:b8 ps=b8 (ps.take i)++b8 (ps.drop i):=by unfold b8;rw[<-nU,j8]
 rw[this,bF];omega
abbrev X7(l:List Int):D:=.e (.one (.bp 0 (.sl l.length 1 0 l.length)))
theorem Cv(ps:List bC)(m:∀ p∈ps,p.2.length<=4000000)(q:(b8 ps).length<=4000000):Ev X 95 [cP.sl ps] [] (X7 (b8 ps)) [Hm (b8 ps).length (b8 ps)]:=by
 refine Ev.body Tryz.func95 rfl rfl rfl λl=>?_
 have k:=l.sl 0 rfl;have c:b5 X [(111,Cu)]:=.cons KV .nil;refine aE c [(1000002,ab)] 100 rfl ay ?_;refine AK.T8 3 3 1 (cI.fn []) rfl ?_;refine aE c [] 100 rfl ay ?_;refine AK.cd 1 (λi=>i<=ps.length) (λi:Nat=>[(3,.e (.one (.bp 0 (.sl (b8 (ps.take i)).length 1 0 (b8 (ps.take i)).length)))),(6,cP.sl ps),(7,dI ps.length),(8,dI i)]) (λi=>[Hm (b8 (ps.take i)).length (b8 (ps.take i))]) (λi=>ps.length-i) 0 rfl (by simp[ai.cat,ai,a9.same,b8]) rfl (by simp[ai.cat,ai,a9,b8]) rfl (by omega) ?_
 intro i hi
 by_cases h:i<ps.length
 .have g:ps.getD (i:Int).toNat cP.bU=ps.getD i (0,[]):=by rw[bu];rfl
  have b:=wX h;have f:=Hl ps (i+1);have o:=m _ (eK (d:=(0,[])) h);generalize ps.getD i (0,[])=p at *;rw[b] at f;generalize b8 (ps.take i)=a at *;have e:=cI.KW a (p.2.map (·.1)) _ rfl;simp only[bF,iw] at f e;refine aE c [(9,ab)] 100 rfl ?_ (AK.bg (i+1) rfl ?_ rfl rfl rfl ?_ rfl h (by omega))
  .simp only[ai,g,bD,eY.list_fn,eY.aH,iw,show i3.bytes=8 from rfl];simp;omega
  .rw[b];simp only[ai.cat,ai,g,eY.list_fn,bF,iw,aG,aF];and_intros <;> first|exact a9.same|rfl|omega
  .rw[b];simp only[ai.cat,ai,g,eY.list_fn,bF,iw,aG,aF];and_intros <;> first|exact a9.same|exact e|rfl|omega
 obtain rfl:i=ps.length:=by omega
 rw[cq];refine aE c [(9,ae)] 100 rfl (by simp[ai]) (AK.leaveD rfl rfl ?_)
 refine aE c [] 100 rfl ay (AK.eB [0] rfl ?_ rfl rfl rfl (λj n=>absurd n (by simp)))
 simp[ai]
theorem Hn(ps:List bC)(b:∀ p∈ps,p.2.length<=4000000)(a:(b8 ps).length<=4000000):Ev X 95 [cP.sl ps] [] (cI.sl (b8 ps)) [] :=
 Ev.qz (σ1:=[]) (E:=3) (k:=1) (n:=(b8 ps).length) (es:=cI.fn (b8 ps)) (Cv ps b a) rfl (by simp[ai]) rfl (ba _)
end R1
section
variable {P:an}{X:Cx P}{N:Nat}{all:List av}{φ:Fr}{x:Nat->D}{k:Bool->Bool->Bool->List aW}{i g f b:Nat}{o:av}
abbrev B5(k:Bool->Bool->Bool->List aW)(g f b:Nat):(Nat->Bool)->List aW:=λD=>k (D g) (D f) (D b)
theorem lC{i j:Nat}{D:Nat->Bool}(h:aA j i=ae):cY i D j=D j:=by simp only[cY,h]
theorem Ar{i:Nat}{D:Nat->Bool}:cY i D i=ab:=by simp only[cY,jI]
theorem ez.q3(h1:aA g i=ae)(h2:aA f i=ae)(e:aA b i=ae)(h:∀ a c d,OA X N all o (nL all φ x i) (k a c d) (x i) (k a c d)):ez X N all φ x (B5 k g f b) i o:=by
 intro D _ _;show OA X N all o _ (k (D g) (D f) (D b)) _ (k (cY i D g) (cY i D f) (cY i D b));rw[lC h1,lC h2,lC e];exact h _ _ _
theorem ez.e1(hi:aA g i=ab)(h1:aA g i=ab)(h2:aA f i=ae)(j:aA b i=ae)(h:∀ c d,OA X N all o (nL all φ x i) (k ae c d) (x i) (k ab c d)):ez X N all φ x (B5 k g f b) i o:=by
 intro D _ a;have e:=bE hi;subst e;show OA X N all o _ (k (D g) (D f) (D b)) _ (k (cY g D g) (cY g D f) (cY g D b));rw[Ar,lC h2,lC j,a g (.inl rfl)];exact h _ _
theorem ez.e2(hi:aA f i=ab)(h1:aA g i=ae)(j:aA b i=ae)(hb:iu all b i=ab)(d:aA f i=ab)(h:∀ a,OA X N all o (nL all φ x i) (k a ae ae) (x i) (k a ab ae)):ez X N all φ x (B5 k g f b) i o:=by
 intro D _ c;have e:=bE hi;subst e;show OA X N all o _ (k (D g) (D f) (D b)) _ (k (cY f D g) (cY f D f) (cY f D b));rw[Ar,lC h1,lC j,c f (.inl rfl),c b (.inr hb)];exact h _
theorem ez.e3(hi:aA b i=ab)(h1:aA g i=ae)(h2:aA f i=ae)(hb:iu all i f=ab)(j:aA b i=ab)(h:∀ a,OA X N all o (nL all φ x i) (k a ab ae) (x i) (k a ab ab)):ez X N all φ x (B5 k g f b) i o:=by
 intro D d c;have e:=bE hi;subst e;show OA X N all o _ (k (D g) (D f) (D b)) _ (k (cY b D g) (cY b D f) (cY b D b));rw[Ar,lC h1,lC h2,c b (.inl rfl),d f hb];exact h _
end
namespace R1
open Go.Proofs
variable {X:Cx ah} [X.jN]
end R1
end Go.AM
namespace Go.AM.R1
open Go.Proofs
section
variable {X:Cx ah}
set_option maxRecDepth 20000 in
theorem Ry(m:Nat)(b:Nat->Int)(d:Bytes b)(k:Nat)(f:k<=4000000)(a:m<=1048576)(l:List Bs)(g:1<=l.length/\l.length<=1000) :
  Ev X 93 [.e (.one (.ptr 0 0)),cS.sl l] [nC m b k] (dS (l.getD (se m b k l.length).toNat [])) [nC m b (k+1)]:=by
 refine Ev.body Tryz.func93 rfl rfl rfl λc=>?_
 refine bP rfl ay ?_;refine AK.bM (B6 m b d k l.length f a (by omega)) [0] rfl rfl rfl rfl rfl rfl rfl rfl rfl rfl rfl ?_
 have h:=uc m b k l.length (by omega)
 refine bP rfl ?_ (AK.eB [0] rfl ?_ rfl rfl rfl wP)
 .simp[ai];omega
 .rfl
end
def FH(a:List D)(σ0:List aW)(res:D)(σ1:List aW):dC:=λargs σ=>aa (res,σ1,[args=a,σ=σ0])
theorem Ks{X:Cx ah}{f:aX}{a:List D}{σ0 σ1:List aW}{res:D}(h:Ev X f a σ0 res σ1):eb X f (FH a σ0 res σ1):=by
 intro args σ r σ' obs he ho;cases he;obtain⟨c,b⟩:args=a/\σ=σ0:=ho;subst c b;exact h
variable {X:Cx ah} [X.jN]
end Go.AM.R1
namespace Go.AM.R1
open Go.Proofs
variable {X:Cx ah}
theorem Et(s:bo):Ev X 67 [k7 s] [] (k7 s) []:=by
 refine Ev.kL Tryz.func67 rfl rfl rfl λa=>?_
 refine bP rfl (by simp[ai]) ?_
 refine AK.freeze 2 1 rfl rfl rfl ?_;exact AK.mX tok [] rfl (by simp[ai,ai.cat,a9.same]) rfl rfl rfl (λj b=>absurd b (by simp))
abbrev KX:dC:=k6 Np (λs=>k7 s) λ_=>[]
theorem RN:eb X 67 KX:=.pf λs _=>Et s
abbrev HW(s:bo):aW:=.cells 114 [.c (.sl ae 2 s.1.length (cP.fn s.1)),.c (.sl ae 2 s.2.1.length (dz.fn s.2.1)),.c (.sl ae 2 s.2.2.length (cH.fn s.2.2))]
structure Pc (s:bo):Prop extends NW s where
 pk:∀ p∈s.1,p.2.length<=4000000
 nm:(b8 s.1).length<=4000000
def yN(k:Int)(s:bo):Bool:=(bc s.1.length).all (l7 k s.1)&&decide (s.1.length<=20)&&decide (b8 s.1).Nodup
set_option maxHeartbeats 4000000 in
theorem Eu(k:Int)(s:bo)(w:cD k=ab)(c:Pc s):Ev X 69 [k7 s,dI k] [] (dB (yN k s)) []:=by
 refine Ev.body Tryz.func69 rfl rfl rfl λE=>?_
 have G:=c.pN;have z:=c.pk;have x:=Hn (X:=X) s.1 c.pk c.nm;have n:b5 X [(94,FB)]:=.cons Nq .nil;refine aE n [] 100 rfl ay ?_;unfold yN;refine AK.cd 1 (λi=>i<=s.1.length/\∀ j,j<i->l7 k s.1 j=ab) (λi:Nat=>[(1,dI k),(2,.e (.one (.ptr 0 0))),(9,cP.sl s.1),(10,dI s.1.length),(11,dI i)]) (λ_=>[HW s]) (λi=>s.1.length-i) 0 rfl (by simp[ai.cat,ai,a9.same]) rfl (by simp[ai.cat,ai,a9.same]) rfl ⟨by omega,by omega⟩ ?_
 rintro i ⟨hi,b⟩
 by_cases h:i<s.1.length
 .have v:s.1.getD i cP.bU=s.1.getD i (0,[]):=rfl;have r:s.1.getD (i-1) cP.bU=s.1.getD (i-1) (0,[]):=rfl;have a:l7 k s.1 i=(ju k (s.1.getD i (0,[]))&&Cn (·.1) (0,[]) s.1 i):=rfl;have g:=mL (f:=λp:bC=>p.1) (d:=(0,[])) (l:=s.1) (i:=i)
  have m:=z _ (eK (d:=(0,[])) h);generalize s.1.getD i (0,[])=p at *;generalize s.1.getD (i-1) (0,[])=p' at *;cases q:ju k p with
  |false =>
   rw[q,nY] at a;refine aE n [(12,ab),(20,ab),(35,ab)] 100 rfl ?_ (AK.eC (cn.zero rfl ?_))
   .simp[-ag,ai,v,w,m,q,eY.list_fn,eY.aH];omega
   .rw[dT h a];simp[ai]
  |true =>
   rw[q,dH] at a
   by_cases C:i=0
   .subst C;refine aE n [(12,ab),(20,ae),(23,ae),(35,ae)] 100 rfl ?_ (AK.bg 1 rfl (by simp[ai.cat,ai,a9.same]) rfl rfl rfl (by simp[ai.cat,ai,a9.same]) rfl ⟨h,fy b (by rw[a];rfl)⟩ (by omega))
    simp[-ag,ai,v,w,m,q,eY.list_fn,eY.aH,bD];omega
   have g:=g C
   by_cases B:p'.1<p.1
   .refine aE n [(12,ab),(20,ae),(23,ab),(33,ae),(35,ae)] 100 rfl ?_ (AK.bg (i+1) rfl (by simp[ai.cat,ai,a9.same]) rfl rfl rfl (by simp[ai.cat,ai,a9.same]) rfl ⟨h,fy b (by rw[a,g];exact b9 B)⟩ (by omega))
    simp[-ag,ai,v,r,w,m,q,eY.list_fn,eY.aH,bD];omega
   .refine aE n [(12,ab),(20,ae),(23,ab),(33,ab),(35,ab)] 100 rfl ?_ (AK.eC (cn.zero rfl ?_))
    .simp[-ag,ai,v,r,w,m,q,eY.list_fn,eY.aH,bD];omega
    .rw[dT h (by rw[a,g];exact cJ B)];simp[ai]
 obtain rfl:i=s.1.length:=by omega
 rw[bX.2 b,dH];refine aE n [(12,ae)] 100 rfl (by simp[ai]) (AK.leaveD rfl rfl ?_)
 refine aE n [] 100 rfl ay ?_;refine AK.bM (Cv s.1 c.pk c.nm) [] rfl rfl rfl rfl rfl rfl rfl rfl rfl rfl rfl ?_;refine aE n [] 100 rfl ay ?_;refine AK.bM (Cw (b8 s.1) c.nm) [1] rfl rfl rfl rfl rfl rfl rfl rfl rfl rfl rfl ?_;have A:=AE (b8 s.1);have t:=(w7 (X:=X) (mM (b8 s.1)) (by rw[gQ];exact c.nm)).die
 rw[gQ] at t;have y:=su (mM (b8 s.1));rw[gQ] at y;have D:=c.nm;generalize dW (mM (b8 s.1))=cs at *;generalize mM (b8 s.1)=so at *;have qa:b5 X [(97,FH [kG (b8 s.1).length] [Hm (b8 s.1).length so] (.e (.one (.bp 0 (.sl (b8 s.1).length 1 0 cs.length)))) [.dead]),(95,Ea [cP.sl s.1] (cI.sl (b8 s.1)))]:=.cons (Ks t) (.cons (Kr x) .nil);refine aE qa [(1000009,ab)] 100 rfl ay ?_
 by_cases u:s.1.length<=20
 rotate_left
 .refine aE qa [(46,ae)] 100 rfl ?_ (AK.br rfl ?_)
  .simp[ai];omega
  .simp[ai,u]
 have o:(s.1.length:Int)<=20:=by omega
 generalize F:b8 s.1=N at *;refine AK.HZ (ι:=Unit) eQ 6 (λi=>match bw i 5 with|true=>ab|false=>match aA i 8 with|true=>ab|false=>aA i 9) (λi=>[.e (.one (.ptr 0 0)),cP.sl s.1,dI s.1.length,dB (decide ((s.1.length:Int)<=20)),dB ab,.e (.one (.bp 1 (.sl N.length 1 0 N.length))),.any,.any,.e (.one (.ptr 0 0)),cP.sl s.1].getD i .any)
  (λ_ i=>[.any,.any,.any,.any,.any,.any,.e (.one (.bp 1 (.sl N.length 1 0 cs.length))),dI cs.length,.any,.any,cI.sl N,dI N.length,dB ((cs.length:Int)==N.length),dB ((cs.length:Int)==N.length),dB ((cs.length:Int)==N.length)].getD i .any) (λ_=>[HW s,.dead]) rfl rfl rfl rfl rfl rfl ?_ ?_ ?_ ?_
 .exact⟨.cK tok qa rfl,.cK tok qa rfl,.cK tok qa rfl,.cK tok qa rfl,.eval tok qa (ds:=[(46,ab)]) rfl (b9 o),.cK tok qa rfl,ay,ay,.cK tok qa rfl,.cK tok qa rfl,ay,ay,ay,ay,ay,ay⟩
 .intro _;exact⟨.cK tok qa rfl,.cK tok qa rfl,.cK tok qa rfl,.cK tok qa rfl,.eval tok qa (ds:=[(46,ab)]) rfl (b9 o),.cK tok qa rfl,ay,.cK tok qa rfl,.cK tok qa rfl,.cK tok qa rfl,.eval tok qa (ds:=[]) rfl rfl,.cK tok qa rfl,.cK tok qa rfl,.cK tok qa rfl,.cK tok qa rfl,ay⟩
 .exact .wi (hY tok qa (ds:=[]) (σ':=aa [HW s,.dead]) rfl ⟨rfl,rfl⟩)
 .intro _;refine aE qa [] 100 rfl ay (AK.br rfl ?_);have:((cs.length:Int)==N.length)=decide N.Nodup:=by
   rw[mj,fJ,decide_eq_true_iff,<-A];omega
  simp[ai,this,u]
end Go.AM.R1
namespace Go.AM.R1
structure lk (s:bo):Prop where
 a1:s.1.length<=20
 a2:∀ p∈s.1,(1<=p.1/\p.1<=99)/\p.2.length<=4
 a3:s.2.1.length<=21
 a4:∀ x∈s.2.1,(1<=x.1/\x.1<=20)/\x.2.length<=6/\∀ y∈x.2,y.2.length<=40
 a5:s.2.2.length<=9
 a6:∀ h∈s.2.2,1<=h.2/\h.2<=20
theorem kt{α a:Type}{f:α->List a}{n:Nat}:∀ {l:List α},(∀ x∈l,(f x).length<=n)->(l.flatMap f).length<=n*l.length
 |[],_=>by simp
 |x::l,h=>by
  have d:=h x me;have c:=kt (l:=l) λy b=>h y (j9 _ b)
  rw[pD,bF,db,Nat.mul_succ];omega
theorem ox{x:dA}(h:x.2.length<=6/\∀ y∈x.2,y.2.length<=40):(cp x.2).length<=240:=by
 have:=kt (f:=λy:gL=>y.2) (n:=40) h.2
 unfold cp;omega
theorem lk.X8{s:bo}(h:lk s):Pc s:=by
 have h1:=h.a1;have e:=h.a3;have f:(b8 s.1).length<=4*s.1.length:=kt λp a=>by rw[iw];exact(h.a2 p a).2
 have d:(jD s.2.1).length<=240*s.2.1.length:=kt λx b=>ox (h.a4 x b).2
 refine⟨⟨by omega,λx b=>?_,by omega,by omega⟩,λp a=>?_,by omega⟩
 .have:=(h.a4 x b).2;exact⟨by omega,λy c=>by have:=this.2 y c;omega⟩
 .have:=(h.a2 p a).2;omega
theorem lk.Pf{s:bo}(h:lk s):gU s:=by
 have h1:=h.X8;have a:=h.a5;exact⟨h1.pN,h1.pk,h1.sN,h1.sm,by omega⟩
theorem lk.RR{s:bo}(h:lk s):Rw s :=
 ⟨λx a=>by have:=(h.a2 x a).1;omega,λx a=>by have:=(h.a4 x a).1;omega,λx a=>by have:=h.a6 x a;omega⟩
theorem lk.fN{s:bo}(h:lk s):(fN s.1).length<=100000:=by
 have h1:=h.a1;have:(R1.fN s.1).length<=4*s.1.length:=kt λp a=>by rw[iw];exact(h.a2 p a).2
 omega
theorem AN{k:Int}{x:dA}{ps:List bC}(h:(cO k x ps).isSome=ab):x.2.length<=6/\∀ y∈x.2,y.2.length<=40:=by
 unfold cO at h;split at h
 .rename_i b
  simp only[bG] at b;obtain⟨⟨_,g⟩,e⟩:=b;refine⟨?_,λy f=>?_⟩
  .simp only[dt,bG,bh,c6,iw] at e;exact e.2
  .have a:=bq.1 g y f;unfold fileOf at a;split at a
   .cases a
   .rename_i l d
    split at a
    .cases a
    .rename_i t c
     have i:l.length=y.2.length:=by unfold ei at d;split at d <;> cases d;simp
     unfold gd at c;split at c
     .rename_i b
      simp only[bG,fJ,ef,bh] at b;have:=ov l.flatten;rw[b.2] at this;omega
     .cases c
 .cases h
theorem AL.X9{k:Int}{s:bo}(h:AL k s):lk s:=by
 have hl:s.2.1.length<=20:=by
  have:=AI 1 h.sa λx a=>(h.sn x a).1
  omega
 have b:=h.log;simp only[kT,bG,bh,bX] at b;refine⟨h.len,λp c=>⟨(h.pk p c).no,(h.pk p c).len.2⟩,by omega,λx a=>⟨(h.sn x a).1,AN (h.sn x a).2⟩,b.2,λq e=>?_⟩
 have:=(qg (p:=gz) (d:=(0,0))).1 b.1 q e;simp only[gz,bG,bh] at this;exact this.2
theorem K1{l:List (Int×Int)}(h:∀ x∈l,-4000000<=x.2/\x.2<=4000000):1<=pr l:=(sd l h).1
theorem K2{s:bo}(h:lk s):1<=fM s:=by
 have:=K1 h.RR.h;unfold fM;split <;> omega
theorem K3{s:bo}(h:lk s):1<=gf s:=by
 unfold gf;split
 .omega
 .rename_i a
  have:=(h.a2 _ (yQ a (0,[]))).1;omega
theorem lk.save{k:Int}{s:bo}{t:List bJ}{by_:Int}(h:lk s)(i:s.2.1.length<=20)(g:dt t=ab)(c:j5 k s t=ae):lk (lj k s by_ t):=by
 simp only[j5,Bool.or_eq_false_iff,bY] at c;obtain⟨n,r,m,p⟩:=c;have d:=K2 h;have o:=K3 h;have e:=ui.1 g;unfold lj;refine⟨by simp only[bF];omega,λx a=>?_,by simp only[bF,dw];omega,λx a=>?_,by simp only[bF,dw];omega,λx a=>?_⟩
 .rcases dr.1 a with a|a
  .exact h.a2 x a
  .obtain⟨b,q,a1,a2,a3,a4,a5,rfl⟩:=tA k _ _ _ (qS (k:=k) (l:=indexOf s.1) (pv g)).1 x a;have a2:b<gf s+(ub k s t).length:=a2;exact⟨⟨by show 1<=b;omega,by show b<=99;omega⟩,by rw[CC];exact a4⟩
 .rcases dr.1 a with a|a
  .exact h.a4 x a
  .rw[fV] at a;subst a;refine⟨⟨d,by show fM s<=20;omega⟩,by show (t.map _).length<=6;rw[iw];exact e.2.2.2,λy j=>?_⟩
   obtain⟨f,c,rfl⟩:=jK.1 j;have h1:=(e.1 f c).2;simp only[ef,bG,bh] at h1;have h2:=ov f.2;show ((pieces f.2).map _).length<=40;rw[iw];omega
 .rcases dr.1 a with a|a
  .exact h.a6 x a
  .rw[fV] at a;subst a;exact⟨d,by show fM s<=20;omega⟩
end Go.AM.R1
namespace Go.AM.R1
open Go.Proofs
variable {X:Cx ah}
theorem EF(s:bo)(a:gU s):Ev X 41 [k7 s] [] (k7 s) []:=by
 refine(fO s a.p a.p2 a.sn a.s2 a.h).forget rfl ?_ rfl;simp[ai.cat,ai,a9.same]
abbrev AT:dC:=k6 Np (λs=>k7 s) λs=>[gU s]
theorem FZ:eb X 41 AT:=.pf λs h=>EF s h
theorem xk(w:cU)(a:gU w.1)(f:w.2.1.length<=4000000)(g:w.2.2.length<=4000000):Ev X 66 [H5 w] [] (.e (.agg [qU cP w.1.1,qU dz w.1.2.1,qU cH w.1.2.2,qU cI w.2.1,.vec 0 1 w.2.2.length (cI.fn w.2.2)])) [.vec 3 1 w.2.2.length (cI.fn w.2.2)]:=by
 refine Ev.lY tok Tryz.func66 rfl rfl rfl λd=>?_
 have b:b5 X [(41,AT)]:=.cons FZ .nil;refine aE b [(2000009,ab)] 200 rfl ?_ ?_
 .simp only[ai,cP.list_fn,cP.aH,dz.list_fn,dz.aH,cH.list_fn,cH.aH,a,aG,aF,show i3.bytes=8 from rfl,gq];and_intros <;> omega
 refine AK.norm [Md w,.cells 30 [qU cP w.1.1,qU dz w.1.2.1,qU cH w.1.2.2,qU cI w.2.1,.vec 2 1 w.2.2.length (cI.fn w.2.2)],.vec 3 1 w.2.2.length (cI.fn w.2.2)] rfl ?_ ?_
 .simp[ai,ai.cat,a9.same,cP.list_fn,dz.list_fn,cH.list_fn,gx]
 refine AK.fC () [2] rfl rfl rfl rfl rfl rfl rfl rfl ?_ rfl rfl rfl rfl (λj c=>absurd c (by simp))
 simp[ai,ai.cat,a9.same]
theorem HC(w:cU)(a:gU w.1)(c:w.2.1.length<=4000000)(b:w.2.2.length<=4000000):Ev X 66 [H5 w] [] (H5 w) [] :=
 (xk w a c b).forget rfl (by simp[ai.cat,ai,a9.same]) rfl
abbrev vp:dC:=k6 (UA VV) (λw=>H5 w) λw=>[gU w.1,w.2.1.length<=4000000,w.2.2.length<=4000000]
theorem AU:eb X 66 vp:=.pf λw h=>HC w h.1 h.2.1 h.2.2
abbrev YN(p:bC)(a:List cM):List aW:=[NR p,.cells 55 [.c (.int .i64 0),gA],.cells 55 [.c (.int .i64 p.1),.vec 3 2 a.length (eY.fn a)],.vec 88 2 a.length (eY.fn a)]
theorem xl{α:Type}{l:List α}{q:α->Bool}{i:Nat}(h:i<l.length)(d:α):(l.take (i+1)).filter q=if q (l.getD i d)=ab then (l.take i).filter q++[l.getD i d] else (l.take i).filter q:=by
 rw[bx h d,List.filter_append,rm];split <;> simp
theorem filter_le{α:Type}(l:List α)(q:α->Bool){i:Nat}(h:i<=l.length):((l.take i).filter q).length<=i:=eG (mQ _ _) (by simp;omega)
theorem LA(p:bC)(ns:List Int)(g:p.2.length<=4000000):Ev X 89 [GB p,cI.sl ns] [] (GB (je p ns)) []:=by
 refine Ev.lY tok Tryz.func89 rfl rfl rfl λm=>?_
 have b:b5 X [(38,Ck)]:=.cons FO .nil;refine aE b [(1000002,ab)] 200 rfl ay ?_;refine AK.gV 2 1 88 2 (eY.fn []) rfl rfl ?_;refine aE b [] 100 rfl ay ?_;refine AK.cd 4 (λi=>i<=p.2.length) (λi:Nat=>[(1,cI.sl ns),(2,.e (.one (.ptr 0 0))),(4,.e (.one (.ptr 1 0))),(5,.e (.one (.ptr 2 0))),(6,dI i)])
  (λi=>YN p ((p.2.take i).filter λx=>ns.contains x.1)) (λi=>p.2.length-i) 0 rfl (by simp[ai.cat,ai,a9.same]) rfl (by simp[ai.cat,ai,a9.same,a9.nil]) rfl (by omega) ?_
 intro i hi;have k:=filter_le p.2 (λx=>ns.contains x.1) hi
 by_cases h:i<p.2.length
 .have f:p.2.getD i eY.bU=fK p i:=rfl;have c:(p.2.take (i+1)).filter (λx=>ns.contains x.1)=if ns.contains (fK p i).1=ab then (p.2.take i).filter (λx=>ns.contains x.1)++[fK p i] else (p.2.take i).filter (λx=>ns.contains x.1):=xl h (0,[])
  generalize (p.2.take i).filter (λx=>ns.contains x.1)=a at *
  generalize fK p i=x at *;cases d:ns.contains x.1 with
  |true =>
   rw[aU d] at c;have g:=eY.cu a x;refine aE b [(15,ab),(25,ab)] 200 rfl ?_ (AK.bg (i+1) rfl (by simp[ai.cat,ai,a9.same]) rfl rfl rfl ?_ rfl h (by omega))
   .simp[-ag,-List.contains_eq_mem,ai,f,h,d,cI.list_fn,cI.aH,bD,show i88.bytes=24 from rfl];omega
   .rw[c];simp only[ai.cat,ai,bu,f,bF,dw,aG,aF]
    and_intros <;> first|exact a9.same|exact g|rfl|omega
  |false =>
   rw[aO (by rw[d];simp)] at c
   refine aE b [(15,ab),(25,ae)] 200 rfl ?_ (AK.bg (i+1) rfl (by simp[ai.cat,ai,a9.same]) rfl rfl rfl ?_ rfl h (by omega))
   .simp[-ag,-List.contains_eq_mem,ai,f,h,d,cI.list_fn,cI.aH,bD];omega
   .rw[c];simp[ai.cat,ai,a9.same]
 obtain rfl:i=p.2.length:=by omega
 rw[cq];refine aE b [(15,ae)] 100 rfl (by simp[ai]) (AK.leaveD rfl rfl ?_)
 refine aE b [] 100 rfl ay ?_;refine AK.fC () [] rfl rfl rfl rfl rfl rfl rfl rfl ?_ rfl rfl rfl rfl (λj l=>absurd l (by simp))
 simp[ai,ai.cat,a9.same,je]
abbrev LB:dC:=qb (JS eY) (aL cI) (λp ns=>GB (je p ns)) λp _=>[p.2.length<=4000000]
theorem Si:eb X 89 LB:=.te λp ns h=>LA p ns h
abbrev SK(w:cU)(b:Bool):D:=.fW [.agg (UZ w),.one (.c (.bool b))]
abbrev Sj:List A:=[gA,gA,gA,gA,gA]
def stepT(no:Int)(ms:List Int)(ps:List bC)(i:Nat):List bC:=eX no ms (ps.take i)
theorem HD{no:Int}{ms:List Int}{ps:List bC}{i:Nat}(h:i<ps.length):stepT no ms ps (i+1)=if (iI no ms (ps.getD i (0,[]))).2.length=0 then stepT no ms ps i else stepT no ms ps i++[iI no ms (ps.getD i (0,[]))]:=by
 unfold stepT eX;rw[bx h (0,[]),mh,List.filter_append,List.map_singleton];generalize iI no ms (ps.getD i (0,[]))=q;cases a:q.2 <;> simp[a,rm]
theorem HE(no:Int)(ms:List Int)(ps:List bC){i:Nat}(h:i<=ps.length):(stepT no ms ps i).length<=i:=by
 unfold stepT eX;exact eG (mQ _ _) (by simp;omega)
set_option maxHeartbeats 4000000 in
theorem EG(w:cU)(b:gU w.1)(e:w.2.1.length<=4000000)(a:w.2.2=[]):Ev X 62 [H5 w] [] (SK w ae) []:=by
 refine Ev.kL Tryz.func62 rfl rfl rfl λd=>?_
 have c:b5 X [(66,vp)]:=.cons AU .nil;refine aE c [(13,ab)] 200 rfl ?_ ?_
 .simp only[ai,cP.list_fn,cP.aH,dz.list_fn,dz.aH,cH.list_fn,cH.aH,cI.list_fn,cI.aH,b,a,aG,aF];simp;omega
 refine AK.freeze 2 1 rfl rfl rfl ?_;refine AK.mX tok [] rfl ?_ rfl rfl rfl l3;simp[ai.cat,ai,a9.same,cP.list_fn,dz.list_fn,cH.list_fn,cI.list_fn]
abbrev YW(st:bo)(ms:List Int)(l:List Int)(a:List bC):List aW:=[Md (st,ms,l),.cells 30 Sj,Md (st,ms,l),.vec 55 2 a.length (cP.fn a)]
theorem _root_.Go.AM.iv.Oq{α:Type}(c:iv α)(x:α)(l:List α){n:Nat}(h:n=l.length):a9 n (jb 1 (c.fn (x::l))) (c.fn l):=by
 intro i hi;simp only[jb,iv.fn,vm,ag,kC 1 i,lK]
set_option maxHeartbeats 4000000 in
theorem EJ(st:bo)(ms lf:List Int) (no:Int)(r:List Int)(c:lf=no::r)(s:gU st)(w:ms.length<=4000000)(x:lf.length<=4000000):Ev X 62 [H5 (st,ms,lf)] [] (SK ((eX no ms st.1,st.2),ms,r) ab) []:=by
 refine Ev.kL Tryz.func62 rfl rfl rfl λA=>?_
 have g:b5 X [(66,vp),(89,LB)]:=.cons AU (.cons Si .nil);have u:0<lf.length:=by rw[c];simp
 refine aE g [(13,ae),(1000005,ab)] 200 rfl ?_ ?_
 .simp only[ai,cP.list_fn,cP.aH,dz.list_fn,dz.aH,cH.list_fn,cH.aH,cI.list_fn,cI.aH,s,w,x,aG,aF,dx,cW];omega
 refine AK.iD 5 55 2 rfl rfl ?_;refine aE g [] 200 rfl ay ?_;have v:=s.p;refine AK.cd 4 (λi=>i<=st.1.length) (λi:Nat=>[(1,.e (.one (.ptr 0 0))),(2,.e (.one (.ptr 1 0))),(4,.e (.one (.ptr 2 0))),(5,.e (.one (.vec 3 2 (stepT no ms st.1 i).length (cP.fn (stepT no ms st.1 i))))),(6,dI i)])
  (λi=>YW st ms lf (stepT no ms st.1 i)) (λi=>st.1.length-i) 0 rfl ?_ rfl ?_ rfl (by omega) ?_
 .simp[ai.cat,ai,a9.same,a9.nil,stepT,eX]
 .simp[ai.cat,ai,a9.same,a9.nil,stepT,eX,cP.list_fn,dz.list_fn,cH.list_fn,cI.list_fn]
 intro i hi
 by_cases h:i<st.1.length
 .have f:st.1.getD i cP.bU=st.1.getD i (0,[]):=rfl;have n:=s.p2 _ (jB h (0,[]));have b:=HD (no:=no) (ms:=ms) h;have z:=HE no ms st.1 hi;have o:lf.getD (Int.toNat 0) cI.bU=no:=by rw[c];rfl
  generalize stepT no ms st.1 i=a at *;generalize st.1.getD i (0,[])=p at *
  by_cases k:p.1=no
  .have j:iI no ms p=je p ms:=by unfold iI;rw[aU k]
   rw[j] at b;have l:=cP.cu a (je p ms);have y:(je p ms).2.length<=p.2.length:=mQ _ _;have d:(p.1,p.2)=p:=rfl
   by_cases m:(je p ms).2.length=0
   .rw[aU m] at b;refine aE g [(21,ab),(36,ab),(44,ae)] 200 rfl ?_ (AK.bg (i+1) rfl ?_ rfl rfl rfl ?_ rfl h (by omega))
    .simp only[ai,bu,f,o,d,n,eY.list_fn,eY.aH,cI.list_fn,cI.aH,bD,bh,bY,fJ,aG,aF]
     and_intros <;> first|exact k|omega
    .rw[b];simp[ai.cat,ai,a9.same]
    .rw[b];simp[ai.cat,ai,a9.same]
   .rw[aO m] at b;refine aE g [(21,ab),(36,ab),(44,ab)] 200 rfl ?_ (AK.bg (i+1) rfl ?_ rfl rfl rfl ?_ rfl h (by omega))
    .simp only[ai,bu,f,o,d,n,eY.list_fn,eY.aH,cI.list_fn,cI.aH,bD,show i55.bytes=32 from rfl,bh,bY,fJ,aG,aF]
     and_intros <;> first|exact k|omega
    .rw[b];simp only[ai.cat,ai,bu,f,d,eY.list_fn,cI.list_fn,bF,dw,aG,aF]
     and_intros <;> first|exact a9.same|exact l|rfl|omega
    .rw[b];simp only[ai.cat,ai,bu,f,d,eY.list_fn,cI.list_fn,bF,dw,aG,aF]
     and_intros <;> first|exact a9.same|exact l|rfl|omega
  .have j:iI no ms p=p:=by unfold iI;rw[aO k]
   rw[j] at b;have l:=cP.cu a p
   by_cases m:p.2.length=0
   .rw[aU m] at b;refine aE g [(21,ab),(36,ae),(44,ae)] 200 rfl ?_ (AK.bg (i+1) rfl ?_ rfl rfl rfl ?_ rfl h (by omega))
    .simp only[ai,bu,f,o,bD,bh,bY,dx,cW,aG,aF]
     and_intros <;> first|exact k|omega
    .rw[b];simp[ai.cat,ai,a9.same]
    .rw[b];simp[ai.cat,ai,a9.same]
   .rw[aO m] at b;refine aE g [(21,ab),(36,ae),(44,ab)] 200 rfl ?_ (AK.bg (i+1) rfl ?_ rfl rfl rfl ?_ rfl h (by omega))
    .simp only[ai,bu,f,o,bD,show i55.bytes=32 from rfl,bh,bY,dx,cW,aG,aF]
     and_intros <;> first|exact k|omega
    .rw[b];simp only[ai.cat,ai,bu,f,bF,dw,aG,aF]
     and_intros <;> first|exact a9.same|exact l|rfl|omega
    .rw[b];simp only[ai.cat,ai,bu,f,bF,dw,aG,aF]
     and_intros <;> first|exact a9.same|exact l|rfl|omega
 obtain rfl:i=st.1.length:=by omega
 have q:stepT no ms st.1 st.1.length=eX no ms st.1:=by unfold stepT;rw[cq]
 rw[q];refine aE g [(21,ae)] 200 rfl (by simp[ai]) (AK.leaveD rfl rfl ?_)
 refine aE g [] 200 rfl ?_ ?_
 .simp only[ai,cE,iU,aG,aF];omega
 refine AK.freeze 2 1 rfl rfl rfl ?_;refine AK.mX tok [] rfl ?_ rfl rfl rfl l3;have t:=cI.Oq no r rfl;rw[<-c] at t;simp only[ai.cat,ai,cE,aG,aF]
 and_intros <;> first|exact a9.same|exact t|(rw[c];simp;done)|(intro i hi;refine t i ?_;rw[c] at hi;simpa using hi)|rfl
def Vi(w:cU):Bool:=!w.2.2.isEmpty
theorem HG(w:cU)(a:gU w.1)(b:w.2.1.length<=4000000)(c:w.2.2.length<=4000000):Ev X 62 [H5 w] [] (SK (xd w) (Vi w)) []:=by
 obtain⟨st,ms,d⟩:=w;cases d with
 |nil=>exact EG (st,ms,[]) a b rfl
 |cons no r=>exact EJ st ms (no::r) no r rfl a b c
def yL(m:Int×Int):Bool:=decide (0<=m.1/\m.1<=9)&&decide (0<=m.2)
abbrev xL(w:fA)(i:Nat):Int×Int:=w.2.2.2.1.getD i (0,0)
abbrev tz(w:fA)(i:Nat):Int:=w.2.2.2.2.getD i 0
def qB(w:fA)(i:Nat):Bool:=yL (xL w i)&&decide (0<=tz w i/\tz w i<=2)
def fe(w:fA):Bool:=decide (w.2.2.2.1.length=2)&&decide (w.2.2.2.2.length=2)&&(bc 2).all (qB w)&&fR w.1 w.2.1
theorem KU(m:Int×Int):Ev X 17 [SF.enc m] [] (dB (yL m)) []:=by
 refine Ev.body Tryz.func17 rfl rfl rfl λb=>?_
 have a:b5 X [(18,pn)]:=.cons qp .nil
 by_cases c:0<=m.1/\m.1<=9
 .exact aE a [(6,ab)] 100 rfl (by simp[ai,c]) (AK.br rfl (by simp[ai,yL,c]))
 .exact aE a [(6,ae)] 100 rfl (by simp[ai];omega) (AK.br rfl (by simp only[ai,yL,cJ c];simp))
theorem Ct(w:fA)(n:NW w.2.1.1):Ev X 7 [VX w] [] (dB (fe w)) []:=by
 refine Ev.body Tryz.func7 rfl rfl rfl λo=>?_
 have b:b5 X [(17,k6 SF (λm=>dB (yL m)) λ_=>[]),(18,pn),(19,tw)]:=.cons (.pf λm _=>KU m) (.cons qp (.cons yK .nil))
 unfold fe
 by_cases l:w.2.2.2.1.length=2
 rotate_left
 .exact aE b [(8,ab),(13,ab)] 100 rfl (by simp[ai];omega) (AK.br rfl (by simp[ai,cJ l]))
 by_cases g:w.2.2.2.2.length=2
 rotate_left
 .exact aE b [(8,ae),(13,ab)] 100 rfl (by simp[ai];omega) (AK.br rfl (by simp[ai,cJ g]))
 refine aE b [(8,ae),(13,ae)] 100 rfl (by simp[ai];omega) ?_
 rw[b9 l,b9 g,dH,dH];refine AK.cd 1 (λi=>i<=2/\∀ j,j<i->qB w j=ab) (λi:Nat=>[(1,.e (.one (.ptr 0 0))),(3,dI i)]) (λ_=>[.cells 35 (VW w)]) (λi=>2-i) 0 rfl (by simp[ai.cat,ai]) rfl (by simp[ai.cat,ai,a9.same]) rfl ⟨by omega,by omega⟩ ?_
 rintro i ⟨hi,a⟩
 by_cases h:i<2
 .have f:w.2.2.2.1.getD i cH.bU=xL w i:=rfl;have c:w.2.2.2.2.getD i cI.bU=tz w i:=rfl;cases d:yL (xL w i) with
  |false =>
   refine aE b [(15,ab),(25,ab),(33,ab)] 100 rfl ?_ (AK.eC (cn.zero rfl ?_))
   .simp[-ag,ai,f,d];omega
   .rw[dT h (by rw[qB,d];rfl)];simp[ai]
  |true =>
   by_cases k:0<=tz w i/\tz w i<=2
   .refine aE b [(15,ab),(25,ae),(33,ae)] 100 rfl ?_ (AK.bg (i+1) rfl (by simp[ai.cat,ai]) rfl rfl rfl (by simp[ai.cat,ai,a9.same]) rfl ⟨h,fy a (by rw[qB,d,b9 k];rfl)⟩ (by omega))
    simp[-ag,ai,f,c,d,bD];omega
   .refine aE b [(15,ab),(25,ae),(33,ab)] 100 rfl ?_ (AK.eC (cn.zero rfl ?_))
    .simp[-ag,ai,f,c,d];omega
    .rw[dT h (by rw[qB,cJ k,mn])];simp[ai]
 obtain rfl:i=2:=by omega
 rw[bX.2 a,dH];refine aE b [(15,ae)] 100 rfl (by simp[ai]) (AK.leaveD rfl rfl ?_)
 refine aE b [] 100 rfl ?_ (AK.br rfl ?_)
 .simp[ai.cat,ai,cP.list_fn,cP.aH,dz.list_fn,dz.aH,cH.list_fn,cH.aH,cI.list_fn,cI.aH,n]
 .simp[ai,cP.list_fn,dz.list_fn,cH.list_fn,cI.list_fn]
abbrev yM:dC:=k6 (UA Z5) (λw=>dB (fe w)) λw=>[NW w.2.1.1]
theorem Hh:eb X 7 yM:=.pf λw h=>Ct w h
end Go.AM.R1
namespace Go.AM
open Go.Conc (G)
section
variable {P:an}{X:Cx P}{N:Nat}{Qf:Post}{K:List It}{φ:Fr}{σ:List aW}{all rest:List av}{o:av}
def Bv(P:an)(N:Nat)(o:av)(φ:Fr)(σ:List aW){ι:Type}(x:ι->D)(σ':ι->List aW):Prop :=
 ∀ s a,cw N σ s φ a->aJ σ s->∃ i b s' v,(aw a.eval o).run P s.w=.ok b s'.w/\(b=.value v∨(b=.skip/\v=aj))/\dh (σ' i) s' v (x i)/\aJ (σ' i) s'/\Step σ s (σ' i) s'/\ft s ((aw a.eval o).events P s.w #[])
theorem tQ.Qi{ι:Type}{x:ι->D}{σ':ι->List aW}(m:o.guard=af)(h:Bv P N o φ σ x σ'):tQ X N all o φ σ x σ':=by
 intro s a f hh b k cs S i rest hb hi hK;refine zO hb hi (dJ m) λq c=>?_
 have d:=hh.rely c;obtain⟨j,n,s',v,h1,h2,l,e,g,p⟩:=h q a (f.rely c hh) d;exact⟨n,s',v,h1,h2,⟨⟨σ,σ' j,d,e,g⟩,p⟩,hK j v s' l e (c.stepW.trans (g.oA d))⟩
theorem tQ.cx{ι:Type}{u:aq}{xs:Array aq}{F:Array ar}{f:aX}{cap:List C}{d:List D}{k:List aW}{σ1:ι->List aW}{res:ι->D}(t:dZ X f d k res σ1)(ks:List Nat)
  (x:o.guard=af) (H:o.op=.call { callee:=.value u,args:=xs,argTypes:=F }) (v:gu (cj φ u)=aa (f,cap)) (l:qv (xs.toList.map (cj φ)++iz cap)=jP ks d) (z:qm ks.length d=ab)
  (A:kW ks σ=aa k) (I:du k=ab) (E:∀ j,du (σ1 j)=ab) (hn:eh ks=ab) (y:∀ j,bw ks.length (σ1 j).length=ab) :
  tQ X N all o φ σ (λj=>jQ (ks++oc σ.length ((σ1 j).length-ks.length)) (res j)) (λj=>en ks (σ1 j) σ):=by
 intro s a n hh b kk cs S i rest hb hi hK;have q:=eP n u;unfold gu at v;split at v
 case h_2=>cases v
 case h_1 f' Mk he =>
  cases v;rw[he] at q;have h:=ga q;generalize G:a.eval u=fv at h;cases h with
  |fn fs m8 hl zk f1 f2 h1 h2 r1 r2 =>
   have B:fs=[]:=gh hl;subst B;have m:cG σ s m8 (iz cap):=na (λj c hj=>⟨f2 j,h2 j (by rw[zk];exact(bt.1 hj).1),r2 j c hj⟩) zk
   have p:cG σ s (xs.toList.map a.eval++m8) (jP ks d):=by
    rw[<-l];exact rM ((pU (eP n) xs.toList).append m)
   obtain⟨fn,r,g,e⟩:=t.1;exact sM hb hi (dJ x) hh (λw=>(jz H r g e G w).1) (λw=>(jz H r g e G w).2) t p z A I E hn (λj=>dn (y j)) hK
set_option maxHeartbeats 1000000 in
theorem Bv.fresh{x y:aq}{E:ar}{F:TI}(h:mr P o x y E F){k0 k m:Nat}{tx:Bool}{es es':Nat->List C}(R:F.size=k)(hx:cj φ x=.e (.one (.c (.sl ab k0 0 es))))(hy:cj φ y=.e (.one (.c (.sl tx k m es'))))(O:0<m)
  (hb:m*F.bytes<=140737488355328) (V:∀ i,i<m->∀ c∈es' i,vv c=ab) :
  Bv P N o φ σ (ι:={ q:sJ×List ak // e9 k m es' q.2 }) (λq=>.e (.one (.v (oH q.1.1 m)))) (λq=>σ++[.dM (iZ E k q.1.1 m q.1.2)]):=by
 intro s ρ hf hh;obtain⟨t,t2,i,i2,ho,hi,hd,G,I⟩:=h.op;have h1:=eP hf x;rw[hx] at h1;have n:=Rd.u6 (k:=k0) (k':=F.size) (.inr rfl) (ga h1);have h2:=eP hf y;rw[hy] at h2;have h2:=ga h2;obtain⟨a,cap,vs,hv,Df,HQ,ht,hF,MU⟩:=n.flat;have Y:cap=0:=ht rfl;subst Y;rw[hv] at n;have J:Rd s.M (ρ.eval y) (.sl tx F.size m es'):=by rw[R];exact h2
 obtain⟨d,T,g,f,D,W,r,z⟩:=iy (P:=P) (ty:=o.type) hi hd G I h.elem hh n J (by omega) (by rw[bm];exact hb) h.bytes
 have H8:=iW (P:=P) (ty:=o.type) hi hd G I h.elem hh n J (by omega) (by rw[bm];exact hb) h.bytes
 have e0:cX 0 es es'=es':=by funext i;simp[cX]
 rw[R,bm,e0] at f;rw[R] at r;rw[bm] at D z;have H:e9 k m es' d:=⟨f.len,f.width,λi hi j c hj=>by
  obtain⟨u,Q,S⟩:=f.rd i hi j c hj;exact⟨u,Q,λM=>rJ (V i hi c (bz hj)) S⟩⟩
 have A:∀ x∈d,c8 x=ab:=λx hx=>by
  obtain⟨p,hp,rfl⟩:=dN hx;have hk:0<k:=by have:=h.size;omega
  have U:=f.len;have hi:p / k<m:=pB (by rw[jH,<-U];exact hp)
  have Z:p / k*k+p % k=p:=pE p k;have hj:p % k<(es' (p / k)).length:=by rw[f.width _ hi];exact ik _ hk
  obtain⟨u,Q,S⟩:=H.at' _ hi _ _ (aR hj);rw[Z,aR hp] at Q;cases Q;exact(S s.M).cell
 let w':az:=s.w.drew.alloc (.cells (d++T).toArray E)
 have hB:eZ (σ++[.dM (iZ E k (.row s.w.heap.size g) m d)]) { s with w:=w',β:=s.β++[⟨.nilFunc,[s.w.heap.size]⟩] } (.dM (iZ E k (.row s.w.heap.size g) m d)) ⟨.nilFunc,[s.w.heap.size]⟩:=by
  refine⟨λB=>if B=s.w.heap.size then aa (.cells (d++T).toArray E (0,0)) else af,⟨rfl,A,f.len,D,W,T,r,rfl⟩,λB o l=>?_,λB=>?_,λB l o=>?_⟩
  .by_cases e:B=s.w.heap.size
   .subst e;simp only[bO] at l;cases l;exact dE s.w.drew _
   .simp[e] at l
  .by_cases e:B=s.w.heap.size <;> simp[e]
  .simp at l;subst l;cases O:s.M s.w.heap.size o with
   |none=>rfl
   |some v=>have:=hh.block O;omega
 have HR:w'.heap.size=s.w.heap.size+1:=by show (s.w.drew.heap.push _).size=_;simp
 have L:aJ σ { s with w:=w' }/\Step σ s σ { s with w:=w' } :=
  hh.grow (by omega) (λb hb=>cN s.w.drew _ hb) (λb hb o=>rfl) (λb hb o v O=>by
   have:=hh.block O;omega) rfl rfl rfl
 obtain⟨g1,g2⟩:=L.1.ix L.2 rfl hh hB (λb hb=>by
   simp at hb;subst hb;exact⟨ba _,by show _<w'.heap.size;omega⟩)
 refine⟨⟨(.row s.w.heap.size g,d),H⟩,.value (.slice (aa ⟨s.w.heap.size,0,af⟩) m g),_,_,?_,.inl rfl,Rd.val rfl,g1,g2,?_⟩
 .rw[c9 ho,hv];simp[z];rfl
 .rw[c9 ho,hv];exact eD H8
theorem AK.fresh{x y:aq}{E:ar}{a:TI}(h:mr P o x y E a){g k m:Nat}{tx:Bool}{es es':Nat->List C}(f:a.size=k)(p:cj φ x=.e (.one (.c (.sl ab g 0 es))))(j:cj φ y=.e (.one (.c (.sl tx k m es'))))(d:0<m)
  (hb:m*a.bytes<=140737488355328) (b:∀ i,i<m->∀ c∈es' i,vv c=ab) (l:o.guard=af) (n:iP N o.dst=ab)
  (kk:∀ q:{ q:sJ×List ak // e9 k m es' q.2 },AK X N Qf (.ops all rest::K) .normal (m9 o.dst (.e (.one (.v (oH q.1.1 m)))) φ) (σ++[.dM (iZ E k q.1.1 m q.1.2)])):AK X N Qf (.ops all (o::rest)::K) .normal φ σ :=
 AK.hand _ _ l n (Bv.fresh h f p j d hb b) kk
theorem AK.spare(E:ar)(k:Nat){c:Code}(kk:AK X N Qf (.code c::K) .normal φ (σ++[.dM (iZ E k (.nil af) 0 [])])):AK X N Qf (.code c::K) .normal φ σ:=by
 refine AK.ghost (λs a b hh=>?_) kk
 obtain⟨d,g2⟩:=hh.ix (B:=.dM (iZ E k (.nil af) 0 [])) (L:=⟨.nilFunc,[]⟩) (.refl _ _) rfl hh ⟨λ_=>af,⟨rfl,by simp,by simp,rfl,rfl⟩,by simp,by simp,by simp⟩ (by simp)
 exact⟨{ s with β:=s.β++[⟨.nilFunc,[]⟩] },rfl,⟨b.size,b.defers.imp λ_ h1=>h1.mono g2.ext,λu=>(b.slot u).mono g2.ext hh.len⟩,d,g2⟩
end
def OP(u:ak)(k m:Nat)(es:Nat->List C)(c a:C):Prop:=a=c∨(c=.val u/\a=.sl ae k m es)
theorem aJ.Dy{σ1 σ2:List aW}{s:St}{E:ar}{k n:Nat}{bf:sJ}{xs:List ak}{es:Nat->List C}(hh:aJ (σ1++[.dM (iZ E k bf n xs)]) s)(H:e9 k n es xs){p:Nat}{E0:ar}{B q:Nat}{m f:Nat->List C}(I:σ1[p]?=aa (.buf E0 B q m))
  (J:σ2=σ1.set p (.buf E0 B q f)) (S:sQ σ2.length σ2=ab) (hw:∀ i,i<q->(f i).length=(m i).length) (hc:∀ i,i<q->∀ (j:Nat) (O:C),(f i)[j]?=aa O->∃ c,(m i)[j]?=aa c/\OP (oH bf n) k n es c O) :
  ∃ s2:St,aJ σ2 s2/\eW s s2/\(∀ v d,dh (σ1++[.dM (iZ E k bf n xs)]) s v d->uy σ2.length d=ab->dh σ2 s2 v d)/\∀ {σ0:List aW} {s0:St},cC σ0 s0 (σ1++[.dM (iZ E k bf n xs)]) s->σ0.length<=σ2.length->cC σ0 s0 σ2 s2:=by
 have g:p<σ1.length:=(bt.1 I).1;have hB:(σ1++[aW.dM (iZ E k bf n xs)])[σ1.length]?=aa (.dM (iZ E k bf n xs)):=by simp
 obtain⟨L,M',hL,m1,m2,W,m0,m4⟩:=iZ.EV hB es (λi hi=>⟨H.wid i hi,λM j c x hj hx=>by
  obtain⟨y,y1,y2⟩:=H.at' i hi j c hj;rw[hx] at y1;cases y1;exact y2 M⟩) s hh
 obtain⟨G,q2⟩:=hh.iT (M':=M') (w':=s.w) (B':=.dead) (L':=⟨L.v,[]⟩) hB hL rfl (ba _) (λ_ _ _=>rfl) (λb _ hb o=>m2 b hb o) m1 W (by simp) rfl rfl rfl ay
 have D:(σ1++[aW.dM (iZ E k bf n xs)]).set σ1.length .dead=σ1++[.dead]:=by simp
 rw[D] at G q2;have F:(σ1++[aW.dead])[p]?=aa (.buf E0 B q m):=by rw[b7 g];exact I
 have A:=G.len;have a:=aR (l:=s.β.set σ1.length ⟨L.v,[]⟩) (i:=p) (by
  have:(s.β.set σ1.length ⟨L.v,[]⟩).length=(σ1++[aW.dead]).length:=A;simp at this ⊢;omega)
 generalize (s.β.set σ1.length ⟨L.v,[]⟩)[p]'_=L0 at a;have Z:=G.box p _ L0 F a;have z:iN (.buf E0 B q m) L0 (.buf E0 B q f) L0:=⟨λ_=>rfl,ba _⟩
 have t:(s.β.set σ1.length ⟨L.v,[]⟩).set p L0=s.β.set σ1.length ⟨L.v,[]⟩:=by
  apply jk
  intro i
  by_cases e:p=i
  .subst e;rw[cf (by have:=(bt.1 a).1;exact this),a]
  .rw[cQ e]
 obtain⟨r1,r2⟩:=G.iT (M':=M') (w':=s.w) (B':=.buf E0 B q f) (L':=L0) F a z (ba _) (λ_ _ _=>rfl) (λ_ _ _ _=>rfl) (λ_ _ _ h=>h) W
  (λb hb=>⟨.inl hb,G.lt L0 (bz a) b hb⟩) rfl rfl rfl (by
   rcases Z with⟨e1,e2⟩|⟨b,c0,vs,zs,e1,e2,e3,e4,e5,R,e6⟩
   .exact .inl ⟨e1,e2⟩
   .refine .inr ⟨b,c0,vs,zs,e1,e2,e3,e4,e5,⟨R.len,λi hi=>by rw[hw i hi];exact R.width i hi,λi hi j O hj=>?_⟩,e6⟩
    obtain⟨c,T,Q⟩:=hc i hi j O hj;obtain⟨u,u1,u2⟩:=R.rd i hi j c T;refine⟨u,u1,?_⟩;rcases Q with rfl|⟨rfl,rfl⟩
    .exact u2
    .rw[Rd.gm u2];exact m4)
 have U:(σ1++[aW.dead]).set p (.buf E0 B q f)=σ2++[.dead]:=by rw[List.set_append_left _ _ g,J]
 rw[U] at r1 r2;have st:=q2.trans r2;refine⟨_,r1.drop (rest:=[.dead]) S,⟨rfl,m1,λb hb o=>m2 b (hb L (bz hL)) o,W,λb hb=>?_⟩,λv d r hd=>(r.mono st.ext hh.len).drop (rest:=[.dead]) hd,λ{σ0 s0} V z=>(V.trans (st.oA hh)).drop (rest:=[.dead]) z⟩
 rcases hb with hb|⟨L',Y,hb⟩
 .exact .inl hb
 .have h1:=gY Y;rw[t] at h1;rcases nO h1 with h|rfl
  .exact .inr ⟨L',h,hb⟩
  .simp at hb
theorem dZ.Dy{P:an}{ι:Type}{X:Cx P}{f:aX}{args:List D}{σ:List aW}{res:ι->D}{σ1 σ2:ι->List aW}{E k n:Nat}{bf:ι->sJ}{xs:ι->List ak}{es:Nat->List C}(h:dZ X f args σ res (λi=>σ1 i++[.dM (iZ E k (bf i) n (xs i))]))
  (r:∀ i,e9 k n es (xs i)) (w:Nat) {E0:ar} {u l:Nat} {b:ι->Nat->List C} {a:Nat->List C} (m:∀ i,(σ1 i)[w]?=aa (.buf E0 u l (b i)))
  (g:∀ i,σ2 i=(σ1 i).set w (.buf E0 u l a)) (p:∀ i,sQ (σ2 i).length (σ2 i)=ab) (d:∀ i,uy (σ2 i).length (res i)=ab) (e:∀ i,σ.length<=(σ2 i).length)
  (x:∀ i q,q<l->(a q).length=(b i q).length) (y:∀ i q,q<l->∀ (j:Nat) (t:C),(a q)[j]?=aa t->∃ c,(b i q)[j]?=aa c/\OP (oH (bf i) n) k n es c t):dZ X f args σ res σ2:=by
 refine⟨h.1,λs vs hr hh S cs hS=>h.2 s vs hr hh S cs λi fr v s' hl oa lG st=>?_⟩
 obtain⟨s2,c1,c2,c3,c4⟩:=lG.Dy (r i) (m i) (g i) (p i) (x i) (y i);exact .ghost c2 (hS i fr v s2 (hl.mono c2.mem) (c3 v _ oa (d i)) c1 (c4 st (e i)))
end Go.AM
namespace Go.AM.R1
open Go.Proofs
variable {X:Cx ah}
theorem US{o:av}{x y:aq}(h:o.op=.call { callee:=.builtin .append,args:=#[x,y],argTypes:=#[53,53] }):mr ah o x y 88 i88 :=
 ⟨⟨53,53,i53,i53,h,X4,rfl,X4,rfl⟩,Z2,by decide,by decide⟩
theorem NJ(l:List cM)(n:Nat):∀ i,i<n->∀ c∈eY.fn l i,vv c=ab:=by
 intro i _ c a;have:eY.fn l i=[.int .i64 (l.getD i eY.bU).1,.str (l.getD i eY.bU).2]:=rfl;rw[this] at a;rcases ew.1 a with rfl|a
 .rfl
 .rcases ew.1 a with rfl|a
  .rfl
  .cases a
abbrev Own(l:List cM):Type:={ q:sJ×List ak // e9 2 l.length (eY.fn l) q.2 }
abbrev UT(l:List cM)(q:Own l):aW:=.dM (iZ 88 2 q.1.1 l.length q.1.2)
abbrev RE(l:List cM)(q:Own l):C:=.val (oH q.1.1 l.length)
end Go.AM.R1
namespace Go.AM
open Go.Conc (G)
def M0(p:Nat->Bool):List Nat->Bool
 |[]=>ae
 |e::r=>match p e with|true=>ab|false=>M0 p r
theorem Fs{p:Nat->Bool}:∀ {l:List Nat},M0 p l=ab->∃ e∈l,p e=ab
 |[],h=>by cases h
 |e::r,h=>by
  simp only[M0] at h;split at h
  .rename_i c;exact⟨e,by simp,c⟩
  .obtain⟨b,d,a⟩:=Fs h;exact⟨b,j9 _ d,a⟩
def wo(all:List av)(k:Nat):Nat->List Nat->Bool
 |0,l=>hX k l
 |f+1,l=>match hX k l with|true=>ab|false=>M0 (λe=>wo all k f (b6 (all.getD e ja).after.toList)) l
theorem ta{all:List av}{k:Nat}{L:Nat->Prop}(c:∀ i,i<all.length->L i->∀ e∈b6 (all.getD i ja).after.toList,L e):∀ {f:Nat}{l:List Nat},wo all k f l=ab->(∀ e∈l,L e)->L k
 |0,l,h,a=>a k (IH h)
 |f+1,l,h,a=>by
  simp only[wo] at h;split at h
  .rename_i j;exact a k (IH j)
  .obtain⟨e,m,b⟩:=Fs h;rcases cr e all.length with g|g
   .exact ta c b (c e g (a e m))
   .have:all.getD e ja=ja:=by simp[ag,eU g]
    rw[this] at b;exact ta c b (λn d=>by simp[ja,b6] at d)
def wq(all:List av)(f:Nat)(l:List Nat):Nat->Bool
 |0=>ab
 |n+1=>match wo all n f l with|true=>wq all f l n|false=>ae
theorem yi{all:List av}{f:Nat}{l:List Nat}:∀ {n:Nat},wq all f l n=ab->∀ k,k<n->wo all k f l=ab
 |0,_,k,a=>by omega
 |n+1,h,k,a=>by
  simp only[wq] at h;split at h
  .rename_i b
   by_cases e:k=n
   .subst e;exact b
   .exact yi h k (by omega)
  .cases h
def zZ(all:List av)(f:Nat):Nat->Nat->Bool
 |_,0=>ab
 |i,r+1=>match wq all f (b6 (all.getD i ja).after.toList) i with|true=>zZ all f (i+1) r|false=>ae
theorem yj{all:List av}{f:Nat}:∀ {i r:Nat},zZ all f i r=ab->∀ q,i<=q->q<i+r->wq all f (b6 (all.getD q ja).after.toList) q=ab
 |i,0,_,q,c,a=>by omega
 |i,r+1,h,q,c,a=>by
  simp only[zZ] at h;split at h
  .rename_i b
   by_cases e:q=i
   .subst e;exact b
   .exact yj h q (by omega) (by omega)
  .cases h
section
variable {P:an}{X:Cx P}{N:Nat}{φ:Fr}{σ:List aW}
def Gu{ι:Type}(c:Nat)(pre:Nat->Bool)(x:Nat->D)(y:ι->Nat->D)(j:ι)(i:Nat):D:=match Nat.blt i c with|true=>DJ pre x y j i|false=>.any
theorem AK.Qv{ι:Type}(w:P.follows Departure.mixedOrders=ab)(m c l:Nat)(pre:Nat->Bool)(x:Nat->D)(y:ι->Nat->D)(σ':ι->List aW){ops:Array av}{id:Nat}{K:List It}{Qf:Post}
  (b:nn ops.toList=ab) (d:tR ops.toList 0=ab) (f:o0 N ops.toList=ab) (t:pre m=ae) (r:zX pre m ops.toList 0=ab)
  (u:Nat.blt c ops.toList.length=ab) (n:Nat.blt m c=ab) (g:∀ i,pre i=ab->i<c) (SD:zZ ops.toList l c (ops.toList.length-c)=ab)
  (one:s8 X N ops.toList φ σ x pre ops.toList 0) (two:∀ j,s9 X N ops.toList φ (σ' j) (Gu c pre x y j) m (ops.toList.take c) 0)
  (HZ:tQ X N ops.toList (ops.toList.getD m ja) (nL ops.toList φ x m) σ (λj=>Gu c pre x y j m) σ')
  (k:∀ j,AK X N Qf (.ops ops.toList (ops.toList.drop c)::K) .normal (MO ops.toList φ (Gu c pre x y j)) (σ' j)):AK X N Qf (.code (.region id ops ab)::K) .normal φ σ:=by
 have u:=dn u;have n:=dn n;have:=AW.reg (X:=X) (N:=N) (φ:=φ) (σ:=σ) w (all:=ops.toList) c (λa:Option ι=>a.elim x (Gu c pre x y)) (λa _=>a.elim σ σ') (λa D=>a.isSome=D m/\(a=af->∀ i,D i=ab->pre i=ab)) af ⟨rfl,λ_ _ h=>by cases h⟩ rfl b d f (by omega)
  (λi h1 h2 L z e k v=>ta z (yi (yj SD i h1 (by omega)) k v) e)
  (λa D q p i h1 h2=>by
   obtain⟨j,rfl⟩:=wm q n p;have:Nat.blt i c=ae:=by
    cases hb:Nat.blt i c with
    |false=>rfl
    |true=>have:=dn hb;omega
   simp only[Option.elim,Gu,this])
  (Fq (S:=λj _=>σ' j) t r (λj i e=>by
    have:Nat.blt i c=ab:=ra (g i e);simp only[Gu,this,DJ,e])
   (λi o hi e=>by have:=one.get i o hi (by rwa [bm]);rwa [bm] at this)
   (λj D i o hi zD qu _ _=>by
    have s:(ops.toList.take c)[i]?=aa o:=by rw[et,aU qu];exact hi
    have:=(two j).get i o s (by rwa [bm]);rwa [bm] at this)
   (λo A=>by rw[show ops.toList.getD m ja=o by simp[ag,A]] at HZ;exact HZ) (λ_ _ _=>rfl))
  (Q:=AK X N Qf K) (λa D q p=>by
   obtain⟨j,rfl⟩:=wm q n p;exact k j) id
 rw[nT] at this;exact this
end
end Go.AM
namespace Go.AM.R1
open Go.Proofs
variable {X:Cx ah}
def Mc(ps:List bC)(i0:Nat)(u:ak)(j:Nat):C:=if j=i0 then .val u else .sl ae 2 (ps.getD j (0,[])).2.length (eY.fn (ps.getD j (0,[])).2)
def nD(ps:List bC)(i0:Nat)(u:ak)(j:Nat):List C:=[.int .i64 (ps.getD j (0,[])).1,Mc ps i0 u j]
theorem G3{ps:List bC}{i0 i:Nat}{u:ak}(h:i≠i0):a9 (i+1) (cX i (nD ps i0 u) (λq=>[cP.enc (ps.getD i (0,[]))].getD q [])) (nD ps i0 u):=λj a=>by
 unfold cX;split
 .rfl
 .have:j=i:=by omega
  subst this;rw[pJ];simp only[nD,Mc,aO h];rfl
theorem Eh{ps:List bC}{i0:Nat}{u u':ak}:a9 (i0+1) (cX i0 (nD ps i0 u') (λq=>[[.int .i64 (ps.getD i0 (0,[])).1,.val u]].getD q [])) (nD ps i0 u):=λj a=>by
 unfold cX;split
 .simp only[nD,Mc,aO (show j≠i0 by omega)]
 .have:j=i0:=by omega
  subst this;rw[pJ];simp only[nD,Mc,aU];rfl
abbrev S3:Type:=Nat×sJ×Nat×List ak
def I3(ps:List bC)(i0:Nat)(x:S3):Prop:=x.1<=ps.length/\((x.1<=i0/\x.2.2.1=0)∨(i0<x.1/\x.2.2.1=(ps.getD i0 (0,[])).2.length/\e9 2 (ps.getD i0 (0,[])).2.length (eY.fn (ps.getD i0 (0,[])).2) x.2.2.2))
abbrev u3(x:S3):ak:=oH x.2.1 x.2.2.1
def fx(xs:List cM)(m:Nat)(t:Bs):List cM:=xs.set m ((xs.getD m (0,[])).1,t)
theorem Av{xs:List cM}{m:Nat}{t:Bs}{d vs:List ak}(h:e9 2 xs.length (eY.fn xs) d)(f:m<xs.length)(i:mV vs [.c (.str t)]):e9 2 xs.length (eY.fn (fx xs m t)) (d.take (m*2+1)++vs++d.drop (m*2+1+vs.length)):=by
 refine e9.fg h m 1 f i (by simp) (λj g b=>?_) rfl λq c a=>?_
 .simp[iv.fn,vm,fx,ag,List.getElem?_set,iL b]
 .have e:eY.fn (fx xs m t) m=[.int .i64 (xs.getD m (0,[])).1,.str t]:=by
   simp[iv.fn,vm,fx,ag,List.getElem?_set,f];rfl
  rw[e] at a;rcases q with _|_|q
  .simp at a;subst a;exact .inr ⟨by omega,rfl⟩
  .simp at a;subst a;exact .inl ⟨by omega,by simp,rfl⟩
  .simp at a
structure VS (s:bo)(l:gM)(i0 m:Nat):Prop where
 i:i0<s.1.length
 no:(s.1.getD i0 (0,[])).1=l.2.1
 ne:∀ j,j<s.1.length->j≠i0->(s.1.getD j (0,[])).1≠l.2.1
 at':l.2.2.1=m
 ml:m<(s.1.getD i0 (0,[])).2.length
theorem Cb(xs:List cM)(m:Nat)(t:Bs):(fx xs m t).length=xs.length:=by simp[fx]
theorem tp{s:bo}{i0:Nat}(h:i0<s.1.length):s.1.getD i0 (0,[])∈s.1:=by rw[ag,aR h];exact dy h
abbrev mJ(s:bo)(l:gM)(i0 m:Nat):bo:=(s.1.set i0 ((s.1.getD i0 (0,[])).1,fx (s.1.getD i0 (0,[])).2 m l.2.2.2),s.2.1,s.2.2)
abbrev NK(s:bo)(i:Nat)(es:Nat->List C)(j:Nat)(q:List dA)(bf:sJ)(m:Nat)(xs:List ak):List aW:=[H3 s,.cells 27 [gA,gA,gA],.buf 55 2 i es,.buf 59 2 j (dz.fn q),.buf 86 2 s.2.2.length (cH.fn s.2.2),.cells 27 [.bp 2 (.sl i 2 0 i),.bp 3 (.sl j 2 0 j),.bp 4 (.sl s.2.2.length 2 0 s.2.2.length)],.dM (iZ 88 2 bf m xs)]
set_option maxHeartbeats 4000000 in
theorem Ei(s:bo)(i0:Nat)(G:i0<s.1.length)(b:0<(s.1.getD i0 (0,[])).2.length)(H:s.1.length<=4000000)(y:∀ p∈s.1,p.2.length<=4000000)(D:s.2.1.length<=4000000)(w:mZ s)(E:s.2.2.length<=4000000) :
  dZ (ι:=Own (s.1.getD i0 (0,[])).2) X 41 [k7 s] [] (λ_=>.e (.agg [.bp 0 (.sl s.1.length 2 0 s.1.length),.bp 1 (.sl s.2.1.length 2 0 s.2.1.length),.bp 2 (.sl s.2.2.length 2 0 s.2.2.length)]))
   (λq=>[.buf 55 2 s.1.length (nD s.1 i0 (oH q.1.1 (s.1.getD i0 (0,[])).2.length)),.buf 59 2 s.2.1.length (dz.fn s.2.1),.buf 86 2 s.2.2.length (cH.fn s.2.2),UT (s.1.getD i0 (0,[])).2 q]):=by
 refine dZ.kL tok Tryz.func41 rfl rfl rfl λC=>?_
 refine bd [(1000001,ab)] 200 rfl ay ?_;refine AK.region ?_;refine bd [] 5 rfl ay ?_;refine AK.ye 9 55 2 (cP.fn []) rfl ?_;refine AK.ye 10 59 2 (dz.fn []) rfl ?_;refine AK.ye 11 86 2 (cH.fn []) rfl ?_;refine bd [(1000002,ab)] 200 rfl ?_ ?_
 .simp only[ai,show i86.bytes=16 from rfl,aG,aF];and_intros <;> omega
 refine AK.spare 88 2 ?_;refine ee rfl ay ?_;refine AK.cd 7 (I3 s.1 i0) (λx:S3=>[(1,.e (.one (.ptr 0 0))),(2,.e (.one (.ptr 1 0))),(3,.e (.one (.ptr 5 0))),(4,dI x.1)]) (λx=>NK s x.1 (nD s.1 i0 (u3 x)) 0 [] x.2.1 x.2.2.1 x.2.2.2) (λx=>s.1.length-x.1) (0,.nil af,0,[]) rfl ?_ rfl ?_ rfl ⟨by omega,.inl ⟨by omega,rfl⟩⟩ ?_
 .simp[ai.cat,ai]
 .simp[ai.cat,ai,a9,gx];rfl
 rintro⟨i,bf,m,xs⟩ ⟨hi,n⟩;simp only at hi n
 by_cases h:i<s.1.length
 .have v:s.1.getD i (0,[])∈s.1:=by rw[ag,aR h];exact dy h
  have a:s.1.getD (i:Int).toNat cP.bU=s.1.getD i (0,[]):=by rw[bu];rfl
  have q:=y _ v
  by_cases d:i=i0
  .subst d;have z:m=0:=by rcases n with⟨_,o⟩|⟨g,_⟩ <;> omega
   rw[<-a] at b q;refine bd [(20,ab),(1000005,ab)] 100 rfl ?_ ?_
   .simp only[ai,bD,bh,aG,aF];omega
   refine AK.Qv (ι:=Own (s.1.getD (i:Int).toNat cP.bU).2) eQ 15 18 8 (λk=>bw k 14)
    (λk=>[.e (.one (.ptr 5 0)),.e (.one (.bp 2 (.sl i 2 0 i))),.e (.one (.ptr 0 0)),cP.sl s.1,dI i,VR [.int .i64 (s.1.getD (i:Int).toNat cP.bU).1,sP (s.1.getD (i:Int).toNat cP.bU)],VR [.int .i64 (s.1.getD (i:Int).toNat cP.bU).1,sP (s.1.getD (i:Int).toNat cP.bU)],dI (s.1.getD (i:Int).toNat cP.bU).1,
     .e (.one (.c (.sl ab 2 0 (λj=>[].getD j [])))),.e (.one (.ptr 0 0)),cP.sl s.1,dI i,VR [.int .i64 (s.1.getD (i:Int).toNat cP.bU).1,sP (s.1.getD (i:Int).toNat cP.bU)],VR [sP (s.1.getD (i:Int).toNat cP.bU)],.e (.one (.c (sP (s.1.getD (i:Int).toNat cP.bU))))].getD k .any)
    (λq k=>[.e (.one (.c (RE _ q))),.e (.agg [.c (.int .i64 (s.1.getD (i:Int).toNat cP.bU).1),.c (RE _ q)]),.e (.one (.c (.sl ab 2 1 (λj=>[[.int .i64 (s.1.getD (i:Int).toNat cP.bU).1,RE _ q]].getD j []))))].getD (k-15) .any)
    (λq=>NK s i (nD s.1 i (oH bf m)) 0 [] bf m xs++[UT _ q])
    rfl rfl rfl rfl rfl rfl rfl (λk h=>by have:=dn h;omega) rfl
    ⟨OA.cK tok b5.nil rfl,OA.cK tok b5.nil rfl,OA.cK tok b5.nil rfl,OA.cK tok b5.nil rfl,OA.cK tok b5.nil rfl,OA.eval (ds:=[]) tok b5.nil rfl ?_,OA.cK tok b5.nil rfl,OA.cK tok b5.nil rfl,OA.cK tok b5.nil rfl,OA.cK tok b5.nil rfl,OA.cK tok b5.nil rfl,OA.cK tok b5.nil rfl,OA.eval (ds:=[]) tok b5.nil rfl ?_,OA.cK tok b5.nil rfl,OA.cK tok b5.nil rfl,ay,ay,ay,ay,ay,ay,ay⟩
    (λq=>⟨OA.cK tok b5.nil rfl,OA.cK tok b5.nil rfl,OA.cK tok b5.nil rfl,OA.cK tok b5.nil rfl,OA.cK tok b5.nil rfl,OA.eval (ds:=[]) tok b5.nil rfl ?_,OA.cK tok b5.nil rfl,OA.cK tok b5.nil rfl,OA.cK tok b5.nil rfl,OA.cK tok b5.nil rfl,OA.cK tok b5.nil rfl,OA.cK tok b5.nil rfl,OA.eval (ds:=[]) tok b5.nil rfl ?_,OA.cK tok b5.nil rfl,OA.cK tok b5.nil rfl,ay,OA.cK tok b5.nil rfl,OA.cK tok b5.nil rfl,ay⟩)
    (tQ.Qi rfl (Bv.fresh (US rfl) rfl rfl rfl b (by show _*24<=_;omega) (NJ _ _))) ?_
   .simp only[ai,aF];omega
   .simp only[ai,aF];omega
   .simp only[ai,aF];omega
   .simp only[ai,aF];omega
   rw[a];rw[a] at b q;generalize f:s.1.getD i (0,[])=p at *;intro r;refine bd [(1000004,ab)] 100 rfl ?_ ?_
   .simp only[ai,show i55.bytes=32 from rfl,aG,aF];and_intros <;> omega
   refine AK.swap 6 7 (by decide) rfl rfl (λ_ _ h=>h.1) (λ_ _ h=>h.1) ?_
   refine bP rfl ?_ (AK.bg (i+1,r.1.1,p.2.length,r.1.2) rfl ?_ rfl rfl rfl ?_ rfl ?_ ?_)
   .simp only[ai,bD,aF];omega
   .simp[ai.cat,ai,a9.same]
   .have e:=Eh (ps:=s.1) (i0:=i) (u:=oH r.1.1 p.2.length) (u':=oH bf m);rw[f] at e;simp only[ai.cat,ai,aF,aG]
    and_intros <;> first|exactλ_ _=>rfl|exact e|rfl
   .refine⟨by show i+1<=_;omega,.inr ⟨by show i<i+1;omega,?_⟩⟩
    rw[f];exact⟨rfl,r.2⟩
   .show s.1.length-(i+1)<s.1.length-i;omega
  .refine bd [(20,ab),(2000038,ab)] 200 rfl ?_ (AK.bg (i+1,bf,m,xs) rfl ?_ rfl rfl rfl ?_ rfl ?_ ?_)
   .simp only[ai,a,bD,show i55.bytes=32 from rfl,show i88.bytes=24 from rfl,bh,gq,aG,aF];and_intros <;> omega
   .simp[ai.cat,ai]
   .have e:=G3 (ps:=s.1) (u:=oH bf m) d;simp only[ai.cat,ai,a,gx,bm,aF,aG]
    and_intros <;> first|exactλ_ _=>rfl|exact e|rfl
   .refine⟨by show i+1<=_;omega,?_⟩
    rcases n with⟨g,o⟩|⟨g,o⟩
    .exact .inl ⟨by show i+1<=i0;omega,o⟩
    .exact .inr ⟨by show i0<i+1;omega,o⟩
   .show s.1.length-(i+1)<s.1.length-i;omega
 obtain rfl:i=s.1.length:=by omega
 obtain⟨_,z,t⟩:i0<s.1.length/\m=(s.1.getD i0 (0,[])).2.length/\e9 2 (s.1.getD i0 (0,[])).2.length (eY.fn (s.1.getD i0 (0,[])).2) xs:=by
  rcases n with⟨g,_⟩|g
  .omega
  .exact g
 subst z;clear n;generalize s.1.getD i0 (0,[])=pp at *;refine bd [(20,ae)] 200 rfl (by simp[ai]) (AK.leaveD rfl rfl ?_)
 refine ee rfl ay ?_;refine AK.cd 7 (λi=>i<=s.2.1.length) (λi:Nat=>[(1,.e (.one (.ptr 0 0))),(2,.e (.one (.ptr 1 0))),(3,.e (.one (.ptr 5 0))),(5,dI i)]) (λi=>NK s s.1.length (nD s.1 i0 (oH bf pp.2.length)) i (s.2.1.take i) bf pp.2.length xs) (λi=>s.2.1.length-i) 0 rfl ?_ rfl ?_ rfl (by omega) ?_
 .simp[ai.cat,ai]
 .simp[ai.cat,ai,a9.same,a9]
 intro i hi
 by_cases h:i<s.2.1.length
 .have v:s.2.1.getD i (0,[])∈s.2.1:=by rw[ag,aR h];exact dy h
  have a:s.2.1.getD (i:Int).toNat dz.bU=s.2.1.getD i (0,[]):=by rw[bu];rfl
  have q:=w _ v;have e:=dz.lB s.2.1 h (0,[]);generalize s.2.1.getD i (0,[])=x at *;refine bd [(47,ab),(1000010,ab)] 200 rfl ?_ ?_
  .simp only[ai,a,bh,gq,aG,aF];and_intros <;> omega
  rw[a];refine AK.gV 7 1 90 2 (cL.fn []) rfl rfl ?_;refine ee rfl ay ?_;refine AK.cd 9 (λj=>j<=x.2.length) (λj:Nat=>[(1,.e (.one (.ptr 0 0))),(2,.e (.one (.ptr 1 0))),(3,.e (.one (.ptr 5 0))),(5,dI i),(6,.e (.one (.ptr 7 0))),(7,dI j)]) (λj=>NK s s.1.length (nD s.1 i0 (oH bf pp.2.length)) i (s.2.1.take i) bf pp.2.length xs++[.cells 59 [.c (.int .i64 x.1),.vec 8 2 j (cL.fn (x.2.take j))],.vec 90 2 j (cL.fn (x.2.take j))]) (λj=>x.2.length-j) 0 rfl ?_ rfl ?_ rfl (by omega) ?_
  .simp[ai.cat,ai]
  .simp[ai.cat,ai,a9.same,a9]
  intro j A
  by_cases d:j<x.2.length
  .have l:x.2.getD (j:Int).toNat cL.bU=x.2.getD j ([],[]):=by rw[bu];rfl
   have F:=q.2 (x.2.getD j ([],[])) (by rw[ag,aR d];exact dy d)
   have B:=cL.lB x.2 d ([],[]);refine bd [(66,ab),(2000085,ab)] 200 rfl ?_ (AK.bg (j+1) rfl ?_ rfl rfl rfl ?_ rfl ?_ ?_)
   .simp only[ai,a,l,bD,show i90.bytes=40 from rfl,show i3.bytes=8 from rfl,bh,gq,aG,aF];and_intros <;> omega
   .simp[ai.cat,ai]
   .simp only[ai.cat,ai,a,l,gx,bm,aF,aG]
    and_intros <;> first|exactλ_ _=>rfl|exact B|rfl
   .show j+1<=_;omega
   .omega
  obtain rfl:j=x.2.length:=by omega
  rw[cq];refine bd [(66,ae)] 200 rfl ?_ (AK.leaveD rfl rfl ?_)
  .simp only[ai,a,bY];and_intros <;> omega
  refine ee rfl ?_ (AK.bg (i+1) rfl ?_ rfl rfl rfl ?_ rfl ?_ ?_)
  .simp only[ai,a,bD,show i59.bytes=32 from rfl,aG,aF];and_intros <;> omega
  .simp[ai.cat,ai]
  .simp only[ai.cat,ai,aF,aG]
   and_intros <;> first|exactλ_ _=>rfl|exact e|rfl
  .show i+1<=_;omega
  .omega
 obtain rfl:i=s.2.1.length:=by omega
 rw[cq];refine bd [(47,ae)] 200 rfl (by simp[ai]) (AK.leaveD rfl rfl ?_)
 refine ee rfl ay ?_;refine AK.fC ⟨(bf,xs),t⟩ [2,3,4,6] rfl rfl rfl rfl rfl rfl rfl rfl ?_ rfl rfl rfl rfl (λj A=>absurd A (by simp))
 .simp[ai.cat,ai,a9.same]
theorem Eb(s:bo) (n:Int)(d:s.2.2.length<=4000000)(h:n<0∨n>s.2.2.length):Ev X 42 [k7 s,dI n] [] (k7 s) []:=by
 refine Ev.lY tok Tryz.func42 rfl rfl rfl λc=>?_
 have a:b5 X [(18,pn)]:=.cons qp .nil;refine aE a [(15,ab)] 200 rfl (by simp[ai];omega) ?_
 refine AK.fC () [] rfl rfl rfl rfl rfl rfl rfl rfl ?_ rfl rfl rfl rfl (λj b=>absurd b (by simp))
 simp[ai.cat,ai,a9.same]
abbrev oD(n:Nat)(s:bo)(q:List dA):List dA:=q.filter λx=>!qR n s.2.2 x
abbrev yy(n:Nat)(s:bo)(j:Nat)(x:dA):Bool:=((s.2.2.drop n).take j).any λh=>h.2==x.1
abbrev Z0(s:bo)(n:Nat)(ks:List dA):List aW:=[.cells 27 [.c (sPs s.1),.c (sSs s.2.1),.c (sHs (s.2.2.take n))],.cells 27 [gA,gA,gA],.vec 59 2 ks.length (dz.fn ks)]
theorem ud{α:Type}(p:α->Bool){l:List α}{i:Nat}(h:i<l.length)(d:α):(l.take (i+1)).filter p=(l.take i).filter p++(if p (l.getD i d) then [l.getD i d] else []):=by
 rw[bx h d,List.filter_append]
 congr 1
 generalize l.getD i d=x
 by_cases a:p x <;> simp[a]
theorem Kt{α:Type}(p:α->Bool){l:List α}{i:Nat}(h:i<l.length)(d:α):(l.take (i+1)).any p=((l.take i).any p||p (l.getD i d)):=by
 rw[bx h d,List.any_append];simp
set_option maxHeartbeats 4000000 in
theorem Ec(s:bo)(n:Nat)(v:n<=s.2.2.length)(y:s.2.1.length<=4000000)(k:∀ x∈s.2.1,-4000000<=x.1/\x.1<=4000000)(z:s.2.2.length<=4000000):Ev X 42 [k7 s,dI n] [] (k7 (s.1,oD n s s.2.1,s.2.2.take n)) []:=by
 refine Ev.lY tok Tryz.func42 rfl rfl rfl λw=>?_
 have a:b5 X [(18,pn)]:=.cons qp .nil;refine aE a [(15,ae),(1000006,ab)] 100 rfl ?_ ?_
 .simp[ai,iU];omega
 refine AK.iD 6 59 2 rfl rfl ?_;refine aE a [] 100 rfl ay ?_;refine AK.cd 3 (λi=>i<=s.2.1.length) (λi:Nat=>[(2,.e (.one (.ptr 0 0))),(4,.e (.one (.ptr 1 0))),(5,cH.sl (s.2.2.drop n)),(6,.e (.one (.vec 2 2 (oD n s (s.2.1.take i)).length (dz.fn (oD n s (s.2.1.take i)))))),(7,dI i)]) (λi=>Z0 s n (oD n s (s.2.1.take i))) (λi=>s.2.1.length-i) 0 rfl ?_ rfl ?_ rfl (by omega) ?_
 .have e:=cH.Nz s.2.2 n (s.2.2.length-n);simp[ai.cat,ai,a9.same,a9.nil,cE];exact e
 .simp[ai.cat,ai,a9.same,a9.nil,cE];exact⟨by omega,λi hi=>by
   have m:i<n:=hi;simp[jb,cE,iv.fn,vm,ag,et,m]⟩
 intro i hi
 by_cases h:i<s.2.1.length
 .have t:s.2.1.getD i (0,[])∈s.2.1:=by rw[ag,aR h];exact dy h
  have d:s.2.1.getD (i:Int).toNat dz.bU=s.2.1.getD i (0,[]):=by rw[bu];rfl
  have q:=k _ t;have e:=dz.lB s.2.1 h (0,[]);have f:oD n s (s.2.1.take (i+1))=oD n s (s.2.1.take i)++(if !qR n s.2.2 (s.2.1.getD i (0,[])) then [s.2.1.getD i (0,[])] else []):=ud (λx=>!qR n s.2.2 x) h (0,[])
  have u:(oD n s (s.2.1.take i)).length<=i:=eG (mQ _ _) (by simp;omega)
  generalize oD n s (s.2.1.take i)=ks at *;generalize s.2.1.getD i (0,[])=x at *;refine aE a [(31,ab)] 200 rfl ?_ ?_
  .simp only[ai,d,bh,gq,aG,aF];and_intros <;> omega
  refine AK.cd 3 (λj=>j<=(s.2.2.drop n).length) (λj:Nat=>[(2,.e (.one (.ptr 0 0))),(4,.e (.one (.ptr 1 0))),(5,cH.sl (s.2.2.drop n)),(6,.e (.one (.vec 2 2 ks.length (dz.fn ks)))),(7,dI i),(8,dB (yy n s j x)),(9,dI j)]) (λj=>Z0 s n ks) (λj=>(s.2.2.drop n).length-j) 0 rfl ?_ rfl ?_ rfl (by omega) ?_
  .simp[ai.cat,ai,a9.same]
  .simp[ai.cat,ai,a9.same]
  intro j o;have p:=gF (i:=n) (l:=s.2.2)
  by_cases r:j<(s.2.2.drop n).length
  .have b:(s.2.2.drop n).getD (j:Int).toNat cH.bU=(s.2.2.drop n).getD j (0,0):=by rw[bu];rfl
   have c:yy n s (j+1) x=(yy n s j x||((s.2.2.drop n).getD j (0,0)).2==x.1):=Kt (λh:Int×Int=>h.2==x.1) r (0,0)
   cases g:yy n s j x with
   |true =>
    refine aE a [(37,ab)] 200 rfl ?_ (AK.bg (j+1) rfl ?_ rfl rfl rfl ?_ rfl ?_ ?_)
    .simp only[ai,d,b,bh,gq,aG,aF];and_intros <;> omega
    .rw[g] at c;simp[ai.cat,ai,a9.same,c]
    .simp[ai.cat,ai,a9.same]
    .show j+1<=_;omega
    .omega
   |false =>
    refine aE a [(37,ab)] 200 rfl ?_ (AK.bg (j+1) rfl ?_ rfl rfl rfl ?_ rfl ?_ ?_)
    .simp only[ai,d,b,bh,gq,aG,aF];and_intros <;> omega
    .rw[g] at c;simp only[ai.cat,ai,a9.same,c,d,b,aG,aF,ru];rfl
    .simp[ai.cat,ai,a9.same]
    .show j+1<=_;omega
    .omega
  obtain rfl:j=(s.2.2.drop n).length:=by omega
  have c:yy n s (s.2.2.drop n).length x=qR n s.2.2 x:=by unfold yy qR;rw[cq]
  rw[c];cases g:qR n s.2.2 x with
  |true =>
   rw[g] at f;refine aE a [(37,ae)] 200 rfl ?_ (AK.leaveD rfl rfl ?_)
   .simp[ai]
   refine aE a [] 200 rfl ?_ (AK.bg (i+1) rfl ?_ rfl rfl rfl ?_ rfl ?_ ?_)
   .simp only[ai,bD,aG,aF];omega
   .have:oD n s (s.2.1.take (i+1))=ks:=by simpa using f
    rw[this];simp only[ai.cat,ai,a9.same,aG,aF];rfl
   .rw[show oD n s (s.2.1.take (i+1))=ks by simpa using f]
    simp[ai.cat,ai,a9.same]
   .show i+1<=_;omega
   .omega
  |false =>
   rw[g] at f;refine aE a [(37,ae)] 200 rfl ?_ (AK.leaveD rfl rfl ?_)
   .simp[ai]
   refine aE a [] 200 rfl ?_ (AK.bg (i+1) rfl ?_ rfl rfl rfl ?_ rfl ?_ ?_)
   .simp only[ai,bD,show i59.bytes=32 from rfl,aG,aF];and_intros <;> omega
   .rw[show oD n s (s.2.1.take (i+1))=ks++[x] by simpa using f]
    simp only[ai.cat,ai,d,a9.same,aG,aF,bF,dw];exact⟨dz.cu ks x,rfl⟩
   .rw[show oD n s (s.2.1.take (i+1))=ks++[x] by simpa using f]
    simp only[ai.cat,ai,d,a9.same,aG,aF,bF,dw];exact dz.cu ks x
   .show i+1<=_;omega
   .omega
 obtain rfl:i=s.2.1.length:=by omega
 rw[cq];refine aE a [(31,ae)] 200 rfl (by simp[ai]) (AK.leaveD rfl rfl ?_)
 refine aE a [] 200 rfl ay ?_;refine AK.fC () [] rfl rfl rfl rfl rfl rfl rfl rfl ?_ rfl rfl rfl rfl (λj o=>absurd o (by simp))
 simp[ai.cat,ai,a9.same]
theorem GW(s:bo)(l:gM)(a:gU s)(f:l.1≠1)(b:l.1≠2)(d:l.1≠3)(c:l.1≠4):Ev X 23 [k7 s,sc l] [] (k7 s) []:=by
 refine Ev.lY tok Tryz.func23 rfl rfl rfl λg=>?_
 refine bP rfl ay ?_;refine AK.bM (fO s a.p a.p2 a.sn a.s2 a.h) [] rfl rfl rfl rfl rfl rfl rfl rfl rfl rfl rfl ?_;refine bd [(13,ae),(42,ae),(48,ae),(91,ae)] 100 rfl ?_ ?_
 .simp[ai,f,b,d,c]
 refine AK.fC () [] rfl rfl rfl rfl rfl rfl rfl rfl ?_ rfl rfl rfl rfl (λj e=>absurd e (by simp))
 simp[ai.cat,ai,a9.same]
theorem yz(s:bo)(l:gM)(s':bo)(a:gU s)(b:l.1=2)(c:Ev X 42 [k7 s,dI l.2.1] [] (k7 s') []):Ev X 23 [k7 s,sc l] [] (k7 s') []:=by
 refine Ev.lY tok Tryz.func23 rfl rfl rfl λe=>?_
 refine bP rfl ay ?_;refine AK.bM (fO s a.p a.p2 a.sn a.s2 a.h) [] rfl rfl rfl rfl rfl rfl rfl rfl rfl rfl rfl ?_;refine bd [(13,ae),(42,ab)] 100 rfl ?_ ?_
 .simp[ai,b]
 refine AK.my c.EW [] rfl rfl rfl rfl ?_ rfl rfl rfl (λ_=>rfl) rfl (λ_=>rfl) rfl ?_
 .simp[ai.cat,ai,a9.same]
 rintro -;refine bP rfl ay ?_;refine AK.fC () [] rfl rfl rfl rfl rfl rfl rfl rfl ?_ rfl rfl rfl rfl (λj d=>absurd d (by simp))
 simp[ai.cat,ai,a9.same]
abbrev po(n:Int)(q:List bC):List bC:=q.filter λx=>!(x.1==n)
abbrev X1(s:bo)(l:gM)(ks:List bC):List aW:=[H3 s,.cells 32 (Ny l),.cells 27 [gA,gA,gA],.vec 55 2 s.1.length (cP.fn s.1),.vec 59 2 s.2.1.length (dz.fn s.2.1),.vec 86 2 s.2.2.length (cH.fn s.2.2),
 .cells 27 [.vec 3 2 s.1.length (cP.fn s.1),.vec 4 2 s.2.1.length (dz.fn s.2.1),.vec 5 2 s.2.2.length (cH.fn s.2.2)],.vec 55 2 ks.length (cP.fn ks)]
set_option maxHeartbeats 4000000 in
theorem GX(s:bo)(l:gM)(a:gU s)(m:l.1=1):Ev X 23 [k7 s,sc l] [] (k7 (s.1.filter λx=>!(x.1==l.2.1),s.2.1,s.2.2)) []:=by
 refine Ev.lY tok Tryz.func23 rfl rfl rfl λn=>?_
 refine bP rfl ay ?_;refine AK.bM (fO s a.p a.p2 a.sn a.s2 a.h) [] rfl rfl rfl rfl rfl rfl rfl rfl rfl rfl rfl ?_;refine bd [(13,ab),(1000005,ab)] 100 rfl ?_ ?_
 .simp[ai,m]
 refine AK.iD 6 55 2 rfl rfl ?_;refine bP rfl ay ?_;have f:=a.p;refine AK.cd 8 (λi=>i<=s.1.length) (λi:Nat=>[(3,.e (.one (.ptr 1 0))),(4,.e (.one (.ptr 2 0))),(5,.e (.one (.ptr 6 0))),(6,.e (.one (.vec 7 2 (po l.2.1 (s.1.take i)).length (cP.fn (po l.2.1 (s.1.take i)))))),(7,dI i)]) (λi=>X1 s l (po l.2.1 (s.1.take i))) (λi=>s.1.length-i) 0 rfl ?_ rfl ?_ rfl (by omega) ?_
 .simp[ai.cat,ai,a9.same,a9.nil]
 .simp[ai.cat,ai,a9.same,a9.nil]
 intro i hi
 by_cases h:i<s.1.length
 .have c:s.1.getD (i:Int).toNat cP.bU=s.1.getD i (0,[]):=by rw[bu];rfl
  have b:po l.2.1 (s.1.take (i+1))=po l.2.1 (s.1.take i)++(if !((s.1.getD i (0,[])).1==l.2.1) then [s.1.getD i (0,[])] else []):=ud (λx:bC=>!(x.1==l.2.1)) h (0,[])
  have k:(po l.2.1 (s.1.take i)).length<=i:=eG (mQ _ _) (by simp;omega)
  generalize po l.2.1 (s.1.take i)=ks at *;generalize s.1.getD i (0,[])=x at *;cases d:x.1==l.2.1 with
  |true =>
   rw[d] at b;refine bd [(20,ab),(31,ae)] 200 rfl ?_ (AK.bg (i+1) rfl ?_ rfl rfl rfl ?_ rfl ?_ ?_)
   .simp only[ai,c,bD,bh,bY,gq,aG,aF]
    and_intros <;> first|omega|simp[bne,d]
   .rw[show po l.2.1 (s.1.take (i+1))=ks by simpa using b]
    simp only[ai.cat,ai,a9.same,aG,aF];rfl
   .rw[show po l.2.1 (s.1.take (i+1))=ks by simpa using b]
    simp[ai.cat,ai,a9.same]
   .show i+1<=_;omega
   .omega
  |false =>
   rw[d] at b;refine bd [(20,ab),(31,ab)] 200 rfl ?_ (AK.bg (i+1) rfl ?_ rfl rfl rfl ?_ rfl ?_ ?_)
   .simp only[ai,c,bD,show i55.bytes=32 from rfl,bh,bY,gq,aG,aF]
    and_intros <;> first|omega|simp[bne,d]
   .rw[show po l.2.1 (s.1.take (i+1))=ks++[x] by simpa using b]
    simp only[ai.cat,ai,c,a9.same,aG,aF,bF,dw];exact⟨cP.cu ks x,rfl⟩
   .rw[show po l.2.1 (s.1.take (i+1))=ks++[x] by simpa using b]
    simp only[ai.cat,ai,c,a9.same,aG,aF,bF,dw];exact cP.cu ks x
   .show i+1<=_;omega
   .omega
 obtain rfl:i=s.1.length:=by omega
 rw[cq];refine bd [(20,ae)] 200 rfl (by simp[ai]) (AK.leaveD rfl rfl ?_)
 refine ee rfl ay ?_;refine AK.fC () [] rfl rfl rfl rfl rfl rfl rfl rfl ?_ rfl rfl rfl rfl (λj g=>absurd g (by simp))
 simp[ai.cat,ai,a9.same]
theorem Ku{f:aX}{args:List D}(ps:List bC)(d:List dA)(n:Nat)(es:Nat->List C)(g:List (Int×Int))(i:g.length=n)(j:a9 n es (cH.fn g))
  (a:dZ (ι:=Unit) X f args [] (λ_=>.e (.agg [aB 0 ps.length ps.length,aB 1 d.length d.length,aB 2 n n])) (λ_=>[.buf 55 2 ps.length (cP.fn ps),.buf 59 2 d.length (dz.fn d),.buf 86 2 n es])) :
  Ev X f args [] (k7 (ps,d,g)) []:=by
 have h:=dZ.qz (σ1:=λ_:Unit=>[.buf 55 2 ps.length (cP.fn ps),.buf 59 2 d.length (dz.fn d)]) (E:=86) (k:=2) (n:=λ_=>n) (es:=λ_=>es) a (λ_=>rfl) (λ_=>?_) (λ_=>rfl) (λ_=>iK _)
 have b:=dZ.qz (σ1:=λ_:Unit=>[.buf 55 2 ps.length (cP.fn ps)]) (E:=59) (k:=2) (n:=λ_=>d.length) (es:=λ_=>dz.fn d) h (λ_=>rfl) (λ_=>?_) (λ_=>rfl) (λ_=>iK _)
 have c:=dZ.qz (σ1:=λ_:Unit=>[]) (E:=55) (k:=2) (n:=λ_=>ps.length) (es:=λ_=>cP.fn ps) b (λ_=>rfl) (λ_=>?_) (λ_=>rfl) (λ_=>ba _)
 refine(c.le (res':=λ_=>k7 (ps,d,g)) (λ_=>rfl) (λ_=>?_)).one
 .simp only[ai.cat,ai,aF,aG];exact⟨a9.same,a9.same,i.symm,j⟩
 .simp[ai.cat,ai]
 .simp[ai.cat,ai]
 .simp[ai.cat,ai]
theorem Ed(s:bo)(l:gM)(a:gU s)(h:l.1=4)(f:0<=l.2.1)(i:l.2.1<s.2.2.length)(b:bD .i64 (3-O5 s l)) :
  dZ (ι:=Unit) X 23 [k7 s,sc l] [] (λ_=>.e (.agg [aB 0 s.1.length s.1.length,aB 1 s.2.1.length s.2.1.length,aB 2 s.2.2.length s.2.2.length])) (λ_=>[.buf 55 2 s.1.length (cP.fn s.1),.buf 59 2 s.2.1.length (dz.fn s.2.1),.buf 86 2 s.2.2.length (Rn s l)]):=by
 refine dZ.kL tok Tryz.func23 rfl rfl rfl λd=>?_
 have c:b5 X [(18,pn)]:=.cons qp .nil;have g:=a.h;refine aE c [] 100 rfl ay ?_;refine AK.bM (GY s a.p a.p2 a.sn a.s2 a.h) [] rfl rfl rfl rfl rfl rfl rfl rfl rfl rfl rfl ?_;refine aE c [(13,ae),(42,ae),(48,ae),(91,ab),(99,ab)] 100 rfl ?_ ?_
 .have b:bD .i64 (3-(s.2.2.getD (0+l.2.1.toNat) cH.bU).1):=b;simp only[ai,bD,h,bh,aG,aF] at b ⊢
  and_intros <;> first|omega|rfl
 refine AK.fC () [3,4,5] rfl rfl rfl rfl rfl rfl rfl rfl ?_ rfl rfl rfl rfl l3;simp[ai.cat,ai,a9.same]
theorem GZ(s:bo)(l:gM)(a:gU s)(h:l.1=4)(c:0<=l.2.1)(d:l.2.1<s.2.2.length)(b:bD .i64 (3-O5 s l)) :
  Ev X 23 [k7 s,sc l] [] (k7 (s.1,s.2.1,s.2.2.set (0+l.2.1.toNat) (3-O5 s l,(s.2.2.getD (0+l.2.1.toNat) cH.bU).2))) [] :=
 Ku s.1 s.2.1 _ _ _ (by simp) (cH.Am s.2.2 (0+l.2.1.toNat) (3-O5 s l,(s.2.2.getD (0+l.2.1.toNat) cH.bU).2) s.2.2.length (ba _)) (Ed s l a h c d b)
theorem Ee(s:bo)(l:gM)(a:gU s)(h:l.1=4)(f:¬(0<=l.2.1/\l.2.1<s.2.2.length)):Ev X 23 [k7 s,sc l] [] (k7 s) []:=by
 refine Ev.lY tok Tryz.func23 rfl rfl rfl λd=>?_
 have b:b5 X [(18,pn)]:=.cons qp .nil;have e:=a.h;refine aE b [] 100 rfl ay ?_;refine AK.bM (fO s a.p a.p2 a.sn a.s2 a.h) [] rfl rfl rfl rfl rfl rfl rfl rfl rfl rfl rfl ?_;refine aE b [(13,ae),(42,ae),(48,ae),(91,ab),(99,ae)] 100 rfl ?_ ?_
 .simp only[ai,bD,h,bY,aG,aF]
  and_intros <;> first|omega|rfl
 refine AK.fC () [] rfl rfl rfl rfl rfl rfl rfl rfl ?_ rfl rfl rfl rfl (λj c=>absurd c (by simp))
 simp[ai.cat,ai,a9.same]
abbrev RF(s:bo)(l:gM)(i0 b cap n0:Nat)(a:List ak):List aW:=[H3 s,.cells 32 (Ny l),.cells 27 [gA,gA,gA],.buf 55 2 s.1.length (nD s.1 i0 (.slice (aa ⟨b,0,af⟩) n0 cap)),.buf 59 2 s.2.1.length (dz.fn s.2.1),.buf 86 2 s.2.2.length (cH.fn s.2.2),.dM (iZ 88 2 (.row b cap) n0 a),.cells 27 [aB 3 s.1.length s.1.length,aB 4 s.2.1.length s.2.1.length,aB 5 s.2.2.length s.2.2.length]]
set_option maxHeartbeats 4000000 in
theorem Ej(s:bo)(l:gM)(g:gU s)(h:l.1=3)(i0 m:Nat)(d:VS s l i0 m) :
  dZ (ι:={ q:sJ×List ak // e9 2 (s.1.getD i0 (0,[])).2.length (eY.fn (fx (s.1.getD i0 (0,[])).2 m l.2.2.2)) q.2 }) X 23 [k7 s,sc l] []
   (λ_=>.e (.agg [aB 0 s.1.length s.1.length,aB 1 s.2.1.length s.2.1.length,aB 2 s.2.2.length s.2.2.length]))
   (λq=>[.buf 55 2 s.1.length (nD s.1 i0 (oH q.1.1 (s.1.getD i0 (0,[])).2.length)),.buf 59 2 s.2.1.length (dz.fn s.2.1),.buf 86 2 s.2.2.length (cH.fn s.2.2),.dM (iZ 88 2 q.1.1 (s.1.getD i0 (0,[])).2.length q.1.2)]):=by
 have u:=d.ml;have E:=g.p2 _ (tp d.i);have D:=g.p;refine dZ.kL tok Tryz.func23 rfl rfl rfl λJ=>?_
 have a:b5 X [(18,pn)]:=.cons qp .nil;refine aE a [] 100 rfl ay ?_;refine AK.cx (Ei s i0 d.i (by omega) g.p g.p2 g.sn g.s2 g.h) [] rfl rfl rfl rfl rfl rfl rfl (λ_=>rfl) rfl (λ_=>rfl) rfl ?_
 rintro⟨⟨bf,z⟩,C⟩;refine AK.Ox (iZ.len (l:=6) rfl) λw=>?_
 obtain⟨b,cap,rfl⟩:=w.2.2.1 (by omega)
 refine aE a [(13,ae),(42,ae),(48,ab)] 100 rfl ?_ ?_
 .simp[ai,h]
 refine AK.cd 8 (λx:Nat×List ak=>x.1<=s.1.length/\(x.1<=i0->x.2=z)/\(i0<x.1->e9 2 (s.1.getD i0 (0,[])).2.length (eY.fn (fx (s.1.getD i0 (0,[])).2 m l.2.2.2)) x.2)) (λx=>[(3,.e (.one (.ptr 1 0))),(4,.e (.one (.ptr 2 0))),(5,.e (.one (.ptr 7 0))),(8,dI x.1)]) (λx=>RF s l i0 b cap (s.1.getD i0 (0,[])).2.length x.2) (λx=>s.1.length-x.1) (0,z) rfl ?_ rfl ?_ rfl ⟨by omega,λ_=>rfl,λh=>by omega⟩ ?_
 .simp[ai.cat,ai,a9.same]
 .simp only[ai.cat,ai,a9.same,aF,aG]
  and_intros <;> first|exactλ_ _=>rfl|rfl
 rintro⟨i,f⟩ ⟨hi,j,n⟩;simp only at hi j n;have t:0+(i:Int).toNat=i:=by omega
 by_cases h:i<s.1.length
 .by_cases B:i=i0
  .subst B;obtain rfl:=j (ba _);have o:=d.no;have F:=d.at';generalize G:(s.1.getD i (0,[])).2=xs at *;refine aE a [(54,ab),(1000017,ab)] 100 rfl ?_ ?_
   .simp only[ai,bh,aG,aF];omega
   refine AK.Qv (ι:=Unit) eQ 17 20 20 (λk=>bw k 16) (λk=>[.e (.one (.ptr 7 0)),.e (.one (aB 3 s.1.length s.1.length)),dI i,.e (.one (.bp 3 (.el s.1.length 2 (0+(i:Int).toNat) 0))),.e (.one (.bp 3 (.el s.1.length 2 (0+(i:Int).toNat) 0))),dI (s.1.getD (0+(i:Int).toNat) (0,[])).1,.e (.one (.ptr 1 1)),dI l.2.1,dB ((s.1.getD (0+(i:Int).toNat) (0,[])).1==l.2.1),dB ab,.e (.one (.ptr 1 2)),dI l.2.2.1,.e (.one (.ptr 7 0)),.e (.one (aB 3 s.1.length s.1.length)),dI i,.e (.one (.bp 3 (.el s.1.length 2 (0+(i:Int).toNat) 0))),.e (.one (.bp 3 (.el s.1.length 2 (0+(i:Int).toNat) 1)))].getD k .any)
    (λ_ k=>[.e (.one (.c (.val (.slice (aa ⟨b,0,af⟩) xs.length cap)))),dI xs.length,dI (xs.length-1)].getD (k-17) .any)
    (λ_=>RF s l i b cap xs.length f) rfl rfl rfl rfl rfl rfl rfl (λk h=>by have:=dn h;omega) rfl
    ⟨OA.cK tok a rfl,OA.cK tok a rfl,OA.cK tok a rfl,OA.eval (ds:=[]) tok a rfl (by simp only[ai,aF];omega),OA.cK tok a rfl,OA.eval (ds:=[]) tok a rfl (by simp only[ai,aG,aF];omega),OA.cK tok a rfl,OA.cK tok a rfl,OA.cK tok a rfl,OA.eval (ds:=[(66,ab)]) tok a rfl (by simp only[ai.cat,ai,t,o,fp,aG]),OA.cK tok a rfl,OA.cK tok a rfl,OA.cK tok a rfl,OA.cK tok a rfl,OA.cK tok a rfl,OA.eval (ds:=[]) tok a rfl (by simp only[ai,aF];omega),OA.cK tok a rfl,ay,ay,ay,ay,ay,ay⟩
    (λ_=>⟨OA.cK tok a rfl,OA.cK tok a rfl,OA.cK tok a rfl,OA.eval (ds:=[]) tok a rfl (by simp only[ai,aF];omega),OA.cK tok a rfl,OA.eval (ds:=[]) tok a rfl (by simp only[ai,aG,aF];omega),OA.cK tok a rfl,OA.cK tok a rfl,OA.cK tok a rfl,OA.eval (ds:=[(66,ab)]) tok a rfl (by simp only[ai.cat,ai,t,o,fp,aG]),OA.cK tok a rfl,OA.cK tok a rfl,OA.cK tok a rfl,OA.cK tok a rfl,OA.cK tok a rfl,OA.eval (ds:=[]) tok a rfl (by simp only[ai,aF];omega),OA.cK tok a rfl,ay,OA.eval (ds:=[]) tok a rfl (by simp only[ai,aF];omega),OA.eval (ds:=[]) tok a rfl (by simp only[ai,bD,aF];omega),ay⟩)
    (tQ.wi (OA.lJ (vB rfl) (bR.IU tok (e:=.one (.c (.val (.slice (aa ⟨b,0,af⟩) xs.length cap)))) rfl rfl rfl rfl rfl ?_ ?_))) λ_=>?_
   .show aa (E1.one (A.c (Mc s.1 i (.slice (aa ⟨b,0,af⟩) xs.length cap) (0+(i:Int).toNat))))=_;rw[t,Mc,aU rfl]
   .show 0+(i:Int).toNat<_;omega
   refine aE a [(78,ab),(1000018,ab)] 100 rfl ?_ ?_
   .simp only[ai,bh,aF];omega
   refine AK.Qv (ι:=Unit) eQ 5 10 8 (λk=>bw k 4||(bw 6 k&&bw k 9)) (λk=>[.e (.one (.ptr 7 0)),.e (.one (aB 3 s.1.length s.1.length)),dI i,.e (.one (.bp 3 (.el s.1.length 2 (0+(i:Int).toNat) 0))),.e (.one (.bp 3 (.el s.1.length 2 (0+(i:Int).toNat) 1))),.any,.e (.one (.ptr 1 2)),dI l.2.2.1,.e (.one (.ptr 1 3)),.e (.one (.c (.str l.2.2.2)))].getD k .any)
    (λ_ k=>[.e (.one (.c (.val (.slice (aa ⟨b,0,af⟩) xs.length cap))))].getD (k-5) .any)
    (λ_=>RF s l i b cap xs.length f) rfl rfl rfl rfl rfl rfl rfl (λk h=>by simp at h;omega) rfl
    ⟨OA.cK tok a rfl,OA.cK tok a rfl,OA.cK tok a rfl,OA.eval (ds:=[]) tok a rfl (by simp only[ai,aF];omega),OA.cK tok a rfl,ay,OA.cK tok a rfl,OA.cK tok a rfl,OA.cK tok a rfl,OA.cK tok a rfl,ay,ay,ay,ay⟩
    (λ_=>⟨OA.cK tok a rfl,OA.cK tok a rfl,OA.cK tok a rfl,OA.eval (ds:=[]) tok a rfl (by simp only[ai,aF];omega),OA.cK tok a rfl,ay,OA.cK tok a rfl,OA.cK tok a rfl,OA.cK tok a rfl,OA.cK tok a rfl,ay⟩)
    (tQ.wi (OA.lJ (vB rfl) (bR.IU tok (e:=.one (.c (.val (.slice (aa ⟨b,0,af⟩) xs.length cap)))) rfl rfl rfl rfl rfl ?_ ?_))) λ_=>?_
   .show aa (E1.one (A.c (Mc s.1 i (.slice (aa ⟨b,0,af⟩) xs.length cap) (0+(i:Int).toNat))))=_;rw[t,Mc,aU rfl]
   .show 0+(i:Int).toNat<_;omega
   refine aE a [] 100 rfl ?_ ?_
   .simp only[ai,aF];omega
   have H:f.length=xs.length*2:=C.len;have I:0+l.2.2.1.toNat*2+1=m*2+1:=by omega
   refine AK.Ir tok 6 rfl rfl rfl rfl rfl rfl rfl ?_ rfl rfl λvs Mv=>?_
   .show 0+l.2.2.1.toNat*2+1+1<=f.length;omega
   have v:=Av C u Mv;refine aE a [] 100 rfl ?_ (AK.bg (i+1,f.take (m*2+1)++vs++f.drop (m*2+1+vs.length)) rfl ?_ rfl rfl rfl ?_ rfl ?_ ?_)
   .simp only[ai,bD,aF];omega
   .simp[ai.cat,ai,a9.same]
   .simp only[ai.cat,ai,a9.same,aF,aG];show iZ 88 2 _ _ (List.take (0+l.2.2.1.toNat*2+1) f++vs++List.drop (0+l.2.2.1.toNat*2+1+vs.length) f)=_;rw[I]
   .exact⟨by show i+1<=_;omega,λr=>absurd r (by show ¬i+1<=i;omega),λ_=>v⟩
   .show s.1.length-(i+1)<s.1.length-i;omega
  .have y:=d.ne i h B;refine aE a [(54,ab),(66,ae),(78,ae)] 100 rfl ?_ (AK.bg (i+1,f) rfl ?_ rfl rfl rfl ?_ rfl ?_ ?_)
   .simp only[ai,bD,t,dx,bh,aG,aF]
    and_intros <;> first|exact y|omega
   .simp[ai.cat,ai,a9.same]
   .simp[ai.cat,ai,a9.same]
   .exact⟨by show i+1<=_;omega,λr=>j (by have:i+1<=i0:=r;omega),λr=>n (by have:i0<i+1:=r;omega)⟩
   .show s.1.length-(i+1)<s.1.length-i;omega
 obtain rfl:i=s.1.length:=by omega
 refine aE a [(54,ae)] 100 rfl (by simp[ai]) (AK.leaveD rfl rfl ?_)
 refine aE a [] 100 rfl ay ?_;refine AK.fC ⟨(.row b cap,f),n d.i⟩ [3,4,5,6] rfl rfl rfl rfl rfl rfl rfl rfl ?_ rfl rfl rfl rfl l3;simp[ai.cat,ai,a9.same]
theorem G4{f:aX}{args:List D}(s:bo)(l:gM)(i0 m:Nat)(hi:i0<s.1.length)
  (a:dZ (ι:={ q:sJ×List ak // e9 2 (s.1.getD i0 (0,[])).2.length (eY.fn (fx (s.1.getD i0 (0,[])).2 m l.2.2.2)) q.2 }) X f args []
   (λ_=>.e (.agg [aB 0 s.1.length s.1.length,aB 1 s.2.1.length s.2.1.length,aB 2 s.2.2.length s.2.2.length]))
   (λq=>[.buf 55 2 s.1.length (nD s.1 i0 (oH q.1.1 (s.1.getD i0 (0,[])).2.length)),.buf 59 2 s.2.1.length (dz.fn s.2.1),.buf 86 2 s.2.2.length (cH.fn s.2.2),.dM (iZ 88 2 q.1.1 (s.1.getD i0 (0,[])).2.length q.1.2)])) :
  Ev X f args [] (k7 (mJ s l i0 m)) []:=by
 generalize o:s.1.getD i0 (0,[])=p at *;have i:∀ j,j≠i0->cP.fn (mJ s l i0 m).1 j=cP.fn s.1 j:=λj g=>by
  simp[iv.fn,vm,ag,List.getElem?_set,iL g]
 have t:cP.fn (mJ s l i0 m).1 i0=[.int .i64 p.1,.sl ae 2 p.2.length (eY.fn (fx p.2 m l.2.2.2))]:=by
  have:(mJ s l i0 m).1.getD i0 cP.bU=(p.1,fx p.2 m l.2.2.2):=by
   show (s.1.set i0 ((s.1.getD i0 (0,[])).1,fx (s.1.getD i0 (0,[])).2 m l.2.2.2)).getD i0 cP.bU=_;rw[o,ag,cf hi];rfl
  show cP.enc ((mJ s l i0 m).1.getD i0 cP.bU)=_;rw[this];show [C.int .i64 p.1,C.sl ae 2 (fx p.2 m l.2.2.2).length (eY.fn (fx p.2 m l.2.2.2))]=_;rw[Cb]
 have u:=dZ.Dy (σ1:=λq:{ q:sJ×List ak // e9 2 p.2.length (eY.fn (fx p.2 m l.2.2.2)) q.2 }=>[.buf 55 2 s.1.length (nD s.1 i0 (oH q.1.1 p.2.length)),.buf 59 2 s.2.1.length (dz.fn s.2.1),.buf 86 2 s.2.2.length (cH.fn s.2.2)]) (σ2:=λ_=>[.buf 55 2 s.1.length (cP.fn (mJ s l i0 m).1),.buf 59 2 s.2.1.length (dz.fn s.2.1),.buf 86 2 s.2.2.length (cH.fn s.2.2)]) (E:=88) (k:=2) (n:=p.2.length) (bf:=λq=>q.1.1) (xs:=λq=>q.1.2) a (λq=>q.2) 0 (λ_=>rfl) (λ_=>rfl) (λ_=>rfl) (λ_=>rfl) (λ_=>iK _)
  (λq j g=>by
   by_cases h:j=i0
   .subst h;rw[t];rfl
   .rw[i j h];rfl)
  (λq j g r v d=>by
   by_cases h:j=i0
   .subst h;rw[t] at d;have:nD s.1 j (oH q.1.1 p.2.length) j=[.int .i64 p.1,.val (oH q.1.1 p.2.length)]:=by simp only[nD,Mc,bO,o]
    rw[this];rcases r with _|_|r
    .simp at d;subst d;exact⟨_,rfl,.inl rfl⟩
    .simp at d;subst d;exact⟨_,rfl,.inr ⟨rfl,rfl⟩⟩
    .simp at d
   .rw[i j h] at d;have:nD s.1 i0 (oH q.1.1 p.2.length) j=cP.fn s.1 j:=by simp only[nD,Mc,aO h];rfl
    rw[this];exact⟨v,d,.inl rfl⟩)
 have w:=dZ.qz (σ1:=λ_=>[.buf 55 2 s.1.length (cP.fn (mJ s l i0 m).1),.buf 59 2 s.2.1.length (dz.fn s.2.1)]) (E:=86) (k:=2) (n:=λ_=>s.2.2.length) (es:=λ_=>cH.fn s.2.2) u (λ_=>rfl) (λ_=>?_) (λ_=>rfl) (λ_=>iK _)
 have b:=dZ.qz (σ1:=λ_=>[.buf 55 2 s.1.length (cP.fn (mJ s l i0 m).1)]) (E:=59) (k:=2) (n:=λ_=>s.2.1.length) (es:=λ_=>dz.fn s.2.1) w (λ_=>rfl) (λ_=>?_) (λ_=>rfl) (λ_=>iK _)
 have c:=dZ.qz (σ1:=λ_=>[]) (E:=55) (k:=2) (n:=λ_=>s.1.length) (es:=λ_=>cP.fn (mJ s l i0 m).1) b (λ_=>rfl) (λ_=>?_) (λ_=>rfl) (λ_=>ba _)
 refine(c.le (res':=λ_=>k7 (mJ s l i0 m)) (λ_=>rfl) (λ_=>?_)).one
 .simp only[ai.cat,ai,aF,aG,mi];exact⟨a9.same,a9.same,a9.same⟩
 .simp[ai.cat,ai]
 .simp[ai.cat,ai]
 .simp[ai.cat,ai]
theorem G5(s:bo)(l:gM)(b:gU s)(h:l.1=3)(i0 m:Nat)(a:VS s l i0 m):Ev X 23 [k7 s,sc l] [] (k7 (mJ s l i0 m)) [] :=
 G4 s l i0 m a.i (Ej s l b h i0 m a)
def Cc(s:bo)(l:gM):Prop:=∀ j,j<s.1.length->¬((s.1.getD j (0,[])).1=l.2.1/\0<=l.2.2.1/\l.2.2.1<(s.1.getD j (0,[])).2.length)
abbrev shV(s:bo)(l:gM):List aW:=[H3 s,.cells 32 (Ny l),.cells 27 [gA,gA,gA],.vec 55 2 s.1.length (cP.fn s.1),.vec 59 2 s.2.1.length (dz.fn s.2.1),.vec 86 2 s.2.2.length (cH.fn s.2.2),
 .cells 27 [.vec 3 2 s.1.length (cP.fn s.1),.vec 4 2 s.2.1.length (dz.fn s.2.1),.vec 5 2 s.2.2.length (cH.fn s.2.2)]]
set_option maxHeartbeats 4000000 in
theorem G6(s:bo)(l:gM)(a:gU s)(h:l.1=3)(f:Cc s l):Ev X 23 [k7 s,sc l] [] (k7 s) []:=by
 refine Ev.lY tok Tryz.func23 rfl rfl rfl λo=>?_
 have b:b5 X [(18,pn)]:=.cons qp .nil;have k:=a.p;refine aE b [] 100 rfl ay ?_;refine AK.bM (fO s a.p a.p2 a.sn a.s2 a.h) [] rfl rfl rfl rfl rfl rfl rfl rfl rfl rfl rfl ?_;refine aE b [(13,ae),(42,ae),(48,ab)] 100 rfl ?_ ?_
 .simp[ai,h]
 refine AK.cd 7 (λi=>i<=s.1.length) (λi:Nat=>[(3,.e (.one (.ptr 1 0))),(4,.e (.one (.ptr 2 0))),(5,.e (.one (.ptr 6 0))),(8,dI i)]) (λ_=>shV s l) (λi=>s.1.length-i) 0 rfl ?_ rfl ?_ rfl (by omega) ?_
 .simp[ai.cat,ai]
 .simp[ai.cat,ai,a9.same]
 intro i hi
 by_cases h:i<s.1.length
 .have g:=f i h;have m:=a.p2 _ (tp h);have c:s.1.getD (i:Int).toNat cP.bU=s.1.getD i (0,[]):=by rw[bu];rfl
  generalize s.1.getD i (0,[])=p at *
  by_cases d:p.1=l.2.1
  .refine aE b [(54,ab),(66,ab),(78,ae)] 100 rfl ?_ (AK.bg (i+1) rfl ?_ rfl rfl rfl ?_ rfl ?_ ?_)
   .simp only[ai,bD,c,d,fp,bh,bY,aG,aF];and_intros <;> omega
   .simp[ai.cat,ai,a9.same]
   .simp[ai.cat,ai,a9.same]
   .show i+1<=_;omega
   .omega
  .refine aE b [(54,ab),(66,ae),(78,ae)] 100 rfl ?_ (AK.bg (i+1) rfl ?_ rfl rfl rfl ?_ rfl ?_ ?_)
   .simp only[ai,bD,c,dx,bh,bY,aG,aF];and_intros <;> first|exact d|omega
   .simp[ai.cat,ai,a9.same]
   .simp[ai.cat,ai,a9.same]
   .show i+1<=_;omega
   .omega
 obtain rfl:i=s.1.length:=by omega
 refine aE b [(54,ae)] 100 rfl (by simp[ai]) (AK.leaveD rfl rfl ?_)
 refine aE b [] 100 rfl ay ?_;refine AK.fC () [] rfl rfl rfl rfl rfl rfl rfl rfl ?_ rfl rfl rfl rfl (λj n=>absurd n (by simp))
 simp[ai.cat,ai,a9.same]
structure FJ (s:bo):Prop where
 size:gU s
 UW:s.1.Pairwise λa b=>a.1<b.1
 num:∀ x∈s.2.1,-4000000<=x.1/\x.1<=4000000
 h:∀ x∈s.2.2,1<=x.1/\x.1<=2
theorem RH{s:bo}(c:FJ s)(l:gM):(∃ i0 m,VS s l i0 m)∨Cc s l:=by
 by_cases h:Cc s l
 .exact .inr h
 .refine .inl ?_;simp only[Cc,Classical.not_forall,Classical.not_not] at h;obtain⟨i0,hi,d,n,o⟩:=h;refine⟨i0,l.2.2.1.toNat,hi,d,λj b f g=>?_,by omega,by omega⟩
  have e:s.1.getD i0 (0,[])=s.1[i0]:=by rw[ag,aR hi];rfl
  have i:s.1.getD j (0,[])=s.1[j]:=by rw[ag,aR b];rfl
  rw[e] at d;rw[i] at g;rcases cr j i0 with a|k
  .have:=kY.1 c.UW j i0 b hi a;omega
  .have:=kY.1 c.UW i0 j hi b (by omega)
   omega
end Go.AM.R1
namespace Go.AM.R1
open Go.Proofs
structure TA (s:bo):Prop extends lk s where
 pa:s.1.Pairwise λp q=>p.1<q.1
 sa:s.2.1.Pairwise λx y=>x.1<y.1
 hb:∀ h∈s.2.2,1<=h.1/\h.1<=2
theorem TA.nil:TA ([],[],[]):=⟨⟨by simp,by simp,by simp,by simp,by simp,by simp⟩,by simp,by simp,by simp⟩
theorem TA.LC{s:bo}(h:TA s):FJ s:=⟨h.Pf,h.pa,h.RR.s,h.hb⟩
theorem TA.Y0{s:bo}(h:TA s):s.2.1.length<=20:=by
 have:=AI 1 h.sa λx a=>(h.a4 x a).1
 omega
theorem C0{α:Type}{f:α->Int}{l:List α}(h:l.Pairwise λa b=>f a<f b)(j:l.length≠0)(d:α):∀ x∈l,f x<=f (l.getD (l.length-1) d):=by
 intro x e;obtain⟨i,hi,rfl⟩:=dN e;rw[ag,aR (by omega)]
 rcases cr i (l.length-1) with c|g
 .exact Int.le_of_lt (kY.1 h i (l.length-1) hi (by omega) c)
 .have:i=l.length-1:=by omega
  subst this;exact ry _
theorem TA.save{k:Int}{s:bo}{t:List bJ}{by_:Int}(h:TA s)(e:dt t=ab)(hb:1<=by_/\by_<=2)(d:j5 k s t=ae):TA (lj k s by_ t):=by
 refine⟨h.tolk.save h.Y0 e d,?_,?_,λx a=>?_⟩
 .refine List.pairwise_append.2 ⟨h.pa,w9 k _ _ _,λx a y c=>?_⟩
  have h1:x.1<gf s:=by
   unfold gf;split
   .rename_i b
    rw[gh b] at a;simp at a
   .rename_i b
    have:=C0 (f:=λp:bC=>p.1) h.pa b (0,[]) x a
    omega
  have:=tB k _ _ _ y c;omega
 .refine List.pairwise_append.2 ⟨h.sa,by simp,λx a y c=>?_⟩
  rw[fV] at c;subst c;show x.1<fM s;unfold fM;split
  .rename_i b
   rw[gh b] at a;simp at a
  .rename_i b
   have:=C0 (f:=λp:dA=>p.1) h.sa b (0,[]) x a
   omega
 .rcases dr.1 a with a|a
  .exact h.hb x a
  .rw[fV] at a;subst a;exact hb
theorem TA.Vm{s:bo}(h:TA s)(p:dA->Bool):TA (s.1,s.2.1.filter p,s.2.2) :=
 ⟨⟨h.a1,h.a2,eG (mQ _ _) h.a3,λx a=>h.a4 x (lq.1 a).1,h.a5,h.a6⟩,h.pa,h.sa.filter _,h.hb⟩
theorem TA.step{s:bo}(h:TA s) (no:Int)(ms:List Int):TA (eX no ms s.1,s.2):=by
 refine⟨⟨?_,λp c=>?_,h.a3,h.a4,h.a5,h.a6⟩,?_,h.sa,h.hb⟩
 .have:(eX no ms s.1).length<=s.1.length:=by unfold eX;exact eG (mQ _ _) (by simp)
  exact eG this h.a1
 .obtain⟨q,b,rfl,_⟩:=qV c;have:=h.a2 q b;have:=(EA (no:=no) (ms:=ms) (p:=q)).length_le;rw[qh];exact⟨(h.a2 q b).1,by omega⟩
 .show (eX no ms s.1).Pairwise _;unfold eX;refine List.Pairwise.filter _ (List.pairwise_map.2 (h.pa.imp λa=>?_))
  rw[qh,qh];exact a
structure TW (n:Nat)(w:cU):Prop where
 s:TA w.1
 m:w.2.1.length<=n
 l:w.2.2.length<=20
theorem TW.mono{n m:Nat}{w:cU}(h:TW n w)(a:n<=m):TW m w:=⟨h.s,eG h.m a,h.l⟩
abbrev Me:cU:=(([],[],[]),[],[])
theorem TW.nil{n:Nat}:TW n Me:=⟨TA.nil,by simp,by simp⟩
def AY(k:Int)(s:bo)(a:List Int):cU×Bool :=
 if gN k s=ab then (((s.1,s.2.1.filter λx=>a.contains x.1,s.2.2),fQ (s.2.1.filter λx=>a.contains x.1),s.1.map (·.1)),ab) else (Me,ae)
theorem LO{s:bo}(h:lk s):(jD s.2.1).length<=240*21:=by
 have c:=h.a3;have b:(jD s.2.1).length<=240*s.2.1.length:=kt λx a=>ox (h.a4 x a).2
 omega
theorem TW.beg{k:Int}{s:bo}{eH:List Int}(h:TA s):TW 6000 (AY k s eH).1:=by
 unfold AY;split
 .have a:=h.Vm λx=>eH.contains x.1
  refine⟨a,?_,by simp only[iw];exact h.a1⟩
  have h1:=qe (s.2.1.filter λx=>eH.contains x.1) _ (ba _)
  have h2:=LO a.tolk;rw[cq] at h1;simp only at h2 ⊢;omega
 .exact TW.nil
theorem TW.step{n:Nat}{w:cU}(h:TW n w):TW n (xd w):=by
 unfold xd;split
 .exact h
 .rename_i no r hl
  refine⟨h.s.step _ _,h.m,?_⟩;have:=h.l;rw[hl,db] at this;show r.length<=20;omega
def CZ(k:Int)(w:cU) (by_:Int)(t:List bJ):cU:=(lj k w.1 by_ t,(fz (kq (fM w.1) k t).2).foldl kU w.2.1,w.2.2)
def Sm(k:Int)(w:cU) (by_:Int)(t:List bJ):Bool:=fR k w&&decide (1<=by_/\by_<=2)&&dt t
theorem TW.save{k:Int}{n:Nat}{w:cU}{t:List bJ}{by_:Int}(h:TW n w)(c:dt t=ab)(hb:1<=by_/\by_<=2)(b:j5 k w.1 t=ae):TW (n+240) (CZ k w by_ t):=by
 have a:=h.s.save c hb b;refine⟨a,?_,h.l⟩;have h1:=gO w.2.1 (fz (kq (fM w.1) k t).2);have h2:=l8 (kq (fM w.1) k t).2;have e:=ox (a.a4 (kq (fM w.1) k t) (by simp[lj])).2
 have d:=h.m;show ((fz _).foldl kU w.2.1).length<=_;omega
theorem TW.smS{n:Nat}{w:cU}(h:TW n w):NW w.1:=h.s.X8.toNW
def j7(l:List (Int×Int)):Int:=l.foldl (λn h=>64*n+21*h.1+h.2) 0
def xn(m:Int×Int)(l:List (Int×Int)):(Int×Int)×Int :=
 if kT l=ab/\m.1<=l.length/\0<=m.1 then
  if j7 (l.take m.1.toNat)=m.2 then (((l.length:Int),j7 l),0) else (m,2)
 else (m,1)
theorem xo{l:List (Int×Int)}(h:∀ x∈l,(1<=x.1/\x.1<=2)/\1<=x.2/\x.2<=20):∀ i,0<=j7 (l.take i)/\j7 (l.take i)<((64 ^ i:Nat):Int)
 |0=>by simp[j7]
 |i+1=>by
  have a:=xo h i
  by_cases hi:i<l.length
  .have e:j7 (l.take (i+1))=64*j7 (l.take i)+21*(l.getD i (0,0)).1+(l.getD i (0,0)).2:=by
    unfold j7;rw[bx hi (0,0),jG];rfl
   have b:=h _ (eK (d:=(0,0)) hi);rw[e,Nat.pow_succ];omega
  .rw[pz (by omega)]
   rw[pz (by omega)] at a
   rw[Nat.pow_succ];omega
theorem y0{l:List (Int×Int)}(h:kT l=ab):(∀ x∈l,(1<=x.1/\x.1<=2)/\1<=x.2/\x.2<=20)/\l.length<=9:=by
 simp only[kT,bG,bh,bX] at h;refine⟨λx a=>?_,h.2⟩
 have:=(qg (p:=gz) (d:=(0,0))).1 h.1 x a;simpa only[gz,bG,bh] using this
theorem CY{l:List (Int×Int)}(h:∀ x∈l,(1<=x.1/\x.1<=2)/\1<=x.2/\x.2<=20)(c:l.length<=9)(i:Nat):0<=j7 (l.take i)/\j7 (l.take i)<18014398509481984:=by
 rcases Nat.le_total i 9 with b|b
 .have a:=xo h i;have:64 ^ i<=64 ^ 9:=ze (by omega) b
  have e:64 ^ 9=18014398509481984:=by decide
  omega
 .rw[pz (by omega)]
  have a:=xo h l.length;rw[cq] at a;have:64 ^ l.length<=64 ^ 9:=ze (by omega) c
  have e:64 ^ 9=18014398509481984:=by decide
  omega
end Go.AM.R1
namespace Go.AM.R1
open Go.Proofs
variable {X:Cx ah}
abbrev Vj(s:bo)(a:List dA)(l:List Int):List aW:=[H3 s,.cells 30 Sj,.cells 30 [qU cP s.1,.vec 4 2 a.length (dz.fn a),qU cH s.2.2,gA,.vec 5 1 l.length (cI.fn l)],H3 s,.vec 59 2 a.length (dz.fn a),.vec 3 1 l.length (cI.fn l)]
theorem map_take{α a:Type}{l:List α}{f:α->a}{i:Nat}(h:i<l.length)(d:α):(l.take (i+1)).map f=(l.take i).map f++[f (l.getD i d)]:=by
 rw[bx h d,mh];rfl
theorem A0(l:List dA)(q:dA->Bool):(jD (l.filter q)).length<=(jD l).length:=by
 induction l with
 |nil=>simp
 |cons x l a =>
  unfold jD at *;rw[rm,pD,bF];split
  .rw[pD,bF];omega
  .omega
set_option maxHeartbeats 4000000 in
theorem HJ(k:Int)(s:bo)(b:List Int)(g:gU s)(o:NW s):Ev X 61 [dI k,k7 s,cI.sl b] [] (SK (AY k s b).1 (AY k s b).2) []:=by
 refine Ev.kL Tryz.func61 rfl rfl rfl λy=>?_
 have d:b5 X [(39,tu),(41,AT),(38,Ck),(37,w6)]:=.cons yJ (.cons FZ (.cons FO (.cons Cr .nil)));have z:=g.p;have v:=g.sn;unfold AY;cases r:gN k s with
 |false =>
  refine aE d [(15,ab)] 200 rfl ?_ ?_
  .simp only[ai,cP.list_fn,cP.aH,dz.list_fn,dz.aH,cH.list_fn,cH.aH,r,g.p,g.sn,aG,aF,kg];exact o.sm
  refine AK.freeze 6 1 rfl rfl rfl ?_;refine AK.mX tok [] rfl ?_ rfl rfl rfl l3;simp[ai.cat,ai,a9.nil]
 |true =>
 rw[aU rfl];refine aE d [(15,ae),(1000006,ab)] 200 rfl ?_ ?_
 .simp only[ai,cP.list_fn,cP.aH,dz.list_fn,dz.aH,cH.list_fn,cH.aH,r,g.p,g.sn,g,aG,aF,hO];exact o.sm
 refine AK.gV 2 1 59 2 (dz.fn []) rfl rfl ?_;refine AK.gV 2 4 3 1 (cI.fn []) rfl rfl ?_;refine aE d [] 200 rfl ay ?_;refine AK.cd 6 (λi=>i<=s.2.1.length) (λi:Nat=>[(2,cI.sl b),(4,.e (.one (.ptr 0 0))),(6,.e (.one (.ptr 1 0))),(8,.e (.one (.ptr 2 0))),(9,.e (.one (.ptr 3 0))),(10,dI i)])
  (λi=>Vj s ((s.2.1.take i).filter λx=>b.contains x.1) []) (λi=>s.2.1.length-i) 0 rfl ?_ rfl ?_ rfl (by omega) ?_
 .simp[ai.cat,ai,a9.same]
 .simp[ai.cat,ai,a9.same,a9.nil,cP.list_fn,dz.list_fn,cH.list_fn]
 .intro i hi;have q:=filter_le s.2.1 (λx=>b.contains x.1) hi
  by_cases h:i<s.2.1.length
  .have j:s.2.1.getD i dz.bU=s.2.1.getD i (0,[]):=rfl;have c:(s.2.1.take (i+1)).filter (λx=>b.contains x.1)=if b.contains (s.2.1.getD i (0,[])).1=ab then (s.2.1.take i).filter (λx=>b.contains x.1)++[s.2.1.getD i (0,[])] else (s.2.1.take i).filter (λx=>b.contains x.1):=xl h (0,[])
   generalize (s.2.1.take i).filter (λx=>b.contains x.1)=a at *
   generalize s.2.1.getD i (0,[])=x at *;cases m:b.contains x.1 with
   |true =>
    rw[aU m] at c;have l:=dz.cu a x;refine aE d [(30,ab),(40,ab)] 200 rfl ?_ (AK.bg (i+1) rfl (by simp[ai.cat,ai,a9.same]) rfl rfl rfl ?_ rfl h (by omega))
    .simp[-ag,-List.contains_eq_mem,ai,j,h,m,cI.list_fn,cI.aH,bD,show i59.bytes=32 from rfl];omega
    .rw[c];simp only[ai.cat,ai,bu,j,bF,dw,aG,aF]
     and_intros <;> first|exact a9.same|exact l|rfl|omega
   |false =>
    rw[aO (by rw[m];simp)] at c
    refine aE d [(30,ab),(40,ae)] 200 rfl ?_ (AK.bg (i+1) rfl (by simp[ai.cat,ai,a9.same]) rfl rfl rfl ?_ rfl h (by omega))
    .simp[-ag,-List.contains_eq_mem,ai,j,h,m,cI.list_fn,cI.aH,bD];omega
    .rw[c];simp[ai.cat,ai,a9.same]
  obtain rfl:i=s.2.1.length:=by omega
  rw[cq] at q ⊢;have t:=A0 s.2.1 λx=>b.contains x.1
  have n:mZ (s.1,s.2.1.filter (λx=>b.contains x.1),s.2.2):=λx l=>g.s2 x (lq.1 l).1
  have u:=o.aN;generalize s.2.1.filter (λx=>b.contains x.1)=sn at *
  refine aE d [(30,ae)] 200 rfl (by simp[ai]) (AK.leaveD rfl rfl ?_)
  refine aE d [] 200 rfl ay ?_;refine AK.cd 6 (λi=>i<=s.1.length) (λi:Nat=>[(2,cI.sl b),(4,.e (.one (.ptr 0 0))),(6,.e (.one (.ptr 1 0))),(8,.e (.one (.ptr 2 0))),(11,dI i)])
   (λi=>Vj s sn ((s.1.take i).map (·.1))) (λi=>s.1.length-i) 0 rfl (by simp[ai.cat,ai,a9.same]) rfl (by simp[ai.cat,ai,a9.same,a9.nil]) rfl (by omega) ?_
  intro i hi;have w:((s.1.take i).map (·.1)).length=i:=by simp;omega
  by_cases h:i<s.1.length
  .have j:s.1.getD i cP.bU=s.1.getD i (0,[]):=rfl;have c:=map_take (f:=λp:bC=>p.1) h (0,[])
   generalize (s.1.take i).map (λp:bC=>p.1)=a at *
   generalize s.1.getD i (0,[])=p at *;have l:=cI.cu a p.1;refine aE d [(57,ab)] 200 rfl ?_ (AK.bg (i+1) rfl (by simp[ai.cat,ai,a9.same]) rfl rfl rfl ?_ rfl h (by omega))
   .simp[-ag,ai,j,h,bD,show i3.bytes=8 from rfl];omega
   .rw[c];simp only[ai.cat,ai,bu,j,bF,dw,aG,aF]
    and_intros <;> first|exact a9.same|exact l|rfl|omega
  obtain rfl:i=s.1.length:=by omega
  rw[cq];refine aE d [(57,ae)] 200 rfl (by simp[ai]) (AK.leaveD rfl rfl ?_)
  refine aE d [] 200 rfl ?_ ?_
  .simp only[ai,cP.list_fn,cP.aH,dz.list_fn,dz.aH,cH.list_fn,cH.aH,aG,aF];exact⟨n,by omega,by omega⟩
  refine AK.freeze 8 2 rfl rfl rfl ?_;refine AK.freeze 6 1 rfl rfl rfl ?_;refine AK.mX tok [] rfl ?_ rfl rfl rfl l3;simp[ai.cat,ai,a9.same,dz.list_fn]
abbrev F1:dC:=C5 aI Np (aL cI) (λk s a=>SK (AY k s a).1 (AY k s a).2) λ_ s _=>[gU s,NW s]
theorem On:eb X 61 F1:=.H0 λk s a h=>HJ k s a h.1 h.2
def HO(l:gM)(p:bC):bC:=if p.1=l.2.1/\0<=l.2.2.1/\l.2.2.1<p.2.length then (p.1,fx p.2 l.2.2.1.toNat l.2.2.2) else p
def LN(s:bo)(l:gM):bo :=
 if l.1=1 then (s.1.filter λx=>!(x.1==l.2.1),s.2.1,s.2.2)
 else if l.1=2 then (if l.2.1<0∨l.2.1>s.2.2.length then s else (s.1,s.2.1.filter λx=>!qR l.2.1.toNat s.2.2 x,s.2.2.take l.2.1.toNat))
 else if l.1=3 then (s.1.map (HO l),s.2)
 else if l.1=4 then (if 0<=l.2.1/\l.2.1<s.2.2.length then (s.1,s.2.1,s.2.2.set l.2.1.toNat (3-(s.2.2.getD l.2.1.toNat (0,0)).1,(s.2.2.getD l.2.1.toNat (0,0)).2)) else s)
 else s
theorem Ou{s:bo}{l:gM}(h:Cc s l):s.1.map (HO l)=s.1:=by
 apply pF (by simp)
 intro i b a;rw[List.getElem_map];have:=h i a;rw[ag,aR a,dG] at this;exact aO this
theorem LP{s:bo}{l:gM}{i0 m:Nat}(h:VS s l i0 m):s.1.map (HO l)=(mJ s l i0 m).1:=by
 have hi:=h.i
 apply jk
 intro j;have e:(mJ s l i0 m).1=s.1.set i0 ((s.1.getD i0 (0,[])).1,fx (s.1.getD i0 (0,[])).2 m l.2.2.2):=rfl;rw[e,mT]
 by_cases b:j<s.1.length
 .have c:s.1[j]?=aa (s.1.getD j (0,[])):=by rw[ag,aR b];rfl
  by_cases a:j=i0
  .subst a;rw[cf b,c];have g:=h.ml;have d:=h.at';simp only[jl,HO];rw[aU ⟨h.no,by omega,by omega⟩,d,bu]
  .rw[cQ (λh=>a h.symm),c]
   simp only[jl,HO];rw[aO (λf=>h.ne j b a f.1)]
 .rw[eU (by omega),eU (by simp;omega)];rfl
structure Vn (X:Cx ah)(s:bo)(l:gM)(s':bo):Prop where
 z:gU s'
 b:Ev X 23 [k7 s,sc l] [] (k7 s') []
theorem Pn{s:bo}(o:FJ s)(l:gM):Vn X s l (LN s l):=by
 have a:=o.size;have w:=a.h;unfold LN
 by_cases q:l.1=1
 .rw[aU q];exact⟨⟨eG (mQ _ _) a.p,λp j=>a.p2 p (lq.1 j).1,a.sn,a.s2,a.h⟩,GX s l a q⟩
 rw[aO q]
 by_cases f:l.1=2
 .rw[aU f]
  by_cases c:l.2.1<0∨l.2.1>s.2.2.length
  .rw[aU c];exact⟨a,yz s l s a f (Eb s l.2.1 a.h c)⟩
  .rw[aO c];have n:l.2.1=(l.2.1.toNat:Nat):=by omega
   have r:=Ec (X:=X) s l.2.1.toNat (by omega) a.sn o.num a.h
   rw[<-n] at r;refine⟨⟨a.p,a.p2,eG (mQ _ _) a.sn,λx v=>a.s2 x (lq.1 v).1,?_⟩,yz s l _ a f r⟩
   simp;omega
 rw[aO f]
 by_cases c:l.1=3
 .rw[aU c];rcases RH o l with⟨i0,m,d⟩|n
  .have e:(s.1.map (HO l),s.2)=mJ s l i0 m:=by rw[LP d]
   rw[e];refine⟨⟨by simpa using a.p,λp j=>?_,a.sn,a.s2,a.h⟩,G5 s l a c i0 m d⟩
   rcases nO j with j|rfl
   .exact a.p2 p j
   .simpa[fx] using a.p2 _ (tp d.i)
  .rw[Ou n];exact⟨a,G6 s l a c n⟩
 rw[aO c]
 by_cases g:l.1=4
 .rw[aU g]
  by_cases k:0<=l.2.1/\l.2.1<s.2.2.length
  .rw[aU k];have t:(s.2.2.getD (0+l.2.1.toNat) cH.bU)∈s.2.2:=by
    rw[ag,aR (by omega)];exact dy _
   have r:=o.h _ t;have u:bD .i64 (3-O5 s l):=by
    show -9223372036854775808<=_/\_<=9223372036854775807;unfold O5;omega
   have b:=GZ (X:=X) s l a g k.1 k.2 u;have e:s.2.2.set (0+l.2.1.toNat) (3-O5 s l,(s.2.2.getD (0+l.2.1.toNat) cH.bU).2)=s.2.2.set l.2.1.toNat (3-(s.2.2.getD l.2.1.toNat (0,0)).1,(s.2.2.getD l.2.1.toNat (0,0)).2):=by
    unfold O5;rw[bm];rfl
   rw[e] at b;exact⟨⟨a.p,a.p2,a.sn,a.s2,by simpa using a.h⟩,b⟩
  .rw[aO k];exact⟨a,Ee s l a g k⟩
 .rw[aO g];exact⟨a,GW s l a q f c g⟩
structure CX (l:List (Int×Int)):Prop where
 h:∀ x∈l,(1<=x.1/\x.1<=2)/\1<=x.2/\x.2<=20
 n:l.length<=9
theorem CX.of{l:List (Int×Int)}(h:kT l=ab):CX l:=⟨(y0 h).1,(y0 h).2⟩
theorem CX.take{l:List (Int×Int)}(h:CX l)(i:Nat):CX (l.take i):=⟨λx a=>h.h x (gY a),by have:=h.n;rw[bn];omega⟩
theorem HK{l:List (Int×Int)}{i:Nat}(h:i<l.length):j7 (l.take (i+1))=64*j7 (l.take i)+21*(l.getD i (0,0)).1+(l.getD i (0,0)).2:=by
 unfold j7;rw[bx h (0,0),jG];rfl
theorem LJ(l:List (Int×Int))(a:CX l):Ev X 107 [cH.sl l] [] (dI (j7 l)) []:=by
 refine Ev.body Tryz.func107 rfl rfl rfl λe=>?_
 have d:=a.n;refine bP rfl ay ?_;refine AK.cd 0 (λi=>i<=l.length) (λi:Nat=>[(0,cH.sl l),(3,dI (j7 (l.take i))),(4,dI i)]) (λ_=>[]) (λi=>l.length-i) 0 rfl (by simp[ai.cat,ai,a9.same,j7]) rfl ay rfl (by omega) ?_
 intro i hi
 by_cases h:i<l.length
 .have b:l.getD i cH.bU=l.getD i (0,0):=rfl;have g:=HK h;have f:=CY a.h a.n i;have c:=CY a.h a.n (i+1);have j:=a.h _ (jB h (0,0));refine bd [(8,ab)] 100 rfl ?_ (AK.bg (i+1) rfl ?_ rfl rfl rfl ay rfl h (by omega))
  .simp only[ai,bu,b,bD,bh,aG,aF];and_intros <;> omega
  .simp only[ai.cat,ai,bu,b,aG,aF]
   and_intros <;> first|exact a9.same|omega
 obtain rfl:i=l.length:=by omega
 rw[cq];refine bd [(8,ae)] 100 rfl (by simp[ai]) (AK.leaveD rfl rfl ?_)
 exact bP rfl ay (AK.br rfl (by simp[ai]))
abbrev LK:dC:=k6 (aL cH) (λl=>dI (j7 l)) λl=>[CX l]
theorem Sl:eb X 107 LK:=.pf λl h=>LJ l h
abbrev V0(m:Int×Int):D:=.e (.agg [.c (.int .i64 m.1),.c (.int .i64 m.2)])
abbrev V1(q:(Int×Int)×Int):D:=.fW [.agg [.c (.int .i64 q.1.1),.c (.int .i64 q.1.2)],.one (.c (.int .i64 q.2))]
theorem Ot(m:Int×Int)(l:List (Int×Int))(o:l.length<=4000000):Ev X 88 [V0 m,cH.sl l] [] (V1 (xn m l)) []:=by
 refine Ev.kL Tryz.func88 rfl rfl rfl λk=>?_
 have b:b5 X [(79,sr),(107,LK)]:=.cons FP (.cons Sl .nil);unfold xn;cases a:kT l with
 |false =>
  rw[aO (by simp)]
  refine aE b [(8,ab),(15,ab),(20,ab)] 200 rfl (by simp[ai,a,cH.list_fn,cH.aH]) ?_
  refine AK.freeze 4 1 rfl rfl rfl ?_;exact AK.mX tok [] rfl (by simp[ai.cat,ai]) rfl rfl rfl l3
 |true =>
 have d:=CX.of a
 by_cases h:m.1<=l.length
 rotate_left
 .rw[aO (by simp[h])]
  refine aE b [(8,ae),(15,ab),(20,ab)] 200 rfl ?_ ?_
  .simp only[ai,a,cH.list_fn,cH.aH,hO,bh,aG,aF];omega
  refine AK.freeze 4 1 rfl rfl rfl ?_;exact AK.mX tok [] rfl (by simp[ai.cat,ai]) rfl rfl rfl l3
 by_cases e:0<=m.1
 rotate_left
 .rw[aO (by simp[e])]
  refine aE b [(8,ae),(15,ae),(20,ab)] 200 rfl ?_ ?_
  .simp only[ai,a,cH.list_fn,cH.aH,hO,bh,bY,aG,aF];omega
  refine AK.freeze 4 1 rfl rfl rfl ?_;exact AK.mX tok [] rfl (by simp[ai.cat,ai]) rfl rfl rfl l3
 rw[aU ⟨rfl,h,e⟩];have n:(m.1.toNat:Int)=m.1:=uS e;have f:cH.list (cE l.length (aa m.1)-cE 0 af) (jb (cE 0 af) (cH.fn l))=l.take m.1.toNat:=by
  have j:cE l.length (aa m.1)-cE 0 af=m.1.toNat:=by simp[cE]
  rw[j,cH.yv l (λi hi=>by simp[jb,cE]) (by omega)]
 have g:cH.fits (cE l.length (aa m.1)-cE 0 af) (jb (cE 0 af) (cH.fn l)):=cH.Ap l (λi hi=>by simp[jb,cE])
 by_cases c:j7 (l.take m.1.toNat)=m.2
 .rw[aU c];refine aE b [(8,ae),(15,ae),(20,ae),(29,ae)] 200 rfl ?_ ?_
  .simp only[ai,iU,f,g,a,d,d.take,c,cH.list_fn,cH.aH,hO,bh,bY,nR,aG,aF];omega
  refine AK.freeze 4 1 rfl rfl rfl ?_;exact AK.mX tok [] rfl (by simp[ai.cat,ai,cH.list_fn]) rfl rfl rfl l3
 .rw[aO c];refine aE b [(8,ae),(15,ae),(20,ae),(29,ab)] 200 rfl ?_ ?_
  .simp only[ai,iU,f,g,a,d,d.take,cH.list_fn,cH.aH,hO,bh,bY,lx,aG,aF];and_intros <;> first|exact c|omega
  refine AK.freeze 4 1 rfl rfl rfl ?_;exact AK.mX tok [] rfl (by simp[ai.cat,ai]) rfl rfl rfl l3
def sF(k:Int)(w:cU) (by_:Int)(t:List bJ):cU×Bool :=
 if Sm k w by_ t=ab then (if j5 k w.1 t=ab then (w,ae) else (CZ k w by_ t,ab)) else (Me,ae)
structure LF (w:cU):Prop where
 s:gU w.1
 m:NW w.1
 n:w.2.1.length<=4000000
 l:w.2.2.length<=4000000
theorem TW.sz{n:Nat}{w:cU}(h:TW n w)(hn:n<=1000000):LF w:=⟨h.s.tolk.Pf,h.smS,by have:=h.m;omega,by have:=h.l;omega⟩
set_option maxHeartbeats 4000000 in
theorem xU(k:Int)(w:cU) (by_:Int)(t:List bJ)(d:LF w):Ev X 87 [dI k,H5 w,dI by_,cF.sl t] [] (SK (sF k w by_ t).1 (sF k w by_ t).2) []:=by
 refine Ev.kL Tryz.func87 rfl rfl rfl λM=>?_
 have b:b5 X [(19,tw),(18,pn),(58,SH),(66,vp),(75,AB),(76,AA)]:=.cons yK (.cons qp (.cons t58 (.cons AU (.cons FQ (.cons Eo .nil)))));have v:=d.m;have a:(w.1,w.2.1,w.2.2)=w:=rfl;have q:sF k w by_ t=if fR k w=ab then (if 1<=by_/\by_<=2 then (if dt t=ab then (if j5 k w.1 t=ab then (w,ae) else (CZ k w by_ t,ab)) else (Me,ae)) else (Me,ae)) else (Me,ae):=by
  unfold sF Sm
  by_cases f:fR k w=ab <;> by_cases g:1<=by_/\by_<=2 <;> by_cases o:dt t=ab <;> simp[f,g,o]
 rw[q];cases f:fR k w with
 |false =>
  rw[aO (by simp)]
  refine aE b [(18,ab),(23,ab),(28,ab)] 200 rfl ?_ ?_
  .simp only[ai,cP.list_fn,cP.aH,dz.list_fn,dz.aH,cH.list_fn,cH.aH,cI.list_fn,cI.aH,a,f,v,kg,aG,aF]
  refine AK.freeze 8 1 rfl rfl rfl ?_;exact AK.mX tok [] rfl (by simp[ai.cat,ai,a9.nil]) rfl rfl rfl l3
 |true =>
 rw[aU rfl]
 by_cases g:1<=by_/\by_<=2
 rotate_left
 .rw[aO g];refine aE b [(18,ae),(23,ab),(28,ab)] 200 rfl ?_ ?_
  .simp only[ai,cP.list_fn,cP.aH,dz.list_fn,dz.aH,cH.list_fn,cH.aH,cI.list_fn,cI.aH,a,f,v,hO,aG,aF];rw[cJ g];rfl
  refine AK.freeze 8 1 rfl rfl rfl ?_;exact AK.mX tok [] rfl (by simp[ai.cat,ai,a9.nil]) rfl rfl rfl l3
 rw[aU g];cases o:dt t with
 |false =>
  rw[aO (by simp)]
  refine aE b [(18,ae),(23,ae),(28,ab)] 200 rfl ?_ ?_
  .simp only[ai,cP.list_fn,cP.aH,dz.list_fn,dz.aH,cH.list_fn,cH.aH,cI.list_fn,cI.aH,cF.list_fn,cF.aH,a,f,g,o,v,iJ,nZ,hO,kg,aG,aF]
  refine AK.freeze 8 1 rfl rfl rfl ?_;exact AK.mX tok [] rfl (by simp[ai.cat,ai,a9.nil]) rfl rfl rfl l3
 |true =>
 rw[aU rfl];have z:=uj.1 f;have C:=z.toAL.X9;have I:=C.RR;have c:=GU (X:=X) k w.1 by_ t z.key d.s I (pv o) C.fN;cases A:j5 k w.1 t with
 |true =>
  rw[A,aU rfl] at c;rw[aU rfl];refine aE b [(18,ae),(23,ae),(28,ae)] 200 rfl ?_ ?_
  .simp only[ai,cP.list_fn,cP.aH,dz.list_fn,dz.aH,cH.list_fn,cH.aH,cI.list_fn,cI.aH,cF.list_fn,cF.aH,a,f,g,o,v,iJ,nZ,hO,kg,aG,aF]
  refine AK.bM c [] rfl rfl rfl rfl rfl rfl rfl rfl rfl rfl rfl ?_;refine aE b [(42,ab)] 200 rfl ?_ ?_
  .simp only[ai,cP.list_fn,cP.aH,dz.list_fn,dz.aH,cH.list_fn,cH.aH,cI.list_fn,cI.aH,a,d.s,d.n,d.l,hO,kg,aG,aF]
  refine AK.freeze 8 1 rfl rfl rfl ?_;exact AK.mX tok [] rfl (by simp[ai.cat,ai,a9.same,cP.list_fn,dz.list_fn,cH.list_fn,cI.list_fn]) rfl rfl rfl l3
 |false =>
 rw[A,aO (by simp)] at c
 rw[aO (by simp)]
 refine aE b [(18,ae),(23,ae),(28,ae)] 200 rfl ?_ ?_
 .simp only[ai,cP.list_fn,cP.aH,dz.list_fn,dz.aH,cH.list_fn,cH.aH,cI.list_fn,cI.aH,cF.list_fn,cF.aH,a,f,g,o,v,iJ,nZ,hO,kg,aG,aF]
 refine AK.bM c [] rfl rfl rfl rfl rfl rfl rfl rfl rfl rfl rfl ?_;have u:=C.save (k:=k) (t:=t) (by_:=by_) (by have:=AI 1 z.sa λx K=>(z.sn x K).1;omega) o A
 have B:(lj k w.1 by_ t).2.1.length=w.1.2.1.length+1:=by simp[lj]
 have j:(lj k w.1 by_ t).2.1.getD ((lj k w.1 by_ t).2.1.length-1) (0,[])=kq (fM w.1) k t:=by
  rw[B];simp[lj,ag]
 have p:=u.a4 (kq (fM w.1) k t) (by simp[lj])
 have J:=ox p.2;have G:=l8 (kq (fM w.1) k t).2;have L:=u.a3;have H:=d.n;unfold CZ;generalize lj k w.1 by_ t=s' at *;generalize kq (fM w.1) k t=x at *;have r:((s'.2.1.length:Int)-1).toNat=s'.2.1.length-1:=by omega
 have F:s'.2.1.getD ((s'.2.1.length:Int)-1).toNat dz.bU=x:=by rw[r];exact j
 refine aE b [(42,ae)] 200 rfl ?_ ?_
 .simp only[ai,F,cP.list_fn,cP.aH,dz.list_fn,dz.aH,cH.list_fn,cH.aH,cI.list_fn,cI.aH,cL.list_fn,cL.aH,a,d.s,d.n,d.l,bD,hO,kg,aG,aF];have:=p.2.1
  and_intros <;> omega
 rw[F];simp only[cL.list_fn];generalize fz x.2=ns at *;refine AK.cd 4 (λi=>i<=ns.length) (λi:Nat=>[(5,.e (.one (.ptr 0 0))),(8,.e (.one (.ptr 1 0))),(10,.e (.one (.ptr 2 0))),(12,.e (.one (.ptr 3 0))),(13,cI.sl ns),(14,dI i)])
  (λi=>[Md w,.cells 30 Sj,H3 s',Md (s',(ns.take i).foldl kU w.2.1,w.2.2)]) (λi=>ns.length-i) 0 rfl ?_ rfl ?_ rfl (by omega) ?_
 .simp[ai.cat,ai,a9.same]
 .simp[ai.cat,ai,a9.same,a9.nil,cP.list_fn,dz.list_fn,cH.list_fn,cI.list_fn]
 intro i hi
 by_cases h:i<ns.length
 .have y:ns.getD i cI.bU=ns.getD i 0:=rfl;have D:=tv kU w.2.1 h;have E:=gO w.2.1 (ns.take i);rw[bn] at E;generalize (ns.take i).foldl kU w.2.1=a2 at *;have e:=cI.list_fn a2;refine aE b [(58,ab)] 200 rfl ?_ (AK.bg (i+1) rfl ?_ rfl rfl rfl ?_ rfl h (by omega))
  .simp[-ag,ai,y,h,e,cI.aH,bD];omega
  .simp[ai.cat,ai,a9.same]
  .rw[D];simp[-ag,ai.cat,ai,y,e,a9.same]
 obtain rfl:i=ns.length:=by omega
 rw[cq];refine aE b [(58,ae)] 200 rfl (by simp[ai]) (AK.leaveD rfl rfl ?_)
 refine aE b [] 200 rfl ay ?_;refine AK.freeze 8 1 rfl rfl rfl ?_;exact AK.mX tok [] rfl (by simp[ai.cat,ai,a9.same]) rfl rfl rfl l3
end Go.AM.R1
namespace Go.AM
open Go.Conc (G)
def M6(T:List (Nat×TI))(fn:Func)(a:Nat)(res:D)(σ':List aW):Post:=λe φ σ1 =>
 (e=.ret∨e=.normal)/\∃ ks l E cs t ty it u x ps,look φ u=.e x/\fn.results.toList=[.cell t ty,.tmp u]/\bL T ty=aa it/\it.agg=ab/\cs.length=it.size/\look φ t=.e (.one (.ptr l 0))/\σ1[l]?=aa (.cells E cs)/\l∉ks /\
  Bf (.fW [.agg cs,x]) (jQ ks res)=aa ps/\ai ps/\uy ks.length res=ab/\kW ks σ1=aa σ'/\km σ'=ab/\eh ks=ab/\(∀ j,j<a->ks[j]?=aa j)
set_option maxHeartbeats 1000000 in
theorem dZ.QF{P:an}{ι:Type}{X:Cx P}{T:List (Nat×TI)}(hT:dk P T){f:aX}{fn:Func}{c:Code}{args:List D}{σ:List aW}{σ':ι->List aW}{res:ι->D}(hf:P.funcs[f]?=aa fn)(Jh:(fn.name== "runtime.NumGoroutine")=ae)(hb:fn.body=aa c)(hlen:args.length<=fn.ntmps)
  (h:∀ s a,cw fn.ntmps σ s (iA 0 args) a->aJ σ s->∀ (b:aQ) (k:List Item) (cs:List aQ) (S:au->St->Prop),b.kind≠.early->b.roundOf=af ->
  (∀ e J σ1 s' a',(∃ j,M6 T fn σ.length (res j) (σ' j) e J σ1)->cw fn.ntmps σ1 s' J a'->aJ σ1 s'->cC σ s σ1 s'->ends X S b k cs e a' s')->fG X S (G (b.aT a (.code c::k)) cs) s):dZ X f args σ res σ':=by
 refine⟨⟨fn,hf,Jh,by rw[hb];rfl⟩,λs vs hr hh S cs hS=>?_⟩
 obtain⟨hl,hg⟩:=cG.get hr
 let b:aQ:={ fn:=f,tmps:=#[],todo:=[],defers:=[],mode:=.run,kind:=.normal,roundOf:=af }
 have O:Frame.enter P f vs.toArray .normal=b.aT { tmps:=vs.toArray++Array.replicate (fn.ntmps-vs.toArray.size) aj,defers:=[] } [.code c]:=by
  simp[Frame.enter,Frame.aT,hf,hb,b]
 rw[O];refine h s { tmps:=vs.toArray++Array.replicate (fn.ntmps-vs.toArray.size) aj,defers:=[] } ⟨by simp;omega,⟨[],ay⟩,λt=>?_⟩ hh b [] cs S (by simp[b]) rfl ?_
 .rw[lS];simp only[iK,bO,lu];have:=hg t;rcases cr t vs.length with qu|Pv
  .have e:(vs.toArray++Array.replicate (fn.ntmps-vs.toArray.size) aj).getD t aj=(vs[t]?).getD aj:=by
    simp only[cT];rw[uL (by simpa using qu)]
    simp
   rw[e];exact this
  .rw[eU (by omega)]
   trivial
 .rintro e J σ0 s0 a1 ⟨jj,he,ks,l,E,TX,t,ty,it,u,x0,ps,q0,q1,q2,q3,q4,q5,q6,q7,h3,h4,h5,Xz,TQ,h8,h9⟩ f0 h0 TB;obtain⟨h7,XA⟩:=sZ TQ;have A:=f0.slot t;rw[q5] at A;obtain⟨_,L,bb,q,Pr,QC⟩:=A;have R:=f0.slot u;rw[q0] at R;obtain⟨b2,d,OF,Z,TY,hM⟩:=h0.box l _ L q6 q;subst OF;cases Pr
  let M':Mem:=λp o=>if p=bb then d[o]? else s0.M p o
  have H9:∀ o v,d[o]?=aa v->s0.w.cell? ⟨bb,o,af⟩=aa v:=λo v ho=>by simpa[aY,Z] using ho
  have Ml:∀ p o v,s0.M p o=aa v->M' p o=aa v:=λp o v H=>by
   by_cases e:p=bb
   .subst e;rw[hM] at H;cases H
   .simp only[M',e,bH];exact H
  have TZ:∀ p o v,M' p o=aa v->s0.w.cell? ⟨p,o,af⟩=aa v:=λp o v H=>by
   by_cases e:p=bb
   .subst e;simp only[M',bO] at H;exact H9 o v H
   .simp only[M',e,bH] at H;exact h0.mem p o v H
  obtain⟨h',C⟩:=h0.iT (M':=M') (w':=s0.w) (B':=.dead) (L':=⟨.pointer (aa ⟨bb,0,af⟩),[]⟩) q6 q rfl (ba _) (λ_ _ _=>rfl) (λp _ g o=>by
   simp at g;simp only[M',g,bH]) Ml TZ (by simp) rfl rfl rfl ay
  have Ql:eW s0 ⟨s0.β.set l ⟨.pointer (aa ⟨bb,0,af⟩),[]⟩,M',s0.w,s0.own⟩:=⟨rfl,Ml,λp g o=>by
   have:p≠bb:=by rintro rfl;exact g _ (bz q) (by simp)
   simp only[M',this,bH],TZ,λp g=>by
   rcases g with g|⟨L',W,g⟩
   .exact .inl g
   .rcases nO W with W|rfl
    .exact .inr ⟨L',W,g⟩
    .simp at g⟩
  have f':cw fn.ntmps (σ0.set l .dead) ⟨s0.β.set l ⟨.pointer (aa ⟨bb,0,af⟩),[]⟩,M',s0.w,s0.own⟩ J a1:=⟨f0.size,f0.defers.imp λ_ h1=>h1.mono C.ext,λu=>(f0.slot u).mono C.ext h0.len⟩
  have h6:=z0 (x:=aW.dead) Xz q7;have QD:dX (σ0.set l .dead) ⟨s0.β.set l ⟨.pointer (aa ⟨bb,0,af⟩),[]⟩,M',s0.w,s0.own⟩ d TX:=TY.mono C.ext h0.len;have st:=TB.trans (C.oA h0);have Q:∀ w,(∀ b o u,M' b o=aa u->w.cell? ⟨b,o,af⟩=aa u)->(results fn a1.tmps).run P w=.ok (.tuple #[.agg d.toArray,a1.tmps.getD u aj]) w/\∀ e∈(results fn a1.tmps).events P w #[],∃ b o u,e=⟨.cell ⟨b,o,af⟩,ae,ae⟩/\M' b o=aa u:=by
   intro w hw;have Y:=hT ty it q2;have T1:d.length=it.size:=by rw[TY.length,q4]
   have OT:∀ j v,d[j]?=aa v->w.cell? ⟨bb,0+j,af⟩=aa v:=λj v hj=>hw _ _ _ (by simp only[M',bO,bm];exact hj)
   have PR:=run_loadCells_list (P:=P) w ⟨bb,0,af⟩ d (λj v hj=>by rw[di];exact OT j v hj)
   rw[T1] at PR;have C1:(loadVar ty ⟨bb,0,af⟩).run P w=.ok (.agg d.toArray) w:=by
    simp only[loadVar,bZ,Y.jy,cg,q3];simp[Y.run_sizeOf,PR]
   have PI:fn.results=#[.cell t ty,.tmp u]:=by apply il;simpa using q1
   have U:asAddr (a1.tmps[t]?.getD aj)=(pure ⟨bb,0,af⟩:Sem Addr):=by rw[<-cT,QC];rfl
   refine⟨by simp[results,PI,U,C1],λe he=>?_⟩
   have HS:e∈(loadVar ty ⟨bb,0,af⟩).events P w #[]:=by
    simpa[results,PI,U,C1] using he
   obtain⟨j,hj,rfl⟩:=jr Y (w:=w) (n:=d.length) (λj hj=>⟨_,OT j d[j] (aR hj)⟩) (by rw[q3,T1];simp) e HS
   exact⟨bb,0+j,d[j],rfl,by simp only[M',bO,bm];exact aR hj⟩
  have fin:∀ (fr:aQ) s2,cm (⟨s0.β.set l ⟨.pointer (aa ⟨bb,0,af⟩),[]⟩,M',s0.w,s0.own⟩:St) s2->fr.fn=f->fr.tmps=a1.tmps->fr.defers=a1.defers->fr.mode=.returning->fr.kind=.normal->fG X S (G fr cs) s2:=by
   intro fr s2 nN e1 e2 e3 e4 e5;have f2:=f'.rely nN h';have z:=h'.rely nN;have i:=st.trans nN.stepW;have hx2:mc (σ0.set l .dead) s2 (a1.tmps.getD u aj) x0:=mc.mono nN.stepW.ext h'.len (mc.mono C.ext h0.len R);have r2:dh (σ0.set l .dead) s2 (.tuple #[.agg d.toArray,a1.tmps.getD u aj]) (.fW [.agg TX,x0]):=⟨[.agg d.toArray,a1.tmps.getD u aj],rfl,⟨d,rfl,QD.mono nN.stepW.ext h'.len⟩,hx2,ay⟩;obtain⟨m,I⟩:=vC (l':=s2.β) h6 z.len;have r4:=(oU h3 h4 r2).sub h6 I h5;obtain⟨c1,c2⟩:=gJ h6;obtain⟨d1,d2⟩:=gJ I;have S1:∀ L∈m,L∈s2.β:=vb I;have Jf:aJ (σ' jj) { s2 with β:=m }:=by
    obtain⟨g1,_⟩:=z.sub h6 I h7 h8;refine⟨g1.mem,g1.len,λj B L V q=>?_,g1.gb,g1.lt,λb hb=>⟨(z.own b hb).1,λL q=>(z.own b hb).2 L (S1 L q)⟩⟩
    exact eZ.plain (σ:=σ' jj) (s:={ s2 with β:=m,own:=xu s2 m }) (s':={ s2 with β:=m }) rfl rfl (jA h7 B (bz V)) (g1.box j B L V q)
   have Jm:cC σ s (σ' jj) { s2 with β:=m }:=by
    refine⟨i.size,i.eH,i.mem,i.jq,λL q b hb=>i.tK _ (S1 L q) b hb,λl B L V q=>?_,i.os,i.tape,i.output,i.own⟩
    have hl:l<σ.length:=(bt.1 V).1;obtain⟨B',L',p1,p2,p3⟩:=i.box l B L V q;obtain⟨x,x1,x2⟩:=c2 l l (h9 l hl);obtain⟨y,y1,y2⟩:=d2 l l (h9 l hl);rw[p1] at x2;cases x2;rw[p2] at y2;cases y2;exact⟨B',L',x1,y1,p3⟩
   obtain⟨ls,L6⟩:=f2.defers;refine og ls fr s2 _ z.kD (by intro B V;simp only[jK] at V;obtain⟨_,_,rfl⟩:=V;rfl) e4 (by rw[e3];exact L6.taken z) λs3 r=>?_
   have F:cm { s2 with β:=m } { s3 with β:=m }:=by
    refine⟨rfl,r.M,r.own,r.size,λb hb=>r.eH b (hb.imp id ?_),r.mem,r.os,r.tape,r.output⟩
    rintro⟨L,q,hb⟩;obtain⟨j,hj,rfl⟩:=dN q;have T2:j<ks.length:=by rw[<-d1];exact hj
    obtain⟨y,y1,y2⟩:=d2 j _ (aR T2);obtain⟨x,x1,x2⟩:=c2 j _ (aR T2);rw[aR hj] at y1;cases y1;refine⟨_,_,y2,λhc=>?_,hb⟩
    rw[L6.yb _ hc] at x2;cases x2;exact lH XA _ (bz x1) rfl
   have hG:eW s3 { s3 with β:=m }:=⟨rfl,λ_ _ _ h=>h,λ_ _ _=>rfl,λb o v H=>r.mem b o v (by rw[<-r.M];exact H),λb hb=>hb.imp id λ⟨L,q,hb⟩=>⟨L,by rw[r.β];exact S1 L q,hb⟩⟩
   have QE:s2.M=M':=nN.M;refine .ghost hG (hS jj _ (.tuple #[.agg d.toArray,a1.tmps.getD u aj]) _ ⟨e1,e4,rfl,e5,fn,by show P.funcs[fr.fn]?=_;rw[e1];exact hf,λw hw=>?_⟩ (r4.mono F.stepW.ext Jf.len) (Jf.rely F) (Jm.trans F.stepW))
   show (results fn fr.tmps).run P w=_/\∀ e∈(results fn fr.tmps).events P w #[],_;rw[e2];have T3:∀ b o u,M' b o=aa u->w.cell? ⟨b,o,af⟩=aa u:=λb o u h=>hw b o u (by show s3.M b o=aa u;rw[r.M,QE];exact h)
   refine⟨(Q w T3).1,λe he=>?_⟩
   obtain⟨b,o,u,q1,q2⟩:=(Q w T3).2 e he;exact⟨b,o,u,q1,by show s3.M b o=aa u;rw[r.M,QE];exact q2⟩
  rcases he with rfl|rfl
  .intro pre;exact .ghost Ql (.ctl h' rfl (λ_=>zn rfl) λs2 nN=>fin _ s2 nN rfl rfl (hJ _) rfl rfl)
  .exact .ghost Ql (.ctl h' rfl (λ_=>zo rfl) λs2 nN=>fin _ s2 nN rfl rfl (hJ _) rfl rfl)
theorem dZ.BH{P:an}{ι:Type}{X:Cx P}{T:List (Nat×TI)}(m:dk P T){f:aX}{fn:Func}{c:Code}{args:List D}{σ:List aW}{σ':ι->List aW}{res:ι->D}(i:P.funcs[f]?=aa fn)(d:(fn.name== "runtime.NumGoroutine")=ae)(hb:fn.body=aa c)(g:bw args.length fn.ntmps=ab)
  (h:Fits args σ->AK X fn.ntmps (λe φ σ1=>∃ j,M6 T fn σ.length (res j) (σ' j) e φ σ1) [.code c] .normal (iA 0 args) σ):dZ X f args σ res σ':=by
 refine⟨⟨fn,i,d,by rw[hb];rfl⟩,λs0 vs hr LV=>?_⟩
 have:=dZ.QF (X:=X) (σ':=σ') (res:=res) m i d hb (dn g) λs a f hh b k cs S n _ l=>(show AW X fn.ntmps c _ (iA 0 args) σ from AK.of_code (h ⟨s0,vs,hr,LV⟩)) s a f hh b k cs S n l
 exact this.2 s0 vs hr LV
section
variable {P:an}{X:Cx P}{N:Nat}{K:List It}{φ:Fr}{σ:List aW}
theorem AK.lZ{ι:Type}{T:List (Nat×TI)}{fn:Func}{h:Nat}{res:ι->D}{σ':ι->List aW}(i:ι)(ks:List Nat){l:Nat}{E:ar}{cs:List A}{t u:Tmp}{ty:ar}{b:TI}{x:E1}{ps:List Prop}
  (r:fn.results.toList=[.cell t ty,.tmp u]) (hi:bL T ty=aa b) (n:b.agg=ab) (o:look φ t=.e (.one (.ptr l 0))) (q:look φ u=.e x) (hl:fZ l σ=aa (.cells E cs)) (a:aA cs.length b.size=ab) (g:hX l ks=ae)
  (f:Bf (.fW [.agg cs,x]) (jQ ks (res i))=aa ps) (m:ai ps) (c:uy ks.length (res i)=ab) (p:kW ks σ=aa (σ' i)) (d:km (σ' i)=ab) (hn:eh ks=ab) (k:∀ j,j<h->ks[j]?=aa j) :
  AK X N (λe φ σ1=>∃ j,M6 T fn h (res j) (σ' j) e φ σ1) (.code .ret::K) .normal φ σ :=
 AK.ret ⟨i,.inl rfl,ks,l,E,cs,t,ty,b,u,x,ps,q,r,hi,n,bE a,o,dY hl,BG g,f,m,c,p,d,hn,k⟩
theorem Ev.BH{T:List (Nat×TI)}(g:dk P T){f:aX}{fn:Func}{c:Code}{args:List D}{σ σ':List aW}{res:D}(d:P.funcs[f]?=aa fn)(a:(fn.name== "runtime.NumGoroutine")=ae)(hb:fn.body=aa c)(b:bw args.length fn.ntmps=ab)
  (h:Fits args σ->AK X fn.ntmps (λe φ σ1=>∃ _:Unit,M6 T fn σ.length res σ' e φ σ1) [.code c] .normal (iA 0 args) σ):Ev X f args σ res σ' :=
 (dZ.BH (ι:=Unit) (σ':=λ_=>σ') (res:=λ_=>res) g d a hb b h).Di
end
theorem Db{P:an}{T:List (Nat×TI)}(S:dk P T){o:av}{η:aq->D}{σ:List aW}{t:ar}{n:Nat}{parts:Array (Nat×aq)}(h:o.op=.buildSlice t n parts){k:Nat}{es:List (List C)}
  (a:Dc T η t n parts.toList=aa (k,es)) {i:TI} {E:ar} (hi:bL T t=aa i) (hd:i.desc=.slice E) {s:St} {ρ:aq->ak} (hr:∀ y,dh σ s (ρ y) (η y)) :
  ∃ F:List ak,Flat s.M k n (λi=>es.getD i []) F/\n<=16777216/\0<k/\(aw ρ o).run P s.w=.ok (.value (.slice (aa ⟨s.w.heap.size,0,af⟩) n n)) (s.newRow E F).w/\(aw ρ o).events P s.w #[]=#[]:=by
 unfold Dc at a
 .simp only[hi,hd] at a
  .skip
   cases R:bL T E with
   |none=>simp[R] at a
   |some ie =>
    simp only[R] at a;cases U:aA ie.size 0 with
    |true=>simp[U] at a
    |false =>
     simp only[U] at a;cases l:bw (n*ie.size) 16777216 with
     |false=>simp[l] at a
     |true =>
      simp only[l] at a;cases f:n7 η parts.toList with
      |none=>simp[f] at a
      |some ps =>
       simp only[f] at a;cases g:vu (λk=>aa (k*ie.size,ie.size)) ps (List.replicate (n*ie.size) A.any) with
       |none=>simp[g] at a
       |some cs =>
        simp only[g] at a;cases d:gH cs with
        |none=>simp[d] at a
        |some r =>
         simp only[d] at a;cases j:qI ie.size n r with
         |none=>simp[j] at a
         |some es' =>
          simp only[j,cV,kB] at a;obtain⟨rfl,rfl⟩:=a;have hz0:ie.size≠0:=λe=>by rw[e] at U;cases U
          have H:=dn l;obtain⟨inf,z,z1,z2,z3,z4,z5,z6,z7⟩:=(S E ie R).info;have hzs:z.cells.size=ie.size:=by
           have:=dc List.length z5;simp at this;omega
          have Z:∀ v∈z.cells.toList,c8 v=ab:=by
           intro v G;have b:ql v∈z.cells.toList.map ql:=jK.2 ⟨v,G,rfl⟩;rw[z5] at b;obtain⟨c,_,hc⟩:=jK.1 b;exact(Rd.ql (M:=s.M) hc.symm).cell
          have J:∀ m,(∀ v∈(bc m).map (λq=>z.cells[q % z.cells.size]!),c8 v=ab):=by
           intro m v G;obtain⟨q,_,rfl⟩:=jK.1 G;have L:q % z.cells.size<z.cells.size:=ik _ (by omega)
           apply Z
           rw[pI z.cells _ L];exact Array.getElem_mem_toList L
          have I:∀ vs:List ak,(∀ v∈vs,c8 v=ab)->dX σ s vs (List.replicate vs.length A.any):=by
           intro vs
           induction vs with
           |nil=>intro _;trivial
           |cons v vs ih=>intro G;exact⟨G v (by simp),ih λu Q=>G u (by simp[Q])⟩
          obtain⟨p1,p2⟩:=pT (σ:=σ) (s:=s) hr f;have V:dX σ s ((Array.range (n*ie.size)).map (λq=>z.cells[q % z.cells.size]!)).toList (List.replicate (n*ie.size) A.any):=by
           have:=I _ (J (n*ie.size));simpa using this
          obtain⟨F,u1,u2⟩:=rI (σ:=σ) (s:=s) (place':=λk=>aa (k*ie.size,ie.size)) (λk p hk=>hk) g p1 p2 V
          have u3:=ki d u2;obtain⟨c1,c2⟩:=sH (M:=s.M) (vs:=F.toList) j (by simpa using u3.length) u3.closed
          refine⟨F.toList,c2,eG (qZ n (by omega)) H,by omega,?_,?_⟩
          rotate_left
          .simp only[aw,h];exact cR.bind cR.buildSlice (λ_=>cR.pure) _ _
          .have Q:=(S t i hi).run_underlying (w:=s.w);rw[hd] at Q;have Y:(zeroValue E).run P s.w=.ok z s.w:=by simp[zeroValue,typeInfo,z1,z4]
           have B:Instr.fill (λk=>aa (k*ie.size,ie.size)) ((Array.range (n*ie.size)).map (λq=>z.cells[q % z.cells.size]!)) (parts.map λ(i,x)=>(i,ρ x)).toList=aa F:=by simpa using u1
           by_cases h0:n*ie.size=0
           .have W:n=0:=by rcases Nat.mul_eq_zero.1 h0 with h|h;exact h;exact absurd h hz0
            subst W;have O:Array.range 0=#[]:=rfl;simp[O] at B;simp[aw,h,Instr.buildSlice,Q,(S E ie R).run_sizeOf,O,B,Go.newRow,St.newRow]
           .rw[show aw ρ o=(do pure (.value (<-Instr.buildSlice t n (parts.map λ(i,x)=>(i,ρ x))))) by simp[aw,h]]
            simp only[Instr.buildSlice,bZ,Q,cg,(S E ie R).run_sizeOf,h0,bH,Y,show ¬n*ie.size>2 ^ 24 by omega,pM,B,c7]
            simp[Go.newRow,St.newRow]
section
variable {P:an}{X:Cx P}{N:Nat}{Qf:Post}{K:List It}{φ:Fr}{σ:List aW}{all rest:List av}{o:av}
theorem AK.Ij{T:List (Nat×TI)}(r:dk P T){t:ar}{n:Nat}{parts:Array (Nat×aq)}(h:o.op=.buildSlice t n parts){k:Nat}{es:List (List C)}{i:TI}{E:ar}(hi:bL T t=aa i)(u:i.desc=.slice E)
  (j:Dc T (cj φ) t n parts.toList=aa (k,es)) (z:o.guard=af) (A:iP N o.dst=ab)
  (kk:AK X N Qf (.ops all rest::K) .normal (m9 o.dst (.e (.one (.bp σ.length (.sl n k 0 n)))) φ) (σ++[.buf E k n (λi=>es.getD i [])])):AK X N Qf (.ops all (o::rest)::K) .normal φ σ:=by
 refine AK.hand (ι:=Unit) (λ_=>.e (.one (.bp σ.length (.sl n k 0 n)))) (λ_=>σ++[.buf E k n (λi=>es.getD i [])]) z A (λs a p hh=>?_) λ_=>kk
 obtain⟨c,g,hn,D,d,l⟩:=Db (σ:=σ) (s:=s) (ρ:=a.eval) r h j hi u (λy=>eP p y)
 have q:eZ (σ++[.buf E k n (λi=>es.getD i [])]) { s with w:=(s.newRow E c).w,β:=s.β++[⟨.slice (aa ⟨s.w.heap.size,0,af⟩) 0 n,[s.w.heap.size]⟩] } (.buf E k n (λi=>es.getD i [])) ⟨.slice (aa ⟨s.w.heap.size,0,af⟩) 0 n,[s.w.heap.size]⟩:=by
  refine .inr ⟨s.w.heap.size,n,c,[],rfl,by rw[hJ];exact dE s.w _,by rw[hJ];exact g.len,ba _,by omega,g,λo=>?_⟩
  cases m:s.M s.w.heap.size o with
  |none=>rfl
  |some v=>have:=hh.block m;omega
 have f:aJ σ { s with w:=(s.newRow E c).w }/\Step σ s σ { s with w:=(s.newRow E c).w } :=
  hh.grow (by simp[St.newRow]) (λb hb=>cN s.w _ hb) (λb hb o=>rfl) (λb hb o v m=>by
   have:=hh.block m;omega) rfl rfl rfl
 obtain⟨x,g2⟩:=f.1.ix f.2 rfl hh q (λb hb=>by
   simp at hb;subst hb;exact⟨ba _,by simp[St.newRow]⟩)
 refine⟨(),.value (.slice (aa ⟨s.w.heap.size,0,af⟩) n n),{ s with w:=(s.newRow E c).w,β:=s.β++[⟨.slice (aa ⟨s.w.heap.size,0,af⟩) 0 n,[s.w.heap.size]⟩] },_,d,.inl rfl,?_,x,g2,by rw[l];exact .nil⟩
 refine⟨.slice (aa ⟨s.w.heap.size,0,af⟩) 0 n,⟨_,_,n,n,rfl,ba _,by simp,by omega,rfl,λ_=>⟨_,rfl,by simp⟩⟩,by simp,λB k' n' es' j=>?_⟩
 simp at j;obtain⟨_,_,rfl,_⟩:=j;exact⟨ba _,λ_=>⟨_,by show (s.β++[_])[σ.length]?=_;rw[<-hh.len,List.getElem?_concat_length],rfl⟩⟩
end
def vH(l k n:Nat)(es:Nat->List C):A->A×List Prop
 |.bp l' (.sl g k' o m)=>match aA l' l with
  |true=>match aA k' k with
   |true=>(.c (.sl ae k m (sR o es)),[g=n,o+m<=n])
   |false=>(.bp l' (.sl g k' o m),[])
  |false=>(.bp l' (.sl g k' o m),[])
 |a=>(a,[])
def od(l k n:Nat)(es:Nat->List C):List A->List A×List Prop
 |[]=>([],[])
 |a::r=>match vH l k n es a with
  |(a',p)=>match od l k n es r with
   |(r',q)=>(a'::r',kl p q)
def Dj(l k n:Nat)(es:Nat->List C):E1->E1×List Prop
 |.one a=>match vH l k n es a with|(a',p)=>(.one a',p)
 |.agg cs=>match od l k n es cs with|(b,p)=>(.agg b,p)
def Dk(l k n:Nat)(es:Nat->List C):D->D×List Prop
 |.e x=>match Dj l k n es x with|(a,p)=>(.e a,p)
 |d=>(d,[])
def vI(l k n:Nat)(es:Nat->List C):Fr->Fr×List Prop
 |[]=>([],[])
 |(t,d)::r=>match Dk l k n es d with
  |(a,p)=>match vI l k n es r with
   |(r',q)=>((t,a)::r',kl p q)
def gK(l k n:Nat)(es:Nat->List C):Nat->List aW->List aW×List Prop
 |_,[]=>([],[])
 |i,b::r=>match gK l k n es (i+1) r with
  |(r',q)=>match aA i l with
   |true=>(.dead::r',q)
   |false=>match b with
    |.cells E cs=>match od l k n es cs with|(a,p)=>(.cells E a::r',kl p q)
    |b=>(b::r',q)
section
variable {σ σ':List aW}{s s2:St}{E l k n:Nat}{es:Nat->List C}
structure jg (σ:List aW)(s:St)(l k n:Nat)(es:Nat->List C)(σ':List aW)(s2:St):Prop where
 eH:∀ v a,gB σ s v a->gB σ' s2 v a
 Iy:∀ v k' o m,gB σ s v (.bp l (.sl n k' o m))->k'=k->o+m<=n->Rd s2.M v (.sl ae k m (sR o es))
theorem jg.a(h:jg σ s l k n es σ' s2){v:ak}{a:A}(b:ai (vH l k n es a).2)(r:gB σ s v a):gB σ' s2 v (vH l k n es a).1:=by
 unfold vH at b ⊢;split
 .rename_i l' g k' o m
  split
  .rename_i e1
   split
   .rename_i e2
    simp only[e1,e2] at b;have e1:=bE e1;have e2:=bE e2;subst e1;obtain⟨rfl,h2⟩:g=n/\o+m<=n:=b;exact h.Iy v _ _ _ r e2 h2
   .exact h.eH v _ r
  .exact h.eH v _ r
 .exact h.eH v _ r
theorem jg.ls(h:jg σ s l k n es σ' s2):∀ {vs:List ak}{cs:List A},ai (od l k n es cs).2->dX σ s vs cs->dX σ' s2 vs (od l k n es cs).1
 |[],[],_,_=>trivial
 |[],_::_,_,r=>r.elim
 |_::_,[],_,r=>r.elim
 |v::vs,c::cs,b,r=>by
  simp only[od] at b ⊢;rw[ai.cat] at b;exact⟨h.a b.1 r.1,h.ls b.2 r.2⟩
theorem jg.e(h:jg σ s l k n es σ' s2){v:ak}{x:E1}(b:ai (Dj l k n es x).2)(r:mc σ s v x):mc σ' s2 v (Dj l k n es x).1:=by
 cases x with
 |one a=>exact h.a b r
 |agg cs=>obtain⟨vs,d,f⟩:=r;exact⟨vs,d,h.ls b f⟩
theorem jg.d(h:jg σ s l k n es σ' s2)(hl:s.β.length=σ.length)(a:Ext σ s σ' s2){v:ak}{d:D}(b:ai (Dk l k n es d).2)(r:dh σ s v d):dh σ' s2 v (Dk l k n es d).1:=by
 cases d with
 |e x=>exact h.e b r
 |fW xs=>exact r.mono a hl
 |any=>trivial
theorem jg.f(h:jg σ s l k n es σ' s2)(hl:s.β.length=σ.length)(e:Ext σ s σ' s2):∀ {φ:Fr}{t:Nat}{v:ak},ai (vI l k n es φ).2->dh σ s v (look φ t)->dh σ' s2 v (look (vI l k n es φ).1 t)
 |[],_,_,_,_=>trivial
 |(u,d)::r,t,v,b,a=>by
  simp only[vI] at b ⊢;rw[ai.cat] at b;simp only[look] at a ⊢;cases hb:aA u t with
  |true=>rw[hb] at a;exact h.d hl e b.1 a
  |false=>rw[hb] at a;exact h.f hl e b.2 a
theorem qJ:∀ {σ:List aW}{i j:Nat},(gK l k n es i σ).1[j]?=match σ[j]? with
  |none=>af
  |some b=>aa (match aA (i+j) l with|true=>.dead|false=>match b with|.cells E cs=>.cells E (od l k n es cs).1|b=>b)
 |[],i,j=>by simp[gK]
 |b::r,i,0=>by
  simp only[gK,gG,kZ];cases aA i l with
  |true=>rfl
  |false=>cases b <;> rfl
 |b::r,i,j+1=>by
  have a:=qJ (σ:=r) (i:=i+1) (j:=j);have e:i+1+j=i+(j+1):=by omega
  rw[e] at a;simp only[gK,lK];rw[<-a];cases aA i l with
  |true=>rfl
  |false=>cases b <;> rfl
theorem vJ:∀ {σ:List aW}{i j:Nat}{E:ar}{cs:List A},ai (gK l k n es i σ).2->σ[j]?=aa (.cells E cs)->i+j≠l->ai (od l k n es cs).2
 |[],i,j,_,_,_,d,_=>by simp at d
 |b::r,i,0,E,cs,a,d,e=>by
  simp at d;subst d;simp only[gK] at a;cases f:aA i l with
  |true=>exact absurd (bE f) (by simpa using e)
  |false=>simp only[f] at a;rw[ai.cat] at a;exact a.1
 |b::r,i,j+1,E,cs,a,d,e=>by
  simp at d;refine vJ (σ:=r) (i:=i+1) (j:=j) ?_ d (by omega)
  simp only[gK] at a;cases f:aA i l with
  |true=>simp only[f] at a;exact a
  |false =>
   simp only[f] at a;cases b with
   |cells=>simp only at a;rw[ai.cat] at a;exact a.2
   |_=>exact a
theorem qK:∀ {σ:List aW}{i:Nat},(gK l k n es i σ).1.length=σ.length
 |[],_=>rfl
 |b::r,i=>by
  simp only[gK];have a:=qK (σ:=r) (i:=i+1);cases aA i l with
  |true=>simp[a]
  |false=>cases b <;> simp[a]
theorem aJ.oV(hh:aJ σ s)(J:σ[l]?=aa (.buf E k n es))(hq:ai (gK l k n es 0 σ).2) :
  ∃ s2:St,s2.w=s.w/\aJ (gK l k n es 0 σ).1 s2/\Step σ s (gK l k n es 0 σ).1 s2/\jg σ s l k n es (gK l k n es 0 σ).1 s2:=by
 have F:l<σ.length:=(bt.1 J).1;have T:s.β[l]?=aa (s.β[l]'(by rw[hh.len];exact F)):=aR _
 generalize s.β[l]'(by rw[hh.len];exact F)=L at T
 have V:=hh.box _ _ L J T;obtain⟨M',m1,m2,m3,m4⟩:∃ M':Mem,(∀ b o v,s.M b o=aa v->M' b o=aa v)/\(∀ b,b∉L.bs->∀ o,M' b o=s.M b o)/\(∀ b o v,M' b o=aa v->s.w.cell? ⟨b,o,af⟩=aa v) /\
   (∀ v k' o m,gB σ s v (.bp l (.sl n k' o m))->k'=k->o+m<=n->Rd M' v (.sl ae k m (sR o es))):=by
  rcases V with⟨rfl,rfl⟩|⟨b,c0,vs,zs,rfl,hw,C2,Y4,HQ,hF,hM⟩
  .refine⟨s.M,λ_ _ _ h=>h,λ_ _ _=>rfl,hh.mem,λv k' o m r e H=>?_⟩
   obtain⟨lv,⟨a,a0,cap,c0,q,h1,h2,S,D,Q⟩,_,hx⟩:=r;obtain⟨L',d,z⟩:=(hx _ _ _ _ J).2 rfl;rw[T] at d;cases d;rw[D] at z;cases z;have:cap=0:=by omega
   subst this;have:m=0:=by omega
   subst this;rw[q];exact Rd.jM
  .let M':Mem:=λx o=>if x=b then vs[o]? else s.M x o
   have mm:∀ x o v,s.M x o=aa v->M' x o=aa v:=λx o v q=>by
    by_cases e:x=b
    .subst e;rw[hM] at q;cases q
    .simp only[M',e,bH];exact q
   refine⟨M',mm,λx O o=>?_,λx o v q=>?_,λv k' o m r e H=>?_⟩
   .simp at O;simp only[M',O,bH]
   .by_cases e:x=b
    .subst e;simp only[M',bO] at q;simp only[aY,hw];have:o<vs.length:=(bt.1 q).1;simpa[b7 this] using q
    .simp only[M',e,bH] at q;exact hh.mem x o v q
   .subst e;obtain⟨lv,⟨a,a0,cap,c1,q,h1,h2,S,D,Q⟩,_,hx⟩:=r;obtain⟨L',d,z⟩:=(hx _ _ _ _ J).2 rfl;rw[T] at d;cases d;rw[D] at z;cases z;rw[q];have g:∀ i,i<m->∀ j c,(sR o es i)[j]?=aa c->∃ u,vs[(o+i)*k'+j]?=aa u/\Rd s.M u c:=λi hi j c hj=>by
     rw[vc] at hj;exact hF.rd (o+i) (by omega) j c hj
    refine .sl b (o*k') (λi j=>(vs[(o+i)*k'+j]?).getD aj) h1 (by omega) (by simp) (λi hi=>by rw[vc];exact hF.width _ (by omega)) (λhm=>?_) (λi hi j c hj=>?_) (λi hi j c hj=>?_)
    .obtain⟨b1,e1,e2⟩:=Q (by omega)
     cases e1;exact e2
    .obtain⟨u,u1,_⟩:=g i hi j c hj;simp only[M',bO];rw[show o*k'+i*k'+j=(o+i)*k'+j by rw[ey],u1]
     rfl
    .obtain⟨u,u1,u2⟩:=g i hi j c hj;rw[u1];exact u2.mono mm
 obtain⟨I,q2⟩:=hh.iT (M':=M') (w':=s.w) (B':=.dead) (L':=⟨L.v,[]⟩) J T ay (ba _) (λ_ _ _=>rfl) (λb _ hb o=>m2 b hb o) m1 m3 (by simp) rfl rfl rfl ay
 let s2:St:=⟨s.β.set l ⟨L.v,[]⟩,M',s.w,s.own⟩
 have g:∀ i B,σ[i]?=aa B->i≠l->(gK l k n es 0 σ).1[i]?=aa (match B with|.cells E cs=>.cells E (od l k n es cs).1|b=>b):=λi B hi zD=>by
  rw[qJ,hi];have:aA (0+i) l=ae:=by
   cases hb:aA (0+i) l with
   |false=>rfl
   |true=>exact absurd (bE hb) (by omega)
  simp only[this]
 have R:(gK l k n es 0 σ).1[l]?=aa .dead:=by
  rw[qJ,J];have:aA (0+l) l=ab:=by rw[bm];exact jI l
  simp only[this]
 have vK:Step (σ.set l .dead) s2 (gK l k n es 0 σ).1 s2:=by
  refine⟨ba _,λ_ _ _=>rfl,λ_ _ _ h=>h,λ_ _ _ _=>rfl,λL' d b hb=>.inr ⟨L',d,hb⟩,λi B L' hi d=>?_,rfl,rfl,rfl,rfl⟩
  by_cases e:i=l
  .subst e;rw[cf F] at hi;cases hi;exact⟨.dead,L',R,d,rfl⟩
  .rw[cQ (λh=>e h.symm)] at hi
   refine⟨_,L',g i B hi e,d,?_⟩;cases B <;> first|exact iN.refl _ _|rfl
 have st:=q2.trans vK;have hc:jg σ s l k n es (gK l k n es 0 σ).1 s2:=⟨λv a r=>r.mono st.ext hh.len,λv k' o m r e H=>m4 v k' o m r e H⟩
 refine⟨s2,rfl,⟨I.mem,by rw[qK,<-hh.len];simp[s2],λi B L' hi d=>?_,I.gb,I.lt,I.own⟩,st,hc⟩
 by_cases e:i=l
 .subst e;rw[R] at hi;cases hi;trivial
 .have G:i<σ.length:=by
   have:=(bt.1 hi).1
   rwa [qK] at this
  have A:=aR G;have Y:s.β[i]?=aa L':=by rw[<-d];exact(cQ (λh=>e h.symm)).symm
  have Z:=hh.box i _ L' A Y;have p:=I.box i _ L' (by rw[cQ (λh=>e h.symm)];exact A) d
  have f:=g i _ A e;rw[hi] at f;have f:=lM f;generalize hBe:σ[i]=B0 at *;cases B0 with
  |cells E0 cs =>
   subst f;obtain⟨b,vs,h1,h2,S,Q⟩:=Z;obtain⟨x,vG,U,Wp,_,W⟩:=p;rw[h1] at U;cases U;exact⟨b,vs,h1,h2,hc.ls (vJ hq A (by omega)) S,W⟩
  |vec=>subst f;exact p
  |dM=>subst f;exact p
  |dead=>subst f;trivial
  |loop N φ r =>
   subst f;obtain⟨l1,tmps,fn,df,h1,h2,S,Q,h5⟩:=p;exact⟨l1,tmps,fn,df,h1,h2,S,λt=>(Q t).mono vK.ext I.len,h5⟩
  |rC=>subst f;exact p
  |buf=>subst f;exact p
end
section
variable {P:an}{X:Cx P}{N:Nat}{Qf:Post}{K:List It}{φ y:Fr}{σ σ':List aW}{c:Code}
theorem AK.oV(l:Nat){E k n:Nat}{es:Nat->List C}{ps qs:List Prop}(hl:fZ l σ=aa (.buf E k n es))(d:vI l k n es φ=(y,ps))(b:gK l k n es 0 σ=(σ',qs))(j:ai ps)(m:ai qs)
  (kk:AK X N Qf (.code c::K) .normal y σ'):AK X N Qf (.code c::K) .normal φ σ:=by
 refine AK.ghost (λs a g hh=>?_) kk
 obtain⟨s2,h1,h2,e,i⟩:=hh.oV (dY hl) (by rw[b];exact m)
 rw[b] at h2 e i;refine⟨s2,h1,⟨g.size,g.defers.imp λ_ h=>h.mono e.ext,λt=>?_⟩,h2,e⟩
 have:=i.f hh.len e.ext (φ:=φ) (t:=t) (by rw[d];exact j) (g.slot t)
 rw[d] at this;exact this
end
end Go.AM
namespace Go.AM.R1
open Go.Proofs
section
variable {X:Cx ah}
abbrev KpI:={ q:List Int // q.length<=5 }
theorem HL(m:Nat)(b:Nat->Int)(j:Bytes b)(k:Nat)(p:k<=500000)(g:m<=1048576) :
  dZ (ι:=KpI) X 65 [.e (.one (.ptr 0 0))] [nC m b k] (λq=>cI.sl q.1) (λ_=>[nC m b (k+5:Nat)]):=by
 refine dZ.sC Tryz.func65 rfl rfl rfl λo=>?_
 refine bd [(1000002,ab)] 100 rfl ay ?_;refine AK.iD 3 3 1 rfl rfl ?_;refine bP rfl ay ?_;refine AK.cd 2 (λs:Nat×List Int=>1<=s.1/\s.1<=6/\s.2.length+1<=s.1) (λs=>[(0,.e (.one (.ptr 0 0))),(3,.e (.one (.vec 1 1 s.2.length (cI.fn s.2)))),(4,dI s.1)]) (λs=>[nC m b (k+(s.1-1):Nat),.vec 3 1 s.2.length (cI.fn s.2)]) (λs=>6-s.1) (1,[]) rfl ?_ rfl ?_ rfl ⟨by decide,by decide,by decide⟩ ?_
 .simp[ai.cat,ai,a9.nil]
 .simp[ai.cat,ai,a9.same,a9.nil]
 rintro⟨n,a⟩ ⟨l,f,i⟩;simp only at l f i
 by_cases h:n<=5
 .refine bd [(7,ab)] 100 rfl (by simp only[ai,bh];omega) ?_
  refine AK.cx (ek m b j (k+(n-1)) 2 (by omega) g (by omega)) [0] rfl rfl rfl rfl rfl rfl rfl (λ_=>rfl) rfl (λ_=>rfl) rfl ?_
  rintro⟨v,v0,v1⟩
  by_cases c:v=0
  .have d:=cI.cu a (n:Int);refine bd [(12,ab)] 100 rfl ?_ (AK.bg (n+1,a++[(n:Int)]) rfl ?_ rfl rfl rfl ?_ rfl ⟨by simp only;omega,by simp only;omega,by simp only[bF,dw];omega⟩ (by simp only;omega))
   .simp only[ai,c,bD,show i3.bytes=8 from rfl,fp,aG,aF];and_intros <;> omega
   .simp only[ai.cat,ai,bF,dw,aG,aF]
    and_intros <;> first|exact a9.same|exact d|rfl|omega
   .simp only[ai.cat,ai,bF,dw,aG,aF]
    and_intros <;> first|exact a9.same|exact d|rfl|omega
  .refine bd [(12,ae)] 100 rfl ?_ (AK.bg (n+1,a) rfl ?_ rfl rfl rfl ?_ rfl ⟨by simp only;omega,by simp only;omega,by simp only;omega⟩ (by simp only;omega))
   .simp only[ai,bD,dx,cW,aG,aF];and_intros <;> first|exact c|omega
   .simp only[ai.cat,ai,aG,aF]
    and_intros <;> first|exact a9.same|rfl|omega
   .simp only[ai.cat,ai,aG,aF]
    and_intros <;> first|exact a9.same|rfl|omega
 obtain rfl:n=6:=by omega
 refine bd [(7,ae)] 100 rfl (by simp[ai]) (AK.leaveD rfl rfl ?_)
 refine bP rfl ay ?_;refine AK.nG ⟨a,by omega⟩ (AK.eB [0] rfl ?_ rfl rfl rfl wP)
 simp[ai.cat,ai,a9.same]
def A1:List Bs:=[[122,122],[98,46],[104,101,108,108,111,46,46,46]]
theorem HM:a9 3 (λi=>([[.str [122,122]],[.str [98,46]],[.str [104,101,108,108,111,46,46,46]]]:List (List C)).getD i []) (cS.fn A1):=by
 intro i hi;have:i=0∨i=1∨i=2:=by omega
 rcases this with rfl|rfl|rfl <;> rfl
set_option maxRecDepth 20000 in
theorem LL(m:Nat)(b:Nat->Int)(c:Bytes b)(k:Nat)(h:k<=500000)(a:m<=1048576) :
  dZ (ι:=gM) X 64 [.e (.one (.ptr 0 0))] [nC m b k] (λl=>sc l) (λ_=>[nC m b (k+4:Nat)]):=by
 refine dZ.kL tok Tryz.func64 rfl rfl rfl λg=>?_
 refine bP rfl ay ?_;refine AK.cx (ek m b c k 5 (by omega) a (by omega)) [0] rfl rfl rfl rfl rfl rfl rfl (λ_=>rfl) rfl (λ_=>rfl) rfl ?_
 rintro⟨v1,_⟩;refine bP rfl ay ?_;refine AK.cx (ek m b c (k+1) 5 (by omega) a (by omega)) [0] rfl rfl rfl rfl rfl rfl rfl (λ_=>rfl) rfl (λ_=>rfl) rfl ?_
 rintro⟨f,_⟩;refine bP rfl ay ?_;refine AK.cx (ek m b c (k+1+1) 3 (by omega) a (by omega)) [0] rfl rfl rfl rfl rfl rfl rfl (λ_=>rfl) rfl (λ_=>rfl) rfl ?_
 rintro⟨d,_⟩;refine bP rfl ay ?_;refine AK.my (Ry m b c (k+1+1+1) (by omega) a A1 (by decide)).EW [0] rfl rfl rfl rfl ?_ rfl rfl rfl (λ_=>rfl) rfl (λ_=>rfl) rfl ?_
 .simp only[ai.cat,ai,aG,aF];exact⟨rfl,HM⟩
 rintro -;generalize A1.getD (se m b (k+1+1+1) A1.length).toNat []=w;refine bP rfl ay ?_;refine AK.fC (v1,f,d,w) [0] rfl rfl rfl rfl rfl rfl rfl rfl ?_ rfl rfl rfl rfl ig;simp[ai.cat,ai]
end
end Go.AM.R1
namespace Go.AM
open Go.Conc (G)
theorem aJ.Bh{σ1:List aW}{s:St}{E:ar}{k n:Nat}{bf:sJ}{xs:List ak}{es:Nat->List C}(hh:aJ (σ1++[.dM (iZ E k bf n xs)]) s)(d:e9 k n es xs)(e:sQ σ1.length σ1=ab) :
  ∃ s2:St,aJ σ1 s2/\eW s s2/\Rd s2.M (oH bf n) (.sl ae k n es)/\∀ {σ0:List aW} {s0:St},cC σ0 s0 (σ1++[.dM (iZ E k bf n xs)]) s->σ0.length<=σ1.length->cC σ0 s0 σ1 s2:=by
 have q:(σ1++[aW.dM (iZ E k bf n xs)])[σ1.length]?=aa (.dM (iZ E k bf n xs)):=by simp
 obtain⟨L,M',p,z,u,m,F,B⟩:=iZ.EV q es (λi hi=>⟨d.wid i hi,λM j c x hj hx=>by
  obtain⟨y,t,D⟩:=d.at' i hi j c hj;rw[hx] at t;cases t;exact D M⟩) s hh
 obtain⟨A,r⟩:=hh.iT (M':=M') (w':=s.w) (B':=.dead) (L':=⟨L.v,[]⟩) q p rfl (ba _) (λ_ _ _=>rfl) (λb _ hb o=>u b hb o) z m (by simp) rfl rfl rfl ay
 have a:(σ1++[aW.dM (iZ E k bf n xs)]).set σ1.length .dead=σ1++[.dead]:=by simp
 rw[a] at A r;refine⟨_,A.drop (rest:=[.dead]) e,⟨rfl,z,λb hb o=>u b (hb L (bz p)) o,m,λb hb=>?_⟩,B,λ{σ0 s0} g l=>(g.trans (r.oA hh)).drop (rest:=[.dead]) l⟩
 rcases hb with hb|⟨L',f,hb⟩
 .exact .inl hb
 .have h1:=gY f;rcases nO h1 with h|rfl
  .exact .inr ⟨L',h,hb⟩
  .simp at hb
theorem dZ.Bh{P:an}{ι:Type}{X:Cx P}{f:aX}{args:List D}{σ:List aW}{σ1:ι->List aW}{E k:Nat}{n:ι->Nat}{bf:ι->sJ}{xs:ι->List ak}{es:ι->Nat->List C}(h:dZ X f args σ (λi=>.e (.one (.v (oH (bf i) (n i))))) (λi=>σ1 i++[.dM (iZ E k (bf i) (n i) (xs i))]))
  (d:∀ i,e9 k (n i) (es i) (xs i)) (b:∀ i,sQ (σ1 i).length (σ1 i)=ab) (a:∀ i,σ.length<=(σ1 i).length):dZ X f args σ (λi=>.e (.one (.c (.sl ae k (n i) (es i))))) σ1:=by
 refine⟨h.1,λs vs hr hh S cs hS=>h.2 s vs hr hh S cs λi fr v s' hl oa lG st=>?_⟩
 obtain⟨s2,c1,c2,c3,c4⟩:=lG.Bh (d i) (b i);have g:v=oH (bf i) (n i):=Rd.gm oa;exact .ghost c2 (hS i fr v s2 (hl.mono c2.mem) (by rw[g];exact c3) c1 (c4 st (a i)))
end Go.AM
namespace Go.AM.R1
open Go.Proofs
variable {X:Cx ah} [X.jN]
abbrev gR:=Int×Int×List bJ×gM×List Int
abbrev evA(e:gR):List A:=[.c (.int .i64 e.1),.c (.int .i64 e.2.1),qU cF e.2.2.1,.c (.int .i64 e.2.2.2.1.1),.c (.int .i64 e.2.2.2.1.2.1),.c (.int .i64 e.2.2.2.1.2.2.1),.c (.str e.2.2.2.1.2.2.2),qU cI e.2.2.2.2]
abbrev VZ(e:gR):D:=.e (.agg (evA e))
abbrev YX:List A:=[.c (.int .i64 0),.c (.int .i64 0),gA,.c (.int .i64 0),.c (.int .i64 0),.c (.int .i64 0),.c (.str []),gA]
abbrev YY:aW:=.cells 71 YX
abbrev xS:gM:=(0,0,0,[])
structure EvP (k:Nat)(q:gR×Nat):Prop where
 t:q.1.2.2.1.length<=7
 kp:q.1.2.2.2.2.length<=5
 lo:k<=q.2
 hi:q.2<=k+500
theorem LM(m:Nat)(b:Nat->Int)(h:Bytes b)(k:Nat)(a:k<=50000)(l:m<=1048576) :
  dZ (ι:=CI k 400) X 63 [.e (.one (.ptr 0 0))] [nC m b k] (λq=>cF.sl q.t) (λq=>[nC m b q.k1]) :=
 dZ.Bh (σ1:=λq:CI k 400=>[nC m b q.k1]) (k:=2) (n:=λq:CI k 400=>q.t.length) (es:=λq:CI k 400=>cF.fn q.t) (N4 m b h k a l) (λq=>q.fl) (λ_=>rfl) (λ_=>ba _)
set_option maxHeartbeats 4000000 in
set_option maxRecDepth 20000 in
theorem EI(m:Nat)(b:Nat->Int)(o:Bytes b)(k:Nat)(a:k<=40000)(n:m<=1048576) :
  dZ (ι:={ q:gR×Nat // EvP k q }) X 28 [.e (.one (.ptr 0 0))] [nC m b k] (λq=>VZ q.1.1) (λq=>[nC m b q.1.2]):=by
 refine dZ.kL tok Tryz.func28 rfl rfl rfl λf=>?_
 refine bP rfl ay ?_;refine AK.cx (ek m b o k 9 (by omega) n (by omega)) [0] rfl rfl rfl rfl rfl rfl rfl (λ_=>rfl) rfl (λ_=>rfl) rfl ?_
 rintro⟨v,v0,v1⟩
 by_cases h:v<=3
 .apply AK.join [(0,.e (.one (.ptr 0 0))),(2,.e (.one (.ptr 1 0)))] [nC m b (k+1:Nat),YY]
  .intro out;have:v=0∨v=1∨v=2∨v=3:=by omega
   rcases this with rfl|rfl|rfl|rfl
   .refine bd [(6,ab),(1000006,ab)] 100 rfl (by simp[ai]) ?_
    exact out _ _ rfl (by simp[ai.cat,ai])
   .refine bd [(6,ae),(7,ab),(1000006,ab)] 100 rfl (by simp[ai]) ?_
    exact out _ _ rfl (by simp[ai.cat,ai])
   .refine bd [(6,ae),(7,ae),(8,ab),(1000006,ab)] 100 rfl (by simp[ai]) ?_
    exact out _ _ rfl (by simp[ai.cat,ai])
   .refine bd [(6,ae),(7,ae),(8,ae),(9,ab),(1000006,ab)] 100 rfl (by simp[ai]) ?_
    exact out _ _ rfl (by simp[ai.cat,ai])
  refine bP rfl ay ?_;refine AK.cx (ek m b o (k+1) 2 (by omega) n (by omega)) [0] rfl rfl rfl rfl rfl rfl rfl (λ_=>rfl) rfl (λ_=>rfl) rfl ?_
  rintro⟨u,p,s⟩;refine bP rfl (by simp only[ai,bD];omega) ?_
  refine AK.cx (LM m b o (k+1+1) (by omega) n) [0] rfl rfl rfl rfl rfl rfl rfl (λ_=>rfl) rfl (λ_=>rfl) rfl ?_
  rintro⟨t,bf,xs,k1,E,z,G,D⟩;simp only;refine bP rfl ay ?_;refine AK.fC ⟨((1,1+u,t,xS,[]),k1),z,by simp,by simp only;omega,by simp only;omega⟩ [0] rfl rfl rfl rfl rfl rfl rfl rfl ?_ rfl rfl rfl rfl ig
  simp[ai.cat,ai,a9.same,a9.nil]
 by_cases x:v=4
 .subst x;refine bd [(6,ae),(7,ae),(8,ae),(9,ae),(17,ab)] 100 rfl (by simp[ai]) ?_
  refine AK.cx (ek m b o (k+1) 4 (by omega) n (by omega)) [0] rfl rfl rfl rfl rfl rfl rfl (λ_=>rfl) rfl (λ_=>rfl) rfl ?_
  rintro⟨u,p,s⟩;refine bP rfl ay ?_;refine AK.fC ⟨((2,u,[],xS,[]),k+1+1),by simp,by simp,by simp only;omega,by simp only;omega⟩ [0] rfl rfl rfl rfl rfl rfl rfl rfl ?_ rfl rfl rfl rfl ig
  simp[ai.cat,ai,a9.nil]
 by_cases A:v=5
 .subst A;refine bd [(6,ae),(7,ae),(8,ae),(9,ae),(17,ae),(22,ab)] 100 rfl (by simp[ai]) ?_
  refine AK.cx (ek m b o (k+1) 2 (by omega) n (by omega)) [0] rfl rfl rfl rfl rfl rfl rfl (λ_=>rfl) rfl (λ_=>rfl) rfl ?_
  rintro⟨u,p,s⟩
  by_cases w:u=0
  .refine bd [(25,ab)] 100 rfl (by simp[ai,w]) ?_
   refine AK.fC ⟨((3,0,[],xS,[]),k+1+1),by simp,by simp,by simp only;omega,by simp only;omega⟩ [0] rfl rfl rfl rfl rfl rfl rfl rfl ?_ rfl rfl rfl rfl ig
   simp[ai.cat,ai,a9.nil]
  .refine bd [(25,ae)] 100 rfl (by simp[ai,w]) ?_
   refine AK.cx (LL m b o (k+1+1) (by omega) n) [0] rfl rfl rfl rfl rfl rfl rfl (λ_=>rfl) rfl (λ_=>rfl) rfl ?_
   intro l;refine bP rfl ay ?_;refine AK.fC ⟨((3,0,[],l,[]),k+1+1+4),by simp,by simp,by simp only;omega,by simp only;omega⟩ [0] rfl rfl rfl rfl rfl rfl rfl rfl ?_ rfl rfl rfl rfl ig
   simp[ai.cat,ai,a9.nil]
 by_cases B:v=6
 .subst B;refine bd [(6,ae),(7,ae),(8,ae),(9,ae),(17,ae),(22,ae),(31,ab)] 100 rfl (by simp[ai]) ?_
  refine AK.cx (HL m b o (k+1) (by omega) n) [0] rfl rfl rfl rfl rfl rfl rfl (λ_=>rfl) rfl (λ_=>rfl) rfl ?_
  rintro⟨C,r⟩;refine bP rfl ay ?_;refine AK.fC ⟨((4,0,[],xS,C),k+1+5),by simp,r,by simp only;omega,by simp only;omega⟩ [0] rfl rfl rfl rfl rfl rfl rfl rfl ?_ rfl rfl rfl rfl ig
  simp[ai.cat,ai,a9.same,a9.nil]
 by_cases y:v=7
 .subst y;refine bd [(6,ae),(7,ae),(8,ae),(9,ae),(17,ae),(22,ae),(31,ae),(36,ab)] 100 rfl (by simp[ai]) ?_
  refine AK.fC ⟨((5,0,[],xS,[]),k+1),by simp,by simp,by simp only;omega,by simp only;omega⟩ [0] rfl rfl rfl rfl rfl rfl rfl rfl ?_ rfl rfl rfl rfl ig
  simp[ai.cat,ai,a9.nil]
 obtain rfl:v=8:=by omega
 refine bd [(6,ae),(7,ae),(8,ae),(9,ae),(17,ae),(22,ae),(31,ae),(36,ae)] 100 rfl (by simp[ai]) ?_
 refine AK.cx (ek m b o (k+1) 8 (by omega) n (by omega)) [0] rfl rfl rfl rfl rfl rfl rfl (λ_=>rfl) rfl (λ_=>rfl) rfl ?_
 rintro⟨u,p,s⟩;refine bP rfl ay ?_;refine AK.cx (ek m b o (k+1+1) 4 (by omega) n (by omega)) [0] rfl rfl rfl rfl rfl rfl rfl (λ_=>rfl) rfl (λ_=>rfl) rfl ?_
 rintro⟨u',F,u3⟩;refine bP rfl ay ?_;refine AK.fC ⟨((u,u',[],xS,[]),k+1+1+1),by simp,by simp,by simp only;omega,by simp only;omega⟩ [0] rfl rfl rfl rfl rfl rfl rfl rfl ?_ rfl rfl rfl rfl ig
 simp[ai.cat,ai,a9.nil]
abbrev C6(k:Int)(w:cU)(l:gM)(b:Nat):List A:=.c (.int .i64 k)::(UZ w++[.c (.int .i64 l.1),.c (.int .i64 l.2.1),.c (.int .i64 l.2.2.1),.c (.str l.2.2.2),.bp b (.sl 2 2 0 2),.bp (b+1) (.sl 2 1 0 2)])
abbrev Sn(e:List (Int×Int))(b:List Int):List aW:=[.buf 48 2 2 (cH.fn e),.buf 3 1 2 (cI.fn b)]
abbrev YU:List (Int×Int):=[(0,0),(0,0)]
abbrev YV:List Int:=[0,0]
omit [X.jN] in
theorem AV(k:Int)(a:cD k=ab):Ev X 26 [dI k] [] (.fW [.agg (C6 k Me xS 0),.one (.c (.bool ab))]) (Sn YU YV):=by
 refine Ev.BH tok Tryz.func26 rfl rfl rfl λf=>?_
 have d:b5 X [(57,yI)]:=.cons Ch .nil;refine aE d [(7,ae),(1000003,ab)] 100 rfl (by simp[ai,a]) ?_
 refine AK.region ?_;refine aE d [] 3 rfl ay ?_;refine AK.Ij tok rfl rfl rfl rfl rfl rfl ?_;refine AK.Ij tok rfl rfl rfl rfl rfl rfl ?_;refine aE d [] 100 rfl ay ?_;refine AK.norm [.cells 35 (C6 k Me xS 1),.buf 48 2 2 (cH.fn YU),.buf 3 1 2 (cI.fn YV),.cells 35 (C6 k Me xS 1)] rfl ?_ ?_
 .simp only[ai.cat,ai,aG,aF]
  and_intros <;> first|rfl|exact a9.nil|(intro i hi;match i,hi with|0,_=>rfl|1,_=>rfl)
 refine AK.lZ () [1,2] rfl rfl rfl rfl rfl rfl rfl rfl rfl ?_ rfl rfl rfl rfl (λj g=>absurd g (by simp))
 simp[ai.cat,ai,a9.same]
end Go.AM.R1
namespace Go.AM.R1
open Go.Proofs
variable {X:Cx ah}
theorem ll:∀ j,j<2->([0,1]:List Nat)[j]?=aa j:=λj a=>by
 match j,a with
 |0,_=>rfl
 |1,_=>rfl
def lookW(by_:Int)(s:bo)(l:gM)(q:List (Int×Int)×List Int):List (Int×Int)×List Int :=
 if q.2.getD (by_-1).toNat 0=0 then (q.1.set (by_-1).toNat (xn (q.1.getD (by_-1).toNat (0,0)) (LN s l).2.2).1,q.2.set (by_-1).toNat (xn (q.1.getD (by_-1).toNat (0,0)) (LN s l).2.2).2) else q
theorem qj{by_:Int}{s:bo}{l:gM}{q:List (Int×Int)×List Int}(b:q.1.length=2)(a:q.2.length=2):(lookW by_ s l q).1.length=2/\(lookW by_ s l q).2.length=2:=by
 unfold lookW;split <;> simp[b,a]
abbrev zMm:aW:=.cells 48 [.c (.int .i64 0),.c (.int .i64 0)]
abbrev mmB(m:Int×Int):aW:=.cells 48 [.c (.int .i64 m.1),.c (.int .i64 m.2)]
abbrev YZ:List A:=[.c (.int .i64 0),gA,gA,gA,gA,gA,.c (.int .i64 0),.c (.int .i64 0),.c (.int .i64 0),.c (.str []),gA,gA]
abbrev oO:aW:=.cells 35 YZ
def dLk(k:Int)(w:cU)(l:gM)(b:List (Int×Int))(a:List Int)(e:Int×Int)(_ c d:Bool):List aW :=
 match c,d with
 |false,_=>Sn b a++[.cells 35 (C6 k w l 0),oO]
 |true,ae=>Sn b a++[.cells 35 (C6 k w l 0),oO,zMm]
 |true,ab=>Sn b a++[.cells 35 (C6 k w l 0),oO,mmB e]
abbrev xLk(w:cU)(l:gM) (by_:Int)(m:Int×Int)(s':bo)(q:(Int×Int)×Int)(i:Nat):D :=
 [.e (.one (.ptr 2 10)),.e (.one (.bp 0 (.sl 2 2 0 2))),dI by_,dI (by_-1),.e (.one (.bp 0 (.el 2 2 (0+(by_-1).toNat) 0))),V0 m,.e (.one (.ptr 2 1)),.e (.one (.ptr 2 1)),k7 w.1,.e (.one (.ptr 2 6)),sc l,k7 s',cH.sl s'.2.2,V1 q,V1 q,V0 q.1,dI q.2,.e (.one (.ptr 4 0)),.any,dI q.2].getD i .any
set_option maxHeartbeats 8000000 in
set_option maxRecDepth 20000 in
theorem tI(k:Int)(w:cU)(l:gM) (by_:Int)(g:List (Int×Int))(i:List Int)(s:FJ w.1)(G:1<=by_/\by_<=2)(x:g.length=2)(v:i.length=2) :
  Ev X 60 [.e (.agg (C6 k w l 0)),dI by_] (Sn g i) (.e (.agg (C6 k w l 0))) (Sn (lookW by_ w.1 l (g,i)).1 (lookW by_ w.1 l (g,i)).2):=by
 refine Ev.lY tok Tryz.func60 rfl rfl rfl λF=>?_
 have C:=(Pn (X:=X) s l).z.h;have B:=(Pn (X:=X) s l).b;unfold lookW;generalize LN w.1 l=s' at *;have A:(by_-1).toNat<2:=by omega
 have r:(0:Nat)+(by_-1).toNat<2:=by omega
 have y:g.getD (by_-1).toNat (0,0)=g.getD (0+(by_-1).toNat) cH.bU:=by rw[bm];rfl
 have u:(g.getD (0+(by_-1).toNat) cH.bU)=(g.getD (0+(by_-1).toNat) cH.bU):=rfl;rw[y];have t:=Ot (X:=X) (g.getD (0+(by_-1).toNat) cH.bU) s'.2.2 C;generalize xn (g.getD (0+(by_-1).toNat) cH.bU) s'.2.2=q at *;have f:b5 X [(23,Ea [k7 w.1,sc l] (k7 s')),(88,Ea [V0 (g.getD (0+(by_-1).toNat) cH.bU),cH.sl s'.2.2] (V1 q))]:=.cons (Kr B) (.cons (Kr t) .nil);have p:bD .i64 (by_-1):=by simp only[bD];omega
 have E:0<=by_-1/\by_-1<((2:Nat):Int):=by omega
 have o:2=2/\0+(by_-1).toNat<2:=⟨rfl,r⟩;refine aE f [(1000001,ab)] 200 rfl ay ?_;refine AK.flags eQ (xLk w l by_ (g.getD (0+(by_-1).toNat) cH.bU) s' q) (B5 (dLk k w l g i q.1) 19 17 18) rfl rfl rfl rfl
  ⟨ez.q3 rfl rfl rfl (λa c d=>by cases a <;> cases c <;> cases d <;> exact OA.cK tok f rfl),
  ez.q3 rfl rfl rfl (λa c d=>by cases a <;> cases c <;> cases d <;> exact OA.cK tok f rfl),
  ez.q3 rfl rfl rfl (λa c d=>by cases a <;> cases c <;> cases d <;> exact OA.cK tok f rfl),
  ez.q3 rfl rfl rfl (λa c d=>by cases a <;> cases c <;> cases d <;> exact OA.eval (ds:=[]) tok f rfl p),
  ez.q3 rfl rfl rfl (λa c d=>by cases a <;> cases c <;> cases d <;> exact OA.eval (ds:=[]) tok f rfl E),
  ez.q3 rfl rfl rfl (λa c d=>by cases a <;> cases c <;> cases d <;> exact OA.eval (ds:=[]) tok f rfl o),
  ez.q3 rfl rfl rfl (λa c d=>by cases a <;> cases c <;> cases d <;> exact OA.cK tok f rfl),
  ez.q3 rfl rfl rfl (λa c d=>by cases a <;> cases c <;> cases d <;> exact OA.cK tok f rfl),
  ez.q3 rfl rfl rfl (λa c d=>by cases a <;> cases c <;> cases d <;> exact OA.cK tok f rfl),
  ez.q3 rfl rfl rfl (λa c d=>by cases a <;> cases c <;> cases d <;> exact OA.cK tok f rfl),
  ez.q3 rfl rfl rfl (λa c d=>by cases a <;> cases c <;> cases d <;> exact OA.cK tok f rfl),
  ez.q3 rfl rfl rfl (λa c d=>by cases a <;> cases c <;> cases d <;> exact OA.eval (ds:=[]) tok f rfl rfl),
  ez.q3 rfl rfl rfl (λa c d=>by cases a <;> cases c <;> cases d <;> exact OA.cK tok f rfl),
  ez.q3 rfl rfl rfl (λa c d=>by cases a <;> cases c <;> cases d <;> exact OA.eval (ds:=[]) tok f rfl rfl),
  ez.q3 rfl rfl rfl (λa c d=>by cases a <;> cases c <;> cases d <;> exact OA.cK tok f rfl),
  ez.q3 rfl rfl rfl (λa c d=>by cases a <;> cases c <;> cases d <;> exact OA.cK tok f rfl),
  ez.q3 rfl rfl rfl (λa c d=>by cases a <;> cases c <;> cases d <;> exact OA.cK tok f rfl),
  ez.e2 rfl rfl rfl rfl rfl (λa=>by cases a <;> exact hY (ds:=[]) tok f (σ':=aa _) rfl ay),
  ez.e3 rfl rfl rfl rfl rfl (λa=>by cases a <;> exact hY (ds:=[]) tok f (σ':=aa _) rfl ay),
  ez.e1 rfl rfl rfl rfl (λc d=>by cases c <;> cases d <;> exact OA.cK tok f rfl),ay⟩ ?_
 intro D j;show AK X _ _ _ _ _ (dLk k w l g i q.1 (D 19) (D 17) (D 18));rw[j 19 (by decide),j 17 (by decide),j 18 (by decide)]
 have m:i.getD (0+(by_-1).toNat) cI.bU=i.getD (by_-1).toNat 0:=by rw[bm];rfl
 by_cases n:i.getD (by_-1).toNat 0=0
 .rw[aU n];refine aE f [(30,ab)] 200 rfl ?_ ?_
  .simp only[ai,m,n,bD,fp,aG,aF];omega
  have e1:=cH.Am g (0+(by_-1).toNat) q.1 2 (by omega)
  have e2:=cI.Am i (0+(by_-1).toNat) q.2 2 (by omega)
  rw[bm] at e1 e2;refine AK.norm [.buf 48 2 2 (cH.fn (g.set (by_-1).toNat q.1)),.buf 3 1 2 (cI.fn (i.set (by_-1).toNat q.2)),.cells 35 (C6 k w l 0),.cells 35 (C6 k w l 0),mmB q.1] rfl ?_ ?_
  .simp only[ai.cat,ai,bm,aG,aF]
   and_intros <;> first|exact a9.same|exact e1|exact e2|rfl
  refine AK.fC () [0,1] rfl rfl rfl rfl rfl rfl rfl rfl ?_ rfl rfl rfl rfl ll;simp[ai.cat,ai,a9.same]
 .rw[aO n];refine aE f [(30,ae)] 200 rfl ?_ ?_
  .simp only[ai,m,bD,dx,cW,aG,aF];and_intros <;> first|exact n|omega
  refine AK.fC () [0,1] rfl rfl rfl rfl rfl rfl rfl rfl ?_ rfl rfl rfl rfl ll;simp[ai.cat,ai,a9.same]
abbrev xp:=cU×gM×List (Int×Int)×List Int
def uu(k:Int)(s:xp) (by_:Int)(t:List bJ):xp×Bool :=
 if (lookW by_ s.1.1 s.2.1 s.2.2).2.getD (by_-1).toNat 0=0/\s.2.1.1=0 then
  (if (sF k s.1 by_ t).2=ab then (((sF k s.1 by_ t).1,s.2.1,lookW by_ (sF k s.1 by_ t).1.1 s.2.1 (lookW by_ s.1.1 s.2.1 s.2.2)),ab) else ((s.1,s.2.1,lookW by_ s.1.1 s.2.1 s.2.2),ae))
 else ((s.1,s.2.1,lookW by_ s.1.1 s.2.1 s.2.2),ae)
def uq(k:Int)(s:xp)(e:gR):xp×Bool :=
 if e.1=1 then (if (1<=e.2.1/\e.2.1<=2)/\dt e.2.2.1=ab then uu k s e.2.1 e.2.2.1 else (s,ae))
 else if e.1=2 then (if 1<=e.2.1/\e.2.1<=2 then ((s.1,s.2.1,lookW e.2.1 s.1.1 s.2.1 s.2.2),ab) else (s,ae))
 else if e.1=3 then ((s.1,e.2.2.2.1,s.2.2),ab)
 else if e.1=4 then (if s.1.2.2.length=0 then (((AY k s.1.1 e.2.2.2.2).1,s.2),ab) else (s,ae))
 else if e.1=5 then ((xd s.1,s.2),Vi s.1)
 else (s,ae)
structure WI (n:Nat)(s:xp):Prop where
 w:TW (6000+240*n) s.1
 k:s.2.2.1.length=2
 f:s.2.2.2.length=2
theorem AX{k:Int}{n:Nat}{w:cU}{by_:Int}{t:List bJ}(h:TW n w)(b:(sF k w by_ t).2=ab):TW (n+240) (sF k w by_ t).1/\(sF k w by_ t).1=CZ k w by_ t/\fR k w=ab/\(1<=by_/\by_<=2)/\dt t=ab/\j5 k w.1 t=ae:=by
 unfold sF at b ⊢;split at b
 .rename_i a
  rw[aU a];simp only[Sm,bG,bh] at a;split at b
  .cases b
  .rename_i c
   have c:j5 k w.1 t=ae:=by simpa using c
   rw[aO (by rw[c];simp)]
   exact⟨h.save a.2 a.1.2 c,rfl,a.1.1,a.1.2,a.2,c⟩
 .cases b
theorem WI.save{k:Int}{n:Nat}{s:xp}{by_:Int}{t:List bJ}(h:WI n s):WI (n+1) (uu k s by_ t).1:=by
 have a:=qj (by_:=by_) (s:=s.1.1) (l:=s.2.1) (q:=s.2.2) h.k h.f;unfold uu;split
 .split
  .rename_i c
   have b:=qj (by_:=by_) (s:=(sF k s.1 by_ t).1.1) (l:=s.2.1) (q:=lookW by_ s.1.1 s.2.1 s.2.2) a.1 a.2;exact⟨(AX h.w c).1.mono (by omega),b.1,b.2⟩
  .exact⟨h.w.mono (by omega),a.1,a.2⟩
 .exact⟨h.w.mono (by omega),a.1,a.2⟩
theorem WI.mono{n m:Nat}{s:xp}(h:WI n s)(a:n<=m):WI m s:=⟨h.w.mono (by omega),h.k,h.f⟩
theorem WI.do{k:Int}{n:Nat}{s:xp}{e:gR}(h:WI n s):WI (n+1) (uq k s e).1:=by
 unfold uq;split
 .split
  .exact h.save
  .exact h.mono (by omega)
 split
 .split
  .have a:=qj (by_:=e.2.1) (s:=s.1.1) (l:=s.2.1) (q:=s.2.2) h.k h.f;exact⟨h.w.mono (by omega),a.1,a.2⟩
  .exact h.mono (by omega)
 split
 .exact⟨h.w.mono (by omega),h.k,h.f⟩
 split
 .split
  .exact⟨(TW.beg h.w.s).mono (by omega),h.k,h.f⟩
  .exact h.mono (by omega)
 split
 .exact⟨(TW.step h.w).mono (by omega),h.k,h.f⟩
 .exact h.mono (by omega)
abbrev YO(k:Int)(s:xp):D:=.e (.agg (C6 k s.1 s.2.1 0))
abbrev YP(k:Int)(s:xp)(b:Bool):D:=.fW [.agg (C6 k s.1 s.2.1 0),.one (.c (.bool b))]
abbrev F0(s:xp):List aW:=Sn s.2.2.1 s.2.2.2
set_option maxHeartbeats 8000000 in
theorem HF(k:Int)(s:xp) (by_:Int)(t:List bJ)(n:Nat)(h:WI n s)(o:n<=1000)(m:1<=by_/\by_<=2) :
  Ev X 59 [YO k s,dI by_,cF.sl t] (F0 s) (YP k (uu k s by_ t).1 (uu k s by_ t).2) (F0 (uu k s by_ t).1):=by
 refine Ev.BH tok Tryz.func59 rfl rfl rfl λp=>?_
 have j:=tI (X:=X) k s.1 s.2.1 by_ s.2.2.1 s.2.2.2 h.w.s.LC m h.k h.f;have i:=xU (X:=X) k s.1 by_ t (h.w.sz (by omega))
 have d:=qj (by_:=by_) (s:=s.1.1) (l:=s.2.1) (q:=s.2.2) h.k h.f;have e:=AX (k:=k) (by_:=by_) (t:=t) h.w;unfold uu;rw[show ((s.2.2.1,s.2.2.2):List (Int×Int)×List Int)=s.2.2 from rfl] at j
 generalize lookW by_ s.1.1 s.2.1 s.2.2=q1 at *;have a:q1.2.getD (0+(by_-1).toNat) cI.bU=q1.2.getD (by_-1).toNat 0:=by rw[bm];rfl
 refine ee rfl ay ?_;refine AK.bM j [0,1] rfl rfl rfl rfl rfl rfl rfl rfl rfl rfl rfl ?_
 by_cases b:q1.2.getD (by_-1).toNat 0=0
 rotate_left
 .rw[aO (λh=>b h.1)]
  refine bd [(19,ab),(25,ab)] 200 rfl ?_ ?_
  .simp only[ai,a,bD,lx,cW,aG,aF];and_intros <;> first|exact b|omega
  refine AK.lZ () [0,1] rfl rfl rfl rfl rfl rfl rfl rfl rfl ?_ rfl rfl rfl rfl ll;simp[ai.cat,ai,a9.same]
 by_cases c2:s.2.1.1=0
 rotate_left
 .rw[aO (λh=>c2 h.2)]
  refine bd [(19,ae),(25,ab)] 200 rfl ?_ ?_
  .simp only[ai,a,b,bD,lx,nR,cW,aG,aF];and_intros <;> first|exact c2|omega
  refine AK.lZ () [0,1] rfl rfl rfl rfl rfl rfl rfl rfl rfl ?_ rfl rfl rfl rfl ll;simp[ai.cat,ai,a9.same]
 rw[aU ⟨b,c2⟩];refine bd [(19,ae),(25,ae)] 200 rfl ?_ ?_
 .simp only[ai,a,b,c2,bD,nR,aG,aF];omega
 refine AK.bM i [] rfl rfl rfl rfl rfl rfl rfl rfl rfl rfl rfl ?_;cases c3:(sF k s.1 by_ t).2 with
 |false =>
  rw[aO (by simp)]
  refine bd [(38,ab)] 200 rfl (by simp[ai,c3]) ?_
  refine AK.lZ () [0,1] rfl rfl rfl rfl rfl rfl rfl rfl rfl ?_ rfl rfl rfl rfl ll;simp[ai.cat,ai,a9.same]
 |true =>
  rw[aU rfl];have g:=(e c3).1;generalize (sF k s.1 by_ t).1=w2 at *;have c:=tI (X:=X) k w2 s.2.1 by_ q1.1 q1.2 g.s.LC m d.1 d.2;rw[show ((q1.1,q1.2):List (Int×Int)×List Int)=q1 from rfl] at c
  refine bd [(38,ae)] 200 rfl (by simp[ai,c3]) ?_
  refine AK.bM c [0,1] rfl rfl rfl rfl rfl rfl rfl rfl rfl rfl rfl ?_;refine ee rfl ay ?_;refine AK.lZ () [0,1] rfl rfl rfl rfl rfl rfl rfl rfl rfl ?_ rfl rfl rfl rfl ll;simp[ai.cat,ai,a9.same]
end Go.AM.R1
namespace Go.AM
section
variable {P:an}{X:Cx P}{N:Nat}{all:List av}{φ:Fr}{x:Nat->D}{l:Bool->Bool->Bool->Bool->List aW}{i g k f e:Nat}{o:av}
abbrev ya(l:Bool->Bool->Bool->Bool->List aW)(g k f e:Nat):(Nat->Bool)->List aW:=λD=>l (D g) (D k) (D f) (D e)
theorem ir{i j:Nat}{D:Nat->Bool}(h:aA j i=ae):cY i D j=D j:=by simp only[cY,h]
theorem Bn{i:Nat}{D:Nat->Bool}:cY i D i=ab:=by simp only[cY,jI]
theorem ez.q4(h1:aA g i=ae)(h2:aA k i=ae)(m:aA f i=ae)(j:aA e i=ae)(h:∀ a b c d,OA X N all o (nL all φ x i) (l a b c d) (x i) (l a b c d)):ez X N all φ x (ya l g k f e) i o:=by
 intro D _ _;show OA X N all o _ (l (D g) (D k) (D f) (D e)) _ (l (cY i D g) (cY i D k) (cY i D f) (cY i D e));rw[ir h1,ir h2,ir m,ir j];exact h _ _ _ _
theorem ez.c1(h2:aA k g=ae)(c:aA f g=ae)(b:aA e g=ae)(j:iu all k g=ab)(m:iu all f g=ab)(d:iu all e g=ab)
  (h:OA X N all o (nL all φ x g) (l ae ae ae ae) (x g) (l ab ae ae ae)):ez X N all φ x (ya l g k f e) g o:=by
 intro D n a;show OA X N all o _ (l (D g) (D k) (D f) (D e)) _ (l (cY g D g) (cY g D k) (cY g D f) (cY g D e));rw[Bn,ir h2,ir c,ir b,a g (.inl rfl),a k (.inr j),a f (.inr m),a e (.inr d)];exact h
theorem ez.c2(h1:aA g k=ae)(c:aA f k=ae)(b:aA e k=ae)(d:iu all k g=ab)(n:iu all f k=ab)(m:iu all e k=ab)
  (h:OA X N all o (nL all φ x k) (l ab ae ae ae) (x k) (l ab ab ae ae)):ez X N all φ x (ya l g k f e) k o:=by
 intro D j a;show OA X N all o _ (l (D g) (D k) (D f) (D e)) _ (l (cY k D g) (cY k D k) (cY k D f) (cY k D e));rw[Bn,ir h1,ir c,ir b,j g d,a k (.inl rfl),a f (.inr n),a e (.inr m)];exact h
theorem ez.c3(h1:aA g f=ae)(h2:aA k f=ae)(c:aA e f=ae)(d:iu all f g=ab)(m:iu all f k=ab)(j:iu all e f=ab)
  (h:OA X N all o (nL all φ x f) (l ab ab ae ae) (x f) (l ab ab ab ae)):ez X N all φ x (ya l g k f e) f o:=by
 intro D a b;show OA X N all o _ (l (D g) (D k) (D f) (D e)) _ (l (cY f D g) (cY f D k) (cY f D f) (cY f D e));rw[Bn,ir h1,ir h2,ir c,a g d,a k m,b f (.inl rfl),b e (.inr j)];exact h
theorem ez.c4(h1:aA g e=ae)(h2:aA k e=ae)(b:aA f e=ae)(c:iu all e g=ab)(d:iu all e k=ab)(j:iu all e f=ab)
  (h:OA X N all o (nL all φ x e) (l ab ab ab ae) (x e) (l ab ab ab ab)):ez X N all φ x (ya l g k f e) e o:=by
 intro D a m;show OA X N all o _ (l (D g) (D k) (D f) (D e)) _ (l (cY e D g) (cY e D k) (cY e D f) (cY e D e));rw[Bn,ir h1,ir h2,ir b,a g c,a k d,a f j,m e (.inl rfl)];exact h
end
end Go.AM
