/- Part 6. No condition. -/
import Derived.Test.YthilmklinlalbaaGreatDoorA5
set_option linter.all false
set_option maxHeartbeats 8000000
open Go.Proofs
open Go renaming Value → ah, Program → ar, TypeId → aj, Oper → au, FuncId → aJ
open Option renaming some → aa, none → af
open Bool renaming true → ab, false → ae
open List renaming getD_eq_getElem?_getD → ak, range → bh, all_eq_true → bC
open Nat renaming beq → aB, ble → bA
open Go.Proofs.Tryz renaming prog → ag
namespace Go.AM.R1
section
variable {X:Cx ag}
abbrev snB(s:fe):aR:=.cells 71 [.c (.int .i64 s.1),.c (.sl ae 2 s.2.length (cL.fn s.2))]
abbrev Mi(k:Int)(ps:List bJ)(ns:List Int):List Bs:=ns.map λn=>(de k ps n).getD []
def PF{k:Int}{ps:List bJ}{ns:List Int}{j:Nat}(h:j<ns.length):Mi k ps (ns.take (j+1))=Mi k ps (ns.take j)++[(de k ps (ns.getD j 0)).getD []]:=by grind[bY]
def Dq{k:Int}{ps:List bJ}{ns:List Int}{j:Nat}(h:j<ns.length)(a:de k ps (ns.getD j 0)=af):dL k ps ns=af:=by unfold dL;rw[aY];grind
def Bm{k:Int}{ps:List bJ}{ns:List Int}(h:∀j,j<ns.length->(de k ps (ns.getD j 0)).isSome=ab):dL k ps ns=aa (Mi k ps ns):=by unfold dL;rw[bl];grind[List.mem_iff_getElem]
def Bn(k:Int)(s:fe)(ps:List bJ)(H:s.2.length<=4000000)(F:∀x∈s.2,x.2.length<=4000000):
  Ev X 86 [dI k,NN s,cP.sl ps] [] (Pc ((cg k s ps).getD []) (cg k s ps).isSome) []:=by
 refine Ev.bQ Tryz.func86 rfl λJ=>?_;have a:bL X [(35,Dl),(135,Dp),(136,Mh),(10,WK)]:=.cons Hp (.cons Me (.cons TH (.cons t10 .nil)));cases hk:b7 k with
 |false =>
  refine aW a [(19,ab)] rfl ?_ (AK.bz rfl ?_)
  .simp[hk]
  .simp[cg,hk]
 |true =>
 refine aW a [(19,ae),(1000004,ab)] rfl (by simp[hk]) ?_;refine AK.iM 8 82 2 rfl rfl ?_;refine b8 a rfl ay ?_;refine AK.cE 2 (λi=>i<=s.2.length/\∀j,j<i->(fileOf k ps (s.2.getD j ([],[]))).isSome=ab) (λi:Nat=>[(0,dI k),(2,cP.sl ps),(4,.e (.one (.ptr 0 0))),(8,.e (.one (.vec 1 2 (c8 k ps (s.2.take i)).length (cF.fn (c8 k ps (s.2.take i)))))),(9,dI i)]) (λi=>[snB s,.vec 82 2 (c8 k ps (s.2.take i)).length (cF.fn (c8 k ps (s.2.take i)))]) (λi=>s.2.length-i) 0 rfl (by simp[c8]) rfl (by simp[c8]) rfl ⟨by omega,by omega⟩ ?_;rintro i ⟨hi,C⟩;by_cases h:i<s.2.length
 .have B:=F _ (l7 (d:=([],[])) h);have b:=pV (k:=k) (ps:=ps) h;have y:(c8 k ps (s.2.take i)).length=i:=by simp[c8];omega
  have f:s.2.getD (i:Int).toNat cL.cd=s.2.getD i ([],[]):=by grind
  have g:=pW (k:=k) (ps:=ps) h;generalize D:s.2.getD i ([],[])=x at B b f g;generalize c8 k ps (s.2.take i)=fs at *;refine aW a [(25,ab),(1000008,ab)] rfl (by simp;omega) ?_;refine AK.iM 10 9 1 rfl rfl ?_;refine b8 a rfl ay ?_;refine AK.cE 3 (λj=>j<=x.2.length/\∀q,q<j->(de k ps (x.2.getD q 0)).isSome=ab) (λj:Nat=>[(0,dI k),(2,cP.sl ps),(4,.e (.one (.ptr 0 0))),(8,.e (.one (.vec 1 2 fs.length (cF.fn fs)))),(9,dI i),(10,.e (.one (.vec 2 1 (Mi k ps (x.2.take j)).length (cS.fn (Mi k ps (x.2.take j)))))),(11,dI j)]) (λj=>[snB s,.vec 82 2 fs.length (cF.fn fs),.vec 9 1 (Mi k ps (x.2.take j)).length (cS.fn (Mi k ps (x.2.take j)))]) (λj=>x.2.length-j) 0 rfl (by simp) rfl (by simp) rfl ⟨by omega,by omega⟩ ?_;rintro j ⟨I,w⟩;by_cases z:j<x.2.length
  .have c:x.2.getD (j:Int).toNat cI.cd=x.2.getD j 0:=by grind
   cases n:de k ps (x.2.getD j 0)with
   |none =>
    have e:fileOf k ps x=af:=by simp[fileOf,Dq z n]
    refine aW a [(37,ab),(56,ab)] rfl ?_ (AK.fQ (AK.sZ (cw.zero rfl ?_)))
    .simp only[az,f,c,n,cP.list_fn,cP.aO];grind
    .rw[g e];simp
   |some q =>
    have l:=PF (k:=k) (ps:=ps) z;rw[n]at l;have o:(Mi k ps (x.2.take j)).length=j:=by grind
    have u:=cS.cy (Mi k ps (x.2.take j)) q;refine aW a [(37,ab),(56,ae)] rfl ?_ (AK.aQ (j+1) rfl ?_ ?_ ⟨z,λr G=>?_⟩ (by omega))
    .simp only[az,f,c,n,cP.list_fn,cP.aO,o,bD,show i9.bytes=16 from rfl];grind
    .rw[l];simp only[az.cat,az,f,c,n,cP.list_fn,cX,ig,aG,aE];and_intros<;>first|exact cA.same|exact u|rfl|omega
    .rw[l];simp only[az.cat,az,f,c,n,cP.list_fn,cX,ig,aG,aE];and_intros<;>first|exact cA.same|exact u|rfl|omega
    grind
  .obtain rfl:j=x.2.length:=by omega
   have p:=Bm w;rw[dq];have o:(Mi k ps x.2).length=x.2.length:=by simp
   refine aW a [(37,ae)] rfl (by simp only[az,f];simp[h]) (AK.leaveD rfl rfl ?_);cases m:fT (Mi k ps x.2)with
   |none =>
    have e:fileOf k ps x=af:=by simp[fileOf,p,m]
    refine aW a [(68,ab)] rfl ?_ (AK.fQ (cw.zero rfl ?_))
    .simp only[az,cS.list_fn,cS.aO,m];simp
    .rw[g e];simp
   |some t =>
    have e:fileOf k ps x=aa (x.1,t):=by simp[fileOf,p,m]
    rw[e]at b;have A:=cF.cy fs (x.1,t);refine aW a [(68,ae)] rfl ?_ (AK.aQ (i+1) rfl ?_ ?_ ⟨h,λr G=>?_⟩ (by omega))
    .simp only[az,f,cS.list_fn,cS.aO,m,y,bD,show i82.bytes=32 from rfl];grind
    .rw[b];simp only[az.cat,az,f,cS.list_fn,m,ij,cX,ig,aG,aE];and_intros<;>first|exact cA.same|exact A|rfl|omega
    .rw[b];simp only[az.cat,az,f,cS.list_fn,m,ij,cX,ig,aG,aE];and_intros<;>first|exact cA.same|exact A|rfl|omega
    grind
 .obtain rfl:i=s.2.length:=by omega
  rw[dq];have E:s.2.all (λx=>(fileOf k ps x).isSome)=ab:=bC.2 λx B=>by grind[List.mem_iff_getElem]
  refine aW a [(25,ae)] rfl (by simp) (AK.leaveD rfl rfl ?_);cases v:cC (c8 k ps s.2)with
  |false =>
   refine aW a [(83,ab)] rfl ?_ (AK.bz rfl ?_)
   .simp[cF.list_fn,cF.aO,v]
   .simp[cg,v]
  |true =>
   refine aW a [(83,ae)] rfl ?_ (AK.bz rfl ?_)
   .simp[cF.list_fn,cF.aO,v]
   .simp[cg,v,hk,E]
abbrev x3:dv:=Fc aI (Fh cL) (aL cP) (λk s ps=>Pc ((cg k s ps).getD []) (cg k s ps).isSome) λ_ s _=>[s.2.length<=4000000,∀x∈s.2,x.2.length<=4000000]
def FI:er X 86 x3:=.Lf λk s ps h=>Bn k s ps h.1 h.2
abbrev tq:=Int×Int
def gR(h:tq):Bool:=decide (1<=h.1/\h.1<=2)&&decide (1<=h.2/\h.2<=20)
def iQ(l:List tq):Bool:=(bh l.length).all (λi=>gR (l.getD i (0,0)))&&decide (l.length<=9)
abbrev ZT(h:tq):D:=.e (.agg [.c (.int .i64 h.1),.c (.int .i64 h.2)])
def IS(h:tq):Ev X 87 [ZT h] [] (dB (gR h)) []:=by
 refine Ev.bQ Tryz.func87 rfl λb=>?_;have a:bL X [(23,Dc)]:=.cons Fz .nil;by_cases c:1<=h.1/\h.1<=2
 .exact aW a [(6,ab)] rfl (by simp[c]) (AK.bz rfl (by simp[gR,c]))
 .exact aW a [(6,ae)] rfl (by simp;omega) (AK.bz rfl (by simp only[az,gR,iC c];simp))
def IT(l:List tq):Ev X 36 [cH.sl l] [] (dB (iQ l)) []:=by
 refine Ev.bQ Tryz.func36 rfl λf=>?_;have d:=f.sl 0 rfl;have b:bL X [(87,kL UB (λh=>dB (gR h)) λ_=>[])]:=.cons (.pS λh _=>IS h) .nil;refine b8 b rfl ay ?_;unfold iQ;refine AK.kg (λi=>i<=l.length/\∀j,j<i->gR (l.getD j (0,0))=ab) (λi:Nat=>[(0,cH.sl l),(3,dI i)]) (λ_=>[]) (λi=>l.length-i) 0 rfl (by simp) rfl ay ⟨by omega,by omega⟩ ?_;rintro i ⟨hi,a⟩;by_cases h:i<l.length
 .have e:l.getD i cH.cd=l.getD i (0,0):=rfl;cases c:gR (l.getD i (0,0))with
  |false =>
   refine aW b [(7,ab),(15,ab)] rfl ?_ (AK.ir (cw.zero rfl ?_))
   .simp[-ak,e,c,h]
   .rw[iP h c];simp
  |true =>
   refine aW b [(7,ab),(15,ae)] rfl ?_ (AK.gb (i+1) rfl (by simp) rfl ay ⟨h,kn a c⟩ (by omega));simp[-ak,e,c,h,bD];omega
 .obtain rfl:i=l.length:=by omega
  refine aW b [(7,ae)] rfl (by simp) (AK.leave rfl rfl ?_);exact b8 b rfl ay (AK.bz rfl (by rw[dE.2 a];simp;omega))
abbrev oM:dv:=kL (aL cH) (λl=>dB (iQ l)) λ_=>[]
def PG:er X 36 oM:=.pS λl _=>IT l
def bE(ps:List bJ):List Int:=ps.flatMap λp=>p.2.map (·.1)
def Dr{α:Type}(f:α->Int)(d:α)(l:List α)(i:Nat):Bool:=i==0||decide (f (l.getD (i-1) d)<f (l.getD i d))
def mz(k:Int)(ps:List bJ)(i:Nat):Bool:=gx k (ps.getD i (0,[]))&&Dr (·.1) (0,[]) ps i
def ko(k:Int)(s:bk)(i:Nat):Bool:=decide (1<=(s.2.1.getD i (0,[])).1/\(s.2.1.getD i (0,[])).1<=20)&&Dr (·.1) (0,[]) s.2.1 i&&(cg k (s.2.1.getD i (0,[])) s.1).isSome
def fI(k:Int)(s:bk):Bool:=(bh s.1.length).all (mz k s.1)&&decide (bE s.1).Nodup&&(bh s.2.1.length).all (ko k s)&&b7 k&&iQ s.2.2&&decide (s.1.length<=20)
def x4{ps:List bJ}{i:Nat}(h:i<ps.length):bE (ps.take (i+1))=bE (ps.take i)++(ps.getD i (0,[])).2.map (·.1):=by rw[bY h (0,[])];simp[bE]
def IU{ps:List bJ}{i:Nat}(h:¬(bE (ps.take i)).Nodup):¬(bE ps).Nodup:=λa=>h (by
 have:bE ps=bE (ps.take i)++bE (ps.drop i):=by unfold bE;grind[List.take_append_drop]
 grind)
abbrev Q9(s:bk):aR:=.cells 27 [.c (.sl ae 2 s.1.length (cP.fn s.1)),.c (.sl ae 2 s.2.1.length (fi.fn s.2.1)),.c (.sl ae 2 s.2.2.length (cH.fn s.2.2))]
def Mj(k:Int)(s:bk)(x:fe)(a:x.2.length<=4000000)(c:∀y∈x.2,y.2.length<=4000000):Ev X 34 [dI k,po s,NN x] [] (dB (cg k x s.1).isSome) []:=by
 refine Ev.bQ Tryz.func34 rfl λd=>?_;have b:bL X [(86,x3)]:=.cons FI .nil;have e:(x.1,cL.list x.2.length (cL.fn x.2))=x:=by rw[cL.list_fn]
 refine b8 b rfl ?_ (AK.bz rfl ?_)
 .simp only[az,cL.list_fn,cL.aO,cP.aO,a,aG,aE];exact c
 .simp[cL.list_fn,cP.list_fn]
abbrev Mk:dv:=Fc aI S5 (Fh cL) (λk s x=>dB (cg k x s.1).isSome) λ_ _ x=>[x.2.length<=4000000,∀y∈x.2,y.2.length<=4000000]
def TJ:er X 34 Mk:=.Lf λk s x h=>Mj k s x h.1 h.2
def qP{α:Type}{f:α->Int}{d:α}{l:List α}{i:Nat}(h:i≠0):Dr f d l i=decide (f (l.getD (i-1) d)<f (l.getD i d)):=by unfold Dr;grind
def Ds(k:Int)(s:bk)(K:kM s)(Q:s.1.length<=4000000)(P:s.2.1.length<=4000000):Ev X 9 [dI k,po s] [] (dB (fI k s)) []:=by
 refine Ev.bQ Tryz.func9 rfl λO=>?_;have c:bL X [(32,Dn),(33,Rr),(23,Dc),(34,Mk),(35,Dl),(36,oM)]:=.cons Md (.cons WJ (.cons Fz (.cons TJ (.cons Hp (.cons PG .nil)))));refine aW c [(1000002,ab)] rfl ay ?_;refine AK.iM 5 3 1 rfl rfl ?_;refine b8 c rfl ay ?_;unfold fI;refine AK.cE 2 (λi=>i<=s.1.length/\(∀j,j<i->mz k s.1 j=ab)/\(bE (s.1.take i)).Nodup/\(bE (s.1.take i)).length<=4*i) (λi:Nat=>[(0,dI k),(3,.e (.one (.ptr 0 0))),(5,.e (.one (.vec 1 1 (bE (s.1.take i)).length (cI.fn (bE (s.1.take i)))))),(6,dI i)]) (λi=>[Q9 s,.vec 3 1 (bE (s.1.take i)).length (cI.fn (bE (s.1.take i)))]) (λi=>s.1.length-i) 0 rfl (by simp[bE]) rfl (by simp[bE]) rfl ⟨by omega,by omega,by simp[bE],by simp[bE]⟩ ?_;rintro i ⟨hi,g,y,L⟩;by_cases h:i<s.1.length
 .have v:=x4 h;have D:=IU (ps:=s.1) (i:=i+1);have m:s.1.getD i cP.cd=s.1.getD i (0,[]):=rfl;have n:s.1.getD (i-1) cP.cd=s.1.getD (i-1) (0,[]):=rfl;have b:mz k s.1 i=(gx k (s.1.getD i (0,[]))&&Dr (·.1) (0,[]) s.1 i):=rfl;have F:=qP (f:=λp:bJ=>p.1) (d:=(0,[])) (l:=s.1) (i:=i);generalize E:s.1.getD i (0,[])=p at *;generalize s.1.getD (i-1) (0,[])=p' at *;cases t:gx k p with
  |false =>
   rw[t,ss]at b;refine aW c [(14,ab),(25,ab),(44,ab)] rfl ?_ (AK.fQ (cw.zero rfl ?_))
   .simp[-ak,m,t,eg.list_fn,eg.aO,h]
   .rw[iP h b];simp
  |true =>
   have R:p.2.length<=4:=by grind[pY]
   rw[t,fO]at b;cases u:Dr (·.1) (0,[]) s.1 i with
   |false =>
    have r:i≠0:=by rintro rfl;cases u
    have A:¬p'.1<p.1:=by grind
    refine aW c [(14,ab),(25,ae),(28,ab),(42,ab),(44,ab)] rfl ?_ (AK.fQ (cw.zero rfl ?_))
    .simp[-ak,m,n,t,eg.list_fn,eg.aO,h,bD];omega
    .rw[iP h (b.trans u)];simp
   |true =>
   rw[u]at b;apply AK.join [(0,dI k),(3,.e (.one (.ptr 0 0))),(5,.e (.one (.vec 1 1 (bE (s.1.take i)).length (cI.fn (bE (s.1.take i)))))),(6,dI i),(7,dI 0)] [Q9 s,.vec 3 1 (bE (s.1.take i)).length (cI.fn (bE (s.1.take i)))]
   .intro z;by_cases r:i=0
    .subst r;refine aW c [(14,ab),(25,ae),(28,ae),(44,ae)] rfl ?_ (z _ _ rfl ?_)
     .simp[-ak,m,t,eg.list_fn,eg.aO,h]
     .simp
    .have A:p'.1<p.1:=by grind
     refine aW c [(14,ab),(25,ae),(28,ab),(42,ae),(44,ae)] rfl ?_ (z _ _ rfl ?_)
     .simp[-ak,m,n,t,eg.list_fn,eg.aO,h,bD];omega
     .simp
   generalize bE (s.1.take i)=ns at *;refine AK.cE 2 (λj=>j<=p.2.length/\(ns++(p.2.take j).map (·.1)).Nodup) (λj:Nat=>[(0,dI k),(3,.e (.one (.ptr 0 0))),(5,.e (.one (.vec 1 1 (ns++(p.2.take j).map (·.1)).length (cI.fn (ns++(p.2.take j).map (·.1)))))),(6,dI i),(7,dI j)]) (λj=>[Q9 s,.vec 3 1 (ns++(p.2.take j).map (·.1)).length (cI.fn (ns++(p.2.take j).map (·.1)))]) (λj=>p.2.length-j) 0 rfl (by simp) rfl (by simp) rfl ⟨by omega,by grind⟩ ?_;rintro j ⟨N,G⟩;by_cases o:j<p.2.length
   .have B:p.2.getD j eg.cd=hI p j:=rfl;have x:ns++(p.2.take (j+1)).map (·.1)=(ns++(p.2.take j).map (·.1))++[(hI p j).1]:=by grind[bY]
    have w:(ns++(p.2.take j).map (·.1)).length=ns.length+j:=by grind
    generalize ns++(p.2.take j).map (·.1)=a at *;cases J:a.contains (hI p j).1 with
    |true =>
     refine aW c [(53,ab),(67,ab)] rfl ?_ (AK.fQ (AK.sZ (cw.zero rfl ?_)))
     .simp[-ak,-List.contains_eq_mem,m,B,h,o,J,cI.list_fn,cI.aO]
     .have M:¬(bE s.1).Nodup:=D (by
       have e:ns++p.2.map (·.1)=(ns++(p.2.take (j+1)).map (·.1))++(p.2.drop (j+1)).map (·.1):=by grind[List.take_append_drop]
       grind)
      simp[M]
    |false =>
     have H:=cI.cy a (hI p j).1;have C:cI.list (ns.length+j) (cI.fn a)=a:=by rw[<-w];exact cI.list_fn a
     refine aW c [(53,ab),(67,ae)] rfl ?_ (AK.aQ (j+1) rfl ?_ ?_ ⟨o,?_⟩ (by omega))
     .simp[-ak,-List.contains_eq_mem,m,B,h,o,J,cI.list_fn,cI.aO,w,C,bD,show i3.bytes=8 from rfl];omega
     .rw[x];simp only[az.cat,az,cf,m,B,cX,ig,aG,aE];and_intros<;>first|exact cA.same|exact H|rfl|omega
     .rw[x];simp only[az.cat,az,cf,m,B,cX,ig,aG,aE];and_intros<;>first|exact cA.same|exact H|rfl|omega
     grind
   .obtain rfl:j=p.2.length:=by omega
    rw[dq]at G⊢;refine aW c [(53,ae)] rfl ?_ (AK.leaveD rfl rfl ?_)
    .simp[-ak,m,h]
    refine b8 c rfl ?_ (AK.aQ (i+1) rfl ?_ ?_ ⟨h,kn g b,by grind,by grind⟩ (by omega))
    .simp[bD];omega
    .rw[v];simp
    .rw[v];simp
 obtain rfl:i=s.1.length:=by omega
 rw[dq]at y⊢;refine aW c [(14,ae)] rfl (by simp) (AK.leaveD rfl rfl ?_);refine b8 c rfl ay ?_;rw[dE.2 g,dc y,fO,fO];generalize bE s.1=ns;refine AK.cE 2 (λi=>i<=s.2.1.length/\(∀j,j<i->ko k s j=ab)) (λi:Nat=>[(0,dI k),(3,.e (.one (.ptr 0 0))),(8,dI i)]) (λ_=>[Q9 s,.vec 3 1 ns.length (cI.fn ns)]) (λi=>s.2.1.length-i) 0 rfl (by simp) rfl (by simp) rfl ⟨by omega,by omega⟩ ?_;rintro i ⟨hi,g⟩;by_cases h:i<s.2.1.length
 .have m:s.2.1.getD i fi.cd=s.2.1.getD i (0,[]):=rfl;have n:s.2.1.getD (i-1) fi.cd=s.2.1.getD (i-1) (0,[]):=rfl;have q:=K _ (l7 (d:=(0,[])) h);have b:ko k s i=(decide (1<=(s.2.1.getD i (0,[])).1/\(s.2.1.getD i (0,[])).1<=20)&&Dr (·.1) (0,[]) s.2.1 i&&(cg k (s.2.1.getD i (0,[])) s.1).isSome):=rfl;have F:=qP (f:=λp:fe=>p.1) (d:=(0,[])) (l:=s.2.1) (i:=i);generalize E:s.2.1.getD i (0,[])=p at *;generalize s.2.1.getD (i-1) (0,[])=p' at *;by_cases c1:1<=p.1/\p.1<=20
  rotate_left
  .refine aW c [(85,ab),(96,ab),(116,ab),(126,ab)] rfl ?_ (AK.fQ (cw.zero rfl ?_))
   .simp[-ak,m,h];omega
   .rw[iP h (by grind)];simp
  cases u:Dr (·.1) (0,[]) s.2.1 i with
  |false =>
   have r:i≠0:=by rintro rfl;cases u
   have A:¬p'.1<p.1:=by grind
   refine aW c [(85,ab),(96,ae),(99,ab),(113,ab),(116,ab),(126,ab)] rfl ?_ (AK.fQ (cw.zero rfl ?_))
   .simp[-ak,m,n,h,c1,bD];omega
   .rw[iP h (by grind)];simp
  |true =>
   rw[dc c1,u,fO,fO]at b;cases o:(cg k p s.1).isSome with
   |false =>
    by_cases r:i=0
    .subst r;refine aW c [(85,ab),(96,ae),(99,ae),(116,ae),(126,ab)] rfl ?_ (AK.fQ (cw.zero rfl ?_))
     .simp[-ak,m,h,c1,cL.list_fn,cL.aO,cP.list_fn,cP.aO,fi.aO,cH.aO,o,q.1];grind
     .rw[iP h (b.trans o)];simp
    .have A:p'.1<p.1:=by grind
     refine aW c [(85,ab),(96,ae),(99,ab),(113,ae),(116,ae),(126,ab)] rfl ?_ (AK.fQ (cw.zero rfl ?_))
     .simp[-ak,m,n,h,c1,bD,cL.list_fn,cL.aO,cP.list_fn,cP.aO,fi.aO,cH.aO,o,q.1];and_intros<;>first|omega|grind
     .rw[iP h (b.trans o)];simp
   |true =>
    rw[o]at b;by_cases r:i=0
    .subst r;refine aW c [(85,ab),(96,ae),(99,ae),(116,ae),(126,ae)] rfl ?_ (AK.aQ 1 rfl (by simp) (by simp) ⟨h,kn g b⟩ (by omega));simp[-ak,m,h,c1,bD,cL.list_fn,cL.aO,cP.list_fn,cP.aO,fi.aO,cH.aO,o,q.1];grind
    .have A:p'.1<p.1:=by grind
     refine aW c [(85,ab),(96,ae),(99,ab),(113,ae),(116,ae),(126,ae)] rfl ?_ (AK.aQ (i+1) rfl (by simp) (by simp) ⟨h,kn g b⟩ (by omega));simp[-ak,m,n,h,c1,bD,cL.list_fn,cL.aO,cP.list_fn,cP.aO,fi.aO,cH.aO,o,q.1];and_intros<;>first|omega|grind
 obtain rfl:i=s.2.1.length:=by omega
 refine aW c [(85,ae)] rfl (by simp) (AK.leaveD rfl rfl ?_);rw[dE.2 g,fO];cases hk:b7 k
 .exact aW c [(129,ae),(134,ae)] rfl (by simp[hk]) (AK.bz rfl)
 cases I:iQ s.2.2
 .exact aW c [(129,ab),(134,ae)] rfl (by simp[hk,I,cH.list_fn,cH.aO]) (AK.bz rfl)
 exact aW c [(129,ab),(134,ab)] rfl (by simp[hk,I,cH.list_fn,cH.aO]) (AK.bz rfl (by simp;omega))
abbrev zz:dv:=pj aI S5 (λk s=>dB (fI k s)) λ_ s=>[kM s,s.1.length<=4000000,s.2.1.length<=4000000]
def IV:er X 9 zz:=.tf λk s h=>Ds k s h.1 h.2.1 h.2.2
def pX{α:Type}(c:mI α)(l:List α)(x y:α):cA (l.length+1+1) (cK (l.length+1) (cK l.length (c.fn l) λq=>[c.enc x].getD q []) λq=>[c.enc y].getD q []) (c.fn (l++[x,y])):=c.pX l x y
def u7(l:List fe):List Int:=l.flatMap λx=>we x.2
structure SmS(s:bk):Prop where
 pN:s.1.length<=4000000
 sm:kM s
 sN:s.2.1.length<=4000000
 aN:(u7 s.2.1).length<=4000000
def Jj(n:Int):Ev X 95 [dI n] [] (dB (decide (0<=n)&&decide (n<999999999989))) []:=by
 refine Ev.bQ Tryz.func95 rfl λa=>?_;by_cases h:0<=n
 .exact aX [(5,ab)] rfl (by simp[h]) (AK.bz rfl (by simp[h]))
 .exact aX [(5,ae)] rfl (by simp[h]) (AK.bz rfl (by simp[h]))
def Gd(a b:Int):Ev X 47 [P6 a b] [] (dB (eu (a,b))) []:=by
 refine Ev.bQ Tryz.func47 rfl λe=>?_;have d:bL X [(95,kL aI (λn=>dB (decide (0<=n)&&decide (n<999999999989))) λ_=>[])]:=.cons (.pS λn _=>Jj n) .nil;unfold eu;cases h:(decide (0<=a)&&decide (a<999999999989))with
 |false=>exact aW d [(6,ae),(11,ae)] rfl (by simp[h]) (AK.bz rfl)
 |true =>
  by_cases c:1<=b
  .exact aW d [(6,ab),(11,ab)] rfl (by simp[h,c]) (AK.bz rfl (by simp[c]))
  .exact aW d [(6,ab),(11,ae)] rfl (by simp[h,c]) (AK.bz rfl (by simp[c]))
abbrev Ge:dv:=kL UB (λs=>dB (eu s)) λ_=>[]
def Ny:er X 47 Ge:=.pS λs _=>Gd s.1 s.2
def zL(l:List (Int×Int)):∀t:Tr,Tr.Ok t->(l.foldl (λt x=>t.put x.1 x.2) t).list=l.foldl fS t.list/\Tr.Ok (l.foldl (λt x=>t.put x.1 x.2) t):=by
 induction l with
 |nil=>grind
 |cons x r a =>
  grind[yb,PI]
def DX(l:List bJ)(F:l.length<=4000000)(E:(cV l).length<=100000):Ev X 12 [cP.sl l] [] (cH.sl (indexOf l)) []:=by
 refine Ev.bQ Tryz.func12 rfl λC=>?_;have d:bL X [(47,Ge)]:=.cons Ny .nil;refine cG d rfl ay ?_;refine AK.iM 3 91 2 rfl rfl ?_;refine AK.cE 1 (λi=>i<=l.length/\(cV (l.take i)).all eu=ab) (λi:Nat=>[(3,.e (.one (.vec 0 2 (cV (l.take i)).length (cH.fn (cV (l.take i)))))),(9,cP.sl l),(10,dI l.length),(11,dI i)]) (λi=>[BX (cV (l.take i))]) (λi=>l.length-i) 0 rfl ?_ rfl ?_ rfl ⟨by omega,rfl⟩ ?_
 .simp[cV]
 .simp[cV]
 rintro i ⟨hi,b⟩;by_cases h:i<l.length
 .have t:l.getD (i:Int).toNat cP.cd=l.getD i (0,[]):=by grind
  have p:=rW h;refine bn d [(12,ab)] rfl (by simp only[az,a9];omega) ?_;refine AK.cE 2 (λj=>j<=(l.getD i (0,[])).2.length/\(kO l i j).all eu=ab) (λj:Nat=>[(3,.e (.one (.vec 0 2 (kO l i j).length (cH.fn (kO l i j))))),(5,.e (.one (.ptr 1 0))),(9,cP.sl l),(10,dI l.length),(11,dI i),(16,eg.sl (l.getD i (0,[])).2),(17,dI (l.getD i (0,[])).2.length),(18,dI j)]) (λj=>[BX (kO l i j),.cells 67 [.c (.int .i64 (l.getD i (0,[])).1),.c (.sl ae 2 (l.getD i (0,[])).2.length (eg.fn (l.getD i (0,[])).2))]]) (λj=>(l.getD i (0,[])).2.length-j) 0 rfl ?_ rfl ?_ rfl ⟨by omega,by simpa[kO]using b⟩ ?_
  .simp only[kO,List.take_zero,iD,t,az.cat,az,aG,aE];and_intros<;>first|exact cA.same|rfl|omega
  .simp only[kO,List.take_zero,iD,t,az.cat,az,aG,aE];and_intros<;>first|exact cA.same|rfl|omega
  rintro j ⟨B,n⟩;obtain⟨r,z⟩:=tk (l:=l) (j:=j) h;have q:(kO l i j).length<=100000:=by grind
  have u:(l.getD i (0,[])).2.length<=100000:=by grind[Df]
  by_cases D:j<(l.getD i (0,[])).2.length
  .have a:(l.getD i (0,[])).2.getD (j:Int).toNat eg.cd=(l.getD i (0,[])).2.getD j (0,[]):=by grind
   have f:kO l i (j+1)=kO l i j++[(((l.getD i (0,[])).2.getD j (0,[])).1,(l.getD i (0,[])).1)]:=by unfold kO;rw[l8];congr 1;rw[bY (by grind) (0,0)];grind
   have m:=cH.cy (kO l i j) (((l.getD i (0,[])).2.getD j (0,[])).1,(l.getD i (0,[])).1);cases k:eu (((l.getD i (0,[])).2.getD j (0,[])).1,(l.getD i (0,[])).1)with
   |false =>
    have y:indexOf l=[]:=by obtain⟨r,z⟩:=tk (l:=l) (j:=j+1) h;unfold indexOf;rw[aY];grind
    refine bn d [(19,ab),(29,ab)] rfl ?_ (AK.fQ (cw.zero rfl ?_))
    .simp only[az,a,k,a9,aG,aE];and_intros<;>first|rfl|omega
    .rw[y];simp
   |true =>
    refine bn d [(19,ab),(29,ae)] rfl ?_ (AK.aQ (j+1) rfl ?_ ?_ ?_ ?_)
    .simp only[az,a,k,bD,show i91.bytes=16 from rfl,a9,aG,aE];and_intros<;>first|rfl|omega
    .rw[f];simp only[cX,ig,az.cat,az,a,aG,aE];and_intros<;>first|exact m|exact cA.same|rfl|omega
    .rw[f];simp only[cX,ig,az.cat,az,a,aG,aE];and_intros<;>first|exact m|exact cA.same|rfl|omega
    .grind
    .omega
  .have w:j=(l.getD i (0,[])).2.length:=by omega
   have g:kO l i j=cV (l.take (i+1)):=by rw[p,kO];grind[List.length_map]
   refine bn d [(19,ae)] rfl ?_ (AK.leaveD rfl rfl ?_)
   .simp only[az,bS];grind
   rw[g];refine cG d rfl ?_ (AK.aQ (i+1) rfl ?_ ?_ ⟨h,g▸n⟩ (by omega))
   .simp only[az,bD,aE];omega
   .simp
   .simp
 .obtain rfl:i=l.length:=by omega
  rw[dq]at b⊢;refine bn d [(12,ae)] rfl (by simp) (AK.leaveD rfl rfl ?_);refine AK.CI (φ':=[(3,cH.sl (cV l))]) (σ':=[BX (cV l)]) ?_ rfl (by simp) rfl (by simp);have o:∀x∈cV l,bD .i64 x.1/\bD .i64 x.2:=λx v=>by have:=bC.1 b x v;simp only[eu,bR,a9]at this;simp only[bD];omega
  have c2:bL X [(42,pU [Rx (cV l)] (.e (.one (.c (tC (oS (cV l)))))))]:=.cons (rQ (zM (cV l) (by omega) o)) .nil;have hT:(oS (cV l)).list=indexOf l:=by unfold indexOf;rw[bl b];exact(zL (cV l) .nil (by simp[Tr.Ok,Tr.list])).1
  have s:(indexOf l).length<=100000:=by have:=uu (cV l) [];unfold indexOf;grind
  rw[<-hT]at s⊢;clear hT;generalize oS (cV l)=T at *;have A:=DZ (X:=X) T (by omega)
  cases T<;>(
   refine cG c2 rfl rfl ?_;refine AK.j4 A.tQ [] rfl rfl rfl rfl (by simp[tC]) rfl rfl rfl (λ_=>rfl) rfl (λ_=>rfl) rfl λ_=>?_
   exact cG c2 rfl ay (AK.bz rfl))
def qb(l:List Bs)(v:Bs):Int:=match l.findIdx? (λx=>x==v)with
 |some i=>i
 |none=>-1
def Jk{l:List Bs}{v:Bs}{i:Nat}(hi:i<l.length)(h:∀j,j<i->l.getD j []≠v)(b:l.getD i []=v):qb l v=i:=by
 have:l.findIdx? (λx=>x==v)=aa i:=by rw[ru];refine⟨hi,by grind,λj a=>?_⟩;grind
 simp only[qb,this]
def Jl{l:List Bs}{v:Bs}(h:∀j,j<l.length->l.getD j []≠v):qb l v=-1:=by
 have:l.findIdx? (λx=>x==v)=af:=by grind[List.getElem_of_mem]
 simp only[qb,this]
def Gf(l:List Bs)(v:Bs):decide (0<=qb l v)=l.contains v:=by unfold qb;grind
def Jm(l:List Bs)(v:Bs):Ev X 94 [cS.sl l,dS v] [] (dI (qb l v)) []:=by
 refine Ev.bQ Tryz.func94 rfl λe=>?_;have f:=e.sl 0 rfl;refine bt rfl ay ?_;refine AK.cE 0 (λi=>i<=l.length/\∀j,j<i->l.getD j []≠v) (λi:Nat=>[(0,cS.sl l),(1,dS v),(7,dI l.length),(8,dI i)]) (λ_=>[]) (λi=>l.length-i) 0 rfl (by simp) rfl ay rfl ⟨by omega,by omega⟩ ?_;rintro i ⟨hi,a⟩;by_cases h:i<l.length
 .have b:l.getD (i:Int).toNat cS.cd=l.getD i []:=rfl;by_cases c:l.getD i []=v
  .rw[Jk h a c];refine aX [(9,ab),(16,ab)] rfl ?_ (AK.fQ (cw.zero rfl));simp only[az,b,a9,gp,aG,aE];and_intros<;>first|exact c.symm|omega
  .refine aX [(9,ab),(16,ae)] rfl ?_ (AK.aQ (i+1) rfl ?_ ay ⟨h,λj d=>?_⟩ (by omega))
   .simp only[az,b,bD,a9,eD,aG,aE];and_intros<;>first|grind|omega
   .simp
   grind
 .rw[Jl λj d=>a j (by omega)];refine aX [(9,ae)] rfl (by simp only[az,bS];omega) (AK.leaveD rfl rfl ?_);exact bt rfl ay (AK.bz rfl)
abbrev Qt:dv:=pj (aL cS) aS (λl v=>dI (qb l v)) λ_ _=>[]
def Jn(l:List Bs)(v:Bs):Ev X 46 [cS.sl l,dS v] [] (dB (l.contains v)) []:=by refine Ev.bQ Tryz.func46 rfl λb=>?_;have a:bL X [(94,Qt)]:=.cons (.tf λl v _=>Jm l v) .nil;refine b8 a rfl (by simp only[az];exact cS.aO _) (AK.bz rfl ?_);simp only[az,cS.list_fn,aE];exact Gf l v
abbrev Hz:dv:=pj (aL cS) aS (λl v=>dB (l.contains v)) λ_ _=>[]
def P8:er X 46 Hz:=.tf λl v _=>Jn l v
def rZ(l:List cn)(i:Nat):Bool:=(bh i).all λj=>eu (l.getD j (0,0))&&(j==0||decide ((l.getD (j-1) (0,0)).1<(l.getD j (0,0)).1))
theorem Ea{l:List cn}{i:Nat}:rZ l (i+1)=(rZ l i&&(eu (l.getD i (0,0))&&(i==0||decide ((l.getD (i-1) (0,0)).1<(l.getD i (0,0)).1)))):=by unfold rZ;rw[List.range_succ,List.all_append];simp
def zT{l:List cn}{i:Nat}(h:rZ l i=ae):∀n,i<=n->rZ l n=ae:=by
 intro n a;obtain⟨k,rfl⟩:=Nat.exists_eq_add_of_le a;induction k with
 |zero=>exact h
 |succ k b=>grind[Ea]
def DU(l:List cn):Ev X 41 [cH.sl l] [] (dB (rZ l l.length)) []:=by
 refine Ev.bQ Tryz.func41 rfl λg=>?_;have k:=g.sl 0 rfl;have a:bL X [(47,Ge)]:=.cons Ny .nil;refine b8 a rfl ay ?_;refine AK.cE 0 (λi=>i<=l.length/\rZ l i=ab) (λi:Nat=>[(0,cH.sl l),(5,cH.sl l),(6,dI l.length),(7,dI i)]) (λ_=>[]) (λi=>l.length-i) 0 rfl (by simp) rfl ay rfl ⟨by omega,rfl⟩ ?_;rintro i ⟨hi,b⟩;by_cases h:i<l.length
 .have f:=Ea (l:=l) (i:=i);rw[b,fO]at f;have d:l.getD (i:Int).toNat cH.cd=l.getD i (0,0):=rfl;cases c:eu (l.getD i (0,0))with
  |false =>
   rw[zT (i:=i+1) (by grind) l.length (by omega)];refine aW a [(8,ab),(14,ab),(29,ab)] rfl ?_ (AK.fQ (cw.zero rfl));simp only[az,d,c,a9,aG,aE];and_intros<;>first|rfl|omega
  |true =>
  rw[c,fO]at f;by_cases j:i=0
  .subst j;refine aW a [(8,ab),(14,ae),(17,ae),(29,ae)] rfl ?_ (AK.aQ 1 rfl (by simp) ay ⟨h,f⟩ (by omega));simp only[az,d,c,bD,a9,bS,aG,aE];and_intros<;>first|rfl|omega
  have e:l.getD ((i:Int)-1).toNat cH.cd=l.getD (i-1) (0,0):=by rw[show((i:Int)-1).toNat=i-1 by omega];rfl
  by_cases m:(l.getD (i-1) (0,0)).1<(l.getD i (0,0)).1
  .refine aW a [(8,ab),(14,ae),(17,ab),(29,ae)] rfl ?_ (AK.aQ (i+1) rfl (by simp) ay ⟨h,by grind⟩ (by omega));simp only[az,d,e,c,bD,a9,bS,aG,aE];and_intros<;>first|rfl|omega
  .rw[zT (i:=i+1) (by grind) l.length (by omega)];refine aW a [(8,ab),(14,ae),(17,ab),(29,ab)] rfl ?_ (AK.fQ (cw.zero rfl));simp only[az,d,e,c,bD,a9,aG,aE];and_intros<;>first|rfl|omega
 .obtain rfl:i=l.length:=by omega
  rw[b];refine aW a [(8,ae)] rfl (by simp) (AK.leaveD rfl rfl ?_);exact b8 a rfl ay (AK.bz rfl)
def IB(l:List Int):Ev X 84 [cI.sl l,cI.sl l] [] (dB ab) []:=by
 refine Ev.bQ Tryz.func84 rfl λa=>?_;have b:=a.sl 0 rfl;refine aX [(10,ae)] rfl (by simp) ?_;refine AK.cE 0 (λi=>i<=l.length) (λi:Nat=>[(0,cI.sl l),(1,cI.sl l),(5,dI i)]) (λ_=>[]) (λi=>l.length-i) 0 rfl (by simp) rfl (by simp) rfl (by omega) ?_;intro i hi;by_cases h:i<l.length
 .refine bO [(14,ab),(25,ae)] rfl ?_ (AK.aQ (i+1) rfl ?_ ?_ ?_ ?_)
  .simp only[az,bD,jR,jD,oo,a9,aG,aE];and_intros<;>omega
  .simp
  .simp
  .grind
  .omega
 .refine bO [(14,ae)] rfl (by simp;omega) (AK.leaveD rfl rfl ?_);exact dm rfl ay (AK.bz rfl)
abbrev Wm:dv:=pj (aL cI) (aL cI) (λ_ _=>dB ab) λa b=>[b=a]
def ZM:er X 84 Wm:=.tf λa b h=>by have:b=a:=h;subst this;exact IB _
def LS(l:List (Int×Int)):Ev X 29 [cH.sl l,cH.sl l] [] (dB ab) []:=by
 refine Ev.bQ Tryz.func29 rfl λa=>?_;have b:=a.sl 0 rfl;refine aX [(10,ae)] rfl (by simp) ?_;refine AK.cE 0 (λi=>i<=l.length) (λi:Nat=>[(0,cH.sl l),(1,cH.sl l),(5,dI i)]) (λ_=>[]) (λi=>l.length-i) 0 rfl (by simp) rfl (by simp) rfl (by omega) ?_;intro i hi;by_cases h:i<l.length
 .refine bO [(14,ab),(25,ae)] rfl ?_ (AK.aQ (i+1) rfl ?_ ?_ ?_ ?_)
  .simp[bD,h];omega
  .simp
  .simp
  .grind
  .omega
 .refine bO [(14,ae)] rfl (by simp;omega) (AK.leaveD rfl rfl ?_);exact dm rfl ay (AK.bz rfl)
abbrev Wn:dv:=pj (aL cH) (aL cH) (λ_ _=>dB ab) λa b=>[b=a]
def ZN:er X 29 Wn:=.tf λa b h=>by have:b=a:=h;subst this;exact LS _
abbrev pB(p:bJ):aR:=.cells 67 [.c (.int .i64 p.1),.c (.sl ae 2 p.2.length (eg.fn p.2))]
def IC(p:bJ):Ev X 30 [Lk p,Lk p] [] (dB ab) []:=by
 refine Ev.bQ Tryz.func30 rfl λm=>?_;by_cases o:p.2.length<=9223372036854775807
 .refine aX [(10,ae),(18,ae)] rfl (by simp) ?_;refine AK.cE 2 (λi=>i<=p.2.length) (λi:Nat=>[(2,.e (.one (.ptr 0 0))),(3,.e (.one (.ptr 1 0))),(5,dI i)]) (λ_=>[pB p,pB p]) (λi=>p.2.length-i) 0 rfl (by simp) rfl (by simp) rfl (by omega) ?_;intro i hi;by_cases h:i<p.2.length
  .refine bO [(24,ab),(37,ae)] rfl ?_ (AK.aQ (i+1) rfl ?_ ?_ ?_ ?_)
   .simp[bD,h];omega
   .simp
   .simp
   .grind
   .omega
  .refine bO [(24,ae)] rfl (by simp;omega) (AK.leaveD rfl rfl ?_);exact dm rfl ay (AK.bz rfl)
 .exfalso;obtain⟨s,vs,d,_⟩:=m;obtain⟨n,k⟩:∃v,dt [] s v (Lk p):=by
   match vs,d with
   |[a,_],d=>exact⟨a,d.1⟩
  obtain⟨l,_,g⟩:=k
  match l,g with
  |[a,c],g =>
   have:=g.2.1;cases(show Rd s.M c (.sl ae 2 p.2.length (eg.fn p.2))from this)with
   |sl b off f j q=>omega
abbrev Wo:dv:=pj (Fh eg) (Fh eg) (λ_ _=>dB ab) λa b=>[b=a]
def ZO:er X 30 Wo:=.tf λa b h=>by have:b=a:=h;subst this;exact IC _
abbrev sB(p:fe):aR:=.cells 71 [.c (.int .i64 p.1),.c (.sl ae 2 p.2.length (cL.fn p.2))]
def ID(x:fe)(c:x.2.length<=4000000):Ev X 31 [NN x,NN x] [] (dB ab) []:=by
 refine Ev.bQ Tryz.func31 rfl λb=>?_;have a:bL X [(84,Wm)]:=.cons ZM .nil;refine aW a [(10,ae),(18,ae)] rfl (by simp) ?_;refine AK.cE 2 (λi=>i<=x.2.length) (λi:Nat=>[(2,.e (.one (.ptr 0 0))),(3,.e (.one (.ptr 1 0))),(5,dI i)]) (λ_=>[sB x,sB x]) (λi=>x.2.length-i) 0 rfl (by simp) rfl (by simp) rfl (by omega) ?_;intro i hi;by_cases h:i<x.2.length
 .refine bn a [(24,ab),(39,ae),(53,ab)] rfl ?_ (AK.aQ (i+1) rfl ?_ ?_ ?_ ?_)
  .simp only[az,bD,jR,jD,oo,a9,aG,aE];and_intros<;>first|exact cI.aO _|omega
  .simp
  .simp
  .grind
  .omega
 .refine bn a [(24,ae)] rfl (by simp;omega) (AK.leaveD rfl rfl ?_);exact cG a rfl ay (AK.bz rfl)
abbrev Wp:dv:=pj (Fh cL) (Fh cL) (λ_ _=>dB ab) λa b=>[b=a,b.2.length<=4000000]
def ZP:er X 31 Wp:=.tf λa b h=>by obtain⟨rfl,c⟩:b=a/\_:=h;exact ID _ c
abbrev Ps(s:bk):aR:=.cells 27 [.c (.sl ae 2 s.1.length (cP.fn s.1)),.c (.sl ae 2 s.2.1.length (fi.fn s.2.1)),.c (.sl ae 2 s.2.2.length (cH.fn s.2.2))]
def FA(s:bk)(b:lq s):Ev X 8 [po s,po s] [] (dB ab) []:=by
 refine Ev.bQ Tryz.func8 rfl λf=>?_;have a:bL X [(29,Wn),(30,Wo),(31,Wp)]:=.cons ZN (.cons ZO (.cons ZP .nil));have g:=b.p;have j:=b.sn;refine bn a [(13,ae),(21,ae),(28,ab)] rfl ?_ ?_
 .simp only[az,bD,jR,jD,oo,a9,aG,aE];and_intros<;>first|exact cH.aO _|omega
 refine AK.cE 2 (λi=>i<=s.1.length) (λi:Nat=>[(2,.e (.one (.ptr 0 0))),(3,.e (.one (.ptr 1 0))),(5,dI i)]) (λ_=>[Ps s,Ps s]) (λi=>s.1.length-i) 0 rfl (by simp) rfl (by simp) rfl (by omega) ?_;intro i hi;by_cases h:i<s.1.length
 .refine bn a [(35,ab),(48,ab)] rfl ?_ (AK.aQ (i+1) rfl ?_ ?_ ?_ ?_)
  .simp only[az,bD,a9,aG,aE];and_intros<;>first|exact eg.aO _|omega
  .simp
  .simp
  .grind
  .omega
 refine bn a [(35,ae)] rfl (by simp;omega) (AK.leaveD rfl rfl ?_);refine cG a rfl ay ?_;refine AK.cE 2 (λi=>i<=s.2.1.length) (λi:Nat=>[(2,.e (.one (.ptr 0 0))),(3,.e (.one (.ptr 1 0))),(6,dI i)]) (λ_=>[Ps s,Ps s]) (λi=>s.2.1.length-i) 0 rfl (by simp) rfl (by simp) rfl (by omega) ?_;intro i hi;by_cases h:i<s.2.1.length
 .have d:=(b.s2 _ (fj h (0,[]))).1;have c:s.2.1.getD (i:Int).toNat fi.cd=s.2.1.getD i (0,[]):=by grind
  refine bn a [(54,ab),(67,ab)] rfl ?_ (AK.aQ (i+1) rfl ?_ ?_ ?_ ?_)
  .simp only[az,bD,c,cL.list_fn,a9,aG,aE];and_intros<;>first|exact cL.aO _|omega
  .simp
  .simp
  .grind
  .omega
 refine bn a [(54,ae)] rfl (by simp;omega) (AK.leaveD rfl rfl ?_);exact cG a rfl ay (AK.bz rfl)
def L8(l:List bw):Ev X 15 [cF.sl l,cF.sl l] [] (dB ab) []:=by
 refine Ev.bQ Tryz.func15 rfl λa=>?_;have b:=a.sl 0 rfl;refine aX [(10,ae)] rfl (by simp) ?_;refine AK.cE 0 (λi=>i<=l.length) (λi:Nat=>[(0,cF.sl l),(1,cF.sl l),(5,dI i)]) (λ_=>[]) (λi=>l.length-i) 0 rfl (by simp) rfl (by simp) rfl (by omega) ?_;intro i hi;by_cases h:i<l.length
 .refine bO [(14,ab),(25,ae)] rfl ?_ (AK.aQ (i+1) rfl ?_ ?_ ?_ ?_)
  .simp[bD,h];omega
  .simp
  .simp
  .show i+1<=_;omega
  .omega
 .refine bO [(14,ae)] rfl (by simp;omega) (AK.leaveD rfl rfl ?_);exact dm rfl ay (AK.bz rfl)
end
structure WL(x:bJ):Prop where
 ex:∃no ps,1<=no/\no<=99/\0<ps.length/\ps.length<=4/\(∀q∈ps,bx q=ab)/\x=gj no 7 ps
structure WM(x:fe):Prop where
 ex:∃no t,1<=no/\no<=20/\cC t=ab/\x=eJ no 7 t
structure D7(st:bk):Prop where
 p:∀x∈st.1,WL x
 pl:st.1.length<=20
 s:∀x∈st.2.1,WM x
 Dr:st.2.1.Pairwise λa b=>a.1<b.1
 h:∀x∈st.2.2,(1<=x.1/\x.1<=2)/\1<=x.2/\x.2<=20
 hl:st.2.2.length<=9
 WN:st.1.Pairwise λa b=>a.1<b.1
def dF{t:List bw}(h:cC t=ab):tg t:=by
 obtain⟨j,_,_,n⟩:=ly.1 h;have i:∀f∈t,cj f.2=ab/\f.2.length<=40:=λf d=>by have:=(j f d).2;simp only[et,bR,a9]at this;grind
 refine⟨by omega,λf d=>⟨(i f d).1,by grind⟩,?_⟩;have:∀l:List bw,(∀f∈l,f.2.length<=40)->(gV l).length<=40*l.length:=by
  intro l;induction l with
  |nil=>intro _;simp[gV]
  |cons f r m =>
   intro e;have a:=m λg k=>e g (pq _ k);have b:=e f lB;have c:=kP f.2;simp only[gV,sh,cX,fb]at a⊢;omega
 grind
theorem Mp(no k:Int)(ps:List Bs):(gj no k ps).2.length=ps.length:=tm k ps
def WL.len{x:bJ}(h:WL x):1<=x.2.length/\x.2.length<=4:=by obtain⟨no,ps,_,_,a,b,_,rfl⟩:=h.ex;grind[Mp]
def WL.no{x:bJ}(h:WL x):1<=x.1/\x.1<=99:=by obtain⟨no,ps,h1,h2,_,_,_,rfl⟩:=h.ex;exact⟨h1,h2⟩
def WM.no{x:fe}(h:WM x):1<=x.1/\x.1<=20:=by obtain⟨no,t,h1,h2,_,rfl⟩:=h.ex;exact⟨h1,h2⟩
def WM.len{x:fe}(h:WM x):x.2.length<=6/\∀y∈x.2,y.2.length<=4000000:=by obtain⟨no,t,_,_,a,rfl⟩:=h.ex;have d:=mE a;refine⟨by simpa[eJ]using d,λy b=>?_⟩;simp only[eJ,gH]at b;obtain⟨f,c,rfl⟩:=b;have:=((dF a).tK f c).2;have:=kP f.2;simp only[lx,jT];omega
def Hs{l:List fe}:∀(a:Int),l.Pairwise (λa b=>a.1<b.1)->(∀x∈l,a<=x.1/\x.1<=20)->(l.length:Int)<=max 0 (21-a):=by
 induction l with
 |nil=>grind
 |cons x r g =>
  intro a d c;obtain⟨i,e⟩:=jB.1 d;have h:=c x lB;have:=g (x.1+1) e λy f=>⟨by grind,(c y (pq _ f)).2⟩
  grind
def D7.sl{s:bk}(h:D7 s):s.2.1.length<=20:=by have:=Hs 1 h.Dr λx a=>(h.s x a).no;omega
def D7.size{s:bk}(h:D7 s):lq s:=by have h1:=h.pl;have h2:=h.sl;have c:=h.hl;refine⟨by omega,λp a=>by have:=(h.p p a).len;omega,by omega,λx b=>?_,by omega⟩;have:=(h.s x b).len;grind
def D7.num{s:bk}(h:D7 s):rX s :=
 ⟨λx a=>by have:=(h.p x a).no;omega,λx a=>by have:=(h.s x a).no;omega,λx a=>by have:=(h.h x a).2;omega⟩
def D7.cV{s:bk}(h:D7 s):(cV s.1).length<=100000:=by
 have:∀l:List bJ,(∀x∈l,x.2.length<=4)->(R1.cV l).length<=4*l.length:=by
  intro l;induction l with
  |nil=>intro _;simp[R1.cV]
  |cons f r c =>
   intro hl;have a:=c λg d=>hl g (pq _ d);have b:=hl f lB;simp only[R1.cV,sh,cX,jT,fb]at a⊢;omega
 have:=this s.1 λx e=>(h.p x e).len.2;have:=h.pl;omega
def D7.nil:D7 ([],[],[]):=⟨by simp,by simp,by simp,by simp,by simp,by simp,by simp⟩
def uy(k:Int):∀(f:Nat) (no:Int)(ps:List Bs),(∀q∈ps,bx q=ab)->∀x∈eb k f no ps,∃a qs,no<=a/\a<no+(eb k f no ps).length/\0<qs.length/\qs.length<=4/\(∀q∈qs,bx q=ab)/\x=gj a k qs
 |0,_,_,_,x,b=>by simp[eb]at b
 |f+1,no,ps,c,x,b=>by
  simp only[eb]at b⊢;split at b
  .rename_i h;rw[bl h];rcases eB.1 b with rfl|b
   .grind
   .obtain⟨a,qs,e,i,g⟩:=uy k f (no+1) (ps.drop 4) (λq d=>c q (rA d)) x b;grind
  grind
def uz{α:Type}{l:List α}(h:l.length≠0)(d:α):l.getD (l.length-1) d∈l:=fj (by omega) d
def D7.cz{s:bk}(h:D7 s):1<=cz s:=by
 unfold R1.cz;split
 .omega
 .rename_i a;have:=(h.p _ (uz a (0,[]))).no;omega
def uA(k:Int):∀(f:Nat) (no:Int)(ps:List Bs),∀x∈eb k f no ps,no<=x.1
 |0,_,_,x,a=>by simp[eb]at a
 |f+1,no,ps,x,a=>by
  simp only[eb]at a;split at a
  .rcases eB.1 a with rfl|a
   .exact Int.le_refl _
   .have:=uA k f (no+1) (ps.drop 4) x a;omega
  grind
def x9(k:Int):∀(f:Nat) (no:Int)(ps:List Bs),(eb k f no ps).Pairwise λa b=>a.1<b.1
 |0,_,_=>by simp[eb]
 |f+1,no,ps=>by
  simp only[eb];split
  .refine jB.2 ⟨λx c=>?_,x9 k f (no+1) (ps.drop 4)⟩;have:=uA k f (no+1) (ps.drop 4) x c;show no<x.1;omega
  .simp
def D7.ya{s:bk}(h:D7 s):∀x∈s.1,x.1<R1.cz s:=by
 unfold R1.cz;split
 .grind
 .rename_i e;intro x d;obtain⟨i,hi,rfl⟩:=dG d;have a:s.1.getD (s.1.length-1) (0,[])=s.1[s.1.length-1]:=by grind
  rw[a];rcases cM i (s.1.length-1)with b|c
  .have:=jw.1 h.WN i (s.1.length-1) hi (by omega) b;omega
  grind
def D7.tv{s:bk}(h:D7 s):1<=c6 s/\∀x∈s.2.1,x.1<c6 s:=by
 have e:=n9 s.2.2 h.num.h;unfold c6;split
 .grind
 .rename_i f;refine⟨by omega,λx d=>?_⟩;obtain⟨i,hi,rfl⟩:=dG d;have a:s.2.1.getD (s.2.1.length-1) (0,[])=s.2.1[s.2.1.length-1]:=by grind
  rw[a];rcases cM i (s.2.1.length-1)with b|c
  .have:=jw.1 h.Dr i (s.2.1.length-1) hi (by omega) b;omega
  grind
def D7.save{s:bk}{t:List bw}{by_:Int}(h:D7 s)(j:cC t=ab)(e:1<=by_/\by_<=2)(m:fW 7 s t=ae):D7 (c9 7 s by_ t):=by
 simp only[fW,qg,bS]at m;obtain⟨o,n,q,r⟩:=m;have u:=h.cz;obtain⟨f,i⟩:=h.tv;refine⟨λx c=>?_,by simp only[c9,cX];omega,λx c=>?_,?_,λx c=>?_,by simp only[c9,cX,ig];omega,?_⟩
 .simp only[c9]at c;rcases fx.1 c with c|c
  .exact h.p x c
  .obtain⟨d,qs,a1,a2,a3,a4,a5,a6⟩:=uy 7 _ _ _ (hO (k:=7) (l:=indexOf s.1) (dF j)).1 x c;have a2:d<R1.cz s+(lQ 7 s t).length:=a2;exact⟨d,qs,by omega,by omega,a3,a4,a5,a6⟩
 .simp only[c9]at c;rcases fx.1 c with c|c
  .exact h.s x c
  .rw[fN]at c;exact⟨c6 s,t,f,by omega,j,c⟩
 .simp only[c9];rw[qf];refine⟨h.Dr,by simp,λa g b e=>?_⟩;rw[fN]at e;subst e;exact i a g
 .simp only[c9]at c;rcases fx.1 c with c|c
  .exact h.h x c
  grind
 .simp only[c9];rw[qf];refine⟨h.WN,x9 _ _ _ _,λa g b e=>?_⟩;have h1:=h.ya a g;have h2:=uA _ _ _ _ b e;omega
def zD{l:List Int}:∀{k:Nat},(lH l k).length=k->∀i,1<=i->i<k->l.getD i 0≠l.getD (i-1) 0
 |0,_,i,_,h=>by omega
 |k+1,h,i,a,d=>by
  have b:=tw l k;rw[lH]at h;split at h
  .omega
  .rename_i c;simp only[cX,ig]at h;by_cases e:i=k
   .grind
   .exact zD (k:=k) (by omega) i a (by omega)
def Bt(l:List Int):(o8 l).Pairwise λx y=>x<=y:=by have:=List.pairwise_mergeSort (le:=λx y:Int=>decide (x<=y)) (λa b c e d=>by grind) (λa b=>by grind) l;exact this.imp λh=>by grind
def FO(l:List Int):(o8 l).Perm l:=List.mergeSort_perm _ _
def Bp(l:List Int):(eK (o8 l)).length=l.length↔l.Nodup:=by
 rw[<-lZ l,<-(FO l).nodup_iff];have c:=Bt l;generalize o8 l=s at *;have a:∀{i:Nat} (h:i<s.length),s.getD i 0=s[i]:=λ{i} h=>by grind
 constructor
 .intro h;have d:=zD h;refine List.Pairwise.imp (R:=λx y=>x<y) (λh e=>by omega) (jw.2 λi j hi hj ZV=>?_);have b:=jw.1 c;have f:=d j (by omega) hj;rw[a hj,a (by omega)]at f;have g:=b (j-1) j (by omega) hj (by omega);by_cases e:i=j-1
  .grind
  .have:=b i (j-1) hi (by omega) (by omega);omega
 .intro h;unfold eK;rw[oa (bc _),dq];grind[List.pairwise_iff_getElem]
def qR{α:Type}{l:List α}{i:Nat}(h:i<l.length)(d:α):l.getD i d=l[i]:=by grind
def Bu{α:Type}{f:α->Int}{d:α}{l:List α}:(∀i,i<l.length->Dr f d l i=ab)↔l.Pairwise λx y=>f x<f y:=by
 constructor
 .intro h;have key:∀n i j (hi:i<l.length) (a:j<l.length),j=i+n->0<n->f l[i]<f l[j]:=by
   intro n;induction n with
   |zero=>grind
   |succ n g =>
    intro i j hi a b _;have c:=h j a;rw[qP (by omega),decide_eq_true_iff,qR (by omega),qR a]at c;by_cases e:n=0
    .subst e;grind
    grind
  exact jw.2 λi j hi a b=>key (j-i) i j hi a (by omega) (by omega)
 .intro h i hi;by_cases e:i=0
  .subst e;rfl
  .rw[qP e,decide_eq_true_iff,qR (by omega),qR hi];exact(jw.1 h) (i-1) i (by omega) hi (by omega)
def Bv{α:Type}{l:List α}{p:α->Bool}{d:α}:(∀i,i<l.length->p (l.getD i d)=ab)↔∀x∈l,p x=ab:=by grind[List.mem_iff_getElem]
structure rq(k:Int)(p:bJ):Prop where
 no:1<=p.1/\p.1<=99
 key:b7 k=ab
 len:1<=p.2.length/\p.2.length<=4
 rt:∀x∈p.2,right k x=ab
 Dr:p.2.Pairwise λx y=>x.1<y.1
def oN{k:Int}{p:bJ}:gx k p=ab↔rq k p:=by
 rw[pY];simp only[bR,a9,dE];have e:(∀i,i<p.2.length->iV k p i=ab)↔(∀x∈p.2,right k x=ab)/\p.2.Pairwise λx y=>x.1<y.1:=by
  rw[<-Bv (d:=(0,[])),<-Bu (f:=λx:bo=>x.1) (d:=(0,[]))];constructor
  .intro h;exact⟨λi hi=>by have:=h i hi;simp only[iV,bR]at this;exact this.1,λi hi=>by have:=h i hi;simp only[iV,bR]at this;exact this.2⟩
  .intro h i hi;simp only[iV,bR];exact⟨h.1 i hi,h.2 i hi⟩
 rw[e];constructor
 .rintro⟨⟨⟨b,j⟩,g⟩,c,a⟩;exact⟨b,j,g,c,a⟩
 .rintro⟨b,j,g,c,a⟩;grind
structure jJ(k:Int)(s:bk):Prop where
 pk:∀p∈s.1,rq k p
 pa:s.1.Pairwise λp q=>p.1<q.1
 nd:(bE s.1).Nodup
 sn:∀x∈s.2.1,(1<=x.1/\x.1<=20)/\(cg k x s.1).isSome=ab
 sa:s.2.1.Pairwise λx y=>x.1<y.1
 key:b7 k=ab
 log:iQ s.2.2=ab
 len:s.1.length<=20
def iR{k:Int}{s:bk}:fI k s=ab↔jJ k s:=by
 unfold fI;simp only[bR,a9,dE];have o:(∀i,i<s.1.length->mz k s.1 i=ab)↔(∀p∈s.1,rq k p)/\s.1.Pairwise λp q=>p.1<q.1:=by
  rw[<-Bu (f:=λp:bJ=>p.1) (d:=(0,[]))];have:(∀p∈s.1,rq k p)↔∀p∈s.1,gx k p=ab:=⟨λh p b=>oN.2 (h p b),λh p b=>oN.1 (h p b)⟩
  rw[this,<-Bv (d:=(0,[]))];constructor
  .intro h;exact⟨λi hi=>by have:=h i hi;simp only[mz,bR]at this;exact this.1,λi hi=>by have:=h i hi;simp only[mz,bR]at this;exact this.2⟩
  .intro h i hi;simp only[mz,bR];grind
 have r:(∀i,i<s.2.1.length->ko k s i=ab)↔(∀x∈s.2.1,(1<=x.1/\x.1<=20)/\(cg k x s.1).isSome=ab)/\s.2.1.Pairwise λx y=>x.1<y.1:=by
  rw[<-Bu (f:=λp:fe=>p.1) (d:=(0,[]))];have:(∀x∈s.2.1,(1<=x.1/\x.1<=20)/\(cg k x s.1).isSome=ab)↔∀x∈s.2.1,(decide (1<=x.1/\x.1<=20)&&(cg k x s.1).isSome)=ab:=by grind
  rw[this,<-Bv (d:=(0,[]))];constructor
  .intro h;exact⟨λi hi=>by have:=h i hi;simp only[ko,bR]at this⊢;grind,λi hi=>by have:=h i hi;simp only[ko,bR]at this;exact this.1.2⟩
  .intro h i hi;have a:=h.1 i hi;simp only[ko,bR]at a⊢;grind
 rw[o,r];constructor
 .rintro⟨⟨⟨⟨⟨⟨a,n⟩,l⟩,g,e⟩,c⟩,m⟩,j⟩;exact⟨a,n,l,g,e,c,m,j⟩
 .rintro⟨a,n,l,g,e,c,m,j⟩;grind
theorem L6{l:List bo}{x y:bo}(h:y∈gC l x):y=x∨y∈l:=by
 induction l with
 |nil=>simp[gC]at h;grind
 |cons z r a =>
  simp only[gC]at h;grind
def Pw{k:Int}{ps:List Bs}{y:bo}(h:y∈o0 k ps):∃p∈ps,y=(dA k p,eY p):=by
 have key:∀(ps:List Bs) (acc:List bo),y∈ps.foldl (λl p=>gC l (dA k p,eY p)) acc->y∈acc∨∃p∈ps,y=(dA k p,eY p):=by
  intro ps;induction ps with
  |nil=>grind
  |cons p r a =>
   grind[L6]
 rcases key ps [] h with h|h
 .cases h
 grind
def r6{k:Int}{ps:List bJ}{n:Int}{p:Bs}(h:de k ps n=aa p):bx p=ab/\dA k p=n/\n∈bE ps:=by
 unfold de at h;obtain⟨pk,d,a⟩:=List.exists_of_findSome?_eq_some h;unfold dY at a;split at a
 .rename_i x b;have e:x.1=n:=by simpa using List.find?_some b
  have c:=r8 b;unfold chunk eH at a;refine⟨by grind,by grind,qn.2 ⟨pk,d,gH.2 ⟨x,c,e⟩⟩⟩
 .cases a
def yt{k:Int}{ps:List bJ}{n:Int}(hk:b7 k=ab)(d:∀p∈ps,rq k p)(h:n∈bE ps):∃p,de k ps n=aa p:=by
 obtain⟨pk,c,j⟩:=qn.1 h;obtain⟨x,e,i⟩:=gH.1 j;cases g:de k ps n with
 |some p=>exact⟨p,rfl⟩
 |none =>
  have b:dY k pk n=af:=List.findSome?_eq_none_iff.1 g pk c;unfold dY at b;split at b
  .rename_i y a;have l:y.1=n:=by simpa using List.find?_some a
   have f:=(d pk c).rt y (r8 a);unfold right at f;unfold chunk at b;grind
  .rename_i a;have:=qj.1 a x e;grind
def Jh{k:Int}{ps qs:List bJ}(hk:b7 k=ab)(c:∀p∈ps,rq k p)(b:∀n∈bE qs,n∈bE ps){n:Int}{p:Bs}(h:de k qs n=aa p):de k ps n=aa p:=by obtain⟨f,i,e⟩:=r6 h;obtain⟨q,a⟩:=yt hk c (b n e);obtain⟨d,g,_⟩:=r6 a;rw[a,qQ hk f d (i.trans g.symm)]
def Gh{k:Int}{ps qs:List bJ}(g:∀(n:Int)(p:Bs),de k qs n=aa p->de k ps n=aa p){x:js}{f:bw}(h:fileOf k qs x=aa f):fileOf k ps x=aa f:=by
 have key:∀l,dL k qs x.2=aa l->dL k ps x.2=aa l:=by
  intro l b;unfold dL at *;split at b
  .rename_i d;cases b;have e:∀n∈x.2,de k ps n=de k qs n:=λn a=>by have:=bC.1 d n a;obtain⟨p,c⟩:=ry.1 this;rw[c,g n p c]
   rw[bl (bC.2 λn a=>by rw[e n a];exact bC.1 d n a),qh λn a=>by rw[e n a]]
  .cases b
 unfold fileOf at *;split at h
 .cases h
 .rename_i l b;rw[key l b];exact h
def BR{k:Int}{ps qs:List bJ}(d:∀(n:Int)(p:Bs),de k qs n=aa p->de k ps n=aa p){x:fe}{t:List bw}(h:cg k x qs=aa t):cg k x ps=aa t:=by
 unfold cg at *;split at h
 .rename_i c;cases h;simp only[bR]at c;have e:∀y∈x.2,fileOf k ps y=fileOf k qs y:=λy a=>by obtain⟨f,b⟩:=ry.1 (bC.1 c.1.2 y a);rw[b,Gh d b]
  have i:c8 k ps x.2=c8 k qs x.2:=qh λy a=>by rw[e y a]
  have g:(x.2.all λy=>(fileOf k ps y).isSome)=ab:=bC.2 λy a=>by rw[e y a];exact bC.1 c.1.2 y a
  rw[i,g,c.1.1,c.2];rfl
 .cases h
section
variable {X:Cx ag}[X.hU]
abbrev Ri:List bw:=[([97],[104,101,108,108,111])]
def LR:cC Ri=ab:=by decide +kernel
abbrev Wl(k:Nat):={q:List bw×Nat // cC q.1=ab/\k<=q.2/\q.2<=k+400}
def Pr(m:Nat)(b:Nat->Int)(h:Bytes b)(k:Nat)(hk:k<=50000)(f:m<=1048576):
  ef (ι:=Wl k) X 106 [.e (.one (.ptr 0 0))] [lu m b k] (λq=>cF.sl q.1.1) (λq=>[lu m b q.1.2]):=by
 refine ef.rn Tryz.func106 rfl rfl rfl λg=>?_;refine bt rfl ay ?_;refine AK.cP (Hh m b h k hk f) [0] rfl (λ_=>rfl) ?_;rintro⟨t,bf,xs,k1,j,l,a,c⟩;refine aX [(1000002,ab)] rfl ay ?_;refine AK.wz 3 1 (cF.fn t) rfl rfl j.rd ?_;refine bt rfl ay ?_;refine AK.cQ (zp t) [] rfl ?_;cases d:cC t with
 |true =>
  refine bt rfl ay (AK.n7 ⟨(t,k1),d,a,c⟩ (AK.dk [0] rfl ?_ rfl rfl rfl iz));simp
 |false =>
  refine bt rfl ay (AK.n7 ⟨(Ri,k1),LR,a,c⟩ (AK.dk [0] rfl ?_ rfl rfl rfl iz));refine⟨rfl,λi hi=>?_⟩;have:i=0:=by grind
  subst this;rfl
end
section
variable {X:Cx ag}
theorem vd{l:List cn}(h:rZ l l.length=ab):(∀x∈l,eu x=ab)/\l.Pairwise λx y=>x.1<y.1:=by
 have a:=dE.1 h;have c:∀j,j<l.length->∀i,i<j->(l.getD i (0,0)).1<(l.getD j (0,0)).1:=by
  intro j;induction j with
  |zero=>grind
  |succ j b =>
   grind
 grind[List.getElem_of_mem,List.pairwise_iff_getElem]
def BF(l:List cn):∀a:List cn,(a++l).Pairwise (λx y=>x.1<y.1)->l.foldl fS a=a++l:=by
 induction l with
 |nil=>grind
 |cons x r b =>
  grind[Mq]
def Jc{l:List cn}(h:rZ l l.length=ab)(n:Int):(oS l).find n=kl l n:=by obtain⟨c,b⟩:=zL l .nil (by simp[Tr.Ok,Tr.list]);have a:=BF l [] (by grind[vd]);rw[oS,uB b,c];exact dJ (kl · n) a
def yi{t:List bw}(h:cC t=ab):∀f∈t,et f.2=ab:=λf a=>((ly.1 h).1 f a).2
abbrev dV2(a:List Bs):D:=.e (.one (.vec 2 1 a.length (cS.fn a)))
def DT(m q:aj×ah)(k:Int)(t:List bw)(l:List cn)(hk:b7 k=ab)(C:cC t=ab)(z:rZ l l.length=ab)(u:l.length<=4000000):
  Ev X 11 [dI k,cF.sl t,cH.sl l] (GB m q) (cS.sl (dz k t l)) (GB m q):=by
 refine Ev.bQ Tryz.func11 rfl λR=>?_;have O:bL X [(40,kL aI (λk=>dB (b7 k)) λ_=>[]),(25,W1),(41,kL (aL cH) (λl=>dB (rZ l l.length)) λ_=>[])]:=.cons t40 (.cons t25 (.cons (.pS λl _=>DU l) .nil));refine bn O [(15,ae),(20,ae),(25,ae)] rfl ?_ ?_
 .simp only[az,hk,cF.list_fn,cH.list_fn,ib,C,z];exact⟨rfl,cH.aO _,rfl,cF.aO _,rfl⟩
 have F:=vd z;have v:∀x∈l,bD .i64 x.1/\bD .i64 x.2:=λx r=>by have:=F.1 x r;simp only[eu,bR,a9]at this;simp only[bD];omega
 have hT:=Jc z;have A:=zM (X:=X) l u v;have D:∀n,Ev X 44 [.e (.one (.c (tC (oS l)))),dI n] [] (dI (kl l n)) []:=λn=>hT n▸P7 (oS l) n
 clear hT;generalize oS l=T at *;have c1:bL X [(42,pU [Rx l] (.e (.one (.c (tC T)))))]:=.cons (rQ A) .nil;cases T<;>(
  refine cG c1 rfl rfl ?_;refine AK.iM 8 9 1 rfl rfl ?_;refine AK.sY 3 [0,7,29,30] (λi=>i<=t.length) (λi:Nat=>[(8,dV2 ((gV (t.take i)).foldl (im k l) [])),(31,dI i)]) (λi=>GB m q++[.vec 9 1 ((gV (t.take i)).foldl (im k l) []).length (cS.fn ((gV (t.take i)).foldl (im k l) []))]) (λi=>t.length-i) 0 rfl ?_ rfl ?_ rfl (by omega) ?_
  .simp[gV]
  .simp[gV]
  intro i hi;by_cases h:i<t.length
  .have E:t.getD (i:Int).toNat cF.cd=t.getD i ([],[]):=by grind
   have b:t.getD i ([],[])∈t:=by grind
   have N:=yi C _ b;have d:=zw h;have G:=Hj t (i+1);have I:=dF C;have M:=(I.tK _ b).1;have K:=I.all;have P:=I.len;have B:=n6 M;generalize t.getD i ([],[])=f at *;rw[d,cX]at G;have J:g9 f.2=pieces f.2:=by unfold g9;grind
   have c2:bL X [(43,kL aS (λs=>cS.sl (g9 s)) λ_=>[])]:=.cons A3 .nil;refine bn c2 [(32,ab)] rfl ?_ ?_
   .simp only[az,E,M,a9,aG,aE];and_intros<;>omega
   rw[E,J];refine AK.sY 4 [0,7,29,30,31,37,38] (λj=>j<=(pieces f.2).length) (λj:Nat=>[(8,dV2 ((gV (t.take i)++(pieces f.2).take j).foldl (im k l) [])),(39,dI j)]) (λj=>GB m q++[.vec 9 1 ((gV (t.take i)++(pieces f.2).take j).foldl (im k l) []).length (cS.fn ((gV (t.take i)++(pieces f.2).take j).foldl (im k l) [])),.cells 82 [.c (.str f.1),.c (.str f.2)]]) (λj=>(pieces f.2).length-j) 0 rfl ?_ rfl ?_ rfl (by omega) ?_
   .simp
   .simp[E]
   intro j Q;have y:=ur k l (gV (t.take i)++(pieces f.2).take j) [];simp only[gG,cX,List.length_take]at y;by_cases S:j<(pieces f.2).length
   .have w:(pieces f.2).getD (j:Int).toNat cS.cd=(pieces f.2).getD j []:=by grind
    have H:bx ((pieces f.2).getD j [])=ab:=B _ (by grind);have a:(gV (t.take i)++(pieces f.2).take (j+1)).foldl (im k l) []=im k l ((gV (t.take i)++(pieces f.2).take j).foldl (im k l) []) ((pieces f.2).getD j []):=by grind[bY]
    generalize(gV (t.take i)++(pieces f.2).take j).foldl (im k l) []=out at *;generalize(pieces f.2).getD j []=p at *;have r:=cS.cy out p;refine bO [(40,ab)] rfl ?_ ?_
    .simp only[az,a9,aG,aE];and_intros<;>omega
    rw[w];refine AK.cQ (uG m q k p hk H) [0,1] rfl ?_;refine AK.cQ (D _) [] rfl ?_;have c3:bL X [(46,Hz)]:=.cons P8 .nil;by_cases g:kl l (dA k p)=0
    .cases L:out.contains p with
     |true =>
      rw[im,aY (by grind)]at a;refine bn c3 [(49,ab),(54,ae)] rfl ?_ (AK.aQ (j+1) rfl ?_ ?_ ?_ ?_)
      .simp only[az,g,L,bD,cS.list_fn,jR,a9,aG,aE];and_intros<;>first|exact cS.aO _|rfl|omega
      .rw[a];simp
      .rw[a];simp
      .grind
      .omega
     |false =>
      rw[im,bl (by grind)]at a;refine bn c3 [(49,ab),(54,ab)] rfl ?_ (AK.aQ (j+1) rfl ?_ ?_ ?_ ?_)
      .simp only[az,g,L,bD,show i9.bytes=16 from rfl,cS.list_fn,jR,a9,aG,aE];and_intros<;>first|exact cS.aO _|rfl|omega
      .rw[a];simp only[az.cat,az,cX,fb,gG,aG,aE];and_intros<;>first|exactλ_ _=>rfl|exact r|rfl|omega
      .rw[a];simp only[az.cat,az,cX,fb,gG,aG,aE];and_intros<;>first|exactλ_ _=>rfl|exact r|rfl|omega
      .grind
      .omega
    .rw[im,aY (by grind)]at a;refine bn c3 [(49,ae)] rfl ?_ (AK.aQ (j+1) rfl ?_ ?_ ?_ ?_)
     .simp only[az,bD,eD,dy,g,om,aG,aE];and_intros<;>omega
     .rw[a];simp
     .rw[a];simp
     .grind
     .omega
   .have o:j=(pieces f.2).length:=by omega
    refine bO [(40,ae)] rfl (by simp only[az,bS];omega) (AK.leaveD rfl rfl ?_);refine dm rfl ?_ (AK.aQ (i+1) rfl ?_ ?_ ?_ ?_)
    .simp only[az,bD];omega
    .rw[d,o,dq];simp
    .rw[d,o,dq];simp
    .grind
    .omega
  .obtain rfl:i=t.length:=by omega
   rw[dq];refine bO [(32,ae)] rfl (by simp) (AK.leaveD rfl rfl ?_)
   refine dm rfl ay (AK.dk [0,1] rfl ?_ rfl rfl rfl BG);simp[dz,gV])
abbrev aaj(q:bJ×Bool):D:=.fa [.agg [.c (.int .i64 q.1.1),.c (.sl ae 2 q.1.2.length (eg.fn q.1.2))],.one (.c (.bool q.2))]
def ku(k:Int)(p:Bs):bo:=(dA k p,eY p)
def zN(no k:Int)(ps:List Bs):bJ:=(no,m6 (ps.map (ku k)))
def og(no k:Int)(ps:List Bs):bJ×Bool:=if gx k (zN no k ps)=ab then(zN no k ps,ab)else((0,[]),ae)
theorem qT:∀(l a:List bo),(l.foldl g6 a).length=a.length+l.length
 |[],a=>by simp
 |x::l,a=>by rw[jC,qT l,zn,fb];omega
def M7:∀(f:Nat){l:List bo}{j:Nat},kt l->j<l.length->kt (yu f l j)
 |0,_,_,h,_=>h
 |f+1,l,j,h,a=>by
  rw[yu];split
  .exact h
  .split
   .exact M7 f (uH h (by omega) a) (by grind[gi])
   grind
theorem M8{l:List bo}{x:bo}(a:kt l)(c:bD .i64 x.1/\x.2.length<=9223372036854775807):kt (g6 l x):=by
 refine M7 _ (λy b=>?_) (by simp);rcases fx.1 b with h|h
 .exact a y h
 grind
def Qa{l:List bo}(a:kt l)(b:0<l.length):kt (kN l) :=
 yn _ _ (uH a b (by omega)) (by grind[gi]) (by grind[gi])
theorem HC{k:Int}{p:Bs}(a:bx p=ab):bD .i64 (ku k p).1/\(ku k p).2.length<=9223372036854775807:=by
 have h:=a;simp only[bx,bR,a9]at h;have c:=qq (codeOf p*(2*k+1)+k*7919) (show(999999999989:Int)≠0 by decide);have b:=qk (codeOf p*(2*k+1)+k*7919) (show(0:Int)<999999999989 by decide);refine⟨?_,?_⟩
 .show bD .i64 (dA k p);simp only[bD,dA];omega
 .show (eY p).length<=_;unfold eY cO;grind
def HD(k:Int)(ps:List Bs)(b:∀p∈ps,bx p=ab):kt ((ps.map (ku k)).foldl g6 []):=by
 have:∀(l:List Bs) (a:List bo),(∀p∈l,bx p=ab)->kt a->kt ((l.map (ku k)).foldl g6 a):=by
  intro l;induction l with
  |nil=>grind
  |cons p r c=>grind[M8,HC]
 exact this ps [] b (by simp[kt])
abbrev Xa(b a:aj×ah)(g:Nat)(bf:nD)(l:List bo):List aR:=GB b a++[.cells 67 [.c (.int .i64 0),.c (.sl ab 0 0 λ_=>[])],cB g bf l.length,hB bf l.length l]
abbrev M9(no:Int)(out:List bo):List aR:=[.cells 67 [.c (.int .i64 no),.vec 6 2 out.length (eg.fn out)],.vec 76 2 out.length (eg.fn out)]
def vf(f s:aj×ah)(no k:Int)(ps:List Bs)(J:bD .i64 no)(hk:b7 k=ab)(m:∀p∈ps,bx p=ab)(U:ps.length<=4):
  Ev X 74 [dI no,dI k,cS.sl ps] (GB f s) (aaj (og no k ps)) (GB f s):=by
 refine Ev.rj tok Tryz.func74 rfl rfl rfl λT=>?_;refine bO [(1000002,ab)] rfl ay ?_;refine AK.KS 8 3 76 2 rfl rfl λg P=>?_;refine dm rfl ay ?_;refine AK.sY 5 [0,1,6,8,14,15] (λq:Nat×nD=>q.1<=ps.length) (λq=>[(16,dI q.1)]) (λq=>Xa f s g q.2 (((ps.take q.1).map (ku k)).foldl g6 [])) (λq=>ps.length-q.1) (0,.nil P) rfl ?_ rfl ?_ rfl (by omega) ?_
 .simp
 .simp[tL]
 rintro⟨i,bf⟩ hi;simp only at hi;by_cases h:i<ps.length
 .have N:ps.getD (i:Int).toNat cS.cd=ps.getD i []:=by grind
  have u:bx (ps.getD i [])=ab:=m _ (by grind);have z:((ps.take (i+1)).map (ku k)).foldl g6 []=g6 (((ps.take i).map (ku k)).foldl g6 []) (ku k (ps.getD i [])):=by grind[bY]
  have H:(((ps.take i).map (ku k)).foldl g6 []).length=i:=by grind[qT]
  have o:=HD k (ps.take i) λp y=>m p (fM y);generalize ps.getD i []=p at *;generalize((ps.take i).map (ku k)).foldl g6 []=l at *;refine bn (.cons O1 .nil:bL X [(126,nY)]) [(17,ab)] rfl ?_ ?_
  .simp only[az,a9,aG,aE];and_intros<;>omega
  rw[N];refine AK.cQ (uG f s k p hk u) [0,1] rfl ?_;refine cG (.cons O1 .nil:bL X [(126,nY)]) rfl ay ?_;refine AK.cP (DV g bf o (by omega) (x:=ku k p) (HC u)) [3,4] rfl (λ_=>rfl) λB=>?_;have j:=zn l (ku k p);refine dm rfl ?_ (AK.aQ (i+1,B) rfl ?_ ?_ ?_ ?_)
  .simp only[az,bD];omega
  .simp
  .simp only[z,j,az.cat,az,aG,aE];grind[cA.same]
  .grind
  grind
 obtain rfl:i=ps.length:=by omega
 rw[dq];refine bO [(17,ae)] rfl (by simp) (AK.leaveD rfl rfl ?_);have M:((ps.map (ku k)).foldl g6 []).length<=4:=by grind[qT]
 have o:=HD k ps m;have A:m6 (ps.map (ku k))=[]++lP ((ps.map (ku k)).foldl g6 []).length ((ps.map (ku k)).foldl g6 []):=by rw[m6,qT,mL,gG,bF]
 refine dm rfl ay ?_;refine AK.hZ 5 1 76 2 (eg.fn []) rfl rfl ?_;refine AK.sY 7 [1,6,8,11] (λq:List bo×nD×List bo=>kt q.1/\q.1.length+q.2.2.length<=4/\m6 (ps.map (ku k))=q.2.2++lP q.1.length q.1) (λq=>[]) (λq=>Xa f s g q.2.1 q.1++M9 no q.2.2) (λq=>q.1.length) ((ps.map (ku k)).foldl g6 [],bf,[]) rfl ?_ rfl ?_ rfl ⟨o,by grind,A⟩ ?_
 .simp
 .simp
 rintro⟨h,bf,out⟩ ⟨F,O,w⟩;simp only at F O w;refine dm rfl ay ?_;refine AK.law (bM.CL rfl rfl) rfl rfl ?_;refine AK.one (OA.zb tok 3 rfl rfl rfl rfl rfl (nJ bf _) rfl) rfl ?_;refine AK.cQ (BI bf h.length h) [4] rfl ?_;by_cases R:h.length=0
 .rw[R,lP,iD]at w;subst w;refine bO [(37,ae)] rfl (by simp only[az,bS,aE];omega) (AK.leaveD rfl rfl ?_);have G:bL X [(102,A6)]:=.cons G8 .nil;have S:(m6 (ps.map (ku k))).length<=4:=by omega
  cases v:gx k (zN no k ps)with
  |false =>
   have a:gx k (no,m6 (ps.map (ku k)))=ae:=v;have e:og no k ps=((0,[]),ae):=by unfold og;grind
   rw[e];refine bn G [(50,ab)] rfl ?_ ?_
   .simp only[az,eg.list_fn,a,hk];and_intros<;>first|exact eg.aO _|rfl|exact True.intro|grind
   refine AK.lO () [0,1] rfl rfl rfl rfl rfl rfl rfl rfl rfl ?_ rfl rfl rfl rfl BG;simp
  |true =>
   have a:gx k (no,m6 (ps.map (ku k)))=ab:=v;have e:og no k ps=(zN no k ps,ab):=by unfold og;grind
   rw[e];refine bn G [(50,ae)] rfl ?_ ?_
   .simp only[az,eg.list_fn,a,hk];and_intros<;>first|exact eg.aO _|rfl|exact True.intro|grind
   refine AK.lO () [0,1] rfl rfl rfl rfl rfl rfl rfl rfl rfl ?_ rfl rfl rfl rfl BG;simp[zN]
 obtain⟨n,t⟩:∃n,h.length=n+1:=⟨h.length-1,by omega⟩
 refine bO [(37,ab),(1000009,ab)] rfl (by simp only[az,a9,aE];omega) ?_;refine AK.fact (M5 (i:=4) (n:=h.length) (bf:=bf) (l:=h) rfl (by omega)) λQ=>?_;obtain⟨b,cap,rfl,d⟩:=Q;rw[t]at d;have y:=FW (X:=X) g b cap F t (by omega) d;have I:=Qa F (by omega);have j:((kN h).take n).length=n:=by grind[Dd]
 have L:m6 (ps.map (ku k))=(out++[(kN h).getD n (0,[])])++lP n ((kN h).take n):=by rw[w,t,lP,aY (by omega),t];simp
 have K:kt ((kN h).take n):=λx E=>I x (fM E);show AK X _ _ _ _ _ (GB f s++[.cells 67 [.c (.int .i64 0),.c (.sl ab 0 0 λ_=>[])],cB g (.row b cap) h.length,hB (.row b cap) h.length h]++M9 no out);rw[t];generalize(kN h).getD n (0,[])=x at *;generalize(kN h).take n=r at *;refine AK.KI (ι:=Unit) jk 4 7 10 (λk=>bA k 3) (λk=>([.e (.one (.ptr 5 1)),.e (.one (.vec 6 2 out.length (eg.fn out))),vA (.pointer (aa ⟨g,0,af⟩)),UI g]:List D).getD k .any) (λ_ k=>([.any,.any,.any,.any,UH x,X2 x,.e (.one (.c (.sl ab 2 1 λi=>([[.int .i64 x.1,.str x.2]]:List (List C)).getD i [])))]:List D).getD k .any)
  (λ_=>GB f s++[.cells 67 [.c (.int .i64 0),.c (.sl ab 0 0 λ_=>[])],cB g (.row b cap) n,hB (.row b cap) n r]++M9 no out)
  rfl rfl rfl rfl rfl rfl rfl (λk h=>by have:=db h;omega) rfl
  ⟨OA.cZ tok bL.nil rfl,OA.cZ tok bL.nil rfl,OA.cZ tok bL.nil rfl,OA.cZ tok bL.nil rfl,ay,ay,ay,ay,ay,ay,ay⟩
  (λ_=>⟨OA.cZ tok bL.nil rfl,OA.cZ tok bL.nil rfl,OA.cZ tok bL.nil rfl,OA.cZ tok bL.nil rfl,ay,OA.kT (fD rfl) (bM.AS (cs:=[.int .i64 x.1,.str x.2]) tok rfl rfl rfl rfl),OA.cZ tok bL.nil rfl,ay⟩)
  (mW.qA y.tQ [3,4] rfl rfl rfl rfl rfl rfl rfl (λ_=>rfl) rfl (λ_=>rfl)) λ_=>?_
 have E:=eg.cy out x;refine dm rfl ?_ (AK.aQ (r,.row b cap,out++[x]) rfl ?_ ?_ ?_ ?_)
 .simp only[az,show i76.bytes=24 from rfl,aG];omega
 .simp
 .simp only[j,az.cat,az,cX,fb,gG,aG,aE];and_intros<;>first|exact cA.same|exact E|rfl
 .grind
 grind
abbrev aah(s:fe):D:=.fa [.agg [.c (.int .i64 s.1),.c (.sl ae 2 s.2.length (cL.fn s.2))],.one (.c (.bool ab))]
abbrev W6(b a:aj×ah)(no:Int)(ls:List js):List aR:=GB b a++[.cells 71 [.c (.int .i64 0),.c (.sl ab 0 0 λ_=>[])],.cells 71 [.c (.int .i64 no),.vec 4 2 ls.length (cL.fn ls)],.vec 140 2 ls.length (cL.fn ls)]
abbrev W7(f:bw)(ns:List Int):List aR:=[.cells 82 [.c (.str f.1),.c (.str f.2)],.cells 140 [.c (.str f.1),.vec 7 1 ns.length (cI.fn ns)],.vec 3 1 ns.length (cI.fn ns)]
def FV(b l:aj×ah)(no k:Int)(t:List bw)(A:1<=no/\no<=99)(hk:b7 k=ab)(q:cC t=ab):
  Ev X 75 [dI no,dI k,cF.sl t] (GB b l) (aah (eJ no k t)) (GB b l):=by
 refine Ev.rj tok Tryz.func75 rfl rfl rfl λK=>?_;have F:bL X [(40,kL aI (λk=>dB (b7 k)) λ_=>[]),(25,W1)]:=.cons t40 (.cons t25 .nil);refine bn F [(15,ae),(19,ae),(24,ae),(29,ae)] rfl ?_ ?_
 .simp only[az,hk,cF.list_fn,ib,q,bS];and_intros<;>first|exact cF.aO _|rfl|omega
 refine AK.hZ 3 1 140 2 (cL.fn []) rfl rfl ?_;refine AK.sY 5 [1,6,8,33,34] (λi=>i<=t.length) (λi:Nat=>[(35,dI i)]) (λi=>W6 b l no (ny k (t.take i))) (λi=>t.length-i) 0 rfl ?_ rfl ?_ rfl (by omega) ?_
 .simp
 .simp
 intro i hi;by_cases h:i<t.length
 .have E:t.getD (i:Int).toNat cF.cd=t.getD i ([],[]):=by grind
  have a:t.getD i ([],[])∈t:=by grind
  have x:=dF q;have I:=x.tK _ a;have z:=yi q _ a;have H:=x.len;have o:=n6 I.1;have B:=kP (t.getD i ([],[])).2;have d:ny k (t.take (i+1))=ny k (t.take i)++[lx k (t.getD i ([],[]))]:=by grind[bY]
  have y:(ny k (t.take i)).length=i:=by grind
  generalize t.getD i ([],[])=f at *;generalize ny k (t.take i)=ls at *;have v:g9 f.2=pieces f.2:=by unfold g9;grind
  have c2:bL X [(43,kL aS (λs=>cS.sl (g9 s)) λ_=>[])]:=.cons A3 .nil;refine bn c2 [(36,ab)] rfl ?_ ?_
  .simp only[az,a9,aG,aE];and_intros<;>omega
  rw[E,v];refine AK.hZ 6 1 3 1 (cI.fn []) rfl rfl ?_;refine AK.sY 8 [1,6,8,10,11,33,34,35,44,45] (λj=>j<=(pieces f.2).length) (λj:Nat=>[(46,dI j)]) (λj=>W6 b l no ls++W7 f (lR k ((pieces f.2).take j))) (λj=>(pieces f.2).length-j) 0 rfl ?_ rfl ?_ rfl (by omega) ?_
  .simp
  .simp
  intro j J;by_cases L:j<(pieces f.2).length
  .have n:(pieces f.2).getD (j:Int).toNat cS.cd=(pieces f.2).getD j []:=by grind
   have u:bx ((pieces f.2).getD j [])=ab:=o _ (by grind);have g:lR k ((pieces f.2).take (j+1))=lR k ((pieces f.2).take j)++[dA k ((pieces f.2).getD j [])]:=by grind[bY]
   have D:(lR k ((pieces f.2).take j)).length=j:=by grind
   generalize(pieces f.2).getD j []=p at *;generalize lR k ((pieces f.2).take j)=ns at *;have m:=cI.cy ns (dA k p);refine bO [(47,ab),(1000011,ab)] rfl ?_ ?_
   .simp only[az,a9,aG,aE];and_intros<;>omega
   rw[n];refine AK.calm jk [.e (.one (.ptr 6 1)),.e (.one (.vec 7 1 ns.length (cI.fn ns))),dI k,dS p,dI (dA k p),.e (.one (.c (.sl ab 1 1 λi=>([[.int .i64 (dA k p)]]:List (List C)).getD i [])))] 6 rfl rfl rfl rfl rfl ⟨OA.cZ tok bL.nil rfl,OA.cZ tok bL.nil rfl,OA.cZ tok bL.nil rfl,OA.cZ tok bL.nil rfl,
    OA.UG (mW.qA (uG b l k p hk u).tQ [0,1] rfl rfl rfl rfl rfl rfl rfl (λ_=>rfl) rfl (λ_=>rfl)),OA.cZ tok bL.nil rfl,ay⟩ ?_
   refine dm rfl ?_ (AK.aQ (j+1) rfl ?_ ?_ ?_ ?_)
   .simp only[az,bD,show i3.bytes=8 from rfl,aG,aE];and_intros<;>omega
   .simp
   .simp only[g,az.cat,az,cX,fb,gG,aG,aE];and_intros<;>first|exact cA.same|exactλ_ _=>rfl|exact m|rfl|omega
   .grind
   .omega
  .have r:j=(pieces f.2).length:=by omega
   rw[r,dq];have m:=cL.cy ls (lx k f);have w:ls.length+1=(ls++[lx k f]).length:=by simp
   have G:cL.enc (lx k f)=[C.str f.1,C.sl ae 1 (lR k (pieces f.2)).length (cI.fn (lR k (pieces f.2)))]:=rfl;rw[G,<-d]at m;rw[<-d]at w;refine bO [(47,ae)] rfl (by simp only[az,bS];omega) (AK.leaveD rfl rfl ?_);refine dm rfl ?_ (AK.aQ (i+1) rfl ?_ ?_ ?_ ?_)
   .simp only[az,bD,show i140.bytes=40 from rfl,aG,aE];and_intros<;>omega
   .simp
   .simp only[az.cat,az,aG,aE];and_intros<;>first|exact cA.same|exact m|exact w|rfl
   .grind
   .omega
 .obtain rfl:i=t.length:=by omega
  rw[dq];refine bO [(36,ae)] rfl (by simp) (AK.leaveD rfl rfl ?_);refine dm rfl ay ?_;refine AK.lO () [0,1] rfl rfl rfl rfl rfl rfl rfl rfl rfl ?_ rfl rfl rfl rfl BG;simp[eJ]
end
end Go.AM.R1
namespace Go.AM
namespace R1
variable {X:Cx ag}[X.hU]
abbrev jI:aR:=.cells 27 [gU,gU,gU]
abbrev f92(t:List bw)(n:Nat):Fr:=[(0,.e (.one (.ptr 0 0))),(2,.e (.one (.ptr 1 0))),(3,.e (.one (.ptr 2 0))),(4,cF.sl t),(5,dI n)]
end R1
end Go.AM
namespace Go.AM.R1
section
variable {X:Cx ag}[X.hU]
abbrev yR:aR:=.cm (gf 67 2 (.nil af) 0 [])
abbrev Nq(v:ah)(s:bk):aR:=.cells 27 [.c (.val v),.c (Fy s.2.1),.c (Db s.2.2)]
abbrev Uo(v:ah)(s:bk):D:=.e (.agg [.c (.val v),.c (Fy s.2.1),.c (Db s.2.2)])
abbrev Nr:aR:=.cells 27 [.any,.any,.any]
abbrev BU(v:ah)(s:bk):aR:=.cm (PM (Un v s.1))
def d9P(m:Nat)(b:Nat->Int)(k:Int)(s s':bk)(e:Option ah)(a c d:Bool):List aR :=
 match e with
 |none=>match a,c with
  |false,ae=>[lu m b k,jI,xY s,yR]
  |true,ae=>[lu m b (k+1),jI,xY s,yR]
  |false,ab=>[lu m b k,jI,xY s,yR,jI]
  |true,ab=>[lu m b (k+1),jI,xY s,yR,jI]
 |some v=>match a,c,d with
  |true,ae,_=>[lu m b (k+1),jI,xY s,BU v s']
  |true,ab,ae=>[lu m b (k+1),jI,xY s,BU v s',jI]
  |true,ab,ab=>[lu m b (k+1),jI,xY s,BU v s',Nq v s']
  |false,ae,_=>[lu m b k,jI,xY s,BU v s']
  |false,ab,_=>[lu m b k,jI,xY s,BU v s',jI]
def x9P(u:Int)(s s':bk)(t:List bw)(a:Option ah)(i:Nat):D :=
 [po s,.e (.one (.ptr 0 0)),dI u,dI (1+u),cF.sl t,
  (match a with|none=>.any|some v=>.fa [.agg [.c (.val v),.c (Fy s'.2.1),.c (Db s'.2.2)],.one (.c (.bool ab))]),
  (match a with|none=>.any|some v=>.fa [.agg [.c (.val v),.c (Fy s'.2.1),.c (Db s'.2.2)],.one (.c (.bool ab))]),
  (match a with|none=>.any|some v=>Uo v s'),dB ab,.e (.one (.ptr 4 0)),.any,dB ab].getD i .any
def d9F(m:Nat)(b:Nat->Int)(k:Int)(v:ah)(s:bk)(a c d:Bool):List aR :=
 match a,c,d with
 |false,ae,_=>[lu m b k,jI,Nq v s,BU v s]
 |true,ae,_=>[lu m b (k+1),jI,Nq v s,BU v s]
 |false,ab,ae=>[lu m b k,jI,Nq v s,BU v s,jI]
 |true,ab,ae=>[lu m b (k+1),jI,Nq v s,BU v s,jI]
 |false,ab,ab=>[lu m b k,jI,Nq v s,BU v s,Nr]
 |true,ab,ab=>[lu m b (k+1),jI,Nq v s,BU v s,Nr]
abbrev Ns:D:=.fa [.agg [.any,.any,.any],.one (.c (.bool ae))]
def x9F(u:Int)(v:ah)(s:bk)(t:List bw)(i:Nat):D:=[Uo v s,.e (.one (.ptr 0 0)),dI u,dI (1+u),cF.sl t,Ns,Ns,.e (.agg [.any,.any,.any]),dB ae,.e (.one (.ptr 4 0)),.any,dB ae].getD i .any
abbrev StJ(k:Nat):={q:bk×ah×Nat // D7 q.1/\k<=q.2.2/\q.2.2<=k+1000}
def D7.ne{s:bk}(h:D7 s):∀p∈s.1,0<p.2.length:=λp a=>(h.p p a).len.1
def Xn:∀j,j<1->([0,3]:List Nat)[j]?=aa j:=λj a=>by grind
def F9(s:bk)(by_:Int)(t:List bw)(a:D7 s)(c:tg t)(b:fW 7 s t=ab):ef (ι:=Nat->ah) X 24 [dI 7,po s,dI by_,cF.sl t] [] (λ_=>Ns) (λ_=>[]) :=
 (r5 (X:=X) 7 s by_ t (by decide) a.size a.num c a.cV a.ne b).le (λ_=>rfl) (λ_=>by simp)
set_option maxRecDepth 20000 in
def D4(m:Nat)(b:Nat->Int)(z:Bytes b)(k:Nat)(hk:k<=40000)(H:m<=1048576):
  ef (ι:=StJ k) X 58 [.e (.one (.ptr 0 0))] [lu m b k] (λq=>Uo q.1.2.1 q.1.1) (λq=>[lu m b q.1.2.2,BU q.1.2.1 q.1.1]):=by
 refine ef.sI tok Tryz.func58 rfl rfl rfl λhf=>?_;refine aX [(1000002,ab)] rfl ay ?_;refine AK.spare 67 2 ?_;refine AK.VG 3 2 0 2 (cP.fn []) (by decide) rfl rfl rfl λv0=>?_;refine bt rfl ay ?_;refine AK.cP (Pr m b z k (by omega) H) [0] rfl (λ_=>rfl) ?_;rintro⟨⟨t0,k1⟩,J,W,M⟩;simp only at J W M;refine bt rfl ay ?_;refine AK.cP (gF m b z k1 5 (by omega) H (by omega)) [0] rfl (λ_=>rfl) ?_;rintro⟨u,u0,u1⟩;refine bt rfl ay ?_;refine AK.cE 4 (λq:bk×ah×List bw×Nat×Nat=>D7 q.1/\cC q.2.2.1=ab/\q.2.2.2.1<=4/\k<=q.2.2.2.2/\q.2.2.2.2+100*q.2.2.2.1<=k+900) (λq=>f92 q.2.2.1 q.2.2.2.1) (λq=>[lu m b q.2.2.2.2,jI,Nq q.2.1 q.1,BU q.2.1 q.1]) (λq=>q.2.2.2.1) (([],[],[]),v0,t0,u.toNat,k1+1) rfl ?_ rfl ?_ rfl ⟨D7.nil,J,by grind,by grind,by grind⟩ ?_
 .simp only[az.cat,az,aG,aE];and_intros<;>first|exactλ_ _=>rfl|omega
 .simp;rfl
 rintro⟨s,v,t,n,l⟩ ⟨A,R,Y,N,K⟩;simp only at A R Y N K;by_cases hn:0<n
 .have hv:=u9 m b l 2 (by omega);have r:az [(l:Int)=(l:Int).toNat,Hl b=Hl (TR (Hl b)),Bytes (TR (Hl b)),(l:Int)<=4000000,m<=1048576,(1:Int)<=2,(2:Int)<=4000000]:=⟨rfl,rfl,z,by omega,H,by omega,(by decide:(2:Int)<=4000000)⟩
  have B:az [bD .i64 (1+mG m b l 2)]:=by simp only[az,bD];omega
  have g:bL X [(21,Z5)]:=.cons t21 .nil;refine bO [(19,ab),(1000006,ab)] rfl (by simp only[az,a9];omega) ?_;apply AK.VH (ι:={q:bk×ah // D7 q.1}) (λ_=>f92 t n) (λq=>[lu m b (l+1:Nat),jI,Nq q.1.2 q.1.1,BU q.1.2 q.1.1,Nr])
  .intro out;cases C:fW 7 s t with
   |true =>
    have F:=F9 (X:=X) s (1+mG m b l 2) t A (dF R) C;refine AK.flags jk (x9F (mG m b l 2) v s t) (uS (d9F m b l v s) 2 9 10) rfl rfl rfl rfl
     ⟨.Js tok g,
     .Js tok g,
     eh.e1 rfl rfl rfl rfl (λc d=>by cases c<;>cases d<;>exact gL (ds:=[]) tok g (σ':=aa _) rfl r),
     .q3o tok g B,
     .Js tok g,
     eh.q3 rfl rfl rfl (λa c d=>by cases a<;>cases c<;>cases d<;>exactλs a f hh b kk cs S i rest z hi hK=>mW.qI F rfl rfl rfl (j1.agg 1 0 3 rfl rfl (PM.Ce rfl λ_ h=>h)) rfl (by simp) rfl (λ_=>rfl) (λ_=>rfl) s a f hh b kk cs S i rest z hi λ_=>hK),
     .Js tok g,
     .Js tok g,
     .Js tok g,
     eh.e2 rfl rfl rfl rfl rfl (λa=>by cases a<;>exact gL (ds:=[]) tok g (σ':=aa _) rfl ay),
     eh.e3 rfl rfl rfl rfl rfl (λa=>by cases a<;>exact gL (ds:=[]) tok g (σ':=aa _) rfl ay),
     .Js tok g,ay⟩ ?_
    intro D o;show AK X _ _ _ _ _ (d9F m b l v s (D 2) (D 9) (D 10));rw[o 2 (by decide),o 9 (by decide),o 10 (by decide)];refine bO [(1000009,ab)] rfl ay ?_;exact out ⟨(s,v),A⟩ _ _ rfl (by simp)
   |false =>
    have L:=A.save (by_:=1+mG m b l 2) R (by omega) C;have F:=yo (X:=X) 7 s (1+mG m b l 2) t (by decide) A.size A.num (dF R) A.cV A.ne C;generalize c9 7 s (1+mG m b l 2) t=s' at *;refine AK.rO 3 2 0 (E:=67) (k:=2) (cl:=Hc s.1) (by decide) rfl rfl rfl (λ_ h=>h) ?_;refine AK.Sj jk (x9P (mG m b l 2) s s' t) (SO (d9P m b l s s') 2 9 10) (w6 ah 5) af rfl rfl rfl rfl rfl
     ⟨.qe tok g,
     .qe tok g,
     iy.pre rfl rfl rfl rfl rfl (λc=>by cases c<;>exact gL (ds:=[]) tok g (σ':=aa _) rfl r),
     .qo tok g B,
     .qe tok g,
     iy.Zh rfl rfl rfl rfl rfl (λj q=>by
      match q with
      |0=>exact .inr (.inr rfl)
      |1=>exact .inr (.inr rfl)
      |2=>exact .inr (.inr rfl)
      |3=>exact .inr (.inr rfl)
      |4=>exact .inr (.inr rfl)
      |5=>grind
      |6=>exact .inr (.inl rfl)
      |7=>exact .inr (.inl rfl)
      |8=>exact .inr (.inr rfl)
      |9=>exact .inr (.inr rfl)
      |10=>exact .inr (.inr rfl)
      |11=>exact .inr (.inr rfl)
      |q+12=>exact .inr (.inr rfl)) (λc=>by cases c<;>exact mW.j4 F [3] rfl rfl rfl rfl (by simp) rfl rfl rfl (λ_=>rfl) rfl (λ_=>rfl)),
     .qs tok g,
     .qs tok g,
     .qs tok g,
     iy.YH rfl rfl rfl rfl (λQ a=>by cases Q<;>cases a<;>exact gL (ds:=[]) tok g (σ':=aa _) rfl ay),
     iy.last rfl rfl rfl rfl rfl rfl (λv'=>gL (ds:=[]) tok g (σ':=aa _) rfl ay),
     .qs tok g,ay⟩ ?_
    intro Q D U o;have U:Q.isSome=ab:=U.trans (o 5 (by decide));rcases Q with _|v'
    .cases U
    show AK X _ _ _ _ _ (d9P m b l s s' (aa v') (D 2) (D 9) (D 10));rw[o 2 (by decide),o 9 (by decide),o 10 (by decide)];refine bO [(1000009,ab)] rfl ay ?_;refine AK.CI (φ':=f92 t n) (σ':=[lu m b (l+1:Nat),jI,Nq v' s',BU v' s',Nr]) ?_ rfl ?_ rfl ?_
    .exact out ⟨(s',v'),L⟩ _ _ rfl (by simp)
    .simp
    .simp
  rintro⟨⟨s',v'⟩,L⟩;refine dm rfl ay ?_;refine AK.cP (wi m b z (l+1) (by omega) H) [0] rfl (λ_=>rfl) ?_;rintro⟨p,hp⟩;refine dm rfl ay ?_;refine AK.cP (Hu m b z (l+1+1+1) (by omega) H) [0] rfl (λ_=>rfl) ?_;rintro⟨⟨x,O⟩,hx,T,I⟩;simp only at hx T I;refine dm rfl ay ?_;refine AK.cQ (yd t p x) [] rfl ?_;have Z:=FN (t:=t) (p:=p) (x:=x);obtain⟨G,y⟩:∃G,G=if(ez t p x).2=ab then(ez t p x).1 else t:=⟨_,rfl⟩
  have V:cC G=ab:=by grind
  apply AK.join (f92 G n) [lu m b O,jI,Nq v' s',BU v' s',Nr]
  .intro out;cases P:(ez t p x).2 with
   |true =>
    rw[P,bl rfl]at y;rw[<-y];refine bO [(1000012,ab)] rfl ay ?_;exact out _ _ rfl (by simp)
   |false =>
    rw[P,aY (by simp)]at y;rw[y]at out;refine bO [(1000012,ab)] rfl ay ?_;exact out _ _ rfl (by simp)
  clear y;refine dm rfl ay ?_;refine AK.cP (gF m b z O 3 (by omega) H (by omega)) [0] rfl (λ_=>rfl) ?_;rintro⟨w,w0,w1⟩;by_cases hw:w=0
  .refine bO [(46,ab)] rfl (by simp[hw]) ?_;refine AK.cP (wi m b z (O+1) (by omega) H) [0] rfl (λ_=>rfl) ?_;rintro⟨p2,hp2⟩;have Vw:=mE V;refine dm rfl ay ?_;refine AK.cQ (Hv G p2 (by omega)) [] rfl ?_;refine dm rfl ?_ (AK.aQ (s',v',mD G p2,n-1,O+1+1+1) rfl ?_ ?_ ?_ ?_)
   .simp only[az,bD];omega
   .simp only[az.cat,az,aG,aE];and_intros<;>first|exactλ_ _=>rfl|omega
   .simp
   .grind [Mo]
   grind
  .refine bO [(46,ae)] rfl (by simp[hw,bD];omega) (AK.aQ (s',v',G,n-1,O+1) rfl ?_ ?_ ?_ ?_)
   .simp only[az.cat,az,aG,aE];and_intros<;>first|exactλ_ _=>rfl|omega
   .simp
   .grind
   grind
 .refine bO [(19,ae)] rfl (by simp only[az,bS];omega) (AK.leaveD rfl rfl ?_);refine dm rfl ay ?_;refine AK.mZ ⟨(s,v,l),A,N,by grind⟩ [0,3] rfl rfl rfl rfl rfl rfl rfl rfl ?_ rfl rfl rfl rfl Xn;simp
end
end Go.AM.R1
namespace Go.AM
def ef.die{P:ar}{ι:Type}{X:Cx P}{f:aJ}{args:List D}{E k n:Nat}{a:Nat->List C}{w:BP}{es:ι->Nat->List C}{m:ι->Nat}(h:ef X f args [.buf E k n a] (λ_=>.e (.one (.bp 0 w))) (λi=>[.buf E k (m i) (es i)])):Ev X f args [.buf E k n a] (.e (.one (.bp 0 w))) [.dead] :=
 ⟨h.1,λs vs hr hh S cs hS=>h.2 s vs hr hh S cs λi fr v s' hl mJ jh st=>hS fr v s' hl (by
  obtain⟨lv,h1,_,_⟩:gB _ _ _ (.bp 0 w):=mJ;exact(⟨lv,h1,by simp,λ_ _ _ _ c=>by grind⟩:gB [.dead] s' v (.bp 0 w))) jh.lW
  ⟨st.size,st.fy,st.mem,st.je,st.vK,λl B L hB hL=>by
   obtain⟨B',L',h1,h2,b⟩:=st.box l B L hB hL;cases l with
   |zero=>simp at hB;subst hB;exact⟨.dead,L',rfl,h2,ay⟩
   |succ l=>grind,st.os,st.tape,st.output,st.own⟩⟩
namespace R1
variable {X:Cx ag}
def x5(h:tq):Ev X 100 [ZT h] [] (dB (gR h)) []:=by
 refine Ev.bQ Tryz.func100 rfl λb=>?_;have a:bL X []:=.nil;unfold gR;by_cases c1:h.1=1
 .by_cases c3:1<=h.2
  .exact aW a [(6,ab),(11,ab),(16,ab)] rfl (by simp[c1,c3]) (AK.bz rfl (by simp[c1,c3]))
  .exact aW a [(6,ab),(11,ab),(16,ae)] rfl (by simp[c1];omega) (AK.bz rfl (by simp[c3]))
 .by_cases c2:h.1=2
  .by_cases c3:1<=h.2
   .exact aW a [(6,ae),(11,ab),(16,ab)] rfl (by simp[c2,c3]) (AK.bz rfl (by simp[c2,c3]))
   .exact aW a [(6,ae),(11,ab),(16,ae)] rfl (by simp[c2];omega) (AK.bz rfl (by simp[c3]))
  .exact aW a [(6,ae),(11,ae),(16,ae)] rfl (by simp[c1,c2]) (AK.bz rfl (by
    have:¬(1<=h.1/\h.1<=2):=by omega
    simp only[az,iC this];simp))
def IW(h:tq):Ev X 99 [ZT h] [] (dB (!gR h)) []:=by refine Ev.bQ Tryz.func99 rfl λb=>?_;have a:bL X [(100,kL UB (λh=>dB (gR h)) λ_=>[])]:=.cons (.pS λh _=>x5 h) .nil;exact b8 a rfl ay (AK.bz rfl)
def IX(l:List tq):iQ l=(decide (l.length<=9)&&!l.any λh=>!gR h):=by
 have:(bh l.length).all (λi=>gR (l.getD i (0,0)))=!l.any λh=>!gR h:=by rw[qt,dE,jQ,List.any_eq_false];grind[List.mem_iff_getElem]
 rw[iQ,this,Bool.and_comm]
def IY(l:List tq):Ev X 54 [cH.sl l] [] (dB (iQ l)) []:=by
 refine Ev.bQ Tryz.func54 rfl λd=>?_;have a:=Mc (X:=X) l 99 (λh=>!gR h) λx _=>IW x;have b:bL X [(98,pU [cH.sl l,.e (.one (.c (.fn (.func 99) [] [])))] (dB (l.any λh=>!gR h)))]:=.cons (rQ a) .nil;rw[IX];by_cases h:l.length<=9
 .exact aW b [(6,ab)] rfl ⟨rfl,dc (by omega)⟩ (AK.bz rfl (by simp[h]))
 .exact aW b [(6,ae)] rfl (by simp;omega) (AK.bz rfl (by simp[iC h]))
def wh:er X 54 oM:=.pS λl _=>IY l
def Bo(p:bJ)(d:p.2.length<=4000000):Ev X 151 [Lk p] [] (cI.sl (p.2.map (·.1))) []:=by
 refine Ev.bQ Tryz.func151 rfl λf=>?_;refine aX [(1000002,ab)] rfl ay ?_;refine AK.iM 3 3 1 rfl rfl ?_;refine bt rfl ay ?_;refine AK.cE 2 (λi=>i<=p.2.length) (λi:Nat=>[(1,.e (.one (.ptr 0 0))),(3,.e (.one (.vec 1 1 i (cI.fn ((p.2.take i).map (·.1)))))),(7,eg.sl p.2),(8,dI p.2.length),(9,dI i)]) (λi=>[TE p,.vec 3 1 i (cI.fn ((p.2.take i).map (·.1)))]) (λi=>p.2.length-i) 0 rfl (by simp) rfl (by simp) rfl (by omega) ?_;intro i hi;by_cases h:i<p.2.length
 .have b:p.2.getD (i:Int).toNat eg.cd=hI p i:=by grind
  have a:(p.2.take (i+1)).map (·.1)=(p.2.take i).map (·.1)++[(hI p i).1]:=by grind[bY]
  have c:((p.2.take i).map (·.1)).length=i:=by grind
  have e:=cI.cy ((p.2.take i).map (·.1)) (hI p i).1;rw[c]at e;refine aX [(10,ab)] rfl ?_ (AK.aQ (i+1) rfl ?_ ?_ h (by omega))
  .simp only[az,bD,show i3.bytes=8 from rfl];grind
  .rw[a];simp only[az.cat,az,b,aG,aE];and_intros<;>first|exact cA.same|exact e|rfl|omega
  .rw[a];simp only[az.cat,az,b,aG,aE];and_intros<;>first|exact cA.same|exact e|rfl|omega
 obtain rfl:i=p.2.length:=by omega
 rw[dq];refine aX [(10,ae)] rfl (by simp) (AK.leaveD rfl rfl ?_);exact bt rfl ay (AK.bz rfl)
abbrev Dt:dv:=kL (Fh eg) (λp=>cI.sl (p.2.map (·.1))) λp=>[p.2.length<=4000000]
def Ml:er X 151 Dt:=.pS λp h=>Bo p h
def IZ(ps:List bJ)(i:Nat):(bE (ps.take i)).length<=(bE ps).length:=by
 have:bE ps=bE (ps.take i)++bE (ps.drop i):=by unfold bE;grind[List.take_append_drop]
 grind
abbrev ZU(l:List Int):D:=.e (.one (.bp 0 (.sl l.length 1 0 l.length)))
def Du(ps:List bJ)(m:∀p∈ps,p.2.length<=4000000)(q:(bE ps).length<=4000000):Ev X 103 [cP.sl ps] [] (ZU (bE ps)) [Jz (bE ps).length (bE ps)]:=by
 refine Ev.bQ Tryz.func103 rfl λn=>?_;have k:=n.sl 0 rfl;have f:bL X [(151,Dt)]:=.cons Ml .nil;refine aW f [(1000002,ab)] rfl ay ?_;refine AK.VP 3 3 1 (cI.fn []) rfl ?_;refine b8 f rfl ay ?_;refine AK.cE 1 (λi=>i<=ps.length) (λi:Nat=>[(3,.e (.one (.bp 0 (.sl (bE (ps.take i)).length 1 0 (bE (ps.take i)).length)))),(6,cP.sl ps),(7,dI ps.length),(8,dI i)]) (λi=>[Jz (bE (ps.take i)).length (bE (ps.take i))]) (λi=>ps.length-i) 0 rfl (by simp[bE]) rfl (by simp[cA,bE]) rfl (by omega) ?_;intro i hi;by_cases h:i<ps.length
 .have g:ps.getD (i:Int).toNat cP.cd=ps.getD i (0,[]):=by grind
  have b:=x4 h;have c:=IZ ps (i+1);have o:=m _ (l7 (d:=(0,[])) h);generalize ps.getD i (0,[])=p at *;rw[b]at c;generalize bE (ps.take i)=a at *;have e:=cI.TK a (p.2.map (·.1)) _ rfl;simp only[cX,jT]at c e;refine aW f [(9,ab)] rfl ?_ (AK.aQ (i+1) rfl ?_ ?_ h (by omega))
  .simp only[az,g,bD,eg.list_fn,eg.aO,jT,show i3.bytes=8 from rfl];grind
  .rw[b];simp only[az.cat,az,g,eg.list_fn,cX,jT,aG,aE];and_intros<;>first|exact cA.same|rfl|omega
  .rw[b];simp only[az.cat,az,g,eg.list_fn,cX,jT,aG,aE];grind
 obtain rfl:i=ps.length:=by omega
 rw[dq];refine aW f [(9,ae)] rfl (by simp) (AK.leaveD rfl rfl ?_);refine b8 f rfl ay (AK.dk [0] rfl ?_ rfl rfl rfl (λj l=>absurd l (by simp)));simp
def I0(ps:List bJ)(b:∀p∈ps,p.2.length<=4000000)(a:(bE ps).length<=4000000):Ev X 103 [cP.sl ps] [] (cI.sl (bE ps)) [] :=
 Ev.K3 (σ1:=[]) (E:=3) (k:=1) (n:=(bE ps).length) (es:=cI.fn (bE ps)) (Du ps b a) rfl (by simp) rfl (bc _)
end R1
end Go.AM
namespace Go.AM.R1
section
variable {X:Cx ag}
def x6(s:bk):Ev X 49 [po s] [] (po s) []:=by refine Ev.sI Tryz.func49 rfl rfl rfl λa=>?_;refine bt rfl (by simp) ?_;refine AK.freeze 2 1 rfl rfl rfl ?_;exact AK.RU tok [] rfl (by simp) rfl rfl rfl (λj b=>absurd b (by simp))
abbrev Mm:dv:=kL S5 (λs=>po s) λ_=>[]
def TM:er X 49 Mm:=.pS λs _=>x6 s
abbrev Ju(s:bk):aR:=.cells 96 [.c (.sl ae 2 s.1.length (cP.fn s.1)),.c (.sl ae 2 s.2.1.length (fi.fn s.2.1)),.c (.sl ae 2 s.2.2.length (cH.fn s.2.2))]
structure NR(s:bk):Prop extends SmS s where
 pk:∀p∈s.1,p.2.length<=4000000
 nm:(bE s.1).length<=4000000
def zA(k:Int)(s:bk):Bool:=(bh s.1.length).all (mz k s.1)&&decide (s.1.length<=20)&&decide (bE s.1).Nodup
def FJ(k:Int)(s:bk)(hk:b7 k=ab)(c:NR s):Ev X 56 [po s,dI k] [] (dB (zA k s)) []:=by
 refine Ev.bQ Tryz.func56 rfl λD=>?_;have C:=c.pN;have y:=c.pk;have x:=I0 (X:=X) s.1 c.pk c.nm;have n:bL X [(102,A6)]:=.cons G8 .nil;refine b8 n rfl ay ?_;unfold zA;refine AK.cE 1 (λi=>i<=s.1.length/\∀j,j<i->mz k s.1 j=ab) (λi:Nat=>[(1,dI k),(2,.e (.one (.ptr 0 0))),(9,cP.sl s.1),(10,dI s.1.length),(11,dI i)]) (λ_=>[Ju s]) (λi=>s.1.length-i) 0 rfl (by simp) rfl (by simp) rfl ⟨by omega,by omega⟩ ?_;rintro i ⟨hi,a⟩;by_cases h:i<s.1.length
 .have v:s.1.getD i cP.cd=s.1.getD i (0,[]):=rfl;have r:s.1.getD (i-1) cP.cd=s.1.getD (i-1) (0,[]):=rfl;have g:mz k s.1 i=(gx k (s.1.getD i (0,[]))&&Dr (·.1) (0,[]) s.1 i):=rfl;have t:=qP (f:=λp:bJ=>p.1) (d:=(0,[])) (l:=s.1) (i:=i);have b:=y _ (l7 (d:=(0,[])) h);generalize s.1.getD i (0,[])=p at *;generalize s.1.getD (i-1) (0,[])=p' at *;cases o:gx k p with
  |false =>
   rw[o,ss]at g;refine aW n [(12,ab),(20,ab),(35,ab)] rfl ?_ (AK.fQ (cw.zero rfl ?_))
   .simp[-ak,v,hk,b,o,eg.list_fn,eg.aO];omega
   .rw[iP h g];simp
  |true =>
   rw[o,fO]at g;by_cases z:i=0
   .subst z;refine aW n [(12,ab),(20,ae),(23,ae),(35,ae)] rfl ?_ (AK.aQ 1 rfl (by simp) (by simp) ⟨h,kn a (by rw[g];rfl)⟩ (by omega));simp[-ak,v,hk,b,o,eg.list_fn,eg.aO,bD];omega
   have t:=t z;by_cases F:p'.1<p.1
   .refine aW n [(12,ab),(20,ae),(23,ab),(33,ae),(35,ae)] rfl ?_ (AK.aQ (i+1) rfl (by simp) (by simp) ⟨h,kn a (by grind)⟩ (by omega));simp[-ak,v,r,hk,b,o,eg.list_fn,eg.aO,bD];omega
   .refine aW n [(12,ab),(20,ae),(23,ab),(33,ab),(35,ab)] rfl ?_ (AK.fQ (cw.zero rfl ?_))
    .simp[-ak,v,r,hk,b,o,eg.list_fn,eg.aO,bD];omega
    .rw[iP h (by grind)];simp
 obtain rfl:i=s.1.length:=by omega
 rw[dE.2 a,fO];refine aW n [(12,ae)] rfl (by simp) (AK.leaveD rfl rfl ?_);refine b8 n rfl ay ?_;refine AK.cQ (Du s.1 c.pk c.nm) [] rfl ?_;refine b8 n rfl ay ?_;refine AK.cQ (Mn (bE s.1) c.nm) [1] rfl ?_;have B:=Bp (bE s.1);have u:=(FK (X:=X) (o8 (bE s.1)) (by rw[lZ];exact c.nm)).die;rw[lZ]at u;have w:=Bq (o8 (bE s.1));rw[lZ]at w;have A:=c.nm;generalize eK (o8 (bE s.1))=cs at *;generalize o8 (bE s.1)=so at *;have tJ:bL X [(105,zh [kX (bE s.1).length] [Jz (bE s.1).length so] (.e (.one (.bp 0 (.sl (bE s.1).length 1 0 cs.length)))) [.dead]),(103,pU [cP.sl s.1] (cI.sl (bE s.1)))]:=.cons (C3 u) (.cons (rQ x) .nil);refine aW tJ [(1000009,ab)] rfl ay ?_;by_cases q:s.1.length<=20
 rotate_left
 .refine aW tJ [(46,ae)] rfl ?_ (AK.bz rfl ?_)
  .simp;omega
  .simp[q]
 have m:(s.1.length:Int)<=20:=by omega
 generalize E:bE s.1=N at *;refine AK.NL (ι:=Unit) jk 6 (λi=>match bA i 5 with|true=>ab|false=>match aB i 8 with|true=>ab|false=>aB i 9) (λi=>[.e (.one (.ptr 0 0)),cP.sl s.1,dI s.1.length,dB (decide ((s.1.length:Int)<=20)),dB ab,.e (.one (.bp 1 (.sl N.length 1 0 N.length))),.any,.any,.e (.one (.ptr 0 0)),cP.sl s.1].getD i .any)
  (λ_ i=>[.any,.any,.any,.any,.any,.any,.e (.one (.bp 1 (.sl N.length 1 0 cs.length))),dI cs.length,.any,.any,cI.sl N,dI N.length,dB ((cs.length:Int)==N.length),dB ((cs.length:Int)==N.length),dB ((cs.length:Int)==N.length)].getD i .any) (λ_=>[Ju s,.dead]) rfl rfl rfl rfl rfl rfl ?_ ?_ ?_ ?_
 .exact⟨.cZ tok tJ rfl,.cZ tok tJ rfl,.cZ tok tJ rfl,.cZ tok tJ rfl,.eval tok tJ (ds:=[(46,ab)]) rfl (dc m),.cZ tok tJ rfl,ay,ay,.cZ tok tJ rfl,.cZ tok tJ rfl,ay,ay,ay,ay,ay,ay⟩
 .intro _;exact⟨.cZ tok tJ rfl,.cZ tok tJ rfl,.cZ tok tJ rfl,.cZ tok tJ rfl,.eval tok tJ (ds:=[(46,ab)]) rfl (dc m),.cZ tok tJ rfl,ay,.cZ tok tJ rfl,.cZ tok tJ rfl,.cZ tok tJ rfl,.eval tok tJ (ds:=[]) rfl rfl,.cZ tok tJ rfl,.cZ tok tJ rfl,.cZ tok tJ rfl,.cZ tok tJ rfl,ay⟩
 .exact .AI (gL tok tJ (ds:=[]) (σ':=aa [Ju s,.dead]) rfl ⟨rfl,rfl⟩)
 .intro _;refine b8 tJ rfl ay (AK.bz rfl ?_);have:((cs.length:Int)==N.length)=decide N.Nodup:=by grind
  simp[this,q]
abbrev tHB(l:List (Int×Int))(b:Bool):D:=.fa [.one (.c (.sl ae 2 l.length (cH.fn l))),.one (.c (.bool b))]
def FZ(l:List (Int×Int))(x:Int×Int)(g:iQ l=ab)(f:gR x=ab)(j:l.length<=9):Ev X 76 [cH.sl l,P6 x.1 x.2] [] (tHB (if l.length=9 then l else l++[x]) (decide (l.length≠9))) []:=by
 refine Ev.bQ Tryz.func76 rfl λi=>?_;have d:bL X [(54,oM),(100,kL UB (λh=>dB (gR h)) λ_=>[])]:=.cons wh (.cons (.pS λh _=>x5 h) .nil);refine aW d [(9,ae),(14,ae)] rfl ?_ ?_
 .simp only[az,cH.list_fn,g,f,jD,aG,aE];first|exact cH.aO _|(and_intros<;>first|rfl|exact cH.aO _)
 refine AK.cQ (zl l (by omega)) [] rfl ?_;by_cases b:l.length=9
 .refine aW d [(19,ab)] rfl (by simp[b]) ?_;refine AK.oX 1 rfl rfl rfl (by simp) (by simp) ?_;exact AK.bz rfl (by simp[b,rF])
 .refine aW d [(19,ae)] rfl ?_ ?_
  .simp only[az,show i48.bytes=16 from rfl,eD,aG,aE];and_intros<;>first|rfl|omega
  have a:=cH.cy l x;refine AK.CI (φ':=[(4,.e (.one (.bp 1 (.sl (l.length+1) 2 0 (l.length+1))))),(5,dB ab)]) (σ':=[.cells 48 [.c (.int .i64 x.1),.c (.int .i64 x.2)],.buf 48 2 (l.length+1) (cH.fn (l++[x]))]) ?_ rfl (by simp;rfl) rfl (by simp only[az.cat,az,aG,aE];and_intros<;>first|rfl|exact a);refine AK.oX 1 rfl rfl rfl (by simp) (by simp) ?_;exact AK.bz rfl (by simp[b,rF])
def Nz(l:List bJ)(c:l.length<=4000000):Ev X 50 [cP.sl l] [] (dI (if l.length=0 then 0 else(l.getD (l.length-1) (0,[])).1)) []:=by
 refine Ev.bQ Tryz.func50 rfl λb=>?_;by_cases h:l.length=0
 .rw[bl h];exact aX [(5,ab)] rfl (by simp[h]) (AK.bz rfl)
 .have a:l.getD ((l.length:Int)-1).toNat cP.cd=l.getD (l.length-1) (0,[]):=by rw[show((l.length:Int)-1).toNat=l.length-1 by omega];rfl
  rw[aY h];refine aX [(5,ae)] rfl ?_ (AK.bz rfl (by simp only[az,a,aE]));simp only[az,a,bD,eD,aG,aE];and_intros<;>omega
def mH(m:Int)(l:List (Int×Int)):Int:=l.foldl (λm h=>max m (h.2+1)) m
def zU(l:List (Int×Int)):∀m n:Int,mH (max m n) l=max m (mH n l):=by
 induction l with
 |nil=>intro m n;rfl
 |cons x r a =>
  intro m n;show mH (max (max m n) (x.2+1)) r=max m (mH (max n (x.2+1)) r);grind
def Gg{m:Int}{l:List (Int×Int)}{i:Nat}(h:i<l.length):mH m (l.take (i+1))=max (mH m (l.take i)) ((l.getD i (0,0)).2+1):=by unfold mH;grind[bY]
def jd(s:bk):Int:=if s.2.1.length=0 then 1 else max 1 ((s.2.1.getD (s.2.1.length-1) (0,[])).1+1)
def Eb(s:bk):mH (jd s) s.2.2=c6 s:=by
 unfold jd c6;have a:mH 1 s.2.2=o7 s.2.2:=rfl;split
 .exact a
 .rw[show max 1 ((s.2.1.getD (s.2.1.length-1) (0,[])).1+1)=max ((s.2.1.getD (s.2.1.length-1) (0,[])).1+1) 1 by omega,zU,a];omega
def DW(s:bk)(k:lq s)(f:rX s):Ev X 13 [po s] [] (.fa [.one (.c (.int .i64 (cz s))),.one (.c (.int .i64 (c6 s)))]) []:=by
 refine Ev.bQ Tryz.func13 rfl λB=>?_;have l:=k.p;have q:=k.sn;have t:=k.h;have r:1<=jd s/\jd s<=4000001:=by
  unfold jd;split
  .omega
  .have:=f.s _ (fj (show s.2.1.length-1<s.2.1.length by omega) (0,[]));omega
 apply AK.join [(1,.e (.one (.ptr 0 0))),(4,dI (jd s))] [xY s]
 .intro out;by_cases h:s.2.1.length=0
  .refine bO [(12,ae),(1000005,ab)] rfl (by simp only[az,bS];omega) ?_;exact out _ _ rfl (by simp[jd,h])
  .have w:=f.s _ (fj (show s.2.1.length-1<s.2.1.length by omega) (0,[]));have d:s.2.1.getD ((s.2.1.length:Int)-1).toNat fi.cd=s.2.1.getD (s.2.1.length-1) (0,[]):=by rw[show((s.2.1.length:Int)-1).toNat=s.2.1.length-1 by omega];rfl
   refine bO [(12,ab)] rfl ?_ ?_
   .simp only[az,d,bD,a9,aG,aE];and_intros<;>omega
   rw[d];refine AK.law (Bg (jd s) rfl rfl rfl (by unfold jd;grind) (by simp only[bD];omega)) rfl rfl ?_;refine bO [(1000005,ab)] rfl ay ?_;exact out _ _ rfl (by simp)
 refine dm rfl ay ?_;refine AK.cE 1 (λi=>i<=s.2.2.length) (λi:Nat=>[(1,.e (.one (.ptr 0 0))),(4,dI (mH (jd s) (s.2.2.take i))),(24,cH.sl s.2.2),(25,dI s.2.2.length),(26,dI i)]) (λi=>[xY s]) (λi=>s.2.2.length-i) 0 rfl ?_ rfl ?_ rfl (by omega) ?_
 .simp[mH]
 .simp
 intro i hi;have a:∀i,1<=mH (jd s) (s.2.2.take i)/\mH (jd s) (s.2.2.take i)<=4000001:=λi=>by have o:=n9 (s.2.2.take i) λx u=>f.h x (fM u);have z:mH 1 (s.2.2.take i)=o7 (s.2.2.take i):=rfl;rw[show jd s=max (jd s) 1 by omega,zU,z];omega
 have o:=a i;have A:=a (i+1);by_cases h:i<s.2.2.length
 .have w:=f.h _ (fj h (0,0));have d:s.2.2.getD (i:Int).toNat cH.cd=s.2.2.getD i (0,0):=by grind
  have v:=Gg (m:=jd s) h;refine bO [(27,ab)] rfl ?_ ?_
  .simp only[az,d,bD,a9,aG,aE];and_intros<;>omega
  rw[d];refine AK.law (Bg (mH (jd s) (s.2.2.take (i+1))) rfl rfl rfl v.symm (by simp only[bD];omega)) rfl rfl ?_;refine dm rfl ?_ (AK.aQ (i+1) rfl ?_ ?_ h (by omega))
  .simp only[az,bD];omega
  .simp
  .simp
 .obtain rfl:i=s.2.2.length:=by omega
  rw[dq,Eb]at o⊢;have b:cz s=(if s.1.length=0 then 0 else(s.1.getD (s.1.length-1) (0,[])).1)+1:=by unfold cz;split<;>rfl
  have g:-4000000<=cz s-1/\cz s-1<=4000000:=by
   rw[b];split
   .omega
   .have:=f.p _ (fj (show s.1.length-1<s.1.length by omega) (0,[]));omega
  have j:=Nz (X:=X) s.1 l;have n:=x6 (X:=X) s;rw[b]at g⊢;generalize(if s.1.length=0 then 0 else(s.1.getD (s.1.length-1) (0,[])).1)=p at *;have y:bL X [(49,pU [po s] (po s)),(50,pU [cP.sl s.1] (dI p))]:=.cons (rQ n) (.cons (rQ j) .nil);refine bO [(27,ae)] rfl (by simp) (AK.leaveD rfl rfl ?_);refine cG y rfl ?_ (AK.bz rfl);simp only[az,bD,aG,aE];and_intros<;>first|rfl|omega
abbrev Ry(l:List Bs):C:=.sl ae 1 l.length (cS.fn l)
def Je(l:List Bs):Ev X 73 [cS.sl l,dI 4] [] (.e (.one (.c (.fn (.func 124) [] [.rp [Ry l],.rp [.int .i64 4]])))) []:=by refine Ev.bQ Tryz.func73 rfl λa=>?_;refine oK [] 6 rfl ay ?_;refine AK.freeze 2 0 rfl rfl rfl ?_;refine AK.freeze 3 1 rfl rfl rfl ?_;exact aX [(6,ae)] rfl (by simp) (AK.bz rfl (by simp;rfl))
def uI(l:List Bs)(k:Nat):List Bs:=(l.drop (4*k)).take 4
def FY(l:List Bs)(y:l.length<=4000000){d:Nat}{N0:Nat}{φ0:Fr}{b lr':Loop}(m:Nat)(z:m<=(l.length+3) / 4)(a:Nat->List aR)(j:List aR)(A:∀k,(a k).length=d)(s:∀k,lM (a k++[.loop N0 φ0 b])=ab)(w:lM (j++[.loop N0 φ0 lr'])=ab)(rR:∀k,k<m->4*k<l.length->Yields (ι:=Unit) X d [cS.sl (uI l k)] (a k++[.loop N0 φ0 b]) ab (λ_=>a (k+1)++[.loop N0 φ0 b]))(j8:4*m<l.length->Yields (ι:=Unit) X d [cS.sl (uI l m)] (a m++[.loop N0 φ0 b]) ae (λ_=>j++[.loop N0 φ0 lr'])):
  ef (ι:=Unit) X 124 [.e (.one (.ref d)),.e (.one (.c (.rp [Ry l]))),.e (.one (.c (.rp [.int .i64 4])))] (a 0++[.loop N0 φ0 b]) (λ_=>.fa []) (λ_=>if 4*m<l.length then j++[.loop N0 φ0 lr']else a m++[.loop N0 φ0 b]):=by
 refine ef.EL Tryz.func124 rfl rfl rfl (AK.of_code ?_);refine bt rfl ay ?_;show AW X _ (.loop _) _ _ _;refine AW.loop (S:=Nat) (λk=>k<=m) (λk=>[(0,.e (.one (.ref d))),(1,.e (.one (.c (.rp [Ry l])))),(2,.e (.one (.c (.rp [.int .i64 4])))),(4,dI (4*k:Nat))]) (λk=>a k++[.loop N0 φ0 b]) (λk=>m-k) 0 (kD _) ?_ rfl ?_
 .exact .cons rfl (cD rfl (by simp))
 intro k hk;refine AK.of_code ?_;by_cases h:4*k<l.length
 .have o:az (fY l.length (aa ((4*k:Nat):Int)) af):=by simp only[fY,az];omega
  have p:dj l.length af-dj 0 (aa ((4*k:Nat):Int))=l.length-4*k:=by simp only[dj];omega
  refine aX [(9,ab),(1000003,ab)] rfl (by simp only[az,a9];omega) ?_;let xs:Nat->D:=λi=>([dI 4,cS.sl l,dI (4*k:Nat),.e (.one (.c (.sl ae 1 (dj l.length af-dj 0 (aa ((4*k:Nat):Int))) (mf (dj 0 (aa ((4*k:Nat):Int))) (cS.fn l))))),dI (dj l.length af-dj 0 (aa ((4*k:Nat):Int)):Nat),dI (min 4 (l.length-4*k):Nat),dI (min 4 (l.length-4*k):Nat)]:List D).getD i .any;refine AK.flags jk xs (uS (λ_ _ _=>a k++[.loop N0 φ0 b]) 100 101 102) ?_ ?_ ?_ ?_ ?_ ?_
  .rfl
  .rfl
  .rfl
  .rfl
  .exact⟨.Js tok bL.nil,
   .Js tok bL.nil,
   .Js tok bL.nil,
   eh.q3 rfl rfl rfl (λ_ _ _=>OA.eval (ds:=[]) tok bL.nil rfl o),
   .Js tok bL.nil,
   eh.q3 rfl rfl rfl (λ_ _ _=>OA.kT (λ_ _ _ _=>dK rfl) (xJ _ rfl rfl rfl (by grind) (by simp only[bD];omega))),
   .Js tok bL.nil,ay⟩
  intro D x;show AK X _ _ _ _ _ (a k++[.loop N0 φ0 b]);have t:(((4*k:Nat):Int)+((min 4 (l.length-4*k):Nat):Int))=((4*k+min 4 (l.length-4*k):Nat):Int):=by omega
  refine bt rfl ?_ ?_
  .simp only[az,bD,aG,aE];omega
  refine AK.law (bM.OT tok rfl rfl rfl rfl (n:=l.length) (es:=cS.fn l) (tt:=ae) (λ_ _ r=>e9 r) rfl rfl rfl (by omega) (by omega) (by omega) (by omega)) rfl rfl ?_;have v:(uI l k).length=min 4 (l.length-4*k):=by simp[uI]
  refine iw.le (φ':=[(0,.e (.one (.ref d))),(19,.e (.one (.ref d))),(1,.e (.one (.c (.rp [Ry l])))),(2,.e (.one (.c (.rp [.int .i64 4])))),(4,dI (4*k:Nat)),(28,cS.sl (uI l k))]) ?_ (.cons rfl (.cons rfl (cD rfl ?_)))
  .have f:(a k++[aR.loop N0 φ0 b])[d]?=aa (.loop N0 φ0 b):=by grind
   rcases cM k m with g|g
   .refine AK.yield (rR k g h) rfl rfl rfl (N0:=N0) (φ0:=φ0) (r:=b) f rfl rfl λ_=>?_;exact aX [(30,ae)] rfl (by simp only[az,bD,jD,aG,aE];omega) ⟨k+1,by omega,by omega,.cons rfl (cD rfl (by simp only[az.cat,az,aG,aE];grind)),rfl⟩
   .obtain rfl:k=m:=by omega
    refine AK.yield (j8 h) rfl rfl rfl (N0:=N0) (φ0:=φ0) (r:=b) f rfl rfl λ_=>?_;refine aX [(30,ab)] rfl (by simp) ?_;exact AK.ret ⟨(),.inl rfl,(bl h).symm,by grind,[],.fa [],[],rfl,rfl,rfl,ay⟩
  .simp only[az.cat,az,aG,aE];have u:((4*k:Nat):Int).toNat=4*k:=by omega
   have q:(((4*k:Nat):Int)+((min 4 (l.length-4*k):Nat):Int)).toNat-((4*k:Nat):Int).toNat=(uI l k).length:=by grind
   refine⟨q,λi hi=>?_⟩;rw[q]at hi;rw[u];show cS.enc (l.getD (4*k+i) cS.cd)=cS.enc ((uI l k).getD i cS.cd);congr 1;simp only[uI,ak];grind
 .obtain rfl:k=m:=by omega
  refine aX [(9,ae)] rfl (by simp only[az,bS];omega) ?_;refine AK.EP rfl rfl ?_;exact⟨(),.inr rfl,(aY h).symm,by grind,[],.fa [],[],rfl,rfl,rfl,ay⟩
def Jd(k:Int)(s:bk)(l:List Bs)(j:Nat):Bool:=(og (cz s+j) k (uI l j)).2&&!(s.1.length+j==20)
def lJ(g:Nat->Bool):Nat->Nat->Nat
 |0,j=>j
 |f+1,j=>if g j=ab then lJ g f (j+1)else j
def p9(g:Nat->Bool):∀(f j:Nat),j<=lJ g f j/\lJ g f j<=j+f/\(∀i,j<=i->i<lJ g f j->g i=ab)/\(lJ g f j<j+f->g (lJ g f j)=ae)
 |0,j=>⟨bc _,bc _,λi b a=>absurd b (by simp only[lJ]at a;omega),λh=>absurd h (by simp[lJ])⟩
 |f+1,j=>by obtain⟨b,a,c,d⟩:=p9 g f (j+1);rw[lJ];grind
def kA(k:Int)(s:bk)(l:List Bs)(n:Nat):List bJ:=(bh n).map λj:Nat=>(og (cz s+j) k (uI l j)).1
theorem uJ(k:Int)(s:bk)(l:List Bs)(n:Nat):(kA k s l n).length=n:=by simp[kA]
def FX(k:Int)(s:bk)(l:List Bs)(n:Nat):kA k s l (n+1)=kA k s l n++[(og (cz s+(n:Nat)) k (uI l n)).1]:=by simp[kA,List.range_succ]
def uK{s:bk}(a:rX s):-4000000<=cz s/\cz s<=4000001:=by
 unfold cz;split
 .omega
 .rename_i h;have:=a.p _ (uz h (0,[]));omega
def tE(k:Int)(s:bk)(by_:Int)(t:List bw):bk×Option Bs :=
 let l:=dz k t (indexOf s.1);let m:=lJ (Jd k s l) ((l.length+3) / 4) 0
 if m<(l.length+3) / 4 then(([],[],[]),aa [112,97,99,107,115])
 else if 20<c6 s then(([],[],[]),aa [115,110,97,112,115,104,111,116,115])
 else if s.2.2.length=9 then(([],[],[]),aa [104,101,97,100,115])
 else((s.1++kA k s l m,s.2.1++[eJ (c6 s) k t],s.2.2++[(by_,c6 s)]),af)
def erE:Option Bs->E1
 |none=>.one (.c .iI)
 |some w=>.one (.c (.ifs 60 (.rp [.str w])))
def tSv(q:bk×Option Bs):D:=.fa [.agg [.c (Hc q.1.1),.c (Fy q.1.2.1),.c (Db q.1.2.2)],erE q.2]
abbrev svF(s:bk)(by_:Int)(t:List bw)(l:List Bs):Fr:=[(2,dI by_),(3,cF.sl t),(4,.e (.one (.ptr 2 0))),(5,.e (.one (.ptr 3 0))),(8,.e (.one (.ptr 4 0))),(9,.e (.one (.ptr 5 0))),(10,.e (.one (.ptr 9 0))),(11,.e (.one (.ptr 10 0))),(12,dI (c6 s)),(33,.e (.one (.c (.fn (.func 124) [] [.rp [Ry l],.rp [.int .i64 4]]))))]
abbrev Na(d a:aj×ah)(k:Int)(s:bk)(b:C)(ps:List bJ)(no:Int):List aR:=GB d a++[.cells 27 [.c (Hc s.1),.c (Fy s.2.1),.c (Db s.2.2)],.cells 3 [.c (.int .i64 k)],.cells 27 [gU,gU,gU],.cells 57 [.c b],
 .buf 67 2 ps.length (cP.fn ps),.buf 71 2 s.2.1.length (fi.fn s.2.1),.dead,.cells 27 [.bp 6 (.sl ps.length 2 0 ps.length),.bp 7 (.sl s.2.1.length 2 0 s.2.1.length),.c (Db s.2.2)],.cells 3 [.c (.int .i64 no)]]
def Nb{c b:aj×ah}{k:Int}{s:bk}{d a:C}{ps UJ:List bJ}{no no':Int}{N:Nat}{φ:Fr}{r r':Loop}(i:Nat)(B:aR)(hB:(Na c b k s d ps no++[.loop N φ r])[i]?=aa B):Ew 12 (Na c b k s a UJ no'++[.loop N φ r']) i B:=by
 rcases i with _|_|_|_|_|_|_|_|_|_|_|_|i<;>first
  |(cases hB;exact .inl ⟨_,_,rfl,rfl⟩)
  |(cases hB;exact .inr (.inr (.inl ⟨_,_,_,_,rfl,rfl⟩)))
  |(cases hB;exact .inr (.inr (.inr ⟨by grind,by grind⟩)))
  |(cases hB;done)
def Nc(d f:aj×ah)(k:Int)(s:bk)(by_:Int)(t:List bw)(hk:b7 k=ab)(n:lq s)(F:rX s)(E:cC t=ab)(P:(cV s.1).length<=100000)(J:rZ (indexOf s.1) (indexOf s.1).length=ab)(o:iQ s.2.2=ab)(T:by_=1∨by_=2)(K:1<=c6 s):
  Ev X 26 [po s,dI k,dI by_,cF.sl t] (GB d f) (tSv (tE k s by_ t)) (GB d f):=by
 obtain⟨r,a⟩:∃r,r=tE k s by_ t:=⟨_,rfl⟩;rw[<-a];unfold tE at a;simp only at a;refine(ef.OH (ι:=Unit) (σ':=λ_=>GB d f) (res:=λ_=>tSv r) Tryz.func26 rfl rfl rfl ?_).Cg
 refine jO.seq (AW.top (AK.of_code ?_));refine bt rfl ay ?_;refine jO.seq (AW.top (AK.of_code ?_));refine bt rfl ay ?_;refine AK.cQ (xR s n.p n.p2 n.sn n.s2 n.h) [] rfl ?_;refine bt rfl ay ?_;refine jO.seq (AW.top (AK.of_code ?_));refine AK.oX 8 rfl rfl rfl (by simp) (by simp;exact⟨ay,ay⟩) ?_;refine bt rfl ay ?_;refine AK.cQ (DW s n F) [] rfl ?_;refine bt rfl ay ?_;refine jO.seq (jO.seq (AW.top (AK.of_code ?_)));generalize Q:indexOf s.1=ix at *;have x:bL X [(12,pU [cP.sl s.1] (cH.sl ix)),(73,pU [cS.sl (dz k t ix),dI 4] (.e (.one (.c (.fn (.func 124) [] [.rp [Ry (dz k t ix)],.rp [.int .i64 4]])))))]:=.cons (rQ (Q▸DX s.1 n.p P)) (.cons (rQ (Je _)) .nil);have z:ix.length<=4000000:=by grind[uY]
 refine AK.calm jk [dI k,cF.sl t,.e (.one (.ptr 2 0)),cP.sl s.1,cH.sl ix,cS.sl (dz k t ix),.e (.one (.c (.fn (.func 124) [] [.rp [Ry (dz k t ix)],.rp [.int .i64 4]])))] 12 rfl rfl rfl rfl rfl ⟨OA.cZ tok x rfl,OA.cZ tok x rfl,OA.cZ tok x rfl,OA.cZ tok x rfl,
  OA.eval (ds:=[]) tok x rfl rfl,OA.UG (mW.qA (DT d f k t ix hk E J z).tQ [0,1] rfl rfl rfl rfl rfl rfl rfl (λ_=>rfl) rfl (λ_=>rfl)),OA.eval (ds:=[]) tok x rfl rfl,ay⟩ ?_
 refine bt rfl ay ?_;refine jO.block ?_;refine jO.norm (svF s by_ t (dz k t ix)) (Na d f k s .iI (s.1++kA k s (dz k t ix) 0) (cz s+(0:Nat))) rfl ?_ rfl ?_ ?_
 .simp
 .simp[kA];exactλi _=>rfl
 have B:∀p∈dz k t ix,bx p=ab:=(hO (dF E)).1;have G:(dz k t ix).length<=4000000:=iZ (hO (dF E)).2 (by decide);generalize dz k t ix=l at *;obtain⟨g1,g2,g3,g4⟩:=p9 (Jd k s l) ((l.length+3) / 4) 0;have B5:=n.p;generalize Z:lJ (Jd k s l) ((l.length+3) / 4) 0=m at *;refine jO.EH (capD:=fP [.rp [Ry l],.rp [.int .i64 4]]) (cu.callee rfl)
  (FY (lr':=?lr2) l G m (by omega) (λj=>Na d f k s .iI (s.1++kA k s l j) (cz s+(j:Nat))) (Na d f k s (.ifs 60 (.rp [.str [112,97,99,107,115]])) (s.1++kA k s l m) (cz s+(m:Nat))) (λj=>rfl) (λj=>rfl) rfl (λj W R=>?rR) λhs4=>?j8) λi=>?hk
 case j8 =>
  have A:Jd k s l m=ae:=g4 (by omega);have v:=vf (X:=X) d f (cz s+(m:Nat)) k (uI l m) (by have:=uK F;simp only[bD];omega) hk (λp L=>B p (rA (fM L))) (by simp[uI];omega);have D:=uJ k s l m;generalize V:og (cz s+(m:Nat)) k (uI l m)=q at *;refine Yields.sQ (rest:=λ_=>[.cells 67 [.c (.int .i64 q.1.1),.c (.sl ae 2 q.1.2.length (eg.fn q.1.2))],.dead]) (Yields.intro (j:=aa .ret) rfl rfl rfl rfl (AK.of_code ?_)) ?_ ?_
  .refine bt rfl ay ?_;refine⟨rfl,rfl,AK.of_code ?_⟩;refine bt rfl ay ?_;refine AK.cQ v [0,1] rfl ?_;have b:(s.1++kA k s l m).length=s.1.length+m:=by grind
   have g:q.2=ab->s.1.length+m=20:=λh=>by simpa[Jd,V,h]using A
   cases u:q.2 with
   |false =>
    refine aX [(44,ab),(49,ab),(1000007,ab)] rfl (by simp[u]) ?_;refine AK.region ?_;refine oK [] 3 rfl ay ?_;refine AK.s9 52 13 rfl rfl rfl ?_;refine bt rfl ay (AK.ret ?_);refine⟨rfl,rfl,(),gD rfl ?_⟩;simp only[az.cat,az,aG,aE];and_intros<;>first|exact cA.same|exact cA.nil|rfl
   |true =>
    have:=g u;refine aX [(44,ae),(49,ab),(1000007,ab)] rfl (by simp only[az,u,b];grind) ?_;refine AK.region ?_;refine oK [] 3 rfl ay ?_;refine AK.s9 52 13 rfl rfl rfl ?_;refine bt rfl ay (AK.ret ?_);refine⟨rfl,rfl,(),gD rfl ?_⟩;simp only[az.cat,az,aG,aE];and_intros<;>first|exact cA.same|exact cA.nil|rfl
  .exactλ_=>rfl
  .exactλ_=>Nb
 case rR =>
  have w:Jd k s l j=ab:=g3 j (kD _) W;have v:=vf (X:=X) d f (cz s+(j:Nat)) k (uI l j) (by have:=uK F;simp only[bD];omega) hk (λp L=>B p (rA (fM L))) (by simp[uI];omega);have D:=uJ k s l j;have hsu:=FX k s l j;obtain⟨q1,q2⟩:(og (cz s+(j:Nat)) k (uI l j)).2=ab/\¬s.1.length+j=20:=by simpa[Jd]using w
  generalize og (cz s+(j:Nat)) k (uI l j)=q at *;have b:(s.1++kA k s l j).length=s.1.length+j:=by grind
  have M:s.1++kA k s l (j+1)=(s.1++kA k s l j)++[q.1]:=by grind
  generalize s.1++kA k s l j=ps at *;refine Yields.sQ (rest:=λ_=>[.cells 67 [.c (.int .i64 q.1.1),.c (.sl ae 2 q.1.2.length (eg.fn q.1.2))]]) (Yields.intro (j:=af) rfl rfl rfl rfl (AK.of_code ?_)) ?_ ?_
  .refine bt rfl ay ?_;refine⟨rfl,rfl,AK.of_code ?_⟩;refine bt rfl ay ?_;refine AK.cQ v [0,1] rfl ?_;have O:=cP.cy ps q.1;have hb:=uK F;refine aX [(44,ae),(49,ae)] rfl ?_ ?_
   .simp only[az,bD,q1,show i67.bytes=32 from rfl,b,eD,dy,jD,aG,aE];omega
   refine⟨rfl,rfl,(),gD rfl ?_⟩;have H:(ps++[q.1]).length=ps.length+1:=by simp
   have I:cz s+(j:Int)+1=cz s+((j+1:Nat):Int):=by omega
   rw[M,H,<-I];simp only[az.cat,az,aG,aE];and_intros<;>first|exact cA.same|exact O|rfl
  .exactλ_=>rfl
  .exactλ_=>Nb
 case hk =>
  by_cases R:4*m<l.length
  .rw[bl R];refine⟨_,rfl,by simp,.ret,rfl,?_⟩;rw[bl (show m<(l.length+3) / 4 by omega)]at a;subst a;simp only[xc,CB];refine .freeze 8 4 rfl rfl rfl (.freeze 9 5 rfl rfl rfl (.of ⟨(),rE.cells tok [0,1] rfl ?_ rfl rfl rfl BG⟩));simp
  .rw[aY R];refine⟨_,rfl,by simp,.normal,rfl,?_⟩;rw[aY (show¬m<(l.length+3) / 4 by omega)]at a;show jO X _ _ _ _ _;refine AW.top (AK.of_code ?_);by_cases g:20<c6 s
   .rw[bl g]at a;subst a;refine aX [(63,ab),(1000011,ab)] rfl (by simp only[az,a9];omega) ?_;refine AK.region ?_;refine oK [] 3 rfl ay ?_;refine AK.s9 66 13 rfl rfl rfl ?_;refine bt rfl ay (AK.ret (.freeze 8 4 rfl rfl rfl (.freeze 9 5 rfl rfl rfl (.of ⟨(),rE.cells tok [0,1] rfl ?_ rfl rfl rfl BG⟩))));simp
   rw[aY g]at a;have N:s.2.2.length<=9:=by simp only[iQ,bR,a9]at o;omega
   refine aX [(63,ae)] rfl (by simp only[az,bS];omega) ?_;refine AK.cQ (FV d f (c6 s) k t ⟨K,by omega⟩ hk E) [0,1] rfl ?_;have O:=fi.cy s.2.1 (eJ (c6 s) k t);have S:=n.sn;refine aX [(1000014,ab)] rfl ?_ ?_
   .simp only[az,show i71.bytes=32 from rfl,aG,aE];omega
   refine AK.region ?_;refine bt rfl ay ?_;refine AK.cQ (FZ s.2.2 (by_,c6 s) o (by simp only[gR,bR,a9];omega) N) [] rfl ?_;by_cases C:s.2.2.length=9
   .rw[bl C]at a;subst a;refine aX [(91,ab),(1000016,ab)] rfl (by simp[C]) ?_;refine AK.region ?_;refine oK [] 3 rfl ay ?_;refine AK.s9 94 14 rfl rfl rfl ?_;refine bt rfl ay (AK.ret (.freeze 8 4 rfl rfl rfl (.freeze 9 5 rfl rfl rfl (.of ⟨(),rE.cells tok [0,1] rfl ?_ rfl rfl rfl BG⟩))));simp
   .rw[aY C]at a;subst a;simp only[aY C];refine aX [(91,ae),(1000018,ab)] rfl (by simp[C]) ?_;have D:(s.1++kA k s l m).length=s.1.length+m:=by grind[uJ]
    generalize s.1++kA k s l m=ps at *;generalize U:s.2.1++[eJ (c6 s) k t]=sw at *;have y:sw.length=s.2.1.length+1:=by grind
    generalize Y:s.2.2++[(by_,c6 s)]=hw at *;refine AK.CI (φ':=[(8,.e (.one (.ptr 4 0))),(9,.e (.one (.ptr 5 0))),(10,.e (.one (.ptr 9 0)))]) (σ':=GB d f++[.cells 27 [.c (Hc s.1),.c (Fy s.2.1),.c (Db s.2.2)],.cells 3 [.c (.int .i64 k)],.cells 27 [gU,gU,gU],.cells 57 [.c .iI],.buf 67 2 ps.length (cP.fn ps),.buf 71 2 sw.length (fi.fn sw),.dead,.cells 27 [.bp 6 (.sl ps.length 2 0 ps.length),.bp 7 (.sl sw.length 2 0 sw.length),.c (Db hw)],.cells 3 [.c (.int .i64 (cz s+(m:Nat)))],.dead,.qY,.cells 71 [.c (.int .i64 (eJ (c6 s) k t).1),.c (.sl ae 2 (eJ (c6 s) k t).2.length (cL.fn (eJ (c6 s) k t).2))]]) ?_ rfl ?_ rfl ?_
    .refine AK.oX 6 rfl rfl rfl (by simp) (by simp) ?_;refine AK.oX 7 rfl rfl rfl (by simp) (by simp) ?_;refine bt rfl ay (AK.ret (.freeze 8 4 rfl rfl rfl (.freeze 9 5 rfl rfl rfl (.of ⟨(),rE.cells tok [0,1] rfl ?_ rfl rfl rfl BG⟩))));simp[rF]
    .simp
    .simp only[az.cat,az,y,aG,aE];and_intros<;>first|exact cA.same|exact O|rfl
def lk:List (Int×Int)->C
 |[]=>.fz
 |h::t=>.rp [.int .i64 h.1,.int .i64 h.2,lk t]
abbrev Xq(l:List (Int×Int)):C:=.sl ae 2 l.length (cH.fn l)
def Qv(l:List (Int×Int)):Ev X 149 [cH.sl l] [] (.e (.one (.c (.fn (.func 188) [] [.rp [Xq l]])))) []:=by refine Ev.bQ Tryz.func149 rfl λa=>?_;refine oK [] 5 rfl ay ?_;refine AK.freeze 1 0 rfl rfl rfl ?_;refine bt rfl ay (AK.bz rfl ?_);rfl
def Jo(l:List (Int×Int))(f:l.length<=4000000){N0:Nat}{φ0:Fr}{a:Loop}{b:aR}(B:Nat->aR)(d:b=B l.length)(hB:∀t,B t≠.qY)(rR:∀i,i<l.length->Yields (ι:=Unit) X 1 [dI i,.e (.agg [.c (.int .i64 (l.getD i (0,0)).1),.c (.int .i64 (l.getD i (0,0)).2)])] [B (i+1),.loop N0 φ0 a] ab (λ_=>[B i,.loop N0 φ0 a])):
  ef (ι:=Unit) X 188 [.e (.one (.ref 1)),.e (.one (.c (.rp [Xq l])))] [b,.loop N0 φ0 a] (λ_=>.fa []) (λ_=>[B 0,.loop N0 φ0 a]):=by
 subst d;refine ef.EL Tryz.func188 rfl rfl rfl (AK.of_code ?_);refine bt rfl (by simp only[az,bD,aG,aE];omega) ?_;show AW X _ (.loop _) _ _ _;refine AW.loop (S:=Nat) (λk=>k<=l.length) (λk=>[(0,.e (.one (.ref 1))),(1,.e (.one (.c (.rp [Xq l])))),(3,dI ((k:Int)-1))]) (λk=>[B k,.loop N0 φ0 a]) (λk=>k) l.length (bc _) (cD rfl (by simp)) rfl ?_;intro k hk;rcases k with _|i
 .refine AK.of_code ?_;refine aX [(8,ae)] rfl (by simp) ?_;refine AK.EP rfl rfl ?_;exact⟨(),.inr rfl,rfl,mn (hB 0) (mn (by simp) rfl),[],.fa [],[],rfl,rfl,rfl,ay⟩
 .have e:(((i+1:Nat):Int)-1)=(i:Int):=by omega
  rw[e];refine AK.of_code ?_;refine aX [(8,ab)] rfl ?_ ?_
  .simp only[az,a9,aG,aE];omega
  refine AK.yield (rR i hk) rfl rfl rfl rfl rfl rfl λ_=>?_;refine aX [(18,ae)] rfl ?_ ?_
  .simp only[az,bD,jD,aG,aE];omega
  exact⟨i,by omega,by omega,cD rfl (by simp),rfl⟩
def zS{l:List (Int×Int)}{i:Nat}(h:i<l.length):l.drop i=l.getD i (0,0)::l.drop (i+1):=by grind[List.drop_eq_getElem_cons]
def zR(l:List (Int×Int))(f:l.length<=4000000):Ev X 101 [cH.sl l] [] (.e (.one (.c (lk l)))) []:=by
 refine(ef.AH (ι:=Unit) (σ':=λ_=>[]) (res:=λ_=>.e (.one (.c (lk l)))) Tryz.func101 rfl rfl rfl λd=>?_).Cg;have b:bL X [(149,pU [cH.sl l] (.e (.one (.c (.fn (.func 188) [] [.rp [Xq l]])))))]:=.cons (rQ (Qv l)) .nil;refine jO.seq (AW.top (AK.of_code ?_));refine b8 b rfl ay ?_;refine jO.seq (AW.top (AK.of_code ?_));refine b8 b rfl ay ?_;refine jO.seq (jO.seq (AW.top (AK.of_code ?_)));refine b8 b rfl rfl ?_;refine jO.block ?_;have a:lk (l.drop l.length)=.fz:=by rw[qp];rfl
 refine jO.rangeFunc (capD:=fP [.rp [Xq l]]) (cu.callee rfl) (Jo l f (λi=>.cells 162 [.c (lk (l.drop i))]) (by rw[a];rfl) (by simp) ?_) (λi=>⟨rfl,by simp⟩) λi=>⟨.normal,rfl,?_⟩
 .intro i hi;refine Yields.sQ (rest:=λ_=>[.cells 48 [.c (.int .i64 (l.getD i (0,0)).1),.c (.int .i64 (l.getD i (0,0)).2)],.dead]) ?_ (λ_=>rfl) (λ_ j B hB=>?_)
  .rw[zS hi];generalize l.drop (i+1)=r;cases r<;>(
    refine Yields.intro (j:=af) rfl rfl rfl rfl (AK.of_code ?_);refine bt rfl ay ?_;refine⟨rfl,rfl,AK.of_code ?_⟩;refine oK [] 1 rfl ay ?_;refine AK.region ?_;refine oK [] 4 rfl ay ?_;refine AK.s9 13 3 rfl rfl rfl ?_;refine bt rfl ay ?_;refine⟨rfl,rfl,(),gD rfl ?_⟩;simp[lk])
  .match j,hB with
   |0,hB=>cases hB;exact .inl ⟨_,_,rfl,rfl⟩
   |1,hB=>exact .inr (.inl hB)
   |j+2,hB=>simp at hB
 .show jO X _ _ _ _ _;refine AW.top (AK.of_code ?_);rw[List.drop_zero];cases l<;>(
   refine bt rfl ay ?_;refine AK.ret ⟨(),cw.zero rfl ?_⟩;simp[lk])
end
def mF{α b:Type}{f:α->List b}{n:Nat}:∀{l:List α},(∀x∈l,(f x).length<=n)->(l.flatMap f).length<=n*l.length
 |[],_=>by simp
 |x::l,h=>by have d:=h x lB;have c:=mF (l:=l) λy a=>h y (pq _ a);grind[Nat.mul_succ]
def FP{x:fe}(h:x.2.length<=6/\∀y∈x.2,y.2.length<=40):(we x.2).length<=240:=by have:=mF (f:=λy:js=>y.2) (n:=40) h.2;unfold we;omega
abbrev cTr:List (Nat×dv):=[(53,uk)]
def FL(k:Int)(s:bk)(t:NR s):Ev (Cx.beside ag) 57 [po s,dI k] [] (dB ((bh s.2.1.length).all (ko k s))) []:=by
 refine Ev.bQ Tryz.func57 rfl λx=>?_;have w:=t.sN;have q:=t.sm;have c:bL (Cx.beside ag) cTr:=.cons zj .nil;refine b8 c rfl ay ?_;refine AK.cE 1 (λi=>i<=s.2.1.length/\∀j,j<i->ko k s j=ab) (λi:Nat=>[(1,dI k),(2,.e (.one (.ptr 0 0))),(10,fi.sl s.2.1),(11,dI s.2.1.length),(12,dI i)]) (λ_=>[Ju s]) (λi=>s.2.1.length-i) 0 rfl (by simp) rfl (by simp) rfl ⟨by omega,by omega⟩ ?_;rintro i ⟨hi,b⟩;by_cases h:i<s.2.1.length
 .have n:s.2.1.getD i fi.cd=s.2.1.getD i (0,[]):=rfl;have o:s.2.1.getD (i-1) fi.cd=s.2.1.getD (i-1) (0,[]):=rfl;have a:ko k s i=(decide (1<=(s.2.1.getD i (0,[])).1/\(s.2.1.getD i (0,[])).1<=20)&&Dr (·.1) (0,[]) s.2.1 i&&(cg k (s.2.1.getD i (0,[])) s.1).isSome):=rfl;have r:=qP (f:=λp:fe=>p.1) (d:=(0,[])) (l:=s.2.1) (i:=i);have m:=q _ (l7 (d:=(0,[])) h);generalize s.2.1.getD i (0,[])=p at *;generalize s.2.1.getD (i-1) (0,[])=p' at *;by_cases c1:1<=p.1
  rotate_left
  .refine aW c [(13,ab),(20,ab),(25,ab),(40,ab)] rfl ?_ (AK.fQ (cw.zero rfl ?_))
   .simp[-ak,n];omega
   .rw[iP h (by grind)];simp
  by_cases c2:p.1<=20
  rotate_left
  .refine aW c [(13,ab),(20,ae),(25,ab),(40,ab)] rfl ?_ (AK.fQ (cw.zero rfl ?_))
   .simp[-ak,n];omega
   .rw[iP h (by grind)];simp
  rw[dc ⟨c1,c2⟩,fO]at a;by_cases u:i=0
  .subst u;rw[show Dr (·.1) (0,[]) s.2.1 0=ab from rfl,fO]at a;cases g:(cg k p s.1).isSome with
   |false =>
    refine aW c [(13,ab),(20,ae),(25,ae),(27,ae),(40,ae),(50,ab)] rfl ?_ (AK.fQ (cw.zero rfl ?_))
    .simp[-ak,n,bD,cL.list_fn,cL.aO,cP.list_fn,cP.aO,g,m.1];and_intros<;>first|omega|grind
    .rw[iP h (a.trans g)];simp
   |true =>
    refine aW c [(13,ab),(20,ae),(25,ae),(27,ae),(40,ae),(50,ae)] rfl ?_ (AK.aQ 1 rfl (by simp) (by simp) ⟨h,kn b (a.trans g)⟩ (by omega));simp[-ak,n,bD,cL.list_fn,cL.aO,cP.list_fn,cP.aO,g,m.1];and_intros<;>first|omega|grind
  rw[r u]at a;by_cases v:p'.1<p.1
  rotate_left
  .refine aW c [(13,ab),(20,ae),(25,ae),(28,ab),(38,ab),(40,ab)] rfl ?_ (AK.fQ (cw.zero rfl ?_))
   .simp[-ak,n,o,bD];omega
   .rw[iP h (by grind)];simp
  rw[dc v,fO]at a;cases g:(cg k p s.1).isSome with
  |false =>
   refine aW c [(13,ab),(20,ae),(25,ae),(28,ab),(38,ae),(40,ae),(50,ab)] rfl ?_ (AK.fQ (cw.zero rfl ?_))
   .simp[-ak,n,o,bD,cL.list_fn,cL.aO,cP.list_fn,cP.aO,g,m.1];and_intros<;>first|omega|grind
   .rw[iP h (a.trans g)];simp
  |true =>
   refine aW c [(13,ab),(20,ae),(25,ae),(28,ab),(38,ae),(40,ae),(50,ae)] rfl ?_ (AK.aQ (i+1) rfl (by simp) (by simp) ⟨h,kn b (a.trans g)⟩ (by omega));simp[-ak,n,o,bD,cL.list_fn,cL.aO,cP.list_fn,cP.aO,g,m.1];and_intros<;>first|omega|grind
 obtain rfl:i=s.2.1.length:=by omega
 rw[dE.2 b];refine aW c [(13,ae)] rfl (by simp) (AK.leaveD rfl rfl ?_);exact b8 c rfl ay (AK.bz rfl)
def yL(k:Int)(s:bk):fI k s=(b7 k&&zA k s&&(bh s.2.1.length).all (ko k s)&&iQ s.2.2):=by unfold fI zA;cases(bh s.1.length).all (mz k s.1)<;>cases decide (bE s.1).Nodup<;>cases(bh s.2.1.length).all (ko k s)<;>cases b7 k<;>cases iQ s.2.2<;>cases decide (s.1.length<=20)<;>rfl
abbrev TN:dv:=pj S5 aI (λs k=>dB (zA k s)) λs k=>[b7 k=ab,NR s]
abbrev TO:dv:=pj S5 aI (λs k=>dB ((bh s.2.1.length).all (ko k s))) λs _=>[NR s]
def Dv(k:Int)(s:bk)(e:NR s):Ev (Cx.beside ag) 18 [dI k,po s] [] (dB (fI k s)) []:=by
 refine Ev.bQ Tryz.func18 rfl λi=>?_;have c:bL (Cx.beside ag) [(49,Mm),(40,kL aI (λk=>dB (b7 k)) λ_=>[]),(56,TN),(57,TO),(54,oM)]:=.cons TM (.cons t40 (.cons (.tf λs k h=>FJ k s h.1 h.2) (.cons (.tf λs k h=>FL k s h) (.cons wh .nil))));have b:=cP.list_fn s.1;have d:=fi.list_fn s.2.1;have a:=cH.list_fn s.2.2;rw[yL];cases hk:b7 k
 .exact aW c [(10,ae),(15,ae),(20,ae)] rfl (by simp[hk,b,d,a,cP.aO,fi.aO,cH.aO]) (AK.bz rfl)
 cases f:zA k s
 .exact aW c [(10,ab),(15,ae),(20,ae)] rfl (by simp[hk,b,d,a,cP.aO,fi.aO,cH.aO,e,f]) (AK.bz rfl)
 cases g:(bh s.2.1.length).all (ko k s)
 .exact aW c [(10,ab),(15,ab),(20,ae)] rfl (by simp[-bC,-List.all_eq_false,hk,b,d,a,cP.aO,fi.aO,cH.aO,e,f,g]) (AK.bz rfl)
 exact aW c [(10,ab),(15,ab),(20,ab)] rfl (by simp[-bC,-List.all_eq_false,hk,b,d,a,cP.aO,fi.aO,cH.aO,e,f,g]) (AK.bz rfl (by simp[a]))
abbrev ux:dv:=pj aI S5 (λk s=>dB (fI k s)) λ_ s=>[NR s]
def zB:er (Cx.beside ag) 18 ux:=.tf λk s h=>Dv k s h
abbrev Xj(b a:aj×ah):List aR:=GB b a++[GBE]
def nc(k:Int)(s:bk)(by_:Int)(t:List bw):bk×Bool :=
 if fI k s=ab/\(by_=1∨by_=2)/\cC t=ab then(match(tE k s by_ t).2 with|none=>((tE k s by_ t).1,ab)|some _=>(s,ae))else(([],[],[]),ae)
structure BL(k:Int)(s:bk):Prop where
 hk:b7 k=ab
 sp:(cV s.1).length<=100000
 ix:rZ (indexOf s.1) (indexOf s.1).length=ab
 log:iQ s.2.2=ab
 sn:1<=c6 s
def tF:∀j,j<3->([0,1,2]:List Nat)[j]?=aa j:=by decide
def Ng{X:Cx ag}(v:ah):Ev X 27 [.e (.one (.c .iI)),NS v] [] (dB ae) []:=by refine Ev.bQ Tryz.func27 rfl λa=>?_;refine bt rfl ay ?_;refine AK.law (Fb rfl Tryz.underlying57 rfl rfl rfl) rfl rfl ?_;exact aX [(9,ab)] rfl (by simp) (AK.bz rfl)
def yO(d i:aj×ah)(k:Int)(s:bk)(by_:Int)(t:List bw)(j:lq s)(l:NR s)(E:rX s)(H:bD .i64 by_)(y:fI k s=ab->BL k s):
  Ev (Cx.beside ag) 7 [dI k,po s,dI by_,cF.sl t] (Xj d i) (ZL (nc k s by_ t).1 (nc k s by_ t).2) (Xj d i):=by
 refine Ev.rj tok Tryz.func7 rfl rfl rfl λG=>?_;have a:bL (Cx.beside ag) [(18,ux),(25,W1)]:=.cons zB (.cons t25 .nil);by_cases f:fI k s=ab
 .by_cases o:by_=1∨by_=2
  .by_cases n:cC t=ab
   .have e:nc k s by_ t=(match(tE k s by_ t).2 with|none=>((tE k s by_ t).1,ab)|some _=>(s,ae)):=bl ⟨f,o,n⟩;rw[e];obtain⟨D,z,F,B,A⟩:=y f;have r:=Nc (X:=Cx.beside ag) d i k s by_ t D j E n z F B o A;apply AK.join [(0,dI k),(2,dI by_),(3,cF.sl t),(5,.e (.one (.ptr 3 0))),(8,.e (.one (.ptr 4 0)))] (Xj d i++[.cells 27 [.c (Hc s.1),.c (Fy s.2.1),.c (Db s.2.2)],.cells 27 [gU,gU,gU]])
    .intro out;rcases o with rfl|rfl
     .refine bn a [(17,ae),(20,ae),(25,ae),(29,ae),(1000003,ab)] rfl ?_ (out _ _ rfl ?_)
      .simp only[az,cP.list_fn,fi.list_fn,cH.list_fn,cF.list_fn,f,ib,n];and_intros<;>first|rfl|exact True.intro|exact cP.aO _|exact fi.aO _|exact cH.aO _|exact cF.aO _|exact l
      .simp
     .refine bn a [(17,ae),(20,ab),(25,ae),(29,ae),(1000003,ab)] rfl ?_ (out _ _ rfl ?_)
      .simp only[az,cP.list_fn,fi.list_fn,cH.list_fn,cF.list_fn,f,ib,n];and_intros<;>first|rfl|exact True.intro|exact cP.aO _|exact fi.aO _|exact cH.aO _|exact cF.aO _|exact l
      .simp
    have u:∀v:ah,Ev (Cx.beside ag) 27 [.e (.one (.c .iI)),NS v] [] (dB ae) []:=λv=>Ng v;generalize tE k s by_ t=q at *;obtain⟨x,C⟩:=q;cases C with
    |none =>
     have b:Ev (Cx.beside ag) 26 [po s,dI k,dI by_,cF.sl t] (GB d i) (.fa [.agg [.c (Hc x.1),.c (Fy x.2.1),.c (Db x.2.2)],.one (.c .iI)]) (GB d i):=r;refine cG a rfl ay ?_;refine AK.cQ b [0,1] rfl ?_;refine bn a [(1000005,ab)] rfl ay ?_;refine AK.GF 12 6 rfl rfl λg=>?_;refine cG a rfl ay ?_;refine AK.QI 40 rfl ?_;refine AK.cQ (u _) [] rfl ?_;refine bn a [(41,ae)] rfl (by simp) ?_;refine AK.lO () [0,1,2] rfl rfl rfl rfl rfl rfl rfl rfl rfl ?_ rfl rfl rfl rfl tF;simp
    |some w =>
     have b:Ev (Cx.beside ag) 26 [po s,dI k,dI by_,cF.sl t] (GB d i) (.fa [.agg [.c (Hc x.1),.c (Fy x.2.1),.c (Db x.2.2)],.one (.c (.ifs 60 (.rp [.str w])))]) (GB d i):=r;refine cG a rfl ay ?_;refine AK.cQ b [0,1] rfl ?_;refine bn a [(1000005,ab)] rfl ay ?_;refine AK.GF 12 6 rfl rfl λg=>?_;refine AK.Si 11 rfl λp=>?_;refine cG a rfl ay ?_;refine AK.QI 40 rfl ?_;refine AK.cQ (Nf p g) [2,6] rfl ?_;refine bn a [(41,ab)] rfl (by simp) ?_;refine AK.cQ (xQ s j.p j.p2 j.sn j.s2 j.h) [] rfl ?_;refine Z0 a [] 2 rfl ay ?_;refine AK.KU ?_;refine AK.oX 7 rfl rfl rfl (by simp) (by simp) ?_;refine AK.oX 8 rfl rfl rfl (by simp) (by simp) ?_;refine AK.lO () [0,1,2] rfl rfl rfl rfl rfl rfl rfl rfl rfl ?_ rfl rfl rfl rfl tF;simp[rF]
   .have e:nc k s by_ t=(([],[],[]),ae):=aY λh=>n h.2.2;rw[e];have m:cC t=ae:=by grind
    rcases o with rfl|rfl
    .refine bn a [(17,ae),(20,ae),(25,ae),(29,ab)] rfl ?_ ?_
     .simp only[az,cP.list_fn,fi.list_fn,cH.list_fn,cF.list_fn,f,ib,m];and_intros<;>first|rfl|exact True.intro|exact cP.aO _|exact fi.aO _|exact cH.aO _|exact cF.aO _|exact l
     refine AK.lO () [0,1,2] rfl rfl rfl rfl rfl rfl rfl rfl rfl ?_ rfl rfl rfl rfl tF;simp
    .refine bn a [(17,ae),(20,ab),(25,ae),(29,ab)] rfl ?_ ?_
     .simp only[az,cP.list_fn,fi.list_fn,cH.list_fn,cF.list_fn,f,ib,m];and_intros<;>first|rfl|exact True.intro|exact cP.aO _|exact fi.aO _|exact cH.aO _|exact cF.aO _|exact l
     refine AK.lO () [0,1,2] rfl rfl rfl rfl rfl rfl rfl rfl rfl ?_ rfl rfl rfl rfl tF;simp
  .have e:nc k s by_ t=(([],[],[]),ae):=aY λh=>o h.2.1;rw[e];refine bn a [(17,ae),(20,ab),(25,ab),(29,ab)] rfl ?_ ?_
   .simp only[az,cP.list_fn,fi.list_fn,cH.list_fn,f,jD,lV,dy];and_intros<;>first|rfl|exact True.intro|exact cP.aO _|exact fi.aO _|exact cH.aO _|exact l|grind
   refine AK.lO () [0,1,2] rfl rfl rfl rfl rfl rfl rfl rfl rfl ?_ rfl rfl rfl rfl tF;simp
 .have e:nc k s by_ t=(([],[],[]),ae):=aY λh=>f h.1;rw[e];refine bn a [(17,ab),(25,ab),(29,ab)] rfl ?_ ?_
  .simp only[az,cP.list_fn,fi.list_fn,cH.list_fn];and_intros<;>first|rfl|exact True.intro|exact cP.aO _|exact fi.aO _|exact cH.aO _|exact l|grind
  refine AK.lO () [0,1,2] rfl rfl rfl rfl rfl rfl rfl rfl rfl ?_ rfl rfl rfl rfl tF;simp
section
variable {X:Cx ag}[X.hU]
def jc(k:Int)(s:bk)(by_:Int)(t:List bw):bk×Bool :=
 if fI k s=ab/\(1<=by_/\by_<=2)/\cC t=ab then(if fW k s t=ab then s else c9 k s by_ t,!fW k s t)else(([],[],[]),ae)
def yQ(k:Int)(s:bk)(by_:Int)(t:List bw)(a:lq s)(o:rX s)(i:fI k s=ab->BL k s):
  Ev X 6 [dI k,po s,dI by_,cF.sl t] [] (ZL (jc k s by_ t).1 (jc k s by_ t).2) []:=by
 refine Ev.rj tok Tryz.func6 rfl rfl rfl λu=>?_;have g:bL X [(9,zz),(23,Dc),(10,WK)]:=.cons IV (.cons Fz (.cons t10 .nil));by_cases b:fI k s=ab
 .by_cases d:1<=by_/\by_<=2
  .by_cases c:cC t=ab
   .have e:jc k s by_ t=(if fW k s t=ab then s else c9 k s by_ t,!fW k s t):=bl ⟨b,d,c⟩;rw[e];obtain⟨m,n,w,x,y⟩:=i b;have q:∀p∈s.1,0<p.2.length:=λp r=>((iR.1 b).pk p r).len.1;cases f:fW k s t with
    |true =>
     refine bn g [(14,ae),(19,ae),(23,ae)] rfl ?_ ?_
     .simp only[az,cP.list_fn,fi.list_fn,cH.list_fn,cF.list_fn,b,ib,c,d,jV];and_intros<;>first|rfl|exact True.intro|exact cP.aO _|exact fi.aO _|exact cH.aO _|exact cF.aO _|exact a.s2|exact a.p|exact a.sn
     refine AK.cP (r5 k s by_ t m a o (dF c) n q f) [] rfl (λ_=>rfl) λ_=>?_;refine dm rfl ay ?_;refine AK.lO () [] rfl rfl rfl rfl rfl rfl rfl rfl rfl ?_ rfl rfl rfl rfl xG;simp
    |false =>
     refine AK.spare 67 2 ?_;refine bn g [(14,ae),(19,ae),(23,ae)] rfl ?_ ?_
     .simp only[az,cP.list_fn,fi.list_fn,cH.list_fn,cF.list_fn,b,ib,c,d,jV];and_intros<;>first|rfl|exact True.intro|exact cP.aO _|exact fi.aO _|exact cH.aO _|exact cF.aO _|exact a.s2|exact a.p|exact a.sn
     refine AK.cP (yo k s by_ t m a o (dF c) n q f) [0] rfl (λ_=>rfl) λv=>?_;refine dm rfl ay ?_;refine AK.rO 0 2 0 (E:=67) (k:=2) (cl:=Hc (c9 k s by_ t).1) (by decide) rfl rfl rfl (λ_ h=>h) ?_;refine AK.lO () [] rfl rfl rfl rfl rfl rfl rfl rfl rfl ?_ rfl rfl rfl rfl xG;simp
   .have e:jc k s by_ t=(([],[],[]),ae):=aY λh=>c h.2.2;rw[e];have j:cC t=ae:=by grind
    refine bn g [(14,ae),(19,ae),(23,ab)] rfl ?_ ?_
    .simp only[az,cP.list_fn,fi.list_fn,cH.list_fn,cF.list_fn,b,ib,j,d,jV];and_intros<;>first|rfl|exact True.intro|exact cP.aO _|exact fi.aO _|exact cH.aO _|exact cF.aO _|exact a.s2|exact a.p|exact a.sn
    refine AK.lO () [] rfl rfl rfl rfl rfl rfl rfl rfl rfl ?_ rfl rfl rfl rfl xG;simp
  .have e:jc k s by_ t=(([],[],[]),ae):=aY λh=>d h.2.1;rw[e];refine bn g [(14,ae),(19,ab),(23,ab)] rfl ?_ ?_
   .simp only[az,cP.list_fn,fi.list_fn,cH.list_fn,b,d,kS];and_intros<;>first|rfl|exact True.intro|exact cP.aO _|exact fi.aO _|exact cH.aO _|exact a.s2|exact a.p|exact a.sn
   refine AK.lO () [] rfl rfl rfl rfl rfl rfl rfl rfl rfl ?_ rfl rfl rfl rfl xG;simp
 .have e:jc k s by_ t=(([],[],[]),ae):=aY λh=>b h.1;rw[e];have l:fI k s=ae:=by grind
  refine bn g [(14,ab),(19,ab),(23,ab)] rfl ?_ ?_
  .simp only[az,cP.list_fn,fi.list_fn,cH.list_fn,l];and_intros<;>first|rfl|exact True.intro|exact cP.aO _|exact fi.aO _|exact cH.aO _|exact a.s2|exact a.p|exact a.sn
  refine AK.lO () [] rfl rfl rfl rfl rfl rfl rfl rfl rfl ?_ rfl rfl rfl rfl xG;simp
end
def yp{k:Int}{l:List cn}:∀(ps a:List Bs),a.Nodup->(ps.foldl (im k l) a).Nodup
 |[],a,h=>h
 |p::ps,a,h=>by rw[jC];refine yp ps _ ?_;unfold im;grind
def nB(k:Int)(t:List bw)(l:List cn):(dz k t l).Nodup:=yp _ _ List.nodup_nil
theorem uM{l:List bo}{x y:bo}:y∈gC l x↔y=x∨y∈l:=by
 induction l with
 |nil=>simp[gC]
 |cons a r b=>simp only[gC];split<;>simp[b,or_left_comm,or_assoc]
def Nh{l:List bo}{x:bo}(h:l.Pairwise λa b=>a.1<b.1)(c:∀y∈l,y.1≠x.1):(gC l x).Pairwise λa b=>a.1<b.1:=by
 induction l with
 |nil=>simp[gC]
 |cons a r f =>
  obtain⟨d,g⟩:=jB.1 h;have e:=c a lB;simp only[gC];grind[List.pairwise_cons,uM]
def Ni:∀(l a:List bo),a.Pairwise (λx y=>x.1<y.1)->l.Pairwise (λx y=>x.1≠y.1)->(∀x∈l,∀y∈a,y.1≠x.1)->(l.foldl gC a).Pairwise λx y=>x.1<y.1
 |[],_,h,_,_=>h
 |x::l,a,h,b,c=>by obtain⟨d1,d2⟩:=jB.1 b;refine Ni l _ (Nh h (c x lB)) d2 λz d y e=>?_;grind[uM]
theorem wm(k:Int)(qs:List Bs):o0 k qs=(qs.map (ku k)).foldl gC []:=by unfold o0;rw[List.foldl_map];rfl
theorem BN{k:Int}{qs:List Bs}(hk:b7 k=ab)(d:∀q∈qs,bx q=ab)(f:qs.Nodup):(qs.map (ku k)).Pairwise λx y=>x.1≠y.1:=by rw[List.pairwise_map];refine List.Pairwise.imp_of_mem (λ{a b} g h c e=>c ?_) f;exact qQ hk (d a g) (d b h) e
theorem D1{no k:Int}{qs:List Bs}(hk:b7 k=ab)(c:∀q∈qs,bx q=ab)(a:qs.Nodup)(b:qs.length<=4):zN no k qs=gj no k qs:=by
 show(no,m6 (qs.map (ku k)))=(no,o0 k qs)
 grind[LI,BN,wm]
theorem qa{no k:Int}{qs:List Bs}(hk:b7 k=ab)(b:∀q∈qs,bx q=ab)(e:qs.Nodup)(g:1<=qs.length)(f:qs.length<=4):gx k (gj no k qs)=decide (1<=no/\no<=99):=by
 have c:(o0 k qs).length=qs.length:=tm k qs;rw[qt,oN,a9];constructor
 .exactλh=>h.no
 .intro h;refine⟨h,hk,by show 1<=(o0 k qs).length/\_;rw[show(gj no k qs).2=o0 k qs from rfl];omega,λx d=>?_,?_⟩
  .obtain⟨p,a,rfl⟩:=Pw (show x∈o0 k qs from d);have:=Dx (b p a);simp[right,this]
  .show (o0 k qs).Pairwise _;rw[wm];exact Ni _ _ List.Pairwise.nil (BN hk b e) (by simp)
def oT(k:Int):∀(f:Nat) (no:Int)(l:List Bs),l.length<=f->eb k f no l=(bh ((l.length+3) / 4)).map λj:Nat=>gj (no+j) k (uI l j)
 |0,no,l,h=>by
  have:l.length=0:=by omega
  simp[eb,this]
 |f+1,no,l,h=>by
  simp only[eb];by_cases a:0<l.length
  .rw[bl a,oT k f (no+1) (l.drop 4) (by grind)];have e:(l.length+3) / 4=((l.drop 4).length+3) / 4+1:=by grind
   rw[e,vE,qu,List.map_map];congr 1
   .simp[uI]
   .refine qh λj _=>?_;show gj (no+1+(j:Nat)) k (((l.drop 4).drop (4*j)).take 4)=gj (no+((j+1:Nat):Int)) k ((l.drop (4*(j+1))).take 4);grind[List.drop_drop]
  grind
def F4{l:List Bs}(b:∀q∈l,bx q=ab)(a:l.Nodup){j:Nat}(d:j<(l.length+3) / 4):(∀q∈uI l j,bx q=ab)/\(uI l j).Nodup/\1<=(uI l j).length/\(uI l j).length<=4 :=
 ⟨λq c=>b q (rA (fM c)),(a.sublist (List.drop_sublist _ _)).sublist (List.take_sublist _ _),by simp[uI];omega,by simp[uI];omega⟩
def Nj{k:Int}{s:bk}{l:List Bs}(hk:b7 k=ab)(c:∀q∈l,bx q=ab)(a:l.Nodup){j:Nat}(b:j<(l.length+3) / 4):Jd k s l j=(decide (1<=cz s+(j:Int)/\cz s+(j:Int)<=99)&&!(s.1.length+j==20)):=by obtain⟨c1,c2,c3,c4⟩:=F4 c a b;unfold Jd og;grind[D1,qa]
def Ql{k:Int}{s:bk}{l:List Bs}(hk:b7 k=ab)(b:∀q∈l,bx q=ab)(c:l.Nodup)(e:∀j,j<(l.length+3) / 4->Jd k s l j=ab):kA k s l ((l.length+3) / 4)=eb k l.length (cz s) l:=by
 rw[oT k _ _ _ (bc _)];refine qh λj a=>?_;have a:=mM.1 a;obtain⟨c1,c2,c3,c4⟩:=F4 b c a;have d:=e j a;have f:gx k (gj (cz s+(j:Int)) k (uI l j))=ab:=by rw[qa hk c1 c2 c3 c4];rw[Nj hk b c a]at d;grind
 unfold og;rw[D1 hk c1 c2 c4,bl f]
def jJ.cz{k:Int}{s:bk}(h:jJ k s):1<=cz s/\cz s<=100:=by
 unfold R1.cz;split
 .omega
 .rename_i a;have:=(h.pk _ (uz a (0,[]))).no;omega
def F5(k:Int)(s:bk)(by_:Int)(t:List bw):nc k s by_ t=jc k s by_ t:=by
 unfold nc jc;by_cases h:fI k s=ab/\(by_=1∨by_=2)/\cC t=ab
 .rw[bl h,bl ⟨h.1,by omega,h.2.2⟩];have b:=iR.1 h.1;have C:=b.cz;have x:s.2.2.length<=9:=by have:=b.log;simp only[iQ,bR,a9]at this;exact this.2
  have o:=b.len;have p:=(hO (k:=k) (l:=indexOf s.1) (dF h.2.2)).1;have r:=nB k t (indexOf s.1);have c:(lQ k s t).length=((dz k t (indexOf s.1)).length+3) / 4:=by unfold lQ;rw[oT _ _ _ _ (bc _)];simp
  have n:lQ k s t=eb k (dz k t (indexOf s.1)).length (cz s) (dz k t (indexOf s.1)):=rfl;unfold tE;simp only;generalize dz k t (indexOf s.1)=l at *;obtain⟨B,D,y,z⟩:=p9 (Jd k s l) ((l.length+3) / 4) 0;generalize lJ (Jd k s l) ((l.length+3) / 4) 0=m at *;have g:∀j,j<(l.length+3) / 4->Jd k s l j=(decide (1<=cz s+(j:Int)/\cz s+(j:Int)<=99)&&!(s.1.length+j==20)):=λj d=>Nj b.key p r d;by_cases i:m<(l.length+3) / 4
  .rw[bl i];have q:=z (by omega);rw[g m i]at q;have f:fW k s t=ab:=by simp only[fW,jU,a9,c];simp only[qc,bS,ql,gp]at q;omega
   grind
  .rw[aY i];obtain rfl:m=(l.length+3) / 4:=by omega
   have a:∀j,j<(l.length+3) / 4->1<=cz s+(j:Int)/\cz s+(j:Int)<=99/\s.1.length+j≠20:=λj d=>by grind
   have w:s.1.length+(l.length+3) / 4<=20:=by refine Nat.le_of_not_lt λE=>?_;exact(a (20-s.1.length) (by omega)).2.2 (by omega)
   have A:cz s+(((l.length+3) / 4:Nat):Int)-1<=99:=by
    rcases nj ((l.length+3) / 4)with e|e
    .grind
    .have:=(a ((l.length+3) / 4-1) (by omega)).2.1;omega
   by_cases v:20<c6 s
   .rw[bl v];have f:fW k s t=ab:=by simp only[fW,jU,a9];grind
    grind
   .rw[aY v];by_cases u:s.2.2.length=9
    .rw[bl u];have f:fW k s t=ab:=by simp only[fW,jU,a9];grind
     grind
    .rw[aY u];have f:fW k s t=ae:=by simp only[fW,qg,bS,c];omega
     rw[f];simp only[c9,n,Ql b.key p r λj d=>y j (kD _) d,ow];rfl
 grind
theorem D2{l:List cn}{x y:cn}(h:y∈fS l x):y=x∨y∈l:=by
 induction l with
 |nil=>simpa[fS]using h
 |cons a r b =>
  simp only[fS]at h;grind
def Nk{l:List cn}{x:cn}(h:l.Pairwise λa b=>a.1<b.1):(fS l x).Pairwise λa b=>a.1<b.1:=by
 induction l with
 |nil=>simp[fS]
 |cons a r d =>
  obtain⟨f,e⟩:=jB.1 h;simp only[fS];split
  .rename_i c;refine jB.2 ⟨λy g=>?_,d e⟩;grind[D2]
  grind[List.pairwise_cons]
def yq:∀(l a:List cn),(∀x∈l,eu x=ab)->(∀x∈a,eu x=ab)->a.Pairwise (λa b=>a.1<b.1)->(∀x∈l.foldl fS a,eu x=ab)/\(l.foldl fS a).Pairwise λa b=>a.1<b.1
 |[],a,_,e,c=>⟨e,c⟩
 |x::l,a,h,e,c=>yq l (fS a x) (λy d=>h y (pq _ d)) (λy d=>by grind[D2]) (Nk c)
theorem Qm{l:List cn}(c:∀x∈l,eu x=ab)(d:l.Pairwise λa b=>a.1<b.1):rZ l l.length=ab:=by
 refine dE.2 λi hi=>?_;rw[bR];refine⟨c _ (by grind),?_⟩;rcases nj i with e|e
 .simp[e]
 .rw[jU];grind[List.pairwise_iff_getElem]
def F6(l:List bJ):rZ (indexOf l) (indexOf l).length=ab:=by
 unfold indexOf;split
 .rename_i h;obtain⟨b,a⟩:=yq (cV l) [] (bC.1 h) (by simp) List.Pairwise.nil;grind[Qm]
 .rfl
def F7{l:List bJ}(h:∀x∈l,x.2.length<=4):(cV l).length<=4*l.length:=by
 induction l with
 |nil=>simp[cV]
 |cons f r c =>
  have a:=c λg d=>h g (pq _ d);have b:=h f lB;simp only[cV,sh,cX,jT,fb]at a⊢;omega
def jJ.c6{k:Int}{s:bk}(h:jJ k s)(a:rX s):1<=c6 s:=by have b:=n9 s.2.2 a.h;unfold R1.c6;split<;>omega
def jJ.save{k:Int}{s:bk}(h:jJ k s)(a:rX s):BL k s:=by refine⟨h.key,?_,F6 _,h.log,h.c6 a⟩;have:=F7 λx b=>(h.pk x b).len.2;have:=h.len;omega
structure Um(q:bk×Int×List bw):Prop where
 sz:lq q.1
 sm:NR q.1
 nu:rX q.1
 by':1<=q.2.1/\q.2.1<=3
 an:(u7 q.1.2.1).length<=4800
abbrev Xl:={q:bk×Int×List bw // Um q}
abbrev dDr(q:bk×Int×List bw):D:=.fa [.one (.c (.int .i64 7)),.agg [.c (Hc q.1.1),.c (Fy q.1.2.1),.c (Db q.1.2.2)],.one (.c (.int .i64 q.2.1)),.one (.c (.sl ae 2 q.2.2.length (cF.fn q.2.2)))]
def Xm(m:Nat)(b:Nat->Int):Prop:=ef (ι:=Xl) (Cx.beside ag) 5 [.e (.one (.c (.sl ae 1 m (Hl b))))] [] (λq=>dDr q.1) (λ_=>[])
def D3{k:Int}{s:bk}{by_:Int}{t:List bw}(c:fI k s=ab)(b:1<=by_/\by_<=2)(a:cC t=ab):jc k s by_ t=(if fW k s t=ab then s else c9 k s by_ t,!fW k s t):=bl ⟨c,b,a⟩
def Qn(x:fe):Prop:=x.2.length<=6/\∀y∈x.2,y.2.length<=4000000
theorem Qn.of{no k:Int}{t:List bw}(a:cC t=ab):Qn (eJ no k t):=by have d:=mE a;refine⟨by simpa[eJ]using d,λy b=>?_⟩;simp only[eJ,gH]at b;obtain⟨f,c,rfl⟩:=b;have:=((dF a).tK f c).2;have:=kP f.2;simp only[lx,jT];omega
def vg{k:Int}{s:bk}{by_:Int}{t:List bw}(d:lq s):lq (jc k s by_ t).1:=by
 unfold jc;split
 .rename_i h;have f:=iR.1 h.1;show lq (if fW k s t=ab then s else c9 k s by_ t);split
  .exact d
  .rename_i g;have g:fW k s t=ae:=by grind
   simp only[fW,qg,bS]at g;have c:Qn (eJ (c6 s) k t):=Qn.of h.2.2;have i:=(hO (k:=k) (l:=indexOf s.1) (dF h.2.2)).1;have j:=Hs 1 f.sa λx b=>(f.sn x b).1;have e:=f.log;simp only[iQ,bR,a9]at e;refine⟨by simp only[c9,cX];omega,λp a=>?_,by simp only[c9,cX,ig];omega,λx b=>?_,by simp only[c9,cX,ig];omega⟩
   .simp only[c9]at a;rcases fx.1 a with a|a
    .exact d.p2 p a
    .obtain⟨m,qs,_,_,_,n,_,rfl⟩:=uy k _ _ _ i p a;have:(o0 k qs).length=qs.length:=tm k qs;show(o0 k qs).length<=_;omega
   .simp only[c9]at b;rcases fx.1 b with b|b
    .exact d.s2 x b
    .rw[fN]at b;subst b;exact⟨by have:=c.1;omega,c.2⟩
 .exact⟨by simp,by simp,by simp,by simp[kM],by simp⟩
def D6{k:Int}{l:List cn}:∀(ps a:List Bs)(p:Bs),p∈ps.foldl (im k l) a↔p∈a∨(p∈ps/\kl l (dA k p)=0)
 |[],a,p=>by simp
 |q::ps,a,p=>by
  rw[jC,D6 ps];unfold im;split
  .rename_i b;simp only[bR,gp]at b;grind
  .rename_i b;simp only[bR,gp,jQ]at b;by_cases e:p=q
   .subst e;by_cases d:kl l (dA k p)=0
    .have:a.contains p=ab:=by
      cases c:a.contains p with
      |true=>rfl
      |false=>exact absurd ⟨d,c⟩ b
     have:p∈a:=by simpa using this
     grind
    .grind
   .grind
def nh{k:Int}{t:List bw}{l:List cn}{p:Bs}:p∈dz k t l↔(∃f∈t,p∈pieces f.2)/\kl l (dA k p)=0:=by unfold dz;rw[D6];simp
def Nw{l:List cn}{x:cn}{n:Int}:(∃y∈fS l x,y.1=n)↔n=x.1∨∃y∈l,y.1=n:=by
 induction l with
 |nil=>simp[fS,eq_comm]
 |cons a r c =>
  simp only[fS];split
  .simp only[eB,exists_eq_or_imp,c];grind
  .constructor
   .rintro⟨y,b,rfl⟩;rcases eB.1 b with rfl|b
    .exact .inl rfl
    .exact .inr ⟨y,(jS.1 b).1,rfl⟩
   .rintro(rfl|⟨y,b,rfl⟩)
    .exact⟨x,lB,rfl⟩
    .by_cases e:y.1=x.1
     .exact⟨x,lB,e.symm⟩
     .exact⟨y,pq _ (jS.2 ⟨b,by simpa using e⟩),rfl⟩
def zQ:∀(l a:List cn) (n:Int),(∃y∈l.foldl fS a,y.1=n)↔(∃y∈l,y.1=n)∨∃y∈a,y.1=n
 |[],a,n=>by simp
 |x::l,a,n=>by rw[jC,zQ l,Nw];grind
def Ga{k:Int}{x:bo}(h:right k x=ab):∃p,bx p=ab/\x.1=dA k p:=by
 unfold right at h;split at h
 .rename_i p a;unfold eH at a;split at a
  .rename_i b;cases a;simp only[bR]at b;exact⟨_,b.1,(by simpa using h:dA k _=x.1).symm⟩
  .cases a
 .cases h
def Nx{k:Int}{ps:List bJ}(h:∀p∈ps,rq k p):(cV ps).all eu=ab:=by refine bC.2 λy a=>?_;obtain⟨p,b,a⟩:=qn.1 a;obtain⟨x,c,rfl⟩:=gH.1 a;obtain⟨q,f,e⟩:=Ga ((h p b).rt x c);have d:=(h p b).no;simp only[eu,bR,a9,e,dA];omega
def yr{k:Int}{ps:List bJ}(h:∀p∈ps,rq k p)(n:Int):kl (indexOf ps) n=0↔n∉bE ps:=by
 have c:=Nx h;unfold indexOf;rw[bl c];have hk:=zQ (cV ps) [] n;have b:(∃y∈cV ps,y.1=n)↔n∈bE ps:=by
  simp only[cV,bE,qn,gH];constructor
  .rintro⟨_,⟨p,d,x,f,rfl⟩,rfl⟩;exact⟨p,d,x,f,rfl⟩
  .rintro⟨p,d,x,f,rfl⟩;exact⟨_,⟨p,d,x,f,rfl⟩,rfl⟩
 have q:=(yq (cV ps) [] (bC.1 c) (by simp) List.Pairwise.nil).1;generalize(cV ps).foldl fS []=l at *;unfold kl;split
 .rename_i s a;have i:=q s (r8 a);have m:s.1=n:=by simpa using List.find?_some a
  have:n∈bE ps:=by rw[<-b];have:=hk.1 ⟨s,r8 a,m⟩;simpa using this
  simp only[eu,bR,a9]at i;grind
 .rename_i a;have o:=qj.1 a;refine⟨λ_ g=>?_,λ_=>rfl⟩;obtain⟨y,j,e⟩:=hk.2 (.inl (b.2 g));exact o y j (by simpa using e)
def BQ{k:Int}{qs:List Bs}{x:bo}:x∈o0 k qs↔∃p∈qs,x=ku k p:=by
 rw[wm];have:∀(l a:List bo),x∈l.foldl gC a↔x∈l∨x∈a:=by
  intro l;induction l with
  |nil=>simp
  |cons y l b=>intro a;rw[jC,b,uM];grind
 rw[this];grind
def oU{k:Int}{n:Int}:∀(f:Nat) (no:Int)(l:List Bs),l.length<=f->(n∈bE (eb k f no l)↔∃p∈l,dA k p=n)
 |0,no,l,h=>by have:l=[]:=List.length_eq_zero_iff.1 (by omega);subst this;simp[eb,bE]
 |f+1,no,l,h=>by
  simp only[eb];split
  .have b:=oU (k:=k) (n:=n) f (no+1) (l.drop 4) (by simp;omega);have e:bE (gj no k (l.take 4)::eb k f (no+1) (l.drop 4))=(o0 k (l.take 4)).map (·.1)++bE (eb k f (no+1) (l.drop 4)):=by simp[bE];rfl
   rw[e,fx,b];have:(n∈(o0 k (l.take 4)).map (·.1))↔∃p∈l.take 4,dA k p=n:=by
    rw[gH];constructor
    .rintro⟨x,c,rfl⟩;obtain⟨p,a,rfl⟩:=BQ.1 c;exact⟨p,a,rfl⟩
    .rintro⟨p,a,rfl⟩;exact⟨ku k p,BQ.2 ⟨p,a,rfl⟩,rfl⟩
   rw[this];conv=>rhs;rw[<-jz 4 l]
   grind
  .have:l=[]:=List.length_eq_zero_iff.1 (by omega);subst this;simp[bE]
def tH{k:Int}(hk:b7 k=ab):∀(f:Nat) (no:Int)(l:List Bs),l.length<=f->(∀q∈l,bx q=ab)->l.Nodup->(bE (eb k f no l)).Nodup
 |0,no,l,h,_,_=>by simp[eb,bE]
 |f+1,no,l,h,g,i=>by
  simp only[eb];split
  .have e:bE (gj no k (l.take 4)::eb k f (no+1) (l.drop 4))=(o0 k (l.take 4)).map (·.1)++bE (eb k f (no+1) (l.drop 4)):=by simp[bE];rfl
   have n:(o0 k (l.take 4)).Pairwise λx y=>x.1<y.1:=by rw[wm];exact Ni _ _ List.Pairwise.nil (BN hk (λq b=>g q (fM b)) (i.sublist (List.take_sublist _ _))) (by simp)
   rw[e,List.nodup_append];refine⟨List.pairwise_map.2 (n.imp λh=>by omega),tH hk f _ _ (by simp;omega) (λq b=>g q (rA b)) (i.sublist (List.drop_sublist _ _)),λa m c o e=>?_⟩;subst e;obtain⟨x,j,rfl⟩:=gH.1 m;obtain⟨p,d,rfl⟩:=BQ.1 j;obtain⟨q,b,e⟩:=(oU f _ _ (by simp;omega)).1 o;have e:=qQ hk (g q (rA b)) (g p (fM d)) e;subst e;rw[<-jz 4 l,List.nodup_append]at i;exact i.2.2 q d q b rfl
  .simp[bE]
def D8(t:Bs):(pieces t).flatten=t:=by
 have:∀k f,f<=t.length->t.length-f<=k->(eT t k f).flatten=t.drop f:=by
  intro k;induction k with
  |zero=>intro f a d;simp[eT,vF (show t.length<=f by omega)]
  |succ k c =>
   intro f a d;simp only[eT];split
   .rename_i h;obtain⟨e,b,_⟩:=mv t f h;rw[List.flatten_cons,c _ b (by omega)];conv=>rhs;rw[<-jz (cutAt t f-f) (t.drop f),List.drop_drop,show f+(cutAt t f-f)=cutAt t f by omega]
   .simp[vF (show t.length<=f by omega)]
 exact(this t.length 0 (kD _) (by omega)).trans (by simp)
def D9{k no:Int}{ps:List bJ}{t:List bw}(hk:b7 k=ab)(g:cC t=ab)(h:∀f∈t,∀p∈pieces f.2,de k ps (dA k p)=aa p):cg k (eJ no k t) ps=aa t:=by
 have c:=(ly.1 g).1;have e:∀f∈t,fileOf k ps (lx k f)=aa f:=λf b=>by
  have d:=h f b;have l:dL k ps (lx k f).2=aa (pieces f.2):=by
   unfold dL lx;rw[bl]
   .congr 1;rw[List.map_map];conv=>rhs;rw[<-List.map_id (pieces f.2)]
    exact qh λp a=>by simp[d p a]
   .refine bC.2 λn m=>?_;obtain⟨p,a,rfl⟩:=gH.1 m;rw[d p a];rfl
  have o:fT (pieces f.2)=aa f.2:=by unfold fT;rw[D8,(c f b).2];simp
  unfold fileOf;rw[l];simp only[o];rfl
 have i:c8 k ps (t.map (lx k))=t:=by
  unfold c8;rw[List.map_map];conv=>rhs;rw[<-List.map_id t]
  exact qh λf b=>by simp[e f b]
 have j:((t.map (lx k)).all λx=>(fileOf k ps x).isSome)=ab:=bC.2 λx c=>by obtain⟨f,b,rfl⟩:=gH.1 c;rw[e f b];rfl
 unfold cg eJ;simp only[i,j,hk,g,Bool.and_self,cq]
structure Sv(k:Int)(s:bk)(by_:Int)(t:List bw):Prop where
 st:jJ k s
 nu:rX s
 by':1<=by_/\by_<=2
 tr:cC t=ab
 fu:fW k s t=ae
section
variable {k:Int}{s:bk}{by_:Int}{t:List bw}
def Sv.piece(h:Sv k s by_ t){f:bw}(a:f∈t){p:Bs}(b:p∈pieces f.2):bx p=ab:=by have:=(hO (k:=k) (l:=[]) (dF h.tr)).1 p;exact this (nh.2 ⟨⟨f,a,b⟩,rfl⟩)
def Sv.names(h:Sv k s by_ t)(n:Int):n∈bE (c9 k s by_ t).1↔n∈bE s.1∨∃f∈t,∃p∈pieces f.2,dA k p=n:=by
 have e:bE (c9 k s by_ t).1=bE s.1++bE (lQ k s t):=by simp[c9,bE]
 rw[e,fx];unfold lQ;rw[oU _ _ _ (bc _)];constructor
 .rintro(h1|⟨p,a,rfl⟩)
  .exact .inl h1
  .obtain⟨⟨f,b,a⟩,_⟩:=nh.1 a;exact .inr ⟨f,b,p,a,rfl⟩
 .rintro(h1|⟨f,b,p,a,rfl⟩)
  .exact .inl h1
  .by_cases c:dA k p∈bE s.1
   .exact .inl c
   .exact .inr ⟨p,nh.2 ⟨⟨f,b,a⟩,(yr h.st.pk _).2 c⟩,rfl⟩
def Sv.new(h:Sv k s by_ t):(∀p∈lQ k s t,rq k p)/\(lQ k s t).Pairwise (λp q=>p.1<q.1)/\∀p∈lQ k s t,cz s<=p.1:=by
 have e:=hO (k:=k) (l:=indexOf s.1) (dF h.tr);have f:=nB k t (indexOf s.1);have c:=h.fu;have i:=h.st.cz;unfold fW at c;unfold lQ at *;generalize dz k t (indexOf s.1)=l at *;rw[oT k _ _ _ (bc _)]at *;simp only[qg,bS,jT,List.length_range]at c;refine⟨λp d=>?_,?_,λp d=>?_⟩
 .obtain⟨j,hj,rfl⟩:=gH.1 d;have hj:=mM.1 hj;obtain⟨c1,c2,c3,c4⟩:=F4 e.1 f hj;rw[<-oN,qa h.st.key c1 c2 c3 c4,a9];omega
 .rw[List.pairwise_map];refine List.pairwise_lt_range.imp λ{a b} g=>?_;show cz s+(a:Int)<cz s+(b:Int);omega
 .obtain⟨j,hj,rfl⟩:=gH.1 d;show cz s<=cz s+(j:Int);omega
def jJ.ya(h:jJ k s):∀p∈s.1,p.1<R1.cz s:=by
 intro p a;obtain⟨i,hi,rfl⟩:=dG a;unfold R1.cz;rw[aY (by omega),qR (by omega)];by_cases e:i=s.1.length-1
 .subst e;omega
 .have:=jw.1 h.pa i (s.1.length-1) hi (by omega) (by omega);omega
def jJ.tv(h:jJ k s):∀x∈s.2.1,x.1<R1.c6 s:=by
 intro x a;obtain⟨i,hi,rfl⟩:=dG a;unfold R1.c6;rw[aY (by omega),qR (by omega)];by_cases e:i=s.2.1.length-1
 .subst e;omega
 .have:=jw.1 h.sa i (s.2.1.length-1) hi (by omega) (by omega);omega
def Sv.all(h:Sv k s by_ t):∀p∈(c9 k s by_ t).1,rq k p:=λp a=>by
 rcases fx.1 a with a|a
 .exact h.st.pk p a
 .exact h.new.1 p a
def Sv.tree(h:Sv k s by_ t){no:Int}:cg k (eJ no k t) (c9 k s by_ t).1=aa t:=by refine D9 h.st.key h.tr λf b p a=>?_;obtain⟨q,c⟩:=yt h.st.key h.all ((h.names _).2 (.inr ⟨f,b,p,a,rfl⟩));obtain⟨d,e,_⟩:=r6 c;rw[c,qQ h.st.key d (h.piece b a) e]
def Sv.old(h:Sv k s by_ t){x:fe}{u:List bw}(b:cg k x s.1=aa u):cg k x (c9 k s by_ t).1=aa u :=
 BR (λn p=>Jh h.st.key h.all (λn a=>(h.names n).2 (.inl a))) b
def Sv.ok(h:Sv k s by_ t):jJ k (c9 k s by_ t):=by
 have m:=h.fu;simp only[fW,qg,bS]at m;have o:=h.new;have n:=h.st.tv;have j:=h.st.c6 h.nu;refine⟨h.all,?_,?_,λx d=>?_,?_,h.st.key,?_,by simp only[c9,cX];omega⟩
 .refine qf.2 ⟨h.st.pa,o.2.1,λa f b c=>?_⟩;have:=h.st.ya a f;have:=o.2.2 b c;omega
 .have e:bE (c9 k s by_ t).1=bE s.1++bE (lQ k s t):=by simp[c9,bE]
  have g:=hO (k:=k) (l:=indexOf s.1) (dF h.tr);rw[e,List.nodup_append];refine⟨h.st.nd,tH h.st.key _ _ _ (bc _) g.1 (nB _ _ _),λa f b c e=>?_⟩;subst e;obtain⟨p,q,rfl⟩:=(oU _ _ _ (bc _)).1 c;exact(yr h.st.pk _).1 (nh.1 q).2 f
 .rcases fx.1 d with d|d
  .obtain⟨h1,h2⟩:=h.st.sn x d;obtain⟨u,r⟩:=ry.1 h2;exact⟨h1,by rw[h.old r];rfl⟩
  .rw[fN]at d;subst d;exact⟨⟨j,by show c6 s<=20;omega⟩,by rw[h.tree];rfl⟩
 .refine qf.2 ⟨h.st.sa,by simp,λa f b c=>?_⟩;rw[fN]at c;subst c;exact n a f
 .have hl:=h.st.log;have c:=h.by';simp only[iQ,bR,a9,dE]at hl⊢;refine⟨λi hi=>?_,by simp only[c9,cX,ig];omega⟩;simp only[c9,cX,ig]at hi⊢;by_cases e:i<s.2.2.length
  .have:=hl.1 i e
   rwa [ak,jy e,<-ak]
  .obtain rfl:i=s.2.2.length:=by omega
   rw[ak,gk (bc _),Nat.sub_self];simp only[kB,ij,gR,bR,a9];omega
def Sv.load(h:Sv k s by_ t):eN k (c9 k s by_ t) (c6 s)=aa t:=by
 unfold eN;have e:(c9 k s by_ t).2.1.find? (λx=>x.1==c6 s)=aa (eJ (c6 s) k t):=by
  simp only[c9,List.find?_append];have:s.2.1.find? (λx=>x.1==c6 s)=af:=qj.2 λx a=>by have:=h.st.tv x a;simp;omega
  rw[this];simp[eJ]
 rw[e];exact h.tree
def Sv.Qs(h:Sv k s by_ t){x:fe}(c:x∈s.2.1):eN k (c9 k s by_ t) x.1=eN k s x.1:=by
 unfold eN;have e:(c9 k s by_ t).2.1.find? (λy=>y.1==x.1)=s.2.1.find? (λy=>y.1==x.1):=by
  simp only[c9,List.find?_append];cases a:s.2.1.find? (λy=>y.1==x.1)with
  |some y=>rfl
  |none=>exact absurd (qj.1 a x c) (by simp)
 rw[e];cases a:s.2.1.find? (λy=>y.1==x.1)with
 |none=>rfl
 |some y =>
  obtain⟨u,b⟩:=ry.1 (h.st.sn y (r8 a)).2;show cg k y _=cg k y _;rw[b,h.old b]
end
end Go.AM.R1
namespace Go.AM
def Nt{α:Type}(d:α){P:Nat->α->Prop}:∀n:Nat,(∀i,i<n->∃x,P i x)->∃l:List α,l.length=n/\∀i,i<n->P i (l.getD i d)
 |0,_=>⟨[],rfl,λi hi=>absurd hi (fX _)⟩
 |n+1,h=>by obtain⟨l,e,c⟩:=Nt d n λi hi=>h i (by omega);obtain⟨x,a⟩:=h n (by omega);refine⟨l++[x],by grind,λi hi=>?_⟩;grind
inductive Fit (M:Mem) (b o:Nat) (u:ah) (x:Int):Prop
 |int (n:Int) (h:M b o=aa (.int .i64 n)) (hu:∀M',Rd M' u (.int .i64 x))
 |str (s:ByteArray) (h:M b o=aa (.string s)) (l:List UInt8) (hu:∀M',Rd M' u (.str l))
section
variable {M:Mem}{b o g m:Nat}{u v:ah}{x:Int}
def Fit.i(h:Fit M b o u x){n:Int}(a:M g m=aa v)(d:Rd M v (.int .i64 n)):∃c v',M.up b o u g m=aa v'/\(∀M',Rd M' v' (.int .i64 c))/\(c=n∨c=x):=by
 unfold Mem.up;by_cases e:g=b/\m=o
 .obtain⟨rfl,rfl⟩:=e;rw[bl ⟨rfl,rfl⟩];cases h with
  |int _ _ f=>exact⟨x,u,rfl,f,.inr rfl⟩
  |str s h=>rw[h]at a;cases a;cases d
 .rw[aY e,a];cases d with
  |int h=>exact⟨n,_,rfl,λ_=>.int h,.inl rfl⟩
def Fit.s(h:Fit M b o u x){l:List UInt8}(a:M g m=aa v)(c:Rd M v (.str l)):∃l' v',M.up b o u g m=aa v'/\∀M',Rd M' v' (.str l'):=by
 unfold Mem.up;by_cases e:g=b/\m=o
 .obtain⟨rfl,rfl⟩:=e;rw[bl ⟨rfl,rfl⟩];cases h with
  |int n h=>rw[h]at a;cases a;cases c
  |str _ _ l' hu=>exact⟨l',u,rfl,hu⟩
 .rw[aY e,a];cases c with
  |str h1 h2=>exact⟨l,_,rfl,λ_=>.str h1 h2⟩
def Fit.l(h:Fit M b o u x){t:Bool}{k n:Nat}{es:Nat->List C}(a:M g m=aa v)(c:Rd M v (.sl t k n es)):M.up b o u g m=aa v:=by
 unfold Mem.up;by_cases e:g=b/\m=o
 .obtain⟨rfl,rfl⟩:=e;cases h with
  |int n h=>rw[h]at a;cases a;cases c
  |str s h=>rw[h]at a;cases a;cases c
 grind
end
namespace R1
def two{α:Type}{P:Nat->α->Prop}{x y:α}(a:P 0 x)(d:P 1 y):∀j c,[x,y][j]?=aa c->P j c
 |0,_,h=>by grind
 |1,_,h=>by grind
def Qq{M:Mem}{b o:Nat}{u:ah}{x:Int}(h:Fit M b o u x){v:ah}{e:List bo}(H:Rd M v (.sl ae 2 e.length (eg.fn e))):∃d:List bo,d.length=e.length/\Rd (M.up b o u) v (.sl ae 2 d.length (eg.fn d)):=by
 obtain⟨a,cap,n,f,rfl,I,F,E,K,p⟩:=H.EW;obtain⟨l,k,A⟩:=Nt (0,[]) (P:=λi (y:bo)=>∀(j:Nat) (c:C),[C.int .i64 y.1,.str y.2][j]?=aa c->∃w,M.up b o u n (f+i*2+j)=aa w/\Rd (M.up b o u) w c) e.length λi hi=>by obtain⟨w0,G,r0⟩:=p i hi 0 _ rfl;obtain⟨w1,J,t⟩:=p i hi 1 _ rfl;obtain⟨D,v0,B,q,_⟩:=h.i G r0;obtain⟨l',v1,z,r⟩:=h.s J t;exact⟨(D,l'),two (P:=λj c=>∃w,M.up b o u n (f+i*2+j)=aa w/\Rd (M.up b o u) w c) ⟨v0,B,q _⟩ ⟨v1,z,r _⟩⟩
 exact⟨l,k,by rw[k];exact .SA I F E (λ_ _=>rfl) A⟩
structure X3(x:Int)(ps UJ:List bJ):Prop where
 len:UJ.length=ps.length
 at':∀i,i<ps.length->(UJ.getD i (0,[])).2.length=(ps.getD i (0,[])).2.length/\((UJ.getD i (0,[])).1=(ps.getD i (0,[])).1∨(UJ.getD i (0,[])).1=x)
def Nu{M:Mem}{b o:Nat}{u:ah}{x:Int}(h:Fit M b o u x){v:ah}{ps:List bJ}(I:Un v ps M):∃e,X3 x ps e/\Un v e (M.up b o u):=by
 obtain⟨a,cap,q,n,rfl,J,G,E,L,r⟩:=Rd.EW I;obtain⟨l,p,k⟩:=Nt (0,[]) (P:=λi (y:bJ)=>(y.2.length=(ps.getD i (0,[])).2.length/\(y.1=(ps.getD i (0,[])).1∨y.1=x))/\∀(j:Nat) (c:C),[C.int .i64 y.1,sP y][j]?=aa c->∃w,M.up b o u q (n+i*2+j)=aa w/\Rd (M.up b o u) w c) ps.length λi hi=>by obtain⟨w0,H,r0⟩:=r i hi 0 _ rfl;obtain⟨w1,K,f⟩:=r i hi 1 _ rfl;obtain⟨D,v0,B,s,F⟩:=h.i H r0;have A:=h.l K f;obtain⟨d,t,z⟩:=Qq h f;exact⟨(D,d),⟨t,F⟩,two (P:=λj c=>∃w,M.up b o u q (n+i*2+j)=aa w/\Rd (M.up b o u) w c) ⟨v0,B,s _⟩ ⟨w1,A,z⟩⟩
 refine⟨l,⟨p,λi hi=>(k i hi).1⟩,?_⟩;show Rd _ _ (.sl ae 2 l.length (cP.fn l));rw[p];exact .SA J G E (λ_ _=>rfl) λi hi=>(k i hi).2
structure BO(s:bk):Prop where
 p:∀p∈s.1,p.2.length<=4/\0<=p.1/\p.1<=99
 pl:s.1.length<=20
 ex:∃ps,D7 (ps,s.2)
def D7.Xo{s:bk}(h:D7 s):BO s:=⟨λp a=>by have h1:=(h.p p a).len;have h2:=(h.p p a).no;omega,h.pl,s.1,h⟩
def BO.spo{s:bk}(h:BO s){a:List bJ}(d:X3 0 s.1 a):BO (a,s.2):=by
 refine⟨λp e=>?_,by rw[d.len];exact h.pl,h.ex⟩;obtain⟨i,hi,rfl⟩:=oi.1 e;have c:i<s.1.length:=by rw[<-d.len];exact hi
 have h1:=d.at' i c;have h2:=h.p _ (fj c (0,[]));grind
def BO.sub{s:bk}(h:BO s){a:List bJ}(c:∀p∈a,p∈s.1)(hl:a.length<=s.1.length):BO (a,s.2):=⟨λp d=>h.p p (c p d),iZ hl h.pl,h.ex⟩
def BO.size{s:bk}(h:BO s):lq s:=by obtain⟨ps,c⟩:=h.ex;have a:=c.size;have h1:=h.pl;exact⟨by omega,λp d=>by have:=(h.p p d).1;omega,a.sn,a.s2,a.h⟩
def BO.num{s:bk}(h:BO s):rX s:=by obtain⟨ps,c⟩:=h.ex;have a:=c.num;exact⟨λp d=>by have:=(h.p p d).2;omega,a.s,a.h⟩
def zO{no k:Int}{t:List bw}(c:cC t=ab):(we (eJ no k t).2).length<=240:=by have a:=ly.1 c;refine FP ⟨by simpa[eJ]using a.2.2.2,λy h=>?_⟩;obtain⟨f,d,rfl⟩:=gH.1 h;have e:=(a.1 f d).2;simp only[et,bR,a9]at e;have i:=kP f.2;show((pieces f.2).map _).length<=40;grind
def BO.an{s:bk}(h:BO s):(u7 s.2.1).length<=4800:=by
 obtain⟨ps,a⟩:=h.ex;have e:=a.sl;have f:(u7 s.2.1).length<=240*s.2.1.length:=mF λx c=>by obtain⟨no,t,_,_,d,rfl⟩:=(a.s x c).ex;exact zO d
 grind
def BO.smT{s:bk}(h:BO s):NR s:=by
 have a:=h.size;have h1:=h.pl;have h2:=h.an;have d:(bE s.1).length<=4*s.1.length:=mF λp c=>by rw[jT];exact(h.p p c).1
 exact⟨⟨a.p,a.s2,a.sn,by omega⟩,a.p2,by omega⟩
end R1
def eh.q4b{P:ar}{X:Cx P}{N:Nat}{all:List au}{φ:Fr}{x:Nat->D}{d:Bool->Bool->Bool->Bool->List aR}{i g f j e:Nat}{o:au}(h1:aB g i=ae)(h2:aB f i=ae)(m:aB j i=ae)(l:aB e i=ae)(k:fZ all e i=ab)(h:∀a b c,OA X N all o (kr all φ x i) (d a b c ae) (x i) (d a b c ae)):eh X N all φ x (pJ d g f j e) i o:=by intro D hT hF;grind[rL]
namespace R1
variable {X:Cx ag}[X.hU]
abbrev SpI(k:Nat):={q:bk×Nat // BO q.1/\k<=q.2/\q.2<=k+1100}
def BO.del{s:bk}(h:BO s)(i:Nat):BO (s.1.take i++s.1.drop (i+1),s.2):=h.sub (λp a=>by grind) (by grind)
def qU{M:Mem}{b o cap:Nat}{ps:List bJ}{i:Nat}(h:Un (.slice (aa ⟨b,o,af⟩) ps.length cap) ps M)(hi:i<ps.length):(∃n,M b (o+i*2)=aa (.int .i64 n))/\∃w,M b (o+i*2+1)=aa w/\Rd M w (sP (ps.getD i (0,[]))):=by obtain⟨a,c2,l,k,e,_,_,f,_,c⟩:=Rd.EW h;cases e;cases f (by omega);obtain⟨w0,j,r0⟩:=c i hi 0 _ rfl;obtain⟨w1,g,d⟩:=c i hi 1 _ rfl;refine⟨?_,w1,g,d⟩;cases r0;grind
theorem HI{M:Mem}{c o cap:Nat}{b:List bo}(h:Rd M (.slice (aa ⟨c,o,af⟩) b.length cap) (.sl ae 2 b.length (eg.fn b)))(hi:0<b.length):∃s,M c (o+0*2+1)=aa (.string s):=by obtain⟨a,c2,j,i,e,_,_,g,_,d⟩:=h.EW;cases e;cases g hi;obtain⟨w1,k,f⟩:=d 0 hi 1 _ rfl;cases f;grind
abbrev nt(s:bk)(i:Nat):Nat:=dj s.1.length (aa (i:Int))-dj 0 af
abbrev xx(s:bk)(i:Nat):Nat:=dj s.1.length af-dj 0 (aa ((i:Int)+1))
abbrev EN(s:bk):Nat->List C:=mf (dj 0 af) (cP.fn s.1)
abbrev Aa(s:bk)(i:Nat):Nat->List C:=mf (dj 0 (aa ((i:Int)+1))) (cP.fn s.1)
abbrev bf1(s:bk)(i:Nat):aR:=.buf 67 2 (0+nt s i) (cK 0 (λi=>([]:List (List C)).getD i []) (EN s))
abbrev X4(s:bk)(i:Nat):aR:=.buf 67 2 (0+nt s i+xx s i) (cK (0+nt s i) (cK 0 (λi=>([]:List (List C)).getD i []) (EN s)) (Aa s i))
def b9S(m:Nat)(b:Nat->Int)(k:Int)(s:bk)(i:Nat)(a c d e:Bool):List aR :=
 match a,c,d,e with
 |true,ab,ab,ab=>[lu m b k,jI,yR,.cells 27 [.bp 4 (.sl (0+nt s i+xx s i) 2 0 (0+nt s i+xx s i)),.c (Fy s.2.1),.c (Db s.2.2)],X4 s i]
 |true,ab,ab,ae=>[lu m b k,jI,yR,xY s,X4 s i]
 |true,ab,ae,_=>[lu m b k,jI,yR,xY s,X4 s i]
 |true,ae,_,_=>[lu m b k,jI,yR,xY s,bf1 s i]
 |false,_,_,_=>[lu m b k,jI,yR,xY s]
abbrev x9S(s:bk)(i j:Nat):D :=
 [.e (.one (.c (.sl ab 2 0 λi=>([]:List (List C)).getD i []))),.e (.one (.ptr 3 0)),cP.sl s.1,dI i,.e (.one (.c (.sl ae 2 (nt s i) (EN s)))),.e (.one (.bp 4 (.sl (0+nt s i) 2 0 (0+nt s i)))),
  .e (.one (.ptr 3 0)),cP.sl s.1,dI i,dI ((i:Int)+1),.e (.one (.c (.sl ae 2 (xx s i) (Aa s i)))),.e (.one (.bp 4 (.sl (0+nt s i+xx s i) 2 0 (0+nt s i+xx s i)))),.e (.one (.ptr 3 0)),.any].getD j .any
set_option maxRecDepth 20000 in
def D5(m:Nat)(b:Nat->Int)(N:Bytes b)(k:Nat)(hk:k<=40000)(P:m<=1048576):
  ef (ι:=SpI k) X 20 [.e (.one (.ptr 0 0))] [lu m b k] (λq=>po q.1.1) (λq=>[lu m b q.1.2]):=by
 refine ef.sI tok Tryz.func20 rfl rfl rfl λhf=>?_;refine bt rfl ay ?_;refine AK.cP (D4 m b N k hk P) [0] rfl (λ_=>rfl) ?_;rintro⟨⟨s,v,k1⟩,y,I,F⟩;simp only at y I F;refine aX [(1000002,ab)] rfl ay ?_;have hpl:=y.pl;by_cases Z:s.1.length=0
 .refine AK.rO 2 3 0 (E:=67) (k:=2) (cl:=Hc s.1) (by decide) rfl rfl rfl (λ_ h=>h) ?_;refine aX [(10,ab)] rfl (by simp[Z]) ?_;refine AK.mZ ⟨(s,k1),y.Xo,I,by grind⟩ [0] rfl rfl rfl rfl rfl rfl rfl rfl ?_ rfl rfl rfl rfl iz;simp
 refine AK.fact (PM.of (l:=2) (p:=∃a cap b' o,v=.slice a s.1.length cap/\(0<s.1.length->a=aa ⟨b',o,af⟩)) rfl λM f=>?_) ?_
 .grind [Rd.EW]
 rintro⟨a,cap,b',o,rfl,ha⟩;obtain rfl:=ha (by omega);refine aX [(10,ae)] rfl (by simp[Z];omega) ?_;refine AK.cP (gF m b N k1 s.1.length (by omega) P (by omega)) [0] rfl (λ_=>rfl) ?_;rintro⟨i,i0,t⟩;obtain⟨i,rfl⟩:=Int.eq_ofNat_of_zero_le i0;have t:i<s.1.length:=by omega
 refine bt rfl ay ?_;refine AK.cP (gF m b N (k1+1) 24 (by omega) P (by omega)) [0] rfl (λ_=>rfl) ?_;rintro⟨w,w0,w1⟩;refine aX [(1000006,ab)] rfl ay ?_;have B:0<(s.1.getD i (0,[])).2.length:=y.ne _ (fj t (0,[]));by_cases H:w=0
 .have o4:az (fY s.1.length af (aa (i:Int))):=by simp only[fY,az];omega
  have o9:az [bD .i64 ((i:Int)+1)]:=by simp only[az,bD];omega
  have O:az (fY s.1.length (aa ((i:Int)+1)) af):=by simp only[fY,az];omega
  have V:nt s i=i:=by show((i:Int)).toNat-0=i;omega
  have e2:xx s i=s.1.length-(i+1):=by show s.1.length-((i:Int)+1).toNat=_;omega
  have o5:az [(0+nt s i)*i67.bytes<=140737488355328]:=by rw[show i67.bytes=32 from rfl,V];simp only[az];omega
  have J:az [0+nt s i=0+nt s i,0+nt s i=0+nt s i,(0+nt s i+xx s i)*i67.bytes<=140737488355328]:=by refine⟨rfl,rfl,?_⟩;rw[show i67.bytes=32 from rfl];simp only[az];omega
  refine AK.rO 2 3 0 (E:=67) (k:=2) (cl:=Hc s.1) (by decide) rfl rfl rfl (λ_ h=>h) ?_;refine aX [(20,ab),(1000007,ab)] rfl (by simp[H]) ?_;refine AK.flags jk (x9S s i) (pJ (b9S m b (k1+1+1:Nat) s i) 5 11 12 13) rfl rfl rfl rfl
   ⟨.qX tok bL.nil,
   .qX tok bL.nil,
   eh.q4b rfl rfl rfl rfl rfl (λa b c=>by cases a<;>cases b<;>cases c<;>exact OA.cZ tok bL.nil rfl),
   .qX tok bL.nil,
   .XN tok bL.nil o4,
   eh.c1 rfl rfl rfl rfl rfl rfl (gL (ds:=[(3000026,ab)]) tok bL.nil (σ':=aa _) rfl o5),
   .qX tok bL.nil,
   eh.q4b rfl rfl rfl rfl rfl (λa b c=>by cases a<;>cases b<;>cases c<;>exact OA.cZ tok bL.nil rfl),
   .qX tok bL.nil,
   .XN tok bL.nil o9,
   .XN tok bL.nil O,
   eh.c2 rfl rfl rfl rfl rfl rfl (gL (ds:=[]) tok bL.nil (σ':=aa _) rfl J),
   eh.c3 rfl rfl rfl rfl rfl rfl (OA.cZ tok bL.nil rfl),
   eh.c4 rfl rfl rfl rfl rfl rfl (gL (ds:=[]) tok bL.nil (σ':=aa _) rfl ay),ay⟩ ?_
  intro D r;show AK X _ _ _ _ _ (b9S m b (k1+1+1:Nat) s i (D 5) (D 11) (D 12) (D 13));rw[r 5 (by decide),r 11 (by decide),r 12 (by decide),r 13 (by decide)];refine AK.CI (φ':=[(2,.e (.one (.ptr 1 0))),(3,.e (.one (.ptr 3 0)))]) (σ':=[lu m b (k1+1+1:Nat),jI,yR,.cells 27 [.bp 4 (.sl (0+nt s i+xx s i) 2 0 (0+nt s i+xx s i)),.c (Fy s.2.1),.c (Db s.2.2)],X4 s i]) ?_ rfl (by simp) rfl (by simp);refine AK.oX 4 rfl rfl rfl (by simp) (by simp) ?_;refine bt rfl ay ?_;refine AK.mZ ⟨((s.1.take i++s.1.drop (i+1),s.2),k1+1+1),y.Xo.del i,by grind,by grind⟩ [0] rfl rfl rfl rfl rfl rfl rfl rfl ?_ rfl rfl rfl rfl iz;simp only[az.cat,az];refine⟨⟨by grind,λj hj=>?_⟩,⟨ay,.same⟩,⟨ay,.same⟩,ay⟩;show cK (0+nt s i) (cK 0 (λi=>([]:List (List C)).getD i []) (EN s)) (Aa s i) j=_;rw[V,bF];simp only[cK,EN,Aa,mf,dj,bF,fX,ck,lU,mI.fn,Bd,show((i:Int)+1).toNat=i+1 by omega];grind
 by_cases G:w=1
 .refine aX [(20,ae),(35,ab)] rfl (by simp[G];omega) ?_;refine AK.hand _ _ rfl rfl (ee.SB tok 2 rfl rfl (λ_=>rfl) rfl rfl (λM f=>?_)) λw1=>?_
  .obtain⟨_,w,g,q2⟩:=qU f t;exact⟨w,g,q2.cell⟩
  refine AK.JO (PM.of (l:=2) (p:=∃Y U c2,w1=.slice (aa ⟨Y,U,af⟩) (s.1.getD i (0,[])).2.length c2) rfl λM f=>?_) ?_
  .obtain⟨_,w,g,q2⟩:=qU f.1 t;cases g.symm.trans f.2;grind[Rd.EW]
  rintro⟨Y,U,c2,rfl⟩;refine bt rfl (by simp only[az];omega) ?_;refine AK.hand _ _ rfl rfl (ee.GW tok 2 rfl rfl rfl rfl rfl rfl rfl (λM f=>?_)) ?_
  .obtain⟨_,w,g,q2⟩:=qU f.1 t;cases g.symm.trans f.2;grind[HI]
  rintro⟨u,T⟩;refine aX [(1000012,ab)] rfl ay ?_;refine AK.N9 (ι:={d:List bJ // X3 0 s.1 d}) 2 (λq=>PM (Un (.slice (aa ⟨b',o,af⟩) s.1.length cap) q.1)) rfl (λ_ ch R=>?_) ?_
  .obtain⟨K,Q,M,f,W⟩:=R;obtain⟨_,w,g,q2⟩:=qU f.1 t;cases g.symm.trans f.2;obtain⟨s0,S⟩:=HI q2 B;obtain⟨d,L,p2⟩:=Nu (x:=0) (Fit.str s0 S _ T) f.1;exact⟨⟨d,L⟩,K,Q,by grind⟩
  rintro⟨d,z⟩;refine AK.rO 2 3 0 (E:=67) (k:=2) (cl:=Hc d) (by decide) rfl rfl rfl (λ_ h=>by grind) ?_;refine bt rfl ay ?_;refine AK.mZ ⟨((d,s.2),k1+1+1),y.Xo.spo z,by grind,by grind⟩ [0] rfl rfl rfl rfl rfl rfl rfl rfl ?_ rfl rfl rfl rfl iz;simp
 by_cases A:w=2
 .refine aX [(20,ae),(35,ae),(45,ab)] rfl (by simp[A];omega) ?_;refine AK.hand _ _ rfl rfl (ee.GW tok 2 rfl rfl rfl rfl rfl rfl rfl (λM f=>?_)) ?_
  .obtain⟨⟨n,g⟩,_⟩:=qU f t;exact⟨_,g⟩
  rintro⟨u,T⟩;refine aX [(1000012,ab)] rfl ay ?_;refine AK.N9 (ι:={d:List bJ // X3 0 s.1 d}) 2 (λq=>PM (Un (.slice (aa ⟨b',o,af⟩) s.1.length cap) q.1)) rfl (λ_ ch R=>?_) ?_
  .obtain⟨K,Q,M,f,W⟩:=R;obtain⟨⟨n,g⟩,_⟩:=qU f t;obtain⟨d,L,p2⟩:=Nu (x:=0) (Fit.int n g T) f;exact⟨⟨d,L⟩,K,Q,by rw[W];exact p2⟩
  rintro⟨d,z⟩;refine AK.rO 2 3 0 (E:=67) (k:=2) (cl:=Hc d) (by decide) rfl rfl rfl (λ_ h=>by grind) ?_;refine bt rfl ay ?_;refine AK.mZ ⟨((d,s.2),k1+1+1),y.Xo.spo z,by grind,by grind⟩ [0] rfl rfl rfl rfl rfl rfl rfl rfl ?_ rfl rfl rfl rfl iz;simp
 refine AK.rO 2 3 0 (E:=67) (k:=2) (cl:=Hc s.1) (by decide) rfl rfl rfl (λ_ h=>h) ?_;refine aX [(20,ae),(35,ae),(45,ae)] rfl (by simp[H,G,A]) ?_;refine AK.mZ ⟨(s,k1+1+1),y.Xo,by grind,by grind⟩ [0] rfl rfl rfl rfl rfl rfl rfl rfl ?_ rfl rfl rfl rfl iz;simp
end R1
end Go.AM
namespace Go.AM.R1
def Xp(m:Nat)(b:Nat->Int)(d:Bytes b)(f:m<=1048576):Xm m b:=by
 refine ef.JS Tryz.func5 rfl rfl (db rfl) (AK.of_code ?_);refine bt rfl ay ?_;refine AK.cP (PN m b f) [] rfl (λ_=>rfl) ?_;rintro⟨c,hm'⟩;refine bt rfl ay ?_;refine AK.cP (D5 c b d 0 (by omega) hm') [1] rfl (λ_=>rfl) ?_;rintro⟨⟨s,k⟩,a,_,hk⟩;simp only at a hk;refine bt rfl ay ?_;refine AK.cP (gF c b d k 2 (by omega) hm' (by omega)) [1] rfl (λ_=>rfl) ?_;rintro⟨u,g,i⟩;refine bt rfl (by simp only[az,bD];omega) ?_;refine AK.cP (gF c b d (k+1) 24 (by omega) hm' (by omega)) [1] rfl (λ_=>rfl) ?_;rintro⟨w,w0,w1⟩;refine bt rfl (by simp only[az,bD];omega) ?_;refine AK.cP (Nv c b d (k+1+1) (by omega) hm') [1] rfl (λ_=>rfl) ?_;intro q;refine bt rfl ay ?_;refine AK.freeze 3 0 rfl rfl rfl ?_;have e:1<=1+u+w / 23/\1+u+w / 23<=3:=by omega
 refine AK.iU (λ_ _ _ h=>⟨⟨(s,1+u+w / 23,q.t),a.size,a.smT,a.num,e,a.an⟩,h⟩) ?_;refine AK.RU tok [] rfl ?_ rfl rfl rfl xG;simp
section
variable {X:Cx ag}
def Gb(a:List (Int×Int))(h:Int×Int)(m:iQ a=ab)(j:iQ (a++[h])=ab):Ev X 55 [cH.sl a,cH.sl (a++[h])] [] (dI (-1)) []:=by
 refine Ev.bQ Tryz.func55 rfl λq=>?_;have p:=j;simp only[iQ,bR,a9,cX,ig]at p;have k:=zR (X:=X) a (by omega);have n:=zR (X:=X) (a++[h]) (by grind);have o:bL X [(54,oM)]:=.cons wh .nil;refine bn o [(11,ae),(15,ae)] rfl ?_ ?_
 .simp only[az,m,j,cH.list_fn,jD,aG,aE];and_intros<;>first|rfl|exact cH.aO _
 refine AK.cQ k [] rfl ?_;refine bt rfl ay ?_;refine AK.cQ n [] rfl ?_;obtain⟨b,g,l⟩:∃b,b=a/\b.length<=8:=⟨a,rfl,by omega⟩
 cases a<;>(
  refine bt rfl ay ?_;refine AK.loop (λi=>i<=b.length) (λi:Nat=>[(5,.e (.one (.c (lk (b.drop i))))),(6,.e (.one (.c (lk (b.drop i++[h]))))),(7,dI i)]) (λ_=>[]) (λi=>b.length-i) 0 (by omega) (.cons (by rw[g];rfl) (.cons (by rw[g];rfl) (cD rfl (by simp)))) rfl ?_;intro i hi;by_cases d:i<b.length
  .rw[zS (i:=i) (by omega)]
   generalize b.getD i (0,0)=x at *;generalize f:b.drop (i+1)=r;cases r<;>(
    refine bt rfl ay ?_;refine AK.law (zg rfl Tryz.underlying162 rfl rfl rfl) rfl rfl ?_;refine aX [(22,ab)] rfl rfl ?_;refine AK.one (OA.kT (fD rfl) (zg rfl Tryz.underlying162 rfl rfl rfl)) rfl ?_;refine aX [(22,ab),(25,ab),(36,ae)] rfl ?_ ⟨i+1,d,by omega,.cons (by rw[f];rfl) (.cons (by rw[f];rfl) (cD rfl ?_)),rfl⟩
    .simp[bD];omega
    .simp)
  obtain rfl:i=b.length:=by omega
  rw[qp];refine bt rfl ay ?_;refine AK.law (rP rfl Tryz.underlying162 rfl rfl rfl) rfl rfl ?_;refine aX [(22,ae),(25,ae)] rfl (by simp) (AK.leave rfl rfl ?_)
  exact bt rfl ay (AK.bz rfl))
def BS(a:List (Int×Int))(h:Int×Int)(c:iQ a=ab)(b:iQ (a++[h])=ab):Ev X 17 [cH.sl a,cH.sl (a++[h])] [] (dB ab) []:=by refine Ev.bQ Tryz.func17 rfl λe=>?_;have d:bL X [(54,oM),(55,pU [cH.sl a,cH.sl (a++[h])] (dI (-1)))]:=.cons wh (.cons (rQ (Gb a h c b)) .nil);refine bn d [(7,ab),(11,ab),(18,ab)] rfl ?_ (AK.bz rfl);simp only[az,c,b,cH.list_fn,aG,aE];and_intros<;>first|rfl|exact cH.aO _|(simp;omega)
end
def Gc(k:Int)(s x:bk)(b:kM s)(c:kM x)(j:s.2.1.length<=4000000)(h:∀y∈s.2.1,eN k x y.1=eN k s y.1):Ev (Cx.beside ag) 16 [dI k,po s,po x] [] (dB ab) []:=by
 refine Ev.bQ Tryz.func16 rfl λg=>?_;refine bt rfl ay ?_;refine AK.loop (λi=>i<=s.2.1.length) (λi:Nat=>[(0,dI k),(4,.e (.one (.ptr 0 0))),(5,.e (.one (.ptr 1 0))),(7,dI i)]) (λ_=>[xY s,xY x]) (λi=>s.2.1.length-i) 0 (by omega) (cD rfl (by simp)) rfl ?_;intro i hi;by_cases a:i<s.2.1.length
 .have d:s.2.1.getD (i:Int).toNat fi.cd=s.2.1.getD i (0,[]):=rfl;have e:=h _ (fj a (0,[]));generalize s.2.1.getD i (0,[])=y at *;have f:bL (Cx.beside ag) [(14,rS),(15,pU [cF.sl ((eN k s y.1).getD []),cF.sl ((eN k s y.1).getD [])] (dB ab))]:=.cons xM (.cons (rQ (L8 _)) .nil);refine bn f [(16,ab),(46,ae),(51,ae)] rfl ?_ ⟨i+1,a,by omega,cD rfl (by simp),rfl⟩;simp only[az,d,cP.list_fn,fi.list_fn,cH.list_fn,e,bD];and_intros<;>first|rfl|exact cP.aO _|exact fi.aO _|exact cH.aO _|exact b|exact c|omega|simp;omega|simp
 obtain rfl:i=s.2.1.length:=by omega
 refine aX [(16,ae)] rfl (by simp) (AK.leave rfl rfl ?_);exact bt rfl ay (AK.bz rfl)
def Ji{s:bk}{by_:Int}{t:List bw}(c:rX s)(h:(jc 7 s by_ t).2=ab):Sv 7 s by_ t/\jc 7 s by_ t=(c9 7 s by_ t,ab):=by
 unfold jc at *;split at h
 .rename_i a;have b:fW 7 s t=ae:=by grind
  exact⟨⟨iR.1 a.1,c,a.2.1,a.2.2,b⟩,by simp[a,b]⟩
 .cases h
def Sv.size{k:Int}{s:bk}{by_:Int}{t:List bw}(h:Sv k s by_ t)(a:lq s):lq (c9 k s by_ t):=by
 have:=vg (k:=k) (by_:=by_) (t:=t) a
 rwa [D3 (iR.2 h.st) h.by' h.tr,h.fu]at this
def Sv.an{k:Int}{s:bk}{by_:Int}{t:List bw}(h:Sv k s by_ t):(u7 (c9 k s by_ t).2.1).length<=(u7 s.2.1).length+240:=by have:=zO (no:=c6 s) (k:=k) h.tr;simp only[c9,u7,List.flatMap_append,cX,sh,List.flatMap_nil,iD];omega
def jJ.smT{k:Int}{s:bk}(h:jJ k s)(a:lq s)(c:(u7 s.2.1).length<=4000000):NR s:=by
 have d:(bE s.1).length<=4*s.1.length:=mF λp b=>by rw[jT];exact(h.pk p b).len.2
 have:=h.len;exact⟨⟨a.p,a.s2,a.sn,c⟩,a.p2,by omega⟩
def FE(p A:aj×ah)(m:Nat)(b:Nat->Int)(E:Bytes b)(_:m<=9223372036854775807):Ev (Cx.beside ag) 4 [.e (.one (.c (.sl ae 1 m (Hl b))))] (Xj p A) (dB ab) (Xj p A):=by
 refine Ev.bQ Tryz.func4 rfl λL=>?_;by_cases M:1048576<m
 .refine aX [(17,ab)] rfl (by simp;omega) (AK.dk [0,1,2] rfl ?_ rfl rfl rfl tF);simp
 refine aX [(17,ae)] rfl (by simp;omega) ?_;refine AK.cP (Xp m b E (by omega)) [] rfl (λ_=>rfl) ?_;rintro⟨⟨s,by_,t⟩,f,l,a,o,u⟩;simp only at f l a o u;have k:fI 7 s=ab->BL 7 s:=λh=>(iR.1 h).save a;have J:=yQ (X:=Cx.beside ag) 7 s by_ t f a k;have B:=yO p A 7 s by_ t f l a (by simp only[bD];omega) k;rw[F5]at B;refine bt rfl ay ?_;refine AK.cQ J [] rfl ?_;refine bt rfl ay ?_;refine AK.cQ B [0,1,2] rfl ?_;have j:=FA (X:=Cx.beside ag) (jc 7 s by_ t).1 (vg f);have v:=Ji (s:=s) (by_:=by_) (t:=t) a;generalize jc 7 s by_ t=q at *;obtain⟨x,ok⟩:=q;have c1:bL (Cx.beside ag) [(8,pU [po x,po x] (dB ab))]:=.cons (rQ j) .nil;cases ok with
 |false =>
  refine bn c1 [(44,ae),(50,ae),(53,ab),(57,ab)] rfl ?_ (AK.dk [0,1,2] rfl (by simp) rfl rfl rfl tF);simp
 |true =>
  obtain⟨g,e⟩:=v rfl;cases e;have d:=g.ok;have i:=g.size f;have C:=f.h;have w:=d.smT i (by have:=g.an;omega);have D:=Gc 7 s (c9 7 s by_ t) f.s2 i.s2 f.sn λy K=>g.Qs K;have z:=BS (X:=Cx.beside ag) s.2.2 (by_,c6 s) g.st.log d.log;have r:=g.load;have I:=iR.2 d;refine bn c1 [(44,ae),(50,ae),(53,ae)] rfl ?_ ?_
  .simp
  clear c1 j d g;have n:(c9 7 s by_ t).2.2=s.2.2++[(by_,c6 s)]:=rfl;generalize c9 7 s by_ t=x at *;obtain⟨H,G,N⟩:=x;simp only at n;subst n;refine AK.cQ (DW s f a) [] rfl ?_;have F:bL (Cx.beside ag) [(14,rS),(15,pU [cF.sl t,cF.sl t] (dB ab)),(16,pU [dI 7,po s,po (H,G,s.2.2++[(by_,c6 s)])] (dB ab)),(17,pU [cH.sl s.2.2,cH.sl (s.2.2++[(by_,c6 s)])] (dB ab)),(18,ux)] :=
   .cons xM (.cons (rQ (L8 t)) (.cons (rQ D) (.cons (rQ z) (.cons zB .nil))))
  refine bn F [(75,ab),(80,ab),(86,ab),(96,ab),(109,ab),(116,ab)] rfl ?_ (AK.dk [0,1,2] rfl ?_ rfl rfl rfl tF)
  .simp only[az,cP.list_fn,fi.list_fn,cH.list_fn,r];and_intros<;>first|rfl|exact True.intro|exact cP.aO _|exact fi.aO _|exact cH.aO _|exact i.s2|exact w|grind
  .simp only[cP.list_fn,fi.list_fn,cH.list_fn,I];simp
end Go.AM.R1
