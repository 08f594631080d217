/- Part 6. No condition. -/
import Derived.Test.YthilmklinlalbaaGreatDoorA5
set_option linter.all false
set_option maxHeartbeats 8000000
open Go.Proofs
open Go renaming Value → ah, Program → ar, TypeId → aj, Oper → au, FuncId → aJ
open Option renaming some → aa, none → af
open Bool renaming true → ab, false → ae
open List renaming getD_eq_getElem?_getD → ak, range → bh, all_eq_true → bC
open Nat renaming beq → aB, ble → bA
open Go.Proofs.Tryz renaming prog → ag
namespace Go.AM.R1
section
variable {X:Cx ag}
abbrev snB(s:fe):aR:=.cells 71 [.c (.int .i64 s.1),.c (.sl ae 2 s.2.length (cL.fn s.2))]
abbrev Mf(k:Int)(ps:List bJ)(ns:List Int):List Bs:=ns.map λn=>(de k ps n).getD []
def Py{k:Int}{ps:List bJ}{ns:List Int}{j:Nat}(h:j<ns.length):Mf k ps (ns.take (j+1))=Mf k ps (ns.take j)++[(de k ps (ns.getD j 0)).getD []]:=by grind[bY]
def Dn{k:Int}{ps:List bJ}{ns:List Int}{j:Nat}(h:j<ns.length)(a:de k ps (ns.getD j 0)=af):dL k ps ns=af:=by unfold dL;rw[aY];grind
def Bl{k:Int}{ps:List bJ}{ns:List Int}(h:∀j,j<ns.length->(de k ps (ns.getD j 0)).isSome=ab):dL k ps ns=aa (Mf k ps ns):=by unfold dL;rw[bl];grind[List.mem_iff_getElem]
def Bm(k:Int)(s:fe)(ps:List bJ)(I:s.2.length<=4000000)(D:∀x∈s.2,x.2.length<=4000000):
  Ev X 86 [dI k,NJ s,cP.sl ps] [] (O7 ((cg k s ps).getD []) (cg k s ps).isSome) []:=by
 refine Ev.bQ Tryz.func86 rfl λH=>?_;have a:bL X [(35,Dj),(135,Dm),(136,Me),(10,WN)]:=.cons Hp (.cons Mb (.cons TH (.cons t10 .nil)));cases hk:b7 k with
 |false =>
  refine aW a [(19,ab)] rfl ?_ (AK.bz rfl ?_)
  .simp[hk]
  .simp[cg,hk]
 |true =>
 refine aW a [(19,ae),(1000004,ab)] rfl (by simp[hk]) ?_;refine AK.iM 8 82 2 rfl rfl ?_;refine b8 a rfl ay ?_;refine AK.cE 2 (λi=>i<=s.2.length/\∀j,j<i->(fileOf k ps (s.2.getD j ([],[]))).isSome=ab) (λi:Nat=>[(0,dI k),(2,cP.sl ps),(4,.e (.one (.ptr 0 0))),(8,.e (.one (.vec 1 2 (c8 k ps (s.2.take i)).length (cF.fn (c8 k ps (s.2.take i)))))),(9,dI i)]) (λi=>[snB s,.vec 82 2 (c8 k ps (s.2.take i)).length (cF.fn (c8 k ps (s.2.take i)))]) (λi=>s.2.length-i) 0 rfl (by simp[c8]) rfl (by simp[c8]) rfl ⟨by omega,by omega⟩ ?_;rintro i ⟨hi,A⟩;by_cases h:i<s.2.length
 .have B:=D _ (l7 (d:=([],[])) h);have f:=pU (k:=k) (ps:=ps) h;have w:(c8 k ps (s.2.take i)).length=i:=by simp[c8];omega
  have b:s.2.getD (i:Int).toNat cL.cd=s.2.getD i ([],[]):=by grind
  have l:=pV (k:=k) (ps:=ps) h;generalize F:s.2.getD i ([],[])=x at B f b l;generalize c8 k ps (s.2.take i)=fs at *;refine aW a [(25,ab),(1000008,ab)] rfl (by simp;omega) ?_;refine AK.iM 10 9 1 rfl rfl ?_;refine b8 a rfl ay ?_;refine AK.cE 3 (λj=>j<=x.2.length/\∀q,q<j->(de k ps (x.2.getD q 0)).isSome=ab) (λj:Nat=>[(0,dI k),(2,cP.sl ps),(4,.e (.one (.ptr 0 0))),(8,.e (.one (.vec 1 2 fs.length (cF.fn fs)))),(9,dI i),(10,.e (.one (.vec 2 1 (Mf k ps (x.2.take j)).length (cS.fn (Mf k ps (x.2.take j)))))),(11,dI j)]) (λj=>[snB s,.vec 82 2 fs.length (cF.fn fs),.vec 9 1 (Mf k ps (x.2.take j)).length (cS.fn (Mf k ps (x.2.take j)))]) (λj=>x.2.length-j) 0 rfl (by simp) rfl (by simp) rfl ⟨by omega,by omega⟩ ?_;rintro j ⟨J,y⟩;by_cases z:j<x.2.length
  .have c:x.2.getD (j:Int).toNat cI.cd=x.2.getD j 0:=by grind
   cases m:de k ps (x.2.getD j 0)with
   |none =>
    have e:fileOf k ps x=af:=by simp[fileOf,Dn z m]
    refine aW a [(37,ab),(56,ab)] rfl ?_ (AK.fQ (AK.sY (cw.zero rfl ?_)))
    .simp only[az,b,c,m,cP.list_fn,cP.aO];grind
    .rw[l e];simp
   |some q =>
    have g:=Py (k:=k) (ps:=ps) z;rw[m]at g;have o:(Mf k ps (x.2.take j)).length=j:=by grind
    have p:=cS.cy (Mf k ps (x.2.take j)) q;refine aW a [(37,ab),(56,ae)] rfl ?_ (AK.aQ (j+1) rfl ?_ ?_ ⟨z,λr G=>?_⟩ (by omega))
    .simp only[az,b,c,m,cP.list_fn,cP.aO,o,bD,show i9.bytes=16 from rfl];grind
    .rw[g];simp only[az.cat,az,b,c,m,cP.list_fn,cX,ig,aG,aE];and_intros<;>first|exact cA.same|exact p|rfl|omega
    .rw[g];simp only[az.cat,az,b,c,m,cP.list_fn,cX,ig,aG,aE];and_intros<;>first|exact cA.same|exact p|rfl|omega
    grind
  .obtain rfl:j=x.2.length:=by omega
   have u:=Bl y;rw[dq];have o:(Mf k ps x.2).length=x.2.length:=by simp
   refine aW a [(37,ae)] rfl (by simp only[az,b];simp[h]) (AK.leaveD rfl rfl ?_);cases n:fT (Mf k ps x.2)with
   |none =>
    have e:fileOf k ps x=af:=by simp[fileOf,u,n]
    refine aW a [(68,ab)] rfl ?_ (AK.fQ (cw.zero rfl ?_))
    .simp only[az,cS.list_fn,cS.aO,n];simp
    .rw[l e];simp
   |some t =>
    have e:fileOf k ps x=aa (x.1,t):=by simp[fileOf,u,n]
    rw[e]at f;have C:=cF.cy fs (x.1,t);refine aW a [(68,ae)] rfl ?_ (AK.aQ (i+1) rfl ?_ ?_ ⟨h,λr G=>?_⟩ (by omega))
    .simp only[az,b,cS.list_fn,cS.aO,n,w,bD,show i82.bytes=32 from rfl];grind
    .rw[f];simp only[az.cat,az,b,cS.list_fn,n,ij,cX,ig,aG,aE];and_intros<;>first|exact cA.same|exact C|rfl|omega
    .rw[f];simp only[az.cat,az,b,cS.list_fn,n,ij,cX,ig,aG,aE];and_intros<;>first|exact cA.same|exact C|rfl|omega
    grind
 .obtain rfl:i=s.2.length:=by omega
  rw[dq];have E:s.2.all (λx=>(fileOf k ps x).isSome)=ab:=bC.2 λx B=>by grind[List.mem_iff_getElem]
  refine aW a [(25,ae)] rfl (by simp) (AK.leaveD rfl rfl ?_);cases v:cC (c8 k ps s.2)with
  |false =>
   refine aW a [(83,ab)] rfl ?_ (AK.bz rfl ?_)
   .simp[cF.list_fn,cF.aO,v]
   .simp[cg,v]
  |true =>
   refine aW a [(83,ae)] rfl ?_ (AK.bz rfl ?_)
   .simp[cF.list_fn,cF.aO,v]
   .simp[cg,v,hk,E]
abbrev x3:dv:=Fc aI (Fh cL) (aL cP) (λk s ps=>O7 ((cg k s ps).getD []) (cg k s ps).isSome) λ_ s _=>[s.2.length<=4000000,∀x∈s.2,x.2.length<=4000000]
def FI:er X 86 x3:=.Ld λk s ps h=>Bm k s ps h.1 h.2
abbrev tp:=Int×Int
def gR(h:tp):Bool:=decide (1<=h.1/\h.1<=2)&&decide (1<=h.2/\h.2<=20)
def iQ(l:List tp):Bool:=(bh l.length).all (λi=>gR (l.getD i (0,0)))&&decide (l.length<=9)
abbrev ZQ(h:tp):D:=.e (.agg [.c (.int .i64 h.1),.c (.int .i64 h.2)])
def IP(h:tp):Ev X 87 [ZQ h] [] (dB (gR h)) []:=by
 refine Ev.bQ Tryz.func87 rfl λb=>?_;have a:bL X [(23,Da)]:=.cons Fz .nil;by_cases c:1<=h.1/\h.1<=2
 .exact aW a [(6,ab)] rfl (by simp[c]) (AK.bz rfl (by simp[gR,c]))
 .exact aW a [(6,ae)] rfl (by simp;omega) (AK.bz rfl (by simp only[az,gR,iC c];simp))
def IQ(l:List tp):Ev X 36 [cH.sl l] [] (dB (iQ l)) []:=by
 refine Ev.bQ Tryz.func36 rfl λf=>?_;have d:=f.sl 0 rfl;have b:bL X [(87,kL UA (λh=>dB (gR h)) λ_=>[])]:=.cons (.pR λh _=>IP h) .nil;refine b8 b rfl ay ?_;unfold iQ;refine AK.kg (λi=>i<=l.length/\∀j,j<i->gR (l.getD j (0,0))=ab) (λi:Nat=>[(0,cH.sl l),(3,dI i)]) (λ_=>[]) (λi=>l.length-i) 0 rfl (by simp) rfl ay ⟨by omega,by omega⟩ ?_;rintro i ⟨hi,a⟩;by_cases h:i<l.length
 .have e:l.getD i cH.cd=l.getD i (0,0):=rfl;cases c:gR (l.getD i (0,0))with
  |false =>
   refine aW b [(7,ab),(15,ab)] rfl ?_ (AK.ir (cw.zero rfl ?_))
   .simp[-ak,e,c,h]
   .rw[iP h c];simp
  |true =>
   refine aW b [(7,ab),(15,ae)] rfl ?_ (AK.gb (i+1) rfl (by simp) rfl ay ⟨h,kn a c⟩ (by omega));simp[-ak,e,c,h,bD];omega
 .obtain rfl:i=l.length:=by omega
  refine aW b [(7,ae)] rfl (by simp) (AK.leave rfl rfl ?_);exact b8 b rfl ay (AK.bz rfl (by rw[dE.2 a];simp;omega))
abbrev oL:dv:=kL (aL cH) (λl=>dB (iQ l)) λ_=>[]
def Pz:er X 36 oL:=.pR λl _=>IQ l
def bE(ps:List bJ):List Int:=ps.flatMap λp=>p.2.map (·.1)
def Dp{α:Type}(f:α->Int)(d:α)(l:List α)(i:Nat):Bool:=i==0||decide (f (l.getD (i-1) d)<f (l.getD i d))
def mz(k:Int)(ps:List bJ)(i:Nat):Bool:=gx k (ps.getD i (0,[]))&&Dp (·.1) (0,[]) ps i
def ko(k:Int)(s:bk)(i:Nat):Bool:=decide (1<=(s.2.1.getD i (0,[])).1/\(s.2.1.getD i (0,[])).1<=20)&&Dp (·.1) (0,[]) s.2.1 i&&(cg k (s.2.1.getD i (0,[])) s.1).isSome
def fI(k:Int)(s:bk):Bool:=(bh s.1.length).all (mz k s.1)&&decide (bE s.1).Nodup&&(bh s.2.1.length).all (ko k s)&&b7 k&&iQ s.2.2&&decide (s.1.length<=20)
def x4{ps:List bJ}{i:Nat}(h:i<ps.length):bE (ps.take (i+1))=bE (ps.take i)++(ps.getD i (0,[])).2.map (·.1):=by rw[bY h (0,[])];simp[bE]
def IS{ps:List bJ}{i:Nat}(h:¬(bE (ps.take i)).Nodup):¬(bE ps).Nodup:=λa=>h (by
 have:bE ps=bE (ps.take i)++bE (ps.drop i):=by unfold bE;grind[List.take_append_drop]
 grind)
abbrev Q7(s:bk):aR:=.cells 27 [.c (.sl ae 2 s.1.length (cP.fn s.1)),.c (.sl ae 2 s.2.1.length (fi.fn s.2.1)),.c (.sl ae 2 s.2.2.length (cH.fn s.2.2))]
def Mg(k:Int)(s:bk)(x:fe)(c:x.2.length<=4000000)(a:∀y∈x.2,y.2.length<=4000000):Ev X 34 [dI k,pn s,NJ x] [] (dB (cg k x s.1).isSome) []:=by
 refine Ev.bQ Tryz.func34 rfl λd=>?_;have b:bL X [(86,x3)]:=.cons FI .nil;have e:(x.1,cL.list x.2.length (cL.fn x.2))=x:=by rw[cL.list_fn]
 refine b8 b rfl ?_ (AK.bz rfl ?_)
 .simp only[az,cL.list_fn,cL.aO,cP.aO,c,aG,aE];exact a
 .simp[cL.list_fn,cP.list_fn]
abbrev Mh:dv:=Fc aI S5 (Fh cL) (λk s x=>dB (cg k x s.1).isSome) λ_ _ x=>[x.2.length<=4000000,∀y∈x.2,y.2.length<=4000000]
def TJ:er X 34 Mh:=.Ld λk s x h=>Mg k s x h.1 h.2
def qO{α:Type}{f:α->Int}{d:α}{l:List α}{i:Nat}(h:i≠0):Dp f d l i=decide (f (l.getD (i-1) d)<f (l.getD i d)):=by unfold Dp;grind
def Dq(k:Int)(s:bk)(L:kM s)(O:s.1.length<=4000000)(Q:s.2.1.length<=4000000):Ev X 9 [dI k,pn s] [] (dB (fI k s)) []:=by
 refine Ev.bQ Tryz.func9 rfl λP=>?_;have c:bL X [(32,Dl),(33,Rp),(23,Da),(34,Mh),(35,Dj),(36,oL)]:=.cons Ma (.cons WM (.cons Fz (.cons TJ (.cons Hp (.cons Pz .nil)))));refine aW c [(1000002,ab)] rfl ay ?_;refine AK.iM 5 3 1 rfl rfl ?_;refine b8 c rfl ay ?_;unfold fI;refine AK.cE 2 (λi=>i<=s.1.length/\(∀j,j<i->mz k s.1 j=ab)/\(bE (s.1.take i)).Nodup/\(bE (s.1.take i)).length<=4*i) (λi:Nat=>[(0,dI k),(3,.e (.one (.ptr 0 0))),(5,.e (.one (.vec 1 1 (bE (s.1.take i)).length (cI.fn (bE (s.1.take i)))))),(6,dI i)]) (λi=>[Q7 s,.vec 3 1 (bE (s.1.take i)).length (cI.fn (bE (s.1.take i)))]) (λi=>s.1.length-i) 0 rfl (by simp[bE]) rfl (by simp[bE]) rfl ⟨by omega,by omega,by simp[bE],by simp[bE]⟩ ?_;rintro i ⟨hi,g,z,M⟩;by_cases h:i<s.1.length
 .have y:=x4 h;have F:=IS (ps:=s.1) (i:=i+1);have m:s.1.getD i cP.cd=s.1.getD i (0,[]):=rfl;have n:s.1.getD (i-1) cP.cd=s.1.getD (i-1) (0,[]):=rfl;have b:mz k s.1 i=(gx k (s.1.getD i (0,[]))&&Dp (·.1) (0,[]) s.1 i):=rfl;have E:=qO (f:=λp:bJ=>p.1) (d:=(0,[])) (l:=s.1) (i:=i);generalize G:s.1.getD i (0,[])=p at *;generalize s.1.getD (i-1) (0,[])=p' at *;cases t:gx k p with
  |false =>
   rw[t,sr]at b;refine aW c [(14,ab),(25,ab),(44,ab)] rfl ?_ (AK.fQ (cw.zero rfl ?_))
   .simp[-ak,m,t,eg.list_fn,eg.aO,h]
   .rw[iP h b];simp
  |true =>
   have N:p.2.length<=4:=by grind[pX]
   rw[t,fO]at b;cases u:Dp (·.1) (0,[]) s.1 i with
   |false =>
    have r:i≠0:=by rintro rfl;cases u
    have B:¬p'.1<p.1:=by grind
    refine aW c [(14,ab),(25,ae),(28,ab),(42,ab),(44,ab)] rfl ?_ (AK.fQ (cw.zero rfl ?_))
    .simp[-ak,m,n,t,eg.list_fn,eg.aO,h,bD];omega
    .rw[iP h (b.trans u)];simp
   |true =>
   rw[u]at b;apply AK.join [(0,dI k),(3,.e (.one (.ptr 0 0))),(5,.e (.one (.vec 1 1 (bE (s.1.take i)).length (cI.fn (bE (s.1.take i)))))),(6,dI i),(7,dI 0)] [Q7 s,.vec 3 1 (bE (s.1.take i)).length (cI.fn (bE (s.1.take i)))]
   .intro x;by_cases r:i=0
    .subst r;refine aW c [(14,ab),(25,ae),(28,ae),(44,ae)] rfl ?_ (x _ _ rfl ?_)
     .simp[-ak,m,t,eg.list_fn,eg.aO,h]
     .simp
    .have B:p'.1<p.1:=by grind
     refine aW c [(14,ab),(25,ae),(28,ab),(42,ae),(44,ae)] rfl ?_ (x _ _ rfl ?_)
     .simp[-ak,m,n,t,eg.list_fn,eg.aO,h,bD];omega
     .simp
   generalize bE (s.1.take i)=ns at *;refine AK.cE 2 (λj=>j<=p.2.length/\(ns++(p.2.take j).map (·.1)).Nodup) (λj:Nat=>[(0,dI k),(3,.e (.one (.ptr 0 0))),(5,.e (.one (.vec 1 1 (ns++(p.2.take j).map (·.1)).length (cI.fn (ns++(p.2.take j).map (·.1)))))),(6,dI i),(7,dI j)]) (λj=>[Q7 s,.vec 3 1 (ns++(p.2.take j).map (·.1)).length (cI.fn (ns++(p.2.take j).map (·.1)))]) (λj=>p.2.length-j) 0 rfl (by simp) rfl (by simp) rfl ⟨by omega,by grind⟩ ?_;rintro j ⟨R,C⟩;by_cases o:j<p.2.length
   .have A:p.2.getD j eg.cd=hI p j:=rfl;have w:ns++(p.2.take (j+1)).map (·.1)=(ns++(p.2.take j).map (·.1))++[(hI p j).1]:=by grind[bY]
    have v:(ns++(p.2.take j).map (·.1)).length=ns.length+j:=by grind
    generalize ns++(p.2.take j).map (·.1)=a at *;cases J:a.contains (hI p j).1 with
    |true =>
     refine aW c [(53,ab),(67,ab)] rfl ?_ (AK.fQ (AK.sY (cw.zero rfl ?_)))
     .simp[-ak,-List.contains_eq_mem,m,A,h,o,J,cI.list_fn,cI.aO]
     .have K:¬(bE s.1).Nodup:=F (by
       have e:ns++p.2.map (·.1)=(ns++(p.2.take (j+1)).map (·.1))++(p.2.drop (j+1)).map (·.1):=by grind[List.take_append_drop]
       grind)
      simp[K]
    |false =>
     have H:=cI.cy a (hI p j).1;have D:cI.list (ns.length+j) (cI.fn a)=a:=by rw[<-v];exact cI.list_fn a
     refine aW c [(53,ab),(67,ae)] rfl ?_ (AK.aQ (j+1) rfl ?_ ?_ ⟨o,?_⟩ (by omega))
     .simp[-ak,-List.contains_eq_mem,m,A,h,o,J,cI.list_fn,cI.aO,v,D,bD,show i3.bytes=8 from rfl];omega
     .rw[w];simp only[az.cat,az,cf,m,A,cX,ig,aG,aE];and_intros<;>first|exact cA.same|exact H|rfl|omega
     .rw[w];simp only[az.cat,az,cf,m,A,cX,ig,aG,aE];and_intros<;>first|exact cA.same|exact H|rfl|omega
     grind
   .obtain rfl:j=p.2.length:=by omega
    rw[dq]at C⊢;refine aW c [(53,ae)] rfl ?_ (AK.leaveD rfl rfl ?_)
    .simp[-ak,m,h]
    refine b8 c rfl ?_ (AK.aQ (i+1) rfl ?_ ?_ ⟨h,kn g b,by grind,by grind⟩ (by omega))
    .simp[bD];omega
    .rw[y];simp
    .rw[y];simp
 obtain rfl:i=s.1.length:=by omega
 rw[dq]at z⊢;refine aW c [(14,ae)] rfl (by simp) (AK.leaveD rfl rfl ?_);refine b8 c rfl ay ?_;rw[dE.2 g,dc z,fO,fO];generalize bE s.1=ns;refine AK.cE 2 (λi=>i<=s.2.1.length/\(∀j,j<i->ko k s j=ab)) (λi:Nat=>[(0,dI k),(3,.e (.one (.ptr 0 0))),(8,dI i)]) (λ_=>[Q7 s,.vec 3 1 ns.length (cI.fn ns)]) (λi=>s.2.1.length-i) 0 rfl (by simp) rfl (by simp) rfl ⟨by omega,by omega⟩ ?_;rintro i ⟨hi,g⟩;by_cases h:i<s.2.1.length
 .have m:s.2.1.getD i fi.cd=s.2.1.getD i (0,[]):=rfl;have n:s.2.1.getD (i-1) fi.cd=s.2.1.getD (i-1) (0,[]):=rfl;have q:=L _ (l7 (d:=(0,[])) h);have b:ko k s i=(decide (1<=(s.2.1.getD i (0,[])).1/\(s.2.1.getD i (0,[])).1<=20)&&Dp (·.1) (0,[]) s.2.1 i&&(cg k (s.2.1.getD i (0,[])) s.1).isSome):=rfl;have E:=qO (f:=λp:fe=>p.1) (d:=(0,[])) (l:=s.2.1) (i:=i);generalize G:s.2.1.getD i (0,[])=p at *;generalize s.2.1.getD (i-1) (0,[])=p' at *;by_cases c1:1<=p.1/\p.1<=20
  rotate_left
  .refine aW c [(85,ab),(96,ab),(116,ab),(126,ab)] rfl ?_ (AK.fQ (cw.zero rfl ?_))
   .simp[-ak,m,h];omega
   .rw[iP h (by grind)];simp
  cases u:Dp (·.1) (0,[]) s.2.1 i with
  |false =>
   have r:i≠0:=by rintro rfl;cases u
   have B:¬p'.1<p.1:=by grind
   refine aW c [(85,ab),(96,ae),(99,ab),(113,ab),(116,ab),(126,ab)] rfl ?_ (AK.fQ (cw.zero rfl ?_))
   .simp[-ak,m,n,h,c1,bD];omega
   .rw[iP h (by grind)];simp
  |true =>
   rw[dc c1,u,fO,fO]at b;cases o:(cg k p s.1).isSome with
   |false =>
    by_cases r:i=0
    .subst r;refine aW c [(85,ab),(96,ae),(99,ae),(116,ae),(126,ab)] rfl ?_ (AK.fQ (cw.zero rfl ?_))
     .simp[-ak,m,h,c1,cL.list_fn,cL.aO,cP.list_fn,cP.aO,fi.aO,cH.aO,o,q.1];grind
     .rw[iP h (b.trans o)];simp
    .have B:p'.1<p.1:=by grind
     refine aW c [(85,ab),(96,ae),(99,ab),(113,ae),(116,ae),(126,ab)] rfl ?_ (AK.fQ (cw.zero rfl ?_))
     .simp[-ak,m,n,h,c1,bD,cL.list_fn,cL.aO,cP.list_fn,cP.aO,fi.aO,cH.aO,o,q.1];and_intros<;>first|omega|grind
     .rw[iP h (b.trans o)];simp
   |true =>
    rw[o]at b;by_cases r:i=0
    .subst r;refine aW c [(85,ab),(96,ae),(99,ae),(116,ae),(126,ae)] rfl ?_ (AK.aQ 1 rfl (by simp) (by simp) ⟨h,kn g b⟩ (by omega));simp[-ak,m,h,c1,bD,cL.list_fn,cL.aO,cP.list_fn,cP.aO,fi.aO,cH.aO,o,q.1];grind
    .have B:p'.1<p.1:=by grind
     refine aW c [(85,ab),(96,ae),(99,ab),(113,ae),(116,ae),(126,ae)] rfl ?_ (AK.aQ (i+1) rfl (by simp) (by simp) ⟨h,kn g b⟩ (by omega));simp[-ak,m,n,h,c1,bD,cL.list_fn,cL.aO,cP.list_fn,cP.aO,fi.aO,cH.aO,o,q.1];and_intros<;>first|omega|grind
 obtain rfl:i=s.2.1.length:=by omega
 refine aW c [(85,ae)] rfl (by simp) (AK.leaveD rfl rfl ?_);rw[dE.2 g,fO];cases hk:b7 k
 .exact aW c [(129,ae),(134,ae)] rfl (by simp[hk]) (AK.bz rfl)
 cases I:iQ s.2.2
 .exact aW c [(129,ab),(134,ae)] rfl (by simp[hk,I,cH.list_fn,cH.aO]) (AK.bz rfl)
 exact aW c [(129,ab),(134,ab)] rfl (by simp[hk,I,cH.list_fn,cH.aO]) (AK.bz rfl (by simp;omega))
abbrev zz:dv:=ph aI S5 (λk s=>dB (fI k s)) λ_ s=>[kM s,s.1.length<=4000000,s.2.1.length<=4000000]
def IT:er X 9 zz:=.te λk s h=>Dq k s h.1 h.2.1 h.2.2
def pW{α:Type}(c:mJ α)(l:List α)(x y:α):cA (l.length+1+1) (cK (l.length+1) (cK l.length (c.fn l) λq=>[c.enc x].getD q []) λq=>[c.enc y].getD q []) (c.fn (l++[x,y])):=c.pW l x y
def u5(l:List fe):List Int:=l.flatMap λx=>wc x.2
structure SmS(s:bk):Prop where
 pN:s.1.length<=4000000
 sm:kM s
 sN:s.2.1.length<=4000000
 aN:(u5 s.2.1).length<=4000000
def Jh(n:Int):Ev X 95 [dI n] [] (dB (decide (0<=n)&&decide (n<999999999989))) []:=by
 refine Ev.bQ Tryz.func95 rfl λa=>?_;by_cases h:0<=n
 .exact aX [(5,ab)] rfl (by simp[h]) (AK.bz rfl (by simp[h]))
 .exact aX [(5,ae)] rfl (by simp[h]) (AK.bz rfl (by simp[h]))
def Gd(a b:Int):Ev X 47 [P1 a b] [] (dB (eu (a,b))) []:=by
 refine Ev.bQ Tryz.func47 rfl λe=>?_;have d:bL X [(95,kL aI (λn=>dB (decide (0<=n)&&decide (n<999999999989))) λ_=>[])]:=.cons (.pR λn _=>Jh n) .nil;unfold eu;cases h:(decide (0<=a)&&decide (a<999999999989))with
 |false=>exact aW d [(6,ae),(11,ae)] rfl (by simp[h]) (AK.bz rfl)
 |true =>
  by_cases c:1<=b
  .exact aW d [(6,ab),(11,ab)] rfl (by simp[h,c]) (AK.bz rfl (by simp[c]))
  .exact aW d [(6,ab),(11,ae)] rfl (by simp[h,c]) (AK.bz rfl (by simp[c]))
abbrev Ge:dv:=kL UA (λs=>dB (eu s)) λ_=>[]
def Nv:er X 47 Ge:=.pR λs _=>Gd s.1 s.2
def zL(l:List (Int×Int)):∀t:Tr,Tr.Ok t->(l.foldl (λt x=>t.put x.1 x.2) t).list=l.foldl fS t.list/\Tr.Ok (l.foldl (λt x=>t.put x.1 x.2) t):=by
 induction l with
 |nil=>grind
 |cons x r a =>
  grind[yb,PD]
def DV(l:List bJ)(B:l.length<=4000000)(D:(cV l).length<=100000):Ev X 12 [cP.sl l] [] (cH.sl (indexOf l)) []:=by
 refine Ev.bQ Tryz.func12 rfl λC=>?_;have d:bL X [(47,Ge)]:=.cons Nv .nil;refine cG d rfl ay ?_;refine AK.iM 3 91 2 rfl rfl ?_;refine AK.cE 1 (λi=>i<=l.length/\(cV (l.take i)).all eu=ab) (λi:Nat=>[(3,.e (.one (.vec 0 2 (cV (l.take i)).length (cH.fn (cV (l.take i)))))),(9,cP.sl l),(10,dI l.length),(11,dI i)]) (λi=>[BW (cV (l.take i))]) (λi=>l.length-i) 0 rfl ?_ rfl ?_ rfl ⟨by omega,rfl⟩ ?_
 .simp[cV]
 .simp[cV]
 rintro i ⟨hi,b⟩;by_cases h:i<l.length
 .have t:l.getD (i:Int).toNat cP.cd=l.getD i (0,[]):=by grind
  have p:=rV h;refine bn d [(12,ab)] rfl (by simp only[az,a9];omega) ?_;refine AK.cE 2 (λj=>j<=(l.getD i (0,[])).2.length/\(kO l i j).all eu=ab) (λj:Nat=>[(3,.e (.one (.vec 0 2 (kO l i j).length (cH.fn (kO l i j))))),(5,.e (.one (.ptr 1 0))),(9,cP.sl l),(10,dI l.length),(11,dI i),(16,eg.sl (l.getD i (0,[])).2),(17,dI (l.getD i (0,[])).2.length),(18,dI j)]) (λj=>[BW (kO l i j),.cells 67 [.c (.int .i64 (l.getD i (0,[])).1),.c (.sl ae 2 (l.getD i (0,[])).2.length (eg.fn (l.getD i (0,[])).2))]]) (λj=>(l.getD i (0,[])).2.length-j) 0 rfl ?_ rfl ?_ rfl ⟨by omega,by simpa[kO]using b⟩ ?_
  .simp only[kO,List.take_zero,iD,t,az.cat,az,aG,aE];and_intros<;>first|exact cA.same|rfl|omega
  .simp only[kO,List.take_zero,iD,t,az.cat,az,aG,aE];and_intros<;>first|exact cA.same|rfl|omega
  rintro j ⟨E,m⟩;obtain⟨r,z⟩:=tj (l:=l) (j:=j) h;have q:(kO l i j).length<=100000:=by grind
  have A:(l.getD i (0,[])).2.length<=100000:=by grind[Dd]
  by_cases F:j<(l.getD i (0,[])).2.length
  .have a:(l.getD i (0,[])).2.getD (j:Int).toNat eg.cd=(l.getD i (0,[])).2.getD j (0,[]):=by grind
   have k:kO l i (j+1)=kO l i j++[(((l.getD i (0,[])).2.getD j (0,[])).1,(l.getD i (0,[])).1)]:=by unfold kO;rw[l8];congr 1;rw[bY (by grind) (0,0)];grind
   have n:=cH.cy (kO l i j) (((l.getD i (0,[])).2.getD j (0,[])).1,(l.getD i (0,[])).1);cases f:eu (((l.getD i (0,[])).2.getD j (0,[])).1,(l.getD i (0,[])).1)with
   |false =>
    have v:indexOf l=[]:=by obtain⟨r,z⟩:=tj (l:=l) (j:=j+1) h;unfold indexOf;rw[aY];grind
    refine bn d [(19,ab),(29,ab)] rfl ?_ (AK.fQ (cw.zero rfl ?_))
    .simp only[az,a,f,a9,aG,aE];and_intros<;>first|rfl|omega
    .rw[v];simp
   |true =>
    refine bn d [(19,ab),(29,ae)] rfl ?_ (AK.aQ (j+1) rfl ?_ ?_ ?_ ?_)
    .simp only[az,a,f,bD,show i91.bytes=16 from rfl,a9,aG,aE];and_intros<;>first|rfl|omega
    .rw[k];simp only[cX,ig,az.cat,az,a,aG,aE];and_intros<;>first|exact n|exact cA.same|rfl|omega
    .rw[k];simp only[cX,ig,az.cat,az,a,aG,aE];and_intros<;>first|exact n|exact cA.same|rfl|omega
    .grind
    .omega
  .have y:j=(l.getD i (0,[])).2.length:=by omega
   have g:kO l i j=cV (l.take (i+1)):=by rw[p,kO];grind[List.length_map]
   refine bn d [(19,ae)] rfl ?_ (AK.leaveD rfl rfl ?_)
   .simp only[az,bS];grind
   rw[g];refine cG d rfl ?_ (AK.aQ (i+1) rfl ?_ ?_ ⟨h,g▸m⟩ (by omega))
   .simp only[az,bD,aE];omega
   .simp
   .simp
 .obtain rfl:i=l.length:=by omega
  rw[dq]at b⊢;refine bn d [(12,ae)] rfl (by simp) (AK.leaveD rfl rfl ?_);refine AK.CG (φ':=[(3,cH.sl (cV l))]) (σ':=[BW (cV l)]) ?_ rfl (by simp) rfl (by simp);have o:∀x∈cV l,bD .i64 x.1/\bD .i64 x.2:=λx w=>by have:=bC.1 b x w;simp only[eu,bR,a9]at this;simp only[bD];omega
  have c2:bL X [(42,pT [Rv (cV l)] (.e (.one (.c (tC (oQ (cV l)))))))]:=.cons (rP (zM (cV l) (by omega) o)) .nil;have hT:(oQ (cV l)).list=indexOf l:=by unfold indexOf;rw[bl b];exact(zL (cV l) .nil (by simp[Tr.Ok,Tr.list])).1
  have s:(indexOf l).length<=100000:=by have:=uq (cV l) [];unfold indexOf;grind
  rw[<-hT]at s⊢;clear hT;generalize oQ (cV l)=T at *;have u:=DX (X:=X) T (by omega)
  cases T<;>(
   refine cG c2 rfl rfl ?_;refine AK.j4 u.tO [] rfl rfl rfl rfl (by simp[tC]) rfl rfl rfl (λ_=>rfl) rfl (λ_=>rfl) rfl λ_=>?_
   exact cG c2 rfl ay (AK.bz rfl))
def qa(l:List Bs)(v:Bs):Int:=match l.findIdx? (λx=>x==v)with
 |some i=>i
 |none=>-1
def Ji{l:List Bs}{v:Bs}{i:Nat}(hi:i<l.length)(h:∀j,j<i->l.getD j []≠v)(b:l.getD i []=v):qa l v=i:=by
 have:l.findIdx? (λx=>x==v)=aa i:=by rw[rr];refine⟨hi,by grind,λj a=>?_⟩;grind
 simp only[qa,this]
def Jj{l:List Bs}{v:Bs}(h:∀j,j<l.length->l.getD j []≠v):qa l v=-1:=by
 have:l.findIdx? (λx=>x==v)=af:=by grind[List.getElem_of_mem]
 simp only[qa,this]
def Gf(l:List Bs)(v:Bs):decide (0<=qa l v)=l.contains v:=by unfold qa;grind
def Jk(l:List Bs)(v:Bs):Ev X 94 [cS.sl l,dS v] [] (dI (qa l v)) []:=by
 refine Ev.bQ Tryz.func94 rfl λe=>?_;have f:=e.sl 0 rfl;refine bt rfl ay ?_;refine AK.cE 0 (λi=>i<=l.length/\∀j,j<i->l.getD j []≠v) (λi:Nat=>[(0,cS.sl l),(1,dS v),(7,dI l.length),(8,dI i)]) (λ_=>[]) (λi=>l.length-i) 0 rfl (by simp) rfl ay rfl ⟨by omega,by omega⟩ ?_;rintro i ⟨hi,a⟩;by_cases h:i<l.length
 .have b:l.getD (i:Int).toNat cS.cd=l.getD i []:=rfl;by_cases c:l.getD i []=v
  .rw[Ji h a c];refine aX [(9,ab),(16,ab)] rfl ?_ (AK.fQ (cw.zero rfl));simp only[az,b,a9,gp,aG,aE];and_intros<;>first|exact c.symm|omega
  .refine aX [(9,ab),(16,ae)] rfl ?_ (AK.aQ (i+1) rfl ?_ ay ⟨h,λj d=>?_⟩ (by omega))
   .simp only[az,b,bD,a9,eD,aG,aE];and_intros<;>first|grind|omega
   .simp
   grind
 .rw[Jj λj d=>a j (by omega)];refine aX [(9,ae)] rfl (by simp only[az,bS];omega) (AK.leaveD rfl rfl ?_);exact bt rfl ay (AK.bz rfl)
abbrev Qn:dv:=ph (aL cS) aS (λl v=>dI (qa l v)) λ_ _=>[]
def Jl(l:List Bs)(v:Bs):Ev X 46 [cS.sl l,dS v] [] (dB (l.contains v)) []:=by refine Ev.bQ Tryz.func46 rfl λb=>?_;have a:bL X [(94,Qn)]:=.cons (.te λl v _=>Jk l v) .nil;refine b8 a rfl (by simp only[az];exact cS.aO _) (AK.bz rfl ?_);simp only[az,cS.list_fn,aE];exact Gf l v
abbrev Hz:dv:=ph (aL cS) aS (λl v=>dB (l.contains v)) λ_ _=>[]
def P3:er X 46 Hz:=.te λl v _=>Jl l v
def rY(l:List cn)(i:Nat):Bool:=(bh i).all λj=>eu (l.getD j (0,0))&&(j==0||decide ((l.getD (j-1) (0,0)).1<(l.getD j (0,0)).1))
theorem D8{l:List cn}{i:Nat}:rY l (i+1)=(rY l i&&(eu (l.getD i (0,0))&&(i==0||decide ((l.getD (i-1) (0,0)).1<(l.getD i (0,0)).1)))):=by unfold rY;rw[List.range_succ,List.all_append];simp
def zT{l:List cn}{i:Nat}(h:rY l i=ae):∀n,i<=n->rY l n=ae:=by
 intro n a;obtain⟨k,rfl⟩:=Nat.exists_eq_add_of_le a;induction k with
 |zero=>exact h
 |succ k b=>grind[D8]
def DS(l:List cn):Ev X 41 [cH.sl l] [] (dB (rY l l.length)) []:=by
 refine Ev.bQ Tryz.func41 rfl λg=>?_;have k:=g.sl 0 rfl;have a:bL X [(47,Ge)]:=.cons Nv .nil;refine b8 a rfl ay ?_;refine AK.cE 0 (λi=>i<=l.length/\rY l i=ab) (λi:Nat=>[(0,cH.sl l),(5,cH.sl l),(6,dI l.length),(7,dI i)]) (λ_=>[]) (λi=>l.length-i) 0 rfl (by simp) rfl ay rfl ⟨by omega,rfl⟩ ?_;rintro i ⟨hi,c⟩;by_cases h:i<l.length
 .have f:=D8 (l:=l) (i:=i);rw[c,fO]at f;have d:l.getD (i:Int).toNat cH.cd=l.getD i (0,0):=rfl;cases b:eu (l.getD i (0,0))with
  |false =>
   rw[zT (i:=i+1) (by grind) l.length (by omega)];refine aW a [(8,ab),(14,ab),(29,ab)] rfl ?_ (AK.fQ (cw.zero rfl));simp only[az,d,b,a9,aG,aE];and_intros<;>first|rfl|omega
  |true =>
  rw[b,fO]at f;by_cases j:i=0
  .subst j;refine aW a [(8,ab),(14,ae),(17,ae),(29,ae)] rfl ?_ (AK.aQ 1 rfl (by simp) ay ⟨h,f⟩ (by omega));simp only[az,d,b,bD,a9,bS,aG,aE];and_intros<;>first|rfl|omega
  have e:l.getD ((i:Int)-1).toNat cH.cd=l.getD (i-1) (0,0):=by rw[show((i:Int)-1).toNat=i-1 by omega];rfl
  by_cases m:(l.getD (i-1) (0,0)).1<(l.getD i (0,0)).1
  .refine aW a [(8,ab),(14,ae),(17,ab),(29,ae)] rfl ?_ (AK.aQ (i+1) rfl (by simp) ay ⟨h,by grind⟩ (by omega));simp only[az,d,e,b,bD,a9,bS,aG,aE];and_intros<;>first|rfl|omega
  .rw[zT (i:=i+1) (by grind) l.length (by omega)];refine aW a [(8,ab),(14,ae),(17,ab),(29,ab)] rfl ?_ (AK.fQ (cw.zero rfl));simp only[az,d,e,b,bD,a9,aG,aE];and_intros<;>first|rfl|omega
 .obtain rfl:i=l.length:=by omega
  rw[c];refine aW a [(8,ae)] rfl (by simp) (AK.leaveD rfl rfl ?_);exact b8 a rfl ay (AK.bz rfl)
def Iz(l:List Int):Ev X 84 [cI.sl l,cI.sl l] [] (dB ab) []:=by
 refine Ev.bQ Tryz.func84 rfl λa=>?_;have b:=a.sl 0 rfl;refine aX [(10,ae)] rfl (by simp) ?_;refine AK.cE 0 (λi=>i<=l.length) (λi:Nat=>[(0,cI.sl l),(1,cI.sl l),(5,dI i)]) (λ_=>[]) (λi=>l.length-i) 0 rfl (by simp) rfl (by simp) rfl (by omega) ?_;intro i hi;by_cases h:i<l.length
 .refine bO [(14,ab),(25,ae)] rfl ?_ (AK.aQ (i+1) rfl ?_ ?_ ?_ ?_)
  .simp only[az,bD,jR,jD,om,a9,aG,aE];and_intros<;>omega
  .simp
  .simp
  .grind
  .omega
 .refine bO [(14,ae)] rfl (by simp;omega) (AK.leaveD rfl rfl ?_);exact dm rfl ay (AK.bz rfl)
abbrev Wp:dv:=ph (aL cI) (aL cI) (λ_ _=>dB ab) λa b=>[b=a]
def ZJ:er X 84 Wp:=.te λa b h=>by have:b=a:=h;subst this;exact Iz _
def LP(l:List (Int×Int)):Ev X 29 [cH.sl l,cH.sl l] [] (dB ab) []:=by
 refine Ev.bQ Tryz.func29 rfl λa=>?_;have b:=a.sl 0 rfl;refine aX [(10,ae)] rfl (by simp) ?_;refine AK.cE 0 (λi=>i<=l.length) (λi:Nat=>[(0,cH.sl l),(1,cH.sl l),(5,dI i)]) (λ_=>[]) (λi=>l.length-i) 0 rfl (by simp) rfl (by simp) rfl (by omega) ?_;intro i hi;by_cases h:i<l.length
 .refine bO [(14,ab),(25,ae)] rfl ?_ (AK.aQ (i+1) rfl ?_ ?_ ?_ ?_)
  .simp[bD,h];omega
  .simp
  .simp
  .grind
  .omega
 .refine bO [(14,ae)] rfl (by simp;omega) (AK.leaveD rfl rfl ?_);exact dm rfl ay (AK.bz rfl)
abbrev Wq:dv:=ph (aL cH) (aL cH) (λ_ _=>dB ab) λa b=>[b=a]
def ZK:er X 29 Wq:=.te λa b h=>by have:b=a:=h;subst this;exact LP _
abbrev pB(p:bJ):aR:=.cells 67 [.c (.int .i64 p.1),.c (.sl ae 2 p.2.length (eg.fn p.2))]
def IA(p:bJ):Ev X 30 [Lh p,Lh p] [] (dB ab) []:=by
 refine Ev.bQ Tryz.func30 rfl λm=>?_;by_cases n:p.2.length<=9223372036854775807
 .refine aX [(10,ae),(18,ae)] rfl (by simp) ?_;refine AK.cE 2 (λi=>i<=p.2.length) (λi:Nat=>[(2,.e (.one (.ptr 0 0))),(3,.e (.one (.ptr 1 0))),(5,dI i)]) (λ_=>[pB p,pB p]) (λi=>p.2.length-i) 0 rfl (by simp) rfl (by simp) rfl (by omega) ?_;intro i hi;by_cases h:i<p.2.length
  .refine bO [(24,ab),(37,ae)] rfl ?_ (AK.aQ (i+1) rfl ?_ ?_ ?_ ?_)
   .simp[bD,h];omega
   .simp
   .simp
   .grind
   .omega
  .refine bO [(24,ae)] rfl (by simp;omega) (AK.leaveD rfl rfl ?_);exact dm rfl ay (AK.bz rfl)
 .exfalso;obtain⟨s,vs,d,_⟩:=m;obtain⟨o,l⟩:∃v,dt [] s v (Lh p):=by
   match vs,d with
   |[a,_],d=>exact⟨a,d.1⟩
  obtain⟨k,_,g⟩:=l
  match k,g with
  |[a,c],g =>
   have:=g.2.1;cases(show Rd s.M c (.sl ae 2 p.2.length (eg.fn p.2))from this)with
   |sl b off f j q=>omega
abbrev Wr:dv:=ph (Fh eg) (Fh eg) (λ_ _=>dB ab) λa b=>[b=a]
def ZL:er X 30 Wr:=.te λa b h=>by have:b=a:=h;subst this;exact IA _
abbrev sB(p:fe):aR:=.cells 71 [.c (.int .i64 p.1),.c (.sl ae 2 p.2.length (cL.fn p.2))]
def IB(x:fe)(b:x.2.length<=4000000):Ev X 31 [NJ x,NJ x] [] (dB ab) []:=by
 refine Ev.bQ Tryz.func31 rfl λc=>?_;have a:bL X [(84,Wp)]:=.cons ZJ .nil;refine aW a [(10,ae),(18,ae)] rfl (by simp) ?_;refine AK.cE 2 (λi=>i<=x.2.length) (λi:Nat=>[(2,.e (.one (.ptr 0 0))),(3,.e (.one (.ptr 1 0))),(5,dI i)]) (λ_=>[sB x,sB x]) (λi=>x.2.length-i) 0 rfl (by simp) rfl (by simp) rfl (by omega) ?_;intro i hi;by_cases h:i<x.2.length
 .refine bn a [(24,ab),(39,ae),(53,ab)] rfl ?_ (AK.aQ (i+1) rfl ?_ ?_ ?_ ?_)
  .simp only[az,bD,jR,jD,om,a9,aG,aE];and_intros<;>first|exact cI.aO _|omega
  .simp
  .simp
  .grind
  .omega
 .refine bn a [(24,ae)] rfl (by simp;omega) (AK.leaveD rfl rfl ?_);exact cG a rfl ay (AK.bz rfl)
abbrev Ws:dv:=ph (Fh cL) (Fh cL) (λ_ _=>dB ab) λa b=>[b=a,b.2.length<=4000000]
def ZM:er X 31 Ws:=.te λa b h=>by obtain⟨rfl,c⟩:b=a/\_:=h;exact IB _ c
abbrev Pn(s:bk):aR:=.cells 27 [.c (.sl ae 2 s.1.length (cP.fn s.1)),.c (.sl ae 2 s.2.1.length (fi.fn s.2.1)),.c (.sl ae 2 s.2.2.length (cH.fn s.2.2))]
def FA(s:bk)(b:lq s):Ev X 8 [pn s,pn s] [] (dB ab) []:=by
 refine Ev.bQ Tryz.func8 rfl λj=>?_;have a:bL X [(29,Wq),(30,Wr),(31,Ws)]:=.cons ZK (.cons ZL (.cons ZM .nil));have f:=b.p;have g:=b.sn;refine bn a [(13,ae),(21,ae),(28,ab)] rfl ?_ ?_
 .simp only[az,bD,jR,jD,om,a9,aG,aE];and_intros<;>first|exact cH.aO _|omega
 refine AK.cE 2 (λi=>i<=s.1.length) (λi:Nat=>[(2,.e (.one (.ptr 0 0))),(3,.e (.one (.ptr 1 0))),(5,dI i)]) (λ_=>[Pn s,Pn s]) (λi=>s.1.length-i) 0 rfl (by simp) rfl (by simp) rfl (by omega) ?_;intro i hi;by_cases h:i<s.1.length
 .refine bn a [(35,ab),(48,ab)] rfl ?_ (AK.aQ (i+1) rfl ?_ ?_ ?_ ?_)
  .simp only[az,bD,a9,aG,aE];and_intros<;>first|exact eg.aO _|omega
  .simp
  .simp
  .grind
  .omega
 refine bn a [(35,ae)] rfl (by simp;omega) (AK.leaveD rfl rfl ?_);refine cG a rfl ay ?_;refine AK.cE 2 (λi=>i<=s.2.1.length) (λi:Nat=>[(2,.e (.one (.ptr 0 0))),(3,.e (.one (.ptr 1 0))),(6,dI i)]) (λ_=>[Pn s,Pn s]) (λi=>s.2.1.length-i) 0 rfl (by simp) rfl (by simp) rfl (by omega) ?_;intro i hi;by_cases h:i<s.2.1.length
 .have d:=(b.s2 _ (fj h (0,[]))).1;have c:s.2.1.getD (i:Int).toNat fi.cd=s.2.1.getD i (0,[]):=by grind
  refine bn a [(54,ab),(67,ab)] rfl ?_ (AK.aQ (i+1) rfl ?_ ?_ ?_ ?_)
  .simp only[az,bD,c,cL.list_fn,a9,aG,aE];and_intros<;>first|exact cL.aO _|omega
  .simp
  .simp
  .grind
  .omega
 refine bn a [(54,ae)] rfl (by simp;omega) (AK.leaveD rfl rfl ?_);exact cG a rfl ay (AK.bz rfl)
def LZ(l:List bw):Ev X 15 [cF.sl l,cF.sl l] [] (dB ab) []:=by
 refine Ev.bQ Tryz.func15 rfl λa=>?_;have b:=a.sl 0 rfl;refine aX [(10,ae)] rfl (by simp) ?_;refine AK.cE 0 (λi=>i<=l.length) (λi:Nat=>[(0,cF.sl l),(1,cF.sl l),(5,dI i)]) (λ_=>[]) (λi=>l.length-i) 0 rfl (by simp) rfl (by simp) rfl (by omega) ?_;intro i hi;by_cases h:i<l.length
 .refine bO [(14,ab),(25,ae)] rfl ?_ (AK.aQ (i+1) rfl ?_ ?_ ?_ ?_)
  .simp[bD,h];omega
  .simp
  .simp
  .show i+1<=_;omega
  .omega
 .refine bO [(14,ae)] rfl (by simp;omega) (AK.leaveD rfl rfl ?_);exact dm rfl ay (AK.bz rfl)
end
structure WO(x:bJ):Prop where
 ex:∃no ps,1<=no/\no<=99/\0<ps.length/\ps.length<=4/\(∀q∈ps,bx q=ab)/\x=gj no 7 ps
structure WQ(x:fe):Prop where
 ex:∃no t,1<=no/\no<=20/\cC t=ab/\x=eJ no 7 t
structure D7(st:bk):Prop where
 p:∀x∈st.1,WO x
 pl:st.1.length<=20
 s:∀x∈st.2.1,WQ x
 Dp:st.2.1.Pairwise λa b=>a.1<b.1
 h:∀x∈st.2.2,(1<=x.1/\x.1<=2)/\1<=x.2/\x.2<=20
 hl:st.2.2.length<=9
 WR:st.1.Pairwise λa b=>a.1<b.1
def dF{t:List bw}(h:cC t=ab):tf t:=by
 obtain⟨j,_,_,n⟩:=ly.1 h;have i:∀f∈t,cj f.2=ab/\f.2.length<=40:=λf d=>by have:=(j f d).2;simp only[et,bR,a9]at this;grind
 refine⟨by omega,λf d=>⟨(i f d).1,by grind⟩,?_⟩;have:∀l:List bw,(∀f∈l,f.2.length<=40)->(gV l).length<=40*l.length:=by
  intro l;induction l with
  |nil=>intro _;simp[gV]
  |cons f r m =>
   intro e;have a:=m λg k=>e g (po _ k);have b:=e f lB;have c:=kP f.2;simp only[gV,se,cX,fb]at a⊢;omega
 grind
theorem Mm(no k:Int)(ps:List Bs):(gj no k ps).2.length=ps.length:=tk k ps
def WO.len{x:bJ}(h:WO x):1<=x.2.length/\x.2.length<=4:=by obtain⟨no,ps,_,_,b,a,_,rfl⟩:=h.ex;grind[Mm]
def WO.no{x:bJ}(h:WO x):1<=x.1/\x.1<=99:=by obtain⟨no,ps,h1,h2,_,_,_,rfl⟩:=h.ex;exact⟨h1,h2⟩
def WQ.no{x:fe}(h:WQ x):1<=x.1/\x.1<=20:=by obtain⟨no,t,h1,h2,_,rfl⟩:=h.ex;exact⟨h1,h2⟩
def WQ.len{x:fe}(h:WQ x):x.2.length<=6/\∀y∈x.2,y.2.length<=4000000:=by obtain⟨no,t,_,_,b,rfl⟩:=h.ex;have c:=mE b;refine⟨by simpa[eJ]using c,λy a=>?_⟩;simp only[eJ,gH]at a;obtain⟨f,d,rfl⟩:=a;have:=((dF b).tJ f d).2;have:=kP f.2;simp only[lx,jT];omega
def Hs{l:List fe}:∀(a:Int),l.Pairwise (λa b=>a.1<b.1)->(∀x∈l,a<=x.1/\x.1<=20)->(l.length:Int)<=max 0 (21-a):=by
 induction l with
 |nil=>grind
 |cons x r g =>
  intro a f c;obtain⟨i,e⟩:=jB.1 f;have h:=c x lB;have:=g (x.1+1) e λy d=>⟨by grind,(c y (po _ d)).2⟩
  grind
def D7.sl{s:bk}(h:D7 s):s.2.1.length<=20:=by have:=Hs 1 h.Dp λx a=>(h.s x a).no;omega
def D7.size{s:bk}(h:D7 s):lq s:=by have h1:=h.pl;have h2:=h.sl;have c:=h.hl;refine⟨by omega,λp b=>by have:=(h.p p b).len;omega,by omega,λx a=>?_,by omega⟩;have:=(h.s x a).len;grind
def D7.num{s:bk}(h:D7 s):rW s :=
 ⟨λx a=>by have:=(h.p x a).no;omega,λx a=>by have:=(h.s x a).no;omega,λx a=>by have:=(h.h x a).2;omega⟩
def D7.cV{s:bk}(h:D7 s):(cV s.1).length<=100000:=by
 have:∀l:List bJ,(∀x∈l,x.2.length<=4)->(R1.cV l).length<=4*l.length:=by
  intro l;induction l with
  |nil=>intro _;simp[R1.cV]
  |cons f r e =>
   intro hl;have a:=e λg d=>hl g (po _ d);have b:=hl f lB;simp only[R1.cV,se,cX,jT,fb]at a⊢;omega
 have:=this s.1 λx c=>(h.p x c).len.2;have:=h.pl;omega
def D7.nil:D7 ([],[],[]):=⟨by simp,by simp,by simp,by simp,by simp,by simp,by simp⟩
def uw(k:Int):∀(f:Nat) (no:Int)(ps:List Bs),(∀q∈ps,bx q=ab)->∀x∈eb k f no ps,∃a qs,no<=a/\a<no+(eb k f no ps).length/\0<qs.length/\qs.length<=4/\(∀q∈qs,bx q=ab)/\x=gj a k qs
 |0,_,_,_,x,b=>by simp[eb]at b
 |f+1,no,ps,c,x,b=>by
  simp only[eb]at b⊢;split at b
  .rename_i h;rw[bl h];rcases eB.1 b with rfl|b
   .grind
   .obtain⟨a,qs,e,g,i⟩:=uw k f (no+1) (ps.drop 4) (λq d=>c q (rz d)) x b;grind
  grind
def ux{α:Type}{l:List α}(h:l.length≠0)(d:α):l.getD (l.length-1) d∈l:=fj (by omega) d
def D7.cz{s:bk}(h:D7 s):1<=cz s:=by
 unfold R1.cz;split
 .omega
 .rename_i a;have:=(h.p _ (ux a (0,[]))).no;omega
def uy(k:Int):∀(f:Nat) (no:Int)(ps:List Bs),∀x∈eb k f no ps,no<=x.1
 |0,_,_,x,a=>by simp[eb]at a
 |f+1,no,ps,x,a=>by
  simp only[eb]at a;split at a
  .rcases eB.1 a with rfl|a
   .exact Int.le_refl _
   .have:=uy k f (no+1) (ps.drop 4) x a;omega
  grind
def x9(k:Int):∀(f:Nat) (no:Int)(ps:List Bs),(eb k f no ps).Pairwise λa b=>a.1<b.1
 |0,_,_=>by simp[eb]
 |f+1,no,ps=>by
  simp only[eb];split
  .refine jB.2 ⟨λx c=>?_,x9 k f (no+1) (ps.drop 4)⟩;have:=uy k f (no+1) (ps.drop 4) x c;show no<x.1;omega
  .simp
def D7.ya{s:bk}(h:D7 s):∀x∈s.1,x.1<R1.cz s:=by
 unfold R1.cz;split
 .grind
 .rename_i e;intro x c;obtain⟨i,hi,rfl⟩:=dG c;have a:s.1.getD (s.1.length-1) (0,[])=s.1[s.1.length-1]:=by grind
  rw[a];rcases cM i (s.1.length-1)with b|d
  .have:=jw.1 h.WR i (s.1.length-1) hi (by omega) b;omega
  grind
def D7.tu{s:bk}(h:D7 s):1<=c6 s/\∀x∈s.2.1,x.1<c6 s:=by
 have f:=n8 s.2.2 h.num.h;unfold c6;split
 .grind
 .rename_i e;refine⟨by omega,λx c=>?_⟩;obtain⟨i,hi,rfl⟩:=dG c;have a:s.2.1.getD (s.2.1.length-1) (0,[])=s.2.1[s.2.1.length-1]:=by grind
  rw[a];rcases cM i (s.2.1.length-1)with b|d
  .have:=jw.1 h.Dp i (s.2.1.length-1) hi (by omega) b;omega
  grind
def D7.save{s:bk}{t:List bw}{by_:Int}(h:D7 s)(j:cC t=ab)(e:1<=by_/\by_<=2)(m:fW 7 s t=ae):D7 (c9 7 s by_ t):=by
 simp only[fW,qf,bS]at m;obtain⟨u,n,r,o⟩:=m;have q:=h.cz;obtain⟨f,g⟩:=h.tu;refine⟨λx c=>?_,by simp only[c9,cX];omega,λx c=>?_,?_,λx c=>?_,by simp only[c9,cX,ig];omega,?_⟩
 .simp only[c9]at c;rcases fx.1 c with c|c
  .exact h.p x c
  .obtain⟨d,qs,a1,a2,a3,a4,a5,a6⟩:=uw 7 _ _ _ (hO (k:=7) (l:=indexOf s.1) (dF j)).1 x c;have a2:d<R1.cz s+(lQ 7 s t).length:=a2;exact⟨d,qs,by omega,by omega,a3,a4,a5,a6⟩
 .simp only[c9]at c;rcases fx.1 c with c|c
  .exact h.s x c
  .rw[fN]at c;exact⟨c6 s,t,f,by omega,j,c⟩
 .simp only[c9];rw[qd];refine⟨h.Dp,by simp,λa i b e=>?_⟩;rw[fN]at e;subst e;exact g a i
 .simp only[c9]at c;rcases fx.1 c with c|c
  .exact h.h x c
  grind
 .simp only[c9];rw[qd];refine⟨h.WR,x9 _ _ _ _,λa i b e=>?_⟩;have h1:=h.ya a i;have h2:=uy _ _ _ _ b e;omega
def zD{l:List Int}:∀{k:Nat},(lH l k).length=k->∀i,1<=i->i<k->l.getD i 0≠l.getD (i-1) 0
 |0,_,i,_,h=>by omega
 |k+1,h,i,a,c=>by
  have d:=tv l k;rw[lH]at h;split at h
  .omega
  .rename_i b;simp only[cX,ig]at h;by_cases e:i=k
   .grind
   .exact zD (k:=k) (by omega) i a (by omega)
def Br(l:List Int):(o7 l).Pairwise λx y=>x<=y:=by have:=List.pairwise_mergeSort (le:=λx y:Int=>decide (x<=y)) (λa b c e d=>by grind) (λa b=>by grind) l;exact this.imp λh=>by grind
def FO(l:List Int):(o7 l).Perm l:=List.mergeSort_perm _ _
def Bo(l:List Int):(eK (o7 l)).length=l.length↔l.Nodup:=by
 rw[<-lZ l,<-(FO l).nodup_iff];have c:=Br l;generalize o7 l=s at *;have a:∀{i:Nat} (h:i<s.length),s.getD i 0=s[i]:=λ{i} h=>by grind
 constructor
 .intro h;have d:=zD h;refine List.Pairwise.imp (R:=λx y=>x<y) (λh e=>by omega) (jw.2 λi j hi hj ZS=>?_);have b:=jw.1 c;have f:=d j (by omega) hj;rw[a hj,a (by omega)]at f;have g:=b (j-1) j (by omega) hj (by omega);by_cases e:i=j-1
  .grind
  .have:=b i (j-1) hi (by omega) (by omega);omega
 .intro h;unfold eK;rw[n9 (bc _),dq];grind[List.pairwise_iff_getElem]
def qQ{α:Type}{l:List α}{i:Nat}(h:i<l.length)(d:α):l.getD i d=l[i]:=by grind
def Bt{α:Type}{f:α->Int}{d:α}{l:List α}:(∀i,i<l.length->Dp f d l i=ab)↔l.Pairwise λx y=>f x<f y:=by
 constructor
 .intro h;have key:∀n i j (hi:i<l.length) (a:j<l.length),j=i+n->0<n->f l[i]<f l[j]:=by
   intro n;induction n with
   |zero=>grind
   |succ n g =>
    intro i j hi a b _;have c:=h j a;rw[qO (by omega),decide_eq_true_iff,qQ (by omega),qQ a]at c;by_cases e:n=0
    .subst e;grind
    grind
  exact jw.2 λi j hi a b=>key (j-i) i j hi a (by omega) (by omega)
 .intro h i hi;by_cases e:i=0
  .subst e;rfl
  .rw[qO e,decide_eq_true_iff,qQ (by omega),qQ hi];exact(jw.1 h) (i-1) i (by omega) hi (by omega)
def Bu{α:Type}{l:List α}{p:α->Bool}{d:α}:(∀i,i<l.length->p (l.getD i d)=ab)↔∀x∈l,p x=ab:=by grind[List.mem_iff_getElem]
structure rn(k:Int)(p:bJ):Prop where
 no:1<=p.1/\p.1<=99
 key:b7 k=ab
 len:1<=p.2.length/\p.2.length<=4
 rt:∀x∈p.2,right k x=ab
 Dp:p.2.Pairwise λx y=>x.1<y.1
def oM{k:Int}{p:bJ}:gx k p=ab↔rn k p:=by
 rw[pX];simp only[bR,a9,dE];have e:(∀i,i<p.2.length->iV k p i=ab)↔(∀x∈p.2,right k x=ab)/\p.2.Pairwise λx y=>x.1<y.1:=by
  rw[<-Bu (d:=(0,[])),<-Bt (f:=λx:bo=>x.1) (d:=(0,[]))];constructor
  .intro h;exact⟨λi hi=>by have:=h i hi;simp only[iV,bR]at this;exact this.1,λi hi=>by have:=h i hi;simp only[iV,bR]at this;exact this.2⟩
  .intro h i hi;simp only[iV,bR];exact⟨h.1 i hi,h.2 i hi⟩
 rw[e];constructor
 .rintro⟨⟨⟨b,j⟩,g⟩,a,c⟩;exact⟨b,j,g,a,c⟩
 .rintro⟨b,j,g,a,c⟩;grind
structure jJ(k:Int)(s:bk):Prop where
 pk:∀p∈s.1,rn k p
 pa:s.1.Pairwise λp q=>p.1<q.1
 nd:(bE s.1).Nodup
 sn:∀x∈s.2.1,(1<=x.1/\x.1<=20)/\(cg k x s.1).isSome=ab
 sa:s.2.1.Pairwise λx y=>x.1<y.1
 key:b7 k=ab
 log:iQ s.2.2=ab
 len:s.1.length<=20
def iR{k:Int}{s:bk}:fI k s=ab↔jJ k s:=by
 unfold fI;simp only[bR,a9,dE];have r:(∀i,i<s.1.length->mz k s.1 i=ab)↔(∀p∈s.1,rn k p)/\s.1.Pairwise λp q=>p.1<q.1:=by
  rw[<-Bt (f:=λp:bJ=>p.1) (d:=(0,[]))];have:(∀p∈s.1,rn k p)↔∀p∈s.1,gx k p=ab:=⟨λh p b=>oM.2 (h p b),λh p b=>oM.1 (h p b)⟩
  rw[this,<-Bu (d:=(0,[]))];constructor
  .intro h;exact⟨λi hi=>by have:=h i hi;simp only[mz,bR]at this;exact this.1,λi hi=>by have:=h i hi;simp only[mz,bR]at this;exact this.2⟩
  .intro h i hi;simp only[mz,bR];grind
 have o:(∀i,i<s.2.1.length->ko k s i=ab)↔(∀x∈s.2.1,(1<=x.1/\x.1<=20)/\(cg k x s.1).isSome=ab)/\s.2.1.Pairwise λx y=>x.1<y.1:=by
  rw[<-Bt (f:=λp:fe=>p.1) (d:=(0,[]))];have:(∀x∈s.2.1,(1<=x.1/\x.1<=20)/\(cg k x s.1).isSome=ab)↔∀x∈s.2.1,(decide (1<=x.1/\x.1<=20)&&(cg k x s.1).isSome)=ab:=by grind
  rw[this,<-Bu (d:=(0,[]))];constructor
  .intro h;exact⟨λi hi=>by have:=h i hi;simp only[ko,bR]at this⊢;grind,λi hi=>by have:=h i hi;simp only[ko,bR]at this;exact this.1.2⟩
  .intro h i hi;have a:=h.1 i hi;simp only[ko,bR]at a⊢;grind
 rw[r,o];constructor
 .rintro⟨⟨⟨⟨⟨⟨a,j⟩,l⟩,c,g⟩,m⟩,n⟩,e⟩;exact⟨a,j,l,c,g,m,n,e⟩
 .rintro⟨a,j,l,c,g,m,n,e⟩;grind
theorem LY{l:List bo}{x y:bo}(h:y∈gC l x):y=x∨y∈l:=by
 induction l with
 |nil=>simp[gC]at h;grind
 |cons z r a =>
  simp only[gC]at h;grind
def Pr{k:Int}{ps:List Bs}{y:bo}(h:y∈oZ k ps):∃p∈ps,y=(dA k p,eY p):=by
 have key:∀(ps:List Bs) (acc:List bo),y∈ps.foldl (λl p=>gC l (dA k p,eY p)) acc->y∈acc∨∃p∈ps,y=(dA k p,eY p):=by
  intro ps;induction ps with
  |nil=>grind
  |cons p r a =>
   grind[LY]
 rcases key ps [] h with h|h
 .cases h
 grind
def r5{k:Int}{ps:List bJ}{n:Int}{p:Bs}(h:de k ps n=aa p):bx p=ab/\dA k p=n/\n∈bE ps:=by
 unfold de at h;obtain⟨pk,d,a⟩:=List.exists_of_findSome?_eq_some h;unfold dY at a;split at a
 .rename_i x b;have c:x.1=n:=by simpa using List.find?_some b
  have e:=r7 b;unfold chunk eH at a;refine⟨by grind,by grind,qm.2 ⟨pk,d,gH.2 ⟨x,e,c⟩⟩⟩
 .cases a
def yt{k:Int}{ps:List bJ}{n:Int}(hk:b7 k=ab)(f:∀p∈ps,rn k p)(h:n∈bE ps):∃p,de k ps n=aa p:=by
 obtain⟨pk,c,i⟩:=qm.1 h;obtain⟨x,d,e⟩:=gH.1 i;cases j:de k ps n with
 |some p=>exact⟨p,rfl⟩
 |none =>
  have b:dY k pk n=af:=List.findSome?_eq_none_iff.1 j pk c;unfold dY at b;split at b
  .rename_i y a;have l:y.1=n:=by simpa using List.find?_some a
   have g:=(f pk c).rt y (r7 a);unfold right at g;unfold chunk at b;grind
  .rename_i a;have:=qi.1 a x d;grind
def Jf{k:Int}{ps qs:List bJ}(hk:b7 k=ab)(f:∀p∈ps,rn k p)(d:∀n∈bE qs,n∈bE ps){n:Int}{p:Bs}(h:de k qs n=aa p):de k ps n=aa p:=by obtain⟨e,i,b⟩:=r5 h;obtain⟨q,a⟩:=yt hk f (d n b);obtain⟨g,c,_⟩:=r5 a;rw[a,qP hk e g (i.trans c.symm)]
def Gh{k:Int}{ps qs:List bJ}(g:∀(n:Int)(p:Bs),de k qs n=aa p->de k ps n=aa p){x:js}{f:bw}(h:fileOf k qs x=aa f):fileOf k ps x=aa f:=by
 have key:∀l,dL k qs x.2=aa l->dL k ps x.2=aa l:=by
  intro l b;unfold dL at *;split at b
  .rename_i d;cases b;have e:∀n∈x.2,de k ps n=de k qs n:=λn a=>by have:=bC.1 d n a;obtain⟨p,c⟩:=rv.1 this;rw[c,g n p c]
   rw[bl (bC.2 λn a=>by rw[e n a];exact bC.1 d n a),qg λn a=>by rw[e n a]]
  .cases b
 unfold fileOf at *;split at h
 .cases h
 .rename_i l b;rw[key l b];exact h
def BQ{k:Int}{ps qs:List bJ}(i:∀(n:Int)(p:Bs),de k qs n=aa p->de k ps n=aa p){x:fe}{t:List bw}(h:cg k x qs=aa t):cg k x ps=aa t:=by
 unfold cg at *;split at h
 .rename_i c;cases h;simp only[bR]at c;have e:∀y∈x.2,fileOf k ps y=fileOf k qs y:=λy a=>by obtain⟨f,b⟩:=rv.1 (bC.1 c.1.2 y a);rw[b,Gh i b]
  have d:c8 k ps x.2=c8 k qs x.2:=qg λy a=>by rw[e y a]
  have g:(x.2.all λy=>(fileOf k ps y).isSome)=ab:=bC.2 λy a=>by rw[e y a];exact bC.1 c.1.2 y a
  rw[d,g,c.1.1,c.2];rfl
 .cases h
section
variable {X:Cx ag}[X.hU]
abbrev Rg:List bw:=[([97],[104,101,108,108,111])]
def LO:cC Rg=ab:=by decide +kernel
abbrev Wo(k:Nat):={q:List bw×Nat // cC q.1=ab/\k<=q.2/\q.2<=k+400}
def Pm(m:Nat)(b:Nat->Int)(j:Bytes b)(k:Nat)(hk:k<=50000)(g:m<=1048576):
  ef (ι:=Wo k) X 106 [.e (.one (.ptr 0 0))] [lu m b k] (λq=>cF.sl q.1.1) (λq=>[lu m b q.1.2]):=by
 refine ef.rm Tryz.func106 rfl rfl rfl λf=>?_;refine bt rfl ay ?_;refine AK.cP (Hh m b j k hk g) [0] rfl (λ_=>rfl) ?_;rintro⟨t,bf,xs,k1,d,l,a,c⟩;refine aX [(1000002,ab)] rfl ay ?_;refine AK.wy 3 1 (cF.fn t) rfl rfl d.rd ?_;refine bt rfl ay ?_;refine AK.cQ (zp t) [] rfl ?_;cases h:cC t with
 |true =>
  refine bt rfl ay (AK.n6 ⟨(t,k1),h,a,c⟩ (AK.dk [0] rfl ?_ rfl rfl rfl iz));simp
 |false =>
  refine bt rfl ay (AK.n6 ⟨(Rg,k1),LO,a,c⟩ (AK.dk [0] rfl ?_ rfl rfl rfl iz));refine⟨rfl,λi hi=>?_⟩;have:i=0:=by grind
  subst this;rfl
end
section
variable {X:Cx ag}
theorem vb{l:List cn}(h:rY l l.length=ab):(∀x∈l,eu x=ab)/\l.Pairwise λx y=>x.1<y.1:=by
 have a:=dE.1 h;have c:∀j,j<l.length->∀i,i<j->(l.getD i (0,0)).1<(l.getD j (0,0)).1:=by
  intro j;induction j with
  |zero=>grind
  |succ j b =>
   grind
 grind[List.getElem_of_mem,List.pairwise_iff_getElem]
def BE(l:List cn):∀a:List cn,(a++l).Pairwise (λx y=>x.1<y.1)->l.foldl fS a=a++l:=by
 induction l with
 |nil=>grind
 |cons x r b =>
  grind[Mn]
def Ja{l:List cn}(h:rY l l.length=ab)(n:Int):(oQ l).find n=kl l n:=by obtain⟨c,b⟩:=zL l .nil (by simp[Tr.Ok,Tr.list]);have a:=BE l [] (by grind[vb]);rw[oQ,uz b,c];exact dJ (kl · n) a
def yi{t:List bw}(h:cC t=ab):∀f∈t,et f.2=ab:=λf a=>((ly.1 h).1 f a).2
abbrev dV2(a:List Bs):D:=.e (.one (.vec 2 1 a.length (cS.fn a)))
def DR(q m:aj×ah)(k:Int)(t:List bw)(l:List cn)(hk:b7 k=ab)(E:cC t=ab)(C:rY l l.length=ab)(F:l.length<=4000000):
  Ev X 11 [dI k,cF.sl t,cH.sl l] (GB q m) (cS.sl (dz k t l)) (GB q m):=by
 refine Ev.bQ Tryz.func11 rfl λQ=>?_;have P:bL X [(40,kL aI (λk=>dB (b7 k)) λ_=>[]),(25,W4),(41,kL (aL cH) (λl=>dB (rY l l.length)) λ_=>[])]:=.cons t40 (.cons t25 (.cons (.pR λl _=>DS l) .nil));refine bn P [(15,ae),(20,ae),(25,ae)] rfl ?_ ?_
 .simp only[az,hk,cF.list_fn,cH.list_fn,ib,E,C];exact⟨rfl,cH.aO _,rfl,cF.aO _,rfl⟩
 have I:=vb C;have B:∀x∈l,bD .i64 x.1/\bD .i64 x.2:=λx r=>by have:=I.1 x r;simp only[eu,bR,a9]at this;simp only[bD];omega
 have hT:=Ja C;have w:=zM (X:=X) l F B;have D:∀n,Ev X 44 [.e (.one (.c (tC (oQ l)))),dI n] [] (dI (kl l n)) []:=λn=>hT n▸P2 (oQ l) n
 clear hT;generalize oQ l=T at *;have c1:bL X [(42,pT [Rv l] (.e (.one (.c (tC T)))))]:=.cons (rP w) .nil;cases T<;>(
  refine cG c1 rfl rfl ?_;refine AK.iM 8 9 1 rfl rfl ?_;refine AK.sX 3 [0,7,29,30] (λi=>i<=t.length) (λi:Nat=>[(8,dV2 ((gV (t.take i)).foldl (im k l) [])),(31,dI i)]) (λi=>GB q m++[.vec 9 1 ((gV (t.take i)).foldl (im k l) []).length (cS.fn ((gV (t.take i)).foldl (im k l) []))]) (λi=>t.length-i) 0 rfl ?_ rfl ?_ rfl (by omega) ?_
  .simp[gV]
  .simp[gV]
  intro i hi;by_cases h:i<t.length
  .have v:t.getD (i:Int).toNat cF.cd=t.getD i ([],[]):=by grind
   have b:t.getD i ([],[])∈t:=by grind
   have N:=yi E _ b;have g:=zw h;have y:=Hj t (i+1);have G:=dF E;have L:=(G.tJ _ b).1;have K:=G.all;have O:=G.len;have z:=n5 L;generalize t.getD i ([],[])=f at *;rw[g,cX]at y;have A:g9 f.2=pieces f.2:=by unfold g9;grind
   have c2:bL X [(43,kL aS (λs=>cS.sl (g9 s)) λ_=>[])]:=.cons A2 .nil;refine bn c2 [(32,ab)] rfl ?_ ?_
   .simp only[az,v,L,a9,aG,aE];and_intros<;>omega
   rw[v,A];refine AK.sX 4 [0,7,29,30,31,37,38] (λj=>j<=(pieces f.2).length) (λj:Nat=>[(8,dV2 ((gV (t.take i)++(pieces f.2).take j).foldl (im k l) [])),(39,dI j)]) (λj=>GB q m++[.vec 9 1 ((gV (t.take i)++(pieces f.2).take j).foldl (im k l) []).length (cS.fn ((gV (t.take i)++(pieces f.2).take j).foldl (im k l) [])),.cells 82 [.c (.str f.1),.c (.str f.2)]]) (λj=>(pieces f.2).length-j) 0 rfl ?_ rfl ?_ rfl (by omega) ?_
   .simp
   .simp[v]
   intro j R;have J:=uo k l (gV (t.take i)++(pieces f.2).take j) [];simp only[gG,cX,List.length_take]at J;by_cases S:j<(pieces f.2).length
   .have H:(pieces f.2).getD (j:Int).toNat cS.cd=(pieces f.2).getD j []:=by grind
    have u:bx ((pieces f.2).getD j [])=ab:=z _ (by grind);have a:(gV (t.take i)++(pieces f.2).take (j+1)).foldl (im k l) []=im k l ((gV (t.take i)++(pieces f.2).take j).foldl (im k l) []) ((pieces f.2).getD j []):=by grind[bY]
    generalize(gV (t.take i)++(pieces f.2).take j).foldl (im k l) []=out at *;generalize(pieces f.2).getD j []=p at *;have r:=cS.cy out p;refine bO [(40,ab)] rfl ?_ ?_
    .simp only[az,a9,aG,aE];and_intros<;>omega
    rw[H];refine AK.cQ (uE q m k p hk u) [0,1] rfl ?_;refine AK.cQ (D _) [] rfl ?_;have c3:bL X [(46,Hz)]:=.cons P3 .nil;by_cases d:kl l (dA k p)=0
    .cases M:out.contains p with
     |true =>
      rw[im,aY (by grind)]at a;refine bn c3 [(49,ab),(54,ae)] rfl ?_ (AK.aQ (j+1) rfl ?_ ?_ ?_ ?_)
      .simp only[az,d,M,bD,cS.list_fn,jR,a9,aG,aE];and_intros<;>first|exact cS.aO _|rfl|omega
      .rw[a];simp
      .rw[a];simp
      .grind
      .omega
     |false =>
      rw[im,bl (by grind)]at a;refine bn c3 [(49,ab),(54,ab)] rfl ?_ (AK.aQ (j+1) rfl ?_ ?_ ?_ ?_)
      .simp only[az,d,M,bD,show i9.bytes=16 from rfl,cS.list_fn,jR,a9,aG,aE];and_intros<;>first|exact cS.aO _|rfl|omega
      .rw[a];simp only[az.cat,az,cX,fb,gG,aG,aE];and_intros<;>first|exactλ_ _=>rfl|exact r|rfl|omega
      .rw[a];simp only[az.cat,az,cX,fb,gG,aG,aE];and_intros<;>first|exactλ_ _=>rfl|exact r|rfl|omega
      .grind
      .omega
    .rw[im,aY (by grind)]at a;refine bn c3 [(49,ae)] rfl ?_ (AK.aQ (j+1) rfl ?_ ?_ ?_ ?_)
     .simp only[az,bD,eD,dy,d,oi,aG,aE];and_intros<;>omega
     .rw[a];simp
     .rw[a];simp
     .grind
     .omega
   .have o:j=(pieces f.2).length:=by omega
    refine bO [(40,ae)] rfl (by simp only[az,bS];omega) (AK.leaveD rfl rfl ?_);refine dm rfl ?_ (AK.aQ (i+1) rfl ?_ ?_ ?_ ?_)
    .simp only[az,bD];omega
    .rw[g,o,dq];simp
    .rw[g,o,dq];simp
    .grind
    .omega
  .obtain rfl:i=t.length:=by omega
   rw[dq];refine bO [(32,ae)] rfl (by simp) (AK.leaveD rfl rfl ?_)
   refine dm rfl ay (AK.dk [0,1] rfl ?_ rfl rfl rfl BF);simp[dz,gV])
abbrev aag(q:bJ×Bool):D:=.fa [.agg [.c (.int .i64 q.1.1),.c (.sl ae 2 q.1.2.length (eg.fn q.1.2))],.one (.c (.bool q.2))]
def ku(k:Int)(p:Bs):bo:=(dA k p,eY p)
def zN(no k:Int)(ps:List Bs):bJ:=(no,m0 (ps.map (ku k)))
def oe(no k:Int)(ps:List Bs):bJ×Bool:=if gx k (zN no k ps)=ab then(zN no k ps,ab)else((0,[]),ae)
theorem qS:∀(l a:List bo),(l.foldl g6 a).length=a.length+l.length
 |[],a=>by simp
 |x::l,a=>by rw[jC,qS l,zn,fb];omega
def M4:∀(f:Nat){l:List bo}{j:Nat},kt l->j<l.length->kt (yu f l j)
 |0,_,_,h,_=>h
 |f+1,l,j,h,a=>by
  rw[yu];split
  .exact h
  .split
   .exact M4 f (uF h (by omega) a) (by grind[gi])
   grind
theorem M5{l:List bo}{x:bo}(b:kt l)(c:bD .i64 x.1/\x.2.length<=9223372036854775807):kt (g6 l x):=by
 refine M4 _ (λy a=>?_) (by simp);rcases fx.1 a with h|h
 .exact b y h
 grind
def P5{l:List bo}(b:kt l)(a:0<l.length):kt (kN l) :=
 yn _ _ (uF b a (by omega)) (by grind[gi]) (by grind[gi])
theorem HC{k:Int}{p:Bs}(a:bx p=ab):bD .i64 (ku k p).1/\(ku k p).2.length<=9223372036854775807:=by
 have h:=a;simp only[bx,bR,a9]at h;have c:=qp (codeOf p*(2*k+1)+k*7919) (show(999999999989:Int)≠0 by decide);have b:=qj (codeOf p*(2*k+1)+k*7919) (show(0:Int)<999999999989 by decide);refine⟨?_,?_⟩
 .show bD .i64 (dA k p);simp only[bD,dA];omega
 .show (eY p).length<=_;unfold eY cO;grind
def HD(k:Int)(ps:List Bs)(b:∀p∈ps,bx p=ab):kt ((ps.map (ku k)).foldl g6 []):=by
 have:∀(l:List Bs) (a:List bo),(∀p∈l,bx p=ab)->kt a->kt ((l.map (ku k)).foldl g6 a):=by
  intro l;induction l with
  |nil=>grind
  |cons p r c=>grind[M5,HC]
 exact this ps [] b (by simp[kt])
abbrev Xd(a b:aj×ah)(g:Nat)(bf:nC)(l:List bo):List aR:=GB a b++[.cells 67 [.c (.int .i64 0),.c (.sl ab 0 0 λ_=>[])],cB g bf l.length,hB bf l.length l]
abbrev M6(no:Int)(out:List bo):List aR:=[.cells 67 [.c (.int .i64 no),.vec 6 2 out.length (eg.fn out)],.vec 76 2 out.length (eg.fn out)]
def vd(s j:aj×ah)(no k:Int)(ps:List Bs)(S:bD .i64 no)(hk:b7 k=ab)(f:∀p∈ps,bx p=ab)(U:ps.length<=4):
  Ev X 74 [dI no,dI k,cS.sl ps] (GB s j) (aag (oe no k ps)) (GB s j):=by
 refine Ev.ri tok Tryz.func74 rfl rfl rfl λT=>?_;refine bO [(1000002,ab)] rfl ay ?_;refine AK.KQ 8 3 76 2 rfl rfl λg Q=>?_;refine dm rfl ay ?_;refine AK.sX 5 [0,1,6,8,14,15] (λq:Nat×nC=>q.1<=ps.length) (λq=>[(16,dI q.1)]) (λq=>Xd s j g q.2 (((ps.take q.1).map (ku k)).foldl g6 [])) (λq=>ps.length-q.1) (0,.nil Q) rfl ?_ rfl ?_ rfl (by omega) ?_
 .simp
 .simp[tK]
 rintro⟨i,bf⟩ hi;simp only at hi;by_cases h:i<ps.length
 .have I:ps.getD (i:Int).toNat cS.cd=ps.getD i []:=by grind
  have t:bx (ps.getD i [])=ab:=f _ (by grind);have E:((ps.take (i+1)).map (ku k)).foldl g6 []=g6 (((ps.take i).map (ku k)).foldl g6 []) (ku k (ps.getD i [])):=by grind[bY]
  have P:(((ps.take i).map (ku k)).foldl g6 []).length=i:=by grind[qS]
  have o:=HD k (ps.take i) λp A=>f p (fM A);generalize ps.getD i []=p at *;generalize((ps.take i).map (ku k)).foldl g6 []=l at *;refine bn (.cons OW .nil:bL X [(126,nW)]) [(17,ab)] rfl ?_ ?_
  .simp only[az,a9,aG,aE];and_intros<;>omega
  rw[I];refine AK.cQ (uE s j k p hk t) [0,1] rfl ?_;refine cG (.cons OW .nil:bL X [(126,nW)]) rfl ay ?_;refine AK.cP (DT g bf o (by omega) (x:=ku k p) (HC t)) [3,4] rfl (λ_=>rfl) λB=>?_;have m:=zn l (ku k p);refine dm rfl ?_ (AK.aQ (i+1,B) rfl ?_ ?_ ?_ ?_)
  .simp only[az,bD];omega
  .simp
  .simp only[E,m,az.cat,az,aG,aE];grind[cA.same]
  .grind
  grind
 obtain rfl:i=ps.length:=by omega
 rw[dq];refine bO [(17,ae)] rfl (by simp) (AK.leaveD rfl rfl ?_);have N:((ps.map (ku k)).foldl g6 []).length<=4:=by grind[qS]
 have o:=HD k ps f;have F:m0 (ps.map (ku k))=[]++lP ((ps.map (ku k)).foldl g6 []).length ((ps.map (ku k)).foldl g6 []):=by rw[m0,qS,mL,gG,bF]
 refine dm rfl ay ?_;refine AK.hZ 5 1 76 2 (eg.fn []) rfl rfl ?_;refine AK.sX 7 [1,6,8,11] (λq:List bo×nC×List bo=>kt q.1/\q.1.length+q.2.2.length<=4/\m0 (ps.map (ku k))=q.2.2++lP q.1.length q.1) (λq=>[]) (λq=>Xd s j g q.2.1 q.1++M6 no q.2.2) (λq=>q.1.length) ((ps.map (ku k)).foldl g6 [],bf,[]) rfl ?_ rfl ?_ rfl ⟨o,by grind,F⟩ ?_
 .simp
 .simp
 rintro⟨h,bf,out⟩ ⟨y,O,w⟩;simp only at y O w;refine dm rfl ay ?_;refine AK.law (bM.CJ rfl rfl) rfl rfl ?_;refine AK.one (OA.zb tok 3 rfl rfl rfl rfl rfl (nI bf _) rfl) rfl ?_;refine AK.cQ (BH bf h.length h) [4] rfl ?_;by_cases K:h.length=0
 .rw[K,lP,iD]at w;subst w;refine bO [(37,ae)] rfl (by simp only[az,bS,aE];omega) (AK.leaveD rfl rfl ?_);have G:bL X [(102,A5)]:=.cons G8 .nil;have H:(m0 (ps.map (ku k))).length<=4:=by omega
  cases v:gx k (zN no k ps)with
  |false =>
   have a:gx k (no,m0 (ps.map (ku k)))=ae:=v;have e:oe no k ps=((0,[]),ae):=by unfold oe;grind
   rw[e];refine bn G [(50,ab)] rfl ?_ ?_
   .simp only[az,eg.list_fn,a,hk];and_intros<;>first|exact eg.aO _|rfl|exact True.intro|grind
   refine AK.lO () [0,1] rfl rfl rfl rfl rfl rfl rfl rfl rfl ?_ rfl rfl rfl rfl BF;simp
  |true =>
   have a:gx k (no,m0 (ps.map (ku k)))=ab:=v;have e:oe no k ps=(zN no k ps,ab):=by unfold oe;grind
   rw[e];refine bn G [(50,ae)] rfl ?_ ?_
   .simp only[az,eg.list_fn,a,hk];and_intros<;>first|exact eg.aO _|rfl|exact True.intro|grind
   refine AK.lO () [0,1] rfl rfl rfl rfl rfl rfl rfl rfl rfl ?_ rfl rfl rfl rfl BF;simp[zN]
 obtain⟨n,u⟩:∃n,h.length=n+1:=⟨h.length-1,by omega⟩
 refine bO [(37,ab),(1000009,ab)] rfl (by simp only[az,a9,aE];omega) ?_;refine AK.fact (MZ (i:=4) (n:=h.length) (bf:=bf) (l:=h) rfl (by omega)) λR=>?_;obtain⟨b,cap,rfl,d⟩:=R;rw[u]at d;have A:=FW (X:=X) g b cap y u (by omega) d;have L:=P5 y (by omega);have m:((kN h).take n).length=n:=by grind[Db]
 have M:m0 (ps.map (ku k))=(out++[(kN h).getD n (0,[])])++lP n ((kN h).take n):=by rw[w,u,lP,aY (by omega),u];simp
 have J:kt ((kN h).take n):=λx z=>L x (fM z);show AK X _ _ _ _ _ (GB s j++[.cells 67 [.c (.int .i64 0),.c (.sl ab 0 0 λ_=>[])],cB g (.row b cap) h.length,hB (.row b cap) h.length h]++M6 no out);rw[u];generalize(kN h).getD n (0,[])=x at *;generalize(kN h).take n=r at *;refine AK.KG (ι:=Unit) jk 4 7 10 (λk=>bA k 3) (λk=>([.e (.one (.ptr 5 1)),.e (.one (.vec 6 2 out.length (eg.fn out))),vv (.pointer (aa ⟨g,0,af⟩)),UH g]:List D).getD k .any) (λ_ k=>([.any,.any,.any,.any,UG x,X2 x,.e (.one (.c (.sl ab 2 1 λi=>([[.int .i64 x.1,.str x.2]]:List (List C)).getD i [])))]:List D).getD k .any)
  (λ_=>GB s j++[.cells 67 [.c (.int .i64 0),.c (.sl ab 0 0 λ_=>[])],cB g (.row b cap) n,hB (.row b cap) n r]++M6 no out)
  rfl rfl rfl rfl rfl rfl rfl (λk h=>by have:=db h;omega) rfl
  ⟨OA.cZ tok bL.nil rfl,OA.cZ tok bL.nil rfl,OA.cZ tok bL.nil rfl,OA.cZ tok bL.nil rfl,ay,ay,ay,ay,ay,ay,ay⟩
  (λ_=>⟨OA.cZ tok bL.nil rfl,OA.cZ tok bL.nil rfl,OA.cZ tok bL.nil rfl,OA.cZ tok bL.nil rfl,ay,OA.kT (fD rfl) (bM.AR (cs:=[.int .i64 x.1,.str x.2]) tok rfl rfl rfl rfl),OA.cZ tok bL.nil rfl,ay⟩)
  (mV.qz A.tO [3,4] rfl rfl rfl rfl rfl rfl rfl (λ_=>rfl) rfl (λ_=>rfl)) λ_=>?_
 have z:=eg.cy out x;refine dm rfl ?_ (AK.aQ (r,.row b cap,out++[x]) rfl ?_ ?_ ?_ ?_)
 .simp only[az,show i76.bytes=24 from rfl,aG];omega
 .simp
 .simp only[m,az.cat,az,cX,fb,gG,aG,aE];and_intros<;>first|exact cA.same|exact z|rfl
 .grind
 grind
abbrev aae(s:fe):D:=.fa [.agg [.c (.int .i64 s.1),.c (.sl ae 2 s.2.length (cL.fn s.2))],.one (.c (.bool ab))]
abbrev W9(a b:aj×ah)(no:Int)(ls:List js):List aR:=GB a b++[.cells 71 [.c (.int .i64 0),.c (.sl ab 0 0 λ_=>[])],.cells 71 [.c (.int .i64 no),.vec 4 2 ls.length (cL.fn ls)],.vec 140 2 ls.length (cL.fn ls)]
abbrev Xa(f:bw)(ns:List Int):List aR:=[.cells 82 [.c (.str f.1),.c (.str f.2)],.cells 140 [.c (.str f.1),.vec 7 1 ns.length (cI.fn ns)],.vec 3 1 ns.length (cI.fn ns)]
def FV(l b:aj×ah)(no k:Int)(t:List bw)(E:1<=no/\no<=99)(hk:b7 k=ab)(u:cC t=ab):
  Ev X 75 [dI no,dI k,cF.sl t] (GB l b) (aae (eJ no k t)) (GB l b):=by
 refine Ev.ri tok Tryz.func75 rfl rfl rfl λJ=>?_;have I:bL X [(40,kL aI (λk=>dB (b7 k)) λ_=>[]),(25,W4)]:=.cons t40 (.cons t25 .nil);refine bn I [(15,ae),(19,ae),(24,ae),(29,ae)] rfl ?_ ?_
 .simp only[az,hk,cF.list_fn,ib,u,bS];and_intros<;>first|exact cF.aO _|rfl|omega
 refine AK.hZ 3 1 140 2 (cL.fn []) rfl rfl ?_;refine AK.sX 5 [1,6,8,33,34] (λi=>i<=t.length) (λi:Nat=>[(35,dI i)]) (λi=>W9 l b no (nw k (t.take i))) (λi=>t.length-i) 0 rfl ?_ rfl ?_ rfl (by omega) ?_
 .simp
 .simp
 intro i hi;by_cases h:i<t.length
 .have y:t.getD (i:Int).toNat cF.cd=t.getD i ([],[]):=by grind
  have a:t.getD i ([],[])∈t:=by grind
  have x:=dF u;have A:=x.tJ _ a;have G:=yi u _ a;have H:=x.len;have o:=n5 A.1;have D:=kP (t.getD i ([],[])).2;have g:nw k (t.take (i+1))=nw k (t.take i)++[lx k (t.getD i ([],[]))]:=by grind[bY]
  have B:(nw k (t.take i)).length=i:=by grind
  generalize t.getD i ([],[])=f at *;generalize nw k (t.take i)=ls at *;have q:g9 f.2=pieces f.2:=by unfold g9;grind
  have c2:bL X [(43,kL aS (λs=>cS.sl (g9 s)) λ_=>[])]:=.cons A2 .nil;refine bn c2 [(36,ab)] rfl ?_ ?_
  .simp only[az,a9,aG,aE];and_intros<;>omega
  rw[y,q];refine AK.hZ 6 1 3 1 (cI.fn []) rfl rfl ?_;refine AK.sX 8 [1,6,8,10,11,33,34,35,44,45] (λj=>j<=(pieces f.2).length) (λj:Nat=>[(46,dI j)]) (λj=>W9 l b no ls++Xa f (lR k ((pieces f.2).take j))) (λj=>(pieces f.2).length-j) 0 rfl ?_ rfl ?_ rfl (by omega) ?_
  .simp
  .simp
  intro j K;by_cases L:j<(pieces f.2).length
  .have v:(pieces f.2).getD (j:Int).toNat cS.cd=(pieces f.2).getD j []:=by grind
   have n:bx ((pieces f.2).getD j [])=ab:=o _ (by grind);have d:lR k ((pieces f.2).take (j+1))=lR k ((pieces f.2).take j)++[dA k ((pieces f.2).getD j [])]:=by grind[bY]
   have F:(lR k ((pieces f.2).take j)).length=j:=by grind
   generalize(pieces f.2).getD j []=p at *;generalize lR k ((pieces f.2).take j)=ns at *;have m:=cI.cy ns (dA k p);refine bO [(47,ab),(1000011,ab)] rfl ?_ ?_
   .simp only[az,a9,aG,aE];and_intros<;>omega
   rw[v];refine AK.calm jk [.e (.one (.ptr 6 1)),.e (.one (.vec 7 1 ns.length (cI.fn ns))),dI k,dS p,dI (dA k p),.e (.one (.c (.sl ab 1 1 λi=>([[.int .i64 (dA k p)]]:List (List C)).getD i [])))] 6 rfl rfl rfl rfl rfl ⟨OA.cZ tok bL.nil rfl,OA.cZ tok bL.nil rfl,OA.cZ tok bL.nil rfl,OA.cZ tok bL.nil rfl,
    OA.UF (mV.qz (uE l b k p hk n).tO [0,1] rfl rfl rfl rfl rfl rfl rfl (λ_=>rfl) rfl (λ_=>rfl)),OA.cZ tok bL.nil rfl,ay⟩ ?_
   refine dm rfl ?_ (AK.aQ (j+1) rfl ?_ ?_ ?_ ?_)
   .simp only[az,bD,show i3.bytes=8 from rfl,aG,aE];and_intros<;>omega
   .simp
   .simp only[d,az.cat,az,cX,fb,gG,aG,aE];and_intros<;>first|exact cA.same|exactλ_ _=>rfl|exact m|rfl|omega
   .grind
   .omega
  .have r:j=(pieces f.2).length:=by omega
   rw[r,dq];have m:=cL.cy ls (lx k f);have w:ls.length+1=(ls++[lx k f]).length:=by simp
   have z:cL.enc (lx k f)=[C.str f.1,C.sl ae 1 (lR k (pieces f.2)).length (cI.fn (lR k (pieces f.2)))]:=rfl;rw[z,<-g]at m;rw[<-g]at w;refine bO [(47,ae)] rfl (by simp only[az,bS];omega) (AK.leaveD rfl rfl ?_);refine dm rfl ?_ (AK.aQ (i+1) rfl ?_ ?_ ?_ ?_)
   .simp only[az,bD,show i140.bytes=40 from rfl,aG,aE];and_intros<;>omega
   .simp
   .simp only[az.cat,az,aG,aE];and_intros<;>first|exact cA.same|exact m|exact w|rfl
   .grind
   .omega
 .obtain rfl:i=t.length:=by omega
  rw[dq];refine bO [(36,ae)] rfl (by simp) (AK.leaveD rfl rfl ?_);refine dm rfl ay ?_;refine AK.lO () [0,1] rfl rfl rfl rfl rfl rfl rfl rfl rfl ?_ rfl rfl rfl rfl BF;simp[eJ]
end
end Go.AM.R1
namespace Go.AM
namespace R1
variable {X:Cx ag}[X.hU]
abbrev jI:aR:=.cells 27 [gU,gU,gU]
abbrev f92(t:List bw)(n:Nat):Fr:=[(0,.e (.one (.ptr 0 0))),(2,.e (.one (.ptr 1 0))),(3,.e (.one (.ptr 2 0))),(4,cF.sl t),(5,dI n)]
end R1
end Go.AM
namespace Go.AM.R1
section
variable {X:Cx ag}[X.hU]
abbrev yR:aR:=.cm (gf 67 2 (.nil af) 0 [])
abbrev Nn(v:ah)(s:bk):aR:=.cells 27 [.c (.val v),.c (Fy s.2.1),.c (C9 s.2.2)]
abbrev Uo(v:ah)(s:bk):D:=.e (.agg [.c (.val v),.c (Fy s.2.1),.c (C9 s.2.2)])
abbrev No:aR:=.cells 27 [.any,.any,.any]
abbrev BT(v:ah)(s:bk):aR:=.cm (PM (Un v s.1))
def d9P(m:Nat)(b:Nat->Int)(k:Int)(s s':bk)(e:Option ah)(a c d:Bool):List aR :=
 match e with
 |none=>match a,c with
  |false,ae=>[lu m b k,jI,xY s,yR]
  |true,ae=>[lu m b (k+1),jI,xY s,yR]
  |false,ab=>[lu m b k,jI,xY s,yR,jI]
  |true,ab=>[lu m b (k+1),jI,xY s,yR,jI]
 |some v=>match a,c,d with
  |true,ae,_=>[lu m b (k+1),jI,xY s,BT v s']
  |true,ab,ae=>[lu m b (k+1),jI,xY s,BT v s',jI]
  |true,ab,ab=>[lu m b (k+1),jI,xY s,BT v s',Nn v s']
  |false,ae,_=>[lu m b k,jI,xY s,BT v s']
  |false,ab,_=>[lu m b k,jI,xY s,BT v s',jI]
def x9P(u:Int)(s s':bk)(t:List bw)(a:Option ah)(i:Nat):D :=
 [pn s,.e (.one (.ptr 0 0)),dI u,dI (1+u),cF.sl t,
  (match a with|none=>.any|some v=>.fa [.agg [.c (.val v),.c (Fy s'.2.1),.c (C9 s'.2.2)],.one (.c (.bool ab))]),
  (match a with|none=>.any|some v=>.fa [.agg [.c (.val v),.c (Fy s'.2.1),.c (C9 s'.2.2)],.one (.c (.bool ab))]),
  (match a with|none=>.any|some v=>Uo v s'),dB ab,.e (.one (.ptr 4 0)),.any,dB ab].getD i .any
def d9F(m:Nat)(b:Nat->Int)(k:Int)(v:ah)(s:bk)(a c d:Bool):List aR :=
 match a,c,d with
 |false,ae,_=>[lu m b k,jI,Nn v s,BT v s]
 |true,ae,_=>[lu m b (k+1),jI,Nn v s,BT v s]
 |false,ab,ae=>[lu m b k,jI,Nn v s,BT v s,jI]
 |true,ab,ae=>[lu m b (k+1),jI,Nn v s,BT v s,jI]
 |false,ab,ab=>[lu m b k,jI,Nn v s,BT v s,No]
 |true,ab,ab=>[lu m b (k+1),jI,Nn v s,BT v s,No]
abbrev Np:D:=.fa [.agg [.any,.any,.any],.one (.c (.bool ae))]
def x9F(u:Int)(v:ah)(s:bk)(t:List bw)(i:Nat):D:=[Uo v s,.e (.one (.ptr 0 0)),dI u,dI (1+u),cF.sl t,Np,Np,.e (.agg [.any,.any,.any]),dB ae,.e (.one (.ptr 4 0)),.any,dB ae].getD i .any
abbrev StJ(k:Nat):={q:bk×ah×Nat // D7 q.1/\k<=q.2.2/\q.2.2<=k+1000}
def D7.ne{s:bk}(h:D7 s):∀p∈s.1,0<p.2.length:=λp a=>(h.p p a).len.1
def Xq:∀j,j<1->([0,3]:List Nat)[j]?=aa j:=λj a=>by grind
def F9(s:bk)(by_:Int)(t:List bw)(a:D7 s)(c:tf t)(b:fW 7 s t=ab):ef (ι:=Nat->ah) X 24 [dI 7,pn s,dI by_,cF.sl t] [] (λ_=>Np) (λ_=>[]) :=
 (rZ (X:=X) 7 s by_ t (by decide) a.size a.num c a.cV a.ne b).le (λ_=>rfl) (λ_=>by simp)
set_option maxRecDepth 20000 in
def D2(m:Nat)(b:Nat->Int)(z:Bytes b)(k:Nat)(hk:k<=40000)(G:m<=1048576):
  ef (ι:=StJ k) X 58 [.e (.one (.ptr 0 0))] [lu m b k] (λq=>Uo q.1.2.1 q.1.1) (λq=>[lu m b q.1.2.2,BT q.1.2.1 q.1.1]):=by
 refine ef.sH tok Tryz.func58 rfl rfl rfl λhf=>?_;refine aX [(1000002,ab)] rfl ay ?_;refine AK.spare 67 2 ?_;refine AK.VH 3 2 0 2 (cP.fn []) (by decide) rfl rfl rfl λv0=>?_;refine bt rfl ay ?_;refine AK.cP (Pm m b z k (by omega) G) [0] rfl (λ_=>rfl) ?_;rintro⟨⟨t0,k1⟩,N,V,L⟩;simp only at N V L;refine bt rfl ay ?_;refine AK.cP (gF m b z k1 5 (by omega) G (by omega)) [0] rfl (λ_=>rfl) ?_;rintro⟨u,u0,u1⟩;refine bt rfl ay ?_;refine AK.cE 4 (λq:bk×ah×List bw×Nat×Nat=>D7 q.1/\cC q.2.2.1=ab/\q.2.2.2.1<=4/\k<=q.2.2.2.2/\q.2.2.2.2+100*q.2.2.2.1<=k+900) (λq=>f92 q.2.2.1 q.2.2.2.1) (λq=>[lu m b q.2.2.2.2,jI,Nn q.2.1 q.1,BT q.2.1 q.1]) (λq=>q.2.2.2.1) (([],[],[]),v0,t0,u.toNat,k1+1) rfl ?_ rfl ?_ rfl ⟨D7.nil,N,by grind,by grind,by grind⟩ ?_
 .simp only[az.cat,az,aG,aE];and_intros<;>first|exactλ_ _=>rfl|omega
 .simp;rfl
 rintro⟨s,v,t,n,l⟩ ⟨A,R,Y,I,M⟩;simp only at A R Y I M;by_cases hn:0<n
 .have hv:=u6 m b l 2 (by omega);have y:az [(l:Int)=(l:Int).toNat,Hl b=Hl (TR (Hl b)),Bytes (TR (Hl b)),(l:Int)<=4000000,m<=1048576,(1:Int)<=2,(2:Int)<=4000000]:=⟨rfl,rfl,z,by omega,G,by omega,(by decide:(2:Int)<=4000000)⟩
  have B:az [bD .i64 (1+mG m b l 2)]:=by simp only[az,bD];omega
  have g:bL X [(21,Z2)]:=.cons t21 .nil;refine bO [(19,ab),(1000006,ab)] rfl (by simp only[az,a9];omega) ?_;apply AK.VI (ι:={q:bk×ah // D7 q.1}) (λ_=>f92 t n) (λq=>[lu m b (l+1:Nat),jI,Nn q.1.2 q.1.1,BT q.1.2 q.1.1,No])
  .intro out;cases F:fW 7 s t with
   |true =>
    have C:=F9 (X:=X) s (1+mG m b l 2) t A (dF R) F;refine AK.flags jk (x9F (mG m b l 2) v s t) (uQ (d9F m b l v s) 2 9 10) rfl rfl rfl rfl
     ⟨.Js tok g,
     .Js tok g,
     eh.e1 rfl rfl rfl rfl (λc d=>by cases c<;>cases d<;>exact gL (ds:=[]) tok g (σ':=aa _) rfl y),
     .q3o tok g B,
     .Js tok g,
     eh.q3 rfl rfl rfl (λa c d=>by cases a<;>cases c<;>cases d<;>exactλs a f hh b kk cs S i rest z hi hK=>mV.qH C rfl rfl rfl (j1.agg 1 0 3 rfl rfl (PM.Cc rfl λ_ h=>h)) rfl (by simp) rfl (λ_=>rfl) (λ_=>rfl) s a f hh b kk cs S i rest z hi λ_=>hK),
     .Js tok g,
     .Js tok g,
     .Js tok g,
     eh.e2 rfl rfl rfl rfl rfl (λa=>by cases a<;>exact gL (ds:=[]) tok g (σ':=aa _) rfl ay),
     eh.e3 rfl rfl rfl rfl rfl (λa=>by cases a<;>exact gL (ds:=[]) tok g (σ':=aa _) rfl ay),
     .Js tok g,ay⟩ ?_
    intro D o;show AK X _ _ _ _ _ (d9F m b l v s (D 2) (D 9) (D 10));rw[o 2 (by decide),o 9 (by decide),o 10 (by decide)];refine bO [(1000009,ab)] rfl ay ?_;exact out ⟨(s,v),A⟩ _ _ rfl (by simp)
   |false =>
    have P:=A.save (by_:=1+mG m b l 2) R (by omega) F;have C:=yo (X:=X) 7 s (1+mG m b l 2) t (by decide) A.size A.num (dF R) A.cV A.ne F;generalize c9 7 s (1+mG m b l 2) t=s' at *;refine AK.rN 3 2 0 (E:=67) (k:=2) (cl:=Hc s.1) (by decide) rfl rfl rfl (λ_ h=>h) ?_;refine AK.Sj jk (x9P (mG m b l 2) s s' t) (SO (d9P m b l s s') 2 9 10) (w6 ah 5) af rfl rfl rfl rfl rfl
     ⟨.qe tok g,
     .qe tok g,
     iy.pre rfl rfl rfl rfl rfl (λc=>by cases c<;>exact gL (ds:=[]) tok g (σ':=aa _) rfl y),
     .qo tok g B,
     .qe tok g,
     iy.Zg rfl rfl rfl rfl rfl (λj q=>by
      match q with
      |0=>exact .inr (.inr rfl)
      |1=>exact .inr (.inr rfl)
      |2=>exact .inr (.inr rfl)
      |3=>exact .inr (.inr rfl)
      |4=>exact .inr (.inr rfl)
      |5=>grind
      |6=>exact .inr (.inl rfl)
      |7=>exact .inr (.inl rfl)
      |8=>exact .inr (.inr rfl)
      |9=>exact .inr (.inr rfl)
      |10=>exact .inr (.inr rfl)
      |11=>exact .inr (.inr rfl)
      |q+12=>exact .inr (.inr rfl)) (λc=>by cases c<;>exact mV.j4 C [3] rfl rfl rfl rfl (by simp) rfl rfl rfl (λ_=>rfl) rfl (λ_=>rfl)),
     .qs tok g,
     .qs tok g,
     .qs tok g,
     iy.YI rfl rfl rfl rfl (λQ a=>by cases Q<;>cases a<;>exact gL (ds:=[]) tok g (σ':=aa _) rfl ay),
     iy.last rfl rfl rfl rfl rfl rfl (λv'=>gL (ds:=[]) tok g (σ':=aa _) rfl ay),
     .qs tok g,ay⟩ ?_
    intro Q D T o;have T:Q.isSome=ab:=T.trans (o 5 (by decide));rcases Q with _|v'
    .cases T
    show AK X _ _ _ _ _ (d9P m b l s s' (aa v') (D 2) (D 9) (D 10));rw[o 2 (by decide),o 9 (by decide),o 10 (by decide)];refine bO [(1000009,ab)] rfl ay ?_;refine AK.CG (φ':=f92 t n) (σ':=[lu m b (l+1:Nat),jI,Nn v' s',BT v' s',No]) ?_ rfl ?_ rfl ?_
    .exact out ⟨(s',v'),P⟩ _ _ rfl (by simp)
    .simp
    .simp
  rintro⟨⟨s',v'⟩,P⟩;refine dm rfl ay ?_;refine AK.cP (wh m b z (l+1) (by omega) G) [0] rfl (λ_=>rfl) ?_;rintro⟨p,hp⟩;refine dm rfl ay ?_;refine AK.cP (Hu m b z (l+1+1+1) (by omega) G) [0] rfl (λ_=>rfl) ?_;rintro⟨⟨x,J⟩,hx,W,O⟩;simp only at hx W O;refine dm rfl ay ?_;refine AK.cQ (yd t p x) [] rfl ?_;have ae6:=FN (t:=t) (p:=p) (x:=x);obtain⟨H,r⟩:∃H,H=if(ez t p x).2=ab then(ez t p x).1 else t:=⟨_,rfl⟩
  have U:cC H=ab:=by grind
  apply AK.join (f92 H n) [lu m b J,jI,Nn v' s',BT v' s',No]
  .intro out;cases K:(ez t p x).2 with
   |true =>
    rw[K,bl rfl]at r;rw[<-r];refine bO [(1000012,ab)] rfl ay ?_;exact out _ _ rfl (by simp)
   |false =>
    rw[K,aY (by simp)]at r;rw[r]at out;refine bO [(1000012,ab)] rfl ay ?_;exact out _ _ rfl (by simp)
  clear r;refine dm rfl ay ?_;refine AK.cP (gF m b z J 3 (by omega) G (by omega)) [0] rfl (λ_=>rfl) ?_;rintro⟨w,w0,w1⟩;by_cases Z:w=0
  .refine bO [(46,ab)] rfl (by simp[Z]) ?_;refine AK.cP (wh m b z (J+1) (by omega) G) [0] rfl (λ_=>rfl) ?_;rintro⟨p2,hp2⟩;have Vx:=mE U;refine dm rfl ay ?_;refine AK.cQ (Hv H p2 (by omega)) [] rfl ?_;refine dm rfl ?_ (AK.aQ (s',v',mD H p2,n-1,J+1+1+1) rfl ?_ ?_ ?_ ?_)
   .simp only[az,bD];omega
   .simp only[az.cat,az,aG,aE];and_intros<;>first|exactλ_ _=>rfl|omega
   .simp
   .grind [Ml]
   grind
  .refine bO [(46,ae)] rfl (by simp[Z,bD];omega) (AK.aQ (s',v',H,n-1,J+1) rfl ?_ ?_ ?_ ?_)
   .simp only[az.cat,az,aG,aE];and_intros<;>first|exactλ_ _=>rfl|omega
   .simp
   .grind
   grind
 .refine bO [(19,ae)] rfl (by simp only[az,bS];omega) (AK.leaveD rfl rfl ?_);refine dm rfl ay ?_;refine AK.mY ⟨(s,v,l),A,I,by grind⟩ [0,3] rfl rfl rfl rfl rfl rfl rfl rfl ?_ rfl rfl rfl rfl Xq;simp
end
end Go.AM.R1
namespace Go.AM
def ef.die{P:ar}{ι:Type}{X:Cx P}{f:aJ}{args:List D}{E k n:Nat}{a:Nat->List C}{w:BP}{es:ι->Nat->List C}{m:ι->Nat}(h:ef X f args [.buf E k n a] (λ_=>.e (.one (.bp 0 w))) (λi=>[.buf E k (m i) (es i)])):Ev X f args [.buf E k n a] (.e (.one (.bp 0 w))) [.dead] :=
 ⟨h.1,λs vs hr hh S cs hS=>h.2 s vs hr hh S cs λi fr v s' hl mK jh st=>hS fr v s' hl (by
  obtain⟨lv,h1,_,_⟩:gB _ _ _ (.bp 0 w):=mK;exact(⟨lv,h1,by simp,λ_ _ _ _ c=>by grind⟩:gB [.dead] s' v (.bp 0 w))) jh.lW
  ⟨st.size,st.fy,st.mem,st.je,st.vJ,λl B L hB hL=>by
   obtain⟨B',L',h1,h2,b⟩:=st.box l B L hB hL;cases l with
   |zero=>simp at hB;subst hB;exact⟨.dead,L',rfl,h2,ay⟩
   |succ l=>grind,st.os,st.tape,st.output,st.own⟩⟩
namespace R1
variable {X:Cx ag}
def x5(h:tp):Ev X 100 [ZQ h] [] (dB (gR h)) []:=by
 refine Ev.bQ Tryz.func100 rfl λb=>?_;have a:bL X []:=.nil;unfold gR;by_cases c1:h.1=1
 .by_cases c3:1<=h.2
  .exact aW a [(6,ab),(11,ab),(16,ab)] rfl (by simp[c1,c3]) (AK.bz rfl (by simp[c1,c3]))
  .exact aW a [(6,ab),(11,ab),(16,ae)] rfl (by simp[c1];omega) (AK.bz rfl (by simp[c3]))
 .by_cases c2:h.1=2
  .by_cases c3:1<=h.2
   .exact aW a [(6,ae),(11,ab),(16,ab)] rfl (by simp[c2,c3]) (AK.bz rfl (by simp[c2,c3]))
   .exact aW a [(6,ae),(11,ab),(16,ae)] rfl (by simp[c2];omega) (AK.bz rfl (by simp[c3]))
  .exact aW a [(6,ae),(11,ae),(16,ae)] rfl (by simp[c1,c2]) (AK.bz rfl (by
    have:¬(1<=h.1/\h.1<=2):=by omega
    simp only[az,iC this];simp))
def IU(h:tp):Ev X 99 [ZQ h] [] (dB (!gR h)) []:=by refine Ev.bQ Tryz.func99 rfl λb=>?_;have a:bL X [(100,kL UA (λh=>dB (gR h)) λ_=>[])]:=.cons (.pR λh _=>x5 h) .nil;exact b8 a rfl ay (AK.bz rfl)
def IV(l:List tp):iQ l=(decide (l.length<=9)&&!l.any λh=>!gR h):=by
 have:(bh l.length).all (λi=>gR (l.getD i (0,0)))=!l.any λh=>!gR h:=by rw[qq,dE,jQ,List.any_eq_false];grind[List.mem_iff_getElem]
 rw[iQ,this,Bool.and_comm]
def IW(l:List tp):Ev X 54 [cH.sl l] [] (dB (iQ l)) []:=by
 refine Ev.bQ Tryz.func54 rfl λd=>?_;have a:=L9 (X:=X) l 99 (λh=>!gR h) λx _=>IU x;have b:bL X [(98,pT [cH.sl l,.e (.one (.c (.fn (.func 99) [] [])))] (dB (l.any λh=>!gR h)))]:=.cons (rP a) .nil;rw[IV];by_cases h:l.length<=9
 .exact aW b [(6,ab)] rfl ⟨rfl,dc (by omega)⟩ (AK.bz rfl (by simp[h]))
 .exact aW b [(6,ae)] rfl (by simp;omega) (AK.bz rfl (by simp[iC h]))
def we:er X 54 oL:=.pR λl _=>IW l
def Bn(p:bJ)(d:p.2.length<=4000000):Ev X 151 [Lh p] [] (cI.sl (p.2.map (·.1))) []:=by
 refine Ev.bQ Tryz.func151 rfl λf=>?_;refine aX [(1000002,ab)] rfl ay ?_;refine AK.iM 3 3 1 rfl rfl ?_;refine bt rfl ay ?_;refine AK.cE 2 (λi=>i<=p.2.length) (λi:Nat=>[(1,.e (.one (.ptr 0 0))),(3,.e (.one (.vec 1 1 i (cI.fn ((p.2.take i).map (·.1)))))),(7,eg.sl p.2),(8,dI p.2.length),(9,dI i)]) (λi=>[TE p,.vec 3 1 i (cI.fn ((p.2.take i).map (·.1)))]) (λi=>p.2.length-i) 0 rfl (by simp) rfl (by simp) rfl (by omega) ?_;intro i hi;by_cases h:i<p.2.length
 .have b:p.2.getD (i:Int).toNat eg.cd=hI p i:=by grind
  have a:(p.2.take (i+1)).map (·.1)=(p.2.take i).map (·.1)++[(hI p i).1]:=by grind[bY]
  have c:((p.2.take i).map (·.1)).length=i:=by grind
  have e:=cI.cy ((p.2.take i).map (·.1)) (hI p i).1;rw[c]at e;refine aX [(10,ab)] rfl ?_ (AK.aQ (i+1) rfl ?_ ?_ h (by omega))
  .simp only[az,bD,show i3.bytes=8 from rfl];grind
  .rw[a];simp only[az.cat,az,b,aG,aE];and_intros<;>first|exact cA.same|exact e|rfl|omega
  .rw[a];simp only[az.cat,az,b,aG,aE];and_intros<;>first|exact cA.same|exact e|rfl|omega
 obtain rfl:i=p.2.length:=by omega
 rw[dq];refine aX [(10,ae)] rfl (by simp) (AK.leaveD rfl rfl ?_);exact bt rfl ay (AK.bz rfl)
abbrev Dr:dv:=kL (Fh eg) (λp=>cI.sl (p.2.map (·.1))) λp=>[p.2.length<=4000000]
def Mi:er X 151 Dr:=.pR λp h=>Bn p h
def IX(ps:List bJ)(i:Nat):(bE (ps.take i)).length<=(bE ps).length:=by
 have:bE ps=bE (ps.take i)++bE (ps.drop i):=by unfold bE;grind[List.take_append_drop]
 grind
abbrev ZR(l:List Int):D:=.e (.one (.bp 0 (.sl l.length 1 0 l.length)))
def Ds(ps:List bJ)(n:∀p∈ps,p.2.length<=4000000)(q:(bE ps).length<=4000000):Ev X 103 [cP.sl ps] [] (ZR (bE ps)) [Jz (bE ps).length (bE ps)]:=by
 refine Ev.bQ Tryz.func103 rfl λo=>?_;have k:=o.sl 0 rfl;have f:bL X [(151,Dr)]:=.cons Mi .nil;refine aW f [(1000002,ab)] rfl ay ?_;refine AK.VQ 3 3 1 (cI.fn []) rfl ?_;refine b8 f rfl ay ?_;refine AK.cE 1 (λi=>i<=ps.length) (λi:Nat=>[(3,.e (.one (.bp 0 (.sl (bE (ps.take i)).length 1 0 (bE (ps.take i)).length)))),(6,cP.sl ps),(7,dI ps.length),(8,dI i)]) (λi=>[Jz (bE (ps.take i)).length (bE (ps.take i))]) (λi=>ps.length-i) 0 rfl (by simp[bE]) rfl (by simp[cA,bE]) rfl (by omega) ?_;intro i hi;by_cases h:i<ps.length
 .have g:ps.getD (i:Int).toNat cP.cd=ps.getD i (0,[]):=by grind
  have b:=x4 h;have c:=IX ps (i+1);have l:=n _ (l7 (d:=(0,[])) h);generalize ps.getD i (0,[])=p at *;rw[b]at c;generalize bE (ps.take i)=a at *;have e:=cI.TK a (p.2.map (·.1)) _ rfl;simp only[cX,jT]at c e;refine aW f [(9,ab)] rfl ?_ (AK.aQ (i+1) rfl ?_ ?_ h (by omega))
  .simp only[az,g,bD,eg.list_fn,eg.aO,jT,show i3.bytes=8 from rfl];grind
  .rw[b];simp only[az.cat,az,g,eg.list_fn,cX,jT,aG,aE];and_intros<;>first|exact cA.same|rfl|omega
  .rw[b];simp only[az.cat,az,g,eg.list_fn,cX,jT,aG,aE];grind
 obtain rfl:i=ps.length:=by omega
 rw[dq];refine aW f [(9,ae)] rfl (by simp) (AK.leaveD rfl rfl ?_);refine b8 f rfl ay (AK.dk [0] rfl ?_ rfl rfl rfl (λj m=>absurd m (by simp)));simp
def IY(ps:List bJ)(b:∀p∈ps,p.2.length<=4000000)(a:(bE ps).length<=4000000):Ev X 103 [cP.sl ps] [] (cI.sl (bE ps)) [] :=
 Ev.K1 (σ1:=[]) (E:=3) (k:=1) (n:=(bE ps).length) (es:=cI.fn (bE ps)) (Ds ps b a) rfl (by simp) rfl (bc _)
end R1
end Go.AM
namespace Go.AM.R1
section
variable {X:Cx ag}
def x6(s:bk):Ev X 49 [pn s] [] (pn s) []:=by refine Ev.sH Tryz.func49 rfl rfl rfl λa=>?_;refine bt rfl (by simp) ?_;refine AK.freeze 2 1 rfl rfl rfl ?_;exact AK.RU tok [] rfl (by simp) rfl rfl rfl (λj b=>absurd b (by simp))
abbrev Mj:dv:=kL S5 (λs=>pn s) λ_=>[]
def TM:er X 49 Mj:=.pR λs _=>x6 s
abbrev Ju(s:bk):aR:=.cells 96 [.c (.sl ae 2 s.1.length (cP.fn s.1)),.c (.sl ae 2 s.2.1.length (fi.fn s.2.1)),.c (.sl ae 2 s.2.2.length (cH.fn s.2.2))]
structure NM(s:bk):Prop extends SmS s where
 pk:∀p∈s.1,p.2.length<=4000000
 nm:(bE s.1).length<=4000000
def zA(k:Int)(s:bk):Bool:=(bh s.1.length).all (mz k s.1)&&decide (s.1.length<=20)&&decide (bE s.1).Nodup
def FJ(k:Int)(s:bk)(hk:b7 k=ab)(b:NM s):Ev X 56 [pn s,dI k] [] (dB (zA k s)) []:=by
 refine Ev.bQ Tryz.func56 rfl λC=>?_;have D:=b.pN;have w:=b.pk;have y:=IY (X:=X) s.1 b.pk b.nm;have n:bL X [(102,A5)]:=.cons G8 .nil;refine b8 n rfl ay ?_;unfold zA;refine AK.cE 1 (λi=>i<=s.1.length/\∀j,j<i->mz k s.1 j=ab) (λi:Nat=>[(1,dI k),(2,.e (.one (.ptr 0 0))),(9,cP.sl s.1),(10,dI s.1.length),(11,dI i)]) (λ_=>[Ju s]) (λi=>s.1.length-i) 0 rfl (by simp) rfl (by simp) rfl ⟨by omega,by omega⟩ ?_;rintro i ⟨hi,a⟩;by_cases h:i<s.1.length
 .have v:s.1.getD i cP.cd=s.1.getD i (0,[]):=rfl;have q:s.1.getD (i-1) cP.cd=s.1.getD (i-1) (0,[]):=rfl;have c:mz k s.1 i=(gx k (s.1.getD i (0,[]))&&Dp (·.1) (0,[]) s.1 i):=rfl;have t:=qO (f:=λp:bJ=>p.1) (d:=(0,[])) (l:=s.1) (i:=i);have g:=w _ (l7 (d:=(0,[])) h);generalize s.1.getD i (0,[])=p at *;generalize s.1.getD (i-1) (0,[])=p' at *;cases o:gx k p with
  |false =>
   rw[o,sr]at c;refine aW n [(12,ab),(20,ab),(35,ab)] rfl ?_ (AK.fQ (cw.zero rfl ?_))
   .simp[-ak,v,hk,g,o,eg.list_fn,eg.aO];omega
   .rw[iP h c];simp
  |true =>
   rw[o,fO]at c;by_cases z:i=0
   .subst z;refine aW n [(12,ab),(20,ae),(23,ae),(35,ae)] rfl ?_ (AK.aQ 1 rfl (by simp) (by simp) ⟨h,kn a (by rw[c];rfl)⟩ (by omega));simp[-ak,v,hk,g,o,eg.list_fn,eg.aO,bD];omega
   have t:=t z;by_cases F:p'.1<p.1
   .refine aW n [(12,ab),(20,ae),(23,ab),(33,ae),(35,ae)] rfl ?_ (AK.aQ (i+1) rfl (by simp) (by simp) ⟨h,kn a (by grind)⟩ (by omega));simp[-ak,v,q,hk,g,o,eg.list_fn,eg.aO,bD];omega
   .refine aW n [(12,ab),(20,ae),(23,ab),(33,ab),(35,ab)] rfl ?_ (AK.fQ (cw.zero rfl ?_))
    .simp[-ak,v,q,hk,g,o,eg.list_fn,eg.aO,bD];omega
    .rw[iP h (by grind)];simp
 obtain rfl:i=s.1.length:=by omega
 rw[dE.2 a,fO];refine aW n [(12,ae)] rfl (by simp) (AK.leaveD rfl rfl ?_);refine b8 n rfl ay ?_;refine AK.cQ (Ds s.1 b.pk b.nm) [] rfl ?_;refine b8 n rfl ay ?_;refine AK.cQ (Mk (bE s.1) b.nm) [1] rfl ?_;have A:=Bo (bE s.1);have u:=(FK (X:=X) (o7 (bE s.1)) (by rw[lZ];exact b.nm)).die;rw[lZ]at u;have x:=Bp (o7 (bE s.1));rw[lZ]at x;have B:=b.nm;generalize eK (o7 (bE s.1))=cs at *;generalize o7 (bE s.1)=so at *;have tI:bL X [(105,zh [kX (bE s.1).length] [Jz (bE s.1).length so] (.e (.one (.bp 0 (.sl (bE s.1).length 1 0 cs.length)))) [.dead]),(103,pT [cP.sl s.1] (cI.sl (bE s.1)))]:=.cons (C1 u) (.cons (rP y) .nil);refine aW tI [(1000009,ab)] rfl ay ?_;by_cases r:s.1.length<=20
 rotate_left
 .refine aW tI [(46,ae)] rfl ?_ (AK.bz rfl ?_)
  .simp;omega
  .simp[r]
 have m:(s.1.length:Int)<=20:=by omega
 generalize E:bE s.1=N at *;refine AK.NH (ι:=Unit) jk 6 (λi=>match bA i 5 with|true=>ab|false=>match aB i 8 with|true=>ab|false=>aB i 9) (λi=>[.e (.one (.ptr 0 0)),cP.sl s.1,dI s.1.length,dB (decide ((s.1.length:Int)<=20)),dB ab,.e (.one (.bp 1 (.sl N.length 1 0 N.length))),.any,.any,.e (.one (.ptr 0 0)),cP.sl s.1].getD i .any)
  (λ_ i=>[.any,.any,.any,.any,.any,.any,.e (.one (.bp 1 (.sl N.length 1 0 cs.length))),dI cs.length,.any,.any,cI.sl N,dI N.length,dB ((cs.length:Int)==N.length),dB ((cs.length:Int)==N.length),dB ((cs.length:Int)==N.length)].getD i .any) (λ_=>[Ju s,.dead]) rfl rfl rfl rfl rfl rfl ?_ ?_ ?_ ?_
 .exact⟨.cZ tok tI rfl,.cZ tok tI rfl,.cZ tok tI rfl,.cZ tok tI rfl,.eval tok tI (ds:=[(46,ab)]) rfl (dc m),.cZ tok tI rfl,ay,ay,.cZ tok tI rfl,.cZ tok tI rfl,ay,ay,ay,ay,ay,ay⟩
 .intro _;exact⟨.cZ tok tI rfl,.cZ tok tI rfl,.cZ tok tI rfl,.cZ tok tI rfl,.eval tok tI (ds:=[(46,ab)]) rfl (dc m),.cZ tok tI rfl,ay,.cZ tok tI rfl,.cZ tok tI rfl,.cZ tok tI rfl,.eval tok tI (ds:=[]) rfl rfl,.cZ tok tI rfl,.cZ tok tI rfl,.cZ tok tI rfl,.cZ tok tI rfl,ay⟩
 .exact .AH (gL tok tI (ds:=[]) (σ':=aa [Ju s,.dead]) rfl ⟨rfl,rfl⟩)
 .intro _;refine b8 tI rfl ay (AK.bz rfl ?_);have:((cs.length:Int)==N.length)=decide N.Nodup:=by grind
  simp[this,r]
abbrev tHB(l:List (Int×Int))(b:Bool):D:=.fa [.one (.c (.sl ae 2 l.length (cH.fn l))),.one (.c (.bool b))]
def FZ(l:List (Int×Int))(x:Int×Int)(g:iQ l=ab)(f:gR x=ab)(i:l.length<=9):Ev X 76 [cH.sl l,P1 x.1 x.2] [] (tHB (if l.length=9 then l else l++[x]) (decide (l.length≠9))) []:=by
 refine Ev.bQ Tryz.func76 rfl λj=>?_;have d:bL X [(54,oL),(100,kL UA (λh=>dB (gR h)) λ_=>[])]:=.cons we (.cons (.pR λh _=>x5 h) .nil);refine aW d [(9,ae),(14,ae)] rfl ?_ ?_
 .simp only[az,cH.list_fn,g,f,jD,aG,aE];first|exact cH.aO _|(and_intros<;>first|rfl|exact cH.aO _)
 refine AK.cQ (zl l (by omega)) [] rfl ?_;by_cases b:l.length=9
 .refine aW d [(19,ab)] rfl (by simp[b]) ?_;refine AK.oV 1 rfl rfl rfl (by simp) (by simp) ?_;exact AK.bz rfl (by simp[b,rE])
 .refine aW d [(19,ae)] rfl ?_ ?_
  .simp only[az,show i48.bytes=16 from rfl,eD,aG,aE];and_intros<;>first|rfl|omega
  have a:=cH.cy l x;refine AK.CG (φ':=[(4,.e (.one (.bp 1 (.sl (l.length+1) 2 0 (l.length+1))))),(5,dB ab)]) (σ':=[.cells 48 [.c (.int .i64 x.1),.c (.int .i64 x.2)],.buf 48 2 (l.length+1) (cH.fn (l++[x]))]) ?_ rfl (by simp;rfl) rfl (by simp only[az.cat,az,aG,aE];and_intros<;>first|rfl|exact a);refine AK.oV 1 rfl rfl rfl (by simp) (by simp) ?_;exact AK.bz rfl (by simp[b,rE])
def Nw(l:List bJ)(b:l.length<=4000000):Ev X 50 [cP.sl l] [] (dI (if l.length=0 then 0 else(l.getD (l.length-1) (0,[])).1)) []:=by
 refine Ev.bQ Tryz.func50 rfl λc=>?_;by_cases h:l.length=0
 .rw[bl h];exact aX [(5,ab)] rfl (by simp[h]) (AK.bz rfl)
 .have a:l.getD ((l.length:Int)-1).toNat cP.cd=l.getD (l.length-1) (0,[]):=by rw[show((l.length:Int)-1).toNat=l.length-1 by omega];rfl
  rw[aY h];refine aX [(5,ae)] rfl ?_ (AK.bz rfl (by simp only[az,a,aE]));simp only[az,a,bD,eD,aG,aE];and_intros<;>omega
def mH(m:Int)(l:List (Int×Int)):Int:=l.foldl (λm h=>max m (h.2+1)) m
def zU(l:List (Int×Int)):∀m n:Int,mH (max m n) l=max m (mH n l):=by
 induction l with
 |nil=>intro m n;rfl
 |cons x r a =>
  intro m n;show mH (max (max m n) (x.2+1)) r=max m (mH (max n (x.2+1)) r);grind
def Gg{m:Int}{l:List (Int×Int)}{i:Nat}(h:i<l.length):mH m (l.take (i+1))=max (mH m (l.take i)) ((l.getD i (0,0)).2+1):=by unfold mH;grind[bY]
def jd(s:bk):Int:=if s.2.1.length=0 then 1 else max 1 ((s.2.1.getD (s.2.1.length-1) (0,[])).1+1)
def D9(s:bk):mH (jd s) s.2.2=c6 s:=by
 unfold jd c6;have a:mH 1 s.2.2=o0 s.2.2:=rfl;split
 .exact a
 .rw[show max 1 ((s.2.1.getD (s.2.1.length-1) (0,[])).1+1)=max ((s.2.1.getD (s.2.1.length-1) (0,[])).1+1) 1 by omega,zU,a];omega
def DU(s:bk)(l:lq s)(d:rW s):Ev X 13 [pn s] [] (.fa [.one (.c (.int .i64 (cz s))),.one (.c (.int .i64 (c6 s)))]) []:=by
 refine Ev.bQ Tryz.func13 rfl λB=>?_;have j:=l.p;have u:=l.sn;have r:=l.h;have y:1<=jd s/\jd s<=4000001:=by
  unfold jd;split
  .omega
  .have:=d.s _ (fj (show s.2.1.length-1<s.2.1.length by omega) (0,[]));omega
 apply AK.join [(1,.e (.one (.ptr 0 0))),(4,dI (jd s))] [xY s]
 .intro out;by_cases h:s.2.1.length=0
  .refine bO [(12,ae),(1000005,ab)] rfl (by simp only[az,bS];omega) ?_;exact out _ _ rfl (by simp[jd,h])
  .have w:=d.s _ (fj (show s.2.1.length-1<s.2.1.length by omega) (0,[]));have a:s.2.1.getD ((s.2.1.length:Int)-1).toNat fi.cd=s.2.1.getD (s.2.1.length-1) (0,[]):=by rw[show((s.2.1.length:Int)-1).toNat=s.2.1.length-1 by omega];rfl
   refine bO [(12,ab)] rfl ?_ ?_
   .simp only[az,a,bD,a9,aG,aE];and_intros<;>omega
   rw[a];refine AK.law (Bf (jd s) rfl rfl rfl (by unfold jd;grind) (by simp only[bD];omega)) rfl rfl ?_;refine bO [(1000005,ab)] rfl ay ?_;exact out _ _ rfl (by simp)
 refine dm rfl ay ?_;refine AK.cE 1 (λi=>i<=s.2.2.length) (λi:Nat=>[(1,.e (.one (.ptr 0 0))),(4,dI (mH (jd s) (s.2.2.take i))),(24,cH.sl s.2.2),(25,dI s.2.2.length),(26,dI i)]) (λi=>[xY s]) (λi=>s.2.2.length-i) 0 rfl ?_ rfl ?_ rfl (by omega) ?_
 .simp[mH]
 .simp
 intro i hi;have f:∀i,1<=mH (jd s) (s.2.2.take i)/\mH (jd s) (s.2.2.take i)<=4000001:=λi=>by have o:=n8 (s.2.2.take i) λx t=>d.h x (fM t);have q:mH 1 (s.2.2.take i)=o0 (s.2.2.take i):=rfl;rw[show jd s=max (jd s) 1 by omega,zU,q];omega
 have o:=f i;have z:=f (i+1);by_cases h:i<s.2.2.length
 .have w:=d.h _ (fj h (0,0));have a:s.2.2.getD (i:Int).toNat cH.cd=s.2.2.getD i (0,0):=by grind
  have v:=Gg (m:=jd s) h;refine bO [(27,ab)] rfl ?_ ?_
  .simp only[az,a,bD,a9,aG,aE];and_intros<;>omega
  rw[a];refine AK.law (Bf (mH (jd s) (s.2.2.take (i+1))) rfl rfl rfl v.symm (by simp only[bD];omega)) rfl rfl ?_;refine dm rfl ?_ (AK.aQ (i+1) rfl ?_ ?_ h (by omega))
  .simp only[az,bD];omega
  .simp
  .simp
 .obtain rfl:i=s.2.2.length:=by omega
  rw[dq,D9]at o⊢;have b:cz s=(if s.1.length=0 then 0 else(s.1.getD (s.1.length-1) (0,[])).1)+1:=by unfold cz;split<;>rfl
  have g:-4000000<=cz s-1/\cz s-1<=4000000:=by
   rw[b];split
   .omega
   .have:=d.p _ (fj (show s.1.length-1<s.1.length by omega) (0,[]));omega
  have n:=Nw (X:=X) s.1 j;have k:=x6 (X:=X) s;rw[b]at g⊢;generalize(if s.1.length=0 then 0 else(s.1.getD (s.1.length-1) (0,[])).1)=p at *;have A:bL X [(49,pT [pn s] (pn s)),(50,pT [cP.sl s.1] (dI p))]:=.cons (rP k) (.cons (rP n) .nil);refine bO [(27,ae)] rfl (by simp) (AK.leaveD rfl rfl ?_);refine cG A rfl ?_ (AK.bz rfl);simp only[az,bD,aG,aE];and_intros<;>first|rfl|omega
abbrev Rw(l:List Bs):C:=.sl ae 1 l.length (cS.fn l)
def Jc(l:List Bs):Ev X 73 [cS.sl l,dI 4] [] (.e (.one (.c (.fn (.func 124) [] [.rp [Rw l],.rp [.int .i64 4]])))) []:=by refine Ev.bQ Tryz.func73 rfl λa=>?_;refine oJ [] 6 rfl ay ?_;refine AK.freeze 2 0 rfl rfl rfl ?_;refine AK.freeze 3 1 rfl rfl rfl ?_;exact aX [(6,ae)] rfl (by simp) (AK.bz rfl (by simp;rfl))
def uG(l:List Bs)(k:Nat):List Bs:=(l.drop (4*k)).take 4
def FY(l:List Bs)(A:l.length<=4000000){d:Nat}{N0:Nat}{φ0:Fr}{b lr':Loop}(m:Nat)(y:m<=(l.length+3) / 4)(a:Nat->List aR)(j:List aR)(x:∀k,(a k).length=d)(v:∀k,lM (a k++[.loop N0 φ0 b])=ab)(u:lM (j++[.loop N0 φ0 lr'])=ab)(rQ:∀k,k<m->4*k<l.length->Yields (ι:=Unit) X d [cS.sl (uG l k)] (a k++[.loop N0 φ0 b]) ab (λ_=>a (k+1)++[.loop N0 φ0 b]))(j8:4*m<l.length->Yields (ι:=Unit) X d [cS.sl (uG l m)] (a m++[.loop N0 φ0 b]) ae (λ_=>j++[.loop N0 φ0 lr'])):
  ef (ι:=Unit) X 124 [.e (.one (.ref d)),.e (.one (.c (.rp [Rw l]))),.e (.one (.c (.rp [.int .i64 4])))] (a 0++[.loop N0 φ0 b]) (λ_=>.fa []) (λ_=>if 4*m<l.length then j++[.loop N0 φ0 lr']else a m++[.loop N0 φ0 b]):=by
 refine ef.EL Tryz.func124 rfl rfl rfl (AK.of_code ?_);refine bt rfl ay ?_;show AW X _ (.loop _) _ _ _;refine AW.loop (S:=Nat) (λk=>k<=m) (λk=>[(0,.e (.one (.ref d))),(1,.e (.one (.c (.rp [Rw l])))),(2,.e (.one (.c (.rp [.int .i64 4])))),(4,dI (4*k:Nat))]) (λk=>a k++[.loop N0 φ0 b]) (λk=>m-k) 0 (kD _) ?_ rfl ?_
 .exact .cons rfl (cD rfl (by simp))
 intro k hk;refine AK.of_code ?_;by_cases h:4*k<l.length
 .have o:az (fY l.length (aa ((4*k:Nat):Int)) af):=by simp only[fY,az];omega
  have p:dj l.length af-dj 0 (aa ((4*k:Nat):Int))=l.length-4*k:=by simp only[dj];omega
  refine aX [(9,ab),(1000003,ab)] rfl (by simp only[az,a9];omega) ?_;let xs:Nat->D:=λi=>([dI 4,cS.sl l,dI (4*k:Nat),.e (.one (.c (.sl ae 1 (dj l.length af-dj 0 (aa ((4*k:Nat):Int))) (mf (dj 0 (aa ((4*k:Nat):Int))) (cS.fn l))))),dI (dj l.length af-dj 0 (aa ((4*k:Nat):Int)):Nat),dI (min 4 (l.length-4*k):Nat),dI (min 4 (l.length-4*k):Nat)]:List D).getD i .any;refine AK.flags jk xs (uQ (λ_ _ _=>a k++[.loop N0 φ0 b]) 100 101 102) ?_ ?_ ?_ ?_ ?_ ?_
  .rfl
  .rfl
  .rfl
  .rfl
  .exact⟨.Js tok bL.nil,
   .Js tok bL.nil,
   .Js tok bL.nil,
   eh.q3 rfl rfl rfl (λ_ _ _=>OA.eval (ds:=[]) tok bL.nil rfl o),
   .Js tok bL.nil,
   eh.q3 rfl rfl rfl (λ_ _ _=>OA.kT (λ_ _ _ _=>dK rfl) (xJ _ rfl rfl rfl (by grind) (by simp only[bD];omega))),
   .Js tok bL.nil,ay⟩
  intro D z;show AK X _ _ _ _ _ (a k++[.loop N0 φ0 b]);have s:(((4*k:Nat):Int)+((min 4 (l.length-4*k):Nat):Int))=((4*k+min 4 (l.length-4*k):Nat):Int):=by omega
  refine bt rfl ?_ ?_
  .simp only[az,bD,aG,aE];omega
  refine AK.law (bM.OO tok rfl rfl rfl rfl (n:=l.length) (es:=cS.fn l) (tt:=ae) (λ_ _ r=>e9 r) rfl rfl rfl (by omega) (by omega) (by omega) (by omega)) rfl rfl ?_;have w:(uG l k).length=min 4 (l.length-4*k):=by simp[uG]
  refine iw.le (φ':=[(0,.e (.one (.ref d))),(19,.e (.one (.ref d))),(1,.e (.one (.c (.rp [Rw l])))),(2,.e (.one (.c (.rp [.int .i64 4])))),(4,dI (4*k:Nat)),(28,cS.sl (uG l k))]) ?_ (.cons rfl (.cons rfl (cD rfl ?_)))
  .have g:(a k++[aR.loop N0 φ0 b])[d]?=aa (.loop N0 φ0 b):=by grind
   rcases cM k m with f|f
   .refine AK.yield (rQ k f h) rfl rfl rfl (N0:=N0) (φ0:=φ0) (r:=b) g rfl rfl λ_=>?_;exact aX [(30,ae)] rfl (by simp only[az,bD,jD,aG,aE];omega) ⟨k+1,by omega,by omega,.cons rfl (cD rfl (by simp only[az.cat,az,aG,aE];grind)),rfl⟩
   .obtain rfl:k=m:=by omega
    refine AK.yield (j8 h) rfl rfl rfl (N0:=N0) (φ0:=φ0) (r:=b) g rfl rfl λ_=>?_;refine aX [(30,ab)] rfl (by simp) ?_;exact AK.ret ⟨(),.inl rfl,(bl h).symm,by grind,[],.fa [],[],rfl,rfl,rfl,ay⟩
  .simp only[az.cat,az,aG,aE];have t:((4*k:Nat):Int).toNat=4*k:=by omega
   have q:(((4*k:Nat):Int)+((min 4 (l.length-4*k):Nat):Int)).toNat-((4*k:Nat):Int).toNat=(uG l k).length:=by grind
   refine⟨q,λi hi=>?_⟩;rw[q]at hi;rw[t];show cS.enc (l.getD (4*k+i) cS.cd)=cS.enc ((uG l k).getD i cS.cd);congr 1;simp only[uG,ak];grind
 .obtain rfl:k=m:=by omega
  refine aX [(9,ae)] rfl (by simp only[az,bS];omega) ?_;refine AK.EP rfl rfl ?_;exact⟨(),.inr rfl,(aY h).symm,by grind,[],.fa [],[],rfl,rfl,rfl,ay⟩
def Jb(k:Int)(s:bk)(l:List Bs)(j:Nat):Bool:=(oe (cz s+j) k (uG l j)).2&&!(s.1.length+j==20)
def lJ(g:Nat->Bool):Nat->Nat->Nat
 |0,j=>j
 |f+1,j=>if g j=ab then lJ g f (j+1)else j
def p0(g:Nat->Bool):∀(f j:Nat),j<=lJ g f j/\lJ g f j<=j+f/\(∀i,j<=i->i<lJ g f j->g i=ab)/\(lJ g f j<j+f->g (lJ g f j)=ae)
 |0,j=>⟨bc _,bc _,λi b a=>absurd b (by simp only[lJ]at a;omega),λh=>absurd h (by simp[lJ])⟩
 |f+1,j=>by obtain⟨b,a,c,d⟩:=p0 g f (j+1);rw[lJ];grind
def kA(k:Int)(s:bk)(l:List Bs)(n:Nat):List bJ:=(bh n).map λj:Nat=>(oe (cz s+j) k (uG l j)).1
theorem uH(k:Int)(s:bk)(l:List Bs)(n:Nat):(kA k s l n).length=n:=by simp[kA]
def FX(k:Int)(s:bk)(l:List Bs)(n:Nat):kA k s l (n+1)=kA k s l n++[(oe (cz s+(n:Nat)) k (uG l n)).1]:=by simp[kA,List.range_succ]
def uI{s:bk}(a:rW s):-4000000<=cz s/\cz s<=4000001:=by
 unfold cz;split
 .omega
 .rename_i h;have:=a.p _ (ux h (0,[]));omega
def tD(k:Int)(s:bk)(by_:Int)(t:List bw):bk×Option Bs :=
 let l:=dz k t (indexOf s.1);let m:=lJ (Jb k s l) ((l.length+3) / 4) 0
 if m<(l.length+3) / 4 then(([],[],[]),aa [112,97,99,107,115])
 else if 20<c6 s then(([],[],[]),aa [115,110,97,112,115,104,111,116,115])
 else if s.2.2.length=9 then(([],[],[]),aa [104,101,97,100,115])
 else((s.1++kA k s l m,s.2.1++[eJ (c6 s) k t],s.2.2++[(by_,c6 s)]),af)
def erE:Option Bs->E1
 |none=>.one (.c .iI)
 |some w=>.one (.c (.ifs 60 (.rp [.str w])))
def tSv(q:bk×Option Bs):D:=.fa [.agg [.c (Hc q.1.1),.c (Fy q.1.2.1),.c (C9 q.1.2.2)],erE q.2]
abbrev svF(s:bk)(by_:Int)(t:List bw)(l:List Bs):Fr:=[(2,dI by_),(3,cF.sl t),(4,.e (.one (.ptr 2 0))),(5,.e (.one (.ptr 3 0))),(8,.e (.one (.ptr 4 0))),(9,.e (.one (.ptr 5 0))),(10,.e (.one (.ptr 9 0))),(11,.e (.one (.ptr 10 0))),(12,dI (c6 s)),(33,.e (.one (.c (.fn (.func 124) [] [.rp [Rw l],.rp [.int .i64 4]]))))]
abbrev M7(a b:aj×ah)(k:Int)(s:bk)(d:C)(ps:List bJ)(no:Int):List aR:=GB a b++[.cells 27 [.c (Hc s.1),.c (Fy s.2.1),.c (C9 s.2.2)],.cells 3 [.c (.int .i64 k)],.cells 27 [gU,gU,gU],.cells 57 [.c d],
 .buf 67 2 ps.length (cP.fn ps),.buf 71 2 s.2.1.length (fi.fn s.2.1),.dead,.cells 27 [.bp 6 (.sl ps.length 2 0 ps.length),.bp 7 (.sl s.2.1.length 2 0 s.2.1.length),.c (C9 s.2.2)],.cells 3 [.c (.int .i64 no)]]
def M8{b c:aj×ah}{k:Int}{s:bk}{d a:C}{ps UI:List bJ}{no no':Int}{N:Nat}{φ:Fr}{r r':Loop}(i:Nat)(B:aR)(hB:(M7 b c k s d ps no++[.loop N φ r])[i]?=aa B):Ew 12 (M7 b c k s a UI no'++[.loop N φ r']) i B:=by
 rcases i with _|_|_|_|_|_|_|_|_|_|_|_|i<;>first
  |(cases hB;exact .inl ⟨_,_,rfl,rfl⟩)
  |(cases hB;exact .inr (.inr (.inl ⟨_,_,_,_,rfl,rfl⟩)))
  |(cases hB;exact .inr (.inr (.inr ⟨by grind,by grind⟩)))
  |(cases hB;done)
def M9(f d:aj×ah)(k:Int)(s:bk)(by_:Int)(t:List bw)(hk:b7 k=ab)(n:lq s)(E:rW s)(F:cC t=ab)(M:(cV s.1).length<=100000)(H:rY (indexOf s.1) (indexOf s.1).length=ab)(o:iQ s.2.2=ab)(hby:by_=1∨by_=2)(L:1<=c6 s):
  Ev X 26 [pn s,dI k,dI by_,cF.sl t] (GB f d) (tSv (tD k s by_ t)) (GB f d):=by
 obtain⟨r,a⟩:∃r,r=tD k s by_ t:=⟨_,rfl⟩;rw[<-a];unfold tD at a;simp only at a;refine(ef.OC (ι:=Unit) (σ':=λ_=>GB f d) (res:=λ_=>tSv r) Tryz.func26 rfl rfl rfl ?_).Ce
 refine jO.seq (AW.top (AK.of_code ?_));refine bt rfl ay ?_;refine jO.seq (AW.top (AK.of_code ?_));refine bt rfl ay ?_;refine AK.cQ (xR s n.p n.p2 n.sn n.s2 n.h) [] rfl ?_;refine bt rfl ay ?_;refine jO.seq (AW.top (AK.of_code ?_));refine AK.oV 8 rfl rfl rfl (by simp) (by simp;exact⟨ay,ay⟩) ?_;refine bt rfl ay ?_;refine AK.cQ (DU s n E) [] rfl ?_;refine bt rfl ay ?_;refine jO.seq (jO.seq (AW.top (AK.of_code ?_)));generalize I:indexOf s.1=ix at *;have x:bL X [(12,pT [cP.sl s.1] (cH.sl ix)),(73,pT [cS.sl (dz k t ix),dI 4] (.e (.one (.c (.fn (.func 124) [] [.rp [Rw (dz k t ix)],.rp [.int .i64 4]])))))]:=.cons (rP (I▸DV s.1 n.p M)) (.cons (rP (Jc _)) .nil);have D:ix.length<=4000000:=by grind[uW]
 refine AK.calm jk [dI k,cF.sl t,.e (.one (.ptr 2 0)),cP.sl s.1,cH.sl ix,cS.sl (dz k t ix),.e (.one (.c (.fn (.func 124) [] [.rp [Rw (dz k t ix)],.rp [.int .i64 4]])))] 12 rfl rfl rfl rfl rfl ⟨OA.cZ tok x rfl,OA.cZ tok x rfl,OA.cZ tok x rfl,OA.cZ tok x rfl,
  OA.eval (ds:=[]) tok x rfl rfl,OA.UF (mV.qz (DR f d k t ix hk F H D).tO [0,1] rfl rfl rfl rfl rfl rfl rfl (λ_=>rfl) rfl (λ_=>rfl)),OA.eval (ds:=[]) tok x rfl rfl,ay⟩ ?_
 refine bt rfl ay ?_;refine jO.block ?_;refine jO.norm (svF s by_ t (dz k t ix)) (M7 f d k s .iI (s.1++kA k s (dz k t ix) 0) (cz s+(0:Nat))) rfl ?_ rfl ?_ ?_
 .simp
 .simp[kA];exactλi _=>rfl
 have y:∀p∈dz k t ix,bx p=ab:=(hO (dF F)).1;have P:(dz k t ix).length<=4000000:=iZ (hO (dF F)).2 (by decide);generalize dz k t ix=l at *;obtain⟨g1,g2,Y,T⟩:=p0 (Jb k s l) ((l.length+3) / 4) 0;have Ec:=n.p;generalize U:lJ (Jb k s l) ((l.length+3) / 4) 0=m at *;refine jO.EH (capD:=fP [.rp [Rw l],.rp [.int .i64 4]]) (cu.callee rfl)
  (FY (lr':=?lr2) l P m (by omega) (λj=>M7 f d k s .iI (s.1++kA k s l j) (cz s+(j:Nat))) (M7 f d k s (.ifs 60 (.rp [.str [112,97,99,107,115]])) (s.1++kA k s l m) (cz s+(m:Nat))) (λj=>rfl) (λj=>rfl) rfl (λj hj G=>?rQ) λhs4=>?j8) λi=>?hk
 case j8 =>
  have C:Jb k s l m=ae:=T (by omega);have w:=vd (X:=X) f d (cz s+(m:Nat)) k (uG l m) (by have:=uI E;simp only[bD];omega) hk (λp N=>y p (rz (fM N))) (by simp[uG];omega);have A:=uH k s l m;generalize W:oe (cz s+(m:Nat)) k (uG l m)=q at *;refine Yields.sO (rest:=λ_=>[.cells 67 [.c (.int .i64 q.1.1),.c (.sl ae 2 q.1.2.length (eg.fn q.1.2))],.dead]) (Yields.intro (j:=aa .ret) rfl rfl rfl rfl (AK.of_code ?_)) ?_ ?_
  .refine bt rfl ay ?_;refine⟨rfl,rfl,AK.of_code ?_⟩;refine bt rfl ay ?_;refine AK.cQ w [0,1] rfl ?_;have b:(s.1++kA k s l m).length=s.1.length+m:=by grind
   have g:q.2=ab->s.1.length+m=20:=λh=>by simpa[Jb,W,h]using C
   cases u:q.2 with
   |false =>
    refine aX [(44,ab),(49,ab),(1000007,ab)] rfl (by simp[u]) ?_;refine AK.region ?_;refine oJ [] 3 rfl ay ?_;refine AK.s8 52 13 rfl rfl rfl ?_;refine bt rfl ay (AK.ret ?_);refine⟨rfl,rfl,(),gD rfl ?_⟩;simp only[az.cat,az,aG,aE];and_intros<;>first|exact cA.same|exact cA.nil|rfl
   |true =>
    have:=g u;refine aX [(44,ae),(49,ab),(1000007,ab)] rfl (by simp only[az,u,b];grind) ?_;refine AK.region ?_;refine oJ [] 3 rfl ay ?_;refine AK.s8 52 13 rfl rfl rfl ?_;refine bt rfl ay (AK.ret ?_);refine⟨rfl,rfl,(),gD rfl ?_⟩;simp only[az.cat,az,aG,aE];and_intros<;>first|exact cA.same|exact cA.nil|rfl
  .exactλ_=>rfl
  .exactλ_=>M8
 case rQ =>
  have v:Jb k s l j=ab:=Y j (kD _) hj;have w:=vd (X:=X) f d (cz s+(j:Nat)) k (uG l j) (by have:=uI E;simp only[bD];omega) hk (λp N=>y p (rz (fM N))) (by simp[uG];omega);have A:=uH k s l j;have Z:=FX k s l j;obtain⟨q1,q2⟩:(oe (cz s+(j:Nat)) k (uG l j)).2=ab/\¬s.1.length+j=20:=by simpa[Jb]using v
  generalize oe (cz s+(j:Nat)) k (uG l j)=q at *;have b:(s.1++kA k s l j).length=s.1.length+j:=by grind
  have Q:s.1++kA k s l (j+1)=(s.1++kA k s l j)++[q.1]:=by grind
  generalize s.1++kA k s l j=ps at *;refine Yields.sO (rest:=λ_=>[.cells 67 [.c (.int .i64 q.1.1),.c (.sl ae 2 q.1.2.length (eg.fn q.1.2))]]) (Yields.intro (j:=af) rfl rfl rfl rfl (AK.of_code ?_)) ?_ ?_
  .refine bt rfl ay ?_;refine⟨rfl,rfl,AK.of_code ?_⟩;refine bt rfl ay ?_;refine AK.cQ w [0,1] rfl ?_;have J:=cP.cy ps q.1;have hb:=uI E;refine aX [(44,ae),(49,ae)] rfl ?_ ?_
   .simp only[az,bD,q1,show i67.bytes=32 from rfl,b,eD,dy,jD,aG,aE];omega
   refine⟨rfl,rfl,(),gD rfl ?_⟩;have O:(ps++[q.1]).length=ps.length+1:=by simp
   have R:cz s+(j:Int)+1=cz s+((j+1:Nat):Int):=by omega
   rw[Q,O,<-R];simp only[az.cat,az,aG,aE];and_intros<;>first|exact cA.same|exact J|rfl
  .exactλ_=>rfl
  .exactλ_=>M8
 case hk =>
  by_cases G:4*m<l.length
  .rw[bl G];refine⟨_,rfl,by simp,.ret,rfl,?_⟩;rw[bl (show m<(l.length+3) / 4 by omega)]at a;subst a;simp only[xc,Cy];refine .freeze 8 4 rfl rfl rfl (.freeze 9 5 rfl rfl rfl (.of ⟨(),rD.cells tok [0,1] rfl ?_ rfl rfl rfl BF⟩));simp
  .rw[aY G];refine⟨_,rfl,by simp,.normal,rfl,?_⟩;rw[aY (show¬m<(l.length+3) / 4 by omega)]at a;show jO X _ _ _ _ _;refine AW.top (AK.of_code ?_);by_cases g:20<c6 s
   .rw[bl g]at a;subst a;refine aX [(63,ab),(1000011,ab)] rfl (by simp only[az,a9];omega) ?_;refine AK.region ?_;refine oJ [] 3 rfl ay ?_;refine AK.s8 66 13 rfl rfl rfl ?_;refine bt rfl ay (AK.ret (.freeze 8 4 rfl rfl rfl (.freeze 9 5 rfl rfl rfl (.of ⟨(),rD.cells tok [0,1] rfl ?_ rfl rfl rfl BF⟩))));simp
   rw[aY g]at a;have K:s.2.2.length<=9:=by simp only[iQ,bR,a9]at o;omega
   refine aX [(63,ae)] rfl (by simp only[az,bS];omega) ?_;refine AK.cQ (FV f d (c6 s) k t ⟨L,by omega⟩ hk F) [0,1] rfl ?_;have J:=fi.cy s.2.1 (eJ (c6 s) k t);have S:=n.sn;refine aX [(1000014,ab)] rfl ?_ ?_
   .simp only[az,show i71.bytes=32 from rfl,aG,aE];omega
   refine AK.region ?_;refine bt rfl ay ?_;refine AK.cQ (FZ s.2.2 (by_,c6 s) o (by simp only[gR,bR,a9];omega) K) [] rfl ?_;by_cases B:s.2.2.length=9
   .rw[bl B]at a;subst a;refine aX [(91,ab),(1000016,ab)] rfl (by simp[B]) ?_;refine AK.region ?_;refine oJ [] 3 rfl ay ?_;refine AK.s8 94 14 rfl rfl rfl ?_;refine bt rfl ay (AK.ret (.freeze 8 4 rfl rfl rfl (.freeze 9 5 rfl rfl rfl (.of ⟨(),rD.cells tok [0,1] rfl ?_ rfl rfl rfl BF⟩))));simp
   .rw[aY B]at a;subst a;simp only[aY B];refine aX [(91,ae),(1000018,ab)] rfl (by simp[B]) ?_;have A:(s.1++kA k s l m).length=s.1.length+m:=by grind[uH]
    generalize s.1++kA k s l m=ps at *;generalize hsw:s.2.1++[eJ (c6 s) k t]=sw at *;have z:sw.length=s.2.1.length+1:=by grind
    generalize V:s.2.2++[(by_,c6 s)]=hw at *;refine AK.CG (φ':=[(8,.e (.one (.ptr 4 0))),(9,.e (.one (.ptr 5 0))),(10,.e (.one (.ptr 9 0)))]) (σ':=GB f d++[.cells 27 [.c (Hc s.1),.c (Fy s.2.1),.c (C9 s.2.2)],.cells 3 [.c (.int .i64 k)],.cells 27 [gU,gU,gU],.cells 57 [.c .iI],.buf 67 2 ps.length (cP.fn ps),.buf 71 2 sw.length (fi.fn sw),.dead,.cells 27 [.bp 6 (.sl ps.length 2 0 ps.length),.bp 7 (.sl sw.length 2 0 sw.length),.c (C9 hw)],.cells 3 [.c (.int .i64 (cz s+(m:Nat)))],.dead,.qX,.cells 71 [.c (.int .i64 (eJ (c6 s) k t).1),.c (.sl ae 2 (eJ (c6 s) k t).2.length (cL.fn (eJ (c6 s) k t).2))]]) ?_ rfl ?_ rfl ?_
    .refine AK.oV 6 rfl rfl rfl (by simp) (by simp) ?_;refine AK.oV 7 rfl rfl rfl (by simp) (by simp) ?_;refine bt rfl ay (AK.ret (.freeze 8 4 rfl rfl rfl (.freeze 9 5 rfl rfl rfl (.of ⟨(),rD.cells tok [0,1] rfl ?_ rfl rfl rfl BF⟩))));simp[rE]
    .simp
    .simp only[az.cat,az,z,aG,aE];and_intros<;>first|exact cA.same|exact J|rfl
def lk:List (Int×Int)->C
 |[]=>.fz
 |h::t=>.rp [.int .i64 h.1,.int .i64 h.2,lk t]
abbrev Xt(l:List (Int×Int)):C:=.sl ae 2 l.length (cH.fn l)
def Qp(l:List (Int×Int)):Ev X 149 [cH.sl l] [] (.e (.one (.c (.fn (.func 188) [] [.rp [Xt l]])))) []:=by refine Ev.bQ Tryz.func149 rfl λa=>?_;refine oJ [] 5 rfl ay ?_;refine AK.freeze 1 0 rfl rfl rfl ?_;refine bt rfl ay (AK.bz rfl ?_);rfl
def Jm(l:List (Int×Int))(f:l.length<=4000000){N0:Nat}{φ0:Fr}{a:Loop}{b:aR}(B:Nat->aR)(d:b=B l.length)(hB:∀t,B t≠.qX)(rQ:∀i,i<l.length->Yields (ι:=Unit) X 1 [dI i,.e (.agg [.c (.int .i64 (l.getD i (0,0)).1),.c (.int .i64 (l.getD i (0,0)).2)])] [B (i+1),.loop N0 φ0 a] ab (λ_=>[B i,.loop N0 φ0 a])):
  ef (ι:=Unit) X 188 [.e (.one (.ref 1)),.e (.one (.c (.rp [Xt l])))] [b,.loop N0 φ0 a] (λ_=>.fa []) (λ_=>[B 0,.loop N0 φ0 a]):=by
 subst d;refine ef.EL Tryz.func188 rfl rfl rfl (AK.of_code ?_);refine bt rfl (by simp only[az,bD,aG,aE];omega) ?_;show AW X _ (.loop _) _ _ _;refine AW.loop (S:=Nat) (λk=>k<=l.length) (λk=>[(0,.e (.one (.ref 1))),(1,.e (.one (.c (.rp [Xt l])))),(3,dI ((k:Int)-1))]) (λk=>[B k,.loop N0 φ0 a]) (λk=>k) l.length (bc _) (cD rfl (by simp)) rfl ?_;intro k hk;rcases k with _|i
 .refine AK.of_code ?_;refine aX [(8,ae)] rfl (by simp) ?_;refine AK.EP rfl rfl ?_;exact⟨(),.inr rfl,rfl,mn (hB 0) (mn (by simp) rfl),[],.fa [],[],rfl,rfl,rfl,ay⟩
 .have e:(((i+1:Nat):Int)-1)=(i:Int):=by omega
  rw[e];refine AK.of_code ?_;refine aX [(8,ab)] rfl ?_ ?_
  .simp only[az,a9,aG,aE];omega
  refine AK.yield (rQ i hk) rfl rfl rfl rfl rfl rfl λ_=>?_;refine aX [(18,ae)] rfl ?_ ?_
  .simp only[az,bD,jD,aG,aE];omega
  exact⟨i,by omega,by omega,cD rfl (by simp),rfl⟩
def zS{l:List (Int×Int)}{i:Nat}(h:i<l.length):l.drop i=l.getD i (0,0)::l.drop (i+1):=by grind[List.drop_eq_getElem_cons]
def zR(l:List (Int×Int))(f:l.length<=4000000):Ev X 101 [cH.sl l] [] (.e (.one (.c (lk l)))) []:=by
 refine(ef.AG (ι:=Unit) (σ':=λ_=>[]) (res:=λ_=>.e (.one (.c (lk l)))) Tryz.func101 rfl rfl rfl λd=>?_).Ce;have b:bL X [(149,pT [cH.sl l] (.e (.one (.c (.fn (.func 188) [] [.rp [Xt l]])))))]:=.cons (rP (Qp l)) .nil;refine jO.seq (AW.top (AK.of_code ?_));refine b8 b rfl ay ?_;refine jO.seq (AW.top (AK.of_code ?_));refine b8 b rfl ay ?_;refine jO.seq (jO.seq (AW.top (AK.of_code ?_)));refine b8 b rfl rfl ?_;refine jO.block ?_;have a:lk (l.drop l.length)=.fz:=by rw[qn];rfl
 refine jO.rangeFunc (capD:=fP [.rp [Xt l]]) (cu.callee rfl) (Jm l f (λi=>.cells 162 [.c (lk (l.drop i))]) (by rw[a];rfl) (by simp) ?_) (λi=>⟨rfl,by simp⟩) λi=>⟨.normal,rfl,?_⟩
 .intro i hi;refine Yields.sO (rest:=λ_=>[.cells 48 [.c (.int .i64 (l.getD i (0,0)).1),.c (.int .i64 (l.getD i (0,0)).2)],.dead]) ?_ (λ_=>rfl) (λ_ j B hB=>?_)
  .rw[zS hi];generalize l.drop (i+1)=r;cases r<;>(
    refine Yields.intro (j:=af) rfl rfl rfl rfl (AK.of_code ?_);refine bt rfl ay ?_;refine⟨rfl,rfl,AK.of_code ?_⟩;refine oJ [] 1 rfl ay ?_;refine AK.region ?_;refine oJ [] 4 rfl ay ?_;refine AK.s8 13 3 rfl rfl rfl ?_;refine bt rfl ay ?_;refine⟨rfl,rfl,(),gD rfl ?_⟩;simp[lk])
  .match j,hB with
   |0,hB=>cases hB;exact .inl ⟨_,_,rfl,rfl⟩
   |1,hB=>exact .inr (.inl hB)
   |j+2,hB=>simp at hB
 .show jO X _ _ _ _ _;refine AW.top (AK.of_code ?_);rw[List.drop_zero];cases l<;>(
   refine bt rfl ay ?_;refine AK.ret ⟨(),cw.zero rfl ?_⟩;simp[lk])
end
def mF{α b:Type}{f:α->List b}{n:Nat}:∀{l:List α},(∀x∈l,(f x).length<=n)->(l.flatMap f).length<=n*l.length
 |[],_=>by simp
 |x::l,h=>by have d:=h x lB;have c:=mF (l:=l) λy a=>h y (po _ a);grind[Nat.mul_succ]
def FP{x:fe}(h:x.2.length<=6/\∀y∈x.2,y.2.length<=40):(wc x.2).length<=240:=by have:=mF (f:=λy:js=>y.2) (n:=40) h.2;unfold wc;omega
abbrev cTr:List (Nat×dv):=[(53,ui)]
def FL(k:Int)(s:bk)(t:NM s):Ev (Cx.beside ag) 57 [pn s,dI k] [] (dB ((bh s.2.1.length).all (ko k s))) []:=by
 refine Ev.bQ Tryz.func57 rfl λx=>?_;have w:=t.sN;have q:=t.sm;have c:bL (Cx.beside ag) cTr:=.cons zj .nil;refine b8 c rfl ay ?_;refine AK.cE 1 (λi=>i<=s.2.1.length/\∀j,j<i->ko k s j=ab) (λi:Nat=>[(1,dI k),(2,.e (.one (.ptr 0 0))),(10,fi.sl s.2.1),(11,dI s.2.1.length),(12,dI i)]) (λ_=>[Ju s]) (λi=>s.2.1.length-i) 0 rfl (by simp) rfl (by simp) rfl ⟨by omega,by omega⟩ ?_;rintro i ⟨hi,b⟩;by_cases h:i<s.2.1.length
 .have n:s.2.1.getD i fi.cd=s.2.1.getD i (0,[]):=rfl;have o:s.2.1.getD (i-1) fi.cd=s.2.1.getD (i-1) (0,[]):=rfl;have a:ko k s i=(decide (1<=(s.2.1.getD i (0,[])).1/\(s.2.1.getD i (0,[])).1<=20)&&Dp (·.1) (0,[]) s.2.1 i&&(cg k (s.2.1.getD i (0,[])) s.1).isSome):=rfl;have r:=qO (f:=λp:fe=>p.1) (d:=(0,[])) (l:=s.2.1) (i:=i);have g:=q _ (l7 (d:=(0,[])) h);generalize s.2.1.getD i (0,[])=p at *;generalize s.2.1.getD (i-1) (0,[])=p' at *;by_cases c1:1<=p.1
  rotate_left
  .refine aW c [(13,ab),(20,ab),(25,ab),(40,ab)] rfl ?_ (AK.fQ (cw.zero rfl ?_))
   .simp[-ak,n];omega
   .rw[iP h (by grind)];simp
  by_cases c2:p.1<=20
  rotate_left
  .refine aW c [(13,ab),(20,ae),(25,ab),(40,ab)] rfl ?_ (AK.fQ (cw.zero rfl ?_))
   .simp[-ak,n];omega
   .rw[iP h (by grind)];simp
  rw[dc ⟨c1,c2⟩,fO]at a;by_cases u:i=0
  .subst u;rw[show Dp (·.1) (0,[]) s.2.1 0=ab from rfl,fO]at a;cases m:(cg k p s.1).isSome with
   |false =>
    refine aW c [(13,ab),(20,ae),(25,ae),(27,ae),(40,ae),(50,ab)] rfl ?_ (AK.fQ (cw.zero rfl ?_))
    .simp[-ak,n,bD,cL.list_fn,cL.aO,cP.list_fn,cP.aO,m,g.1];and_intros<;>first|omega|grind
    .rw[iP h (a.trans m)];simp
   |true =>
    refine aW c [(13,ab),(20,ae),(25,ae),(27,ae),(40,ae),(50,ae)] rfl ?_ (AK.aQ 1 rfl (by simp) (by simp) ⟨h,kn b (a.trans m)⟩ (by omega));simp[-ak,n,bD,cL.list_fn,cL.aO,cP.list_fn,cP.aO,m,g.1];and_intros<;>first|omega|grind
  rw[r u]at a;by_cases v:p'.1<p.1
  rotate_left
  .refine aW c [(13,ab),(20,ae),(25,ae),(28,ab),(38,ab),(40,ab)] rfl ?_ (AK.fQ (cw.zero rfl ?_))
   .simp[-ak,n,o,bD];omega
   .rw[iP h (by grind)];simp
  rw[dc v,fO]at a;cases m:(cg k p s.1).isSome with
  |false =>
   refine aW c [(13,ab),(20,ae),(25,ae),(28,ab),(38,ae),(40,ae),(50,ab)] rfl ?_ (AK.fQ (cw.zero rfl ?_))
   .simp[-ak,n,o,bD,cL.list_fn,cL.aO,cP.list_fn,cP.aO,m,g.1];and_intros<;>first|omega|grind
   .rw[iP h (a.trans m)];simp
  |true =>
   refine aW c [(13,ab),(20,ae),(25,ae),(28,ab),(38,ae),(40,ae),(50,ae)] rfl ?_ (AK.aQ (i+1) rfl (by simp) (by simp) ⟨h,kn b (a.trans m)⟩ (by omega));simp[-ak,n,o,bD,cL.list_fn,cL.aO,cP.list_fn,cP.aO,m,g.1];and_intros<;>first|omega|grind
 obtain rfl:i=s.2.1.length:=by omega
 rw[dE.2 b];refine aW c [(13,ae)] rfl (by simp) (AK.leaveD rfl rfl ?_);exact b8 c rfl ay (AK.bz rfl)
def yL(k:Int)(s:bk):fI k s=(b7 k&&zA k s&&(bh s.2.1.length).all (ko k s)&&iQ s.2.2):=by unfold fI zA;cases(bh s.1.length).all (mz k s.1)<;>cases decide (bE s.1).Nodup<;>cases(bh s.2.1.length).all (ko k s)<;>cases b7 k<;>cases iQ s.2.2<;>cases decide (s.1.length<=20)<;>rfl
abbrev TN:dv:=ph S5 aI (λs k=>dB (zA k s)) λs k=>[b7 k=ab,NM s]
abbrev TO:dv:=ph S5 aI (λs k=>dB ((bh s.2.1.length).all (ko k s))) λs _=>[NM s]
def Dt(k:Int)(s:bk)(e:NM s):Ev (Cx.beside ag) 18 [dI k,pn s] [] (dB (fI k s)) []:=by
 refine Ev.bQ Tryz.func18 rfl λi=>?_;have d:bL (Cx.beside ag) [(49,Mj),(40,kL aI (λk=>dB (b7 k)) λ_=>[]),(56,TN),(57,TO),(54,oL)]:=.cons TM (.cons t40 (.cons (.te λs k h=>FJ k s h.1 h.2) (.cons (.te λs k h=>FL k s h) (.cons we .nil))));have c:=cP.list_fn s.1;have b:=fi.list_fn s.2.1;have a:=cH.list_fn s.2.2;rw[yL];cases hk:b7 k
 .exact aW d [(10,ae),(15,ae),(20,ae)] rfl (by simp[hk,c,b,a,cP.aO,fi.aO,cH.aO]) (AK.bz rfl)
 cases f:zA k s
 .exact aW d [(10,ab),(15,ae),(20,ae)] rfl (by simp[hk,c,b,a,cP.aO,fi.aO,cH.aO,e,f]) (AK.bz rfl)
 cases g:(bh s.2.1.length).all (ko k s)
 .exact aW d [(10,ab),(15,ab),(20,ae)] rfl (by simp[-bC,-List.all_eq_false,hk,c,b,a,cP.aO,fi.aO,cH.aO,e,f,g]) (AK.bz rfl)
 exact aW d [(10,ab),(15,ab),(20,ab)] rfl (by simp[-bC,-List.all_eq_false,hk,c,b,a,cP.aO,fi.aO,cH.aO,e,f,g]) (AK.bz rfl (by simp[a]))
abbrev uv:dv:=ph aI S5 (λk s=>dB (fI k s)) λ_ s=>[NM s]
def zB:er (Cx.beside ag) 18 uv:=.te λk s h=>Dt k s h
abbrev Xm(a b:aj×ah):List aR:=GB a b++[GBE]
def nb(k:Int)(s:bk)(by_:Int)(t:List bw):bk×Bool :=
 if fI k s=ab/\(by_=1∨by_=2)/\cC t=ab then(match(tD k s by_ t).2 with|none=>((tD k s by_ t).1,ab)|some _=>(s,ae))else(([],[],[]),ae)
structure BK(k:Int)(s:bk):Prop where
 hk:b7 k=ab
 sp:(cV s.1).length<=100000
 ix:rY (indexOf s.1) (indexOf s.1).length=ab
 log:iQ s.2.2=ab
 sn:1<=c6 s
def tE:∀j,j<3->([0,1,2]:List Nat)[j]?=aa j:=by decide
def Nc{X:Cx ag}(v:ah):Ev X 27 [.e (.one (.c .iI)),NN v] [] (dB ae) []:=by refine Ev.bQ Tryz.func27 rfl λa=>?_;refine bt rfl ay ?_;refine AK.law (Fb rfl Tryz.underlying57 rfl rfl rfl) rfl rfl ?_;exact aX [(9,ab)] rfl (by simp) (AK.bz rfl)
def yO(i f:aj×ah)(k:Int)(s:bk)(by_:Int)(t:List bw)(j:lq s)(l:NM s)(C:rW s)(H:bD .i64 by_)(y:fI k s=ab->BK k s):
  Ev (Cx.beside ag) 7 [dI k,pn s,dI by_,cF.sl t] (Xm i f) (ZI (nb k s by_ t).1 (nb k s by_ t).2) (Xm i f):=by
 refine Ev.ri tok Tryz.func7 rfl rfl rfl λG=>?_;have a:bL (Cx.beside ag) [(18,uv),(25,W4)]:=.cons zB (.cons t25 .nil);by_cases d:fI k s=ab
 .by_cases o:by_=1∨by_=2
  .by_cases r:cC t=ab
   .have e:nb k s by_ t=(match(tD k s by_ t).2 with|none=>((tD k s by_ t).1,ab)|some _=>(s,ae)):=bl ⟨d,o,r⟩;rw[e];obtain⟨z,A,B,F,D⟩:=y d;have m:=M9 (X:=Cx.beside ag) i f k s by_ t z j C r A B F o D;apply AK.join [(0,dI k),(2,dI by_),(3,cF.sl t),(5,.e (.one (.ptr 3 0))),(8,.e (.one (.ptr 4 0)))] (Xm i f++[.cells 27 [.c (Hc s.1),.c (Fy s.2.1),.c (C9 s.2.2)],.cells 27 [gU,gU,gU]])
    .intro out;rcases o with rfl|rfl
     .refine bn a [(17,ae),(20,ae),(25,ae),(29,ae),(1000003,ab)] rfl ?_ (out _ _ rfl ?_)
      .simp only[az,cP.list_fn,fi.list_fn,cH.list_fn,cF.list_fn,d,ib,r];and_intros<;>first|rfl|exact True.intro|exact cP.aO _|exact fi.aO _|exact cH.aO _|exact cF.aO _|exact l
      .simp
     .refine bn a [(17,ae),(20,ab),(25,ae),(29,ae),(1000003,ab)] rfl ?_ (out _ _ rfl ?_)
      .simp only[az,cP.list_fn,fi.list_fn,cH.list_fn,cF.list_fn,d,ib,r];and_intros<;>first|rfl|exact True.intro|exact cP.aO _|exact fi.aO _|exact cH.aO _|exact cF.aO _|exact l
      .simp
    have u:∀v:ah,Ev (Cx.beside ag) 27 [.e (.one (.c .iI)),NN v] [] (dB ae) []:=λv=>Nc v;generalize tD k s by_ t=q at *;obtain⟨x,E⟩:=q;cases E with
    |none =>
     have b:Ev (Cx.beside ag) 26 [pn s,dI k,dI by_,cF.sl t] (GB i f) (.fa [.agg [.c (Hc x.1),.c (Fy x.2.1),.c (C9 x.2.2)],.one (.c .iI)]) (GB i f):=m;refine cG a rfl ay ?_;refine AK.cQ b [0,1] rfl ?_;refine bn a [(1000005,ab)] rfl ay ?_;refine AK.GF 12 6 rfl rfl λg=>?_;refine cG a rfl ay ?_;refine AK.QG 40 rfl ?_;refine AK.cQ (u _) [] rfl ?_;refine bn a [(41,ae)] rfl (by simp) ?_;refine AK.lO () [0,1,2] rfl rfl rfl rfl rfl rfl rfl rfl rfl ?_ rfl rfl rfl rfl tE;simp
    |some w =>
     have b:Ev (Cx.beside ag) 26 [pn s,dI k,dI by_,cF.sl t] (GB i f) (.fa [.agg [.c (Hc x.1),.c (Fy x.2.1),.c (C9 x.2.2)],.one (.c (.ifs 60 (.rp [.str w])))]) (GB i f):=m;refine cG a rfl ay ?_;refine AK.cQ b [0,1] rfl ?_;refine bn a [(1000005,ab)] rfl ay ?_;refine AK.GF 12 6 rfl rfl λg=>?_;refine AK.Si 11 rfl λp=>?_;refine cG a rfl ay ?_;refine AK.QG 40 rfl ?_;refine AK.cQ (Nb p g) [2,6] rfl ?_;refine bn a [(41,ab)] rfl (by simp) ?_;refine AK.cQ (xQ s j.p j.p2 j.sn j.s2 j.h) [] rfl ?_;refine ZX a [] 2 rfl ay ?_;refine AK.KS ?_;refine AK.oV 7 rfl rfl rfl (by simp) (by simp) ?_;refine AK.oV 8 rfl rfl rfl (by simp) (by simp) ?_;refine AK.lO () [0,1,2] rfl rfl rfl rfl rfl rfl rfl rfl rfl ?_ rfl rfl rfl rfl tE;simp[rE]
   .have e:nb k s by_ t=(([],[],[]),ae):=aY λh=>r h.2.2;rw[e];have n:cC t=ae:=by grind
    rcases o with rfl|rfl
    .refine bn a [(17,ae),(20,ae),(25,ae),(29,ab)] rfl ?_ ?_
     .simp only[az,cP.list_fn,fi.list_fn,cH.list_fn,cF.list_fn,d,ib,n];and_intros<;>first|rfl|exact True.intro|exact cP.aO _|exact fi.aO _|exact cH.aO _|exact cF.aO _|exact l
     refine AK.lO () [0,1,2] rfl rfl rfl rfl rfl rfl rfl rfl rfl ?_ rfl rfl rfl rfl tE;simp
    .refine bn a [(17,ae),(20,ab),(25,ae),(29,ab)] rfl ?_ ?_
     .simp only[az,cP.list_fn,fi.list_fn,cH.list_fn,cF.list_fn,d,ib,n];and_intros<;>first|rfl|exact True.intro|exact cP.aO _|exact fi.aO _|exact cH.aO _|exact cF.aO _|exact l
     refine AK.lO () [0,1,2] rfl rfl rfl rfl rfl rfl rfl rfl rfl ?_ rfl rfl rfl rfl tE;simp
  .have e:nb k s by_ t=(([],[],[]),ae):=aY λh=>o h.2.1;rw[e];refine bn a [(17,ae),(20,ab),(25,ab),(29,ab)] rfl ?_ ?_
   .simp only[az,cP.list_fn,fi.list_fn,cH.list_fn,d,jD,lV,dy];and_intros<;>first|rfl|exact True.intro|exact cP.aO _|exact fi.aO _|exact cH.aO _|exact l|grind
   refine AK.lO () [0,1,2] rfl rfl rfl rfl rfl rfl rfl rfl rfl ?_ rfl rfl rfl rfl tE;simp
 .have e:nb k s by_ t=(([],[],[]),ae):=aY λh=>d h.1;rw[e];refine bn a [(17,ab),(25,ab),(29,ab)] rfl ?_ ?_
  .simp only[az,cP.list_fn,fi.list_fn,cH.list_fn];and_intros<;>first|rfl|exact True.intro|exact cP.aO _|exact fi.aO _|exact cH.aO _|exact l|grind
  refine AK.lO () [0,1,2] rfl rfl rfl rfl rfl rfl rfl rfl rfl ?_ rfl rfl rfl rfl tE;simp
section
variable {X:Cx ag}[X.hU]
def jc(k:Int)(s:bk)(by_:Int)(t:List bw):bk×Bool :=
 if fI k s=ab/\(1<=by_/\by_<=2)/\cC t=ab then(if fW k s t=ab then s else c9 k s by_ t,!fW k s t)else(([],[],[]),ae)
def yQ(k:Int)(s:bk)(by_:Int)(t:List bw)(a:lq s)(m:rW s)(l:fI k s=ab->BK k s):
  Ev X 6 [dI k,pn s,dI by_,cF.sl t] [] (ZI (jc k s by_ t).1 (jc k s by_ t).2) []:=by
 refine Ev.ri tok Tryz.func6 rfl rfl rfl λy=>?_;have g:bL X [(9,zz),(23,Da),(10,WN)]:=.cons IT (.cons Fz (.cons t10 .nil));by_cases b:fI k s=ab
 .by_cases c:1<=by_/\by_<=2
  .by_cases d:cC t=ab
   .have e:jc k s by_ t=(if fW k s t=ab then s else c9 k s by_ t,!fW k s t):=bl ⟨b,c,d⟩;rw[e];obtain⟨n,o,w,u,x⟩:=l b;have q:∀p∈s.1,0<p.2.length:=λp r=>((iR.1 b).pk p r).len.1;cases f:fW k s t with
    |true =>
     refine bn g [(14,ae),(19,ae),(23,ae)] rfl ?_ ?_
     .simp only[az,cP.list_fn,fi.list_fn,cH.list_fn,cF.list_fn,b,ib,d,c,jV];and_intros<;>first|rfl|exact True.intro|exact cP.aO _|exact fi.aO _|exact cH.aO _|exact cF.aO _|exact a.s2|exact a.p|exact a.sn
     refine AK.cP (rZ k s by_ t n a m (dF d) o q f) [] rfl (λ_=>rfl) λ_=>?_;refine dm rfl ay ?_;refine AK.lO () [] rfl rfl rfl rfl rfl rfl rfl rfl rfl ?_ rfl rfl rfl rfl xG;simp
    |false =>
     refine AK.spare 67 2 ?_;refine bn g [(14,ae),(19,ae),(23,ae)] rfl ?_ ?_
     .simp only[az,cP.list_fn,fi.list_fn,cH.list_fn,cF.list_fn,b,ib,d,c,jV];and_intros<;>first|rfl|exact True.intro|exact cP.aO _|exact fi.aO _|exact cH.aO _|exact cF.aO _|exact a.s2|exact a.p|exact a.sn
     refine AK.cP (yo k s by_ t n a m (dF d) o q f) [0] rfl (λ_=>rfl) λv=>?_;refine dm rfl ay ?_;refine AK.rN 0 2 0 (E:=67) (k:=2) (cl:=Hc (c9 k s by_ t).1) (by decide) rfl rfl rfl (λ_ h=>h) ?_;refine AK.lO () [] rfl rfl rfl rfl rfl rfl rfl rfl rfl ?_ rfl rfl rfl rfl xG;simp
   .have e:jc k s by_ t=(([],[],[]),ae):=aY λh=>d h.2.2;rw[e];have i:cC t=ae:=by grind
    refine bn g [(14,ae),(19,ae),(23,ab)] rfl ?_ ?_
    .simp only[az,cP.list_fn,fi.list_fn,cH.list_fn,cF.list_fn,b,ib,i,c,jV];and_intros<;>first|rfl|exact True.intro|exact cP.aO _|exact fi.aO _|exact cH.aO _|exact cF.aO _|exact a.s2|exact a.p|exact a.sn
    refine AK.lO () [] rfl rfl rfl rfl rfl rfl rfl rfl rfl ?_ rfl rfl rfl rfl xG;simp
  .have e:jc k s by_ t=(([],[],[]),ae):=aY λh=>c h.2.1;rw[e];refine bn g [(14,ae),(19,ab),(23,ab)] rfl ?_ ?_
   .simp only[az,cP.list_fn,fi.list_fn,cH.list_fn,b,c,kS];and_intros<;>first|rfl|exact True.intro|exact cP.aO _|exact fi.aO _|exact cH.aO _|exact a.s2|exact a.p|exact a.sn
   refine AK.lO () [] rfl rfl rfl rfl rfl rfl rfl rfl rfl ?_ rfl rfl rfl rfl xG;simp
 .have e:jc k s by_ t=(([],[],[]),ae):=aY λh=>b h.1;rw[e];have j:fI k s=ae:=by grind
  refine bn g [(14,ab),(19,ab),(23,ab)] rfl ?_ ?_
  .simp only[az,cP.list_fn,fi.list_fn,cH.list_fn,j];and_intros<;>first|rfl|exact True.intro|exact cP.aO _|exact fi.aO _|exact cH.aO _|exact a.s2|exact a.p|exact a.sn
  refine AK.lO () [] rfl rfl rfl rfl rfl rfl rfl rfl rfl ?_ rfl rfl rfl rfl xG;simp
end
def yp{k:Int}{l:List cn}:∀(ps a:List Bs),a.Nodup->(ps.foldl (im k l) a).Nodup
 |[],a,h=>h
 |p::ps,a,h=>by rw[jC];refine yp ps _ ?_;unfold im;grind
def nA(k:Int)(t:List bw)(l:List cn):(dz k t l).Nodup:=yp _ _ List.nodup_nil
theorem uK{l:List bo}{x y:bo}:y∈gC l x↔y=x∨y∈l:=by
 induction l with
 |nil=>simp[gC]
 |cons a r b=>simp only[gC];split<;>simp[b,or_left_comm,or_assoc]
def Nd{l:List bo}{x:bo}(h:l.Pairwise λa b=>a.1<b.1)(c:∀y∈l,y.1≠x.1):(gC l x).Pairwise λa b=>a.1<b.1:=by
 induction l with
 |nil=>simp[gC]
 |cons a r g =>
  obtain⟨d,f⟩:=jB.1 h;have e:=c a lB;simp only[gC];grind[List.pairwise_cons,uK]
def Nf:∀(l a:List bo),a.Pairwise (λx y=>x.1<y.1)->l.Pairwise (λx y=>x.1≠y.1)->(∀x∈l,∀y∈a,y.1≠x.1)->(l.foldl gC a).Pairwise λx y=>x.1<y.1
 |[],_,h,_,_=>h
 |x::l,a,h,b,c=>by obtain⟨d1,d2⟩:=jB.1 b;refine Nf l _ (Nd h (c x lB)) d2 λz d y e=>?_;grind[uK]
theorem wj(k:Int)(qs:List Bs):oZ k qs=(qs.map (ku k)).foldl gC []:=by unfold oZ;rw[List.foldl_map];rfl
theorem BM{k:Int}{qs:List Bs}(hk:b7 k=ab)(d:∀q∈qs,bx q=ab)(f:qs.Nodup):(qs.map (ku k)).Pairwise λx y=>x.1≠y.1:=by rw[List.pairwise_map];refine List.Pairwise.imp_of_mem (λ{a b} g h c e=>c ?_) f;exact qP hk (d a g) (d b h) e
theorem DY{no k:Int}{qs:List Bs}(hk:b7 k=ab)(b:∀q∈qs,bx q=ab)(a:qs.Nodup)(c:qs.length<=4):zN no k qs=gj no k qs:=by
 show(no,m0 (qs.map (ku k)))=(no,oZ k qs)
 grind[LF,BM,wj]
theorem p9{no k:Int}{qs:List Bs}(hk:b7 k=ab)(c:∀q∈qs,bx q=ab)(d:qs.Nodup)(f:1<=qs.length)(g:qs.length<=4):gx k (gj no k qs)=decide (1<=no/\no<=99):=by
 have b:(oZ k qs).length=qs.length:=tk k qs;rw[qq,oM,a9];constructor
 .exactλh=>h.no
 .intro h;refine⟨h,hk,by show 1<=(oZ k qs).length/\_;rw[show(gj no k qs).2=oZ k qs from rfl];omega,λx e=>?_,?_⟩
  .obtain⟨p,a,rfl⟩:=Pr (show x∈oZ k qs from e);have:=Dv (c p a);simp[right,this]
  .show (oZ k qs).Pairwise _;rw[wj];exact Nf _ _ List.Pairwise.nil (BM hk c d) (by simp)
def oS(k:Int):∀(f:Nat) (no:Int)(l:List Bs),l.length<=f->eb k f no l=(bh ((l.length+3) / 4)).map λj:Nat=>gj (no+j) k (uG l j)
 |0,no,l,h=>by
  have:l.length=0:=by omega
  simp[eb,this]
 |f+1,no,l,h=>by
  simp only[eb];by_cases a:0<l.length
  .rw[bl a,oS k f (no+1) (l.drop 4) (by grind)];have e:(l.length+3) / 4=((l.drop 4).length+3) / 4+1:=by grind
   rw[e,vD,qt,List.map_map];congr 1
   .simp[uG]
   .refine qg λj _=>?_;show gj (no+1+(j:Nat)) k (((l.drop 4).drop (4*j)).take 4)=gj (no+((j+1:Nat):Int)) k ((l.drop (4*(j+1))).take 4);grind[List.drop_drop]
  grind
def F4{l:List Bs}(b:∀q∈l,bx q=ab)(a:l.Nodup){j:Nat}(d:j<(l.length+3) / 4):(∀q∈uG l j,bx q=ab)/\(uG l j).Nodup/\1<=(uG l j).length/\(uG l j).length<=4 :=
 ⟨λq c=>b q (rz (fM c)),(a.sublist (List.drop_sublist _ _)).sublist (List.take_sublist _ _),by simp[uG];omega,by simp[uG];omega⟩
def Ng{k:Int}{s:bk}{l:List Bs}(hk:b7 k=ab)(b:∀q∈l,bx q=ab)(a:l.Nodup){j:Nat}(c:j<(l.length+3) / 4):Jb k s l j=(decide (1<=cz s+(j:Int)/\cz s+(j:Int)<=99)&&!(s.1.length+j==20)):=by obtain⟨c1,c2,c3,c4⟩:=F4 b a c;unfold Jb oe;grind[DY,p9]
def Qg{k:Int}{s:bk}{l:List Bs}(hk:b7 k=ab)(c:∀q∈l,bx q=ab)(b:l.Nodup)(e:∀j,j<(l.length+3) / 4->Jb k s l j=ab):kA k s l ((l.length+3) / 4)=eb k l.length (cz s) l:=by
 rw[oS k _ _ _ (bc _)];refine qg λj a=>?_;have a:=mM.1 a;obtain⟨c1,c2,c3,c4⟩:=F4 c b a;have d:=e j a;have f:gx k (gj (cz s+(j:Int)) k (uG l j))=ab:=by rw[p9 hk c1 c2 c3 c4];rw[Ng hk c b a]at d;grind
 unfold oe;rw[DY hk c1 c2 c4,bl f]
def jJ.cz{k:Int}{s:bk}(h:jJ k s):1<=cz s/\cz s<=100:=by
 unfold R1.cz;split
 .omega
 .rename_i a;have:=(h.pk _ (ux a (0,[]))).no;omega
def F5(k:Int)(s:bk)(by_:Int)(t:List bw):nb k s by_ t=jc k s by_ t:=by
 unfold nb jc;by_cases h:fI k s=ab/\(by_=1∨by_=2)/\cC t=ab
 .rw[bl h,bl ⟨h.1,by omega,h.2.2⟩];have b:=iR.1 h.1;have C:=b.cz;have y:s.2.2.length<=9:=by have:=b.log;simp only[iQ,bR,a9]at this;exact this.2
  have q:=b.len;have u:=(hO (k:=k) (l:=indexOf s.1) (dF h.2.2)).1;have o:=nA k t (indexOf s.1);have c:(lQ k s t).length=((dz k t (indexOf s.1)).length+3) / 4:=by unfold lQ;rw[oS _ _ _ _ (bc _)];simp
  have n:lQ k s t=eb k (dz k t (indexOf s.1)).length (cz s) (dz k t (indexOf s.1)):=rfl;unfold tD;simp only;generalize dz k t (indexOf s.1)=l at *;obtain⟨E,D,x,w⟩:=p0 (Jb k s l) ((l.length+3) / 4) 0;generalize lJ (Jb k s l) ((l.length+3) / 4) 0=m at *;have g:∀j,j<(l.length+3) / 4->Jb k s l j=(decide (1<=cz s+(j:Int)/\cz s+(j:Int)<=99)&&!(s.1.length+j==20)):=λj f=>Ng b.key u o f;by_cases i:m<(l.length+3) / 4
  .rw[bl i];have r:=w (by omega);rw[g m i]at r;have d:fW k s t=ab:=by simp only[fW,jU,a9,c];simp only[qb,bS,qk,gp]at r;omega
   grind
  .rw[aY i];obtain rfl:m=(l.length+3) / 4:=by omega
   have a:∀j,j<(l.length+3) / 4->1<=cz s+(j:Int)/\cz s+(j:Int)<=99/\s.1.length+j≠20:=λj f=>by grind
   have z:s.1.length+(l.length+3) / 4<=20:=by refine Nat.le_of_not_lt λB=>?_;exact(a (20-s.1.length) (by omega)).2.2 (by omega)
   have A:cz s+(((l.length+3) / 4:Nat):Int)-1<=99:=by
    rcases ni ((l.length+3) / 4)with e|e
    .grind
    .have:=(a ((l.length+3) / 4-1) (by omega)).2.1;omega
   by_cases p:20<c6 s
   .rw[bl p];have d:fW k s t=ab:=by simp only[fW,jU,a9];grind
    grind
   .rw[aY p];by_cases v:s.2.2.length=9
    .rw[bl v];have d:fW k s t=ab:=by simp only[fW,jU,a9];grind
     grind
    .rw[aY v];have d:fW k s t=ae:=by simp only[fW,qf,bS,c];omega
     rw[d];simp only[c9,n,Qg b.key u o λj f=>x j (kD _) f,ov];rfl
 grind
theorem DZ{l:List cn}{x y:cn}(h:y∈fS l x):y=x∨y∈l:=by
 induction l with
 |nil=>simpa[fS]using h
 |cons a r b =>
  simp only[fS]at h;grind
def Nh{l:List cn}{x:cn}(h:l.Pairwise λa b=>a.1<b.1):(fS l x).Pairwise λa b=>a.1<b.1:=by
 induction l with
 |nil=>simp[fS]
 |cons a r e =>
  obtain⟨g,d⟩:=jB.1 h;simp only[fS];split
  .rename_i c;refine jB.2 ⟨λy f=>?_,e d⟩;grind[DZ]
  grind[List.pairwise_cons]
def yq:∀(l a:List cn),(∀x∈l,eu x=ab)->(∀x∈a,eu x=ab)->a.Pairwise (λa b=>a.1<b.1)->(∀x∈l.foldl fS a,eu x=ab)/\(l.foldl fS a).Pairwise λa b=>a.1<b.1
 |[],a,_,e,c=>⟨e,c⟩
 |x::l,a,h,e,c=>yq l (fS a x) (λy d=>h y (po _ d)) (λy d=>by grind[DZ]) (Nh c)
theorem Qh{l:List cn}(c:∀x∈l,eu x=ab)(d:l.Pairwise λa b=>a.1<b.1):rY l l.length=ab:=by
 refine dE.2 λi hi=>?_;rw[bR];refine⟨c _ (by grind),?_⟩;rcases ni i with e|e
 .simp[e]
 .rw[jU];grind[List.pairwise_iff_getElem]
def F6(l:List bJ):rY (indexOf l) (indexOf l).length=ab:=by
 unfold indexOf;split
 .rename_i h;obtain⟨b,a⟩:=yq (cV l) [] (bC.1 h) (by simp) List.Pairwise.nil;grind[Qh]
 .rfl
def F7{l:List bJ}(h:∀x∈l,x.2.length<=4):(cV l).length<=4*l.length:=by
 induction l with
 |nil=>simp[cV]
 |cons f r d =>
  have a:=d λg c=>h g (po _ c);have b:=h f lB;simp only[cV,se,cX,jT,fb]at a⊢;omega
def jJ.c6{k:Int}{s:bk}(h:jJ k s)(a:rW s):1<=c6 s:=by have b:=n8 s.2.2 a.h;unfold R1.c6;split<;>omega
def jJ.save{k:Int}{s:bk}(h:jJ k s)(a:rW s):BK k s:=by refine⟨h.key,?_,F6 _,h.log,h.c6 a⟩;have:=F7 λx b=>(h.pk x b).len.2;have:=h.len;omega
structure Um(q:bk×Int×List bw):Prop where
 sz:lq q.1
 sm:NM q.1
 nu:rW q.1
 by':1<=q.2.1/\q.2.1<=3
 an:(u5 q.1.2.1).length<=4800
abbrev Xo:={q:bk×Int×List bw // Um q}
abbrev dDr(q:bk×Int×List bw):D:=.fa [.one (.c (.int .i64 7)),.agg [.c (Hc q.1.1),.c (Fy q.1.2.1),.c (C9 q.1.2.2)],.one (.c (.int .i64 q.2.1)),.one (.c (.sl ae 2 q.2.2.length (cF.fn q.2.2)))]
def Xp(m:Nat)(b:Nat->Int):Prop:=ef (ι:=Xo) (Cx.beside ag) 5 [.e (.one (.c (.sl ae 1 m (Hl b))))] [] (λq=>dDr q.1) (λ_=>[])
def D1{k:Int}{s:bk}{by_:Int}{t:List bw}(c:fI k s=ab)(b:1<=by_/\by_<=2)(a:cC t=ab):jc k s by_ t=(if fW k s t=ab then s else c9 k s by_ t,!fW k s t):=bl ⟨c,b,a⟩
def Qi(x:fe):Prop:=x.2.length<=6/\∀y∈x.2,y.2.length<=4000000
theorem Qi.of{no k:Int}{t:List bw}(b:cC t=ab):Qi (eJ no k t):=by have c:=mE b;refine⟨by simpa[eJ]using c,λy a=>?_⟩;simp only[eJ,gH]at a;obtain⟨f,d,rfl⟩:=a;have:=((dF b).tJ f d).2;have:=kP f.2;simp only[lx,jT];omega
def ve{k:Int}{s:bk}{by_:Int}{t:List bw}(d:lq s):lq (jc k s by_ t).1:=by
 unfold jc;split
 .rename_i h;have e:=iR.1 h.1;show lq (if fW k s t=ab then s else c9 k s by_ t);split
  .exact d
  .rename_i g;have g:fW k s t=ae:=by grind
   simp only[fW,qf,bS]at g;have c:Qi (eJ (c6 s) k t):=Qi.of h.2.2;have i:=(hO (k:=k) (l:=indexOf s.1) (dF h.2.2)).1;have m:=Hs 1 e.sa λx b=>(e.sn x b).1;have f:=e.log;simp only[iQ,bR,a9]at f;refine⟨by simp only[c9,cX];omega,λp a=>?_,by simp only[c9,cX,ig];omega,λx b=>?_,by simp only[c9,cX,ig];omega⟩
   .simp only[c9]at a;rcases fx.1 a with a|a
    .exact d.p2 p a
    .obtain⟨j,qs,_,_,_,n,_,rfl⟩:=uw k _ _ _ i p a;have:(oZ k qs).length=qs.length:=tk k qs;show(oZ k qs).length<=_;omega
   .simp only[c9]at b;rcases fx.1 b with b|b
    .exact d.s2 x b
    .rw[fN]at b;subst b;exact⟨by have:=c.1;omega,c.2⟩
 .exact⟨by simp,by simp,by simp,by simp[kM],by simp⟩
def D4{k:Int}{l:List cn}:∀(ps a:List Bs)(p:Bs),p∈ps.foldl (im k l) a↔p∈a∨(p∈ps/\kl l (dA k p)=0)
 |[],a,p=>by simp
 |q::ps,a,p=>by
  rw[jC,D4 ps];unfold im;split
  .rename_i b;simp only[bR,gp]at b;grind
  .rename_i b;simp only[bR,gp,jQ]at b;by_cases e:p=q
   .subst e;by_cases c:kl l (dA k p)=0
    .have:a.contains p=ab:=by
      cases d:a.contains p with
      |true=>rfl
      |false=>exact absurd ⟨c,d⟩ b
     have:p∈a:=by simpa using this
     grind
    .grind
   .grind
def nc{k:Int}{t:List bw}{l:List cn}{p:Bs}:p∈dz k t l↔(∃f∈t,p∈pieces f.2)/\kl l (dA k p)=0:=by unfold dz;rw[D4];simp
def Nt{l:List cn}{x:cn}{n:Int}:(∃y∈fS l x,y.1=n)↔n=x.1∨∃y∈l,y.1=n:=by
 induction l with
 |nil=>simp[fS,eq_comm]
 |cons a r c =>
  simp only[fS];split
  .simp only[eB,exists_eq_or_imp,c];grind
  .constructor
   .rintro⟨y,b,rfl⟩;rcases eB.1 b with rfl|b
    .exact .inl rfl
    .exact .inr ⟨y,(jS.1 b).1,rfl⟩
   .rintro(rfl|⟨y,b,rfl⟩)
    .exact⟨x,lB,rfl⟩
    .by_cases e:y.1=x.1
     .exact⟨x,lB,e.symm⟩
     .exact⟨y,po _ (jS.2 ⟨b,by simpa using e⟩),rfl⟩
def zQ:∀(l a:List cn) (n:Int),(∃y∈l.foldl fS a,y.1=n)↔(∃y∈l,y.1=n)∨∃y∈a,y.1=n
 |[],a,n=>by simp
 |x::l,a,n=>by rw[jC,zQ l,Nt];grind
def Ga{k:Int}{x:bo}(h:right k x=ab):∃p,bx p=ab/\x.1=dA k p:=by
 unfold right at h;split at h
 .rename_i p a;unfold eH at a;split at a
  .rename_i b;cases a;simp only[bR]at b;exact⟨_,b.1,(by simpa using h:dA k _=x.1).symm⟩
  .cases a
 .cases h
def Nu{k:Int}{ps:List bJ}(h:∀p∈ps,rn k p):(cV ps).all eu=ab:=by refine bC.2 λy a=>?_;obtain⟨p,b,a⟩:=qm.1 a;obtain⟨x,c,rfl⟩:=gH.1 a;obtain⟨q,f,e⟩:=Ga ((h p b).rt x c);have d:=(h p b).no;simp only[eu,bR,a9,e,dA];omega
def yr{k:Int}{ps:List bJ}(h:∀p∈ps,rn k p)(n:Int):kl (indexOf ps) n=0↔n∉bE ps:=by
 have a:=Nu h;unfold indexOf;rw[bl a];have hk:=zQ (cV ps) [] n;have c:(∃y∈cV ps,y.1=n)↔n∈bE ps:=by
  simp only[cV,bE,qm,gH];constructor
  .rintro⟨_,⟨p,f,x,d,rfl⟩,rfl⟩;exact⟨p,f,x,d,rfl⟩
  .rintro⟨p,f,x,d,rfl⟩;exact⟨_,⟨p,f,x,d,rfl⟩,rfl⟩
 have o:=(yq (cV ps) [] (bC.1 a) (by simp) List.Pairwise.nil).1;generalize(cV ps).foldl fS []=l at *;unfold kl;split
 .rename_i s b;have j:=o s (r7 b);have q:s.1=n:=by simpa using List.find?_some b
  have:n∈bE ps:=by rw[<-c];have:=hk.1 ⟨s,r7 b,q⟩;simpa using this
  simp only[eu,bR,a9]at j;grind
 .rename_i b;have g:=qi.1 b;refine⟨λ_ m=>?_,λ_=>rfl⟩;obtain⟨y,i,e⟩:=hk.2 (.inl (c.2 m));exact g y i (by simpa using e)
def BO{k:Int}{qs:List Bs}{x:bo}:x∈oZ k qs↔∃p∈qs,x=ku k p:=by
 rw[wj];have:∀(l a:List bo),x∈l.foldl gC a↔x∈l∨x∈a:=by
  intro l;induction l with
  |nil=>simp
  |cons y l b=>intro a;rw[jC,b,uK];grind
 rw[this];grind
def oT{k:Int}{n:Int}:∀(f:Nat) (no:Int)(l:List Bs),l.length<=f->(n∈bE (eb k f no l)↔∃p∈l,dA k p=n)
 |0,no,l,h=>by have:l=[]:=List.length_eq_zero_iff.1 (by omega);subst this;simp[eb,bE]
 |f+1,no,l,h=>by
  simp only[eb];split
  .have c:=oT (k:=k) (n:=n) f (no+1) (l.drop 4) (by simp;omega);have e:bE (gj no k (l.take 4)::eb k f (no+1) (l.drop 4))=(oZ k (l.take 4)).map (·.1)++bE (eb k f (no+1) (l.drop 4)):=by simp[bE];rfl
   rw[e,fx,c];have:(n∈(oZ k (l.take 4)).map (·.1))↔∃p∈l.take 4,dA k p=n:=by
    rw[gH];constructor
    .rintro⟨x,b,rfl⟩;obtain⟨p,a,rfl⟩:=BO.1 b;exact⟨p,a,rfl⟩
    .rintro⟨p,a,rfl⟩;exact⟨ku k p,BO.2 ⟨p,a,rfl⟩,rfl⟩
   rw[this];conv=>rhs;rw[<-jz 4 l]
   grind
  .have:l=[]:=List.length_eq_zero_iff.1 (by omega);subst this;simp[bE]
def tG{k:Int}(hk:b7 k=ab):∀(f:Nat) (no:Int)(l:List Bs),l.length<=f->(∀q∈l,bx q=ab)->l.Nodup->(bE (eb k f no l)).Nodup
 |0,no,l,h,_,_=>by simp[eb,bE]
 |f+1,no,l,h,i,g=>by
  simp only[eb];split
  .have e:bE (gj no k (l.take 4)::eb k f (no+1) (l.drop 4))=(oZ k (l.take 4)).map (·.1)++bE (eb k f (no+1) (l.drop 4)):=by simp[bE];rfl
   have n:(oZ k (l.take 4)).Pairwise λx y=>x.1<y.1:=by rw[wj];exact Nf _ _ List.Pairwise.nil (BM hk (λq b=>i q (fM b)) (g.sublist (List.take_sublist _ _))) (by simp)
   rw[e,List.nodup_append];refine⟨List.pairwise_map.2 (n.imp λh=>by omega),tG hk f _ _ (by simp;omega) (λq b=>i q (rz b)) (g.sublist (List.drop_sublist _ _)),λa m c o e=>?_⟩;subst e;obtain⟨x,j,rfl⟩:=gH.1 m;obtain⟨p,d,rfl⟩:=BO.1 j;obtain⟨q,b,e⟩:=(oT f _ _ (by simp;omega)).1 o;have e:=qP hk (i q (rz b)) (i p (fM d)) e;subst e;rw[<-jz 4 l,List.nodup_append]at g;exact g.2.2 q d q b rfl
  .simp[bE]
def D5(t:Bs):(pieces t).flatten=t:=by
 have:∀k f,f<=t.length->t.length-f<=k->(eT t k f).flatten=t.drop f:=by
  intro k;induction k with
  |zero=>intro f b d;simp[eT,vE (show t.length<=f by omega)]
  |succ k c =>
   intro f b d;simp only[eT];split
   .rename_i h;obtain⟨e,a,_⟩:=mv t f h;rw[List.flatten_cons,c _ a (by omega)];conv=>rhs;rw[<-jz (cutAt t f-f) (t.drop f),List.drop_drop,show f+(cutAt t f-f)=cutAt t f by omega]
   .simp[vE (show t.length<=f by omega)]
 exact(this t.length 0 (kD _) (by omega)).trans (by simp)
def D6{k no:Int}{ps:List bJ}{t:List bw}(hk:b7 k=ab)(g:cC t=ab)(h:∀f∈t,∀p∈pieces f.2,de k ps (dA k p)=aa p):cg k (eJ no k t) ps=aa t:=by
 have c:=(ly.1 g).1;have e:∀f∈t,fileOf k ps (lx k f)=aa f:=λf b=>by
  have d:=h f b;have j:dL k ps (lx k f).2=aa (pieces f.2):=by
   unfold dL lx;rw[bl]
   .congr 1;rw[List.map_map];conv=>rhs;rw[<-List.map_id (pieces f.2)]
    exact qg λp a=>by simp[d p a]
   .refine bC.2 λn i=>?_;obtain⟨p,a,rfl⟩:=gH.1 i;rw[d p a];rfl
  have o:fT (pieces f.2)=aa f.2:=by unfold fT;rw[D5,(c f b).2];simp
  unfold fileOf;rw[j];simp only[o];rfl
 have l:c8 k ps (t.map (lx k))=t:=by
  unfold c8;rw[List.map_map];conv=>rhs;rw[<-List.map_id t]
  exact qg λf b=>by simp[e f b]
 have m:((t.map (lx k)).all λx=>(fileOf k ps x).isSome)=ab:=bC.2 λx c=>by obtain⟨f,b,rfl⟩:=gH.1 c;rw[e f b];rfl
 unfold cg eJ;simp only[l,m,hk,g,Bool.and_self,cq]
structure Sv(k:Int)(s:bk)(by_:Int)(t:List bw):Prop where
 st:jJ k s
 nu:rW s
 by':1<=by_/\by_<=2
 tr:cC t=ab
 fu:fW k s t=ae
section
variable {k:Int}{s:bk}{by_:Int}{t:List bw}
def Sv.piece(h:Sv k s by_ t){f:bw}(b:f∈t){p:Bs}(a:p∈pieces f.2):bx p=ab:=by have:=(hO (k:=k) (l:=[]) (dF h.tr)).1 p;exact this (nc.2 ⟨⟨f,b,a⟩,rfl⟩)
def Sv.names(h:Sv k s by_ t)(n:Int):n∈bE (c9 k s by_ t).1↔n∈bE s.1∨∃f∈t,∃p∈pieces f.2,dA k p=n:=by
 have e:bE (c9 k s by_ t).1=bE s.1++bE (lQ k s t):=by simp[c9,bE]
 rw[e,fx];unfold lQ;rw[oT _ _ _ (bc _)];constructor
 .rintro(h1|⟨p,a,rfl⟩)
  .exact .inl h1
  .obtain⟨⟨f,b,a⟩,_⟩:=nc.1 a;exact .inr ⟨f,b,p,a,rfl⟩
 .rintro(h1|⟨f,b,p,a,rfl⟩)
  .exact .inl h1
  .by_cases c:dA k p∈bE s.1
   .exact .inl c
   .exact .inr ⟨p,nc.2 ⟨⟨f,b,a⟩,(yr h.st.pk _).2 c⟩,rfl⟩
def Sv.new(h:Sv k s by_ t):(∀p∈lQ k s t,rn k p)/\(lQ k s t).Pairwise (λp q=>p.1<q.1)/\∀p∈lQ k s t,cz s<=p.1:=by
 have f:=hO (k:=k) (l:=indexOf s.1) (dF h.tr);have e:=nA k t (indexOf s.1);have c:=h.fu;have i:=h.st.cz;unfold fW at c;unfold lQ at *;generalize dz k t (indexOf s.1)=l at *;rw[oS k _ _ _ (bc _)]at *;simp only[qf,bS,jT,List.length_range]at c;refine⟨λp d=>?_,?_,λp d=>?_⟩
 .obtain⟨j,hj,rfl⟩:=gH.1 d;have hj:=mM.1 hj;obtain⟨c1,c2,c3,c4⟩:=F4 f.1 e hj;rw[<-oM,p9 h.st.key c1 c2 c3 c4,a9];omega
 .rw[List.pairwise_map];refine List.pairwise_lt_range.imp λ{a b} g=>?_;show cz s+(a:Int)<cz s+(b:Int);omega
 .obtain⟨j,hj,rfl⟩:=gH.1 d;show cz s<=cz s+(j:Int);omega
def jJ.ya(h:jJ k s):∀p∈s.1,p.1<R1.cz s:=by
 intro p a;obtain⟨i,hi,rfl⟩:=dG a;unfold R1.cz;rw[aY (by omega),qQ (by omega)];by_cases e:i=s.1.length-1
 .subst e;omega
 .have:=jw.1 h.pa i (s.1.length-1) hi (by omega) (by omega);omega
def jJ.tu(h:jJ k s):∀x∈s.2.1,x.1<R1.c6 s:=by
 intro x a;obtain⟨i,hi,rfl⟩:=dG a;unfold R1.c6;rw[aY (by omega),qQ (by omega)];by_cases e:i=s.2.1.length-1
 .subst e;omega
 .have:=jw.1 h.sa i (s.2.1.length-1) hi (by omega) (by omega);omega
def Sv.all(h:Sv k s by_ t):∀p∈(c9 k s by_ t).1,rn k p:=λp a=>by
 rcases fx.1 a with a|a
 .exact h.st.pk p a
 .exact h.new.1 p a
def Sv.tree(h:Sv k s by_ t){no:Int}:cg k (eJ no k t) (c9 k s by_ t).1=aa t:=by refine D6 h.st.key h.tr λf c p a=>?_;obtain⟨q,b⟩:=yt h.st.key h.all ((h.names _).2 (.inr ⟨f,c,p,a,rfl⟩));obtain⟨e,d,_⟩:=r5 b;rw[b,qP h.st.key e (h.piece c a) d]
def Sv.old(h:Sv k s by_ t){x:fe}{u:List bw}(b:cg k x s.1=aa u):cg k x (c9 k s by_ t).1=aa u :=
 BQ (λn p=>Jf h.st.key h.all (λn a=>(h.names n).2 (.inl a))) b
def Sv.ok(h:Sv k s by_ t):jJ k (c9 k s by_ t):=by
 have j:=h.fu;simp only[fW,qf,bS]at j;have o:=h.new;have g:=h.st.tu;have m:=h.st.c6 h.nu;refine⟨h.all,?_,?_,λx d=>?_,?_,h.st.key,?_,by simp only[c9,cX];omega⟩
 .refine qd.2 ⟨h.st.pa,o.2.1,λa f b c=>?_⟩;have:=h.st.ya a f;have:=o.2.2 b c;omega
 .have e:bE (c9 k s by_ t).1=bE s.1++bE (lQ k s t):=by simp[c9,bE]
  have n:=hO (k:=k) (l:=indexOf s.1) (dF h.tr);rw[e,List.nodup_append];refine⟨h.st.nd,tG h.st.key _ _ _ (bc _) n.1 (nA _ _ _),λa f b c e=>?_⟩;subst e;obtain⟨p,q,rfl⟩:=(oT _ _ _ (bc _)).1 c;exact(yr h.st.pk _).1 (nc.1 q).2 f
 .rcases fx.1 d with d|d
  .obtain⟨h1,h2⟩:=h.st.sn x d;obtain⟨u,r⟩:=rv.1 h2;exact⟨h1,by rw[h.old r];rfl⟩
  .rw[fN]at d;subst d;exact⟨⟨m,by show c6 s<=20;omega⟩,by rw[h.tree];rfl⟩
 .refine qd.2 ⟨h.st.sa,by simp,λa f b c=>?_⟩;rw[fN]at c;subst c;exact g a f
 .have hl:=h.st.log;have c:=h.by';simp only[iQ,bR,a9,dE]at hl⊢;refine⟨λi hi=>?_,by simp only[c9,cX,ig];omega⟩;simp only[c9,cX,ig]at hi⊢;by_cases e:i<s.2.2.length
  .have:=hl.1 i e
   rwa [ak,jy e,<-ak]
  .obtain rfl:i=s.2.2.length:=by omega
   rw[ak,gk (bc _),Nat.sub_self];simp only[kB,ij,gR,bR,a9];omega
def Sv.load(h:Sv k s by_ t):eN k (c9 k s by_ t) (c6 s)=aa t:=by
 unfold eN;have e:(c9 k s by_ t).2.1.find? (λx=>x.1==c6 s)=aa (eJ (c6 s) k t):=by
  simp only[c9,List.find?_append];have:s.2.1.find? (λx=>x.1==c6 s)=af:=qi.2 λx a=>by have:=h.st.tu x a;simp;omega
  rw[this];simp[eJ]
 rw[e];exact h.tree
def Sv.Qm(h:Sv k s by_ t){x:fe}(c:x∈s.2.1):eN k (c9 k s by_ t) x.1=eN k s x.1:=by
 unfold eN;have e:(c9 k s by_ t).2.1.find? (λy=>y.1==x.1)=s.2.1.find? (λy=>y.1==x.1):=by
  simp only[c9,List.find?_append];cases a:s.2.1.find? (λy=>y.1==x.1)with
  |some y=>rfl
  |none=>exact absurd (qi.1 a x c) (by simp)
 rw[e];cases a:s.2.1.find? (λy=>y.1==x.1)with
 |none=>rfl
 |some y =>
  obtain⟨u,b⟩:=rv.1 (h.st.sn y (r7 a)).2;show cg k y _=cg k y _;rw[b,h.old b]
end
end Go.AM.R1
namespace Go.AM
def Nq{α:Type}(d:α){P:Nat->α->Prop}:∀n:Nat,(∀i,i<n->∃x,P i x)->∃l:List α,l.length=n/\∀i,i<n->P i (l.getD i d)
 |0,_=>⟨[],rfl,λi hi=>absurd hi (fX _)⟩
 |n+1,h=>by obtain⟨l,e,c⟩:=Nq d n λi hi=>h i (by omega);obtain⟨x,a⟩:=h n (by omega);refine⟨l++[x],by grind,λi hi=>?_⟩;grind
inductive Fit (M:Mem) (b o:Nat) (u:ah) (x:Int):Prop
 |int (n:Int) (h:M b o=aa (.int .i64 n)) (hu:∀M',Rd M' u (.int .i64 x))
 |str (s:ByteArray) (h:M b o=aa (.string s)) (l:List UInt8) (hu:∀M',Rd M' u (.str l))
section
variable {M:Mem}{b o g m:Nat}{u v:ah}{x:Int}
def Fit.i(h:Fit M b o u x){n:Int}(c:M g m=aa v)(d:Rd M v (.int .i64 n)):∃a v',M.up b o u g m=aa v'/\(∀M',Rd M' v' (.int .i64 a))/\(a=n∨a=x):=by
 unfold Mem.up;by_cases e:g=b/\m=o
 .obtain⟨rfl,rfl⟩:=e;rw[bl ⟨rfl,rfl⟩];cases h with
  |int _ _ f=>exact⟨x,u,rfl,f,.inr rfl⟩
  |str s h=>rw[h]at c;cases c;cases d
 .rw[aY e,c];cases d with
  |int h=>exact⟨n,_,rfl,λ_=>.int h,.inl rfl⟩
def Fit.s(h:Fit M b o u x){l:List UInt8}(a:M g m=aa v)(c:Rd M v (.str l)):∃l' v',M.up b o u g m=aa v'/\∀M',Rd M' v' (.str l'):=by
 unfold Mem.up;by_cases e:g=b/\m=o
 .obtain⟨rfl,rfl⟩:=e;rw[bl ⟨rfl,rfl⟩];cases h with
  |int n h=>rw[h]at a;cases a;cases c
  |str _ _ l' hu=>exact⟨l',u,rfl,hu⟩
 .rw[aY e,a];cases c with
  |str h1 h2=>exact⟨l,_,rfl,λ_=>.str h1 h2⟩
def Fit.l(h:Fit M b o u x){t:Bool}{k n:Nat}{es:Nat->List C}(a:M g m=aa v)(c:Rd M v (.sl t k n es)):M.up b o u g m=aa v:=by
 unfold Mem.up;by_cases e:g=b/\m=o
 .obtain⟨rfl,rfl⟩:=e;cases h with
  |int n h=>rw[h]at a;cases a;cases c
  |str s h=>rw[h]at a;cases a;cases c
 grind
end
namespace R1
def two{α:Type}{P:Nat->α->Prop}{x y:α}(a:P 0 x)(d:P 1 y):∀j c,[x,y][j]?=aa c->P j c
 |0,_,h=>by grind
 |1,_,h=>by grind
def Ql{M:Mem}{b o:Nat}{u:ah}{x:Int}(h:Fit M b o u x){v:ah}{e:List bo}(D:Rd M v (.sl ae 2 e.length (eg.fn e))):∃d:List bo,d.length=e.length/\Rd (M.up b o u) v (.sl ae 2 d.length (eg.fn d)):=by
 obtain⟨a,cap,k,f,rfl,q,A,J,K,p⟩:=D.EW;obtain⟨l,n,B⟩:=Nq (0,[]) (P:=λi (y:bo)=>∀(j:Nat) (c:C),[C.int .i64 y.1,.str y.2][j]?=aa c->∃w,M.up b o u k (f+i*2+j)=aa w/\Rd (M.up b o u) w c) e.length λi hi=>by obtain⟨w0,F,r0⟩:=p i hi 0 _ rfl;obtain⟨w1,z,G⟩:=p i hi 1 _ rfl;obtain⟨t,v0,r,H,_⟩:=h.i F r0;obtain⟨l',v1,I,E⟩:=h.s z G;exact⟨(t,l'),two (P:=λj c=>∃w,M.up b o u k (f+i*2+j)=aa w/\Rd (M.up b o u) w c) ⟨v0,r,H _⟩ ⟨v1,I,E _⟩⟩
 exact⟨l,n,by rw[n];exact .SA q A J (λ_ _=>rfl) B⟩
structure X3(x:Int)(ps UI:List bJ):Prop where
 len:UI.length=ps.length
 at':∀i,i<ps.length->(UI.getD i (0,[])).2.length=(ps.getD i (0,[])).2.length/\((UI.getD i (0,[])).1=(ps.getD i (0,[])).1∨(UI.getD i (0,[])).1=x)
def Nr{M:Mem}{b o:Nat}{u:ah}{x:Int}(h:Fit M b o u x){v:ah}{ps:List bJ}(E:Un v ps M):∃d,X3 x ps d/\Un v d (M.up b o u):=by
 obtain⟨a,cap,k,f,rfl,s,D,J,L,r⟩:=Rd.EW E;obtain⟨l,p,n⟩:=Nq (0,[]) (P:=λi (y:bJ)=>(y.2.length=(ps.getD i (0,[])).2.length/\(y.1=(ps.getD i (0,[])).1∨y.1=x))/\∀(j:Nat) (c:C),[C.int .i64 y.1,sP y][j]?=aa c->∃w,M.up b o u k (f+i*2+j)=aa w/\Rd (M.up b o u) w c) ps.length λi hi=>by obtain⟨w0,G,r0⟩:=r i hi 0 _ rfl;obtain⟨w1,B,q⟩:=r i hi 1 _ rfl;obtain⟨z,v0,t,H,A⟩:=h.i G r0;have I:=h.l B q;obtain⟨e,K,F⟩:=Ql h q;exact⟨(z,e),⟨K,A⟩,two (P:=λj c=>∃w,M.up b o u k (f+i*2+j)=aa w/\Rd (M.up b o u) w c) ⟨v0,t,H _⟩ ⟨w1,I,F⟩⟩
 refine⟨l,⟨p,λi hi=>(n i hi).1⟩,?_⟩;show Rd _ _ (.sl ae 2 l.length (cP.fn l));rw[p];exact .SA s D J (λ_ _=>rfl) λi hi=>(n i hi).2
structure BN(s:bk):Prop where
 p:∀p∈s.1,p.2.length<=4/\0<=p.1/\p.1<=99
 pl:s.1.length<=20
 ex:∃ps,D7 (ps,s.2)
def D7.Xr{s:bk}(h:D7 s):BN s:=⟨λp a=>by have h1:=(h.p p a).len;have h2:=(h.p p a).no;omega,h.pl,s.1,h⟩
def BN.spo{s:bk}(h:BN s){a:List bJ}(d:X3 0 s.1 a):BN (a,s.2):=by
 refine⟨λp e=>?_,by rw[d.len];exact h.pl,h.ex⟩;obtain⟨i,hi,rfl⟩:=oh.1 e;have c:i<s.1.length:=by rw[<-d.len];exact hi
 have h1:=d.at' i c;have h2:=h.p _ (fj c (0,[]));grind
def BN.sub{s:bk}(h:BN s){a:List bJ}(d:∀p∈a,p∈s.1)(hl:a.length<=s.1.length):BN (a,s.2):=⟨λp c=>h.p p (d p c),iZ hl h.pl,h.ex⟩
def BN.size{s:bk}(h:BN s):lq s:=by obtain⟨ps,c⟩:=h.ex;have a:=c.size;have h1:=h.pl;exact⟨by omega,λp d=>by have:=(h.p p d).1;omega,a.sn,a.s2,a.h⟩
def BN.num{s:bk}(h:BN s):rW s:=by obtain⟨ps,c⟩:=h.ex;have a:=c.num;exact⟨λp d=>by have:=(h.p p d).2;omega,a.s,a.h⟩
def zO{no k:Int}{t:List bw}(h:cC t=ab):(wc (eJ no k t).2).length<=240:=by have a:=ly.1 h;refine FP ⟨by simpa[eJ]using a.2.2.2,λy c=>?_⟩;obtain⟨f,e,rfl⟩:=gH.1 c;have d:=(a.1 f e).2;simp only[et,bR,a9]at d;have i:=kP f.2;show((pieces f.2).map _).length<=40;grind
def BN.an{s:bk}(h:BN s):(u5 s.2.1).length<=4800:=by
 obtain⟨ps,a⟩:=h.ex;have d:=a.sl;have f:(u5 s.2.1).length<=240*s.2.1.length:=mF λx c=>by obtain⟨no,t,_,_,e,rfl⟩:=(a.s x c).ex;exact zO e
 grind
def BN.smT{s:bk}(h:BN s):NM s:=by
 have a:=h.size;have h1:=h.pl;have h2:=h.an;have d:(bE s.1).length<=4*s.1.length:=mF λp c=>by rw[jT];exact(h.p p c).1
 exact⟨⟨a.p,a.s2,a.sn,by omega⟩,a.p2,by omega⟩
end R1
def eh.q4b{P:ar}{X:Cx P}{N:Nat}{all:List au}{φ:Fr}{x:Nat->D}{d:Bool->Bool->Bool->Bool->List aR}{i j f g e:Nat}{o:au}(h1:aB j i=ae)(h2:aB f i=ae)(l:aB g i=ae)(k:aB e i=ae)(m:fZ all e i=ab)(h:∀a b c,OA X N all o (kr all φ x i) (d a b c ae) (x i) (d a b c ae)):eh X N all φ x (pI d j f g e) i o:=by intro D hT hF;grind[rK]
namespace R1
variable {X:Cx ag}[X.hU]
abbrev SpI(k:Nat):={q:bk×Nat // BN q.1/\k<=q.2/\q.2<=k+1100}
def BN.del{s:bk}(h:BN s)(i:Nat):BN (s.1.take i++s.1.drop (i+1),s.2):=h.sub (λp a=>by grind) (by grind)
def qT{M:Mem}{b o cap:Nat}{ps:List bJ}{i:Nat}(h:Un (.slice (aa ⟨b,o,af⟩) ps.length cap) ps M)(hi:i<ps.length):(∃n,M b (o+i*2)=aa (.int .i64 n))/\∃w,M b (o+i*2+1)=aa w/\Rd M w (sP (ps.getD i (0,[]))):=by obtain⟨a,c2,k,j,e,_,_,f,_,c⟩:=Rd.EW h;cases e;cases f (by omega);obtain⟨w0,l,r0⟩:=c i hi 0 _ rfl;obtain⟨w1,d,g⟩:=c i hi 1 _ rfl;refine⟨?_,w1,d,g⟩;cases r0;grind
theorem HI{M:Mem}{c o cap:Nat}{b:List bo}(h:Rd M (.slice (aa ⟨c,o,af⟩) b.length cap) (.sl ae 2 b.length (eg.fn b)))(hi:0<b.length):∃s,M c (o+0*2+1)=aa (.string s):=by obtain⟨a,c2,j,i,e,_,_,f,_,d⟩:=h.EW;cases e;cases f hi;obtain⟨w1,k,g⟩:=d 0 hi 1 _ rfl;cases g;grind
abbrev nq(s:bk)(i:Nat):Nat:=dj s.1.length (aa (i:Int))-dj 0 af
abbrev xx(s:bk)(i:Nat):Nat:=dj s.1.length af-dj 0 (aa ((i:Int)+1))
abbrev EN(s:bk):Nat->List C:=mf (dj 0 af) (cP.fn s.1)
abbrev Aa(s:bk)(i:Nat):Nat->List C:=mf (dj 0 (aa ((i:Int)+1))) (cP.fn s.1)
abbrev bf1(s:bk)(i:Nat):aR:=.buf 67 2 (0+nq s i) (cK 0 (λi=>([]:List (List C)).getD i []) (EN s))
abbrev X4(s:bk)(i:Nat):aR:=.buf 67 2 (0+nq s i+xx s i) (cK (0+nq s i) (cK 0 (λi=>([]:List (List C)).getD i []) (EN s)) (Aa s i))
def b9S(m:Nat)(b:Nat->Int)(k:Int)(s:bk)(i:Nat)(a c d e:Bool):List aR :=
 match a,c,d,e with
 |true,ab,ab,ab=>[lu m b k,jI,yR,.cells 27 [.bp 4 (.sl (0+nq s i+xx s i) 2 0 (0+nq s i+xx s i)),.c (Fy s.2.1),.c (C9 s.2.2)],X4 s i]
 |true,ab,ab,ae=>[lu m b k,jI,yR,xY s,X4 s i]
 |true,ab,ae,_=>[lu m b k,jI,yR,xY s,X4 s i]
 |true,ae,_,_=>[lu m b k,jI,yR,xY s,bf1 s i]
 |false,_,_,_=>[lu m b k,jI,yR,xY s]
abbrev x9S(s:bk)(i j:Nat):D :=
 [.e (.one (.c (.sl ab 2 0 λi=>([]:List (List C)).getD i []))),.e (.one (.ptr 3 0)),cP.sl s.1,dI i,.e (.one (.c (.sl ae 2 (nq s i) (EN s)))),.e (.one (.bp 4 (.sl (0+nq s i) 2 0 (0+nq s i)))),
  .e (.one (.ptr 3 0)),cP.sl s.1,dI i,dI ((i:Int)+1),.e (.one (.c (.sl ae 2 (xx s i) (Aa s i)))),.e (.one (.bp 4 (.sl (0+nq s i+xx s i) 2 0 (0+nq s i+xx s i)))),.e (.one (.ptr 3 0)),.any].getD j .any
set_option maxRecDepth 20000 in
def D3(m:Nat)(b:Nat->Int)(L:Bytes b)(k:Nat)(hk:k<=40000)(O:m<=1048576):
  ef (ι:=SpI k) X 20 [.e (.one (.ptr 0 0))] [lu m b k] (λq=>pn q.1.1) (λq=>[lu m b q.1.2]):=by
 refine ef.sH tok Tryz.func20 rfl rfl rfl λhf=>?_;refine bt rfl ay ?_;refine AK.cP (D2 m b L k hk O) [0] rfl (λ_=>rfl) ?_;rintro⟨⟨s,v,k1⟩,y,I,F⟩;simp only at y I F;refine aX [(1000002,ab)] rfl ay ?_;have hpl:=y.pl;by_cases Z:s.1.length=0
 .refine AK.rN 2 3 0 (E:=67) (k:=2) (cl:=Hc s.1) (by decide) rfl rfl rfl (λ_ h=>h) ?_;refine aX [(10,ab)] rfl (by simp[Z]) ?_;refine AK.mY ⟨(s,k1),y.Xr,I,by grind⟩ [0] rfl rfl rfl rfl rfl rfl rfl rfl ?_ rfl rfl rfl rfl iz;simp
 refine AK.fact (PM.of (l:=2) (p:=∃a cap b' o,v=.slice a s.1.length cap/\(0<s.1.length->a=aa ⟨b',o,af⟩)) rfl λM f=>?_) ?_
 .grind [Rd.EW]
 rintro⟨a,cap,b',o,rfl,ha⟩;obtain rfl:=ha (by omega);refine aX [(10,ae)] rfl (by simp[Z];omega) ?_;refine AK.cP (gF m b L k1 s.1.length (by omega) O (by omega)) [0] rfl (λ_=>rfl) ?_;rintro⟨i,i0,t⟩;obtain⟨i,rfl⟩:=Int.eq_ofNat_of_zero_le i0;have t:i<s.1.length:=by omega
 refine bt rfl ay ?_;refine AK.cP (gF m b L (k1+1) 24 (by omega) O (by omega)) [0] rfl (λ_=>rfl) ?_;rintro⟨w,w0,w1⟩;refine aX [(1000006,ab)] rfl ay ?_;have A:0<(s.1.getD i (0,[])).2.length:=y.ne _ (fj t (0,[]));by_cases H:w=0
 .have o4:az (fY s.1.length af (aa (i:Int))):=by simp only[fY,az];omega
  have o9:az [bD .i64 ((i:Int)+1)]:=by simp only[az,bD];omega
  have N:az (fY s.1.length (aa ((i:Int)+1)) af):=by simp only[fY,az];omega
  have Y:nq s i=i:=by show((i:Int)).toNat-0=i;omega
  have e2:xx s i=s.1.length-(i+1):=by show s.1.length-((i:Int)+1).toNat=_;omega
  have o5:az [(0+nq s i)*i67.bytes<=140737488355328]:=by rw[show i67.bytes=32 from rfl,Y];simp only[az];omega
  have P:az [0+nq s i=0+nq s i,0+nq s i=0+nq s i,(0+nq s i+xx s i)*i67.bytes<=140737488355328]:=by refine⟨rfl,rfl,?_⟩;rw[show i67.bytes=32 from rfl];simp only[az];omega
  refine AK.rN 2 3 0 (E:=67) (k:=2) (cl:=Hc s.1) (by decide) rfl rfl rfl (λ_ h=>h) ?_;refine aX [(20,ab),(1000007,ab)] rfl (by simp[H]) ?_;refine AK.flags jk (x9S s i) (pI (b9S m b (k1+1+1:Nat) s i) 5 11 12 13) rfl rfl rfl rfl
   ⟨.qW tok bL.nil,
   .qW tok bL.nil,
   eh.q4b rfl rfl rfl rfl rfl (λa b c=>by cases a<;>cases b<;>cases c<;>exact OA.cZ tok bL.nil rfl),
   .qW tok bL.nil,
   .XO tok bL.nil o4,
   eh.c1 rfl rfl rfl rfl rfl rfl (gL (ds:=[(3000026,ab)]) tok bL.nil (σ':=aa _) rfl o5),
   .qW tok bL.nil,
   eh.q4b rfl rfl rfl rfl rfl (λa b c=>by cases a<;>cases b<;>cases c<;>exact OA.cZ tok bL.nil rfl),
   .qW tok bL.nil,
   .XO tok bL.nil o9,
   .XO tok bL.nil N,
   eh.c2 rfl rfl rfl rfl rfl rfl (gL (ds:=[]) tok bL.nil (σ':=aa _) rfl P),
   eh.c3 rfl rfl rfl rfl rfl rfl (OA.cZ tok bL.nil rfl),
   eh.c4 rfl rfl rfl rfl rfl rfl (gL (ds:=[]) tok bL.nil (σ':=aa _) rfl ay),ay⟩ ?_
  intro D r;show AK X _ _ _ _ _ (b9S m b (k1+1+1:Nat) s i (D 5) (D 11) (D 12) (D 13));rw[r 5 (by decide),r 11 (by decide),r 12 (by decide),r 13 (by decide)];refine AK.CG (φ':=[(2,.e (.one (.ptr 1 0))),(3,.e (.one (.ptr 3 0)))]) (σ':=[lu m b (k1+1+1:Nat),jI,yR,.cells 27 [.bp 4 (.sl (0+nq s i+xx s i) 2 0 (0+nq s i+xx s i)),.c (Fy s.2.1),.c (C9 s.2.2)],X4 s i]) ?_ rfl (by simp) rfl (by simp);refine AK.oV 4 rfl rfl rfl (by simp) (by simp) ?_;refine bt rfl ay ?_;refine AK.mY ⟨((s.1.take i++s.1.drop (i+1),s.2),k1+1+1),y.Xr.del i,by grind,by grind⟩ [0] rfl rfl rfl rfl rfl rfl rfl rfl ?_ rfl rfl rfl rfl iz;simp only[az.cat,az];refine⟨⟨by grind,λj hj=>?_⟩,⟨ay,.same⟩,⟨ay,.same⟩,ay⟩;show cK (0+nq s i) (cK 0 (λi=>([]:List (List C)).getD i []) (EN s)) (Aa s i) j=_;rw[Y,bF];simp only[cK,EN,Aa,mf,dj,bF,fX,ck,lU,mJ.fn,Bc,show((i:Int)+1).toNat=i+1 by omega];grind
 by_cases G:w=1
 .refine aX [(20,ae),(35,ab)] rfl (by simp[G];omega) ?_;refine AK.hand _ _ rfl rfl (ee.SB tok 2 rfl rfl (λ_=>rfl) rfl rfl (λM f=>?_)) λw1=>?_
  .obtain⟨_,w,g,q2⟩:=qT f t;exact⟨w,g,q2.cell⟩
  refine AK.JM (PM.of (l:=2) (p:=∃V U c2,w1=.slice (aa ⟨V,U,af⟩) (s.1.getD i (0,[])).2.length c2) rfl λM f=>?_) ?_
  .obtain⟨_,w,g,q2⟩:=qT f.1 t;cases g.symm.trans f.2;grind[Rd.EW]
  rintro⟨V,U,c2,rfl⟩;refine bt rfl (by simp only[az];omega) ?_;refine AK.hand _ _ rfl rfl (ee.GW tok 2 rfl rfl rfl rfl rfl rfl rfl (λM f=>?_)) ?_
  .obtain⟨_,w,g,q2⟩:=qT f.1 t;cases g.symm.trans f.2;grind[HI]
  rintro⟨u,K⟩;refine aX [(1000012,ab)] rfl ay ?_;refine AK.N5 (ι:={d:List bJ // X3 0 s.1 d}) 2 (λq=>PM (Un (.slice (aa ⟨b',o,af⟩) s.1.length cap) q.1)) rfl (λ_ ch T=>?_) ?_
  .obtain⟨R,Q,M,f,W⟩:=T;obtain⟨_,w,g,q2⟩:=qT f.1 t;cases g.symm.trans f.2;obtain⟨s0,J⟩:=HI q2 A;obtain⟨d,S,p2⟩:=Nr (x:=0) (Fit.str s0 J _ K) f.1;exact⟨⟨d,S⟩,R,Q,by grind⟩
  rintro⟨d,z⟩;refine AK.rN 2 3 0 (E:=67) (k:=2) (cl:=Hc d) (by decide) rfl rfl rfl (λ_ h=>by grind) ?_;refine bt rfl ay ?_;refine AK.mY ⟨((d,s.2),k1+1+1),y.Xr.spo z,by grind,by grind⟩ [0] rfl rfl rfl rfl rfl rfl rfl rfl ?_ rfl rfl rfl rfl iz;simp
 by_cases B:w=2
 .refine aX [(20,ae),(35,ae),(45,ab)] rfl (by simp[B];omega) ?_;refine AK.hand _ _ rfl rfl (ee.GW tok 2 rfl rfl rfl rfl rfl rfl rfl (λM f=>?_)) ?_
  .obtain⟨⟨n,g⟩,_⟩:=qT f t;exact⟨_,g⟩
  rintro⟨u,K⟩;refine aX [(1000012,ab)] rfl ay ?_;refine AK.N5 (ι:={d:List bJ // X3 0 s.1 d}) 2 (λq=>PM (Un (.slice (aa ⟨b',o,af⟩) s.1.length cap) q.1)) rfl (λ_ ch T=>?_) ?_
  .obtain⟨R,Q,M,f,W⟩:=T;obtain⟨⟨n,g⟩,_⟩:=qT f t;obtain⟨d,S,p2⟩:=Nr (x:=0) (Fit.int n g K) f;exact⟨⟨d,S⟩,R,Q,by rw[W];exact p2⟩
  rintro⟨d,z⟩;refine AK.rN 2 3 0 (E:=67) (k:=2) (cl:=Hc d) (by decide) rfl rfl rfl (λ_ h=>by grind) ?_;refine bt rfl ay ?_;refine AK.mY ⟨((d,s.2),k1+1+1),y.Xr.spo z,by grind,by grind⟩ [0] rfl rfl rfl rfl rfl rfl rfl rfl ?_ rfl rfl rfl rfl iz;simp
 refine AK.rN 2 3 0 (E:=67) (k:=2) (cl:=Hc s.1) (by decide) rfl rfl rfl (λ_ h=>h) ?_;refine aX [(20,ae),(35,ae),(45,ae)] rfl (by simp[H,G,B]) ?_;refine AK.mY ⟨(s,k1+1+1),y.Xr,by grind,by grind⟩ [0] rfl rfl rfl rfl rfl rfl rfl rfl ?_ rfl rfl rfl rfl iz;simp
end R1
end Go.AM
namespace Go.AM.R1
def Xs(m:Nat)(b:Nat->Int)(d:Bytes b)(f:m<=1048576):Xp m b:=by
 refine ef.JQ Tryz.func5 rfl rfl (db rfl) (AK.of_code ?_);refine bt rfl ay ?_;refine AK.cP (PG m b f) [] rfl (λ_=>rfl) ?_;rintro⟨c,hm'⟩;refine bt rfl ay ?_;refine AK.cP (D3 c b d 0 (by omega) hm') [1] rfl (λ_=>rfl) ?_;rintro⟨⟨s,k⟩,a,_,hk⟩;simp only at a hk;refine bt rfl ay ?_;refine AK.cP (gF c b d k 2 (by omega) hm' (by omega)) [1] rfl (λ_=>rfl) ?_;rintro⟨u,i,g⟩;refine bt rfl (by simp only[az,bD];omega) ?_;refine AK.cP (gF c b d (k+1) 24 (by omega) hm' (by omega)) [1] rfl (λ_=>rfl) ?_;rintro⟨w,w0,w1⟩;refine bt rfl (by simp only[az,bD];omega) ?_;refine AK.cP (Ns c b d (k+1+1) (by omega) hm') [1] rfl (λ_=>rfl) ?_;intro q;refine bt rfl ay ?_;refine AK.freeze 3 0 rfl rfl rfl ?_;have e:1<=1+u+w / 23/\1+u+w / 23<=3:=by omega
 refine AK.iU (λ_ _ _ h=>⟨⟨(s,1+u+w / 23,q.t),a.size,a.smT,a.num,e,a.an⟩,h⟩) ?_;refine AK.RU tok [] rfl ?_ rfl rfl rfl xG;simp
section
variable {X:Cx ag}
def Gb(a:List (Int×Int))(h:Int×Int)(n:iQ a=ab)(g:iQ (a++[h])=ab):Ev X 55 [cH.sl a,cH.sl (a++[h])] [] (dI (-1)) []:=by
 refine Ev.bQ Tryz.func55 rfl λq=>?_;have k:=g;simp only[iQ,bR,a9,cX,ig]at k;have m:=zR (X:=X) a (by omega);have l:=zR (X:=X) (a++[h]) (by grind);have p:bL X [(54,oL)]:=.cons we .nil;refine bn p [(11,ae),(15,ae)] rfl ?_ ?_
 .simp only[az,n,g,cH.list_fn,jD,aG,aE];and_intros<;>first|rfl|exact cH.aO _
 refine AK.cQ m [] rfl ?_;refine bt rfl ay ?_;refine AK.cQ l [] rfl ?_;obtain⟨b,j,o⟩:∃b,b=a/\b.length<=8:=⟨a,rfl,by omega⟩
 cases a<;>(
  refine bt rfl ay ?_;refine AK.loop (λi=>i<=b.length) (λi:Nat=>[(5,.e (.one (.c (lk (b.drop i))))),(6,.e (.one (.c (lk (b.drop i++[h]))))),(7,dI i)]) (λ_=>[]) (λi=>b.length-i) 0 (by omega) (.cons (by rw[j];rfl) (.cons (by rw[j];rfl) (cD rfl (by simp)))) rfl ?_;intro i hi;by_cases d:i<b.length
  .rw[zS (i:=i) (by omega)]
   generalize b.getD i (0,0)=x at *;generalize f:b.drop (i+1)=r;cases r<;>(
    refine bt rfl ay ?_;refine AK.law (zg rfl Tryz.underlying162 rfl rfl rfl) rfl rfl ?_;refine aX [(22,ab)] rfl rfl ?_;refine AK.one (OA.kT (fD rfl) (zg rfl Tryz.underlying162 rfl rfl rfl)) rfl ?_;refine aX [(22,ab),(25,ab),(36,ae)] rfl ?_ ⟨i+1,d,by omega,.cons (by rw[f];rfl) (.cons (by rw[f];rfl) (cD rfl ?_)),rfl⟩
    .simp[bD];omega
    .simp)
  obtain rfl:i=b.length:=by omega
  rw[qn];refine bt rfl ay ?_;refine AK.law (rO rfl Tryz.underlying162 rfl rfl rfl) rfl rfl ?_;refine aX [(22,ae),(25,ae)] rfl (by simp) (AK.leave rfl rfl ?_)
  exact bt rfl ay (AK.bz rfl))
def BR(a:List (Int×Int))(h:Int×Int)(c:iQ a=ab)(b:iQ (a++[h])=ab):Ev X 17 [cH.sl a,cH.sl (a++[h])] [] (dB ab) []:=by refine Ev.bQ Tryz.func17 rfl λe=>?_;have d:bL X [(54,oL),(55,pT [cH.sl a,cH.sl (a++[h])] (dI (-1)))]:=.cons we (.cons (rP (Gb a h c b)) .nil);refine bn d [(7,ab),(11,ab),(18,ab)] rfl ?_ (AK.bz rfl);simp only[az,c,b,cH.list_fn,aG,aE];and_intros<;>first|rfl|exact cH.aO _|(simp;omega)
end
def Gc(k:Int)(s x:bk)(d:kM s)(c:kM x)(g:s.2.1.length<=4000000)(h:∀y∈s.2.1,eN k x y.1=eN k s y.1):Ev (Cx.beside ag) 16 [dI k,pn s,pn x] [] (dB ab) []:=by
 refine Ev.bQ Tryz.func16 rfl λj=>?_;refine bt rfl ay ?_;refine AK.loop (λi=>i<=s.2.1.length) (λi:Nat=>[(0,dI k),(4,.e (.one (.ptr 0 0))),(5,.e (.one (.ptr 1 0))),(7,dI i)]) (λ_=>[xY s,xY x]) (λi=>s.2.1.length-i) 0 (by omega) (cD rfl (by simp)) rfl ?_;intro i hi;by_cases a:i<s.2.1.length
 .have b:s.2.1.getD (i:Int).toNat fi.cd=s.2.1.getD i (0,[]):=rfl;have e:=h _ (fj a (0,[]));generalize s.2.1.getD i (0,[])=y at *;have f:bL (Cx.beside ag) [(14,rR),(15,pT [cF.sl ((eN k s y.1).getD []),cF.sl ((eN k s y.1).getD [])] (dB ab))]:=.cons xM (.cons (rP (LZ _)) .nil);refine bn f [(16,ab),(46,ae),(51,ae)] rfl ?_ ⟨i+1,a,by omega,cD rfl (by simp),rfl⟩;simp only[az,b,cP.list_fn,fi.list_fn,cH.list_fn,e,bD];and_intros<;>first|rfl|exact cP.aO _|exact fi.aO _|exact cH.aO _|exact d|exact c|omega|simp;omega|simp
 obtain rfl:i=s.2.1.length:=by omega
 refine aX [(16,ae)] rfl (by simp) (AK.leave rfl rfl ?_);exact bt rfl ay (AK.bz rfl)
def Jg{s:bk}{by_:Int}{t:List bw}(c:rW s)(h:(jc 7 s by_ t).2=ab):Sv 7 s by_ t/\jc 7 s by_ t=(c9 7 s by_ t,ab):=by
 unfold jc at *;split at h
 .rename_i a;have b:fW 7 s t=ae:=by grind
  exact⟨⟨iR.1 a.1,c,a.2.1,a.2.2,b⟩,by simp[a,b]⟩
 .cases h
def Sv.size{k:Int}{s:bk}{by_:Int}{t:List bw}(h:Sv k s by_ t)(a:lq s):lq (c9 k s by_ t):=by
 have:=ve (k:=k) (by_:=by_) (t:=t) a
 rwa [D1 (iR.2 h.st) h.by' h.tr,h.fu]at this
def Sv.an{k:Int}{s:bk}{by_:Int}{t:List bw}(h:Sv k s by_ t):(u5 (c9 k s by_ t).2.1).length<=(u5 s.2.1).length+240:=by have:=zO (no:=c6 s) (k:=k) h.tr;simp only[c9,u5,List.flatMap_append,cX,se,List.flatMap_nil,iD];omega
def jJ.smT{k:Int}{s:bk}(h:jJ k s)(a:lq s)(c:(u5 s.2.1).length<=4000000):NM s:=by
 have d:(bE s.1).length<=4*s.1.length:=mF λp b=>by rw[jT];exact(h.pk p b).len.2
 have:=h.len;exact⟨⟨a.p,a.s2,a.sn,c⟩,a.p2,by omega⟩
def FE(A r:aj×ah)(m:Nat)(b:Nat->Int)(E:Bytes b)(_:m<=9223372036854775807):Ev (Cx.beside ag) 4 [.e (.one (.c (.sl ae 1 m (Hl b))))] (Xm A r) (dB ab) (Xm A r):=by
 refine Ev.bQ Tryz.func4 rfl λL=>?_;by_cases N:1048576<m
 .refine aX [(17,ab)] rfl (by simp;omega) (AK.dk [0,1,2] rfl ?_ rfl rfl rfl tE);simp
 refine aX [(17,ae)] rfl (by simp;omega) ?_;refine AK.cP (Xs m b E (by omega)) [] rfl (λ_=>rfl) ?_;rintro⟨⟨s,by_,t⟩,f,j,a,w,v⟩;simp only at f j a w v;have n:fI 7 s=ab->BK 7 s:=λh=>(iR.1 h).save a;have K:=yQ (X:=Cx.beside ag) 7 s by_ t f a n;have B:=yO A r 7 s by_ t f j a (by simp only[bD];omega) n;rw[F5]at B;refine bt rfl ay ?_;refine AK.cQ K [] rfl ?_;refine bt rfl ay ?_;refine AK.cQ B [0,1,2] rfl ?_;have l:=FA (X:=Cx.beside ag) (jc 7 s by_ t).1 (ve f);have p:=Jg (s:=s) (by_:=by_) (t:=t) a;generalize jc 7 s by_ t=q at *;obtain⟨x,ok⟩:=q;have c1:bL (Cx.beside ag) [(8,pT [pn x,pn x] (dB ab))]:=.cons (rP l) .nil;cases ok with
 |false =>
  refine bn c1 [(44,ae),(50,ae),(53,ab),(57,ab)] rfl ?_ (AK.dk [0,1,2] rfl (by simp) rfl rfl rfl tE);simp
 |true =>
  obtain⟨g,e⟩:=p rfl;cases e;have d:=g.ok;have i:=g.size f;have F:=f.h;have z:=d.smT i (by have:=g.an;omega);have G:=Gc 7 s (c9 7 s by_ t) f.s2 i.s2 f.sn λy C=>g.Qm C;have o:=BR (X:=Cx.beside ag) s.2.2 (by_,c6 s) g.st.log d.log;have u:=g.load;have D:=iR.2 d;refine bn c1 [(44,ae),(50,ae),(53,ae)] rfl ?_ ?_
  .simp
  clear c1 l d g;have k:(c9 7 s by_ t).2.2=s.2.2++[(by_,c6 s)]:=rfl;generalize c9 7 s by_ t=x at *;obtain⟨J,I,M⟩:=x;simp only at k;subst k;refine AK.cQ (DU s f a) [] rfl ?_;have H:bL (Cx.beside ag) [(14,rR),(15,pT [cF.sl t,cF.sl t] (dB ab)),(16,pT [dI 7,pn s,pn (J,I,s.2.2++[(by_,c6 s)])] (dB ab)),(17,pT [cH.sl s.2.2,cH.sl (s.2.2++[(by_,c6 s)])] (dB ab)),(18,uv)] :=
   .cons xM (.cons (rP (LZ t)) (.cons (rP G) (.cons (rP o) (.cons zB .nil))))
  refine bn H [(75,ab),(80,ab),(86,ab),(96,ab),(109,ab),(116,ab)] rfl ?_ (AK.dk [0,1,2] rfl ?_ rfl rfl rfl tE)
  .simp only[az,cP.list_fn,fi.list_fn,cH.list_fn,u];and_intros<;>first|rfl|exact True.intro|exact cP.aO _|exact fi.aO _|exact cH.aO _|exact i.s2|exact z|grind
  .simp only[cP.list_fn,fi.list_fn,cH.list_fn,D];simp
end Go.AM.R1
