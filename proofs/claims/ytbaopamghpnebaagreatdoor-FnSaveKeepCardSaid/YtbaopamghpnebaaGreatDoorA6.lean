/- Part 6. No condition. -/
import Derived.Test.YtbaopamghpnebaaGreatDoorA5
set_option linter.all false
set_option maxHeartbeats 8000000
open Go.Proofs
open Go renaming Value → ah, Program → aq, TypeId → aj, Oper → au, FuncId → aJ
open Option renaming some → aa, none → ae
open Bool renaming true → ab, false → af
open List renaming getD_eq_getElem?_getD → ar, range → bg
open Nat renaming beq → aB, ble → bu
open Go.Proofs.Tryz renaming prog → ag
namespace Go.AM.R1
section
variable {X:Cx ag}
abbrev Qn(s:bn):aP:=.cells 27 [.c (.sl af 2 s.1.length (cP.fn s.1)),.c (.sl af 2 s.2.1.length (gf.fn s.2.1)),.c (.sl af 2 s.2.2.length (cH.fn s.2.2))]
def Lx(k:Int)(s:bn)(x:gE)(c:x.2.length<=4000000)(b:∀y∈x.2,y.2.length<=4000000):Ev X 47 [dI k,rj s,M7 x] [] (dB (c6 k x s.1).isSome) []:=by
 refine Ev.bQ Tryz.func47 rfl λd=>?_;have a:bE X [(92,xz)]:=.cons EU .nil;have e:(x.1,cL.list x.2.length (cL.fn x.2))=x:=by rw[cL.list_fn]
 refine cf a rfl ?_ (AK.bw rfl ?_)
 .simp only[az,cL.list_fn,cL.aU,cP.aU,c,aG,aE];exact b
 .simp[cL.list_fn,cP.list_fn]
abbrev Ly:dr:=Gg aI TR (Ex cL) (λk s x=>dB (c6 k x s.1).isSome) λ_ _ x=>[x.2.length<=4000000,∀y∈x.2,y.2.length<=4000000]
def SX:ee X 47 Ly:=.M6 λk s x h=>Lx k s x h.1 h.2
def qq{α:Type}{f:α->Int}{d:α}{l:List α}{i:Nat}(h:i≠0):CL f d l i=decide (f (l.getD (i-1) d)<f (l.getD i d)):=by unfold CL;grind
def CM(k:Int)(s:bn)(K:ov s)(R:s.1.length<=4000000)(N:s.2.1.length<=4000000):Ev X 19 [dI k,rj s] [] (dB (fx k s)) []:=by
 refine Ev.bQ Tryz.func19 rfl λO=>?_;have c:bE X [(45,CI),(46,QE),(20,Cu),(47,Ly),(48,CG),(49,sK)]:=.cons Lr (.cons V8 (.cons EL (.cons SX (.cons GF (.cons OV .nil)))));refine aW c [(1000002,ab)] rfl ay ?_;refine AK.iB 5 3 1 rfl rfl ?_;refine cf c rfl ay ?_;unfold fx;refine AK.cz 2 (λi=>i<=s.1.length/\(∀j,j<i->ma k s.1 j=ab)/\(bX (s.1.take i)).Nodup/\(bX (s.1.take i)).length<=4*i) (λi:Nat=>[(0,dI k),(3,.e (.one (.ptr 0 0))),(5,.e (.one (.vec 1 1 (bX (s.1.take i)).length (cI.fn (bX (s.1.take i)))))),(6,dI i)]) (λi=>[Qn s,.vec 3 1 (bX (s.1.take i)).length (cI.fn (bX (s.1.take i)))]) (λi=>s.1.length-i) 0 rfl (by simp[bX]) rfl (by simp[bX]) rfl ⟨by omega,by omega,by simp[bX],by simp[bX]⟩ ?_;rintro i ⟨hi,g,v,L⟩;by_cases h:i<s.1.length
 .have z:=xA h;have D:=Ib (ps:=s.1) (i:=i+1);have m:s.1.getD i cP.bZ=s.1.getD i (0,[]):=rfl;have n:s.1.getD (i-1) cP.bZ=s.1.getD (i-1) (0,[]):=rfl;have b:ma k s.1 i=(gg k (s.1.getD i (0,[]))&&CL (·.1) (0,[]) s.1 i):=rfl;have F:=qq (f:=λp:bG=>p.1) (d:=(0,[])) (l:=s.1) (i:=i);generalize E:s.1.getD i (0,[])=p at *;generalize s.1.getD (i-1) (0,[])=p' at *;cases u:gg k p with
  |false =>
   rw[u,rL]at b;refine aW c [(14,ab),(25,ab),(44,ab)] rfl ?_ (AK.fE (cp.zero rfl ?_))
   .simp[-ar,m,u,dN.list_fn,dN.aU,h]
   .rw[iG h b];simp
  |true =>
   have P:p.2.length<=4:=by grind[pD]
   rw[u,fC]at b;cases t:CL (·.1) (0,[]) s.1 i with
   |false =>
    have r:i≠0:=by rintro rfl;cases t
    have A:¬p'.1<p.1:=by grind
    refine aW c [(14,ab),(25,af),(28,ab),(42,ab),(44,ab)] rfl ?_ (AK.fE (cp.zero rfl ?_))
    .simp[-ar,m,n,u,dN.list_fn,dN.aU,h,bA];omega
    .rw[iG h (b.trans t)];simp
   |true =>
   rw[t]at b;apply AK.join [(0,dI k),(3,.e (.one (.ptr 0 0))),(5,.e (.one (.vec 1 1 (bX (s.1.take i)).length (cI.fn (bX (s.1.take i)))))),(6,dI i),(7,dI 0)] [Qn s,.vec 3 1 (bX (s.1.take i)).length (cI.fn (bX (s.1.take i)))]
   .intro w;by_cases r:i=0
    .subst r;refine aW c [(14,ab),(25,af),(28,af),(44,af)] rfl ?_ (w _ _ rfl ?_)
     .simp[-ar,m,u,dN.list_fn,dN.aU,h]
     .simp
    .have A:p'.1<p.1:=by grind
     refine aW c [(14,ab),(25,af),(28,ab),(42,af),(44,af)] rfl ?_ (w _ _ rfl ?_)
     .simp[-ar,m,n,u,dN.list_fn,dN.aU,h,bA];omega
     .simp
   generalize bX (s.1.take i)=ns at *;refine AK.cz 2 (λj=>j<=p.2.length/\(ns++(p.2.take j).map (·.1)).Nodup) (λj:Nat=>[(0,dI k),(3,.e (.one (.ptr 0 0))),(5,.e (.one (.vec 1 1 (ns++(p.2.take j).map (·.1)).length (cI.fn (ns++(p.2.take j).map (·.1)))))),(6,dI i),(7,dI j)]) (λj=>[Qn s,.vec 3 1 (ns++(p.2.take j).map (·.1)).length (cI.fn (ns++(p.2.take j).map (·.1)))]) (λj=>p.2.length-j) 0 rfl (by simp) rfl (by simp) rfl ⟨by omega,by grind⟩ ?_;rintro j ⟨Q,C⟩;by_cases o:j<p.2.length
   .have B:p.2.getD j dN.bZ=gV p j:=rfl;have x:ns++(p.2.take (j+1)).map (·.1)=(ns++(p.2.take j).map (·.1))++[(gV p j).1]:=by grind[bS]
    have y:(ns++(p.2.take j).map (·.1)).length=ns.length+j:=by grind
    generalize ns++(p.2.take j).map (·.1)=a at *;cases H:a.contains (gV p j).1 with
    |true =>
     refine aW c [(53,ab),(67,ab)] rfl ?_ (AK.fE (AK.sj (cp.zero rfl ?_)))
     .simp[-ar,-List.contains_eq_mem,m,B,h,o,H,cI.list_fn,cI.aU]
     .have M:¬(bX s.1).Nodup:=D (by
       have e:ns++p.2.map (·.1)=(ns++(p.2.take (j+1)).map (·.1))++(p.2.drop (j+1)).map (·.1):=by grind[List.take_append_drop]
       grind)
      simp[M]
    |false =>
     have I:=cI.cu a (gV p j).1;have G:cI.list (ns.length+j) (cI.fn a)=a:=by rw[<-y];exact cI.list_fn a
     refine aW c [(53,ab),(67,af)] rfl ?_ (AK.aQ (j+1) rfl ?_ ?_ ⟨o,?_⟩ (by omega))
     .simp[-ar,-List.contains_eq_mem,m,B,h,o,H,cI.list_fn,cI.aU,y,G,bA,show i3.bytes=8 from rfl];omega
     .rw[x];simp only[az.cat,az,b9,m,B,c7,jg,aG,aE];and_intros<;>first|exact cv.same|exact I|rfl|omega
     .rw[x];simp only[az.cat,az,b9,m,B,c7,jg,aG,aE];and_intros<;>first|exact cv.same|exact I|rfl|omega
     grind
   .obtain rfl:j=p.2.length:=by omega
    rw[dh]at C⊢;refine aW c [(53,af)] rfl ?_ (AK.leaveD rfl rfl ?_)
    .simp[-ar,m,h]
    refine cf c rfl ?_ (AK.aQ (i+1) rfl ?_ ?_ ⟨h,jV g b,by grind,by grind⟩ (by omega))
    .simp[bA];omega
    .rw[z];simp
    .rw[z];simp
 obtain rfl:i=s.1.length:=by omega
 rw[dh]at v⊢;refine aW c [(14,af)] rfl (by simp) (AK.leaveD rfl rfl ?_);refine cf c rfl ay ?_;rw[dy.2 g,c8 v,fC,fC];generalize bX s.1=ns;refine AK.cz 2 (λi=>i<=s.2.1.length/\(∀j,j<i->jW k s j=ab)) (λi:Nat=>[(0,dI k),(3,.e (.one (.ptr 0 0))),(8,dI i)]) (λ_=>[Qn s,.vec 3 1 ns.length (cI.fn ns)]) (λi=>s.2.1.length-i) 0 rfl (by simp) rfl (by simp) rfl ⟨by omega,by omega⟩ ?_;rintro i ⟨hi,g⟩;by_cases h:i<s.2.1.length
 .have m:s.2.1.getD i gf.bZ=s.2.1.getD i (0,[]):=rfl;have n:s.2.1.getD (i-1) gf.bZ=s.2.1.getD (i-1) (0,[]):=rfl;have q:=K _ (lR (d:=(0,[])) h);have b:jW k s i=(decide (1<=(s.2.1.getD i (0,[])).1/\(s.2.1.getD i (0,[])).1<=20)&&CL (·.1) (0,[]) s.2.1 i&&(c6 k (s.2.1.getD i (0,[])) s.1).isSome):=rfl;have F:=qq (f:=λp:gE=>p.1) (d:=(0,[])) (l:=s.2.1) (i:=i);generalize E:s.2.1.getD i (0,[])=p at *;generalize s.2.1.getD (i-1) (0,[])=p' at *;by_cases c1:1<=p.1/\p.1<=20
  rotate_left
  .refine aW c [(85,ab),(96,ab),(116,ab),(126,ab)] rfl ?_ (AK.fE (cp.zero rfl ?_))
   .simp[-ar,m,h];omega
   .rw[iG h (by grind)];simp
  cases t:CL (·.1) (0,[]) s.2.1 i with
  |false =>
   have r:i≠0:=by rintro rfl;cases t
   have A:¬p'.1<p.1:=by grind
   refine aW c [(85,ab),(96,af),(99,ab),(113,ab),(116,ab),(126,ab)] rfl ?_ (AK.fE (cp.zero rfl ?_))
   .simp[-ar,m,n,h,c1,bA];omega
   .rw[iG h (by grind)];simp
  |true =>
   rw[c8 c1,t,fC,fC]at b;cases o:(c6 k p s.1).isSome with
   |false =>
    by_cases r:i=0
    .subst r;refine aW c [(85,ab),(96,af),(99,af),(116,af),(126,ab)] rfl ?_ (AK.fE (cp.zero rfl ?_))
     .simp[-ar,m,h,c1,cL.list_fn,cL.aU,cP.list_fn,cP.aU,gf.aU,cH.aU,o,q.1];grind
     .rw[iG h (b.trans o)];simp
    .have A:p'.1<p.1:=by grind
     refine aW c [(85,ab),(96,af),(99,ab),(113,af),(116,af),(126,ab)] rfl ?_ (AK.fE (cp.zero rfl ?_))
     .simp[-ar,m,n,h,c1,bA,cL.list_fn,cL.aU,cP.list_fn,cP.aU,gf.aU,cH.aU,o,q.1];and_intros<;>first|omega|grind
     .rw[iG h (b.trans o)];simp
   |true =>
    rw[o]at b;by_cases r:i=0
    .subst r;refine aW c [(85,ab),(96,af),(99,af),(116,af),(126,af)] rfl ?_ (AK.aQ 1 rfl (by simp) (by simp) ⟨h,jV g b⟩ (by omega));simp[-ar,m,h,c1,bA,cL.list_fn,cL.aU,cP.list_fn,cP.aU,gf.aU,cH.aU,o,q.1];grind
    .have A:p'.1<p.1:=by grind
     refine aW c [(85,ab),(96,af),(99,ab),(113,af),(116,af),(126,af)] rfl ?_ (AK.aQ (i+1) rfl (by simp) (by simp) ⟨h,jV g b⟩ (by omega));simp[-ar,m,n,h,c1,bA,cL.list_fn,cL.aU,cP.list_fn,cP.aU,gf.aU,cH.aU,o,q.1];and_intros<;>first|omega|grind
 obtain rfl:i=s.2.1.length:=by omega
 refine aW c [(85,af)] rfl (by simp) (AK.leaveD rfl rfl ?_);rw[dy.2 g,fC];cases hk:cd k
 .exact aW c [(129,af),(134,af)] rfl (by simp[hk]) (AK.bw rfl)
 cases J:k6 s.2.2
 .exact aW c [(129,ab),(134,af)] rfl (by simp[hk,J,cH.list_fn,cH.aU]) (AK.bw rfl)
 exact aW c [(129,ab),(134,ab)] rfl (by simp[hk,J,cH.list_fn,cH.aU]) (AK.bw rfl (by simp;omega))
abbrev y3:dr:=oQ aI TR (λk s=>dB (fx k s)) λ_ s=>[ov s,s.1.length<=4000000,s.2.1.length<=4000000]
def Ic:ee X 19 y3:=.sv λk s h=>CM k s h.1 h.2.1 h.2.2
def pC{α:Type}(c:mg α)(l:List α)(x y:α):cv (l.length+1+1) (cC (l.length+1) (cC l.length (c.fn l) λq=>[c.enc x].getD q []) λq=>[c.enc y].getD q []) (c.fn (l++[x,y])):=c.pC l x y
def GH(l:List gE):List Int:=l.flatMap λx=>vA x.2
structure SmS(s:bn):Prop where
 pN:s.1.length<=4000000
 sm:ov s
 sN:s.2.1.length<=4000000
 aN:(GH s.2.1).length<=4000000
def IG(n:Int):Ev X 84 [dI n] [] (dB (decide (0<=n)&&decide (n<999999999989))) []:=by
 refine Ev.bQ Tryz.func84 rfl λa=>?_;by_cases h:0<=n
 .exact aX [(5,ab)] rfl (by simp[h]) (AK.bw rfl (by simp[h]))
 .exact aX [(5,af)] rfl (by simp[h]) (AK.bw rfl (by simp[h]))
def Ft(a b:Int):Ev X 37 [Pk a b] [] (dB (eF (a,b))) []:=by
 refine Ev.bQ Tryz.func37 rfl λe=>?_;have d:bE X [(84,kq aI (λn=>dB (decide (0<=n)&&decide (n<999999999989))) λ_=>[])]:=.cons (.px λn _=>IG n) .nil;unfold eF;cases h:(decide (0<=a)&&decide (a<999999999989))with
 |false=>exact aW d [(6,af),(11,af)] rfl (by simp[h]) (AK.bw rfl)
 |true =>
  by_cases c:1<=b
  .exact aW d [(6,ab),(11,ab)] rfl (by simp[h,c]) (AK.bw rfl (by simp[c]))
  .exact aW d [(6,ab),(11,af)] rfl (by simp[h,c]) (AK.bw rfl (by simp[c]))
abbrev Fu:dr:=kq TQ (λs=>dB (eF s)) λ_=>[]
def MR:ee X 37 Fu:=.px λs _=>Ft s.1 s.2
def zd(l:List (Int×Int)):∀t:Tr,Tr.Ok t->(l.foldl (λt x=>t.put x.1 x.2) t).list=l.foldl gp t.list/\Tr.Ok (l.foldl (λt x=>t.put x.1 x.2) t):=by
 induction l with
 |nil=>grind
 |cons x r a =>
  grind[xH,OY]
def Df(l:List bG)(F:l.length<=4000000)(B:(cW l).length<=100000):Ev X 13 [cP.sl l] [] (cH.sl (indexOf l)) []:=by
 refine Ev.bQ Tryz.func13 rfl λC=>?_;have d:bE X [(37,Fu)]:=.cons MR .nil;refine cw d rfl ay ?_;refine AK.iB 3 81 2 rfl rfl ?_;refine AK.cz 1 (λi=>i<=l.length/\(cW (l.take i)).all eF=ab) (λi:Nat=>[(3,.e (.one (.vec 0 2 (cW (l.take i)).length (cH.fn (cW (l.take i)))))),(9,cP.sl l),(10,dI l.length),(11,dI i)]) (λi=>[Bj (cW (l.take i))]) (λi=>l.length-i) 0 rfl ?_ rfl ?_ rfl ⟨by omega,rfl⟩ ?_
 .simp[cW]
 .simp[cW]
 rintro i ⟨hi,a⟩;by_cases h:i<l.length
 .have t:l.getD (i:Int).toNat cP.bZ=l.getD i (0,[]):=by grind
  have o:=rn h;refine bl d [(12,ab)] rfl (by simp only[az,ba];omega) ?_;refine AK.cz 2 (λj=>j<=(l.getD i (0,[])).2.length/\(ku l i j).all eF=ab) (λj:Nat=>[(3,.e (.one (.vec 0 2 (ku l i j).length (cH.fn (ku l i j))))),(5,.e (.one (.ptr 1 0))),(9,cP.sl l),(10,dI l.length),(11,dI i),(16,dN.sl (l.getD i (0,[])).2),(17,dI (l.getD i (0,[])).2.length),(18,dI j)]) (λj=>[Bj (ku l i j),.cells 37 [.c (.int .i64 (l.getD i (0,[])).1),.c (.sl af 2 (l.getD i (0,[])).2.length (dN.fn (l.getD i (0,[])).2))]]) (λj=>(l.getD i (0,[])).2.length-j) 0 rfl ?_ rfl ?_ rfl ⟨by omega,by simpa[ku]using a⟩ ?_
  .simp only[ku,List.take_zero,iO,t,az.cat,az,aG,aE];and_intros<;>first|exact cv.same|rfl|omega
  .simp only[ku,List.take_zero,iO,t,az.cat,az,aG,aE];and_intros<;>first|exact cv.same|rfl|omega
  rintro j ⟨E,k⟩;obtain⟨r,u⟩:=sF (l:=l) (j:=j) h;have q:(ku l i j).length<=100000:=by grind
  have z:(l.getD i (0,[])).2.length<=100000:=by grind[Cy]
  by_cases D:j<(l.getD i (0,[])).2.length
  .have b:(l.getD i (0,[])).2.getD (j:Int).toNat dN.bZ=(l.getD i (0,[])).2.getD j (0,[]):=by grind
   have g:ku l i (j+1)=ku l i j++[(((l.getD i (0,[])).2.getD j (0,[])).1,(l.getD i (0,[])).1)]:=by unfold ku;rw[lS];congr 1;rw[bS (by grind) (0,0)];grind
   have m:=cH.cu (ku l i j) (((l.getD i (0,[])).2.getD j (0,[])).1,(l.getD i (0,[])).1);cases n:eF (((l.getD i (0,[])).2.getD j (0,[])).1,(l.getD i (0,[])).1)with
   |false =>
    have A:indexOf l=[]:=by obtain⟨r,u⟩:=sF (l:=l) (j:=j+1) h;unfold indexOf;rw[aZ];grind
    refine bl d [(19,ab),(29,ab)] rfl ?_ (AK.fE (cp.zero rfl ?_))
    .simp only[az,b,n,ba,aG,aE];and_intros<;>first|rfl|omega
    .rw[A];simp
   |true =>
    refine bl d [(19,ab),(29,af)] rfl ?_ (AK.aQ (j+1) rfl ?_ ?_ ?_ ?_)
    .simp only[az,b,n,bA,show i81.bytes=16 from rfl,ba,aG,aE];and_intros<;>first|rfl|omega
    .rw[g];simp only[c7,jg,az.cat,az,b,aG,aE];and_intros<;>first|exact m|exact cv.same|rfl|omega
    .rw[g];simp only[c7,jg,az.cat,az,b,aG,aE];and_intros<;>first|exact m|exact cv.same|rfl|omega
    .grind
    .omega
  .have w:j=(l.getD i (0,[])).2.length:=by omega
   have f:ku l i j=cW (l.take (i+1)):=by rw[o,ku];grind[List.length_map]
   refine bl d [(19,af)] rfl ?_ (AK.leaveD rfl rfl ?_)
   .simp only[az,bO];grind
   rw[f];refine cw d rfl ?_ (AK.aQ (i+1) rfl ?_ ?_ ⟨h,f▸k⟩ (by omega))
   .simp only[az,bA,aE];omega
   .simp
   .simp
 .obtain rfl:i=l.length:=by omega
  rw[dh]at a⊢;refine bl d [(12,af)] rfl (by simp) (AK.leaveD rfl rfl ?_);refine AK.BZ (φ':=[(3,cH.sl (cW l))]) (σ':=[Bj (cW l)]) ?_ rfl (by simp) rfl (by simp);have s:∀x∈cW l,bA .i64 x.1/\bA .i64 x.2:=λx y=>by have:=List.all_eq_true.1 a x y;simp only[eF,bR,ba]at this;simp only[bA];omega
  have c2:bE X [(32,xd [QK (cW l)] (.e (.one (.c (tC (oB (cW l)))))))]:=.cons (As (ze (cW l) (by omega) s)) .nil;have hT:(oB (cW l)).list=indexOf l:=by unfold indexOf;rw[bm a];exact(zd (cW l) .nil (by simp[Tr.Ok,Tr.list])).1
  have p:(indexOf l).length<=100000:=by have:=tL (cW l) [];unfold indexOf;grind
  rw[<-hT]at p⊢;clear hT;generalize oB (cW l)=T at *;have v:=Dh (X:=X) T (by omega)
  cases T<;>(
   refine cw c2 rfl rfl ?_;refine AK.jK v.tc [] rfl rfl rfl rfl (by simp[tC]) rfl rfl rfl (λ_=>rfl) rfl (λ_=>rfl) rfl λ_=>?_
   exact cw c2 rfl ay (AK.bw rfl))
def pJ(l:List Bs)(v:Bs):Int:=match l.findIdx? (λx=>x==v)with
 |some i=>i
 |none=>-1
def IH{l:List Bs}{v:Bs}{i:Nat}(hi:i<l.length)(h:∀j,j<i->l.getD j []≠v)(a:l.getD i []=v):pJ l v=i:=by
 have:l.findIdx? (λx=>x==v)=aa i:=by rw[vF];refine⟨hi,by grind,λj b=>?_⟩;grind
 simp only[pJ,this]
def II{l:List Bs}{v:Bs}(h:∀j,j<l.length->l.getD j []≠v):pJ l v=-1:=by
 have:l.findIdx? (λx=>x==v)=ae:=by grind[List.getElem_of_mem]
 simp only[pJ,this]
def Fv(l:List Bs)(v:Bs):decide (0<=pJ l v)=l.contains v:=by unfold pJ;grind
def IJ(l:List Bs)(v:Bs):Ev X 83 [cS.sl l,dS v] [] (dI (pJ l v)) []:=by
 refine Ev.bQ Tryz.func83 rfl λd=>?_;have f:=d.sl 0 rfl;refine bt rfl ay ?_;refine AK.cz 0 (λi=>i<=l.length/\∀j,j<i->l.getD j []≠v) (λi:Nat=>[(0,cS.sl l),(1,dS v),(7,dI l.length),(8,dI i)]) (λ_=>[]) (λi=>l.length-i) 0 rfl (by simp) rfl ay rfl ⟨by omega,by omega⟩ ?_;rintro i ⟨hi,a⟩;by_cases h:i<l.length
 .have b:l.getD (i:Int).toNat cS.bZ=l.getD i []:=rfl;by_cases c:l.getD i []=v
  .rw[IH h a c];refine aX [(9,ab),(16,ab)] rfl ?_ (AK.fE (cp.zero rfl));simp only[az,b,ba,hI,aG,aE];and_intros<;>first|exact c.symm|omega
  .refine aX [(9,ab),(16,af)] rfl ?_ (AK.aQ (i+1) rfl ?_ ay ⟨h,λj e=>?_⟩ (by omega))
   .simp only[az,b,bA,ba,eD,aG,aE];and_intros<;>first|grind|omega
   .simp
   grind
 .rw[II λj e=>a j (by omega)];refine aX [(9,af)] rfl (by simp only[az,bO];omega) (AK.leaveD rfl rfl ?_);exact bt rfl ay (AK.bw rfl)
abbrev PG:dr:=oQ (aL cS) aS (λl v=>dI (pJ l v)) λ_ _=>[]
def IK(l:List Bs)(v:Bs):Ev X 36 [cS.sl l,dS v] [] (dB (l.contains v)) []:=by refine Ev.bQ Tryz.func36 rfl λb=>?_;have a:bE X [(83,PG)]:=.cons (.sv λl v _=>IJ l v) .nil;refine cf a rfl (by simp only[az];exact cS.aU _) (AK.bw rfl ?_);simp only[az,cS.list_fn,aE];exact Fv l v
abbrev GS:dr:=oQ (aL cS) aS (λl v=>dB (l.contains v)) λ_ _=>[]
def Pm:ee X 36 GS:=.sv λl v _=>IK l v
def ry(l:List cn)(i:Nat):Bool:=(bg i).all λj=>eF (l.getD j (0,0))&&(j==0||decide ((l.getD (j-1) (0,0)).1<(l.getD j (0,0)).1))
theorem Dp{l:List cn}{i:Nat}:ry l (i+1)=(ry l i&&(eF (l.getD i (0,0))&&(i==0||decide ((l.getD (i-1) (0,0)).1<(l.getD i (0,0)).1)))):=by unfold ry;rw[List.range_succ,List.all_append];simp
def zh{l:List cn}{i:Nat}(h:ry l i=af):∀n,i<=n->ry l n=af:=by
 intro n a;obtain⟨k,rfl⟩:=Nat.exists_eq_add_of_le a;induction k with
 |zero=>exact h
 |succ k b=>grind[Dp]
def Dd(l:List cn):Ev X 31 [cH.sl l] [] (dB (ry l l.length)) []:=by
 refine Ev.bQ Tryz.func31 rfl λj=>?_;have k:=j.sl 0 rfl;have a:bE X [(37,Fu)]:=.cons MR .nil;refine cf a rfl ay ?_;refine AK.cz 0 (λi=>i<=l.length/\ry l i=ab) (λi:Nat=>[(0,cH.sl l),(5,cH.sl l),(6,dI l.length),(7,dI i)]) (λ_=>[]) (λi=>l.length-i) 0 rfl (by simp) rfl ay rfl ⟨by omega,rfl⟩ ?_;rintro i ⟨hi,b⟩;by_cases h:i<l.length
 .have f:=Dp (l:=l) (i:=i);rw[b,fC]at f;have d:l.getD (i:Int).toNat cH.bZ=l.getD i (0,0):=rfl;cases c:eF (l.getD i (0,0))with
  |false =>
   rw[zh (i:=i+1) (by grind) l.length (by omega)];refine aW a [(8,ab),(14,ab),(29,ab)] rfl ?_ (AK.fE (cp.zero rfl));simp only[az,d,c,ba,aG,aE];and_intros<;>first|rfl|omega
  |true =>
  rw[c,fC]at f;by_cases g:i=0
  .subst g;refine aW a [(8,ab),(14,af),(17,af),(29,af)] rfl ?_ (AK.aQ 1 rfl (by simp) ay ⟨h,f⟩ (by omega));simp only[az,d,c,bA,ba,bO,aG,aE];and_intros<;>first|rfl|omega
  have e:l.getD ((i:Int)-1).toNat cH.bZ=l.getD (i-1) (0,0):=by rw[show((i:Int)-1).toNat=i-1 by omega];rfl
  by_cases m:(l.getD (i-1) (0,0)).1<(l.getD i (0,0)).1
  .refine aW a [(8,ab),(14,af),(17,ab),(29,af)] rfl ?_ (AK.aQ (i+1) rfl (by simp) ay ⟨h,by grind⟩ (by omega));simp only[az,d,e,c,bA,ba,bO,aG,aE];and_intros<;>first|rfl|omega
  .rw[zh (i:=i+1) (by grind) l.length (by omega)];refine aW a [(8,ab),(14,af),(17,ab),(29,ab)] rfl ?_ (AK.fE (cp.zero rfl));simp only[az,d,e,c,bA,ba,aG,aE];and_intros<;>first|rfl|omega
 .obtain rfl:i=l.length:=by omega
  rw[b];refine aW a [(8,af)] rfl (by simp) (AK.leaveD rfl rfl ?_);exact cf a rfl ay (AK.bw rfl)
def HS(l:List Int):Ev X 29 [cI.sl l,cI.sl l] [] (dB ab) []:=by
 refine Ev.bQ Tryz.func29 rfl λa=>?_;have b:=a.sl 0 rfl;refine aX [(10,af)] rfl (by simp) ?_;refine AK.cz 0 (λi=>i<=l.length) (λi:Nat=>[(0,cI.sl l),(1,cI.sl l),(5,dI i)]) (λ_=>[]) (λi=>l.length-i) 0 rfl (by simp) rfl (by simp) rfl (by omega) ?_;intro i hi;by_cases h:i<l.length
 .refine bJ [(14,ab),(25,af)] rfl ?_ (AK.aQ (i+1) rfl ?_ ?_ ?_ ?_)
  .simp only[az,bA,jA,j8,nW,ba,aG,aE];and_intros<;>omega
  .simp
  .simp
  .grind
  .omega
 .refine bJ [(14,af)] rfl (by simp;omega) (AK.leaveD rfl rfl ?_);exact dc rfl ay (AK.bw rfl)
abbrev VN:dr:=oQ (aL cI) (aL cI) (λ_ _=>dB ab) λa b=>[b=a]
def Za:ee X 29 VN:=.sv λa b h=>by have:b=a:=h;subst this;exact HS _
def Ld(l:List (Int×Int)):Ev X 28 [cH.sl l,cH.sl l] [] (dB ab) []:=by
 refine Ev.bQ Tryz.func28 rfl λa=>?_;have b:=a.sl 0 rfl;refine aX [(10,af)] rfl (by simp) ?_;refine AK.cz 0 (λi=>i<=l.length) (λi:Nat=>[(0,cH.sl l),(1,cH.sl l),(5,dI i)]) (λ_=>[]) (λi=>l.length-i) 0 rfl (by simp) rfl (by simp) rfl (by omega) ?_;intro i hi;by_cases h:i<l.length
 .refine bJ [(14,ab),(25,af)] rfl ?_ (AK.aQ (i+1) rfl ?_ ?_ ?_ ?_)
  .simp[bA,h];omega
  .simp
  .simp
  .grind
  .omega
 .refine bJ [(14,af)] rfl (by simp;omega) (AK.leaveD rfl rfl ?_);exact dc rfl ay (AK.bw rfl)
abbrev VO:dr:=oQ (aL cH) (aL cH) (λ_ _=>dB ab) λa b=>[b=a]
def Zb:ee X 28 VO:=.sv λa b h=>by have:b=a:=h;subst this;exact Ld _
abbrev pB(p:bG):aP:=.cells 37 [.c (.int .i64 p.1),.c (.sl af 2 p.2.length (dN.fn p.2))]
def HT(p:bG):Ev X 10 [KE p,KE p] [] (dB ab) []:=by
 refine Ev.bQ Tryz.func10 rfl λl=>?_;by_cases q:p.2.length<=9223372036854775807
 .refine aX [(10,af),(18,af)] rfl (by simp) ?_;refine AK.cz 2 (λi=>i<=p.2.length) (λi:Nat=>[(2,.e (.one (.ptr 0 0))),(3,.e (.one (.ptr 1 0))),(5,dI i)]) (λ_=>[pB p,pB p]) (λi=>p.2.length-i) 0 rfl (by simp) rfl (by simp) rfl (by omega) ?_;intro i hi;by_cases h:i<p.2.length
  .refine bJ [(24,ab),(37,af)] rfl ?_ (AK.aQ (i+1) rfl ?_ ?_ ?_ ?_)
   .simp[bA,h];omega
   .simp
   .simp
   .grind
   .omega
  .refine bJ [(24,af)] rfl (by simp;omega) (AK.leaveD rfl rfl ?_);exact dc rfl ay (AK.bw rfl)
 .exfalso;obtain⟨s,vs,d,_⟩:=l;obtain⟨n,k⟩:∃v,dj [] s v (KE p):=by
   match vs,d with
   |[a,_],d=>exact⟨a,d.1⟩
  obtain⟨m,_,g⟩:=k
  match m,g with
  |[a,c],g =>
   have:=g.2.1;cases(show Rd s.M c (.sl af 2 p.2.length (dN.fn p.2))from this)with
   |sl b off f j o=>omega
abbrev SA:dr:=oQ (Ex dN) (Ex dN) (λ_ _=>dB ab) λa b=>[b=a]
def VP:ee X 10 SA:=.sv λa b h=>by have:b=a:=h;subst this;exact HT _
abbrev sB(p:gE):aP:=.cells 41 [.c (.int .i64 p.1),.c (.sl af 2 p.2.length (cL.fn p.2))]
def HU(x:gE)(c:x.2.length<=4000000):Ev X 11 [M7 x,M7 x] [] (dB ab) []:=by
 refine Ev.bQ Tryz.func11 rfl λb=>?_;have a:bE X [(29,VN)]:=.cons Za .nil;refine aW a [(10,af),(18,af)] rfl (by simp) ?_;refine AK.cz 2 (λi=>i<=x.2.length) (λi:Nat=>[(2,.e (.one (.ptr 0 0))),(3,.e (.one (.ptr 1 0))),(5,dI i)]) (λ_=>[sB x,sB x]) (λi=>x.2.length-i) 0 rfl (by simp) rfl (by simp) rfl (by omega) ?_;intro i hi;by_cases h:i<x.2.length
 .refine bl a [(24,ab),(39,af),(53,ab)] rfl ?_ (AK.aQ (i+1) rfl ?_ ?_ ?_ ?_)
  .simp only[az,bA,jA,j8,nW,ba,aG,aE];and_intros<;>first|exact cI.aU _|omega
  .simp
  .simp
  .grind
  .omega
 .refine bl a [(24,af)] rfl (by simp;omega) (AK.leaveD rfl rfl ?_);exact cw a rfl ay (AK.bw rfl)
abbrev SB:dr:=oQ (Ex cL) (Ex cL) (λ_ _=>dB ab) λa b=>[b=a,b.2.length<=4000000]
def VQ:ee X 11 SB:=.sv λa b h=>by obtain⟨rfl,c⟩:b=a/\_:=h;exact HU _ c
abbrev OJ(s:bn):aP:=.cells 27 [.c (.sl af 2 s.1.length (cP.fn s.1)),.c (.sl af 2 s.2.1.length (gf.fn s.2.1)),.c (.sl af 2 s.2.2.length (cH.fn s.2.2))]
def EM(s:bn)(b:lD s):Ev X 9 [rj s,rj s] [] (dB ab) []:=by
 refine Ev.bQ Tryz.func9 rfl λg=>?_;have a:bE X [(28,VO),(10,SA),(11,SB)]:=.cons Zb (.cons VP (.cons VQ .nil));have j:=b.p;have f:=b.sn;refine bl a [(13,af),(21,af),(28,ab)] rfl ?_ ?_
 .simp only[az,bA,jA,j8,nW,ba,aG,aE];and_intros<;>first|exact cH.aU _|omega
 refine AK.cz 2 (λi=>i<=s.1.length) (λi:Nat=>[(2,.e (.one (.ptr 0 0))),(3,.e (.one (.ptr 1 0))),(5,dI i)]) (λ_=>[OJ s,OJ s]) (λi=>s.1.length-i) 0 rfl (by simp) rfl (by simp) rfl (by omega) ?_;intro i hi;by_cases h:i<s.1.length
 .refine bl a [(35,ab),(48,ab)] rfl ?_ (AK.aQ (i+1) rfl ?_ ?_ ?_ ?_)
  .simp only[az,bA,ba,aG,aE];and_intros<;>first|exact dN.aU _|omega
  .simp
  .simp
  .grind
  .omega
 refine bl a [(35,af)] rfl (by simp;omega) (AK.leaveD rfl rfl ?_);refine cw a rfl ay ?_;refine AK.cz 2 (λi=>i<=s.2.1.length) (λi:Nat=>[(2,.e (.one (.ptr 0 0))),(3,.e (.one (.ptr 1 0))),(6,dI i)]) (λ_=>[OJ s,OJ s]) (λi=>s.2.1.length-i) 0 rfl (by simp) rfl (by simp) rfl (by omega) ?_;intro i hi;by_cases h:i<s.2.1.length
 .have d:=(b.s2 _ (e9 h (0,[]))).1;have c:s.2.1.getD (i:Int).toNat gf.bZ=s.2.1.getD i (0,[]):=by grind
  refine bl a [(54,ab),(67,ab)] rfl ?_ (AK.aQ (i+1) rfl ?_ ?_ ?_ ?_)
  .simp only[az,bA,c,cL.list_fn,ba,aG,aE];and_intros<;>first|exact cL.aU _|omega
  .simp
  .simp
  .grind
  .omega
 refine bl a [(54,af)] rfl (by simp;omega) (AK.leaveD rfl rfl ?_);exact cw a rfl ay (AK.bw rfl)
end
structure Wa(x:bG):Prop where
 ex:∃no ps,1<=no/\no<=99/\0<ps.length/\ps.length<=4/\(∀q∈ps,bx q=ab)/\x=g6 no 7 ps
structure Wb(x:gE):Prop where
 ex:∃no t,1<=no/\no<=20/\cx t=ab/\x=ft no 7 t
structure D7(st:bn):Prop where
 p:∀x∈st.1,Wa x
 pl:st.1.length<=20
 s:∀x∈st.2.1,Wb x
 CL:st.2.1.Pairwise λa b=>a.1<b.1
 h:∀x∈st.2.2,(1<=x.1/\x.1<=2)/\1<=x.2/\x.2<=20
 hl:st.2.2.length<=9
 Wc:st.1.Pairwise λa b=>a.1<b.1
def eh{t:List bz}(h:cx t=ab):sC t:=by
 obtain⟨m,_,_,n⟩:=mO.1 h;have i:∀f∈t,b6 f.2=ab/\f.2.length<=40:=λf d=>by have:=(m f d).2;simp only[ef,bR,ba]at this;grind
 refine⟨by omega,λf d=>⟨(i f d).1,by grind⟩,?_⟩;have:∀l:List bz,(∀f∈l,f.2.length<=40)->(gK l).length<=40*l.length:=by
  intro l;induction l with
  |nil=>intro _;simp[gK]
  |cons f r j =>
   intro e;have a:=j λg k=>e g (qM _ k);have b:=e f mT;have c:=kv f.2;simp only[gK,u6,c7,eU]at a⊢;omega
 grind
theorem LD(no k:Int)(ps:List Bs):(g6 no k ps).2.length=ps.length:=sG k ps
def Wa.len{x:bG}(h:Wa x):1<=x.2.length/\x.2.length<=4:=by obtain⟨no,ps,_,_,b,a,_,rfl⟩:=h.ex;grind[LD]
def Wa.no{x:bG}(h:Wa x):1<=x.1/\x.1<=99:=by obtain⟨no,ps,h1,h2,_,_,_,rfl⟩:=h.ex;exact⟨h1,h2⟩
def Wb.no{x:gE}(h:Wb x):1<=x.1/\x.1<=20:=by obtain⟨no,t,h1,h2,_,rfl⟩:=h.ex;exact⟨h1,h2⟩
def Wb.len{x:gE}(h:Wb x):x.2.length<=6/\∀y∈x.2,y.2.length<=4000000:=by obtain⟨no,t,_,_,b,rfl⟩:=h.ex;have d:=mc b;refine⟨by simpa[ft]using d,λy a=>?_⟩;simp only[ft,kB]at a;obtain⟨f,c,rfl⟩:=a;have:=((eh b).sY f c).2;have:=kv f.2;simp only[oH,lg];omega
def GK{l:List gE}:∀(a:Int),l.Pairwise (λa b=>a.1<b.1)->(∀x∈l,a<=x.1/\x.1<=20)->(l.length:Int)<=max 0 (21-a):=by
 induction l with
 |nil=>grind
 |cons x r e =>
  intro a g c;obtain⟨i,d⟩:=ji.1 g;have h:=c x mT;have:=e (x.1+1) d λy f=>⟨by grind,(c y (qM _ f)).2⟩
  grind
def D7.sl{s:bn}(h:D7 s):s.2.1.length<=20:=by have:=GK 1 h.CL λx a=>(h.s x a).no;omega
def D7.size{s:bn}(h:D7 s):lD s:=by have h1:=h.pl;have h2:=h.sl;have c:=h.hl;refine⟨by omega,λp b=>by have:=(h.p p b).len;omega,by omega,λx a=>?_,by omega⟩;have:=(h.s x a).len;grind
def D7.num{s:bn}(h:D7 s):rq s :=
 ⟨λx a=>by have:=(h.p x a).no;omega,λx a=>by have:=(h.s x a).no;omega,λx a=>by have:=(h.h x a).2;omega⟩
def D7.cW{s:bn}(h:D7 s):(cW s.1).length<=100000:=by
 have:∀l:List bG,(∀x∈l,x.2.length<=4)->(R1.cW l).length<=4*l.length:=by
  intro l;induction l with
  |nil=>intro _;simp[R1.cW]
  |cons f r d =>
   intro hl;have a:=d λg c=>hl g (qM _ c);have b:=hl f mT;simp only[R1.cW,u6,c7,lg,eU]at a⊢;omega
 have:=this s.1 λx e=>(h.p x e).len.2;have:=h.pl;omega
def D7.nil:D7 ([],[],[]):=⟨by simp,by simp,by simp,by simp,by simp,by simp,by simp⟩
def tP(k:Int):∀(f:Nat) (no:Int)(ps:List Bs),(∀q∈ps,bx q=ab)->∀x∈fH k f no ps,∃a qs,no<=a/\a<no+(fH k f no ps).length/\0<qs.length/\qs.length<=4/\(∀q∈qs,bx q=ab)/\x=g6 a k qs
 |0,_,_,_,x,b=>by simp[fH]at b
 |f+1,no,ps,d,x,b=>by
  simp only[fH]at b⊢;split at b
  .rename_i h;rw[bm h];rcases eE.1 b with rfl|b
   .grind
   .obtain⟨a,qs,i,g,e⟩:=tP k f (no+1) (ps.drop 4) (λq c=>d q (rE c)) x b;grind
  grind
def tQ{α:Type}{l:List α}(h:l.length≠0)(d:α):l.getD (l.length-1) d∈l:=e9 (by omega) d
def D7.cO{s:bn}(h:D7 s):1<=cO s:=by
 unfold R1.cO;split
 .omega
 .rename_i a;have:=(h.p _ (tQ a (0,[]))).no;omega
def tR(k:Int):∀(f:Nat) (no:Int)(ps:List Bs),∀x∈fH k f no ps,no<=x.1
 |0,_,_,x,a=>by simp[fH]at a
 |f+1,no,ps,x,a=>by
  simp only[fH]at a;split at a
  .rcases eE.1 a with rfl|a
   .exact Int.le_refl _
   .have:=tR k f (no+1) (ps.drop 4) x a;omega
  grind
def xG(k:Int):∀(f:Nat) (no:Int)(ps:List Bs),(fH k f no ps).Pairwise λa b=>a.1<b.1
 |0,_,_=>by simp[fH]
 |f+1,no,ps=>by
  simp only[fH];split
  .refine ji.2 ⟨λx c=>?_,xG k f (no+1) (ps.drop 4)⟩;have:=tR k f (no+1) (ps.drop 4) x c;show no<x.1;omega
  .simp
def D7.LF{s:bn}(h:D7 s):∀x∈s.1,x.1<R1.cO s:=by
 unfold R1.cO;split
 .grind
 .rename_i e;intro x c;obtain⟨i,hi,rfl⟩:=dM c;have a:s.1.getD (s.1.length-1) (0,[])=s.1[s.1.length-1]:=by grind
  rw[a];rcases cD i (s.1.length-1)with b|d
  .have:=j5.1 h.Wc i (s.1.length-1) hi (by omega) b;omega
  grind
def D7.LG{s:bn}(h:D7 s):1<=dv s/\∀x∈s.2.1,x.1<dv s:=by
 have f:=nL s.2.2 h.num.h;unfold dv;split
 .grind
 .rename_i e;refine⟨by omega,λx c=>?_⟩;obtain⟨i,hi,rfl⟩:=dM c;have a:s.2.1.getD (s.2.1.length-1) (0,[])=s.2.1[s.2.1.length-1]:=by grind
  rw[a];rcases cD i (s.2.1.length-1)with b|d
  .have:=j5.1 h.CL i (s.2.1.length-1) hi (by omega) b;omega
  grind
def D7.save{s:bn}{t:List bz}{by_:Int}(h:D7 s)(m:cx t=ab)(e:1<=by_/\by_<=2)(j:gm 7 s t=af):D7 (dL 7 s by_ t):=by
 simp only[gm,u4,bO]at j;obtain⟨r,u,q,n⟩:=j;have o:=h.cO;obtain⟨f,g⟩:=h.LG;refine⟨λx c=>?_,by simp only[dL,c7];omega,λx c=>?_,?_,λx c=>?_,by simp only[dL,c7,jg];omega,?_⟩
 .simp only[dL]at c;rcases fX.1 c with c|c
  .exact h.p x c
  .obtain⟨d,qs,a1,a2,a3,a4,a5,a6⟩:=tP 7 _ _ _ (kt (k:=7) (l:=indexOf s.1) (eh m)).1 x c;have a2:d<R1.cO s+(sx 7 s t).length:=a2;exact⟨d,qs,by omega,by omega,a3,a4,a5,a6⟩
 .simp only[dL]at c;rcases fX.1 c with c|c
  .exact h.s x c
  .rw[fW]at c;exact⟨dv s,t,f,by omega,m,c⟩
 .simp only[dL];rw[uZ];refine⟨h.CL,by simp,λa i b e=>?_⟩;rw[fW]at e;subst e;exact g a i
 .simp only[dL]at c;rcases fX.1 c with c|c
  .exact h.h x c
  grind
 .simp only[dL];rw[uZ];refine⟨h.Wc,xG _ _ _ _,λa i b e=>?_⟩;have h1:=h.LF a i;have h2:=tR _ _ _ _ b e;omega
def y7{l:List Int}:∀{k:Nat},(lq l k).length=k->∀i,1<=i->i<k->l.getD i 0≠l.getD (i-1) 0
 |0,_,i,_,h=>by omega
 |k+1,h,i,a,c=>by
  have d:=sM l k;rw[lq]at h;split at h
  .omega
  .rename_i b;simp only[c7,jg]at h;by_cases e:i=k
   .grind
   .exact y7 (k:=k) (by omega) i a (by omega)
def AU(l:List Int):(oJ l).Pairwise λx y=>x<=y:=by have:=List.pairwise_mergeSort (le:=λx y:Int=>decide (x<=y)) (λa b c e d=>by grind) (λa b=>by grind) l;exact this.imp λh=>by grind
def E3(l:List Int):(oJ l).Perm l:=List.mergeSort_perm _ _
def AR(l:List Int):(ez (oJ l)).length=l.length↔l.Nodup:=by
 rw[<-lL l,<-(E3 l).nodup_iff];have c:=AU l;generalize oJ l=s at *;have a:∀{i:Nat} (h:i<s.length),s.getD i 0=s[i]:=λ{i} h=>by grind
 constructor
 .intro h;have d:=y7 h;refine List.Pairwise.imp (R:=λx y=>x<y) (λh e=>by omega) (j5.2 λi j hi hj Zh=>?_);have b:=j5.1 c;have f:=d j (by omega) hj;rw[a hj,a (by omega)]at f;have g:=b (j-1) j (by omega) hj (by omega);by_cases e:i=j-1
  .grind
  .have:=b i (j-1) hi (by omega) (by omega);omega
 .intro h;unfold ez;rw[nN (bh _),dh];grind[List.pairwise_iff_getElem]
def vB{α:Type}{l:List α}{i:Nat}(h:i<l.length)(d:α):l.getD i d=l[i]:=by grind
def AV{α:Type}{f:α->Int}{d:α}{l:List α}:(∀i,i<l.length->CL f d l i=ab)↔l.Pairwise λx y=>f x<f y:=by
 constructor
 .intro h;have key:∀n i j (hi:i<l.length) (a:j<l.length),j=i+n->0<n->f l[i]<f l[j]:=by
   intro n;induction n with
   |zero=>grind
   |succ n g =>
    intro i j hi a b _;have c:=h j a;rw[qq (by omega),decide_eq_true_iff,vB (by omega),vB a]at c;by_cases e:n=0
    .subst e;grind
    grind
  exact j5.2 λi j hi a b=>key (j-i) i j hi a (by omega) (by omega)
 .intro h i hi;by_cases e:i=0
  .subst e;rfl
  .rw[qq e,decide_eq_true_iff,vB (by omega),vB hi];exact(j5.1 h) (i-1) i (by omega) hi (by omega)
def AX{α:Type}{l:List α}{p:α->Bool}{d:α}:(∀i,i<l.length->p (l.getD i d)=ab)↔∀x∈l,p x=ab:=by grind[List.mem_iff_getElem]
structure GL(k:Int)(p:bG):Prop where
 no:1<=p.1/\p.1<=99
 key:cd k=ab
 len:1<=p.2.length/\p.2.length<=4
 rt:∀x∈p.2,right k x=ab
 CL:p.2.Pairwise λx y=>x.1<y.1
def ru{k:Int}{p:bG}:gg k p=ab↔GL k p:=by
 rw[pD];simp only[bR,ba,dy];have e:(∀i,i<p.2.length->iJ k p i=ab)↔(∀x∈p.2,right k x=ab)/\p.2.Pairwise λx y=>x.1<y.1:=by
  rw[<-AX (d:=(0,[])),<-AV (f:=λx:bo=>x.1) (d:=(0,[]))];constructor
  .intro h;exact⟨λi hi=>by have:=h i hi;simp only[iJ,bR]at this;exact this.1,λi hi=>by have:=h i hi;simp only[iJ,bR]at this;exact this.2⟩
  .intro h i hi;simp only[iJ,bR];exact⟨h.1 i hi,h.2 i hi⟩
 rw[e];constructor
 .rintro⟨⟨⟨g,c⟩,j⟩,b,a⟩;exact⟨g,c,j,b,a⟩
 .rintro⟨g,c,j,b,a⟩;grind
structure pE(k:Int)(s:bn):Prop where
 pk:∀p∈s.1,GL k p
 pa:s.1.Pairwise λp q=>p.1<q.1
 nd:(bX s.1).Nodup
 sn:∀x∈s.2.1,(1<=x.1/\x.1<=20)/\(c6 k x s.1).isSome=ab
 sa:s.2.1.Pairwise λx y=>x.1<y.1
 key:cd k=ab
 log:k6 s.2.2=ab
 len:s.1.length<=20
def ju{k:Int}{s:bn}:fx k s=ab↔pE k s:=by
 unfold fx;simp only[bR,ba,dy];have r:(∀i,i<s.1.length->ma k s.1 i=ab)↔(∀p∈s.1,GL k p)/\s.1.Pairwise λp q=>p.1<q.1:=by
  rw[<-AV (f:=λp:bG=>p.1) (d:=(0,[]))];have:(∀p∈s.1,GL k p)↔∀p∈s.1,gg k p=ab:=⟨λh p b=>ru.2 (h p b),λh p b=>ru.1 (h p b)⟩
  rw[this,<-AX (d:=(0,[]))];constructor
  .intro h;exact⟨λi hi=>by have:=h i hi;simp only[ma,bR]at this;exact this.1,λi hi=>by have:=h i hi;simp only[ma,bR]at this;exact this.2⟩
  .intro h i hi;simp only[ma,bR];grind
 have o:(∀i,i<s.2.1.length->jW k s i=ab)↔(∀x∈s.2.1,(1<=x.1/\x.1<=20)/\(c6 k x s.1).isSome=ab)/\s.2.1.Pairwise λx y=>x.1<y.1:=by
  rw[<-AV (f:=λp:gE=>p.1) (d:=(0,[]))];have:(∀x∈s.2.1,(1<=x.1/\x.1<=20)/\(c6 k x s.1).isSome=ab)↔∀x∈s.2.1,(decide (1<=x.1/\x.1<=20)&&(c6 k x s.1).isSome)=ab:=by grind
  rw[this,<-AX (d:=(0,[]))];constructor
  .intro h;exact⟨λi hi=>by have:=h i hi;simp only[jW,bR]at this⊢;grind,λi hi=>by have:=h i hi;simp only[jW,bR]at this;exact this.1.2⟩
  .intro h i hi;have a:=h.1 i hi;simp only[jW,bR]at a⊢;grind
 rw[r,o];constructor
 .rintro⟨⟨⟨⟨⟨⟨a,m⟩,l⟩,g,c⟩,e⟩,n⟩,j⟩;exact⟨a,m,l,g,c,e,n,j⟩
 .rintro⟨a,m,l,g,c,e,n,j⟩;grind
theorem Lm{l:List bo}{x y:bo}(h:y∈gG l x):y=x∨y∈l:=by
 induction l with
 |nil=>simp[gG]at h;grind
 |cons z r a =>
  simp only[gG]at h;grind
def ON{k:Int}{ps:List Bs}{y:bo}(h:y∈qA k ps):∃p∈ps,y=(en k p,eO p):=by
 have key:∀(ps:List Bs) (acc:List bo),y∈ps.foldl (λl p=>gG l (en k p,eO p)) acc->y∈acc∨∃p∈ps,y=(en k p,eO p):=by
  intro ps;induction ps with
  |nil=>grind
  |cons p r a =>
   grind[Lm]
 rcases key ps [] h with h|h
 .cases h
 grind
section
variable {X:Cx ag}[X.gY]
abbrev Qw:List bz:=[([97],[104,101,108,108,111])]
def Lc:cx Qw=ab:=by decide +kernel
abbrev VM(k:Nat):={q:List bz×Nat // cx q.1=ab/\k<=q.2/\q.2<=k+400}
def OI(m:Nat)(b:Nat->Int)(g:Bytes b)(k:Nat)(hk:k<=50000)(h:m<=1048576):
  eb (ι:=VM k) X 86 [.e (.one (.ptr 0 0))] [kZ m b k] (λq=>cF.sl q.1.1) (λq=>[kZ m b q.1.2]):=by
 refine eb.qI Tryz.func86 rfl rfl rfl λd=>?_;refine bt rfl ay ?_;refine AK.cP (Gv m b g k hk h) [0] rfl (λ_=>rfl) ?_;rintro⟨t,bf,xs,k1,f,l,c,a⟩;refine aX [(1000002,ab)] rfl ay ?_;refine AK.vL 3 1 (cF.fn t) rfl rfl f.rd ?_;refine bt rfl ay ?_;refine AK.cQ (yS t) [] rfl ?_;cases j:cx t with
 |true =>
  refine bt rfl ay (AK.nI ⟨(t,k1),j,c,a⟩ (AK.db [0] rfl ?_ rfl rfl rfl ig));simp
 |false =>
  refine bt rfl ay (AK.nI ⟨(Qw,k1),Lc,c,a⟩ (AK.db [0] rfl ?_ rfl rfl rfl ig));refine⟨rfl,λi hi=>?_⟩;have:i=0:=by grind
  subst this;rfl
end
section
variable {X:Cx ag}
theorem uD{l:List cn}(h:ry l l.length=ab):(∀x∈l,eF x=ab)/\l.Pairwise λx y=>x.1<y.1:=by
 have a:=dy.1 h;have b:∀j,j<l.length->∀i,i<j->(l.getD i (0,0)).1<(l.getD j (0,0)).1:=by
  intro j;induction j with
  |zero=>grind
  |succ j c =>
   grind
 grind[List.getElem_of_mem,List.pairwise_iff_getElem]
def A6(l:List cn):∀a:List cn,(a++l).Pairwise (λx y=>x.1<y.1)->l.foldl gp a=a++l:=by
 induction l with
 |nil=>grind
 |cons x r b =>
  grind[LH]
def Iz{l:List cn}(h:ry l l.length=ab)(n:Int):(oB l).find n=mI l n:=by obtain⟨c,a⟩:=zd l .nil (by simp[Tr.Ok,Tr.list]);have b:=A6 l [] (by grind[uD]);rw[oB,tS a,c];exact dA (mI · n) b
def xO{t:List bz}(h:cx t=ab):∀f∈t,ef f.2=ab:=λf a=>((mO.1 h).1 f a).2
abbrev dV2(a:List Bs):D:=.e (.one (.vec 2 1 a.length (cS.fn a)))
def Dc(o q:aj×ah)(k:Int)(t:List bz)(l:List cn)(hk:cd k=ab)(E:cx t=ab)(w:ry l l.length=ab)(H:l.length<=4000000):
  Ev X 12 [dI k,cF.sl t,cH.sl l] (GB o q) (cS.sl (dz k t l)) (GB o q):=by
 refine Ev.bQ Tryz.func12 rfl λQ=>?_;have P:bE X [(30,kq aI (λk=>dB (cd k)) λ_=>[]),(24,Wp),(31,kq (aL cH) (λl=>dB (ry l l.length)) λ_=>[])]:=.cons t30 (.cons t24 (.cons (.px λl _=>Dd l) .nil));refine bl P [(15,af),(20,af),(25,af)] rfl ?_ ?_
 .simp only[az,hk,cF.list_fn,cH.list_fn,g9,E,w];exact⟨rfl,cH.aU _,rfl,cF.aU _,rfl⟩
 have y:=uD w;have I:∀x∈l,bA .i64 x.1/\bA .i64 x.2:=λx r=>by have:=y.1 x r;simp only[eF,bR,ba]at this;simp only[bA];omega
 have hT:=Iz w;have z:=ze (X:=X) l H I;have v:∀n,Ev X 34 [.e (.one (.c (tC (oB l)))),dI n] [] (dI (mI l n)) []:=λn=>hT n▸Pl (oB l) n
 clear hT;generalize oB l=T at *;have c1:bE X [(32,xd [QK l] (.e (.one (.c (tC T)))))]:=.cons (As z) .nil;cases T<;>(
  refine cw c1 rfl rfl ?_;refine AK.iB 8 9 1 rfl rfl ?_;refine AK.si 3 [0,7,29,30] (λi=>i<=t.length) (λi:Nat=>[(8,dV2 ((gK (t.take i)).foldl (iE k l) [])),(31,dI i)]) (λi=>GB o q++[.vec 9 1 ((gK (t.take i)).foldl (iE k l) []).length (cS.fn ((gK (t.take i)).foldl (iE k l) []))]) (λi=>t.length-i) 0 rfl ?_ rfl ?_ rfl (by omega) ?_
  .simp[gK]
  .simp[gK]
  intro i hi;by_cases h:i<t.length
  .have A:t.getD (i:Int).toNat cF.bZ=t.getD i ([],[]):=by grind
   have b:t.getD i ([],[])∈t:=by grind
   have O:=xO E _ b;have g:=yY h;have J:=Gx t (i+1);have u:=eh E;have M:=(u.sY _ b).1;have K:=u.all;have N:=u.len;have G:=nH M;generalize t.getD i ([],[])=f at *;rw[g,c7]at J;have F:gU f.2=pieces f.2:=by unfold gU;grind
   have c2:bE X [(33,kq aS (λs=>cS.sl (gU s)) λ_=>[])]:=.cons Au .nil;refine bl c2 [(32,ab)] rfl ?_ ?_
   .simp only[az,A,M,ba,aG,aE];and_intros<;>omega
   rw[A,F];refine AK.si 4 [0,7,29,30,31,37,38] (λj=>j<=(pieces f.2).length) (λj:Nat=>[(8,dV2 ((gK (t.take i)++(pieces f.2).take j).foldl (iE k l) [])),(39,dI j)]) (λj=>GB o q++[.vec 9 1 ((gK (t.take i)++(pieces f.2).take j).foldl (iE k l) []).length (cS.fn ((gK (t.take i)++(pieces f.2).take j).foldl (iE k l) [])),.cells 76 [.c (.str f.1),.c (.str f.2)]]) (λj=>(pieces f.2).length-j) 0 rfl ?_ rfl ?_ rfl (by omega) ?_
   .simp
   .simp[A]
   intro j S;have D:=tK k l (gK (t.take i)++(pieces f.2).take j) [];simp only[gx,c7,List.length_take]at D;by_cases R:j<(pieces f.2).length
   .have C:(pieces f.2).getD (j:Int).toNat cS.bZ=(pieces f.2).getD j []:=by grind
    have B:bx ((pieces f.2).getD j [])=ab:=G _ (by grind);have a:(gK (t.take i)++(pieces f.2).take (j+1)).foldl (iE k l) []=iE k l ((gK (t.take i)++(pieces f.2).take j).foldl (iE k l) []) ((pieces f.2).getD j []):=by grind[bS]
    generalize(gK (t.take i)++(pieces f.2).take j).foldl (iE k l) []=out at *;generalize(pieces f.2).getD j []=p at *;have r:=cS.cu out p;refine bJ [(40,ab)] rfl ?_ ?_
    .simp only[az,ba,aG,aE];and_intros<;>omega
    rw[C];refine AK.cQ (tY o q k p hk B) [0,1] rfl ?_;refine AK.cQ (v _) [] rfl ?_;have c3:bE X [(36,GS)]:=.cons Pm .nil;by_cases d:mI l (en k p)=0
    .cases L:out.contains p with
     |true =>
      rw[iE,aZ (by grind)]at a;refine bl c3 [(49,ab),(54,af)] rfl ?_ (AK.aQ (j+1) rfl ?_ ?_ ?_ ?_)
      .simp only[az,d,L,bA,cS.list_fn,jA,ba,aG,aE];and_intros<;>first|exact cS.aU _|rfl|omega
      .rw[a];simp
      .rw[a];simp
      .grind
      .omega
     |false =>
      rw[iE,bm (by grind)]at a;refine bl c3 [(49,ab),(54,ab)] rfl ?_ (AK.aQ (j+1) rfl ?_ ?_ ?_ ?_)
      .simp only[az,d,L,bA,show i9.bytes=16 from rfl,cS.list_fn,jA,ba,aG,aE];and_intros<;>first|exact cS.aU _|rfl|omega
      .rw[a];simp only[az.cat,az,c7,eU,gx,aG,aE];and_intros<;>first|exactλ_ _=>rfl|exact r|rfl|omega
      .rw[a];simp only[az.cat,az,c7,eU,gx,aG,aE];and_intros<;>first|exactλ_ _=>rfl|exact r|rfl|omega
      .grind
      .omega
    .rw[iE,aZ (by grind)]at a;refine bl c3 [(49,af)] rfl ?_ (AK.aQ (j+1) rfl ?_ ?_ ?_ ?_)
     .simp only[az,bA,eD,dq,d,nV,aG,aE];and_intros<;>omega
     .rw[a];simp
     .rw[a];simp
     .grind
     .omega
   .have m:j=(pieces f.2).length:=by omega
    refine bJ [(40,af)] rfl (by simp only[az,bO];omega) (AK.leaveD rfl rfl ?_);refine dc rfl ?_ (AK.aQ (i+1) rfl ?_ ?_ ?_ ?_)
    .simp only[az,bA];omega
    .rw[g,m,dh];simp
    .rw[g,m,dh];simp
    .grind
    .omega
  .obtain rfl:i=t.length:=by omega
   rw[dh];refine bJ [(32,af)] rfl (by simp) (AK.leaveD rfl rfl ?_)
   refine dc rfl ay (AK.db [0,1] rfl ?_ rfl rfl rfl A7);simp[dz,gK])
abbrev ZI(q:bG×Bool):D:=.eX [.agg [.c (.int .i64 q.1.1),.c (.sl af 2 q.1.2.length (dN.fn q.1.2))],.one (.c (.bool q.2))]
def k8(k:Int)(p:Bs):bo:=(en k p,eO p)
def zf(no k:Int)(ps:List Bs):bG:=(no,mJ (ps.map (k8 k)))
def nS(no k:Int)(ps:List Bs):bG×Bool:=if gg k (zf no k ps)=ab then(zf no k ps,ab)else((0,[]),af)
theorem qu:∀(l a:List bo),(l.foldl gO a).length=a.length+l.length
 |[],a=>by simp
 |x::l,a=>by rw[lh,qu l,yQ,eU];omega
def Mr:∀(f:Nat){l:List bo}{j:Nat},jZ l->j<l.length->jZ (xX f l j)
 |0,_,_,h,_=>h
 |f+1,l,j,h,a=>by
  rw[xX];split
  .exact h
  .split
   .exact Mr f (tZ h (by omega) a) (by grind[fS])
   grind
theorem Ms{l:List bo}{x:bo}(b:jZ l)(c:bA .i64 x.1/\x.2.length<=9223372036854775807):jZ (gO l x):=by
 refine Mr _ (λy a=>?_) (by simp);rcases fX.1 a with h|h
 .exact b y h
 grind
def Po{l:List bo}(a:jZ l)(b:0<l.length):jZ (kr l) :=
 xT _ _ (tZ a b (by omega)) (by grind[fS]) (by grind[fS])
theorem GW{k:Int}{p:Bs}(a:bx p=ab):bA .i64 (k8 k p).1/\(k8 k p).2.length<=9223372036854775807:=by
 have h:=a;simp only[bx,bR,ba]at h;have c:=pR (codeOf p*(2*k+1)+k*7919) (show(999999999989:Int)≠0 by decide);have b:=pO (codeOf p*(2*k+1)+k*7919) (show(0:Int)<999999999989 by decide);refine⟨?_,?_⟩
 .show bA .i64 (en k p);simp only[bA,en];omega
 .show (eO p).length<=_;unfold eO cG;grind
def GX(k:Int)(ps:List Bs)(b:∀p∈ps,bx p=ab):jZ ((ps.map (k8 k)).foldl gO []):=by
 have:∀(l:List Bs) (a:List bo),(∀p∈l,bx p=ab)->jZ a->jZ ((l.map (k8 k)).foldl gO a):=by
  intro l;induction l with
  |nil=>grind
  |cons p r c=>grind[Ms,GW]
 exact this ps [] b (by simp[jZ])
abbrev Wy(a b:aj×ah)(g:Nat)(bf:m8)(l:List bo):List aP:=GB a b++[.cells 37 [.c (.int .i64 0),.c (.sl ab 0 0 λ_=>[])],cB g bf l.length,hB bf l.length l]
abbrev Mt(no:Int)(out:List bo):List aP:=[.cells 37 [.c (.int .i64 no),.vec 6 2 out.length (dN.fn out)],.vec 66 2 out.length (dN.fn out)]
def uF(o s:aj×ah)(no k:Int)(ps:List Bs)(M:bA .i64 no)(hk:cd k=ab)(j:∀p∈ps,bx p=ab)(T:ps.length<=4):
  Ev X 69 [dI no,dI k,cS.sl ps] (GB o s) (ZI (nS no k ps)) (GB o s):=by
 refine Ev.qG tok Tryz.func69 rfl rfl rfl λU=>?_;refine bJ [(1000002,ab)] rfl ay ?_;refine AK.Kh 8 3 66 2 rfl rfl λg J=>?_;refine dc rfl ay ?_;refine AK.si 5 [0,1,6,8,14,15] (λq:Nat×m8=>q.1<=ps.length) (λq=>[(16,dI q.1)]) (λq=>Wy o s g q.2 (((ps.take q.1).map (k8 k)).foldl gO [])) (λq=>ps.length-q.1) (0,.nil J) rfl ?_ rfl ?_ rfl (by omega) ?_
 .simp
 .simp[sZ]
 rintro⟨i,bf⟩ hi;simp only at hi;by_cases h:i<ps.length
 .have P:ps.getD (i:Int).toNat cS.bZ=ps.getD i []:=by grind
  have u:bx (ps.getD i [])=ab:=j _ (by grind);have z:((ps.take (i+1)).map (k8 k)).foldl gO []=gO (((ps.take i).map (k8 k)).foldl gO []) (k8 k (ps.getD i [])):=by grind[bS]
  have Q:(((ps.take i).map (k8 k)).foldl gO []).length=i:=by grind[qu]
  have f:=GX k (ps.take i) λp B=>j p (fV B);generalize ps.getD i []=p at *;generalize((ps.take i).map (k8 k)).foldl gO []=l at *;refine bl (.cons Og .nil:bE X [(119,nB)]) [(17,ab)] rfl ?_ ?_
  .simp only[az,ba,aG,aE];and_intros<;>omega
  rw[P];refine AK.cQ (tY o s k p hk u) [0,1] rfl ?_;refine cw (.cons Og .nil:bE X [(119,nB)]) rfl ay ?_;refine AK.cP (De g bf f (by omega) (x:=k8 k p) (GW u)) [3,4] rfl (λ_=>rfl) λE=>?_;have m:=yQ l (k8 k p);refine dc rfl ?_ (AK.aQ (i+1,E) rfl ?_ ?_ ?_ ?_)
  .simp only[az,bA];omega
  .simp
  .simp only[z,m,az.cat,az,aG,aE];grind[cv.same]
  .grind
  grind
 obtain rfl:i=ps.length:=by omega
 rw[dh];refine bJ [(17,af)] rfl (by simp) (AK.leaveD rfl rfl ?_);have I:((ps.map (k8 k)).foldl gO []).length<=4:=by grind[qu]
 have f:=GX k ps j;have y:mJ (ps.map (k8 k))=[]++lE ((ps.map (k8 k)).foldl gO []).length ((ps.map (k8 k)).foldl gO []):=by rw[mJ,qu,mm,gx,bC]
 refine dc rfl ay ?_;refine AK.g7 5 1 66 2 (dN.fn []) rfl rfl ?_;refine AK.si 7 [1,6,8,11] (λq:List bo×m8×List bo=>jZ q.1/\q.1.length+q.2.2.length<=4/\mJ (ps.map (k8 k))=q.2.2++lE q.1.length q.1) (λq=>[]) (λq=>Wy o s g q.2.1 q.1++Mt no q.2.2) (λq=>q.1.length) ((ps.map (k8 k)).foldl gO [],bf,[]) rfl ?_ rfl ?_ rfl ⟨f,by grind,y⟩ ?_
 .simp
 .simp
 rintro⟨h,bf,out⟩ ⟨F,K,w⟩;simp only at F K w;refine dc rfl ay ?_;refine AK.law (bF.B6 rfl rfl) rfl rfl ?_;refine AK.one (OA.yD tok 3 rfl rfl rfl rfl rfl (nh bf _) rfl) rfl ?_;refine AK.cQ (A9 bf h.length h) [4] rfl ?_;by_cases O:h.length=0
 .rw[O,lE,iO]at w;subst w;refine bJ [(37,af)] rfl (by simp only[az,bO,aE];omega) (AK.leaveD rfl rfl ?_);have G:bE X [(104,Aw)]:=.cons Gk .nil;have S:(mJ (ps.map (k8 k))).length<=4:=by omega
  cases t:gg k (zf no k ps)with
  |false =>
   have a:gg k (no,mJ (ps.map (k8 k)))=af:=t;have e:nS no k ps=((0,[]),af):=by unfold nS;grind
   rw[e];refine bl G [(50,ab)] rfl ?_ ?_
   .simp only[az,dN.list_fn,a,hk];and_intros<;>first|exact dN.aU _|rfl|exact True.intro|grind
   refine AK.lC () [0,1] rfl rfl rfl rfl rfl rfl rfl rfl rfl ?_ rfl rfl rfl rfl A7;simp
  |true =>
   have a:gg k (no,mJ (ps.map (k8 k)))=ab:=t;have e:nS no k ps=(zf no k ps,ab):=by unfold nS;grind
   rw[e];refine bl G [(50,af)] rfl ?_ ?_
   .simp only[az,dN.list_fn,a,hk];and_intros<;>first|exact dN.aU _|rfl|exact True.intro|grind
   refine AK.lC () [0,1] rfl rfl rfl rfl rfl rfl rfl rfl rfl ?_ rfl rfl rfl rfl A7;simp[zf]
 obtain⟨n,v⟩:∃n,h.length=n+1:=⟨h.length-1,by omega⟩
 refine bJ [(37,ab),(1000009,ab)] rfl (by simp only[az,ba,aE];omega) ?_;refine AK.fact (Mp (i:=4) (n:=h.length) (bf:=bf) (l:=h) rfl (by omega)) λH=>?_;obtain⟨b,cap,rfl,d⟩:=H;rw[v]at d;have B:=Fb (X:=X) g b cap F v (by omega) d;have R:=Po F (by omega);have m:((kr h).take n).length=n:=by grind[Cv]
 have N:mJ (ps.map (k8 k))=(out++[(kr h).getD n (0,[])])++lE n ((kr h).take n):=by rw[w,v,lE,aZ (by omega),v];simp
 have L:jZ ((kr h).take n):=λx A=>R x (fV A);show AK X _ _ _ _ _ (GB o s++[.cells 37 [.c (.int .i64 0),.c (.sl ab 0 0 λ_=>[])],cB g (.row b cap) h.length,hB (.row b cap) h.length h]++Mt no out);rw[v];generalize(kr h).getD n (0,[])=x at *;generalize(kr h).take n=r at *;refine AK.J8 (ι:=Unit) iZ 4 7 10 (λk=>bu k 3) (λk=>([.e (.one (.ptr 5 1)),.e (.one (.vec 6 2 out.length (dN.fn out))),uV (.pointer (aa ⟨g,0,ae⟩)),TZ g]:List D).getD k .any) (λ_ k=>([.any,.any,.any,.any,TY x,Xs x,.e (.one (.c (.sl ab 2 1 λi=>([[.int .i64 x.1,.str x.2]]:List (List C)).getD i [])))]:List D).getD k .any)
  (λ_=>GB o s++[.cells 37 [.c (.int .i64 0),.c (.sl ab 0 0 λ_=>[])],cB g (.row b cap) n,hB (.row b cap) n r]++Mt no out)
  rfl rfl rfl rfl rfl rfl rfl (λk h=>by have:=cV h;omega) rfl
  ⟨OA.cT tok bE.nil rfl,OA.cT tok bE.nil rfl,OA.cT tok bE.nil rfl,OA.cT tok bE.nil rfl,ay,ay,ay,ay,ay,ay,ay⟩
  (λ_=>⟨OA.cT tok bE.nil rfl,OA.cT tok bE.nil rfl,OA.cT tok bE.nil rfl,OA.cT tok bE.nil rfl,ay,OA.kQ (fD rfl) (bF.Ai (cs:=[.int .i64 x.1,.str x.2]) tok rfl rfl rfl rfl),OA.cT tok bE.nil rfl,ay⟩)
  (mD.p9 B.tc [3,4] rfl rfl rfl rfl rfl rfl rfl (λ_=>rfl) rfl (λ_=>rfl)) λ_=>?_
 have A:=dN.cu out x;refine dc rfl ?_ (AK.aQ (r,.row b cap,out++[x]) rfl ?_ ?_ ?_ ?_)
 .simp only[az,show i66.bytes=24 from rfl,aG];omega
 .simp
 .simp only[m,az.cat,az,c7,eU,gx,aG,aE];and_intros<;>first|exact cv.same|exact A|rfl
 .grind
 grind
abbrev ZG(s:gE):D:=.eX [.agg [.c (.int .i64 s.1),.c (.sl af 2 s.2.length (cL.fn s.2))],.one (.c (.bool ab))]
abbrev Wu(a b:aj×ah)(no:Int)(ls:List jT):List aP:=GB a b++[.cells 41 [.c (.int .i64 0),.c (.sl ab 0 0 λ_=>[])],.cells 41 [.c (.int .i64 no),.vec 4 2 ls.length (cL.fn ls)],.vec 69 2 ls.length (cL.fn ls)]
abbrev Wv(f:bz)(ns:List Int):List aP:=[.cells 76 [.c (.str f.1),.c (.str f.2)],.cells 69 [.c (.str f.1),.vec 7 1 ns.length (cI.fn ns)],.vec 3 1 ns.length (cI.fn ns)]
def Fa(g l:aj×ah)(no k:Int)(t:List bz)(E:1<=no/\no<=99)(hk:cd k=ab)(r:cx t=ab):
  Ev X 70 [dI no,dI k,cF.sl t] (GB g l) (ZG (ft no k t)) (GB g l):=by
 refine Ev.qG tok Tryz.func70 rfl rfl rfl λJ=>?_;have D:bE X [(30,kq aI (λk=>dB (cd k)) λ_=>[]),(24,Wp)]:=.cons t30 (.cons t24 .nil);refine bl D [(15,af),(19,af),(24,af),(29,af)] rfl ?_ ?_
 .simp only[az,hk,cF.list_fn,g9,r,bO];and_intros<;>first|exact cF.aU _|rfl|omega
 refine AK.g7 3 1 69 2 (cL.fn []) rfl rfl ?_;refine AK.si 5 [1,6,8,33,34] (λi=>i<=t.length) (λi:Nat=>[(35,dI i)]) (λi=>Wu g l no (m0 k (t.take i))) (λi=>t.length-i) 0 rfl ?_ rfl ?_ rfl (by omega) ?_
 .simp
 .simp
 intro i hi;by_cases h:i<t.length
 .have F:t.getD (i:Int).toNat cF.bZ=t.getD i ([],[]):=by grind
  have a:t.getD i ([],[])∈t:=by grind
  have w:=eh r;have I:=w.sY _ a;have A:=xO r _ a;have y:=w.len;have v:=nH I.1;have B:=kv (t.getD i ([],[])).2;have b:m0 k (t.take (i+1))=m0 k (t.take i)++[oH k (t.getD i ([],[]))]:=by grind[bS]
  have H:(m0 k (t.take i)).length=i:=by grind
  generalize t.getD i ([],[])=f at *;generalize m0 k (t.take i)=ls at *;have u:gU f.2=pieces f.2:=by unfold gU;grind
  have c2:bE X [(33,kq aS (λs=>cS.sl (gU s)) λ_=>[])]:=.cons Au .nil;refine bl c2 [(36,ab)] rfl ?_ ?_
  .simp only[az,ba,aG,aE];and_intros<;>omega
  rw[F,u];refine AK.g7 6 1 3 1 (cI.fn []) rfl rfl ?_;refine AK.si 8 [1,6,8,10,11,33,34,35,44,45] (λj=>j<=(pieces f.2).length) (λj:Nat=>[(46,dI j)]) (λj=>Wu g l no ls++Wv f (lF k ((pieces f.2).take j))) (λj=>(pieces f.2).length-j) 0 rfl ?_ rfl ?_ rfl (by omega) ?_
  .simp
  .simp
  intro j L;by_cases K:j<(pieces f.2).length
  .have q:(pieces f.2).getD (j:Int).toNat cS.bZ=(pieces f.2).getD j []:=by grind
   have o:bx ((pieces f.2).getD j [])=ab:=v _ (by grind);have d:lF k ((pieces f.2).take (j+1))=lF k ((pieces f.2).take j)++[en k ((pieces f.2).getD j [])]:=by grind[bS]
   have z:(lF k ((pieces f.2).take j)).length=j:=by grind
   generalize(pieces f.2).getD j []=p at *;generalize lF k ((pieces f.2).take j)=ns at *;have m:=cI.cu ns (en k p);refine bJ [(47,ab),(1000011,ab)] rfl ?_ ?_
   .simp only[az,ba,aG,aE];and_intros<;>omega
   rw[q];refine AK.calm iZ [.e (.one (.ptr 6 1)),.e (.one (.vec 7 1 ns.length (cI.fn ns))),dI k,dS p,dI (en k p),.e (.one (.c (.sl ab 1 1 λi=>([[.int .i64 (en k p)]]:List (List C)).getD i [])))] 6 rfl rfl rfl rfl rfl ⟨OA.cT tok bE.nil rfl,OA.cT tok bE.nil rfl,OA.cT tok bE.nil rfl,OA.cT tok bE.nil rfl,
    OA.TX (mD.p9 (tY g l k p hk o).tc [0,1] rfl rfl rfl rfl rfl rfl rfl (λ_=>rfl) rfl (λ_=>rfl)),OA.cT tok bE.nil rfl,ay⟩ ?_
   refine dc rfl ?_ (AK.aQ (j+1) rfl ?_ ?_ ?_ ?_)
   .simp only[az,bA,show i3.bytes=8 from rfl,aG,aE];and_intros<;>omega
   .simp
   .simp only[d,az.cat,az,c7,eU,gx,aG,aE];and_intros<;>first|exact cv.same|exactλ_ _=>rfl|exact m|rfl|omega
   .grind
   .omega
  .have n:j=(pieces f.2).length:=by omega
   rw[n,dh];have m:=cL.cu ls (oH k f);have x:ls.length+1=(ls++[oH k f]).length:=by simp
   have G:cL.enc (oH k f)=[C.str f.1,C.sl af 1 (lF k (pieces f.2)).length (cI.fn (lF k (pieces f.2)))]:=rfl;rw[G,<-b]at m;rw[<-b]at x;refine bJ [(47,af)] rfl (by simp only[az,bO];omega) (AK.leaveD rfl rfl ?_);refine dc rfl ?_ (AK.aQ (i+1) rfl ?_ ?_ ?_ ?_)
   .simp only[az,bA,show i69.bytes=40 from rfl,aG,aE];and_intros<;>omega
   .simp
   .simp only[az.cat,az,aG,aE];and_intros<;>first|exact cv.same|exact m|exact x|rfl
   .grind
   .omega
 .obtain rfl:i=t.length:=by omega
  rw[dh];refine bJ [(36,af)] rfl (by simp) (AK.leaveD rfl rfl ?_);refine dc rfl ay ?_;refine AK.lC () [0,1] rfl rfl rfl rfl rfl rfl rfl rfl rfl ?_ rfl rfl rfl rfl A7;simp[ft]
end
end Go.AM.R1
namespace Go.AM
namespace R1
variable {X:Cx ag}[X.gY]
abbrev jq:aP:=.cells 27 [gJ,gJ,gJ]
abbrev f92(t:List bz)(n:Nat):Fr:=[(0,.e (.one (.ptr 0 0))),(2,.e (.one (.ptr 1 0))),(3,.e (.one (.ptr 2 0))),(4,cF.sl t),(5,dI n)]
end R1
end Go.AM
namespace Go.AM.R1
section
variable {X:Cx ag}[X.gY]
abbrev yl:aP:=.b8 (fQ 37 2 (.nil ae) 0 [])
abbrev ML(v:ah)(s:bn):aP:=.cells 27 [.c (.val v),.c (EK s.2.1),.c (Ct s.2.2)]
abbrev TB(v:ah)(s:bn):D:=.e (.agg [.c (.val v),.c (EK s.2.1),.c (Ct s.2.2)])
abbrev MM:aP:=.cells 27 [.any,.any,.any]
abbrev Bg(v:ah)(s:bn):aP:=.b8 (PM (TA v s.1))
def d9P(m:Nat)(b:Nat->Int)(k:Int)(s s':bn)(e:Option ah)(a c d:Bool):List aP :=
 match e with
 |none=>match a,c with
  |false,af=>[kZ m b k,jq,tN s,yl]
  |true,af=>[kZ m b (k+1),jq,tN s,yl]
  |false,ab=>[kZ m b k,jq,tN s,yl,jq]
  |true,ab=>[kZ m b (k+1),jq,tN s,yl,jq]
 |some v=>match a,c,d with
  |true,af,_=>[kZ m b (k+1),jq,tN s,Bg v s']
  |true,ab,af=>[kZ m b (k+1),jq,tN s,Bg v s',jq]
  |true,ab,ab=>[kZ m b (k+1),jq,tN s,Bg v s',ML v s']
  |false,af,_=>[kZ m b k,jq,tN s,Bg v s']
  |false,ab,_=>[kZ m b k,jq,tN s,Bg v s',jq]
def x9P(u:Int)(s s':bn)(t:List bz)(a:Option ah)(i:Nat):D :=
 [rj s,.e (.one (.ptr 0 0)),dI u,dI (1+u),cF.sl t,
  (match a with|none=>.any|some v=>.eX [.agg [.c (.val v),.c (EK s'.2.1),.c (Ct s'.2.2)],.one (.c (.bool ab))]),
  (match a with|none=>.any|some v=>.eX [.agg [.c (.val v),.c (EK s'.2.1),.c (Ct s'.2.2)],.one (.c (.bool ab))]),
  (match a with|none=>.any|some v=>TB v s'),dB ab,.e (.one (.ptr 4 0)),.any,dB ab].getD i .any
def d9F(m:Nat)(b:Nat->Int)(k:Int)(v:ah)(s:bn)(a c d:Bool):List aP :=
 match a,c,d with
 |false,af,_=>[kZ m b k,jq,ML v s,Bg v s]
 |true,af,_=>[kZ m b (k+1),jq,ML v s,Bg v s]
 |false,ab,af=>[kZ m b k,jq,ML v s,Bg v s,jq]
 |true,ab,af=>[kZ m b (k+1),jq,ML v s,Bg v s,jq]
 |false,ab,ab=>[kZ m b k,jq,ML v s,Bg v s,MM]
 |true,ab,ab=>[kZ m b (k+1),jq,ML v s,Bg v s,MM]
abbrev MN:D:=.eX [.agg [.any,.any,.any],.one (.c (.bool af))]
def x9F(u:Int)(v:ah)(s:bn)(t:List bz)(i:Nat):D:=[TB v s,.e (.one (.ptr 0 0)),dI u,dI (1+u),cF.sl t,MN,MN,.e (.agg [.any,.any,.any]),dB af,.e (.one (.ptr 4 0)),.any,dB af].getD i .any
abbrev StJ(k:Nat):={q:bn×ah×Nat // D7 q.1/\k<=q.2.2/\q.2.2<=k+1000}
def D7.ne{s:bn}(h:D7 s):∀p∈s.1,0<p.2.length:=λp a=>(h.p p a).len.1
def WM:∀j,j<1->([0,3]:List Nat)[j]?=aa j:=λj a=>by grind
def Fs(s:bn)(by_:Int)(t:List bz)(a:D7 s)(c:sC t)(b:gm 7 s t=ab):eb (ι:=Nat->ah) X 22 [dI 7,rj s,dI by_,cF.sl t] [] (λ_=>MN) (λ_=>[]) :=
 (rz (X:=X) 7 s by_ t (by decide) a.size a.num c a.cW a.ne b).le (λ_=>rfl) (λ_=>by simp)
set_option maxRecDepth 20000 in
def Dm(m:Nat)(b:Nat->Int)(A:Bytes b)(k:Nat)(hk:k<=40000)(F:m<=1048576):
  eb (ι:=StJ k) X 41 [.e (.one (.ptr 0 0))] [kZ m b k] (λq=>TB q.1.2.1 q.1.1) (λq=>[kZ m b q.1.2.2,Bg q.1.2.1 q.1.1]):=by
 refine eb.rW tok Tryz.func41 rfl rfl rfl λhf=>?_;refine aX [(1000002,ab)] rfl ay ?_;refine AK.spare 37 2 ?_;refine AK.U4 3 2 0 2 (cP.fn []) (by decide) rfl rfl rfl λv0=>?_;refine bt rfl ay ?_;refine AK.cP (OI m b A k (by omega) F) [0] rfl (λ_=>rfl) ?_;rintro⟨⟨t0,k1⟩,P,W,O⟩;simp only at P W O;refine bt rfl ay ?_;refine AK.cP (gv m b A k1 5 (by omega) F (by omega)) [0] rfl (λ_=>rfl) ?_;rintro⟨u,u0,u1⟩;refine bt rfl ay ?_;refine AK.cz 4 (λq:bn×ah×List bz×Nat×Nat=>D7 q.1/\cx q.2.2.1=ab/\q.2.2.2.1<=4/\k<=q.2.2.2.2/\q.2.2.2.2+100*q.2.2.2.1<=k+900) (λq=>f92 q.2.2.1 q.2.2.2.1) (λq=>[kZ m b q.2.2.2.2,jq,ML q.2.1 q.1,Bg q.2.1 q.1]) (λq=>q.2.2.2.1) (([],[],[]),v0,t0,u.toNat,k1+1) rfl ?_ rfl ?_ rfl ⟨D7.nil,P,by grind,by grind,by grind⟩ ?_
 .simp only[az.cat,az,aG,aE];and_intros<;>first|exactλ_ _=>rfl|omega
 .simp;rfl
 rintro⟨s,v,t,n,l⟩ ⟨z,R,U,M,I⟩;simp only at z R U M I;by_cases hn:0<n
 .have hv:=uz m b l 2 (by omega);have y:az [(l:Int)=(l:Int).toNat,Gz b=Gz (S6 (Gz b)),Bytes (S6 (Gz b)),(l:Int)<=4000000,m<=1048576,(1:Int)<=2,(2:Int)<=4000000]:=⟨rfl,rfl,A,by omega,F,by omega,(by decide:(2:Int)<=4000000)⟩
  have B:az [bA .i64 (1+md m b l 2)]:=by simp only[az,bA];omega
  have g:bE X [(17,Zs)]:=.cons t17 .nil;refine bJ [(19,ab),(1000006,ab)] rfl (by simp only[az,ba];omega) ?_;apply AK.U5 (ι:={q:bn×ah // D7 q.1}) (λ_=>f92 t n) (λq=>[kZ m b (l+1:Nat),jq,ML q.1.2 q.1.1,Bg q.1.2 q.1.1,MM])
  .intro out;cases H:gm 7 s t with
   |true =>
    have C:=Fs (X:=X) s (1+md m b l 2) t z (eh R) H;refine AK.flags iZ (x9F (md m b l 2) v s t) (uj (d9F m b l v s) 2 9 10) rfl rfl rfl rfl
     ⟨.IS tok g,
     .IS tok g,
     dW.e1 rfl rfl rfl rfl (λc d=>by cases c<;>cases d<;>exact gB (ds:=[]) tok g (σ':=aa _) rfl y),
     .Z9 tok g B,
     .IS tok g,
     dW.q3 rfl rfl rfl (λa c d=>by cases a<;>cases c<;>cases d<;>exactλs a f hh b kk cs S i rest A hi hK=>mD.qi C rfl rfl rfl (jI.agg 1 0 3 rfl rfl (PM.Bw rfl λ_ h=>h)) rfl (by simp) rfl (λ_=>rfl) (λ_=>rfl) s a f hh b kk cs S i rest A hi λ_=>hK),
     .IS tok g,
     .IS tok g,
     .IS tok g,
     dW.e2 rfl rfl rfl rfl rfl (λa=>by cases a<;>exact gB (ds:=[]) tok g (σ':=aa _) rfl ay),
     dW.e3 rfl rfl rfl rfl rfl (λa=>by cases a<;>exact gB (ds:=[]) tok g (σ':=aa _) rfl ay),
     .IS tok g,ay⟩ ?_
    intro D o;show AK X _ _ _ _ _ (d9F m b l v s (D 2) (D 9) (D 10));rw[o 2 (by decide),o 9 (by decide),o 10 (by decide)];refine bJ [(1000009,ab)] rfl ay ?_;exact out ⟨(s,v),z⟩ _ _ rfl (by simp)
   |false =>
    have L:=z.save (by_:=1+md m b l 2) R (by omega) H;have C:=xU (X:=X) 7 s (1+md m b l 2) t (by decide) z.size z.num (eh R) z.cW z.ne H;generalize dL 7 s (1+md m b l 2) t=s' at *;refine AK.ri 3 2 0 (E:=37) (k:=2) (cl:=Gq s.1) (by decide) rfl rfl rfl (λ_ h=>h) ?_;refine AK.Rt iZ (x9P (md m b l 2) s s' t) (SO (d9P m b l s s') 2 9 10) (wA ah 5) ae rfl rfl rfl rfl rfl
     ⟨.qe tok g,
     .qe tok g,
     ic.pre rfl rfl rfl rfl rfl (λc=>by cases c<;>exact gB (ds:=[]) tok g (σ':=aa _) rfl y),
     .qo tok g B,
     .qe tok g,
     ic.YH rfl rfl rfl rfl rfl (λj q=>by
      match q with
      |0=>exact .inr (.inr rfl)
      |1=>exact .inr (.inr rfl)
      |2=>exact .inr (.inr rfl)
      |3=>exact .inr (.inr rfl)
      |4=>exact .inr (.inr rfl)
      |5=>grind
      |6=>exact .inr (.inl rfl)
      |7=>exact .inr (.inl rfl)
      |8=>exact .inr (.inr rfl)
      |9=>exact .inr (.inr rfl)
      |10=>exact .inr (.inr rfl)
      |11=>exact .inr (.inr rfl)
      |q+12=>exact .inr (.inr rfl)) (λc=>by cases c<;>exact mD.jK C [3] rfl rfl rfl rfl (by simp) rfl rfl rfl (λ_=>rfl) rfl (λ_=>rfl)),
     .qs tok g,
     .qs tok g,
     .qs tok g,
     ic.X7 rfl rfl rfl rfl (λQ a=>by cases Q<;>cases a<;>exact gB (ds:=[]) tok g (σ':=aa _) rfl ay),
     ic.last rfl rfl rfl rfl rfl rfl (λv'=>gB (ds:=[]) tok g (σ':=aa _) rfl ay),
     .qs tok g,ay⟩ ?_
    intro Q D Y o;have Y:Q.isSome=ab:=Y.trans (o 5 (by decide));rcases Q with _|v'
    .cases Y
    show AK X _ _ _ _ _ (d9P m b l s s' (aa v') (D 2) (D 9) (D 10));rw[o 2 (by decide),o 9 (by decide),o 10 (by decide)];refine bJ [(1000009,ab)] rfl ay ?_;refine AK.BZ (φ':=f92 t n) (σ':=[kZ m b (l+1:Nat),jq,ML v' s',Bg v' s',MM]) ?_ rfl ?_ rfl ?_
    .exact out ⟨(s',v'),L⟩ _ _ rfl (by simp)
    .simp
    .simp
  rintro⟨⟨s',v'⟩,L⟩;refine dc rfl ay ?_;refine AK.cP (vC m b A (l+1) (by omega) F) [0] rfl (λ_=>rfl) ?_;rintro⟨p,hp⟩;refine dc rfl ay ?_;refine AK.cP (GN m b A (l+1+1+1) (by omega) F) [0] rfl (λ_=>rfl) ?_;rintro⟨⟨x,J⟩,hx,V,N⟩;simp only at hx V N;refine dc rfl ay ?_;refine AK.cQ (xJ t p x) [] rfl ?_;have aeu:=EZ (t:=t) (p:=p) (x:=x);obtain⟨G,r⟩:∃G,G=if(ek t p x).2=ab then(ek t p x).1 else t:=⟨_,rfl⟩
  have T:cx G=ab:=by grind
  apply AK.join (f92 G n) [kZ m b J,jq,ML v' s',Bg v' s',MM]
  .intro out;cases K:(ek t p x).2 with
   |true =>
    rw[K,bm rfl]at r;rw[<-r];refine bJ [(1000012,ab)] rfl ay ?_;exact out _ _ rfl (by simp)
   |false =>
    rw[K,aZ (by simp)]at r;rw[r]at out;refine bJ [(1000012,ab)] rfl ay ?_;exact out _ _ rfl (by simp)
  clear r;refine dc rfl ay ?_;refine AK.cP (gv m b A J 3 (by omega) F (by omega)) [0] rfl (λ_=>rfl) ?_;rintro⟨w,w0,w1⟩;by_cases Z:w=0
  .refine bJ [(46,ab)] rfl (by simp[Z]) ?_;refine AK.cP (vC m b A (J+1) (by omega) F) [0] rfl (λ_=>rfl) ?_;rintro⟨p2,hp2⟩;have US:=mc T;refine dc rfl ay ?_;refine AK.cQ (GO G p2 (by omega)) [] rfl ?_;refine dc rfl ?_ (AK.aQ (s',v',mb G p2,n-1,J+1+1+1) rfl ?_ ?_ ?_ ?_)
   .simp only[az,bA];omega
   .simp only[az.cat,az,aG,aE];and_intros<;>first|exactλ_ _=>rfl|omega
   .simp
   .grind [LC]
   grind
  .refine bJ [(46,af)] rfl (by simp[Z,bA];omega) (AK.aQ (s',v',G,n-1,J+1) rfl ?_ ?_ ?_ ?_)
   .simp only[az.cat,az,aG,aE];and_intros<;>first|exactλ_ _=>rfl|omega
   .simp
   .grind
   grind
 .refine bJ [(19,af)] rfl (by simp only[az,bO];omega) (AK.leaveD rfl rfl ?_);refine dc rfl ay ?_;refine AK.mG ⟨(s,v,l),z,M,by grind⟩ [0,3] rfl rfl rfl rfl rfl rfl rfl rfl ?_ rfl rfl rfl rfl WM;simp
end
end Go.AM.R1
namespace Go.AM
def eb.die{P:aq}{ι:Type}{X:Cx P}{f:aJ}{args:List D}{E k n:Nat}{a:Nat->List C}{w:BP}{es:ι->Nat->List C}{m:ι->Nat}(h:eb X f args [.buf E k n a] (λ_=>.e (.one (.bp 0 w))) (λi=>[.buf E k (m i) (es i)])):Ev X f args [.buf E k n a] (.e (.one (.bp 0 w))) [.dead] :=
 ⟨h.1,λs vs hr hh S cs hS=>h.2 s vs hr hh S cs λi fr v s' hl mh iX st=>hS fr v s' hl (by
  obtain⟨lv,h1,_,_⟩:gn _ _ _ (.bp 0 w):=mh;exact(⟨lv,h1,by simp,λ_ _ _ _ b=>by grind⟩:gn [.dead] s' v (.bp 0 w))) iX.lI
  ⟨st.size,st.fe,st.mem,st.iU,st.vb,λl B L hB hL=>by
   obtain⟨B',L',h1,h2,c⟩:=st.box l B L hB hL;cases l with
   |zero=>simp at hB;subst hB;exact⟨.dead,L',rfl,h2,ay⟩
   |succ l=>grind,st.os,st.tape,st.output,st.own⟩⟩
namespace R1
variable {X:Cx ag}
def xB(h:sJ):Ev X 110 [Zf h] [] (dB (gX h)) []:=by
 refine Ev.bQ Tryz.func110 rfl λb=>?_;have a:bE X []:=.nil;unfold gX;by_cases c1:h.1=1
 .by_cases c3:1<=h.2
  .exact aW a [(6,ab),(11,ab),(16,ab)] rfl (by simp[c1,c3]) (AK.bw rfl (by simp[c1,c3]))
  .exact aW a [(6,ab),(11,ab),(16,af)] rfl (by simp[c1];omega) (AK.bw rfl (by simp[c3]))
 .by_cases c2:h.1=2
  .by_cases c3:1<=h.2
   .exact aW a [(6,af),(11,ab),(16,ab)] rfl (by simp[c2,c3]) (AK.bw rfl (by simp[c2,c3]))
   .exact aW a [(6,af),(11,ab),(16,af)] rfl (by simp[c2];omega) (AK.bw rfl (by simp[c3]))
  .exact aW a [(6,af),(11,af),(16,af)] rfl (by simp[c1,c2]) (AK.bw rfl (by
    have:¬(1<=h.1/\h.1<=2):=by omega
    simp only[az,iN this];simp))
def Ie(h:sJ):Ev X 109 [Zf h] [] (dB (!gX h)) []:=by refine Ev.bQ Tryz.func109 rfl λb=>?_;have a:bE X [(110,kq TQ (λh=>dB (gX h)) λ_=>[])]:=.cons (.px λh _=>xB h) .nil;exact cf a rfl ay (AK.bw rfl)
def Ig(l:List sJ):k6 l=(decide (l.length<=9)&&!l.any λh=>!gX h):=by
 have:(bg l.length).all (λi=>gX (l.getD i (0,0)))=!l.any λh=>!gX h:=by rw[pT,dy,j7,List.any_eq_false];grind[List.mem_iff_getElem]
 rw[k6,this,Bool.and_comm]
def Ih(l:List sJ):Ev X 61 [cH.sl l] [] (dB (k6 l)) []:=by
 refine Ev.bQ Tryz.func61 rfl λd=>?_;have a:=Lq (X:=X) l 109 (λh=>!gX h) λx _=>Ie x;have b:bE X [(108,xd [cH.sl l,.e (.one (.c (.fn (.func 109) [] [])))] (dB (l.any λh=>!gX h)))]:=.cons (As a) .nil;rw[Ig];by_cases h:l.length<=9
 .exact aW b [(6,ab)] rfl ⟨rfl,c8 (by omega)⟩ (AK.bw rfl (by simp[h]))
 .exact aW b [(6,af)] rfl (by simp;omega) (AK.bw rfl (by simp[iN h]))
def GI:ee X 61 sK:=.px λl _=>Ih l
def AQ(p:bG)(d:p.2.length<=4000000):Ev X 85 [KE p] [] (cI.sl (p.2.map (·.1))) []:=by
 refine Ev.bQ Tryz.func85 rfl λf=>?_;refine aX [(1000002,ab)] rfl ay ?_;refine AK.iB 3 3 1 rfl rfl ?_;refine bt rfl ay ?_;refine AK.cz 2 (λi=>i<=p.2.length) (λi:Nat=>[(1,.e (.one (.ptr 0 0))),(3,.e (.one (.vec 1 1 i (cI.fn ((p.2.take i).map (·.1)))))),(7,dN.sl p.2),(8,dI p.2.length),(9,dI i)]) (λi=>[SU p,.vec 3 1 i (cI.fn ((p.2.take i).map (·.1)))]) (λi=>p.2.length-i) 0 rfl (by simp) rfl (by simp) rfl (by omega) ?_;intro i hi;by_cases h:i<p.2.length
 .have b:p.2.getD (i:Int).toNat dN.bZ=gV p i:=by grind
  have a:(p.2.take (i+1)).map (·.1)=(p.2.take i).map (·.1)++[(gV p i).1]:=by grind[bS]
  have c:((p.2.take i).map (·.1)).length=i:=by grind
  have e:=cI.cu ((p.2.take i).map (·.1)) (gV p i).1;rw[c]at e;refine aX [(10,ab)] rfl ?_ (AK.aQ (i+1) rfl ?_ ?_ h (by omega))
  .simp only[az,bA,show i3.bytes=8 from rfl];grind
  .rw[a];simp only[az.cat,az,b,aG,aE];and_intros<;>first|exact cv.same|exact e|rfl|omega
  .rw[a];simp only[az.cat,az,b,aG,aE];and_intros<;>first|exact cv.same|exact e|rfl|omega
 obtain rfl:i=p.2.length:=by omega
 rw[dh];refine aX [(10,af)] rfl (by simp) (AK.leaveD rfl rfl ?_);exact bt rfl ay (AK.bw rfl)
abbrev CN:dr:=kq (Ex dN) (λp=>cI.sl (p.2.map (·.1))) λp=>[p.2.length<=4000000]
def Lz:ee X 85 CN:=.px λp h=>AQ p h
def Ii(ps:List bG)(i:Nat):(bX (ps.take i)).length<=(bX ps).length:=by
 have:bX ps=bX (ps.take i)++bX (ps.drop i):=by unfold bX;grind[List.take_append_drop]
 grind
abbrev Zg(l:List Int):D:=.e (.one (.bp 0 (.sl l.length 1 0 l.length)))
def CO(ps:List bG)(m:∀p∈ps,p.2.length<=4000000)(q:(bX ps).length<=4000000):Ev X 40 [cP.sl ps] [] (Zg (bX ps)) [IZ (bX ps).length (bX ps)]:=by
 refine Ev.bQ Tryz.func40 rfl λn=>?_;have k:=n.sl 0 rfl;have c:bE X [(85,CN)]:=.cons Lz .nil;refine aW c [(1000002,ab)] rfl ay ?_;refine AK.Vg 3 3 1 (cI.fn []) rfl ?_;refine cf c rfl ay ?_;refine AK.cz 1 (λi=>i<=ps.length) (λi:Nat=>[(3,.e (.one (.bp 0 (.sl (bX (ps.take i)).length 1 0 (bX (ps.take i)).length)))),(6,cP.sl ps),(7,dI ps.length),(8,dI i)]) (λi=>[IZ (bX (ps.take i)).length (bX (ps.take i))]) (λi=>ps.length-i) 0 rfl (by simp[bX]) rfl (by simp[cv,bX]) rfl (by omega) ?_;intro i hi;by_cases h:i<ps.length
 .have g:ps.getD (i:Int).toNat cP.bZ=ps.getD i (0,[]):=by grind
  have b:=xA h;have f:=Ii ps (i+1);have o:=m _ (lR (d:=(0,[])) h);generalize ps.getD i (0,[])=p at *;rw[b]at f;generalize bX (ps.take i)=a at *;have e:=cI.SY a (p.2.map (·.1)) _ rfl;simp only[c7,lg]at f e;refine aW c [(9,ab)] rfl ?_ (AK.aQ (i+1) rfl ?_ ?_ h (by omega))
  .simp only[az,g,bA,dN.list_fn,dN.aU,lg,show i3.bytes=8 from rfl];grind
  .rw[b];simp only[az.cat,az,g,dN.list_fn,c7,lg,aG,aE];and_intros<;>first|exact cv.same|rfl|omega
  .rw[b];simp only[az.cat,az,g,dN.list_fn,c7,lg,aG,aE];grind
 obtain rfl:i=ps.length:=by omega
 rw[dh];refine aW c [(9,af)] rfl (by simp) (AK.leaveD rfl rfl ?_);refine cf c rfl ay (AK.db [0] rfl ?_ rfl rfl rfl (λj l=>absurd l (by simp)));simp
def Ij(ps:List bG)(a:∀p∈ps,p.2.length<=4000000)(b:(bX ps).length<=4000000):Ev X 40 [cP.sl ps] [] (cI.sl (bX ps)) [] :=
 Ev.Kr (σ1:=[]) (E:=3) (k:=1) (n:=(bX ps).length) (es:=cI.fn (bX ps)) (CO ps a b) rfl (by simp) rfl (bh _)
end R1
end Go.AM
namespace Go.AM.R1
section
variable {X:Cx ag}
def xC(s:bn):Ev X 39 [rj s] [] (rj s) []:=by refine Ev.rW Tryz.func39 rfl rfl rfl λa=>?_;refine bt rfl (by simp) ?_;refine AK.freeze 2 1 rfl rfl rfl ?_;exact AK.Q6 tok [] rfl (by simp) rfl rfl rfl (λj b=>absurd b (by simp))
abbrev LA:dr:=kq TR (λs=>rj s) λ_=>[]
def SZ:ee X 39 LA:=.px λs _=>xC s
abbrev IU(s:bn):aP:=.cells 86 [.c (.sl af 2 s.1.length (cP.fn s.1)),.c (.sl af 2 s.2.1.length (gf.fn s.2.1)),.c (.sl af 2 s.2.2.length (cH.fn s.2.2))]
structure OW(s:bn):Prop extends SmS s where
 pk:∀p∈s.1,p.2.length<=4000000
 nm:(bX s.1).length<=4000000
def y4(k:Int)(s:bn):Bool:=(bg s.1.length).all (ma k s.1)&&decide (s.1.length<=20)&&decide (bX s.1).Nodup
def EV(k:Int)(s:bn)(hk:cd k=ab)(b:OW s):Ev X 59 [rj s,dI k] [] (dB (y4 k s)) []:=by
 refine Ev.bQ Tryz.func59 rfl λF=>?_;have E:=b.pN;have x:=b.pk;have w:=Ij (X:=X) s.1 b.pk b.nm;have m:bE X [(104,Aw)]:=.cons Gk .nil;refine cf m rfl ay ?_;unfold y4;refine AK.cz 1 (λi=>i<=s.1.length/\∀j,j<i->ma k s.1 j=ab) (λi:Nat=>[(1,dI k),(2,.e (.one (.ptr 0 0))),(9,cP.sl s.1),(10,dI s.1.length),(11,dI i)]) (λ_=>[IU s]) (λi=>s.1.length-i) 0 rfl (by simp) rfl (by simp) rfl ⟨by omega,by omega⟩ ?_;rintro i ⟨hi,a⟩;by_cases h:i<s.1.length
 .have v:s.1.getD i cP.bZ=s.1.getD i (0,[]):=rfl;have q:s.1.getD (i-1) cP.bZ=s.1.getD (i-1) (0,[]):=rfl;have g:ma k s.1 i=(gg k (s.1.getD i (0,[]))&&CL (·.1) (0,[]) s.1 i):=rfl;have u:=qq (f:=λp:bG=>p.1) (d:=(0,[])) (l:=s.1) (i:=i);have c:=x _ (lR (d:=(0,[])) h);generalize s.1.getD i (0,[])=p at *;generalize s.1.getD (i-1) (0,[])=p' at *;cases o:gg k p with
  |false =>
   rw[o,rL]at g;refine aW m [(12,ab),(20,ab),(35,ab)] rfl ?_ (AK.fE (cp.zero rfl ?_))
   .simp[-ar,v,hk,c,o,dN.list_fn,dN.aU];omega
   .rw[iG h g];simp
  |true =>
   rw[o,fC]at g;by_cases z:i=0
   .subst z;refine aW m [(12,ab),(20,af),(23,af),(35,af)] rfl ?_ (AK.aQ 1 rfl (by simp) (by simp) ⟨h,jV a (by rw[g];rfl)⟩ (by omega));simp[-ar,v,hk,c,o,dN.list_fn,dN.aU,bA];omega
   have u:=u z;by_cases C:p'.1<p.1
   .refine aW m [(12,ab),(20,af),(23,ab),(33,af),(35,af)] rfl ?_ (AK.aQ (i+1) rfl (by simp) (by simp) ⟨h,jV a (by grind)⟩ (by omega));simp[-ar,v,q,hk,c,o,dN.list_fn,dN.aU,bA];omega
   .refine aW m [(12,ab),(20,af),(23,ab),(33,ab),(35,ab)] rfl ?_ (AK.fE (cp.zero rfl ?_))
    .simp[-ar,v,q,hk,c,o,dN.list_fn,dN.aU,bA];omega
    .rw[iG h (by grind)];simp
 obtain rfl:i=s.1.length:=by omega
 rw[dy.2 a,fC];refine aW m [(12,af)] rfl (by simp) (AK.leaveD rfl rfl ?_);refine cf m rfl ay ?_;refine AK.cQ (CO s.1 b.pk b.nm) [] rfl ?_;refine cf m rfl ay ?_;refine AK.cQ (LB (bX s.1) b.nm) [1] rfl ?_;have B:=AR (bX s.1);have r:=(EW (X:=X) (oJ (bX s.1)) (by rw[lL];exact b.nm)).die;rw[lL]at r;have y:=AS (oJ (bX s.1));rw[lL]at y;have A:=b.nm;generalize ez (oJ (bX s.1))=cs at *;generalize oJ (bX s.1)=so at *;have sX:bE X [(106,yI [kF (bX s.1).length] [IZ (bX s.1).length so] (.e (.one (.bp 0 (.sl (bX s.1).length 1 0 cs.length)))) [.dead]),(40,xd [cP.sl s.1] (cI.sl (bX s.1)))]:=.cons (Cl r) (.cons (As w) .nil);refine aW sX [(1000009,ab)] rfl ay ?_;by_cases t:s.1.length<=20
 rotate_left
 .refine aW sX [(46,af)] rfl ?_ (AK.bw rfl ?_)
  .simp;omega
  .simp[t]
 have n:(s.1.length:Int)<=20:=by omega
 generalize D:bX s.1=N at *;refine AK.M4 (ι:=Unit) iZ 6 (λi=>match bu i 5 with|true=>ab|false=>match aB i 8 with|true=>ab|false=>aB i 9) (λi=>[.e (.one (.ptr 0 0)),cP.sl s.1,dI s.1.length,dB (decide ((s.1.length:Int)<=20)),dB ab,.e (.one (.bp 1 (.sl N.length 1 0 N.length))),.any,.any,.e (.one (.ptr 0 0)),cP.sl s.1].getD i .any)
  (λ_ i=>[.any,.any,.any,.any,.any,.any,.e (.one (.bp 1 (.sl N.length 1 0 cs.length))),dI cs.length,.any,.any,cI.sl N,dI N.length,dB ((cs.length:Int)==N.length),dB ((cs.length:Int)==N.length),dB ((cs.length:Int)==N.length)].getD i .any) (λ_=>[IU s,.dead]) rfl rfl rfl rfl rfl rfl ?_ ?_ ?_ ?_
 .exact⟨.cT tok sX rfl,.cT tok sX rfl,.cT tok sX rfl,.cT tok sX rfl,.eval tok sX (ds:=[(46,ab)]) rfl (c8 n),.cT tok sX rfl,ay,ay,.cT tok sX rfl,.cT tok sX rfl,ay,ay,ay,ay,ay,ay⟩
 .intro _;exact⟨.cT tok sX rfl,.cT tok sX rfl,.cT tok sX rfl,.cT tok sX rfl,.eval tok sX (ds:=[(46,ab)]) rfl (c8 n),.cT tok sX rfl,ay,.cT tok sX rfl,.cT tok sX rfl,.cT tok sX rfl,.eval tok sX (ds:=[]) rfl rfl,.cT tok sX rfl,.cT tok sX rfl,.cT tok sX rfl,.cT tok sX rfl,ay⟩
 .exact .z9 (gB tok sX (ds:=[]) (σ':=aa [IU s,.dead]) rfl ⟨rfl,rfl⟩)
 .intro _;refine cf sX rfl ay (AK.bw rfl ?_);have:((cs.length:Int)==N.length)=decide N.Nodup:=by grind
  simp[this,t]
abbrev tHB(l:List (Int×Int))(b:Bool):D:=.eX [.one (.c (.sl af 2 l.length (cH.fn l))),.one (.c (.bool b))]
def Ff(l:List (Int×Int))(x:Int×Int)(g:k6 l=ab)(f:gX x=ab)(j:l.length<=9):Ev X 71 [cH.sl l,Pk x.1 x.2] [] (tHB (if l.length=9 then l else l++[x]) (decide (l.length≠9))) []:=by
 refine Ev.bQ Tryz.func71 rfl λi=>?_;have b:bE X [(61,sK),(110,kq TQ (λh=>dB (gX h)) λ_=>[])]:=.cons GI (.cons (.px λh _=>xB h) .nil);refine aW b [(9,af),(14,af)] rfl ?_ ?_
 .simp only[az,cH.list_fn,g,f,j8,aG,aE];first|exact cH.aU _|(and_intros<;>first|rfl|exact cH.aU _)
 refine AK.cQ (yN l (by omega)) [] rfl ?_;by_cases d:l.length=9
 .refine aW b [(19,ab)] rfl (by simp[d]) ?_;refine AK.oE 1 rfl rfl rfl (by simp) (by simp) ?_;exact AK.bw rfl (by simp[d,qT])
 .refine aW b [(19,af)] rfl ?_ ?_
  .simp only[az,show i106.bytes=16 from rfl,eD,aG,aE];and_intros<;>first|rfl|omega
  have a:=cH.cu l x;refine AK.BZ (φ':=[(4,.e (.one (.bp 1 (.sl (l.length+1) 2 0 (l.length+1))))),(5,dB ab)]) (σ':=[.cells 106 [.c (.int .i64 x.1),.c (.int .i64 x.2)],.buf 106 2 (l.length+1) (cH.fn (l++[x]))]) ?_ rfl (by simp;rfl) rfl (by simp only[az.cat,az,aG,aE];and_intros<;>first|rfl|exact a);refine AK.oE 1 rfl rfl rfl (by simp) (by simp) ?_;exact AK.bw rfl (by simp[d,qT])
def MS(l:List bG)(c:l.length<=4000000):Ev X 116 [cP.sl l] [] (dI (if l.length=0 then 0 else(l.getD (l.length-1) (0,[])).1)) []:=by
 refine Ev.bQ Tryz.func116 rfl λb=>?_;by_cases h:l.length=0
 .rw[bm h];exact aX [(5,ab)] rfl (by simp[h]) (AK.bw rfl)
 .have a:l.getD ((l.length:Int)-1).toNat cP.bZ=l.getD (l.length-1) (0,[]):=by rw[show((l.length:Int)-1).toNat=l.length-1 by omega];rfl
  rw[aZ h];refine aX [(5,af)] rfl ?_ (AK.bw rfl (by simp only[az,a,aE]));simp only[az,a,bA,eD,aG,aE];and_intros<;>omega
def me(m:Int)(l:List (Int×Int)):Int:=l.foldl (λm h=>max m (h.2+1)) m
def zi(l:List (Int×Int)):∀m n:Int,me (max m n) l=max m (me n l):=by
 induction l with
 |nil=>intro m n;rfl
 |cons x r a =>
  intro m n;show me (max (max m n) (x.2+1)) r=max m (me (max n (x.2+1)) r);grind
def Fw{m:Int}{l:List (Int×Int)}{i:Nat}(h:i<l.length):me m (l.take (i+1))=max (me m (l.take i)) ((l.getD i (0,0)).2+1):=by unfold me;grind[bS]
def iT(s:bn):Int:=if s.2.1.length=0 then 1 else max 1 ((s.2.1.getD (s.2.1.length-1) (0,[])).1+1)
def Dq(s:bn):me (iT s) s.2.2=dv s:=by
 unfold iT dv;have a:me 1 s.2.2=oI s.2.2:=rfl;split
 .exact a
 .rw[show max 1 ((s.2.1.getD (s.2.1.length-1) (0,[])).1+1)=max ((s.2.1.getD (s.2.1.length-1) (0,[])).1+1) 1 by omega,zi,a];omega
def My(s:bn)(k:lD s)(d:rq s):Ev X 67 [rj s] [] (.eX [.one (.c (.int .i64 (cO s))),.one (.c (.int .i64 (dv s)))]) []:=by
 refine Ev.bQ Tryz.func67 rfl λB=>?_;have l:=k.p;have q:=k.sn;have y:=k.h;have r:1<=iT s/\iT s<=4000001:=by
  unfold iT;split
  .omega
  .have:=d.s _ (e9 (show s.2.1.length-1<s.2.1.length by omega) (0,[]));omega
 apply AK.join [(1,.e (.one (.ptr 0 0))),(4,dI (iT s))] [tN s]
 .intro out;by_cases h:s.2.1.length=0
  .refine bJ [(12,af),(1000005,ab)] rfl (by simp only[az,bO];omega) ?_;exact out _ _ rfl (by simp[iT,h])
  .have w:=d.s _ (e9 (show s.2.1.length-1<s.2.1.length by omega) (0,[]));have a:s.2.1.getD ((s.2.1.length:Int)-1).toNat gf.bZ=s.2.1.getD (s.2.1.length-1) (0,[]):=by rw[show((s.2.1.length:Int)-1).toNat=s.2.1.length-1 by omega];rfl
   refine bJ [(12,ab)] rfl ?_ ?_
   .simp only[az,a,bA,ba,aG,aE];and_intros<;>omega
   rw[a];refine AK.law (AH (iT s) rfl rfl rfl (by unfold iT;grind) (by simp only[bA];omega)) rfl rfl ?_;refine bJ [(1000005,ab)] rfl ay ?_;exact out _ _ rfl (by simp)
 refine dc rfl ay ?_;refine AK.cz 1 (λi=>i<=s.2.2.length) (λi:Nat=>[(1,.e (.one (.ptr 0 0))),(4,dI (me (iT s) (s.2.2.take i))),(24,cH.sl s.2.2),(25,dI s.2.2.length),(26,dI i)]) (λi=>[tN s]) (λi=>s.2.2.length-i) 0 rfl ?_ rfl ?_ rfl (by omega) ?_
 .simp[me]
 .simp
 intro i hi;have b:∀i,1<=me (iT s) (s.2.2.take i)/\me (iT s) (s.2.2.take i)<=4000001:=λi=>by have o:=nL (s.2.2.take i) λx t=>d.h x (fV t);have A:me 1 (s.2.2.take i)=oI (s.2.2.take i):=rfl;rw[show iT s=max (iT s) 1 by omega,zi,A];omega
 have o:=b i;have v:=b (i+1);by_cases h:i<s.2.2.length
 .have w:=d.h _ (e9 h (0,0));have a:s.2.2.getD (i:Int).toNat cH.bZ=s.2.2.getD i (0,0):=by grind
  have z:=Fw (m:=iT s) h;refine bJ [(27,ab)] rfl ?_ ?_
  .simp only[az,a,bA,ba,aG,aE];and_intros<;>omega
  rw[a];refine AK.law (AH (me (iT s) (s.2.2.take (i+1))) rfl rfl rfl z.symm (by simp only[bA];omega)) rfl rfl ?_;refine dc rfl ?_ (AK.aQ (i+1) rfl ?_ ?_ h (by omega))
  .simp only[az,bA];omega
  .simp
  .simp
 .obtain rfl:i=s.2.2.length:=by omega
  rw[dh,Dq]at o⊢;have f:cO s=(if s.1.length=0 then 0 else(s.1.getD (s.1.length-1) (0,[])).1)+1:=by unfold cO;split<;>rfl
  have g:-4000000<=cO s-1/\cO s-1<=4000000:=by
   rw[f];split
   .omega
   .have:=d.p _ (e9 (show s.1.length-1<s.1.length by omega) (0,[]));omega
  have n:=MS (X:=X) s.1 l;have j:=xC (X:=X) s;rw[f]at g⊢;generalize(if s.1.length=0 then 0 else(s.1.getD (s.1.length-1) (0,[])).1)=p at *;have u:bE X [(39,xd [rj s] (rj s)),(116,xd [cP.sl s.1] (dI p))]:=.cons (As j) (.cons (As n) .nil);refine bJ [(27,af)] rfl (by simp) (AK.leaveD rfl rfl ?_);refine cw u rfl ?_ (AK.bw rfl);simp only[az,bA,aG,aE];and_intros<;>first|rfl|omega
abbrev QL(l:List Bs):C:=.sl af 1 l.length (cS.fn l)
def IB(l:List Bs):Ev X 68 [cS.sl l,dI 4] [] (.e (.one (.c (.fn (.func 117) [] [.rp [QL l],.rp [.int .i64 4]])))) []:=by refine Ev.bQ Tryz.func68 rfl λa=>?_;refine qz [] 6 rfl ay ?_;refine AK.freeze 2 0 rfl rfl rfl ?_;refine AK.freeze 3 1 rfl rfl rfl ?_;exact aX [(6,af)] rfl (by simp) (AK.bw rfl (by simp;rfl))
def ua(l:List Bs)(k:Nat):List Bs:=(l.drop (4*k)).take 4
def Fe(l:List Bs)(z:l.length<=4000000){d:Nat}{N0:Nat}{φ0:Fr}{b lr':Loop}(m:Nat)(y:m<=(l.length+3) / 4)(a:Nat->List aP)(o:List aP)(A:∀k,(a k).length=d)(w:∀k,lA (a k++[.loop N0 φ0 b])=ab)(v:lA (o++[.loop N0 φ0 lr'])=ab)(xf:∀k,k<m->4*k<l.length->Yields (ι:=Unit) X d [cS.sl (ua l k)] (a k++[.loop N0 φ0 b]) ab (λ_=>a (k+1)++[.loop N0 φ0 b]))(jO:4*m<l.length->Yields (ι:=Unit) X d [cS.sl (ua l m)] (a m++[.loop N0 φ0 b]) af (λ_=>o++[.loop N0 φ0 lr'])):
  eb (ι:=Unit) X 117 [.e (.one (.ref d)),.e (.one (.c (.rp [QL l]))),.e (.one (.c (.rp [.int .i64 4])))] (a 0++[.loop N0 φ0 b]) (λ_=>.eX []) (λ_=>if 4*m<l.length then o++[.loop N0 φ0 lr']else a m++[.loop N0 φ0 b]):=by
 refine eb.JY Tryz.func117 rfl rfl rfl (AK.of_code ?_);refine bt rfl ay ?_;show AW X _ (.loop _) _ _ _;refine AW.loop (S:=Nat) (λk=>k<=m) (λk=>[(0,.e (.one (.ref d))),(1,.e (.one (.c (.rp [QL l])))),(2,.e (.one (.c (.rp [.int .i64 4])))),(4,dI (4*k:Nat))]) (λk=>a k++[.loop N0 φ0 b]) (λk=>m-k) 0 (lk _) ?_ rfl ?_
 .exact .cons rfl (cA rfl (by simp))
 intro k hk;refine AK.of_code ?_;by_cases h:4*k<l.length
 .have j:az (fM l.length (aa ((4*k:Nat):Int)) ae):=by simp only[fM,az];omega
  have p:c9 l.length ae-c9 0 (aa ((4*k:Nat):Int))=l.length-4*k:=by simp only[c9];omega
  refine aX [(9,ab),(1000003,ab)] rfl (by simp only[az,ba];omega) ?_;let xs:Nat->D:=λi=>([dI 4,cS.sl l,dI (4*k:Nat),.e (.one (.c (.sl af 1 (c9 l.length ae-c9 0 (aa ((4*k:Nat):Int))) (lZ (c9 0 (aa ((4*k:Nat):Int))) (cS.fn l))))),dI (c9 l.length ae-c9 0 (aa ((4*k:Nat):Int)):Nat),dI (min 4 (l.length-4*k):Nat),dI (min 4 (l.length-4*k):Nat)]:List D).getD i .any;refine AK.flags iZ xs (uj (λ_ _ _=>a k++[.loop N0 φ0 b]) 100 101 102) ?_ ?_ ?_ ?_ ?_ ?_
  .rfl
  .rfl
  .rfl
  .rfl
  .exact⟨.IS tok bE.nil,
   .IS tok bE.nil,
   .IS tok bE.nil,
   dW.q3 rfl rfl rfl (λ_ _ _=>OA.eval (ds:=[]) tok bE.nil rfl j),
   .IS tok bE.nil,
   dW.q3 rfl rfl rfl (λ_ _ _=>OA.kQ (λ_ _ _ _=>dC rfl) (xe _ rfl rfl rfl (by grind) (by simp only[bA];omega))),
   .IS tok bE.nil,ay⟩
  intro D x;show AK X _ _ _ _ _ (a k++[.loop N0 φ0 b]);have s:(((4*k:Nat):Int)+((min 4 (l.length-4*k):Nat):Int))=((4*k+min 4 (l.length-4*k):Nat):Int):=by omega
  refine bt rfl ?_ ?_
  .simp only[az,bA,aG,aE];omega
  refine AK.law (bF.N8 tok rfl rfl rfl rfl (n:=l.length) (es:=cS.fn l) (tt:=af) (λ_ _ r=>eT r) rfl rfl rfl (by omega) (by omega) (by omega) (by omega)) rfl rfl ?_;have t:(ua l k).length=min 4 (l.length-4*k):=by simp[ua]
  refine ib.le (φ':=[(0,.e (.one (.ref d))),(19,.e (.one (.ref d))),(1,.e (.one (.c (.rp [QL l])))),(2,.e (.one (.c (.rp [.int .i64 4])))),(4,dI (4*k:Nat)),(28,cS.sl (ua l k))]) ?_ (.cons rfl (.cons rfl (cA rfl ?_)))
  .have g:(a k++[aP.loop N0 φ0 b])[d]?=aa (.loop N0 φ0 b):=by grind
   rcases cD k m with f|f
   .refine AK.yield (xf k f h) rfl rfl rfl (N0:=N0) (φ0:=φ0) (r:=b) g rfl rfl λ_=>?_;exact aX [(30,af)] rfl (by simp only[az,bA,j8,aG,aE];omega) ⟨k+1,by omega,by omega,.cons rfl (cA rfl (by simp only[az.cat,az,aG,aE];grind)),rfl⟩
   .obtain rfl:k=m:=by omega
    refine AK.yield (jO h) rfl rfl rfl (N0:=N0) (φ0:=φ0) (r:=b) g rfl rfl λ_=>?_;refine aX [(30,ab)] rfl (by simp) ?_;exact AK.ret ⟨(),.inl rfl,(bm h).symm,by grind,[],.eX [],[],rfl,rfl,rfl,ay⟩
  .simp only[az.cat,az,aG,aE];have u:((4*k:Nat):Int).toNat=4*k:=by omega
   have q:(((4*k:Nat):Int)+((min 4 (l.length-4*k):Nat):Int)).toNat-((4*k:Nat):Int).toNat=(ua l k).length:=by grind
   refine⟨q,λi hi=>?_⟩;rw[q]at hi;rw[u];show cS.enc (l.getD (4*k+i) cS.bZ)=cS.enc ((ua l k).getD i cS.bZ);congr 1;simp only[ua,ar];grind
 .obtain rfl:k=m:=by omega
  refine aX [(9,af)] rfl (by simp only[az,bO];omega) ?_;refine AK.J3 rfl rfl ?_;exact⟨(),.inr rfl,(aZ h).symm,by grind,[],.eX [],[],rfl,rfl,rfl,ay⟩
def IA(k:Int)(s:bn)(l:List Bs)(j:Nat):Bool:=(nS (cO s+j) k (ua l j)).2&&!(s.1.length+j==20)
def lx(g:Nat->Bool):Nat->Nat->Nat
 |0,j=>j
 |f+1,j=>if g j=ab then lx g f (j+1)else j
def pH(g:Nat->Bool):∀(f j:Nat),j<=lx g f j/\lx g f j<=j+f/\(∀i,j<=i->i<lx g f j->g i=ab)/\(lx g f j<j+f->g (lx g f j)=af)
 |0,j=>⟨bh _,bh _,λi b a=>absurd b (by simp only[lx]at a;omega),λh=>absurd h (by simp[lx])⟩
 |f+1,j=>by obtain⟨b,a,d,c⟩:=pH g f (j+1);rw[lx];grind
def j4(k:Int)(s:bn)(l:List Bs)(n:Nat):List bG:=(bg n).map λj:Nat=>(nS (cO s+j) k (ua l j)).1
theorem ub(k:Int)(s:bn)(l:List Bs)(n:Nat):(j4 k s l n).length=n:=by simp[j4]
def Fc(k:Int)(s:bn)(l:List Bs)(n:Nat):j4 k s l (n+1)=j4 k s l n++[(nS (cO s+(n:Nat)) k (ua l n)).1]:=by simp[j4,List.range_succ]
def uc{s:bn}(a:rq s):-4000000<=cO s/\cO s<=4000001:=by
 unfold cO;split
 .omega
 .rename_i h;have:=a.p _ (tQ h (0,[]));omega
def sT(k:Int)(s:bn)(by_:Int)(t:List bz):bn×Option Bs :=
 let l:=dz k t (indexOf s.1);let m:=lx (IA k s l) ((l.length+3) / 4) 0
 if m<(l.length+3) / 4 then(([],[],[]),aa [112,97,99,107,115])
 else if 20<dv s then(([],[],[]),aa [115,110,97,112,115,104,111,116,115])
 else if s.2.2.length=9 then(([],[],[]),aa [104,101,97,100,115])
 else((s.1++j4 k s l m,s.2.1++[ft (dv s) k t],s.2.2++[(by_,dv s)]),ae)
def erE:Option Bs->E1
 |none=>.one (.c .iw)
 |some w=>.one (.c (.ifs 60 (.rp [.str w])))
def tSv(q:bn×Option Bs):D:=.eX [.agg [.c (Gq q.1.1),.c (EK q.1.2.1),.c (Ct q.1.2.2)],erE q.2]
abbrev svF(s:bn)(by_:Int)(t:List bz)(l:List Bs):Fr:=[(2,dI by_),(3,cF.sl t),(4,.e (.one (.ptr 2 0))),(5,.e (.one (.ptr 3 0))),(8,.e (.one (.ptr 4 0))),(9,.e (.one (.ptr 5 0))),(10,.e (.one (.ptr 9 0))),(11,.e (.one (.ptr 10 0))),(12,dI (dv s)),(33,.e (.one (.c (.fn (.func 117) [] [.rp [QL l],.rp [.int .i64 4]]))))]
abbrev Mv(a b:aj×ah)(k:Int)(s:bn)(d:C)(ps:List bG)(no:Int):List aP:=GB a b++[.cells 27 [.c (Gq s.1),.c (EK s.2.1),.c (Ct s.2.2)],.cells 3 [.c (.int .i64 k)],.cells 27 [gJ,gJ,gJ],.cells 57 [.c d],
 .buf 37 2 ps.length (cP.fn ps),.buf 41 2 s.2.1.length (gf.fn s.2.1),.dead,.cells 27 [.bp 6 (.sl ps.length 2 0 ps.length),.bp 7 (.sl s.2.1.length 2 0 s.2.1.length),.c (Ct s.2.2)],.cells 3 [.c (.int .i64 no)]]
def Mw{b c:aj×ah}{k:Int}{s:bn}{d a:C}{ps T1:List bG}{no no':Int}{N:Nat}{φ:Fr}{r r':Loop}(i:Nat)(B:aP)(hB:(Mv b c k s d ps no++[.loop N φ r])[i]?=aa B):DQ 12 (Mv b c k s a T1 no'++[.loop N φ r']) i B:=by
 rcases i with _|_|_|_|_|_|_|_|_|_|_|_|i<;>first
  |(cases hB;exact .inl ⟨_,_,rfl,rfl⟩)
  |(cases hB;exact .inr (.inr (.inl ⟨_,_,_,_,rfl,rfl⟩)))
  |(cases hB;exact .inr (.inr (.inr ⟨by grind,by grind⟩)))
  |(cases hB;done)
def Mx(b d:aj×ah)(k:Int)(s:bn)(by_:Int)(t:List bz)(hk:cd k=ab)(g:lD s)(E:rq s)(F:cx t=ab)(L:(cW s.1).length<=100000)(Q:ry (indexOf s.1) (indexOf s.1).length=ab)(o:k6 s.2.2=ab)(W:by_=1∨by_=2)(G:1<=dv s):
  Ev X 25 [rj s,dI k,dI by_,cF.sl t] (GB b d) (tSv (sT k s by_ t)) (GB b d):=by
 obtain⟨r,a⟩:∃r,r=sT k s by_ t:=⟨_,rfl⟩;rw[<-a];unfold sT at a;simp only at a;refine(eb.NX (ι:=Unit) (σ':=λ_=>GB b d) (res:=λ_=>tSv r) Tryz.func25 rfl rfl rfl ?_).DL
 refine kT.seq (AW.top (AK.of_code ?_));refine bt rfl ay ?_;refine kT.seq (AW.top (AK.of_code ?_));refine bt rfl ay ?_;refine AK.cQ (xn s g.p g.p2 g.sn g.s2 g.h) [] rfl ?_;refine bt rfl ay ?_;refine kT.seq (AW.top (AK.of_code ?_));refine AK.oE 8 rfl rfl rfl (by simp) (by simp;exact⟨ay,ay⟩) ?_;refine bt rfl ay ?_;refine AK.cQ (My s g E) [] rfl ?_;refine bt rfl ay ?_;refine kT.seq (kT.seq (AW.top (AK.of_code ?_)));generalize R:indexOf s.1=ix at *;have x:bE X [(13,xd [cP.sl s.1] (cH.sl ix)),(68,xd [cS.sl (dz k t ix),dI 4] (.e (.one (.c (.fn (.func 117) [] [.rp [QL (dz k t ix)],.rp [.int .i64 4]])))))]:=.cons (As (R▸Df s.1 g.p L)) (.cons (As (IB _)) .nil);have D:ix.length<=4000000:=by grind[uu]
 refine AK.calm iZ [dI k,cF.sl t,.e (.one (.ptr 2 0)),cP.sl s.1,cH.sl ix,cS.sl (dz k t ix),.e (.one (.c (.fn (.func 117) [] [.rp [QL (dz k t ix)],.rp [.int .i64 4]])))] 12 rfl rfl rfl rfl rfl ⟨OA.cT tok x rfl,OA.cT tok x rfl,OA.cT tok x rfl,OA.cT tok x rfl,
  OA.eval (ds:=[]) tok x rfl rfl,OA.TX (mD.p9 (Dc b d k t ix hk F Q D).tc [0,1] rfl rfl rfl rfl rfl rfl rfl (λ_=>rfl) rfl (λ_=>rfl)),OA.eval (ds:=[]) tok x rfl rfl,ay⟩ ?_
 refine bt rfl ay ?_;refine kT.block ?_;refine kT.norm (svF s by_ t (dz k t ix)) (Mv b d k s .iw (s.1++j4 k s (dz k t ix) 0) (cO s+(0:Nat))) rfl ?_ rfl ?_ ?_
 .simp
 .simp[j4];exactλi _=>rfl
 have B:∀p∈dz k t ix,bx p=ab:=(kt (eh F)).1;have P:(dz k t ix).length<=4000000:=iP (kt (eh F)).2 (by decide);generalize dz k t ix=l at *;obtain⟨g1,g2,Z,g4⟩:=pH (IA k s l) ((l.length+3) / 4) 0;have T:=g.p;generalize hmd:lx (IA k s l) ((l.length+3) / 4) 0=m at *;refine kT.D2 (capD:=fJ [.rp [QL l],.rp [.int .i64 4]]) (cm.callee rfl)
  (Fe (lr':=?lr2) l P m (by omega) (λj=>Mv b d k s .iw (s.1++j4 k s l j) (cO s+(j:Nat))) (Mv b d k s (.ifs 60 (.rp [.str [112,97,99,107,115]])) (s.1++j4 k s l m) (cO s+(m:Nat))) (λj=>rfl) (λj=>rfl) rfl (λj hj M=>?xf) λU=>?jO) λi=>?hk
 case jO =>
  have z:IA k s l m=af:=g4 (by omega);have u:=uF (X:=X) b d (cO s+(m:Nat)) k (ua l m) (by have:=uc E;simp only[bA];omega) hk (λp J=>B p (rE (fV J))) (by simp[ua];omega);have C:=ub k s l m;generalize hq:nS (cO s+(m:Nat)) k (ua l m)=q at *;refine Yields.tn (rest:=λ_=>[.cells 37 [.c (.int .i64 q.1.1),.c (.sl af 2 q.1.2.length (dN.fn q.1.2))],.dead]) (Yields.intro (j:=aa .ret) rfl rfl rfl rfl (AK.of_code ?_)) ?_ ?_
  .refine bt rfl ay ?_;refine⟨rfl,rfl,AK.of_code ?_⟩;refine bt rfl ay ?_;refine AK.cQ u [0,1] rfl ?_;have f:(s.1++j4 k s l m).length=s.1.length+m:=by grind
   have n:q.2=ab->s.1.length+m=20:=λh=>by simpa[IA,hq,h]using z
   cases w:q.2 with
   |false =>
    refine aX [(44,ab),(49,ab),(1000007,ab)] rfl (by simp[w]) ?_;refine AK.region ?_;refine qz [] 3 rfl ay ?_;refine AK.vn 52 13 rfl rfl rfl ?_;refine bt rfl ay (AK.ret ?_);refine⟨rfl,rfl,(),gT rfl ?_⟩;simp only[az.cat,az,aG,aE];and_intros<;>first|exact cv.same|exact cv.nil|rfl
   |true =>
    have:=n w;refine aX [(44,af),(49,ab),(1000007,ab)] rfl (by simp only[az,w,f];grind) ?_;refine AK.region ?_;refine qz [] 3 rfl ay ?_;refine AK.vn 52 13 rfl rfl rfl ?_;refine bt rfl ay (AK.ret ?_);refine⟨rfl,rfl,(),gT rfl ?_⟩;simp only[az.cat,az,aG,aE];and_intros<;>first|exact cv.same|exact cv.nil|rfl
  .exactλ_=>rfl
  .exactλ_=>Mw
 case xf =>
  have v:IA k s l j=ab:=Z j (lk _) hj;have u:=uF (X:=X) b d (cO s+(j:Nat)) k (ua l j) (by have:=uc E;simp only[bA];omega) hk (λp J=>B p (rE (fV J))) (by simp[ua];omega);have C:=ub k s l j;have V:=Fc k s l j;obtain⟨q1,q2⟩:(nS (cO s+(j:Nat)) k (ua l j)).2=ab/\¬s.1.length+j=20:=by simpa[IA]using v
  generalize nS (cO s+(j:Nat)) k (ua l j)=q at *;have f:(s.1++j4 k s l j).length=s.1.length+j:=by grind
  have H:s.1++j4 k s l (j+1)=(s.1++j4 k s l j)++[q.1]:=by grind
  generalize s.1++j4 k s l j=ps at *;refine Yields.tn (rest:=λ_=>[.cells 37 [.c (.int .i64 q.1.1),.c (.sl af 2 q.1.2.length (dN.fn q.1.2))]]) (Yields.intro (j:=ae) rfl rfl rfl rfl (AK.of_code ?_)) ?_ ?_
  .refine bt rfl ay ?_;refine⟨rfl,rfl,AK.of_code ?_⟩;refine bt rfl ay ?_;refine AK.cQ u [0,1] rfl ?_;have I:=cP.cu ps q.1;have hb:=uc E;refine aX [(44,af),(49,af)] rfl ?_ ?_
   .simp only[az,bA,q1,show i37.bytes=32 from rfl,f,eD,dq,j8,aG,aE];omega
   refine⟨rfl,rfl,(),gT rfl ?_⟩;have O:(ps++[q.1]).length=ps.length+1:=by simp
   have K:cO s+(j:Int)+1=cO s+((j+1:Nat):Int):=by omega
   rw[H,O,<-K];simp only[az.cat,az,aG,aE];and_intros<;>first|exact cv.same|exact I|rfl
  .exactλ_=>rfl
  .exactλ_=>Mw
 case hk =>
  by_cases M:4*m<l.length
  .rw[bm M];refine⟨_,rfl,by simp,.ret,rfl,?_⟩;rw[bm (show m<(l.length+3) / 4 by omega)]at a;subst a;simp only[wG,BT];refine .freeze 8 4 rfl rfl rfl (.freeze 9 5 rfl rfl rfl (.of ⟨(),qR.cells tok [0,1] rfl ?_ rfl rfl rfl A7⟩));simp
  .rw[aZ M];refine⟨_,rfl,by simp,.normal,rfl,?_⟩;rw[aZ (show¬m<(l.length+3) / 4 by omega)]at a;show kT X _ _ _ _ _;refine AW.top (AK.of_code ?_);by_cases n:20<dv s
   .rw[bm n]at a;subst a;refine aX [(63,ab),(1000011,ab)] rfl (by simp only[az,ba];omega) ?_;refine AK.region ?_;refine qz [] 3 rfl ay ?_;refine AK.vn 66 13 rfl rfl rfl ?_;refine bt rfl ay (AK.ret (.freeze 8 4 rfl rfl rfl (.freeze 9 5 rfl rfl rfl (.of ⟨(),qR.cells tok [0,1] rfl ?_ rfl rfl rfl A7⟩))));simp
   rw[aZ n]at a;have N:s.2.2.length<=9:=by simp only[k6,bR,ba]at o;omega
   refine aX [(63,af)] rfl (by simp only[az,bO];omega) ?_;refine AK.cQ (Fa b d (dv s) k t ⟨G,by omega⟩ hk F) [0,1] rfl ?_;have I:=gf.cu s.2.1 (ft (dv s) k t);have S:=g.sn;refine aX [(1000014,ab)] rfl ?_ ?_
   .simp only[az,show i41.bytes=32 from rfl,aG,aE];omega
   refine AK.region ?_;refine bt rfl ay ?_;refine AK.cQ (Ff s.2.2 (by_,dv s) o (by simp only[gX,bR,ba];omega) N) [] rfl ?_;by_cases y:s.2.2.length=9
   .rw[bm y]at a;subst a;refine aX [(91,ab),(1000016,ab)] rfl (by simp[y]) ?_;refine AK.region ?_;refine qz [] 3 rfl ay ?_;refine AK.vn 94 14 rfl rfl rfl ?_;refine bt rfl ay (AK.ret (.freeze 8 4 rfl rfl rfl (.freeze 9 5 rfl rfl rfl (.of ⟨(),qR.cells tok [0,1] rfl ?_ rfl rfl rfl A7⟩))));simp
   .rw[aZ y]at a;subst a;simp only[aZ y];refine aX [(91,af),(1000018,ab)] rfl (by simp[y]) ?_;have C:(s.1++j4 k s l m).length=s.1.length+m:=by grind[ub]
    generalize s.1++j4 k s l m=ps at *;generalize Y:s.2.1++[ft (dv s) k t]=sw at *;have A:sw.length=s.2.1.length+1:=by grind
    generalize hhw:s.2.2++[(by_,dv s)]=hw at *;refine AK.BZ (φ':=[(8,.e (.one (.ptr 4 0))),(9,.e (.one (.ptr 5 0))),(10,.e (.one (.ptr 9 0)))]) (σ':=GB b d++[.cells 27 [.c (Gq s.1),.c (EK s.2.1),.c (Ct s.2.2)],.cells 3 [.c (.int .i64 k)],.cells 27 [gJ,gJ,gJ],.cells 57 [.c .iw],.buf 37 2 ps.length (cP.fn ps),.buf 41 2 sw.length (gf.fn sw),.dead,.cells 27 [.bp 6 (.sl ps.length 2 0 ps.length),.bp 7 (.sl sw.length 2 0 sw.length),.c (Ct hw)],.cells 3 [.c (.int .i64 (cO s+(m:Nat)))],.dead,.qP,.cells 41 [.c (.int .i64 (ft (dv s) k t).1),.c (.sl af 2 (ft (dv s) k t).2.length (cL.fn (ft (dv s) k t).2))]]) ?_ rfl ?_ rfl ?_
    .refine AK.oE 6 rfl rfl rfl (by simp) (by simp) ?_;refine AK.oE 7 rfl rfl rfl (by simp) (by simp) ?_;refine bt rfl ay (AK.ret (.freeze 8 4 rfl rfl rfl (.freeze 9 5 rfl rfl rfl (.of ⟨(),qR.cells tok [0,1] rfl ?_ rfl rfl rfl A7⟩))));simp[qT]
    .simp
    .simp only[az.cat,az,A,aG,aE];and_intros<;>first|exact cv.same|exact I|rfl
end
def ox{α b:Type}{f:α->List b}{n:Nat}:∀{l:List α},(∀x∈l,(f x).length<=n)->(l.flatMap f).length<=n*l.length
 |[],_=>by simp
 |x::l,h=>by have d:=h x mT;have c:=ox (l:=l) λy a=>h y (qM _ a);grind[Nat.mul_succ]
def E4{x:gE}(h:x.2.length<=6/\∀y∈x.2,y.2.length<=40):(vA x.2).length<=240:=by have:=ox (f:=λy:jT=>y.2) (n:=40) h.2;unfold vA;omega
abbrev cTr:List (Nat×dr):=[(107,yL)]
def EX(k:Int)(s:bn)(u:OW s):Ev (Cx.beside ag) 60 [rj s,dI k] [] (dB ((bg s.2.1.length).all (jW k s))) []:=by
 refine Ev.bQ Tryz.func60 rfl λx=>?_;have w:=u.sN;have q:=u.sm;have c:bE (Cx.beside ag) cTr:=.cons HL .nil;refine cf c rfl ay ?_;refine AK.cz 1 (λi=>i<=s.2.1.length/\∀j,j<i->jW k s j=ab) (λi:Nat=>[(1,dI k),(2,.e (.one (.ptr 0 0))),(10,gf.sl s.2.1),(11,dI s.2.1.length),(12,dI i)]) (λ_=>[IU s]) (λi=>s.2.1.length-i) 0 rfl (by simp) rfl (by simp) rfl ⟨by omega,by omega⟩ ?_;rintro i ⟨hi,b⟩;by_cases h:i<s.2.1.length
 .have o:s.2.1.getD i gf.bZ=s.2.1.getD i (0,[]):=rfl;have n:s.2.1.getD (i-1) gf.bZ=s.2.1.getD (i-1) (0,[]):=rfl;have a:jW k s i=(decide (1<=(s.2.1.getD i (0,[])).1/\(s.2.1.getD i (0,[])).1<=20)&&CL (·.1) (0,[]) s.2.1 i&&(c6 k (s.2.1.getD i (0,[])) s.1).isSome):=rfl;have r:=qq (f:=λp:gE=>p.1) (d:=(0,[])) (l:=s.2.1) (i:=i);have m:=q _ (lR (d:=(0,[])) h);generalize s.2.1.getD i (0,[])=p at *;generalize s.2.1.getD (i-1) (0,[])=p' at *;by_cases c1:1<=p.1
  rotate_left
  .refine aW c [(13,ab),(20,ab),(25,ab),(40,ab)] rfl ?_ (AK.fE (cp.zero rfl ?_))
   .simp[-ar,o];omega
   .rw[iG h (by grind)];simp
  by_cases c2:p.1<=20
  rotate_left
  .refine aW c [(13,ab),(20,af),(25,ab),(40,ab)] rfl ?_ (AK.fE (cp.zero rfl ?_))
   .simp[-ar,o];omega
   .rw[iG h (by grind)];simp
  rw[c8 ⟨c1,c2⟩,fC]at a;by_cases t:i=0
  .subst t;rw[show CL (·.1) (0,[]) s.2.1 0=ab from rfl,fC]at a;cases g:(c6 k p s.1).isSome with
   |false =>
    refine aW c [(13,ab),(20,af),(25,af),(27,af),(40,af),(50,ab)] rfl ?_ (AK.fE (cp.zero rfl ?_))
    .simp[-ar,o,bA,cL.list_fn,cL.aU,cP.list_fn,cP.aU,g,m.1];and_intros<;>first|omega|grind
    .rw[iG h (a.trans g)];simp
   |true =>
    refine aW c [(13,ab),(20,af),(25,af),(27,af),(40,af),(50,af)] rfl ?_ (AK.aQ 1 rfl (by simp) (by simp) ⟨h,jV b (a.trans g)⟩ (by omega));simp[-ar,o,bA,cL.list_fn,cL.aU,cP.list_fn,cP.aU,g,m.1];and_intros<;>first|omega|grind
  rw[r t]at a;by_cases v:p'.1<p.1
  rotate_left
  .refine aW c [(13,ab),(20,af),(25,af),(28,ab),(38,ab),(40,ab)] rfl ?_ (AK.fE (cp.zero rfl ?_))
   .simp[-ar,o,n,bA];omega
   .rw[iG h (by grind)];simp
  rw[c8 v,fC]at a;cases g:(c6 k p s.1).isSome with
  |false =>
   refine aW c [(13,ab),(20,af),(25,af),(28,ab),(38,af),(40,af),(50,ab)] rfl ?_ (AK.fE (cp.zero rfl ?_))
   .simp[-ar,o,n,bA,cL.list_fn,cL.aU,cP.list_fn,cP.aU,g,m.1];and_intros<;>first|omega|grind
   .rw[iG h (a.trans g)];simp
  |true =>
   refine aW c [(13,ab),(20,af),(25,af),(28,ab),(38,af),(40,af),(50,af)] rfl ?_ (AK.aQ (i+1) rfl (by simp) (by simp) ⟨h,jV b (a.trans g)⟩ (by omega));simp[-ar,o,n,bA,cL.list_fn,cL.aU,cP.list_fn,cP.aU,g,m.1];and_intros<;>first|omega|grind
 obtain rfl:i=s.2.1.length:=by omega
 rw[dy.2 b];refine aW c [(13,af)] rfl (by simp) (AK.leaveD rfl rfl ?_);exact cf c rfl ay (AK.bw rfl)
def yf(k:Int)(s:bn):fx k s=(cd k&&y4 k s&&(bg s.2.1.length).all (jW k s)&&k6 s.2.2):=by unfold fx y4;cases(bg s.1.length).all (ma k s.1)<;>cases decide (bX s.1).Nodup<;>cases(bg s.2.1.length).all (jW k s)<;>cases cd k<;>cases k6 s.2.2<;>cases decide (s.1.length<=20)<;>rfl
abbrev S0:dr:=oQ TR aI (λs k=>dB (y4 k s)) λs k=>[cd k=ab,OW s]
abbrev S1:dr:=oQ TR aI (λs k=>dB ((bg s.2.1.length).all (jW k s))) λs _=>[OW s]
def CP(k:Int)(s:bn)(f:OW s):Ev (Cx.beside ag) 23 [dI k,rj s] [] (dB (fx k s)) []:=by
 refine Ev.bQ Tryz.func23 rfl λi=>?_;have c:bE (Cx.beside ag) [(39,LA),(30,kq aI (λk=>dB (cd k)) λ_=>[]),(59,S0),(60,S1),(61,sK)]:=.cons SZ (.cons t30 (.cons (.sv λs k h=>EV k s h.1 h.2) (.cons (.sv λs k h=>EX k s h) (.cons GI .nil))));have d:=cP.list_fn s.1;have b:=gf.list_fn s.2.1;have a:=cH.list_fn s.2.2;rw[yf];cases hk:cd k
 .exact aW c [(10,af),(15,af),(20,af)] rfl (by simp[hk,d,b,a,cP.aU,gf.aU,cH.aU]) (AK.bw rfl)
 cases e:y4 k s
 .exact aW c [(10,ab),(15,af),(20,af)] rfl (by simp[hk,d,b,a,cP.aU,gf.aU,cH.aU,f,e]) (AK.bw rfl)
 cases g:(bg s.2.1.length).all (jW k s)
 .exact aW c [(10,ab),(15,ab),(20,af)] rfl (by simp[-List.all_eq_true,-List.all_eq_false,hk,d,b,a,cP.aU,gf.aU,cH.aU,f,e,g]) (AK.bw rfl)
 exact aW c [(10,ab),(15,ab),(20,ab)] rfl (by simp[-List.all_eq_true,-List.all_eq_false,hk,d,b,a,cP.aU,gf.aU,cH.aU,f,e,g]) (AK.bw rfl (by simp[a]))
abbrev y5:dr:=oQ aI TR (λk s=>dB (fx k s)) λ_ s=>[OW s]
def Ik:ee (Cx.beside ag) 23 y5:=.sv λk s h=>CP k s h
abbrev Ty(a b:aj×ah):List aP:=GB a b++[ZP]
def mQ(k:Int)(s:bn)(by_:Int)(t:List bz):bn×Bool :=
 if fx k s=ab/\(by_=1∨by_=2)/\cx t=ab then(match(sT k s by_ t).2 with|none=>((sT k s by_ t).1,ab)|some _=>(s,af))else(([],[],[]),af)
structure Bc(k:Int)(s:bn):Prop where
 hk:cd k=ab
 sp:(cW s.1).length<=100000
 ix:ry (indexOf s.1) (indexOf s.1).length=ab
 log:k6 s.2.2=ab
 sn:1<=dv s
def sU:∀j,j<3->([0,1,2]:List Nat)[j]?=aa j:=by decide
def MB{X:Cx ag}(v:ah):Ev X 26 [.e (.one (.c .iw)),Na v] [] (dB af) []:=by refine Ev.bQ Tryz.func26 rfl λa=>?_;refine bt rfl ay ?_;refine AK.law (Er rfl Tryz.underlying57 rfl rfl rfl) rfl rfl ?_;exact aX [(9,ab)] rfl (by simp) (AK.bw rfl)
def yi(d f:aj×ah)(k:Int)(s:bn)(by_:Int)(t:List bz)(j:lD s)(l:OW s)(E:rq s)(H:bA .i64 by_)(y:fx k s=ab->Bc k s):
  Ev (Cx.beside ag) 8 [dI k,rj s,dI by_,cF.sl t] (Ty d f) (Y9 (mQ k s by_ t).1 (mQ k s by_ t).2) (Ty d f):=by
 refine Ev.qG tok Tryz.func8 rfl rfl rfl λG=>?_;have a:bE (Cx.beside ag) [(23,y5),(24,Wp)]:=.cons Ik (.cons t24 .nil);by_cases i:fx k s=ab
 .by_cases m:by_=1∨by_=2
  .by_cases r:cx t=ab
   .have e:mQ k s by_ t=(match(sT k s by_ t).2 with|none=>((sT k s by_ t).1,ab)|some _=>(s,af)):=bm ⟨i,m,r⟩;rw[e];obtain⟨A,D,B,z,C⟩:=y i;have o:=Mx (X:=Cx.beside ag) d f k s by_ t A j E r D B z m C;apply AK.join [(0,dI k),(2,dI by_),(3,cF.sl t),(5,.e (.one (.ptr 3 0))),(8,.e (.one (.ptr 4 0)))] (Ty d f++[.cells 27 [.c (Gq s.1),.c (EK s.2.1),.c (Ct s.2.2)],.cells 27 [gJ,gJ,gJ]])
    .intro out;rcases m with rfl|rfl
     .refine bl a [(17,af),(20,af),(25,af),(29,af),(1000003,ab)] rfl ?_ (out _ _ rfl ?_)
      .simp only[az,cP.list_fn,gf.list_fn,cH.list_fn,cF.list_fn,i,g9,r];and_intros<;>first|rfl|exact True.intro|exact cP.aU _|exact gf.aU _|exact cH.aU _|exact cF.aU _|exact l
      .simp
     .refine bl a [(17,af),(20,ab),(25,af),(29,af),(1000003,ab)] rfl ?_ (out _ _ rfl ?_)
      .simp only[az,cP.list_fn,gf.list_fn,cH.list_fn,cF.list_fn,i,g9,r];and_intros<;>first|rfl|exact True.intro|exact cP.aU _|exact gf.aU _|exact cH.aU _|exact cF.aU _|exact l
      .simp
    have u:∀v:ah,Ev (Cx.beside ag) 26 [.e (.one (.c .iw)),Na v] [] (dB af) []:=λv=>MB v;generalize sT k s by_ t=q at *;obtain⟨x,F⟩:=q;cases F with
    |none =>
     have b:Ev (Cx.beside ag) 25 [rj s,dI k,dI by_,cF.sl t] (GB d f) (.eX [.agg [.c (Gq x.1),.c (EK x.2.1),.c (Ct x.2.2)],.one (.c .iw)]) (GB d f):=o;refine cw a rfl ay ?_;refine AK.cQ b [0,1] rfl ?_;refine bl a [(1000005,ab)] rfl ay ?_;refine AK.FP 12 6 rfl rfl λg=>?_;refine cw a rfl ay ?_;refine AK.PX 40 rfl ?_;refine AK.cQ (u _) [] rfl ?_;refine bl a [(41,af)] rfl (by simp) ?_;refine AK.lC () [0,1,2] rfl rfl rfl rfl rfl rfl rfl rfl rfl ?_ rfl rfl rfl rfl sU;simp
    |some w =>
     have b:Ev (Cx.beside ag) 25 [rj s,dI k,dI by_,cF.sl t] (GB d f) (.eX [.agg [.c (Gq x.1),.c (EK x.2.1),.c (Ct x.2.2)],.one (.c (.ifs 60 (.rp [.str w])))]) (GB d f):=o;refine cw a rfl ay ?_;refine AK.cQ b [0,1] rfl ?_;refine bl a [(1000005,ab)] rfl ay ?_;refine AK.FP 12 6 rfl rfl λg=>?_;refine AK.Rs 11 rfl λp=>?_;refine cw a rfl ay ?_;refine AK.PX 40 rfl ?_;refine AK.cQ (MA p g) [2,6] rfl ?_;refine bl a [(41,ab)] rfl (by simp) ?_;refine AK.cQ (xm s j.p j.p2 j.sn j.s2 j.h) [] rfl ?_;refine Zn a [] 2 rfl ay ?_;refine AK.Kj ?_;refine AK.oE 7 rfl rfl rfl (by simp) (by simp) ?_;refine AK.oE 8 rfl rfl rfl (by simp) (by simp) ?_;refine AK.lC () [0,1,2] rfl rfl rfl rfl rfl rfl rfl rfl rfl ?_ rfl rfl rfl rfl sU;simp[qT]
   .have e:mQ k s by_ t=(([],[],[]),af):=aZ λh=>r h.2.2;rw[e];have n:cx t=af:=by grind
    rcases m with rfl|rfl
    .refine bl a [(17,af),(20,af),(25,af),(29,ab)] rfl ?_ ?_
     .simp only[az,cP.list_fn,gf.list_fn,cH.list_fn,cF.list_fn,i,g9,n];and_intros<;>first|rfl|exact True.intro|exact cP.aU _|exact gf.aU _|exact cH.aU _|exact cF.aU _|exact l
     refine AK.lC () [0,1,2] rfl rfl rfl rfl rfl rfl rfl rfl rfl ?_ rfl rfl rfl rfl sU;simp
    .refine bl a [(17,af),(20,ab),(25,af),(29,ab)] rfl ?_ ?_
     .simp only[az,cP.list_fn,gf.list_fn,cH.list_fn,cF.list_fn,i,g9,n];and_intros<;>first|rfl|exact True.intro|exact cP.aU _|exact gf.aU _|exact cH.aU _|exact cF.aU _|exact l
     refine AK.lC () [0,1,2] rfl rfl rfl rfl rfl rfl rfl rfl rfl ?_ rfl rfl rfl rfl sU;simp
  .have e:mQ k s by_ t=(([],[],[]),af):=aZ λh=>m h.2.1;rw[e];refine bl a [(17,af),(20,ab),(25,ab),(29,ab)] rfl ?_ ?_
   .simp only[az,cP.list_fn,gf.list_fn,cH.list_fn,i,j8,lH,dq];and_intros<;>first|rfl|exact True.intro|exact cP.aU _|exact gf.aU _|exact cH.aU _|exact l|grind
   refine AK.lC () [0,1,2] rfl rfl rfl rfl rfl rfl rfl rfl rfl ?_ rfl rfl rfl rfl sU;simp
 .have e:mQ k s by_ t=(([],[],[]),af):=aZ λh=>i h.1;rw[e];refine bl a [(17,ab),(25,ab),(29,ab)] rfl ?_ ?_
  .simp only[az,cP.list_fn,gf.list_fn,cH.list_fn];and_intros<;>first|rfl|exact True.intro|exact cP.aU _|exact gf.aU _|exact cH.aU _|exact l|grind
  refine AK.lC () [0,1,2] rfl rfl rfl rfl rfl rfl rfl rfl rfl ?_ rfl rfl rfl rfl sU;simp
section
variable {X:Cx ag}[X.gY]
def iS(k:Int)(s:bn)(by_:Int)(t:List bz):bn×Bool :=
 if fx k s=ab/\(1<=by_/\by_<=2)/\cx t=ab then(if gm k s t=ab then s else dL k s by_ t,!gm k s t)else(([],[],[]),af)
def yj(k:Int)(s:bn)(by_:Int)(t:List bz)(a:lD s)(q:rq s)(l:fx k s=ab->Bc k s):
  Ev X 7 [dI k,rj s,dI by_,cF.sl t] [] (Y9 (iS k s by_ t).1 (iS k s by_ t).2) []:=by
 refine Ev.qG tok Tryz.func7 rfl rfl rfl λy=>?_;have g:bE X [(19,y3),(20,Cu),(21,V9)]:=.cons Ic (.cons EL (.cons t21 .nil));by_cases b:fx k s=ab
 .by_cases d:1<=by_/\by_<=2
  .by_cases c:cx t=ab
   .have e:iS k s by_ t=(if gm k s t=ab then s else dL k s by_ t,!gm k s t):=bm ⟨b,d,c⟩;rw[e];obtain⟨m,o,w,u,x⟩:=l b;have n:∀p∈s.1,0<p.2.length:=λp r=>((ju.1 b).pk p r).len.1;cases f:gm k s t with
    |true =>
     refine bl g [(14,af),(19,af),(23,af)] rfl ?_ ?_
     .simp only[az,cP.list_fn,gf.list_fn,cH.list_fn,cF.list_fn,b,g9,c,d,jC];and_intros<;>first|rfl|exact True.intro|exact cP.aU _|exact gf.aU _|exact cH.aU _|exact cF.aU _|exact a.s2|exact a.p|exact a.sn
     refine AK.cP (rz k s by_ t m a q (eh c) o n f) [] rfl (λ_=>rfl) λ_=>?_;refine dc rfl ay ?_;refine AK.lC () [] rfl rfl rfl rfl rfl rfl rfl rfl rfl ?_ rfl rfl rfl rfl xa;simp
    |false =>
     refine AK.spare 37 2 ?_;refine bl g [(14,af),(19,af),(23,af)] rfl ?_ ?_
     .simp only[az,cP.list_fn,gf.list_fn,cH.list_fn,cF.list_fn,b,g9,c,d,jC];and_intros<;>first|rfl|exact True.intro|exact cP.aU _|exact gf.aU _|exact cH.aU _|exact cF.aU _|exact a.s2|exact a.p|exact a.sn
     refine AK.cP (xU k s by_ t m a q (eh c) o n f) [0] rfl (λ_=>rfl) λv=>?_;refine dc rfl ay ?_;refine AK.ri 0 2 0 (E:=37) (k:=2) (cl:=Gq (dL k s by_ t).1) (by decide) rfl rfl rfl (λ_ h=>h) ?_;refine AK.lC () [] rfl rfl rfl rfl rfl rfl rfl rfl rfl ?_ rfl rfl rfl rfl xa;simp
   .have e:iS k s by_ t=(([],[],[]),af):=aZ λh=>c h.2.2;rw[e];have i:cx t=af:=by grind
    refine bl g [(14,af),(19,af),(23,ab)] rfl ?_ ?_
    .simp only[az,cP.list_fn,gf.list_fn,cH.list_fn,cF.list_fn,b,g9,i,d,jC];and_intros<;>first|rfl|exact True.intro|exact cP.aU _|exact gf.aU _|exact cH.aU _|exact cF.aU _|exact a.s2|exact a.p|exact a.sn
    refine AK.lC () [] rfl rfl rfl rfl rfl rfl rfl rfl rfl ?_ rfl rfl rfl rfl xa;simp
  .have e:iS k s by_ t=(([],[],[]),af):=aZ λh=>d h.2.1;rw[e];refine bl g [(14,af),(19,ab),(23,ab)] rfl ?_ ?_
   .simp only[az,cP.list_fn,gf.list_fn,cH.list_fn,b,d,kA];and_intros<;>first|rfl|exact True.intro|exact cP.aU _|exact gf.aU _|exact cH.aU _|exact a.s2|exact a.p|exact a.sn
   refine AK.lC () [] rfl rfl rfl rfl rfl rfl rfl rfl rfl ?_ rfl rfl rfl rfl xa;simp
 .have e:iS k s by_ t=(([],[],[]),af):=aZ λh=>b h.1;rw[e];have j:fx k s=af:=by grind
  refine bl g [(14,ab),(19,ab),(23,ab)] rfl ?_ ?_
  .simp only[az,cP.list_fn,gf.list_fn,cH.list_fn,j];and_intros<;>first|rfl|exact True.intro|exact cP.aU _|exact gf.aU _|exact cH.aU _|exact a.s2|exact a.p|exact a.sn
  refine AK.lC () [] rfl rfl rfl rfl rfl rfl rfl rfl rfl ?_ rfl rfl rfl rfl xa;simp
end
def xV{k:Int}{l:List cn}:∀(ps a:List Bs),a.Nodup->(ps.foldl (iE k l) a).Nodup
 |[],a,h=>h
 |p::ps,a,h=>by rw[lh];refine xV ps _ ?_;unfold iE;grind
def yk(k:Int)(t:List bz)(l:List cn):(dz k t l).Nodup:=xV _ _ List.nodup_nil
theorem zg{l:List bo}{x y:bo}:y∈gG l x↔y=x∨y∈l:=by
 induction l with
 |nil=>simp[gG]
 |cons a r b=>simp only[gG];split<;>simp[b,or_left_comm,or_assoc]
def MC{l:List bo}{x:bo}(h:l.Pairwise λa b=>a.1<b.1)(c:∀y∈l,y.1≠x.1):(gG l x).Pairwise λa b=>a.1<b.1:=by
 induction l with
 |nil=>simp[gG]
 |cons a r d =>
  obtain⟨g,e⟩:=ji.1 h;have f:=c a mT;simp only[gG];grind[List.pairwise_cons,zg]
def QQ:∀(l a:List bo),a.Pairwise (λx y=>x.1<y.1)->l.Pairwise (λx y=>x.1≠y.1)->(∀x∈l,∀y∈a,y.1≠x.1)->(l.foldl gG a).Pairwise λx y=>x.1<y.1
 |[],_,h,_,_=>h
 |x::l,a,h,b,c=>by obtain⟨d1,d2⟩:=ji.1 b;refine QQ l _ (MC h (c x mT)) d2 λz d y e=>?_;grind[zg]
theorem G1(k:Int)(qs:List Bs):qA k qs=(qs.map (k8 k)).foldl gG []:=by unfold qA;rw[List.foldl_map];rfl
theorem G2{k:Int}{qs:List Bs}(hk:cd k=ab)(d:∀q∈qs,bx q=ab)(f:qs.Nodup):(qs.map (k8 k)).Pairwise λx y=>x.1≠y.1:=by rw[List.pairwise_map];refine List.Pairwise.imp_of_mem (λ{a b} h g c e=>c ?_) f;exact Il hk (d a h) (d b g) e
theorem Di{no k:Int}{qs:List Bs}(hk:cd k=ab)(b:∀q∈qs,bx q=ab)(a:qs.Nodup)(c:qs.length<=4):zf no k qs=g6 no k qs:=by
 show(no,mJ (qs.map (k8 k)))=(no,qA k qs)
 grind[K3,G2,G1]
theorem uG{no k:Int}{qs:List Bs}(hk:cd k=ab)(b:∀q∈qs,bx q=ab)(e:qs.Nodup)(g:1<=qs.length)(f:qs.length<=4):gg k (g6 no k qs)=decide (1<=no/\no<=99):=by
 have c:(qA k qs).length=qs.length:=sG k qs;rw[pT,ru,ba];constructor
 .exactλh=>h.no
 .intro h;refine⟨h,hk,by show 1<=(qA k qs).length/\_;rw[show(g6 no k qs).2=qA k qs from rfl];omega,λx d=>?_,?_⟩
  .obtain⟨p,a,rfl⟩:=ON (show x∈qA k qs from d);have:=CR (b p a);simp[right,this]
  .show (qA k qs).Pairwise _;rw[G1];exact QQ _ _ List.Pairwise.nil (G2 hk b e) (by simp)
def rA(k:Int):∀(f:Nat) (no:Int)(l:List Bs),l.length<=f->fH k f no l=(bg ((l.length+3) / 4)).map λj:Nat=>g6 (no+j) k (ua l j)
 |0,no,l,h=>by
  have:l.length=0:=by omega
  simp[fH,this]
 |f+1,no,l,h=>by
  simp only[fH];by_cases a:0<l.length
  .rw[bm a,rA k f (no+1) (l.drop 4) (by grind)];have e:(l.length+3) / 4=((l.drop 4).length+3) / 4+1:=by grind
   rw[e,uX,pU,List.map_map];congr 1
   .simp[ua]
   .refine List.map_congr_left λj _=>?_;show g6 (no+1+(j:Nat)) k (((l.drop 4).drop (4*j)).take 4)=g6 (no+((j+1:Nat):Int)) k ((l.drop (4*(j+1))).take 4);grind[List.drop_drop]
  grind
def MD{l:List Bs}(c:∀q∈l,bx q=ab)(a:l.Nodup){j:Nat}(d:j<(l.length+3) / 4):(∀q∈ua l j,bx q=ab)/\(ua l j).Nodup/\1<=(ua l j).length/\(ua l j).length<=4 :=
 ⟨λq b=>c q (rE (fV b)),(a.sublist (List.drop_sublist _ _)).sublist (List.take_sublist _ _),by simp[ua];omega,by simp[ua];omega⟩
def ME{k:Int}{s:bn}{l:List Bs}(hk:cd k=ab)(b:∀q∈l,bx q=ab)(a:l.Nodup){j:Nat}(c:j<(l.length+3) / 4):IA k s l j=(decide (1<=cO s+(j:Int)/\cO s+(j:Int)<=99)&&!(s.1.length+j==20)):=by obtain⟨c1,c2,c3,c4⟩:=MD b a c;unfold IA nS;grind[Di,uG]
def Py{k:Int}{s:bn}{l:List Bs}(hk:cd k=ab)(c:∀q∈l,bx q=ab)(b:l.Nodup)(e:∀j,j<(l.length+3) / 4->IA k s l j=ab):j4 k s l ((l.length+3) / 4)=fH k l.length (cO s) l:=by
 rw[rA k _ _ _ (bh _)];refine List.map_congr_left λj a=>?_;have a:=n8.1 a;obtain⟨c1,c2,c3,c4⟩:=MD c b a;have f:=e j a;have d:gg k (g6 (cO s+(j:Int)) k (ua l j))=ab:=by rw[uG hk c1 c2 c3 c4];rw[ME hk c b a]at f;grind
 unfold nS;rw[Di hk c1 c2 c4,bm d]
def pE.cO{k:Int}{s:bn}(h:pE k s):1<=cO s/\cO s<=100:=by
 unfold R1.cO;split
 .omega
 .rename_i a;have:=(h.pk _ (tQ a (0,[]))).no;omega
def Fl(k:Int)(s:bn)(by_:Int)(t:List bz):mQ k s by_ t=iS k s by_ t:=by
 unfold mQ iS;by_cases h:fx k s=ab/\(by_=1∨by_=2)/\cx t=ab
 .rw[bm h,bm ⟨h.1,by omega,h.2.2⟩];have c:=ju.1 h.1;have B:=c.cO;have A:s.2.2.length<=9:=by have:=c.log;simp only[k6,bR,ba]at this;exact this.2
  have u:=c.len;have p:=(kt (k:=k) (l:=indexOf s.1) (eh h.2.2)).1;have q:=yk k t (indexOf s.1);have b:(sx k s t).length=((dz k t (indexOf s.1)).length+3) / 4:=by unfold sx;rw[rA _ _ _ _ (bh _)];simp
  have g:sx k s t=fH k (dz k t (indexOf s.1)).length (cO s) (dz k t (indexOf s.1)):=rfl;unfold sT;simp only;generalize dz k t (indexOf s.1)=l at *;obtain⟨C,D,w,y⟩:=pH (IA k s l) ((l.length+3) / 4) 0;generalize lx (IA k s l) ((l.length+3) / 4) 0=m at *;have n:∀j,j<(l.length+3) / 4->IA k s l j=(decide (1<=cO s+(j:Int)/\cO s+(j:Int)<=99)&&!(s.1.length+j==20)):=λj f=>ME c.key p q f;by_cases i:m<(l.length+3) / 4
  .rw[bm i];have r:=y (by omega);rw[n m i]at r;have d:gm k s t=ab:=by simp only[gm,jB,ba,b];simp only[pK,bO,pP,hI]at r;omega
   grind
  .rw[aZ i];obtain rfl:m=(l.length+3) / 4:=by omega
   have a:∀j,j<(l.length+3) / 4->1<=cO s+(j:Int)/\cO s+(j:Int)<=99/\s.1.length+j≠20:=λj f=>by grind
   have x:s.1.length+(l.length+3) / 4<=20:=by refine Nat.le_of_not_lt λE=>?_;exact(a (20-s.1.length) (by omega)).2.2 (by omega)
   have z:cO s+(((l.length+3) / 4:Nat):Int)-1<=99:=by
    rcases mS ((l.length+3) / 4)with e|e
    .grind
    .have:=(a ((l.length+3) / 4-1) (by omega)).2.1;omega
   by_cases v:20<dv s
   .rw[bm v];have d:gm k s t=ab:=by simp only[gm,jB,ba];grind
    grind
   .rw[aZ v];by_cases o:s.2.2.length=9
    .rw[bm o];have d:gm k s t=ab:=by simp only[gm,jB,ba];grind
     grind
    .rw[aZ o];have d:gm k s t=af:=by simp only[gm,u4,bO,b];omega
     rw[d];simp only[dL,g,Py c.key p q λj f=>w j (lk _) f,n9];rfl
 grind
theorem Dj{l:List cn}{x y:cn}(h:y∈gp l x):y=x∨y∈l:=by
 induction l with
 |nil=>simpa[gp]using h
 |cons a r b =>
  simp only[gp]at h;grind
def MF{l:List cn}{x:cn}(h:l.Pairwise λa b=>a.1<b.1):(gp l x).Pairwise λa b=>a.1<b.1:=by
 induction l with
 |nil=>simp[gp]
 |cons a r c =>
  obtain⟨g,d⟩:=ji.1 h;simp only[gp];split
  .rename_i e;refine ji.2 ⟨λy f=>?_,c d⟩;grind[Dj]
  grind[List.pairwise_cons]
def Dk:∀(l a:List cn),(∀x∈l,eF x=ab)->(∀x∈a,eF x=ab)->a.Pairwise (λa b=>a.1<b.1)->(∀x∈l.foldl gp a,eF x=ab)/\(l.foldl gp a).Pairwise λa b=>a.1<b.1
 |[],a,_,e,c=>⟨e,c⟩
 |x::l,a,h,e,c=>Dk l (gp a x) (λy d=>h y (qM _ d)) (λy d=>by grind[Dj]) (MF c)
theorem Pz{l:List cn}(c:∀x∈l,eF x=ab)(d:l.Pairwise λa b=>a.1<b.1):ry l l.length=ab:=by
 refine dy.2 λi hi=>?_;rw[bR];refine⟨c _ (by grind),?_⟩;rcases mS i with e|e
 .simp[e]
 .rw[jB];grind[List.pairwise_iff_getElem]
def Fo(l:List bG):ry (indexOf l) (indexOf l).length=ab:=by
 unfold indexOf;split
 .rename_i h;obtain⟨b,a⟩:=Dk (cW l) [] (List.all_eq_true.1 h) (by simp) List.Pairwise.nil;grind[Pz]
 .rfl
def Fp{l:List bG}(h:∀x∈l,x.2.length<=4):(cW l).length<=4*l.length:=by
 induction l with
 |nil=>simp[cW]
 |cons f r d =>
  have a:=d λg c=>h g (qM _ c);have b:=h f mT;simp only[cW,u6,c7,lg,eU]at a⊢;omega
def pE.dv{k:Int}{s:bn}(h:pE k s)(a:rq s):1<=dv s:=by have b:=nL s.2.2 a.h;unfold R1.dv;split<;>omega
def pE.save{k:Int}{s:bn}(h:pE k s)(b:rq s):Bc k s:=by refine⟨h.key,?_,Fo _,h.log,h.dv b⟩;have:=Fp λx a=>(h.pk x a).len.2;have:=h.len;omega
structure Tz(q:bn×Int×List bz):Prop where
 sz:lD q.1
 sm:OW q.1
 nu:rq q.1
 by':1<=q.2.1/\q.2.1<=3
 an:(GH q.1.2.1).length<=4800
abbrev WK:={q:bn×Int×List bz // Tz q}
abbrev dDr(q:bn×Int×List bz):D:=.eX [.one (.c (.int .i64 7)),.agg [.c (Gq q.1.1),.c (EK q.1.2.1),.c (Ct q.1.2.2)],.one (.c (.int .i64 q.2.1)),.one (.c (.sl af 2 q.2.2.length (cF.fn q.2.2)))]
def WL(m:Nat)(b:Nat->Int):Prop:=eb (ι:=WK) (Cx.beside ag) 6 [.e (.one (.c (.sl af 1 m (Gz b))))] [] (λq=>dDr q.1) (λ_=>[])
def Dl{k:Int}{s:bn}{by_:Int}{t:List bz}(c:fx k s=ab)(a:1<=by_/\by_<=2)(b:cx t=ab):iS k s by_ t=(if gm k s t=ab then s else dL k s by_ t,!gm k s t):=bm ⟨c,a,b⟩
def PC(x:gE):Prop:=x.2.length<=6/\∀y∈x.2,y.2.length<=4000000
theorem PC.of{no k:Int}{t:List bz}(b:cx t=ab):PC (ft no k t):=by have d:=mc b;refine⟨by simpa[ft]using d,λy a=>?_⟩;simp only[ft,kB]at a;obtain⟨f,c,rfl⟩:=a;have:=((eh b).sY f c).2;have:=kv f.2;simp only[oH,lg];omega
def uH{k:Int}{s:bn}{by_:Int}{t:List bz}(e:lD s):lD (iS k s by_ t).1:=by
 unfold iS;split
 .rename_i h;have f:=ju.1 h.1;show lD (if gm k s t=ab then s else dL k s by_ t);split
  .exact e
  .rename_i g;have g:gm k s t=af:=by grind
   simp only[gm,u4,bO]at g;have c:PC (ft (dv s) k t):=PC.of h.2.2;have j:=(kt (k:=k) (l:=indexOf s.1) (eh h.2.2)).1;have m:=GK 1 f.sa λx b=>(f.sn x b).1;have d:=f.log;simp only[k6,bR,ba]at d;refine⟨by simp only[dL,c7];omega,λp a=>?_,by simp only[dL,c7,jg];omega,λx b=>?_,by simp only[dL,c7,jg];omega⟩
   .simp only[dL]at a;rcases fX.1 a with a|a
    .exact e.p2 p a
    .obtain⟨i,qs,_,_,_,n,_,rfl⟩:=tP k _ _ _ j p a;have:(qA k qs).length=qs.length:=sG k qs;show(qA k qs).length<=_;omega
   .simp only[dL]at b;rcases fX.1 b with b|b
    .exact e.s2 x b
    .rw[fW]at b;subst b;exact⟨by have:=c.1;omega,c.2⟩
 .exact⟨by simp,by simp,by simp,by simp[ov],by simp⟩
structure Sv(k:Int)(s:bn)(by_:Int)(t:List bz):Prop where
 st:pE k s
 nu:rq s
 by':1<=by_/\by_<=2
 tr:cx t=ab
 fu:gm k s t=af
section
variable {k:Int}{s:bn}{by_:Int}{t:List bz}
end
end Go.AM.R1
namespace Go.AM
def MO{α:Type}(d:α){P:Nat->α->Prop}:∀n:Nat,(∀i,i<n->∃x,P i x)->∃l:List α,l.length=n/\∀i,i<n->P i (l.getD i d)
 |0,_=>⟨[],rfl,λi hi=>absurd hi (fL _)⟩
 |n+1,h=>by obtain⟨l,e,c⟩:=MO d n λi hi=>h i (by omega);obtain⟨x,a⟩:=h n (by omega);refine⟨l++[x],by grind,λi hi=>?_⟩;grind
inductive Fit (M:Mem) (b o:Nat) (u:ah) (x:Int):Prop
 |int (n:Int) (h:M b o=aa (.int .i64 n)) (hu:∀M',Rd M' u (.int .i64 x))
 |str (s:ByteArray) (h:M b o=aa (.string s)) (l:List UInt8) (hu:∀M',Rd M' u (.str l))
section
variable {M:Mem}{b o m g:Nat}{u v:ah}{x:Int}
def Fit.i(h:Fit M b o u x){n:Int}(c:M m g=aa v)(d:Rd M v (.int .i64 n)):∃a v',M.up b o u m g=aa v'/\(∀M',Rd M' v' (.int .i64 a))/\(a=n∨a=x):=by
 unfold Mem.up;by_cases e:m=b/\g=o
 .obtain⟨rfl,rfl⟩:=e;rw[bm ⟨rfl,rfl⟩];cases h with
  |int _ _ f=>exact⟨x,u,rfl,f,.inr rfl⟩
  |str s h=>rw[h]at c;cases c;cases d
 .rw[aZ e,c];cases d with
  |int h=>exact⟨n,_,rfl,λ_=>.int h,.inl rfl⟩
def Fit.s(h:Fit M b o u x){l:List UInt8}(a:M m g=aa v)(c:Rd M v (.str l)):∃l' v',M.up b o u m g=aa v'/\∀M',Rd M' v' (.str l'):=by
 unfold Mem.up;by_cases e:m=b/\g=o
 .obtain⟨rfl,rfl⟩:=e;rw[bm ⟨rfl,rfl⟩];cases h with
  |int n h=>rw[h]at a;cases a;cases c
  |str _ _ l' hu=>exact⟨l',u,rfl,hu⟩
 .rw[aZ e,a];cases c with
  |str h1 h2=>exact⟨l,_,rfl,λ_=>.str h1 h2⟩
def Fit.l(h:Fit M b o u x){t:Bool}{k n:Nat}{es:Nat->List C}(a:M m g=aa v)(c:Rd M v (.sl t k n es)):M.up b o u m g=aa v:=by
 unfold Mem.up;by_cases e:m=b/\g=o
 .obtain⟨rfl,rfl⟩:=e;cases h with
  |int n h=>rw[h]at a;cases a;cases c
  |str s h=>rw[h]at a;cases a;cases c
 grind
end
namespace R1
def two{α:Type}{P:Nat->α->Prop}{x y:α}(d:P 0 x)(a:P 1 y):∀j c,[x,y][j]?=aa c->P j c
 |0,_,h=>by grind
 |1,_,h=>by grind
def PF{M:Mem}{b o:Nat}{u:ah}{x:Int}(h:Fit M b o u x){v:ah}{e:List bo}(q:Rd M v (.sl af 2 e.length (dN.fn e))):∃d:List bo,d.length=e.length/\Rd (M.up b o u) v (.sl af 2 d.length (dN.fn d)):=by
 obtain⟨a,cap,n,k,rfl,B,z,F,K,f⟩:=q.Ef;obtain⟨l,p,t⟩:=MO (0,[]) (P:=λi (y:bo)=>∀(j:Nat) (c:C),[C.int .i64 y.1,.str y.2][j]?=aa c->∃w,M.up b o u n (k+i*2+j)=aa w/\Rd (M.up b o u) w c) e.length λi hi=>by obtain⟨w0,I,r0⟩:=f i hi 0 _ rfl;obtain⟨w1,J,H⟩:=f i hi 1 _ rfl;obtain⟨G,v0,E,r,_⟩:=h.i I r0;obtain⟨l',v1,D,A⟩:=h.s J H;exact⟨(G,l'),two (P:=λj c=>∃w,M.up b o u n (k+i*2+j)=aa w/\Rd (M.up b o u) w c) ⟨v0,E,r _⟩ ⟨v1,D,A _⟩⟩
 exact⟨l,p,by rw[p];exact .RN B z F (λ_ _=>rfl) t⟩
structure Xt(x:Int)(ps T1:List bG):Prop where
 len:T1.length=ps.length
 at':∀i,i<ps.length->(T1.getD i (0,[])).2.length=(ps.getD i (0,[])).2.length/\((T1.getD i (0,[])).1=(ps.getD i (0,[])).1∨(T1.getD i (0,[])).1=x)
def MP{M:Mem}{b o:Nat}{u:ah}{x:Int}(h:Fit M b o u x){v:ah}{ps:List bG}(s:TA v ps M):∃d,Xt x ps d/\TA v d (M.up b o u):=by
 obtain⟨a,cap,p,n,rfl,B,z,H,L,f⟩:=Rd.Ef s;obtain⟨l,q,k⟩:=MO (0,[]) (P:=λi (y:bG)=>(y.2.length=(ps.getD i (0,[])).2.length/\(y.1=(ps.getD i (0,[])).1∨y.1=x))/\∀(j:Nat) (c:C),[C.int .i64 y.1,sP y][j]?=aa c->∃w,M.up b o u p (n+i*2+j)=aa w/\Rd (M.up b o u) w c) ps.length λi hi=>by obtain⟨w0,J,r0⟩:=f i hi 0 _ rfl;obtain⟨w1,K,r⟩:=f i hi 1 _ rfl;obtain⟨I,v0,F,t,G⟩:=h.i J r0;have E:=h.l K r;obtain⟨e,D,A⟩:=PF h r;exact⟨(I,e),⟨D,G⟩,two (P:=λj c=>∃w,M.up b o u p (n+i*2+j)=aa w/\Rd (M.up b o u) w c) ⟨v0,F,t _⟩ ⟨w1,E,A⟩⟩
 refine⟨l,⟨q,λi hi=>(k i hi).1⟩,?_⟩;show Rd _ _ (.sl af 2 l.length (cP.fn l));rw[q];exact .RN B z H (λ_ _=>rfl) λi hi=>(k i hi).2
structure Be(s:bn):Prop where
 p:∀p∈s.1,p.2.length<=4/\0<=p.1/\p.1<=99
 pl:s.1.length<=20
 ex:∃ps,D7 (ps,s.2)
def D7.WN{s:bn}(h:D7 s):Be s:=⟨λp a=>by have h1:=(h.p p a).len;have h2:=(h.p p a).no;omega,h.pl,s.1,h⟩
def Be.spo{s:bn}(h:Be s){c:List bG}(d:Xt 0 s.1 c):Be (c,s.2):=by
 refine⟨λp e=>?_,by rw[d.len];exact h.pl,h.ex⟩;obtain⟨i,hi,rfl⟩:=nU.1 e;have a:i<s.1.length:=by rw[<-d.len];exact hi
 have h1:=d.at' i a;have h2:=h.p _ (e9 a (0,[]));grind
def Be.sub{s:bn}(h:Be s){a:List bG}(d:∀p∈a,p∈s.1)(hl:a.length<=s.1.length):Be (a,s.2):=⟨λp c=>h.p p (d p c),iP hl h.pl,h.ex⟩
def Be.size{s:bn}(h:Be s):lD s:=by obtain⟨ps,d⟩:=h.ex;have a:=d.size;have h1:=h.pl;exact⟨by omega,λp c=>by have:=(h.p p c).1;omega,a.sn,a.s2,a.h⟩
def Be.num{s:bn}(h:Be s):rq s:=by obtain⟨ps,d⟩:=h.ex;have a:=d.num;exact⟨λp c=>by have:=(h.p p c).2;omega,a.s,a.h⟩
def ID{no k:Int}{t:List bz}(e:cx t=ab):(vA (ft no k t).2).length<=240:=by have a:=mO.1 e;refine E4 ⟨by simpa[ft]using a.2.2.2,λy c=>?_⟩;obtain⟨f,d,rfl⟩:=kB.1 c;have h:=(a.1 f d).2;simp only[ef,bR,ba]at h;have i:=kv f.2;show((pieces f.2).map _).length<=40;grind
def Be.an{s:bn}(h:Be s):(GH s.2.1).length<=4800:=by
 obtain⟨ps,a⟩:=h.ex;have e:=a.sl;have f:(GH s.2.1).length<=240*s.2.1.length:=ox λx c=>by obtain⟨no,t,_,_,d,rfl⟩:=(a.s x c).ex;exact ID d
 grind
def Be.smT{s:bn}(h:Be s):OW s:=by
 have a:=h.size;have h1:=h.pl;have h2:=h.an;have d:(bX s.1).length<=4*s.1.length:=ox λp c=>by rw[lg];exact(h.p p c).1
 exact⟨⟨a.p,a.s2,a.sn,by omega⟩,a.p2,by omega⟩
end R1
def dW.q4b{P:aq}{X:Cx P}{N:Nat}{all:List au}{φ:Fr}{x:Nat->D}{d:Bool->Bool->Bool->Bool->List aP}{i g j f e:Nat}{o:au}(h1:aB g i=af)(h2:aB j i=af)(m:aB f i=af)(k:aB e i=af)(l:fN all e i=ab)(h:∀a b c,OA X N all o (jY all φ x i) (d a b c af) (x i) (d a b c af)):dW X N all φ x (pj d g j f e) i o:=by intro D hT hF;grind[qZ]
namespace R1
variable {X:Cx ag}[X.gY]
abbrev SpI(k:Nat):={q:bn×Nat // Be q.1/\k<=q.2/\q.2<=k+1100}
def Be.del{s:bn}(h:Be s)(i:Nat):Be (s.1.take i++s.1.drop (i+1),s.2):=h.sub (λp a=>by grind) (by grind)
def qv{M:Mem}{b o cap:Nat}{ps:List bG}{i:Nat}(h:TA (.slice (aa ⟨b,o,ae⟩) ps.length cap) ps M)(hi:i<ps.length):(∃n,M b (o+i*2)=aa (.int .i64 n))/\∃w,M b (o+i*2+1)=aa w/\Rd M w (sP (ps.getD i (0,[]))):=by obtain⟨a,c2,k,j,e,_,_,g,_,c⟩:=Rd.Ef h;cases e;cases g (by omega);obtain⟨w0,l,r0⟩:=c i hi 0 _ rfl;obtain⟨w1,d,f⟩:=c i hi 1 _ rfl;refine⟨?_,w1,d,f⟩;cases r0;grind
theorem G4{M:Mem}{c o cap:Nat}{b:List bo}(h:Rd M (.slice (aa ⟨c,o,ae⟩) b.length cap) (.sl af 2 b.length (dN.fn b)))(hi:0<b.length):∃s,M c (o+0*2+1)=aa (.string s):=by obtain⟨a,c2,j,i,e,_,_,g,_,d⟩:=h.Ef;cases e;cases g hi;obtain⟨w1,k,f⟩:=d 0 hi 1 _ rfl;cases f;grind
abbrev mX(s:bn)(i:Nat):Nat:=c9 s.1.length (aa (i:Int))-c9 0 ae
abbrev wX(s:bn)(i:Nat):Nat:=c9 s.1.length ae-c9 0 (aa ((i:Int)+1))
abbrev D9(s:bn):Nat->List C:=lZ (c9 0 ae) (cP.fn s.1)
abbrev zt(s:bn)(i:Nat):Nat->List C:=lZ (c9 0 (aa ((i:Int)+1))) (cP.fn s.1)
abbrev bf1(s:bn)(i:Nat):aP:=.buf 37 2 (0+mX s i) (cC 0 (λi=>([]:List (List C)).getD i []) (D9 s))
abbrev Xu(s:bn)(i:Nat):aP:=.buf 37 2 (0+mX s i+wX s i) (cC (0+mX s i) (cC 0 (λi=>([]:List (List C)).getD i []) (D9 s)) (zt s i))
def b9S(m:Nat)(b:Nat->Int)(k:Int)(s:bn)(i:Nat)(a c d e:Bool):List aP :=
 match a,c,d,e with
 |true,ab,ab,ab=>[kZ m b k,jq,yl,.cells 27 [.bp 4 (.sl (0+mX s i+wX s i) 2 0 (0+mX s i+wX s i)),.c (EK s.2.1),.c (Ct s.2.2)],Xu s i]
 |true,ab,ab,af=>[kZ m b k,jq,yl,tN s,Xu s i]
 |true,ab,af,_=>[kZ m b k,jq,yl,tN s,Xu s i]
 |true,af,_,_=>[kZ m b k,jq,yl,tN s,bf1 s i]
 |false,_,_,_=>[kZ m b k,jq,yl,tN s]
abbrev x9S(s:bn)(i j:Nat):D :=
 [.e (.one (.c (.sl ab 2 0 λi=>([]:List (List C)).getD i []))),.e (.one (.ptr 3 0)),cP.sl s.1,dI i,.e (.one (.c (.sl af 2 (mX s i) (D9 s)))),.e (.one (.bp 4 (.sl (0+mX s i) 2 0 (0+mX s i)))),
  .e (.one (.ptr 3 0)),cP.sl s.1,dI i,dI ((i:Int)+1),.e (.one (.c (.sl af 2 (wX s i) (zt s i)))),.e (.one (.bp 4 (.sl (0+mX s i+wX s i) 2 0 (0+mX s i+wX s i)))),.e (.one (.ptr 3 0)),.any].getD j .any
set_option maxRecDepth 20000 in
def Dn(m:Nat)(b:Nat->Int)(Q:Bytes b)(k:Nat)(hk:k<=40000)(R:m<=1048576):
  eb (ι:=SpI k) X 16 [.e (.one (.ptr 0 0))] [kZ m b k] (λq=>rj q.1.1) (λq=>[kZ m b q.1.2]):=by
 refine eb.rW tok Tryz.func16 rfl rfl rfl λhf=>?_;refine bt rfl ay ?_;refine AK.cP (Dm m b Q k hk R) [0] rfl (λ_=>rfl) ?_;rintro⟨⟨s,v,k1⟩,t,H,I⟩;simp only at t H I;refine aX [(1000002,ab)] rfl ay ?_;have hpl:=t.pl;by_cases V:s.1.length=0
 .refine AK.ri 2 3 0 (E:=37) (k:=2) (cl:=Gq s.1) (by decide) rfl rfl rfl (λ_ h=>h) ?_;refine aX [(10,ab)] rfl (by simp[V]) ?_;refine AK.mG ⟨(s,k1),t.WN,H,by grind⟩ [0] rfl rfl rfl rfl rfl rfl rfl rfl ?_ rfl rfl rfl rfl ig;simp
 refine AK.fact (PM.of (l:=2) (p:=∃a cap b' o,v=.slice a s.1.length cap/\(0<s.1.length->a=aa ⟨b',o,ae⟩)) rfl λM f=>?_) ?_
 .grind [Rd.Ef]
 rintro⟨a,cap,b',o,rfl,ha⟩;obtain rfl:=ha (by omega);refine aX [(10,af)] rfl (by simp[V];omega) ?_;refine AK.cP (gv m b Q k1 s.1.length (by omega) R (by omega)) [0] rfl (λ_=>rfl) ?_;rintro⟨i,i0,y⟩;obtain⟨i,rfl⟩:=Int.eq_ofNat_of_zero_le i0;have y:i<s.1.length:=by omega
 refine bt rfl ay ?_;refine AK.cP (gv m b Q (k1+1) 24 (by omega) R (by omega)) [0] rfl (λ_=>rfl) ?_;rintro⟨w,w0,w1⟩;refine aX [(1000006,ab)] rfl ay ?_;have G:0<(s.1.getD i (0,[])).2.length:=t.ne _ (e9 y (0,[]));by_cases A:w=0
 .have o4:az (fM s.1.length ae (aa (i:Int))):=by simp only[fM,az];omega
  have o9:az [bA .i64 ((i:Int)+1)]:=by simp only[az,bA];omega
  have J:az (fM s.1.length (aa ((i:Int)+1)) ae):=by simp only[fM,az];omega
  have W:mX s i=i:=by show((i:Int)).toNat-0=i;omega
  have e2:wX s i=s.1.length-(i+1):=by show s.1.length-((i:Int)+1).toNat=_;omega
  have o5:az [(0+mX s i)*i37.bytes<=140737488355328]:=by rw[show i37.bytes=32 from rfl,W];simp only[az];omega
  have K:az [0+mX s i=0+mX s i,0+mX s i=0+mX s i,(0+mX s i+wX s i)*i37.bytes<=140737488355328]:=by refine⟨rfl,rfl,?_⟩;rw[show i37.bytes=32 from rfl];simp only[az];omega
  refine AK.ri 2 3 0 (E:=37) (k:=2) (cl:=Gq s.1) (by decide) rfl rfl rfl (λ_ h=>h) ?_;refine aX [(20,ab),(1000007,ab)] rfl (by simp[A]) ?_;refine AK.flags iZ (x9S s i) (pj (b9S m b (k1+1+1:Nat) s i) 5 11 12 13) rfl rfl rfl rfl
   ⟨.qy tok bE.nil,
   .qy tok bE.nil,
   dW.q4b rfl rfl rfl rfl rfl (λa b c=>by cases a<;>cases b<;>cases c<;>exact OA.cT tok bE.nil rfl),
   .qy tok bE.nil,
   .Xe tok bE.nil o4,
   dW.c1 rfl rfl rfl rfl rfl rfl (gB (ds:=[(3000026,ab)]) tok bE.nil (σ':=aa _) rfl o5),
   .qy tok bE.nil,
   dW.q4b rfl rfl rfl rfl rfl (λa b c=>by cases a<;>cases b<;>cases c<;>exact OA.cT tok bE.nil rfl),
   .qy tok bE.nil,
   .Xe tok bE.nil o9,
   .Xe tok bE.nil J,
   dW.c2 rfl rfl rfl rfl rfl rfl (gB (ds:=[]) tok bE.nil (σ':=aa _) rfl K),
   dW.c3 rfl rfl rfl rfl rfl rfl (OA.cT tok bE.nil rfl),
   dW.c4 rfl rfl rfl rfl rfl rfl (gB (ds:=[]) tok bE.nil (σ':=aa _) rfl ay),ay⟩ ?_
  intro D r;show AK X _ _ _ _ _ (b9S m b (k1+1+1:Nat) s i (D 5) (D 11) (D 12) (D 13));rw[r 5 (by decide),r 11 (by decide),r 12 (by decide),r 13 (by decide)];refine AK.BZ (φ':=[(2,.e (.one (.ptr 1 0))),(3,.e (.one (.ptr 3 0)))]) (σ':=[kZ m b (k1+1+1:Nat),jq,yl,.cells 27 [.bp 4 (.sl (0+mX s i+wX s i) 2 0 (0+mX s i+wX s i)),.c (EK s.2.1),.c (Ct s.2.2)],Xu s i]) ?_ rfl (by simp) rfl (by simp);refine AK.oE 4 rfl rfl rfl (by simp) (by simp) ?_;refine bt rfl ay ?_;refine AK.mG ⟨((s.1.take i++s.1.drop (i+1),s.2),k1+1+1),t.WN.del i,by grind,by grind⟩ [0] rfl rfl rfl rfl rfl rfl rfl rfl ?_ rfl rfl rfl rfl ig;simp only[az.cat,az];refine⟨⟨by grind,λj hj=>?_⟩,⟨ay,.same⟩,⟨ay,.same⟩,ay⟩;show cC (0+mX s i) (cC 0 (λi=>([]:List (List C)).getD i []) (D9 s)) (zt s i) j=_;rw[W,bC];simp only[cC,D9,zt,lZ,c9,bC,fL,b7,lG,mg.fn,AE,show((i:Int)+1).toNat=i+1 by omega];grind
 by_cases F:w=1
 .refine aX [(20,af),(35,ab)] rfl (by simp[F];omega) ?_;refine AK.hand _ _ rfl rfl (dT.RO tok 2 rfl rfl (λ_=>rfl) rfl rfl (λM f=>?_)) λw1=>?_
  .obtain⟨_,w,g,q2⟩:=qv f y;exact⟨w,g,q2.cell⟩
  refine AK.Je (PM.of (l:=2) (p:=∃Z Y c2,w1=.slice (aa ⟨Z,Y,ae⟩) (s.1.getD i (0,[])).2.length c2) rfl λM f=>?_) ?_
  .obtain⟨_,w,g,q2⟩:=qv f.1 y;cases g.symm.trans f.2;grind[Rd.Ef]
  rintro⟨Z,Y,c2,rfl⟩;refine bt rfl (by simp only[az];omega) ?_;refine AK.hand _ _ rfl rfl (dT.F6 tok 2 rfl rfl rfl rfl rfl rfl rfl (λM f=>?_)) ?_
  .obtain⟨_,w,g,q2⟩:=qv f.1 y;cases g.symm.trans f.2;grind[G4]
  rintro⟨u,L⟩;refine aX [(1000012,ab)] rfl ay ?_;refine AK.Ns (ι:={d:List bG // Xt 0 s.1 d}) 2 (λq=>PM (TA (.slice (aa ⟨b',o,ae⟩) s.1.length cap) q.1)) rfl (λ_ ch T=>?_) ?_
  .obtain⟨N,P,M,f,U⟩:=T;obtain⟨_,w,g,q2⟩:=qv f.1 y;cases g.symm.trans f.2;obtain⟨s0,O⟩:=G4 q2 G;obtain⟨d,S,p2⟩:=MP (x:=0) (Fit.str s0 O _ L) f.1;exact⟨⟨d,S⟩,N,P,by grind⟩
  rintro⟨d,z⟩;refine AK.ri 2 3 0 (E:=37) (k:=2) (cl:=Gq d) (by decide) rfl rfl rfl (λ_ h=>by grind) ?_;refine bt rfl ay ?_;refine AK.mG ⟨((d,s.2),k1+1+1),t.WN.spo z,by grind,by grind⟩ [0] rfl rfl rfl rfl rfl rfl rfl rfl ?_ rfl rfl rfl rfl ig;simp
 by_cases B:w=2
 .refine aX [(20,af),(35,af),(45,ab)] rfl (by simp[B];omega) ?_;refine AK.hand _ _ rfl rfl (dT.F6 tok 2 rfl rfl rfl rfl rfl rfl rfl (λM f=>?_)) ?_
  .obtain⟨⟨n,g⟩,_⟩:=qv f y;exact⟨_,g⟩
  rintro⟨u,L⟩;refine aX [(1000012,ab)] rfl ay ?_;refine AK.Ns (ι:={d:List bG // Xt 0 s.1 d}) 2 (λq=>PM (TA (.slice (aa ⟨b',o,ae⟩) s.1.length cap) q.1)) rfl (λ_ ch T=>?_) ?_
  .obtain⟨N,P,M,f,U⟩:=T;obtain⟨⟨n,g⟩,_⟩:=qv f y;obtain⟨d,S,p2⟩:=MP (x:=0) (Fit.int n g L) f;exact⟨⟨d,S⟩,N,P,by rw[U];exact p2⟩
  rintro⟨d,z⟩;refine AK.ri 2 3 0 (E:=37) (k:=2) (cl:=Gq d) (by decide) rfl rfl rfl (λ_ h=>by grind) ?_;refine bt rfl ay ?_;refine AK.mG ⟨((d,s.2),k1+1+1),t.WN.spo z,by grind,by grind⟩ [0] rfl rfl rfl rfl rfl rfl rfl rfl ?_ rfl rfl rfl rfl ig;simp
 refine AK.ri 2 3 0 (E:=37) (k:=2) (cl:=Gq s.1) (by decide) rfl rfl rfl (λ_ h=>h) ?_;refine aX [(20,af),(35,af),(45,af)] rfl (by simp[A,F,B]) ?_;refine AK.mG ⟨(s,k1+1+1),t.WN,by grind,by grind⟩ [0] rfl rfl rfl rfl rfl rfl rfl rfl ?_ rfl rfl rfl rfl ig;simp
end R1
end Go.AM
namespace Go.AM.R1
def WO(m:Nat)(b:Nat->Int)(c:Bytes b)(f:m<=1048576):WL m b:=by
 refine eb.Ji Tryz.func6 rfl rfl (cV rfl) (AK.of_code ?_);refine bt rfl ay ?_;refine AK.cP (O1 m b f) [] rfl (λ_=>rfl) ?_;rintro⟨d,hm'⟩;refine bt rfl ay ?_;refine AK.cP (Dn d b c 0 (by omega) hm') [1] rfl (λ_=>rfl) ?_;rintro⟨⟨s,k⟩,a,_,hk⟩;simp only at a hk;refine bt rfl ay ?_;refine AK.cP (gv d b c k 2 (by omega) hm' (by omega)) [1] rfl (λ_=>rfl) ?_;rintro⟨u,g,i⟩;refine bt rfl (by simp only[az,bA];omega) ?_;refine AK.cP (gv d b c (k+1) 24 (by omega) hm' (by omega)) [1] rfl (λ_=>rfl) ?_;rintro⟨w,w0,w1⟩;refine bt rfl (by simp only[az,bA];omega) ?_;refine AK.cP (MQ d b c (k+1+1) (by omega) hm') [1] rfl (λ_=>rfl) ?_;intro q;refine bt rfl ay ?_;refine AK.freeze 3 0 rfl rfl rfl ?_;have e:1<=1+u+w / 23/\1+u+w / 23<=3:=by omega
 refine AK.iI (λ_ _ _ h=>⟨⟨(s,1+u+w / 23,q.t),a.size,a.smT,a.num,e,a.an⟩,h⟩) ?_;refine AK.Q6 tok [] rfl ?_ rfl rfl rfl xa;simp
def IF{k:Int}{s:bn}{by_:Int}{t:List bz}(c:rq s)(h:(iS k s by_ t).2=ab):Sv k s by_ t/\iS k s by_ t=(dL k s by_ t,ab):=by
 unfold iS at *;split at h
 .rename_i a;have b:gm k s t=af:=by grind
  exact⟨⟨ju.1 a.1,c,a.2.1,a.2.2,b⟩,by simp[a,b]⟩
 .cases h
def Sv.size{k:Int}{s:bn}{by_:Int}{t:List bz}(h:Sv k s by_ t)(a:lD s):lD (dL k s by_ t):=by
 have:=uH (k:=k) (by_:=by_) (t:=t) a
 rwa [Dl (ju.2 h.st) h.by' h.tr,h.fu]at this
def xw(j o:aj×ah)(m:Nat)(b:Nat->Int)(K:Bytes b)(_:m<=9223372036854775807):Ev (Cx.beside ag) 3 [.e (.one (.c (.sl af 1 m (Gz b))))] (Ty j o) (dB ab) (Ty j o):=by
 refine Ev.bQ Tryz.func3 rfl λN=>?_;by_cases O:1048576<m
 .refine aX [(15,ab)] rfl (by simp;omega) (AK.db [0,1,2] rfl ?_ rfl rfl rfl sU);simp
 refine aX [(15,af)] rfl (by simp;omega) ?_;refine AK.cP (WO m b K (by omega)) [] rfl (λ_=>rfl) ?_;rintro⟨⟨s,by_,t⟩,d,g,a,w,A⟩;simp only at d g a w A;have l:fx 7 s=ab->Bc 7 s:=λh=>(ju.1 h).save a;have F:=yj (X:=Cx.beside ag) 7 s by_ t d a l;have D:=yi j o 7 s by_ t d g a (by simp only[bA];omega) l;rw[Fl]at D;refine bt rfl ay ?_;refine AK.cQ F [] rfl ?_;refine bt rfl ay ?_;refine AK.cQ D [0,1,2] rfl ?_;have r:=EM (X:=Cx.beside ag) (iS 7 s by_ t).1 (uH d);have n:=IF (k:=7) (s:=s) (by_:=by_) (t:=t) a;generalize iS 7 s by_ t=q at *;obtain⟨x,ok⟩:=q;have c1:bE (Cx.beside ag) [(9,xd [rj x,rj x] (dB ab))]:=.cons (As r) .nil;cases ok with
 |false =>
  refine bl c1 [(42,af),(48,af),(51,ab),(55,ab)] rfl ?_ (AK.db [0,1,2] rfl (by simp) rfl rfl rfl sU);simp
 |true =>
  obtain⟨J,e⟩:=n rfl;cases e;have y:=J.size d;have M:=d.h;have H:=d.p;have I:=d.sn;refine bl c1 [(42,af),(48,af),(51,af)] rfl (by simp) ?_;clear c1 r F D n;have C:∀i,i<s.1.length->(dL 7 s by_ t).1.getD i (0,[])=s.1.getD i (0,[]):=λi hi=>by simp only[dL];grind
  have v:∀i,i<s.2.1.length->(dL 7 s by_ t).2.1.getD i (0,[])=s.2.1.getD i (0,[]):=λi hi=>by simp only[dL];grind
  have B:(dL 7 s by_ t).2.1.length=s.2.1.length+1:=by simp[dL]
  have E:s.1.length<=(dL 7 s by_ t).1.length:=by simp[dL]
  have L:=y.p;generalize dL 7 s by_ t=x at *;have c2:bE (Cx.beside ag) [(10,SA),(11,SB)]:=.cons VP (.cons VQ .nil);refine AK.loop (λi=>i<=s.1.length) (λi:Nat=>[(4,.e (.one (.ptr 3 0))),(9,.e (.one (.ptr 5 0))),(11,dI i)]) (λ_=>Ty j o++[tN s,tN x,tN x]) (λi=>s.1.length-i) 0 (by omega) (cA rfl (by simp)) rfl ?_;intro i hi;by_cases f:i<s.1.length
  .have z:x.1.getD (i:Int).toNat cP.bZ=s.1.getD i (0,[]):=C i f;have u:s.1.getD (i:Int).toNat cP.bZ=s.1.getD i (0,[]):=rfl;refine bl c2 [(64,ab),(78,af)] rfl ?_ ⟨i+1,f,by omega,cA rfl (by simp),rfl⟩;simp only[az,z,u,dN.list_fn,bA];and_intros<;>first|rfl|exact dN.aU _|omega|(simp<;>omega)
  obtain rfl:i=s.1.length:=by omega
  refine bl c2 [(64,af)] rfl (by simp) (AK.leave rfl rfl ?_);refine cw c2 rfl ay ?_;refine AK.loop (λi=>i<=s.2.1.length) (λi:Nat=>[(4,.e (.one (.ptr 3 0))),(9,.e (.one (.ptr 5 0))),(12,dI i)]) (λ_=>Ty j o++[tN s,tN x,tN x]) (λi=>s.2.1.length-i) 0 (by omega) (cA rfl (by simp)) rfl ?_;intro i hi;by_cases f:i<s.2.1.length
  .have z:x.2.1.getD (i:Int).toNat gf.bZ=s.2.1.getD i (0,[]):=v i f;have u:s.2.1.getD (i:Int).toNat gf.bZ=s.2.1.getD i (0,[]):=rfl;have G:=(d.s2 _ (e9 f (0,[]))).1;refine bl c2 [(83,ab),(97,af)] rfl ?_ ⟨i+1,f,by omega,cA rfl (by simp),rfl⟩;simp only[az,z,u,cL.list_fn,bA];and_intros<;>first|rfl|exact cL.aU _|exact G|omega|(simp<;>omega)
  obtain rfl:i=s.2.1.length:=by omega
  refine bl c2 [(83,af)] rfl (by simp) (AK.leave rfl rfl ?_);refine bl c2 [(106,ab)] rfl ?_ (AK.db [0,1,2] rfl ?_ rfl rfl rfl sU)
  .simp[B,bA];omega
  .simp[E]
end Go.AM.R1
