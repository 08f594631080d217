/- Part 6. No condition. -/
import Derived.Test.YtbaopamghpnebaaGreatDoorA5
set_option linter.all false
set_option maxHeartbeats 8000000
open Go.Proofs
open Go renaming Value → ah, Program → ar, TypeId → aj, Oper → au, FuncId → aJ
open Option renaming some → aa, none → ae
open Bool renaming true → ab, false → af
open List renaming getD_eq_getElem?_getD → aq, range → bg
open Nat renaming beq → aB, ble → bu
open Go.Proofs.Tryz renaming prog → ag
namespace Go.AM.R1
section
variable {X:Cx ag}
abbrev Qq(s:bm):aP:=.cells 27 [.c (.sl af 2 s.1.length (cP.fn s.1)),.c (.sl af 2 s.2.1.length (gp.fn s.2.1)),.c (.sl af 2 s.2.2.length (cH.fn s.2.2))]
def LB(k:Int)(s:bm)(x:gE)(a:x.2.length<=4000000)(b:∀y∈x.2,y.2.length<=4000000):Ev X 47 [dI k,rq s,Nb x] [] (dB (c9 k x s.1).isSome) []:=by
 refine Ev.bQ Tryz.func47 rfl λd=>?_;have c:bE X [(92,xC)]:=.cons ES .nil;have e:(x.1,cL.list x.2.length (cL.fn x.2))=x:=by rw[cL.list_fn]
 refine cf c rfl ?_ (AK.bw rfl ?_)
 .simp only[az,cL.list_fn,cL.aU,cP.aU,a,aG,aE];exact b
 .simp[cL.list_fn,cP.list_fn]
abbrev LC:dt:=Gg aI TR (Eu cL) (λk s x=>dB (c9 k x s.1).isSome) λ_ _ x=>[x.2.length<=4000000,∀y∈x.2,y.2.length<=4000000]
def SW:ef X 47 LC:=.Na λk s x h=>LB k s x h.1 h.2
def qx{α:Type}{f:α->Int}{d:α}{l:List α}{i:Nat}(h:i≠0):CL f d l i=decide (f (l.getD (i-1) d)<f (l.getD i d)):=by unfold CL;grind
def CM(k:Int)(s:bm)(K:ox s)(Q:s.1.length<=4000000)(N:s.2.1.length<=4000000):Ev X 19 [dI k,rq s] [] (dB (ft k s)) []:=by
 refine Ev.bQ Tryz.func19 rfl λR=>?_;have c:bE X [(45,CI),(46,QH),(20,Cu),(47,LC),(48,CG),(49,sL)]:=.cons Lv (.cons V4 (.cons EJ (.cons SW (.cons GF (.cons OY .nil)))));refine aW c [(1000002,ab)] rfl ay ?_;refine AK.iC 5 3 1 rfl rfl ?_;refine cf c rfl ay ?_;unfold ft;refine AK.cz 2 (λi=>i<=s.1.length/\(∀j,j<i->ma k s.1 j=ab)/\(bX (s.1.take i)).Nodup/\(bX (s.1.take i)).length<=4*i) (λi:Nat=>[(0,dI k),(3,.e (.one (.ptr 0 0))),(5,.e (.one (.vec 1 1 (bX (s.1.take i)).length (cI.fn (bX (s.1.take i)))))),(6,dI i)]) (λi=>[Qq s,.vec 3 1 (bX (s.1.take i)).length (cI.fn (bX (s.1.take i)))]) (λi=>s.1.length-i) 0 rfl (by simp[bX]) rfl (by simp[bX]) rfl ⟨by omega,by omega,by simp[bX],by simp[bX]⟩ ?_;rintro i ⟨hi,g,v,L⟩;by_cases h:i<s.1.length
 .have w:=xE h;have C:=Ia (ps:=s.1) (i:=i+1);have m:s.1.getD i cP.b5=s.1.getD i (0,[]):=rfl;have n:s.1.getD (i-1) cP.b5=s.1.getD (i-1) (0,[]):=rfl;have b:ma k s.1 i=(gg k (s.1.getD i (0,[]))&&CL (·.1) (0,[]) s.1 i):=rfl;have G:=qx (f:=λp:bG=>p.1) (d:=(0,[])) (l:=s.1) (i:=i);generalize E:s.1.getD i (0,[])=p at *;generalize s.1.getD (i-1) (0,[])=p' at *;cases t:gg k p with
  |false =>
   rw[t,rO]at b;refine aW c [(14,ab),(25,ab),(44,ab)] rfl ?_ (AK.fE (cp.zero rfl ?_))
   .simp[-aq,m,t,dO.list_fn,dO.aU,h]
   .rw[iH h b];simp
  |true =>
   have P:p.2.length<=4:=by grind[pG]
   rw[t,fC]at b;cases u:CL (·.1) (0,[]) s.1 i with
   |false =>
    have r:i≠0:=by rintro rfl;cases u
    have A:¬p'.1<p.1:=by grind
    refine aW c [(14,ab),(25,af),(28,ab),(42,ab),(44,ab)] rfl ?_ (AK.fE (cp.zero rfl ?_))
    .simp[-aq,m,n,t,dO.list_fn,dO.aU,h,bA];omega
    .rw[iH h (b.trans u)];simp
   |true =>
   rw[u]at b;apply AK.join [(0,dI k),(3,.e (.one (.ptr 0 0))),(5,.e (.one (.vec 1 1 (bX (s.1.take i)).length (cI.fn (bX (s.1.take i)))))),(6,dI i),(7,dI 0)] [Qq s,.vec 3 1 (bX (s.1.take i)).length (cI.fn (bX (s.1.take i)))]
   .intro z;by_cases r:i=0
    .subst r;refine aW c [(14,ab),(25,af),(28,af),(44,af)] rfl ?_ (z _ _ rfl ?_)
     .simp[-aq,m,t,dO.list_fn,dO.aU,h]
     .simp
    .have A:p'.1<p.1:=by grind
     refine aW c [(14,ab),(25,af),(28,ab),(42,af),(44,af)] rfl ?_ (z _ _ rfl ?_)
     .simp[-aq,m,n,t,dO.list_fn,dO.aU,h,bA];omega
     .simp
   generalize bX (s.1.take i)=ns at *;refine AK.cz 2 (λj=>j<=p.2.length/\(ns++(p.2.take j).map (·.1)).Nodup) (λj:Nat=>[(0,dI k),(3,.e (.one (.ptr 0 0))),(5,.e (.one (.vec 1 1 (ns++(p.2.take j).map (·.1)).length (cI.fn (ns++(p.2.take j).map (·.1)))))),(6,dI i),(7,dI j)]) (λj=>[Qq s,.vec 3 1 (ns++(p.2.take j).map (·.1)).length (cI.fn (ns++(p.2.take j).map (·.1)))]) (λj=>p.2.length-j) 0 rfl (by simp) rfl (by simp) rfl ⟨by omega,by grind⟩ ?_;rintro j ⟨O,F⟩;by_cases o:j<p.2.length
   .have B:p.2.getD j dO.b5=gX p j:=rfl;have x:ns++(p.2.take (j+1)).map (·.1)=(ns++(p.2.take j).map (·.1))++[(gX p j).1]:=by grind[bS]
    have y:(ns++(p.2.take j).map (·.1)).length=ns.length+j:=by grind
    generalize ns++(p.2.take j).map (·.1)=a at *;cases J:a.contains (gX p j).1 with
    |true =>
     refine aW c [(53,ab),(67,ab)] rfl ?_ (AK.fE (AK.sr (cp.zero rfl ?_)))
     .simp[-aq,-List.contains_eq_mem,m,B,h,o,J,cI.list_fn,cI.aU]
     .have M:¬(bX s.1).Nodup:=C (by
       have e:ns++p.2.map (·.1)=(ns++(p.2.take (j+1)).map (·.1))++(p.2.drop (j+1)).map (·.1):=by grind[List.take_append_drop]
       grind)
      simp[M]
    |false =>
     have I:=cI.cu a (gX p j).1;have D:cI.list (ns.length+j) (cI.fn a)=a:=by rw[<-y];exact cI.list_fn a
     refine aW c [(53,ab),(67,af)] rfl ?_ (AK.aQ (j+1) rfl ?_ ?_ ⟨o,?_⟩ (by omega))
     .simp[-aq,-List.contains_eq_mem,m,B,h,o,J,cI.list_fn,cI.aU,y,D,bA,show i3.bytes=8 from rfl];omega
     .rw[x];simp only[az.cat,az,b9,m,B,cX,jh,aG,aE];and_intros<;>first|exact cv.same|exact I|rfl|omega
     .rw[x];simp only[az.cat,az,b9,m,B,cX,jh,aG,aE];and_intros<;>first|exact cv.same|exact I|rfl|omega
     grind
   .obtain rfl:j=p.2.length:=by omega
    rw[di]at F⊢;refine aW c [(53,af)] rfl ?_ (AK.leaveD rfl rfl ?_)
    .simp[-aq,m,h]
    refine cf c rfl ?_ (AK.aQ (i+1) rfl ?_ ?_ ⟨h,jW g b,by grind,by grind⟩ (by omega))
    .simp[bA];omega
    .rw[w];simp
    .rw[w];simp
 obtain rfl:i=s.1.length:=by omega
 rw[di]at v⊢;refine aW c [(14,af)] rfl (by simp) (AK.leaveD rfl rfl ?_);refine cf c rfl ay ?_;rw[dz.2 g,db v,fC,fC];generalize bX s.1=ns;refine AK.cz 2 (λi=>i<=s.2.1.length/\(∀j,j<i->jX k s j=ab)) (λi:Nat=>[(0,dI k),(3,.e (.one (.ptr 0 0))),(8,dI i)]) (λ_=>[Qq s,.vec 3 1 ns.length (cI.fn ns)]) (λi=>s.2.1.length-i) 0 rfl (by simp) rfl (by simp) rfl ⟨by omega,by omega⟩ ?_;rintro i ⟨hi,g⟩;by_cases h:i<s.2.1.length
 .have m:s.2.1.getD i gp.b5=s.2.1.getD i (0,[]):=rfl;have n:s.2.1.getD (i-1) gp.b5=s.2.1.getD (i-1) (0,[]):=rfl;have q:=K _ (lR (d:=(0,[])) h);have b:jX k s i=(decide (1<=(s.2.1.getD i (0,[])).1/\(s.2.1.getD i (0,[])).1<=20)&&CL (·.1) (0,[]) s.2.1 i&&(c9 k (s.2.1.getD i (0,[])) s.1).isSome):=rfl;have G:=qx (f:=λp:gE=>p.1) (d:=(0,[])) (l:=s.2.1) (i:=i);generalize E:s.2.1.getD i (0,[])=p at *;generalize s.2.1.getD (i-1) (0,[])=p' at *;by_cases c1:1<=p.1/\p.1<=20
  rotate_left
  .refine aW c [(85,ab),(96,ab),(116,ab),(126,ab)] rfl ?_ (AK.fE (cp.zero rfl ?_))
   .simp[-aq,m,h];omega
   .rw[iH h (by grind)];simp
  cases u:CL (·.1) (0,[]) s.2.1 i with
  |false =>
   have r:i≠0:=by rintro rfl;cases u
   have A:¬p'.1<p.1:=by grind
   refine aW c [(85,ab),(96,af),(99,ab),(113,ab),(116,ab),(126,ab)] rfl ?_ (AK.fE (cp.zero rfl ?_))
   .simp[-aq,m,n,h,c1,bA];omega
   .rw[iH h (by grind)];simp
  |true =>
   rw[db c1,u,fC,fC]at b;cases o:(c9 k p s.1).isSome with
   |false =>
    by_cases r:i=0
    .subst r;refine aW c [(85,ab),(96,af),(99,af),(116,af),(126,ab)] rfl ?_ (AK.fE (cp.zero rfl ?_))
     .simp[-aq,m,h,c1,cL.list_fn,cL.aU,cP.list_fn,cP.aU,gp.aU,cH.aU,o,q.1];grind
     .rw[iH h (b.trans o)];simp
    .have A:p'.1<p.1:=by grind
     refine aW c [(85,ab),(96,af),(99,ab),(113,af),(116,af),(126,ab)] rfl ?_ (AK.fE (cp.zero rfl ?_))
     .simp[-aq,m,n,h,c1,bA,cL.list_fn,cL.aU,cP.list_fn,cP.aU,gp.aU,cH.aU,o,q.1];and_intros<;>first|omega|grind
     .rw[iH h (b.trans o)];simp
   |true =>
    rw[o]at b;by_cases r:i=0
    .subst r;refine aW c [(85,ab),(96,af),(99,af),(116,af),(126,af)] rfl ?_ (AK.aQ 1 rfl (by simp) (by simp) ⟨h,jW g b⟩ (by omega));simp[-aq,m,h,c1,bA,cL.list_fn,cL.aU,cP.list_fn,cP.aU,gp.aU,cH.aU,o,q.1];grind
    .have A:p'.1<p.1:=by grind
     refine aW c [(85,ab),(96,af),(99,ab),(113,af),(116,af),(126,af)] rfl ?_ (AK.aQ (i+1) rfl (by simp) (by simp) ⟨h,jW g b⟩ (by omega));simp[-aq,m,n,h,c1,bA,cL.list_fn,cL.aU,cP.list_fn,cP.aU,gp.aU,cH.aU,o,q.1];and_intros<;>first|omega|grind
 obtain rfl:i=s.2.1.length:=by omega
 refine aW c [(85,af)] rfl (by simp) (AK.leaveD rfl rfl ?_);rw[dz.2 g,fC];cases hk:cd k
 .exact aW c [(129,af),(134,af)] rfl (by simp[hk]) (AK.bw rfl)
 cases H:k6 s.2.2
 .exact aW c [(129,ab),(134,af)] rfl (by simp[hk,H,cH.list_fn,cH.aU]) (AK.bw rfl)
 exact aW c [(129,ab),(134,ab)] rfl (by simp[hk,H,cH.list_fn,cH.aU]) (AK.bw rfl (by simp;omega))
abbrev y6:dt:=oT aI TR (λk s=>dB (ft k s)) λ_ s=>[ox s,s.1.length<=4000000,s.2.1.length<=4000000]
def Ib:ef X 19 y6:=.sD λk s h=>CM k s h.1 h.2.1 h.2.2
def pF{α:Type}(c:mh α)(l:List α)(x y:α):cv (l.length+1+1) (cA (l.length+1) (cA l.length (c.fn l) λq=>[c.enc x].getD q []) λq=>[c.enc y].getD q []) (c.fn (l++[x,y])):=c.pF l x y
def GH(l:List gE):List Int:=l.flatMap λx=>vD x.2
structure SmS(s:bm):Prop where
 pN:s.1.length<=4000000
 sm:ox s
 sN:s.2.1.length<=4000000
 aN:(GH s.2.1).length<=4000000
def IG(n:Int):Ev X 84 [dI n] [] (dB (decide (0<=n)&&decide (n<999999999989))) []:=by
 refine Ev.bQ Tryz.func84 rfl λa=>?_;by_cases h:0<=n
 .exact aX [(5,ab)] rfl (by simp[h]) (AK.bw rfl (by simp[h]))
 .exact aX [(5,af)] rfl (by simp[h]) (AK.bw rfl (by simp[h]))
def Fq(a b:Int):Ev X 37 [Pn a b] [] (dB (eF (a,b))) []:=by
 refine Ev.bQ Tryz.func37 rfl λe=>?_;have d:bE X [(84,kr aI (λn=>dB (decide (0<=n)&&decide (n<999999999989))) λ_=>[])]:=.cons (.pz λn _=>IG n) .nil;unfold eF;cases h:(decide (0<=a)&&decide (a<999999999989))with
 |false=>exact aW d [(6,af),(11,af)] rfl (by simp[h]) (AK.bw rfl)
 |true =>
  by_cases c:1<=b
  .exact aW d [(6,ab),(11,ab)] rfl (by simp[h,c]) (AK.bw rfl (by simp[c]))
  .exact aW d [(6,ab),(11,af)] rfl (by simp[h,c]) (AK.bw rfl (by simp[c]))
abbrev Fs:dt:=kr TQ (λs=>dB (eF s)) λ_=>[]
def MV:ef X 37 Fs:=.pz λs _=>Fq s.1 s.2
def zg(l:List (Int×Int)):∀t:Tr,Tr.Ok t->(l.foldl (λt x=>t.put x.1 x.2) t).list=l.foldl gq t.list/\Tr.Ok (l.foldl (λt x=>t.put x.1 x.2) t):=by
 induction l with
 |nil=>grind
 |cons x r a =>
  grind[xK,O1]
def uF(l:List bG)(E:l.length<=4000000)(C:(cW l).length<=100000):Ev X 13 [cP.sl l] [] (cH.sl (indexOf l)) []:=by
 refine Ev.bQ Tryz.func13 rfl λF=>?_;have d:bE X [(37,Fs)]:=.cons MV .nil;refine cx d rfl ay ?_;refine AK.iC 3 81 2 rfl rfl ?_;refine AK.cz 1 (λi=>i<=l.length/\(cW (l.take i)).all eF=ab) (λi:Nat=>[(3,.e (.one (.vec 0 2 (cW (l.take i)).length (cH.fn (cW (l.take i)))))),(9,cP.sl l),(10,dI l.length),(11,dI i)]) (λi=>[Bl (cW (l.take i))]) (λi=>l.length-i) 0 rfl ?_ rfl ?_ rfl ⟨by omega,rfl⟩ ?_
 .simp[cW]
 .simp[cW]
 rintro i ⟨hi,b⟩;by_cases h:i<l.length
 .have t:l.getD (i:Int).toNat cP.b5=l.getD i (0,[]):=by grind
  have s:=rv h;refine bq d [(12,ab)] rfl (by simp only[az,ba];omega) ?_;refine AK.cz 2 (λj=>j<=(l.getD i (0,[])).2.length/\(ku l i j).all eF=ab) (λj:Nat=>[(3,.e (.one (.vec 0 2 (ku l i j).length (cH.fn (ku l i j))))),(5,.e (.one (.ptr 1 0))),(9,cP.sl l),(10,dI l.length),(11,dI i),(16,dO.sl (l.getD i (0,[])).2),(17,dI (l.getD i (0,[])).2.length),(18,dI j)]) (λj=>[Bl (ku l i j),.cells 37 [.c (.int .i64 (l.getD i (0,[])).1),.c (.sl af 2 (l.getD i (0,[])).2.length (dO.fn (l.getD i (0,[])).2))]]) (λj=>(l.getD i (0,[])).2.length-j) 0 rfl ?_ rfl ?_ rfl ⟨by omega,by simpa[ku]using b⟩ ?_
  .simp only[ku,List.take_zero,iQ,t,az.cat,az,aG,aE];and_intros<;>first|exact cv.same|rfl|omega
  .simp only[ku,List.take_zero,iQ,t,az.cat,az,aG,aE];and_intros<;>first|exact cv.same|rfl|omega
  rintro j ⟨D,f⟩;obtain⟨r,y⟩:=sH (l:=l) (j:=j) h;have q:(ku l i j).length<=100000:=by grind
  have A:(l.getD i (0,[])).2.length<=100000:=by grind[Cy]
  by_cases B:j<(l.getD i (0,[])).2.length
  .have a:(l.getD i (0,[])).2.getD (j:Int).toNat dO.b5=(l.getD i (0,[])).2.getD j (0,[]):=by grind
   have g:ku l i (j+1)=ku l i j++[(((l.getD i (0,[])).2.getD j (0,[])).1,(l.getD i (0,[])).1)]:=by unfold ku;rw[lS];congr 1;rw[bS (by grind) (0,0)];grind
   have m:=cH.cu (ku l i j) (((l.getD i (0,[])).2.getD j (0,[])).1,(l.getD i (0,[])).1);cases n:eF (((l.getD i (0,[])).2.getD j (0,[])).1,(l.getD i (0,[])).1)with
   |false =>
    have z:indexOf l=[]:=by obtain⟨r,y⟩:=sH (l:=l) (j:=j+1) h;unfold indexOf;rw[aZ];grind
    refine bq d [(19,ab),(29,ab)] rfl ?_ (AK.fE (cp.zero rfl ?_))
    .simp only[az,a,n,ba,aG,aE];and_intros<;>first|rfl|omega
    .rw[z];simp
   |true =>
    refine bq d [(19,ab),(29,af)] rfl ?_ (AK.aQ (j+1) rfl ?_ ?_ ?_ ?_)
    .simp only[az,a,n,bA,show i81.bytes=16 from rfl,ba,aG,aE];and_intros<;>first|rfl|omega
    .rw[g];simp only[cX,jh,az.cat,az,a,aG,aE];and_intros<;>first|exact m|exact cv.same|rfl|omega
    .rw[g];simp only[cX,jh,az.cat,az,a,aG,aE];and_intros<;>first|exact m|exact cv.same|rfl|omega
    .grind
    .omega
  .have w:j=(l.getD i (0,[])).2.length:=by omega
   have k:ku l i j=cW (l.take (i+1)):=by rw[s,ku];grind[List.length_map]
   refine bq d [(19,af)] rfl ?_ (AK.leaveD rfl rfl ?_)
   .simp only[az,bO];grind
   rw[k];refine cx d rfl ?_ (AK.aQ (i+1) rfl ?_ ?_ ⟨h,k▸f⟩ (by omega))
   .simp only[az,bA,aE];omega
   .simp
   .simp
 .obtain rfl:i=l.length:=by omega
  rw[di]at b⊢;refine bq d [(12,af)] rfl (by simp) (AK.leaveD rfl rfl ?_);refine AK.BZ (φ':=[(3,cH.sl (cW l))]) (σ':=[Bl (cW l)]) ?_ rfl (by simp) rfl (by simp);have o:∀x∈cW l,bA .i64 x.1/\bA .i64 x.2:=λx v=>by have:=List.all_eq_true.1 b x v;simp only[eF,bR,ba]at this;simp only[bA];omega
  have c2:bE X [(32,xh [QN (cW l)] (.e (.one (.c (tC (oE (cW l)))))))]:=.cons (Au (zh (cW l) (by omega) o)) .nil;have hT:(oE (cW l)).list=indexOf l:=by unfold indexOf;rw[bl b];exact(zg (cW l) .nil (by simp[Tr.Ok,Tr.list])).1
  have p:(indexOf l).length<=100000:=by have:=tM (cW l) [];unfold indexOf;grind
  rw[<-hT]at p⊢;clear hT;generalize oE (cW l)=T at *;have u:=Df (X:=X) T (by omega)
  cases T<;>(
   refine cx c2 rfl rfl ?_;refine AK.jL u.te [] rfl rfl rfl rfl (by simp[tC]) rfl rfl rfl (λ_=>rfl) rfl (λ_=>rfl) rfl λ_=>?_
   exact cx c2 rfl ay (AK.bw rfl))
def pM(l:List Bs)(v:Bs):Int:=match l.findIdx? (λx=>x==v)with
 |some i=>i
 |none=>-1
def IH{l:List Bs}{v:Bs}{i:Nat}(hi:i<l.length)(h:∀j,j<i->l.getD j []≠v)(b:l.getD i []=v):pM l v=i:=by
 have:l.findIdx? (λx=>x==v)=aa i:=by rw[vI];refine⟨hi,by grind,λj a=>?_⟩;grind
 simp only[pM,this]
def II{l:List Bs}{v:Bs}(h:∀j,j<l.length->l.getD j []≠v):pM l v=-1:=by
 have:l.findIdx? (λx=>x==v)=ae:=by grind[List.getElem_of_mem]
 simp only[pM,this]
def Ft(l:List Bs)(v:Bs):decide (0<=pM l v)=l.contains v:=by unfold pM;grind
def IJ(l:List Bs)(v:Bs):Ev X 83 [cS.sl l,dS v] [] (dI (pM l v)) []:=by
 refine Ev.bQ Tryz.func83 rfl λd=>?_;have f:=d.sl 0 rfl;refine bt rfl ay ?_;refine AK.cz 0 (λi=>i<=l.length/\∀j,j<i->l.getD j []≠v) (λi:Nat=>[(0,cS.sl l),(1,dS v),(7,dI l.length),(8,dI i)]) (λ_=>[]) (λi=>l.length-i) 0 rfl (by simp) rfl ay rfl ⟨by omega,by omega⟩ ?_;rintro i ⟨hi,a⟩;by_cases h:i<l.length
 .have c:l.getD (i:Int).toNat cS.b5=l.getD i []:=rfl;by_cases b:l.getD i []=v
  .rw[IH h a b];refine aX [(9,ab),(16,ab)] rfl ?_ (AK.fE (cp.zero rfl));simp only[az,c,ba,hI,aG,aE];and_intros<;>first|exact b.symm|omega
  .refine aX [(9,ab),(16,af)] rfl ?_ (AK.aQ (i+1) rfl ?_ ay ⟨h,λj e=>?_⟩ (by omega))
   .simp only[az,c,bA,ba,eD,aG,aE];and_intros<;>first|grind|omega
   .simp
   grind
 .rw[II λj e=>a j (by omega)];refine aX [(9,af)] rfl (by simp only[az,bO];omega) (AK.leaveD rfl rfl ?_);exact bt rfl ay (AK.bw rfl)
abbrev PK:dt:=oT (aL cS) aS (λl v=>dI (pM l v)) λ_ _=>[]
def IK(l:List Bs)(v:Bs):Ev X 36 [cS.sl l,dS v] [] (dB (l.contains v)) []:=by refine Ev.bQ Tryz.func36 rfl λb=>?_;have a:bE X [(83,PK)]:=.cons (.sD λl v _=>IJ l v) .nil;refine cf a rfl (by simp only[az];exact cS.aU _) (AK.bw rfl ?_);simp only[az,cS.list_fn,aE];exact Ft l v
abbrev GS:dt:=oT (aL cS) aS (λl v=>dB (l.contains v)) λ_ _=>[]
def Pp:ef X 36 GS:=.sD λl v _=>IK l v
def rB(l:List cn)(i:Nat):Bool:=(bg i).all λj=>eF (l.getD j (0,0))&&(j==0||decide ((l.getD (j-1) (0,0)).1<(l.getD j (0,0)).1))
theorem Dm{l:List cn}{i:Nat}:rB l (i+1)=(rB l i&&(eF (l.getD i (0,0))&&(i==0||decide ((l.getD (i-1) (0,0)).1<(l.getD i (0,0)).1)))):=by unfold rB;rw[List.range_succ,List.all_append];simp
def zk{l:List cn}{i:Nat}(h:rB l i=af):∀n,i<=n->rB l n=af:=by
 intro n a;obtain⟨k,rfl⟩:=Nat.exists_eq_add_of_le a;induction k with
 |zero=>exact h
 |succ k b=>grind[Dm]
def Dc(l:List cn):Ev X 31 [cH.sl l] [] (dB (rB l l.length)) []:=by
 refine Ev.bQ Tryz.func31 rfl λj=>?_;have k:=j.sl 0 rfl;have a:bE X [(37,Fs)]:=.cons MV .nil;refine cf a rfl ay ?_;refine AK.cz 0 (λi=>i<=l.length/\rB l i=ab) (λi:Nat=>[(0,cH.sl l),(5,cH.sl l),(6,dI l.length),(7,dI i)]) (λ_=>[]) (λi=>l.length-i) 0 rfl (by simp) rfl ay rfl ⟨by omega,rfl⟩ ?_;rintro i ⟨hi,b⟩;by_cases h:i<l.length
 .have f:=Dm (l:=l) (i:=i);rw[b,fC]at f;have d:l.getD (i:Int).toNat cH.b5=l.getD i (0,0):=rfl;cases c:eF (l.getD i (0,0))with
  |false =>
   rw[zk (i:=i+1) (by grind) l.length (by omega)];refine aW a [(8,ab),(14,ab),(29,ab)] rfl ?_ (AK.fE (cp.zero rfl));simp only[az,d,c,ba,aG,aE];and_intros<;>first|rfl|omega
  |true =>
  rw[c,fC]at f;by_cases g:i=0
  .subst g;refine aW a [(8,ab),(14,af),(17,af),(29,af)] rfl ?_ (AK.aQ 1 rfl (by simp) ay ⟨h,f⟩ (by omega));simp only[az,d,c,bA,ba,bO,aG,aE];and_intros<;>first|rfl|omega
  have e:l.getD ((i:Int)-1).toNat cH.b5=l.getD (i-1) (0,0):=by rw[show((i:Int)-1).toNat=i-1 by omega];rfl
  by_cases m:(l.getD (i-1) (0,0)).1<(l.getD i (0,0)).1
  .refine aW a [(8,ab),(14,af),(17,ab),(29,af)] rfl ?_ (AK.aQ (i+1) rfl (by simp) ay ⟨h,by grind⟩ (by omega));simp only[az,d,e,c,bA,ba,bO,aG,aE];and_intros<;>first|rfl|omega
  .rw[zk (i:=i+1) (by grind) l.length (by omega)];refine aW a [(8,ab),(14,af),(17,ab),(29,ab)] rfl ?_ (AK.fE (cp.zero rfl));simp only[az,d,e,c,bA,ba,aG,aE];and_intros<;>first|rfl|omega
 .obtain rfl:i=l.length:=by omega
  rw[b];refine aW a [(8,af)] rfl (by simp) (AK.leaveD rfl rfl ?_);exact cf a rfl ay (AK.bw rfl)
def HR(l:List Int):Ev X 29 [cI.sl l,cI.sl l] [] (dB ab) []:=by
 refine Ev.bQ Tryz.func29 rfl λa=>?_;have b:=a.sl 0 rfl;refine aX [(10,af)] rfl (by simp) ?_;refine AK.cz 0 (λi=>i<=l.length) (λi:Nat=>[(0,cI.sl l),(1,cI.sl l),(5,dI i)]) (λ_=>[]) (λi=>l.length-i) 0 rfl (by simp) rfl (by simp) rfl (by omega) ?_;intro i hi;by_cases h:i<l.length
 .refine bH [(14,ab),(25,af)] rfl ?_ (AK.aQ (i+1) rfl ?_ ?_ ?_ ?_)
  .simp only[az,bA,jB,j9,nZ,ba,aG,aE];and_intros<;>omega
  .simp
  .simp
  .grind
  .omega
 .refine bH [(14,af)] rfl (by simp;omega) (AK.leaveD rfl rfl ?_);exact c8 rfl ay (AK.bw rfl)
abbrev VJ:dt:=oT (aL cI) (aL cI) (λ_ _=>dB ab) λa b=>[b=a]
def Y6:ef X 29 VJ:=.sD λa b h=>by have:b=a:=h;subst this;exact HR _
def Lh(l:List (Int×Int)):Ev X 28 [cH.sl l,cH.sl l] [] (dB ab) []:=by
 refine Ev.bQ Tryz.func28 rfl λa=>?_;have b:=a.sl 0 rfl;refine aX [(10,af)] rfl (by simp) ?_;refine AK.cz 0 (λi=>i<=l.length) (λi:Nat=>[(0,cH.sl l),(1,cH.sl l),(5,dI i)]) (λ_=>[]) (λi=>l.length-i) 0 rfl (by simp) rfl (by simp) rfl (by omega) ?_;intro i hi;by_cases h:i<l.length
 .refine bH [(14,ab),(25,af)] rfl ?_ (AK.aQ (i+1) rfl ?_ ?_ ?_ ?_)
  .simp[bA,h];omega
  .simp
  .simp
  .grind
  .omega
 .refine bH [(14,af)] rfl (by simp;omega) (AK.leaveD rfl rfl ?_);exact c8 rfl ay (AK.bw rfl)
abbrev VK:dt:=oT (aL cH) (aL cH) (λ_ _=>dB ab) λa b=>[b=a]
def Y7:ef X 28 VK:=.sD λa b h=>by have:b=a:=h;subst this;exact Lh _
abbrev pB(p:bG):aP:=.cells 37 [.c (.int .i64 p.1),.c (.sl af 2 p.2.length (dO.fn p.2))]
def HS(p:bG):Ev X 10 [KI p,KI p] [] (dB ab) []:=by
 refine Ev.bQ Tryz.func10 rfl λm=>?_;by_cases o:p.2.length<=9223372036854775807
 .refine aX [(10,af),(18,af)] rfl (by simp) ?_;refine AK.cz 2 (λi=>i<=p.2.length) (λi:Nat=>[(2,.e (.one (.ptr 0 0))),(3,.e (.one (.ptr 1 0))),(5,dI i)]) (λ_=>[pB p,pB p]) (λi=>p.2.length-i) 0 rfl (by simp) rfl (by simp) rfl (by omega) ?_;intro i hi;by_cases h:i<p.2.length
  .refine bH [(24,ab),(37,af)] rfl ?_ (AK.aQ (i+1) rfl ?_ ?_ ?_ ?_)
   .simp[bA,h];omega
   .simp
   .simp
   .grind
   .omega
  .refine bH [(24,af)] rfl (by simp;omega) (AK.leaveD rfl rfl ?_);exact c8 rfl ay (AK.bw rfl)
 .exfalso;obtain⟨s,vs,d,_⟩:=m;obtain⟨q,k⟩:∃v,dk [] s v (KI p):=by
   match vs,d with
   |[a,_],d=>exact⟨a,d.1⟩
  obtain⟨l,_,g⟩:=k
  match l,g with
  |[a,c],g =>
   have:=g.2.1;cases(show Rd s.M c (.sl af 2 p.2.length (dO.fn p.2))from this)with
   |sl b off f j n=>omega
abbrev VL:dt:=oT (Eu dO) (Eu dO) (λ_ _=>dB ab) λa b=>[b=a]
def Y8:ef X 10 VL:=.sD λa b h=>by have:b=a:=h;subst this;exact HS _
abbrev sB(p:gE):aP:=.cells 41 [.c (.int .i64 p.1),.c (.sl af 2 p.2.length (cL.fn p.2))]
def HT(x:gE)(c:x.2.length<=4000000):Ev X 11 [Nb x,Nb x] [] (dB ab) []:=by
 refine Ev.bQ Tryz.func11 rfl λb=>?_;have a:bE X [(29,VJ)]:=.cons Y6 .nil;refine aW a [(10,af),(18,af)] rfl (by simp) ?_;refine AK.cz 2 (λi=>i<=x.2.length) (λi:Nat=>[(2,.e (.one (.ptr 0 0))),(3,.e (.one (.ptr 1 0))),(5,dI i)]) (λ_=>[sB x,sB x]) (λi=>x.2.length-i) 0 rfl (by simp) rfl (by simp) rfl (by omega) ?_;intro i hi;by_cases h:i<x.2.length
 .refine bq a [(24,ab),(39,af),(53,ab)] rfl ?_ (AK.aQ (i+1) rfl ?_ ?_ ?_ ?_)
  .simp only[az,bA,jB,j9,nZ,ba,aG,aE];and_intros<;>first|exact cI.aU _|omega
  .simp
  .simp
  .grind
  .omega
 .refine bq a [(24,af)] rfl (by simp;omega) (AK.leaveD rfl rfl ?_);exact cx a rfl ay (AK.bw rfl)
abbrev VM:dt:=oT (Eu cL) (Eu cL) (λ_ _=>dB ab) λa b=>[b=a,b.2.length<=4000000]
def Y9:ef X 11 VM:=.sD λa b h=>by obtain⟨rfl,c⟩:b=a/\_:=h;exact HT _ c
abbrev OM(s:bm):aP:=.cells 27 [.c (.sl af 2 s.1.length (cP.fn s.1)),.c (.sl af 2 s.2.1.length (gp.fn s.2.1)),.c (.sl af 2 s.2.2.length (cH.fn s.2.2))]
def EK(s:bm)(b:lD s):Ev X 9 [rq s,rq s] [] (dB ab) []:=by
 refine Ev.bQ Tryz.func9 rfl λf=>?_;have a:bE X [(28,VK),(10,VL),(11,VM)]:=.cons Y7 (.cons Y8 (.cons Y9 .nil));have g:=b.p;have d:=b.sn;refine bq a [(13,af),(21,af),(28,ab)] rfl ?_ ?_
 .simp only[az,bA,jB,j9,nZ,ba,aG,aE];and_intros<;>first|exact cH.aU _|omega
 refine AK.cz 2 (λi=>i<=s.1.length) (λi:Nat=>[(2,.e (.one (.ptr 0 0))),(3,.e (.one (.ptr 1 0))),(5,dI i)]) (λ_=>[OM s,OM s]) (λi=>s.1.length-i) 0 rfl (by simp) rfl (by simp) rfl (by omega) ?_;intro i hi;by_cases h:i<s.1.length
 .refine bq a [(35,ab),(48,ab)] rfl ?_ (AK.aQ (i+1) rfl ?_ ?_ ?_ ?_)
  .simp only[az,bA,ba,aG,aE];and_intros<;>first|exact dO.aU _|omega
  .simp
  .simp
  .grind
  .omega
 refine bq a [(35,af)] rfl (by simp;omega) (AK.leaveD rfl rfl ?_);refine cx a rfl ay ?_;refine AK.cz 2 (λi=>i<=s.2.1.length) (λi:Nat=>[(2,.e (.one (.ptr 0 0))),(3,.e (.one (.ptr 1 0))),(6,dI i)]) (λ_=>[OM s,OM s]) (λi=>s.2.1.length-i) 0 rfl (by simp) rfl (by simp) rfl (by omega) ?_;intro i hi;by_cases h:i<s.2.1.length
 .have j:=(b.s2 _ (fA h (0,[]))).1;have c:s.2.1.getD (i:Int).toNat gp.b5=s.2.1.getD i (0,[]):=by grind
  refine bq a [(54,ab),(67,ab)] rfl ?_ (AK.aQ (i+1) rfl ?_ ?_ ?_ ?_)
  .simp only[az,bA,c,cL.list_fn,ba,aG,aE];and_intros<;>first|exact cL.aU _|omega
  .simp
  .simp
  .grind
  .omega
 refine bq a [(54,af)] rfl (by simp;omega) (AK.leaveD rfl rfl ?_);exact cx a rfl ay (AK.bw rfl)
end
structure V6(x:bG):Prop where
 ex:∃no ps,1<=no/\no<=99/\0<ps.length/\ps.length<=4/\(∀q∈ps,bz q=ab)/\x=gH no 7 ps
structure V7(x:gE):Prop where
 ex:∃no t,1<=no/\no<=20/\cw t=ab/\x=fp no 7 t
structure D7(st:bm):Prop where
 p:∀x∈st.1,V6 x
 pl:st.1.length<=20
 s:∀x∈st.2.1,V7 x
 CL:st.2.1.Pairwise λa b=>a.1<b.1
 h:∀x∈st.2.2,(1<=x.1/\x.1<=2)/\1<=x.2/\x.2<=20
 hl:st.2.2.length<=9
 V8:st.1.Pairwise λa b=>a.1<b.1
def dT{t:List bx}(h:cw t=ab):sE t:=by
 obtain⟨j,_,_,n⟩:=mP.1 h;have k:∀f∈t,b6 f.2=ab/\f.2.length<=40:=λf d=>by have:=(j f d).2;simp only[eg,bR,ba]at this;grind
 refine⟨by omega,λf d=>⟨(k f d).1,by grind⟩,?_⟩;have:∀l:List bx,(∀f∈l,f.2.length<=40)->(gL l).length<=40*l.length:=by
  intro l;induction l with
  |nil=>intro _;simp[gL]
  |cons f r m =>
   intro e;have a:=m λg i=>e g (qQ _ i);have b:=e f mU;have c:=kv f.2;simp only[gL,u9,cX,eU]at a⊢;omega
 grind
theorem LI(no k:Int)(ps:List Bs):(gH no k ps).2.length=ps.length:=qv k ps
def V6.len{x:bG}(h:V6 x):1<=x.2.length/\x.2.length<=4:=by obtain⟨no,ps,_,_,b,a,_,rfl⟩:=h.ex;grind[LI]
def V6.no{x:bG}(h:V6 x):1<=x.1/\x.1<=99:=by obtain⟨no,ps,h1,h2,_,_,_,rfl⟩:=h.ex;exact⟨h1,h2⟩
def V7.no{x:gE}(h:V7 x):1<=x.1/\x.1<=20:=by obtain⟨no,t,h1,h2,_,rfl⟩:=h.ex;exact⟨h1,h2⟩
def V7.len{x:gE}(h:V7 x):x.2.length<=6/\∀y∈x.2,y.2.length<=4000000:=by obtain⟨no,t,_,_,b,rfl⟩:=h.ex;have d:=mc b;refine⟨by simpa[fp]using d,λy a=>?_⟩;simp only[fp,kB]at a;obtain⟨f,c,rfl⟩:=a;have:=((dT b).sZ f c).2;have:=kv f.2;simp only[oJ,lg];omega
def GK{l:List gE}:∀(a:Int),l.Pairwise (λa b=>a.1<b.1)->(∀x∈l,a<=x.1/\x.1<=20)->(l.length:Int)<=max 0 (21-a):=by
 induction l with
 |nil=>grind
 |cons x r g =>
  intro a f c;obtain⟨h,d⟩:=jk.1 f;have i:=c x mU;have:=g (x.1+1) d λy e=>⟨by grind,(c y (qQ _ e)).2⟩
  grind
def D7.sl{s:bm}(h:D7 s):s.2.1.length<=20:=by have:=GK 1 h.CL λx a=>(h.s x a).no;omega
def D7.size{s:bm}(h:D7 s):lD s:=by have h1:=h.pl;have h2:=h.sl;have c:=h.hl;refine⟨by omega,λp a=>by have:=(h.p p a).len;omega,by omega,λx b=>?_,by omega⟩;have:=(h.s x b).len;grind
def D7.num{s:bm}(h:D7 s):ry s :=
 ⟨λx a=>by have:=(h.p x a).no;omega,λx a=>by have:=(h.s x a).no;omega,λx a=>by have:=(h.h x a).2;omega⟩
def D7.cW{s:bm}(h:D7 s):(cW s.1).length<=100000:=by
 have:∀l:List bG,(∀x∈l,x.2.length<=4)->(R1.cW l).length<=4*l.length:=by
  intro l;induction l with
  |nil=>intro _;simp[R1.cW]
  |cons f r e =>
   intro hl;have a:=e λg c=>hl g (qQ _ c);have b:=hl f mU;simp only[R1.cW,u9,cX,lg,eU]at a⊢;omega
 have:=this s.1 λx d=>(h.p x d).len.2;have:=h.pl;omega
def D7.nil:D7 ([],[],[]):=⟨by simp,by simp,by simp,by simp,by simp,by simp,by simp⟩
def tP(k:Int):∀(f:Nat) (no:Int)(ps:List Bs),(∀q∈ps,bz q=ab)->∀x∈fH k f no ps,∃a qs,no<=a/\a<no+(fH k f no ps).length/\0<qs.length/\qs.length<=4/\(∀q∈qs,bz q=ab)/\x=gH a k qs
 |0,_,_,_,x,b=>by simp[fH]at b
 |f+1,no,ps,d,x,b=>by
  simp only[fH]at b⊢;split at b
  .rename_i h;rw[bl h];rcases eE.1 b with rfl|b
   .grind
   .obtain⟨a,qs,i,g,e⟩:=tP k f (no+1) (ps.drop 4) (λq c=>d q (rH c)) x b;grind
  grind
def tQ{α:Type}{l:List α}(h:l.length≠0)(d:α):l.getD (l.length-1) d∈l:=fA (by omega) d
def D7.cM{s:bm}(h:D7 s):1<=cM s:=by
 unfold R1.cM;split
 .omega
 .rename_i a;have:=(h.p _ (tQ a (0,[]))).no;omega
def tR(k:Int):∀(f:Nat) (no:Int)(ps:List Bs),∀x∈fH k f no ps,no<=x.1
 |0,_,_,x,a=>by simp[fH]at a
 |f+1,no,ps,x,a=>by
  simp only[fH]at a;split at a
  .rcases eE.1 a with rfl|a
   .exact Int.le_refl _
   .have:=tR k f (no+1) (ps.drop 4) x a;omega
  grind
def xJ(k:Int):∀(f:Nat) (no:Int)(ps:List Bs),(fH k f no ps).Pairwise λa b=>a.1<b.1
 |0,_,_=>by simp[fH]
 |f+1,no,ps=>by
  simp only[fH];split
  .refine jk.2 ⟨λx c=>?_,xJ k f (no+1) (ps.drop 4)⟩;have:=tR k f (no+1) (ps.drop 4) x c;show no<x.1;omega
  .simp
def D7.LJ{s:bm}(h:D7 s):∀x∈s.1,x.1<R1.cM s:=by
 unfold R1.cM;split
 .grind
 .rename_i e;intro x c;obtain⟨i,hi,rfl⟩:=dL c;have a:s.1.getD (s.1.length-1) (0,[])=s.1[s.1.length-1]:=by grind
  rw[a];rcases cC i (s.1.length-1)with b|d
  .have:=j6.1 h.V8 i (s.1.length-1) hi (by omega) b;omega
  grind
def D7.LK{s:bm}(h:D7 s):1<=dw s/\∀x∈s.2.1,x.1<dw s:=by
 have f:=nO s.2.2 h.num.h;unfold dw;split
 .grind
 .rename_i e;refine⟨by omega,λx c=>?_⟩;obtain⟨i,hi,rfl⟩:=dL c;have a:s.2.1.getD (s.2.1.length-1) (0,[])=s.2.1[s.2.1.length-1]:=by grind
  rw[a];rcases cC i (s.2.1.length-1)with b|d
  .have:=j6.1 h.CL i (s.2.1.length-1) hi (by omega) b;omega
  grind
def D7.save{s:bm}{t:List bx}{by_:Int}(h:D7 s)(m:cw t=ab)(d:1<=by_/\by_<=2)(j:gm 7 s t=af):D7 (ee 7 s by_ t):=by
 simp only[gm,u6,bO]at j;obtain⟨o,r,n,q⟩:=j;have u:=h.cM;obtain⟨g,f⟩:=h.LK;refine⟨λx c=>?_,by simp only[ee,cX];omega,λx c=>?_,?_,λx c=>?_,by simp only[ee,cX,jh];omega,?_⟩
 .simp only[ee]at c;rcases fY.1 c with c|c
  .exact h.p x c
  .obtain⟨e,qs,a1,a2,a3,a4,a5,a6⟩:=tP 7 _ _ _ (jr (k:=7) (l:=indexOf s.1) (dT m)).1 x c;have a2:e<R1.cM s+(nI 7 s t).length:=a2;exact⟨e,qs,by omega,by omega,a3,a4,a5,a6⟩
 .simp only[ee]at c;rcases fY.1 c with c|c
  .exact h.s x c
  .rw[fX]at c;exact⟨dw s,t,g,by omega,m,c⟩
 .simp only[ee];rw[u5];refine⟨h.CL,by simp,λa i b d=>?_⟩;rw[fX]at d;subst d;exact f a i
 .simp only[ee]at c;rcases fY.1 c with c|c
  .exact h.h x c
  grind
 .simp only[ee];rw[u5];refine⟨h.V8,xJ _ _ _ _,λa i b d=>?_⟩;have h1:=h.LJ a i;have h2:=tR _ _ _ _ b d;omega
def za{l:List Int}:∀{k:Nat},(lq l k).length=k->∀i,1<=i->i<k->l.getD i 0≠l.getD (i-1) 0
 |0,_,i,_,h=>by omega
 |k+1,h,i,a,c=>by
  have d:=sO l k;rw[lq]at h;split at h
  .omega
  .rename_i b;simp only[cX,jh]at h;by_cases e:i=k
   .grind
   .exact za (k:=k) (by omega) i a (by omega)
def AV(l:List Int):(oL l).Pairwise λx y=>x<=y:=by have:=List.pairwise_mergeSort (le:=λx y:Int=>decide (x<=y)) (λa b c e d=>by grind) (λa b=>by grind) l;exact this.imp λh=>by grind
def EY(l:List Int):(oL l).Perm l:=List.mergeSort_perm _ _
def AS(l:List Int):(ez (oL l)).length=l.length↔l.Nodup:=by
 rw[<-lL l,<-(EY l).nodup_iff];have f:=AV l;generalize oL l=s at *;have b:∀{i:Nat} (h:i<s.length),s.getD i 0=s[i]:=λ{i} h=>by grind
 constructor
 .intro h;have d:=za h;refine List.Pairwise.imp (R:=λx y=>x<y) (λh e=>by omega) (j6.2 λi j hi hj Zf=>?_);have a:=j6.1 f;have c:=d j (by omega) hj;rw[b hj,b (by omega)]at c;have g:=a (j-1) j (by omega) hj (by omega);by_cases e:i=j-1
  .grind
  .have:=a i (j-1) hi (by omega) (by omega);omega
 .intro h;unfold ez;rw[nQ (bh _),di];grind[List.pairwise_iff_getElem]
def vE{α:Type}{l:List α}{i:Nat}(h:i<l.length)(d:α):l.getD i d=l[i]:=by grind
def AX{α:Type}{f:α->Int}{d:α}{l:List α}:(∀i,i<l.length->CL f d l i=ab)↔l.Pairwise λx y=>f x<f y:=by
 constructor
 .intro h;have key:∀n i j (hi:i<l.length) (a:j<l.length),j=i+n->0<n->f l[i]<f l[j]:=by
   intro n;induction n with
   |zero=>grind
   |succ n g =>
    intro i j hi a b _;have c:=h j a;rw[qx (by omega),decide_eq_true_iff,vE (by omega),vE a]at c;by_cases e:n=0
    .subst e;grind
    grind
  exact j6.2 λi j hi a b=>key (j-i) i j hi a (by omega) (by omega)
 .intro h i hi;by_cases e:i=0
  .subst e;rfl
  .rw[qx e,decide_eq_true_iff,vE (by omega),vE hi];exact(j6.1 h) (i-1) i (by omega) hi (by omega)
def AY{α:Type}{l:List α}{p:α->Bool}{d:α}:(∀i,i<l.length->p (l.getD i d)=ab)↔∀x∈l,p x=ab:=by grind[List.mem_iff_getElem]
structure GL(k:Int)(p:bG):Prop where
 no:1<=p.1/\p.1<=99
 key:cd k=ab
 len:1<=p.2.length/\p.2.length<=4
 rt:∀x∈p.2,right k x=ab
 CL:p.2.Pairwise λx y=>x.1<y.1
def rz{k:Int}{p:bG}:gg k p=ab↔GL k p:=by
 rw[pG];simp only[bR,ba,dz];have e:(∀i,i<p.2.length->iL k p i=ab)↔(∀x∈p.2,right k x=ab)/\p.2.Pairwise λx y=>x.1<y.1:=by
  rw[<-AY (d:=(0,[])),<-AX (f:=λx:bn=>x.1) (d:=(0,[]))];constructor
  .intro h;exact⟨λi hi=>by have:=h i hi;simp only[iL,bR]at this;exact this.1,λi hi=>by have:=h i hi;simp only[iL,bR]at this;exact this.2⟩
  .intro h i hi;simp only[iL,bR];exact⟨h.1 i hi,h.2 i hi⟩
 rw[e];constructor
 .rintro⟨⟨⟨g,c⟩,a⟩,b,j⟩;exact⟨g,c,a,b,j⟩
 .rintro⟨g,c,a,b,j⟩;grind
structure pH(k:Int)(s:bm):Prop where
 pk:∀p∈s.1,GL k p
 pa:s.1.Pairwise λp q=>p.1<q.1
 nd:(bX s.1).Nodup
 sn:∀x∈s.2.1,(1<=x.1/\x.1<=20)/\(c9 k x s.1).isSome=ab
 sa:s.2.1.Pairwise λx y=>x.1<y.1
 key:cd k=ab
 log:k6 s.2.2=ab
 len:s.1.length<=20
def iI{k:Int}{s:bm}:ft k s=ab↔pH k s:=by
 unfold ft;simp only[bR,ba,dz];have o:(∀i,i<s.1.length->ma k s.1 i=ab)↔(∀p∈s.1,GL k p)/\s.1.Pairwise λp q=>p.1<q.1:=by
  rw[<-AX (f:=λp:bG=>p.1) (d:=(0,[]))];have:(∀p∈s.1,GL k p)↔∀p∈s.1,gg k p=ab:=⟨λh p b=>rz.2 (h p b),λh p b=>rz.1 (h p b)⟩
  rw[this,<-AY (d:=(0,[]))];constructor
  .intro h;exact⟨λi hi=>by have:=h i hi;simp only[ma,bR]at this;exact this.1,λi hi=>by have:=h i hi;simp only[ma,bR]at this;exact this.2⟩
  .intro h i hi;simp only[ma,bR];grind
 have r:(∀i,i<s.2.1.length->jX k s i=ab)↔(∀x∈s.2.1,(1<=x.1/\x.1<=20)/\(c9 k x s.1).isSome=ab)/\s.2.1.Pairwise λx y=>x.1<y.1:=by
  rw[<-AX (f:=λp:gE=>p.1) (d:=(0,[]))];have:(∀x∈s.2.1,(1<=x.1/\x.1<=20)/\(c9 k x s.1).isSome=ab)↔∀x∈s.2.1,(decide (1<=x.1/\x.1<=20)&&(c9 k x s.1).isSome)=ab:=by grind
  rw[this,<-AY (d:=(0,[]))];constructor
  .intro h;exact⟨λi hi=>by have:=h i hi;simp only[jX,bR]at this⊢;grind,λi hi=>by have:=h i hi;simp only[jX,bR]at this;exact this.1.2⟩
  .intro h i hi;have a:=h.1 i hi;simp only[jX,bR]at a⊢;grind
 rw[o,r];constructor
 .rintro⟨⟨⟨⟨⟨⟨a,l⟩,e⟩,g,n⟩,j⟩,c⟩,m⟩;exact⟨a,l,e,g,n,j,c,m⟩
 .rintro⟨a,l,e,g,n,j,c,m⟩;grind
theorem Lq{l:List bn}{x y:bn}(h:y∈gG l x):y=x∨y∈l:=by
 induction l with
 |nil=>simp[gG]at h;grind
 |cons z r a =>
  simp only[gG]at h;grind
def OQ{k:Int}{ps:List Bs}{y:bn}(h:y∈qu k ps):∃p∈ps,y=(en k p,eO p):=by
 have key:∀(ps:List Bs) (acc:List bn),y∈ps.foldl (λl p=>gG l (en k p,eO p)) acc->y∈acc∨∃p∈ps,y=(en k p,eO p):=by
  intro ps;induction ps with
  |nil=>grind
  |cons p r a =>
   grind[Lq]
 rcases key ps [] h with h|h
 .cases h
 grind
section
variable {X:Cx ag}[X.gZ]
abbrev Qz:List bx:=[([97],[104,101,108,108,111])]
def Lg:cw Qz=ab:=by decide +kernel
abbrev VI(k:Nat):={q:List bx×Nat // cw q.1=ab/\k<=q.2/\q.2<=k+400}
def OL(m:Nat)(b:Nat->Int)(d:Bytes b)(k:Nat)(hk:k<=50000)(f:m<=1048576):
  eb (ι:=VI k) X 86 [.e (.one (.ptr 0 0))] [kZ m b k] (λq=>cF.sl q.1.1) (λq=>[kZ m b q.1.2]):=by
 refine eb.qM Tryz.func86 rfl rfl rfl λg=>?_;refine bt rfl ay ?_;refine AK.cP (Gv m b d k hk f) [0] rfl (λ_=>rfl) ?_;rintro⟨t,bf,xs,k1,h,l,a,c⟩;refine aX [(1000002,ab)] rfl ay ?_;refine AK.vO 3 1 (cF.fn t) rfl rfl h.rd ?_;refine bt rfl ay ?_;refine AK.cQ (yV t) [] rfl ?_;cases j:cw t with
 |true =>
  refine bt rfl ay (AK.nL ⟨(t,k1),j,a,c⟩ (AK.de [0] rfl ?_ rfl rfl rfl ig));simp
 |false =>
  refine bt rfl ay (AK.nL ⟨(Qz,k1),Lg,a,c⟩ (AK.de [0] rfl ?_ rfl rfl rfl ig));refine⟨rfl,λi hi=>?_⟩;have:i=0:=by grind
  subst this;rfl
end
section
variable {X:Cx ag}
theorem uB{l:List cn}(h:rB l l.length=ab):(∀x∈l,eF x=ab)/\l.Pairwise λx y=>x.1<y.1:=by
 have a:=dz.1 h;have c:∀j,j<l.length->∀i,i<j->(l.getD i (0,0)).1<(l.getD j (0,0)).1:=by
  intro j;induction j with
  |zero=>grind
  |succ j b =>
   grind
 grind[List.getElem_of_mem,List.pairwise_iff_getElem]
def A7(l:List cn):∀a:List cn,(a++l).Pairwise (λx y=>x.1<y.1)->l.foldl gq a=a++l:=by
 induction l with
 |nil=>grind
 |cons x r b =>
  grind[LL]
def Iy{l:List cn}(h:rB l l.length=ab)(n:Int):(oE l).find n=mJ l n:=by obtain⟨c,b⟩:=zg l .nil (by simp[Tr.Ok,Tr.list]);have a:=A7 l [] (by grind[uB]);rw[oE,tS b,c];exact dA (mJ · n) a
def xR{t:List bx}(h:cw t=ab):∀f∈t,eg f.2=ab:=λf a=>((mP.1 h).1 f a).2
abbrev dV2(a:List Bs):D:=.e (.one (.vec 2 1 a.length (cS.fn a)))
def uC(m q:aj×ah)(k:Int)(t:List bx)(l:List cn)(hk:cd k=ab)(B:cw t=ab)(H:rB l l.length=ab)(F:l.length<=4000000):
  Ev X 12 [dI k,cF.sl t,cH.sl l] (GB m q) (cS.sl (c6 k t l)) (GB m q):=by
 refine Ev.bQ Tryz.func12 rfl λS=>?_;have O:bE X [(30,kr aI (λk=>dB (cd k)) λ_=>[]),(24,Wl),(31,kr (aL cH) (λl=>dB (rB l l.length)) λ_=>[])]:=.cons t30 (.cons t24 (.cons (.pz λl _=>Dc l) .nil));refine bq O [(15,af),(20,af),(25,af)] rfl ?_ ?_
 .simp only[az,hk,cF.list_fn,cH.list_fn,g9,B,H];exact⟨rfl,cH.aU _,rfl,cF.aU _,rfl⟩
 have I:=uB H;have u:∀x∈l,bA .i64 x.1/\bA .i64 x.2:=λx r=>by have:=I.1 x r;simp only[eF,bR,ba]at this;simp only[bA];omega
 have hT:=Iy H;have D:=zh (X:=X) l F u;have v:∀n,Ev X 34 [.e (.one (.c (tC (oE l)))),dI n] [] (dI (mJ l n)) []:=λn=>hT n▸Po (oE l) n
 clear hT;generalize oE l=T at *;have c1:bE X [(32,xh [QN l] (.e (.one (.c (tC T)))))]:=.cons (Au D) .nil;cases T<;>(
  refine cx c1 rfl rfl ?_;refine AK.iC 8 9 1 rfl rfl ?_;refine AK.sq 3 [0,7,29,30] (λi=>i<=t.length) (λi:Nat=>[(8,dV2 ((gL (t.take i)).foldl (iF k l) [])),(31,dI i)]) (λi=>GB m q++[.vec 9 1 ((gL (t.take i)).foldl (iF k l) []).length (cS.fn ((gL (t.take i)).foldl (iF k l) []))]) (λi=>t.length-i) 0 rfl ?_ rfl ?_ rfl (by omega) ?_
  .simp[gL]
  .simp[gL]
  intro i hi;by_cases h:i<t.length
  .have w:t.getD (i:Int).toNat cF.b5=t.getD i ([],[]):=by grind
   have b:t.getD i ([],[])∈t:=by grind
   have P:=xR B _ b;have d:=y3 h;have z:=Gx t (i+1);have E:=dT B;have K:=(E.sZ _ b).1;have L:=E.all;have N:=E.len;have C:=nJ K;generalize t.getD i ([],[])=f at *;rw[d,cX]at z;have G:gV f.2=pieces f.2:=by unfold gV;grind
   have c2:bE X [(33,kr aS (λs=>cS.sl (gV s)) λ_=>[])]:=.cons Av .nil;refine bq c2 [(32,ab)] rfl ?_ ?_
   .simp only[az,w,K,ba,aG,aE];and_intros<;>omega
   rw[w,G];refine AK.sq 4 [0,7,29,30,31,37,38] (λj=>j<=(pieces f.2).length) (λj:Nat=>[(8,dV2 ((gL (t.take i)++(pieces f.2).take j).foldl (iF k l) [])),(39,dI j)]) (λj=>GB m q++[.vec 9 1 ((gL (t.take i)++(pieces f.2).take j).foldl (iF k l) []).length (cS.fn ((gL (t.take i)++(pieces f.2).take j).foldl (iF k l) [])),.cells 76 [.c (.str f.1),.c (.str f.2)]]) (λj=>(pieces f.2).length-j) 0 rfl ?_ rfl ?_ rfl (by omega) ?_
   .simp
   .simp[w]
   intro j R;have y:=tL k l (gL (t.take i)++(pieces f.2).take j) [];simp only[gx,cX,List.length_take]at y;by_cases Q:j<(pieces f.2).length
   .have A:(pieces f.2).getD (j:Int).toNat cS.b5=(pieces f.2).getD j []:=by grind
    have J:bz ((pieces f.2).getD j [])=ab:=C _ (by grind);have a:(gL (t.take i)++(pieces f.2).take (j+1)).foldl (iF k l) []=iF k l ((gL (t.take i)++(pieces f.2).take j).foldl (iF k l) []) ((pieces f.2).getD j []):=by grind[bS]
    generalize(gL (t.take i)++(pieces f.2).take j).foldl (iF k l) []=out at *;generalize(pieces f.2).getD j []=p at *;have r:=cS.cu out p;refine bH [(40,ab)] rfl ?_ ?_
    .simp only[az,ba,aG,aE];and_intros<;>omega
    rw[A];refine AK.cQ (tY m q k p hk J) [0,1] rfl ?_;refine AK.cQ (v _) [] rfl ?_;have c3:bE X [(36,GS)]:=.cons Pp .nil;by_cases g:mJ l (en k p)=0
    .cases M:out.contains p with
     |true =>
      rw[iF,aZ (by grind)]at a;refine bq c3 [(49,ab),(54,af)] rfl ?_ (AK.aQ (j+1) rfl ?_ ?_ ?_ ?_)
      .simp only[az,g,M,bA,cS.list_fn,jB,ba,aG,aE];and_intros<;>first|exact cS.aU _|rfl|omega
      .rw[a];simp
      .rw[a];simp
      .grind
      .omega
     |false =>
      rw[iF,bl (by grind)]at a;refine bq c3 [(49,ab),(54,ab)] rfl ?_ (AK.aQ (j+1) rfl ?_ ?_ ?_ ?_)
      .simp only[az,g,M,bA,show i9.bytes=16 from rfl,cS.list_fn,jB,ba,aG,aE];and_intros<;>first|exact cS.aU _|rfl|omega
      .rw[a];simp only[az.cat,az,cX,eU,gx,aG,aE];and_intros<;>first|exactλ_ _=>rfl|exact r|rfl|omega
      .rw[a];simp only[az.cat,az,cX,eU,gx,aG,aE];and_intros<;>first|exactλ_ _=>rfl|exact r|rfl|omega
      .grind
      .omega
    .rw[iF,aZ (by grind)]at a;refine bq c3 [(49,af)] rfl ?_ (AK.aQ (j+1) rfl ?_ ?_ ?_ ?_)
     .simp only[az,bA,eD,dr,g,nY,aG,aE];and_intros<;>omega
     .rw[a];simp
     .rw[a];simp
     .grind
     .omega
   .have o:j=(pieces f.2).length:=by omega
    refine bH [(40,af)] rfl (by simp only[az,bO];omega) (AK.leaveD rfl rfl ?_);refine c8 rfl ?_ (AK.aQ (i+1) rfl ?_ ?_ ?_ ?_)
    .simp only[az,bA];omega
    .rw[d,o,di];simp
    .rw[d,o,di];simp
    .grind
    .omega
  .obtain rfl:i=t.length:=by omega
   rw[di];refine bH [(32,af)] rfl (by simp) (AK.leaveD rfl rfl ?_)
   refine c8 rfl ay (AK.de [0,1] rfl ?_ rfl rfl rfl A8);simp[c6,gL])
abbrev ZG(q:bG×Bool):D:=.eX [.agg [.c (.int .i64 q.1.1),.c (.sl af 2 q.1.2.length (dO.fn q.1.2))],.one (.c (.bool q.2))]
def k8(k:Int)(p:Bs):bn:=(en k p,eO p)
def zi(no k:Int)(ps:List Bs):bG:=(no,mK (ps.map (k8 k)))
def nU(no k:Int)(ps:List Bs):bG×Bool:=if gg k (zi no k ps)=ab then(zi no k ps,ab)else((0,[]),af)
theorem qz:∀(l a:List bn),(l.foldl gQ a).length=a.length+l.length
 |[],a=>by simp
 |x::l,a=>by rw[lh,qz l,yT,eU];omega
def Mw:∀(f:Nat){l:List bn}{j:Nat},j0 l->j<l.length->j0 (x0 f l j)
 |0,_,_,h,_=>h
 |f+1,l,j,h,a=>by
  rw[x0];split
  .exact h
  .split
   .exact Mw f (tZ h (by omega) a) (by grind[fS])
   grind
theorem Mx{l:List bn}{x:bn}(b:j0 l)(c:bA .i64 x.1/\x.2.length<=9223372036854775807):j0 (gQ l x):=by
 refine Mw _ (λy a=>?_) (by simp);rcases fY.1 a with h|h
 .exact b y h
 grind
def Pr{l:List bn}(b:j0 l)(a:0<l.length):j0 (kt l) :=
 xX _ _ (tZ b a (by omega)) (by grind[fS]) (by grind[fS])
theorem GW{k:Int}{p:Bs}(a:bz p=ab):bA .i64 (k8 k p).1/\(k8 k p).2.length<=9223372036854775807:=by
 have h:=a;simp only[bz,bR,ba]at h;have c:=pV (codeOf p*(2*k+1)+k*7919) (show(999999999989:Int)≠0 by decide);have b:=pR (codeOf p*(2*k+1)+k*7919) (show(0:Int)<999999999989 by decide);refine⟨?_,?_⟩
 .show bA .i64 (en k p);simp only[bA,en];omega
 .show (eO p).length<=_;unfold eO cG;grind
def GX(k:Int)(ps:List Bs)(b:∀p∈ps,bz p=ab):j0 ((ps.map (k8 k)).foldl gQ []):=by
 have:∀(l:List Bs) (a:List bn),(∀p∈l,bz p=ab)->j0 a->j0 ((l.map (k8 k)).foldl gQ a):=by
  intro l;induction l with
  |nil=>grind
  |cons p r c=>grind[Mx,GW]
 exact this ps [] b (by simp[j0])
abbrev Wu(a b:aj×ah)(g:Nat)(bf:m9)(l:List bn):List aP:=GB a b++[.cells 37 [.c (.int .i64 0),.c (.sl ab 0 0 λ_=>[])],cB g bf l.length,hB bf l.length l]
abbrev My(no:Int)(out:List bn):List aP:=[.cells 37 [.c (.int .i64 no),.vec 6 2 out.length (dO.fn out)],.vec 66 2 out.length (dO.fn out)]
def uE(f o:aj×ah)(no k:Int)(ps:List Bs)(K:bA .i64 no)(hk:cd k=ab)(j:∀p∈ps,bz p=ab)(T:ps.length<=4):
  Ev X 69 [dI no,dI k,cS.sl ps] (GB f o) (ZG (nU no k ps)) (GB f o):=by
 refine Ev.qK tok Tryz.func69 rfl rfl rfl λU=>?_;refine bH [(1000002,ab)] rfl ay ?_;refine AK.Kl 8 3 66 2 rfl rfl λg O=>?_;refine c8 rfl ay ?_;refine AK.sq 5 [0,1,6,8,14,15] (λq:Nat×m9=>q.1<=ps.length) (λq=>[(16,dI q.1)]) (λq=>Wu f o g q.2 (((ps.take q.1).map (k8 k)).foldl gQ [])) (λq=>ps.length-q.1) (0,.nil O) rfl ?_ rfl ?_ rfl (by omega) ?_
 .simp
 .simp[s8]
 rintro⟨i,bf⟩ hi;simp only at hi;by_cases h:i<ps.length
 .have H:ps.getD (i:Int).toNat cS.b5=ps.getD i []:=by grind
  have v:bz (ps.getD i [])=ab:=j _ (by grind);have F:((ps.take (i+1)).map (k8 k)).foldl gQ []=gQ (((ps.take i).map (k8 k)).foldl gQ []) (k8 k (ps.getD i [])):=by grind[bS]
  have Q:(((ps.take i).map (k8 k)).foldl gQ []).length=i:=by grind[qz]
  have m:=GX k (ps.take i) λp E=>j p (fW E);generalize ps.getD i []=p at *;generalize((ps.take i).map (k8 k)).foldl gQ []=l at *;refine bq (.cons Oj .nil:bE X [(119,nC)]) [(17,ab)] rfl ?_ ?_
  .simp only[az,ba,aG,aE];and_intros<;>omega
  rw[H];refine AK.cQ (tY f o k p hk v) [0,1] rfl ?_;refine cx (.cons Oj .nil:bE X [(119,nC)]) rfl ay ?_;refine AK.cP (Dd g bf m (by omega) (x:=k8 k p) (GW v)) [3,4] rfl (λ_=>rfl) λA=>?_;have s:=yT l (k8 k p);refine c8 rfl ?_ (AK.aQ (i+1,A) rfl ?_ ?_ ?_ ?_)
  .simp only[az,bA];omega
  .simp
  .simp only[F,s,az.cat,az,aG,aE];grind[cv.same]
  .grind
  grind
 obtain rfl:i=ps.length:=by omega
 rw[di];refine bH [(17,af)] rfl (by simp) (AK.leaveD rfl rfl ?_);have S:((ps.map (k8 k)).foldl gQ []).length<=4:=by grind[qz]
 have m:=GX k ps j;have y:mK (ps.map (k8 k))=[]++lE ((ps.map (k8 k)).foldl gQ []).length ((ps.map (k8 k)).foldl gQ []):=by rw[mK,qz,mn,gx,bC]
 refine c8 rfl ay ?_;refine AK.g7 5 1 66 2 (dO.fn []) rfl rfl ?_;refine AK.sq 7 [1,6,8,11] (λq:List bn×m9×List bn=>j0 q.1/\q.1.length+q.2.2.length<=4/\mK (ps.map (k8 k))=q.2.2++lE q.1.length q.1) (λq=>[]) (λq=>Wu f o g q.2.1 q.1++My no q.2.2) (λq=>q.1.length) ((ps.map (k8 k)).foldl gQ [],bf,[]) rfl ?_ rfl ?_ rfl ⟨m,by grind,y⟩ ?_
 .simp
 .simp
 rintro⟨h,bf,out⟩ ⟨B,I,w⟩;simp only at B I w;refine c8 rfl ay ?_;refine AK.law (bF.B6 rfl rfl) rfl rfl ?_;refine AK.one (OA.yG tok 3 rfl rfl rfl rfl rfl (ni bf _) rfl) rfl ?_;refine AK.cQ (Ba bf h.length h) [4] rfl ?_;by_cases N:h.length=0
 .rw[N,lE,iQ]at w;subst w;refine bH [(37,af)] rfl (by simp only[az,bO,aE];omega) (AK.leaveD rfl rfl ?_);have G:bE X [(104,Ax)]:=.cons Gk .nil;have M:(mK (ps.map (k8 k))).length<=4:=by omega
  cases u:gg k (zi no k ps)with
  |false =>
   have a:gg k (no,mK (ps.map (k8 k)))=af:=u;have e:nU no k ps=((0,[]),af):=by unfold nU;grind
   rw[e];refine bq G [(50,ab)] rfl ?_ ?_
   .simp only[az,dO.list_fn,a,hk];and_intros<;>first|exact dO.aU _|rfl|exact True.intro|grind
   refine AK.lC () [0,1] rfl rfl rfl rfl rfl rfl rfl rfl rfl ?_ rfl rfl rfl rfl A8;simp
  |true =>
   have a:gg k (no,mK (ps.map (k8 k)))=ab:=u;have e:nU no k ps=(zi no k ps,ab):=by unfold nU;grind
   rw[e];refine bq G [(50,af)] rfl ?_ ?_
   .simp only[az,dO.list_fn,a,hk];and_intros<;>first|exact dO.aU _|rfl|exact True.intro|grind
   refine AK.lC () [0,1] rfl rfl rfl rfl rfl rfl rfl rfl rfl ?_ rfl rfl rfl rfl A8;simp[zi]
 obtain⟨n,t⟩:∃n,h.length=n+1:=⟨h.length-1,by omega⟩
 refine bH [(37,ab),(1000009,ab)] rfl (by simp only[az,ba,aE];omega) ?_;refine AK.fact (Mt (i:=4) (n:=h.length) (bf:=bf) (l:=h) rfl (by omega)) λR=>?_;obtain⟨b,cap,rfl,d⟩:=R;rw[t]at d;have E:=E9 (X:=X) g b cap B t (by omega) d;have P:=Pr B (by omega);have s:((kt h).take n).length=n:=by grind[Cv]
 have L:mK (ps.map (k8 k))=(out++[(kt h).getD n (0,[])])++lE n ((kt h).take n):=by rw[w,t,lE,aZ (by omega),t];simp
 have J:j0 ((kt h).take n):=λx z=>P x (fW z);show AK X _ _ _ _ _ (GB f o++[.cells 37 [.c (.int .i64 0),.c (.sl ab 0 0 λ_=>[])],cB g (.row b cap) h.length,hB (.row b cap) h.length h]++My no out);rw[t];generalize(kt h).getD n (0,[])=x at *;generalize(kt h).take n=r at *;refine AK.Kc (ι:=Unit) ja 4 7 10 (λk=>bu k 3) (λk=>([.e (.one (.ptr 5 1)),.e (.one (.vec 6 2 out.length (dO.fn out))),uW (.pointer (aa ⟨g,0,ae⟩)),TZ g]:List D).getD k .any) (λ_ k=>([.any,.any,.any,.any,TY x,Xo x,.e (.one (.c (.sl ab 2 1 λi=>([[.int .i64 x.1,.str x.2]]:List (List C)).getD i [])))]:List D).getD k .any)
  (λ_=>GB f o++[.cells 37 [.c (.int .i64 0),.c (.sl ab 0 0 λ_=>[])],cB g (.row b cap) n,hB (.row b cap) n r]++My no out)
  rfl rfl rfl rfl rfl rfl rfl (λk h=>by have:=cV h;omega) rfl
  ⟨OA.cT tok bE.nil rfl,OA.cT tok bE.nil rfl,OA.cT tok bE.nil rfl,OA.cT tok bE.nil rfl,ay,ay,ay,ay,ay,ay,ay⟩
  (λ_=>⟨OA.cT tok bE.nil rfl,OA.cT tok bE.nil rfl,OA.cT tok bE.nil rfl,OA.cT tok bE.nil rfl,ay,OA.kQ (fD rfl) (bF.Aj (cs:=[.int .i64 x.1,.str x.2]) tok rfl rfl rfl rfl),OA.cT tok bE.nil rfl,ay⟩)
  (mE.qc E.te [3,4] rfl rfl rfl rfl rfl rfl rfl (λ_=>rfl) rfl (λ_=>rfl)) λ_=>?_
 have z:=dO.cu out x;refine c8 rfl ?_ (AK.aQ (r,.row b cap,out++[x]) rfl ?_ ?_ ?_ ?_)
 .simp only[az,show i66.bytes=24 from rfl,aG];omega
 .simp
 .simp only[s,az.cat,az,cX,eU,gx,aG,aE];and_intros<;>first|exact cv.same|exact z|rfl
 .grind
 grind
abbrev ZE(s:gE):D:=.eX [.agg [.c (.int .i64 s.1),.c (.sl af 2 s.2.length (cL.fn s.2))],.one (.c (.bool ab))]
abbrev Wq(a b:aj×ah)(no:Int)(ls:List jU):List aP:=GB a b++[.cells 41 [.c (.int .i64 0),.c (.sl ab 0 0 λ_=>[])],.cells 41 [.c (.int .i64 no),.vec 4 2 ls.length (cL.fn ls)],.vec 69 2 ls.length (cL.fn ls)]
abbrev Wr(f:bx)(ns:List Int):List aP:=[.cells 76 [.c (.str f.1),.c (.str f.2)],.cells 69 [.c (.str f.1),.vec 7 1 ns.length (cI.fn ns)],.vec 3 1 ns.length (cI.fn ns)]
def E8(b d:aj×ah)(no k:Int)(t:List bx)(z:1<=no/\no<=99)(hk:cd k=ab)(o:cw t=ab):
  Ev X 70 [dI no,dI k,cF.sl t] (GB b d) (ZE (fp no k t)) (GB b d):=by
 refine Ev.qK tok Tryz.func70 rfl rfl rfl λL=>?_;have D:bE X [(30,kr aI (λk=>dB (cd k)) λ_=>[]),(24,Wl)]:=.cons t30 (.cons t24 .nil);refine bq D [(15,af),(19,af),(24,af),(29,af)] rfl ?_ ?_
 .simp only[az,hk,cF.list_fn,g9,o,bO];and_intros<;>first|exact cF.aU _|rfl|omega
 refine AK.g7 3 1 69 2 (cL.fn []) rfl rfl ?_;refine AK.sq 5 [1,6,8,33,34] (λi=>i<=t.length) (λi:Nat=>[(35,dI i)]) (λi=>Wq b d no (m6 k (t.take i))) (λi=>t.length-i) 0 rfl ?_ rfl ?_ rfl (by omega) ?_
 .simp
 .simp
 intro i hi;by_cases h:i<t.length
 .have y:t.getD (i:Int).toNat cF.b5=t.getD i ([],[]):=by grind
  have a:t.getD i ([],[])∈t:=by grind
  have w:=dT o;have B:=w.sZ _ a;have G:=xR o _ a;have A:=w.len;have q:=nJ B.1;have I:=kv (t.getD i ([],[])).2;have l:m6 k (t.take (i+1))=m6 k (t.take i)++[oJ k (t.getD i ([],[]))]:=by grind[bS]
  have E:(m6 k (t.take i)).length=i:=by grind
  generalize t.getD i ([],[])=f at *;generalize m6 k (t.take i)=ls at *;have u:gV f.2=pieces f.2:=by unfold gV;grind
  have c2:bE X [(33,kr aS (λs=>cS.sl (gV s)) λ_=>[])]:=.cons Av .nil;refine bq c2 [(36,ab)] rfl ?_ ?_
  .simp only[az,ba,aG,aE];and_intros<;>omega
  rw[y,u];refine AK.g7 6 1 3 1 (cI.fn []) rfl rfl ?_;refine AK.sq 8 [1,6,8,10,11,33,34,35,44,45] (λj=>j<=(pieces f.2).length) (λj:Nat=>[(46,dI j)]) (λj=>Wq b d no ls++Wr f (lF k ((pieces f.2).take j))) (λj=>(pieces f.2).length-j) 0 rfl ?_ rfl ?_ rfl (by omega) ?_
  .simp
  .simp
  intro j K;by_cases J:j<(pieces f.2).length
  .have n:(pieces f.2).getD (j:Int).toNat cS.b5=(pieces f.2).getD j []:=by grind
   have v:bz ((pieces f.2).getD j [])=ab:=q _ (by grind);have g:lF k ((pieces f.2).take (j+1))=lF k ((pieces f.2).take j)++[en k ((pieces f.2).getD j [])]:=by grind[bS]
   have F:(lF k ((pieces f.2).take j)).length=j:=by grind
   generalize(pieces f.2).getD j []=p at *;generalize lF k ((pieces f.2).take j)=ns at *;have m:=cI.cu ns (en k p);refine bH [(47,ab),(1000011,ab)] rfl ?_ ?_
   .simp only[az,ba,aG,aE];and_intros<;>omega
   rw[n];refine AK.calm ja [.e (.one (.ptr 6 1)),.e (.one (.vec 7 1 ns.length (cI.fn ns))),dI k,dS p,dI (en k p),.e (.one (.c (.sl ab 1 1 λi=>([[.int .i64 (en k p)]]:List (List C)).getD i [])))] 6 rfl rfl rfl rfl rfl ⟨OA.cT tok bE.nil rfl,OA.cT tok bE.nil rfl,OA.cT tok bE.nil rfl,OA.cT tok bE.nil rfl,
    OA.TX (mE.qc (tY b d k p hk v).te [0,1] rfl rfl rfl rfl rfl rfl rfl (λ_=>rfl) rfl (λ_=>rfl)),OA.cT tok bE.nil rfl,ay⟩ ?_
   refine c8 rfl ?_ (AK.aQ (j+1) rfl ?_ ?_ ?_ ?_)
   .simp only[az,bA,show i3.bytes=8 from rfl,aG,aE];and_intros<;>omega
   .simp
   .simp only[g,az.cat,az,cX,eU,gx,aG,aE];and_intros<;>first|exact cv.same|exactλ_ _=>rfl|exact m|rfl|omega
   .grind
   .omega
  .have r:j=(pieces f.2).length:=by omega
   rw[r,di];have m:=cL.cu ls (oJ k f);have x:ls.length+1=(ls++[oJ k f]).length:=by simp
   have H:cL.enc (oJ k f)=[C.str f.1,C.sl af 1 (lF k (pieces f.2)).length (cI.fn (lF k (pieces f.2)))]:=rfl;rw[H,<-l]at m;rw[<-l]at x;refine bH [(47,af)] rfl (by simp only[az,bO];omega) (AK.leaveD rfl rfl ?_);refine c8 rfl ?_ (AK.aQ (i+1) rfl ?_ ?_ ?_ ?_)
   .simp only[az,bA,show i69.bytes=40 from rfl,aG,aE];and_intros<;>omega
   .simp
   .simp only[az.cat,az,aG,aE];and_intros<;>first|exact cv.same|exact m|exact x|rfl
   .grind
   .omega
 .obtain rfl:i=t.length:=by omega
  rw[di];refine bH [(36,af)] rfl (by simp) (AK.leaveD rfl rfl ?_);refine c8 rfl ay ?_;refine AK.lC () [0,1] rfl rfl rfl rfl rfl rfl rfl rfl rfl ?_ rfl rfl rfl rfl A8;simp[fp]
end
end Go.AM.R1
namespace Go.AM
namespace R1
variable {X:Cx ag}[X.gZ]
abbrev js:aP:=.cells 27 [gK,gK,gK]
abbrev f92(t:List bx)(n:Nat):Fr:=[(0,.e (.one (.ptr 0 0))),(2,.e (.one (.ptr 1 0))),(3,.e (.one (.ptr 2 0))),(4,cF.sl t),(5,dI n)]
end R1
end Go.AM
namespace Go.AM.R1
section
variable {X:Cx ag}[X.gZ]
abbrev yo:aP:=.b8 (fQ 37 2 (.nil ae) 0 [])
abbrev MP(v:ah)(s:bm):aP:=.cells 27 [.c (.val v),.c (EI s.2.1),.c (Ct s.2.2)]
abbrev TA(v:ah)(s:bm):D:=.e (.agg [.c (.val v),.c (EI s.2.1),.c (Ct s.2.2)])
abbrev MQ:aP:=.cells 27 [.any,.any,.any]
abbrev Bh(v:ah)(s:bm):aP:=.b8 (PM (Tz v s.1))
def d9P(m:Nat)(b:Nat->Int)(k:Int)(s s':bm)(e:Option ah)(a c d:Bool):List aP :=
 match e with
 |none=>match a,c with
  |false,af=>[kZ m b k,js,vB s,yo]
  |true,af=>[kZ m b (k+1),js,vB s,yo]
  |false,ab=>[kZ m b k,js,vB s,yo,js]
  |true,ab=>[kZ m b (k+1),js,vB s,yo,js]
 |some v=>match a,c,d with
  |true,af,_=>[kZ m b (k+1),js,vB s,Bh v s']
  |true,ab,af=>[kZ m b (k+1),js,vB s,Bh v s',js]
  |true,ab,ab=>[kZ m b (k+1),js,vB s,Bh v s',MP v s']
  |false,af,_=>[kZ m b k,js,vB s,Bh v s']
  |false,ab,_=>[kZ m b k,js,vB s,Bh v s',js]
def x9P(u:Int)(s s':bm)(t:List bx)(a:Option ah)(i:Nat):D :=
 [rq s,.e (.one (.ptr 0 0)),dI u,dI (1+u),cF.sl t,
  (match a with|none=>.any|some v=>.eX [.agg [.c (.val v),.c (EI s'.2.1),.c (Ct s'.2.2)],.one (.c (.bool ab))]),
  (match a with|none=>.any|some v=>.eX [.agg [.c (.val v),.c (EI s'.2.1),.c (Ct s'.2.2)],.one (.c (.bool ab))]),
  (match a with|none=>.any|some v=>TA v s'),dB ab,.e (.one (.ptr 4 0)),.any,dB ab].getD i .any
def d9F(m:Nat)(b:Nat->Int)(k:Int)(v:ah)(s:bm)(a c d:Bool):List aP :=
 match a,c,d with
 |false,af,_=>[kZ m b k,js,MP v s,Bh v s]
 |true,af,_=>[kZ m b (k+1),js,MP v s,Bh v s]
 |false,ab,af=>[kZ m b k,js,MP v s,Bh v s,js]
 |true,ab,af=>[kZ m b (k+1),js,MP v s,Bh v s,js]
 |false,ab,ab=>[kZ m b k,js,MP v s,Bh v s,MQ]
 |true,ab,ab=>[kZ m b (k+1),js,MP v s,Bh v s,MQ]
abbrev MR:D:=.eX [.agg [.any,.any,.any],.one (.c (.bool af))]
def x9F(u:Int)(v:ah)(s:bm)(t:List bx)(i:Nat):D:=[TA v s,.e (.one (.ptr 0 0)),dI u,dI (1+u),cF.sl t,MR,MR,.e (.agg [.any,.any,.any]),dB af,.e (.one (.ptr 4 0)),.any,dB af].getD i .any
abbrev StJ(k:Nat):={q:bm×ah×Nat // D7 q.1/\k<=q.2.2/\q.2.2<=k+1000}
def D7.ne{s:bm}(h:D7 s):∀p∈s.1,0<p.2.length:=λp a=>(h.p p a).len.1
def WI:∀j,j<1->([0,3]:List Nat)[j]?=aa j:=λj a=>by grind
def Fp(s:bm)(by_:Int)(t:List bx)(a:D7 s)(c:sE t)(b:gm 7 s t=ab):eb (ι:=Nat->ah) X 22 [dI 7,rq s,dI by_,cF.sl t] [] (λ_=>MR) (λ_=>[]) :=
 (rC (X:=X) 7 s by_ t (by decide) a.size a.num c a.cW a.ne b).le (λ_=>rfl) (λ_=>by simp)
set_option maxRecDepth 20000 in
def Dk(m:Nat)(b:Nat->Int)(A:Bytes b)(k:Nat)(hk:k<=40000)(H:m<=1048576):
  eb (ι:=StJ k) X 41 [.e (.one (.ptr 0 0))] [kZ m b k] (λq=>TA q.1.2.1 q.1.1) (λq=>[kZ m b q.1.2.2,Bh q.1.2.1 q.1.1]):=by
 refine eb.rZ tok Tryz.func41 rfl rfl rfl λhf=>?_;refine aX [(1000002,ab)] rfl ay ?_;refine AK.spare 37 2 ?_;refine AK.U2 3 2 0 2 (cP.fn []) (by decide) rfl rfl rfl λv0=>?_;refine bt rfl ay ?_;refine AK.cP (OL m b A k (by omega) H) [0] rfl (λ_=>rfl) ?_;rintro⟨⟨t0,k1⟩,N,U,I⟩;simp only at N U I;refine bt rfl ay ?_;refine AK.cP (gw m b A k1 5 (by omega) H (by omega)) [0] rfl (λ_=>rfl) ?_;rintro⟨u,u0,u1⟩;refine bt rfl ay ?_;refine AK.cz 4 (λq:bm×ah×List bx×Nat×Nat=>D7 q.1/\cw q.2.2.1=ab/\q.2.2.2.1<=4/\k<=q.2.2.2.2/\q.2.2.2.2+100*q.2.2.2.1<=k+900) (λq=>f92 q.2.2.1 q.2.2.2.1) (λq=>[kZ m b q.2.2.2.2,js,MP q.2.1 q.1,Bh q.2.1 q.1]) (λq=>q.2.2.2.1) (([],[],[]),v0,t0,u.toNat,k1+1) rfl ?_ rfl ?_ rfl ⟨D7.nil,N,by grind,by grind,by grind⟩ ?_
 .simp only[az.cat,az,aG,aE];and_intros<;>first|exactλ_ _=>rfl|omega
 .simp;rfl
 rintro⟨s,v,t,n,l⟩ ⟨z,Q,V,O,P⟩;simp only at z Q V O P;by_cases hn:0<n
 .have hv:=ux m b l 2 (by omega);have r:az [(l:Int)=(l:Int).toNat,Gz b=Gz (S5 (Gz b)),Bytes (S5 (Gz b)),(l:Int)<=4000000,m<=1048576,(1:Int)<=2,(2:Int)<=4000000]:=⟨rfl,rfl,A,by omega,H,by omega,(by decide:(2:Int)<=4000000)⟩
  have B:az [bA .i64 (1+md m b l 2)]:=by simp only[az,bA];omega
  have g:bE X [(17,Zq)]:=.cons t17 .nil;refine bH [(19,ab),(1000006,ab)] rfl (by simp only[az,ba];omega) ?_;apply AK.U3 (ι:={q:bm×ah // D7 q.1}) (λ_=>f92 t n) (λq=>[kZ m b (l+1:Nat),js,MP q.1.2 q.1.1,Bh q.1.2 q.1.1,MQ])
  .intro out;cases F:gm 7 s t with
   |true =>
    have G:=Fp (X:=X) s (1+md m b l 2) t z (dT Q) F;refine AK.flags ja (x9F (md m b l 2) v s t) (ui (d9F m b l v s) 2 9 10) rfl rfl rfl rfl
     ⟨.IT tok g,
     .IT tok g,
     dW.e1 rfl rfl rfl rfl (λc d=>by cases c<;>cases d<;>exact gB (ds:=[]) tok g (σ':=aa _) rfl r),
     .Z8 tok g B,
     .IT tok g,
     dW.q3 rfl rfl rfl (λa c d=>by cases a<;>cases c<;>cases d<;>exactλs a f hh b kk cs S i rest A hi hK=>mE.ql G rfl rfl rfl (jJ.agg 1 0 3 rfl rfl (PM.Bx rfl λ_ h=>h)) rfl (by simp) rfl (λ_=>rfl) (λ_=>rfl) s a f hh b kk cs S i rest A hi λ_=>hK),
     .IT tok g,
     .IT tok g,
     .IT tok g,
     dW.e2 rfl rfl rfl rfl rfl (λa=>by cases a<;>exact gB (ds:=[]) tok g (σ':=aa _) rfl ay),
     dW.e3 rfl rfl rfl rfl rfl (λa=>by cases a<;>exact gB (ds:=[]) tok g (σ':=aa _) rfl ay),
     .IT tok g,ay⟩ ?_
    intro D o;show AK X _ _ _ _ _ (d9F m b l v s (D 2) (D 9) (D 10));rw[o 2 (by decide),o 9 (by decide),o 10 (by decide)];refine bH [(1000009,ab)] rfl ay ?_;exact out ⟨(s,v),z⟩ _ _ rfl (by simp)
   |false =>
    have L:=z.save (by_:=1+md m b l 2) Q (by omega) F;have G:=xY (X:=X) 7 s (1+md m b l 2) t (by decide) z.size z.num (dT Q) z.cW z.ne F;generalize ee 7 s (1+md m b l 2) t=s' at *;refine AK.rn 3 2 0 (E:=37) (k:=2) (cl:=Gq s.1) (by decide) rfl rfl rfl (λ_ h=>h) ?_;refine AK.Rv ja (x9P (md m b l 2) s s' t) (SO (d9P m b l s s') 2 9 10) (wE ah 5) ae rfl rfl rfl rfl rfl
     ⟨.qe tok g,
     .qe tok g,
     ic.pre rfl rfl rfl rfl rfl (λc=>by cases c<;>exact gB (ds:=[]) tok g (σ':=aa _) rfl r),
     .qo tok g B,
     .qe tok g,
     ic.YD rfl rfl rfl rfl rfl (λj q=>by
      match q with
      |0=>exact .inr (.inr rfl)
      |1=>exact .inr (.inr rfl)
      |2=>exact .inr (.inr rfl)
      |3=>exact .inr (.inr rfl)
      |4=>exact .inr (.inr rfl)
      |5=>grind
      |6=>exact .inr (.inl rfl)
      |7=>exact .inr (.inl rfl)
      |8=>exact .inr (.inr rfl)
      |9=>exact .inr (.inr rfl)
      |10=>exact .inr (.inr rfl)
      |11=>exact .inr (.inr rfl)
      |q+12=>exact .inr (.inr rfl)) (λc=>by cases c<;>exact mE.jL G [3] rfl rfl rfl rfl (by simp) rfl rfl rfl (λ_=>rfl) rfl (λ_=>rfl)),
     .qs tok g,
     .qs tok g,
     .qs tok g,
     ic.X0 rfl rfl rfl rfl (λR a=>by cases R<;>cases a<;>exact gB (ds:=[]) tok g (σ':=aa _) rfl ay),
     ic.last rfl rfl rfl rfl rfl rfl (λv'=>gB (ds:=[]) tok g (σ':=aa _) rfl ay),
     .qs tok g,ay⟩ ?_
    intro R D W o;have W:R.isSome=ab:=W.trans (o 5 (by decide));rcases R with _|v'
    .cases W
    show AK X _ _ _ _ _ (d9P m b l s s' (aa v') (D 2) (D 9) (D 10));rw[o 2 (by decide),o 9 (by decide),o 10 (by decide)];refine bH [(1000009,ab)] rfl ay ?_;refine AK.BZ (φ':=f92 t n) (σ':=[kZ m b (l+1:Nat),js,MP v' s',Bh v' s',MQ]) ?_ rfl ?_ rfl ?_
    .exact out ⟨(s',v'),L⟩ _ _ rfl (by simp)
    .simp
    .simp
  rintro⟨⟨s',v'⟩,L⟩;refine c8 rfl ay ?_;refine AK.cP (vF m b A (l+1) (by omega) H) [0] rfl (λ_=>rfl) ?_;rintro⟨p,hp⟩;refine c8 rfl ay ?_;refine AK.cP (GN m b A (l+1+1+1) (by omega) H) [0] rfl (λ_=>rfl) ?_;rintro⟨⟨x,K⟩,hx,T,J⟩;simp only at hx T J;refine c8 rfl ay ?_;refine AK.cQ (xM t p x) [] rfl ?_;have Z:=EX (t:=t) (p:=p) (x:=x);obtain⟨C,y⟩:∃C,C=if(ek t p x).2=ab then(ek t p x).1 else t:=⟨_,rfl⟩
  have Y:cw C=ab:=by grind
  apply AK.join (f92 C n) [kZ m b K,js,MP v' s',Bh v' s',MQ]
  .intro out;cases M:(ek t p x).2 with
   |true =>
    rw[M,bl rfl]at y;rw[<-y];refine bH [(1000012,ab)] rfl ay ?_;exact out _ _ rfl (by simp)
   |false =>
    rw[M,aZ (by simp)]at y;rw[y]at out;refine bH [(1000012,ab)] rfl ay ?_;exact out _ _ rfl (by simp)
  clear y;refine c8 rfl ay ?_;refine AK.cP (gw m b A K 3 (by omega) H (by omega)) [0] rfl (λ_=>rfl) ?_;rintro⟨w,w0,w1⟩;by_cases hw:w=0
  .refine bH [(46,ab)] rfl (by simp[hw]) ?_;refine AK.cP (vF m b A (K+1) (by omega) H) [0] rfl (λ_=>rfl) ?_;rintro⟨p2,hp2⟩;have UP:=mc Y;refine c8 rfl ay ?_;refine AK.cQ (GO C p2 (by omega)) [] rfl ?_;refine c8 rfl ?_ (AK.aQ (s',v',mb C p2,n-1,K+1+1+1) rfl ?_ ?_ ?_ ?_)
   .simp only[az,bA];omega
   .simp only[az.cat,az,aG,aE];and_intros<;>first|exactλ_ _=>rfl|omega
   .simp
   .grind [LH]
   grind
  .refine bH [(46,af)] rfl (by simp[hw,bA];omega) (AK.aQ (s',v',C,n-1,K+1) rfl ?_ ?_ ?_ ?_)
   .simp only[az.cat,az,aG,aE];and_intros<;>first|exactλ_ _=>rfl|omega
   .simp
   .grind
   grind
 .refine bH [(19,af)] rfl (by simp only[az,bO];omega) (AK.leaveD rfl rfl ?_);refine c8 rfl ay ?_;refine AK.mH ⟨(s,v,l),z,O,by grind⟩ [0,3] rfl rfl rfl rfl rfl rfl rfl rfl ?_ rfl rfl rfl rfl WI;simp
end
end Go.AM.R1
namespace Go.AM
def eb.die{P:ar}{ι:Type}{X:Cx P}{f:aJ}{args:List D}{E k n:Nat}{a:Nat->List C}{w:BP}{es:ι->Nat->List C}{m:ι->Nat}(h:eb X f args [.buf E k n a] (λ_=>.e (.one (.bp 0 w))) (λi=>[.buf E k (m i) (es i)])):Ev X f args [.buf E k n a] (.e (.one (.bp 0 w))) [.dead] :=
 ⟨h.1,λs vs hr hh S cs hS=>h.2 s vs hr hh S cs λi fr v s' hl ml iY st=>hS fr v s' hl (by
  obtain⟨lv,h1,_,_⟩:gn _ _ _ (.bp 0 w):=ml;exact(⟨lv,h1,by simp,λ_ _ _ _ b=>by grind⟩:gn [.dead] s' v (.bp 0 w))) iY.lI
  ⟨st.size,st.fb,st.mem,st.iV,st.vd,λl B L hB hL=>by
   obtain⟨B',L',h1,h2,c⟩:=st.box l B L hB hL;cases l with
   |zero=>simp at hB;subst hB;exact⟨.dead,L',rfl,h2,ay⟩
   |succ l=>grind,st.os,st.tape,st.output,st.own⟩⟩
namespace R1
variable {X:Cx ag}
def xF(h:sK):Ev X 110 [Zd h] [] (dB (gY h)) []:=by
 refine Ev.bQ Tryz.func110 rfl λb=>?_;have a:bE X []:=.nil;unfold gY;by_cases c1:h.1=1
 .by_cases c3:1<=h.2
  .exact aW a [(6,ab),(11,ab),(16,ab)] rfl (by simp[c1,c3]) (AK.bw rfl (by simp[c1,c3]))
  .exact aW a [(6,ab),(11,ab),(16,af)] rfl (by simp[c1];omega) (AK.bw rfl (by simp[c3]))
 .by_cases c2:h.1=2
  .by_cases c3:1<=h.2
   .exact aW a [(6,af),(11,ab),(16,ab)] rfl (by simp[c2,c3]) (AK.bw rfl (by simp[c2,c3]))
   .exact aW a [(6,af),(11,ab),(16,af)] rfl (by simp[c2];omega) (AK.bw rfl (by simp[c3]))
  .exact aW a [(6,af),(11,af),(16,af)] rfl (by simp[c1,c2]) (AK.bw rfl (by
    have:¬(1<=h.1/\h.1<=2):=by omega
    simp only[az,iP this];simp))
def Ic(h:sK):Ev X 109 [Zd h] [] (dB (!gY h)) []:=by refine Ev.bQ Tryz.func109 rfl λb=>?_;have a:bE X [(110,kr TQ (λh=>dB (gY h)) λ_=>[])]:=.cons (.pz λh _=>xF h) .nil;exact cf a rfl ay (AK.bw rfl)
def Ie(l:List sK):k6 l=(decide (l.length<=9)&&!l.any λh=>!gY h):=by
 have:(bg l.length).all (λi=>gY (l.getD i (0,0)))=!l.any λh=>!gY h:=by rw[pW,dz,j8,List.any_eq_false];grind[List.mem_iff_getElem]
 rw[k6,this,Bool.and_comm]
def Ig(l:List sK):Ev X 61 [cH.sl l] [] (dB (k6 l)) []:=by
 refine Ev.bQ Tryz.func61 rfl λd=>?_;have a:=Lu (X:=X) l 109 (λh=>!gY h) λx _=>Ic x;have b:bE X [(108,xh [cH.sl l,.e (.one (.c (.fn (.func 109) [] [])))] (dB (l.any λh=>!gY h)))]:=.cons (Au a) .nil;rw[Ie];by_cases h:l.length<=9
 .exact aW b [(6,ab)] rfl ⟨rfl,db (by omega)⟩ (AK.bw rfl (by simp[h]))
 .exact aW b [(6,af)] rfl (by simp;omega) (AK.bw rfl (by simp[iP h]))
def GI:ef X 61 sL:=.pz λl _=>Ig l
def AR(p:bG)(d:p.2.length<=4000000):Ev X 85 [KI p] [] (cI.sl (p.2.map (·.1))) []:=by
 refine Ev.bQ Tryz.func85 rfl λf=>?_;refine aX [(1000002,ab)] rfl ay ?_;refine AK.iC 3 3 1 rfl rfl ?_;refine bt rfl ay ?_;refine AK.cz 2 (λi=>i<=p.2.length) (λi:Nat=>[(1,.e (.one (.ptr 0 0))),(3,.e (.one (.vec 1 1 i (cI.fn ((p.2.take i).map (·.1)))))),(7,dO.sl p.2),(8,dI p.2.length),(9,dI i)]) (λi=>[SR p,.vec 3 1 i (cI.fn ((p.2.take i).map (·.1)))]) (λi=>p.2.length-i) 0 rfl (by simp) rfl (by simp) rfl (by omega) ?_;intro i hi;by_cases h:i<p.2.length
 .have b:p.2.getD (i:Int).toNat dO.b5=gX p i:=by grind
  have a:(p.2.take (i+1)).map (·.1)=(p.2.take i).map (·.1)++[(gX p i).1]:=by grind[bS]
  have c:((p.2.take i).map (·.1)).length=i:=by grind
  have e:=cI.cu ((p.2.take i).map (·.1)) (gX p i).1;rw[c]at e;refine aX [(10,ab)] rfl ?_ (AK.aQ (i+1) rfl ?_ ?_ h (by omega))
  .simp only[az,bA,show i3.bytes=8 from rfl];grind
  .rw[a];simp only[az.cat,az,b,aG,aE];and_intros<;>first|exact cv.same|exact e|rfl|omega
  .rw[a];simp only[az.cat,az,b,aG,aE];and_intros<;>first|exact cv.same|exact e|rfl|omega
 obtain rfl:i=p.2.length:=by omega
 rw[di];refine aX [(10,af)] rfl (by simp) (AK.leaveD rfl rfl ?_);exact bt rfl ay (AK.bw rfl)
abbrev CN:dt:=kr (Eu dO) (λp=>cI.sl (p.2.map (·.1))) λp=>[p.2.length<=4000000]
def LD:ef X 85 CN:=.pz λp h=>AR p h
def Ih(ps:List bG)(i:Nat):(bX (ps.take i)).length<=(bX ps).length:=by
 have:bX ps=bX (ps.take i)++bX (ps.drop i):=by unfold bX;grind[List.take_append_drop]
 grind
abbrev Ze(l:List Int):D:=.e (.one (.bp 0 (.sl l.length 1 0 l.length)))
def CO(ps:List bG)(m:∀p∈ps,p.2.length<=4000000)(q:(bX ps).length<=4000000):Ev X 40 [cP.sl ps] [] (Ze (bX ps)) [IZ (bX ps).length (bX ps)]:=by
 refine Ev.bQ Tryz.func40 rfl λn=>?_;have k:=n.sl 0 rfl;have c:bE X [(85,CN)]:=.cons LD .nil;refine aW c [(1000002,ab)] rfl ay ?_;refine AK.Vb 3 3 1 (cI.fn []) rfl ?_;refine cf c rfl ay ?_;refine AK.cz 1 (λi=>i<=ps.length) (λi:Nat=>[(3,.e (.one (.bp 0 (.sl (bX (ps.take i)).length 1 0 (bX (ps.take i)).length)))),(6,cP.sl ps),(7,dI ps.length),(8,dI i)]) (λi=>[IZ (bX (ps.take i)).length (bX (ps.take i))]) (λi=>ps.length-i) 0 rfl (by simp[bX]) rfl (by simp[cv,bX]) rfl (by omega) ?_;intro i hi;by_cases h:i<ps.length
 .have g:ps.getD (i:Int).toNat cP.b5=ps.getD i (0,[]):=by grind
  have b:=xE h;have f:=Ih ps (i+1);have l:=m _ (lR (d:=(0,[])) h);generalize ps.getD i (0,[])=p at *;rw[b]at f;generalize bX (ps.take i)=a at *;have e:=cI.SX a (p.2.map (·.1)) _ rfl;simp only[cX,lg]at f e;refine aW c [(9,ab)] rfl ?_ (AK.aQ (i+1) rfl ?_ ?_ h (by omega))
  .simp only[az,g,bA,dO.list_fn,dO.aU,lg,show i3.bytes=8 from rfl];grind
  .rw[b];simp only[az.cat,az,g,dO.list_fn,cX,lg,aG,aE];and_intros<;>first|exact cv.same|rfl|omega
  .rw[b];simp only[az.cat,az,g,dO.list_fn,cX,lg,aG,aE];grind
 obtain rfl:i=ps.length:=by omega
 rw[di];refine aW c [(9,af)] rfl (by simp) (AK.leaveD rfl rfl ?_);refine cf c rfl ay (AK.de [0] rfl ?_ rfl rfl rfl (λj o=>absurd o (by simp)));simp
def Ii(ps:List bG)(a:∀p∈ps,p.2.length<=4000000)(b:(bX ps).length<=4000000):Ev X 40 [cP.sl ps] [] (cI.sl (bX ps)) [] :=
 Ev.Kv (σ1:=[]) (E:=3) (k:=1) (n:=(bX ps).length) (es:=cI.fn (bX ps)) (CO ps a b) rfl (by simp) rfl (bh _)
end R1
end Go.AM
namespace Go.AM.R1
section
variable {X:Cx ag}
def xG(s:bm):Ev X 39 [rq s] [] (rq s) []:=by refine Ev.rZ Tryz.func39 rfl rfl rfl λb=>?_;refine bt rfl (by simp) ?_;refine AK.freeze 2 1 rfl rfl rfl ?_;exact AK.Q7 tok [] rfl (by simp) rfl rfl rfl (λj a=>absurd a (by simp))
abbrev LF:dt:=kr TR (λs=>rq s) λ_=>[]
def SY:ef X 39 LF:=.pz λs _=>xG s
abbrev IV(s:bm):aP:=.cells 86 [.c (.sl af 2 s.1.length (cP.fn s.1)),.c (.sl af 2 s.2.1.length (gp.fn s.2.1)),.c (.sl af 2 s.2.2.length (cH.fn s.2.2))]
structure OZ(s:bm):Prop extends SmS s where
 pk:∀p∈s.1,p.2.length<=4000000
 nm:(bX s.1).length<=4000000
def y7(k:Int)(s:bm):Bool:=(bg s.1.length).all (ma k s.1)&&decide (s.1.length<=20)&&decide (bX s.1).Nodup
def ET(k:Int)(s:bm)(hk:cd k=ab)(b:OZ s):Ev X 59 [rq s,dI k] [] (dB (y7 k s)) []:=by
 refine Ev.bQ Tryz.func59 rfl λF=>?_;have E:=b.pN;have y:=b.pk;have w:=Ii (X:=X) s.1 b.pk b.nm;have n:bE X [(104,Ax)]:=.cons Gk .nil;refine cf n rfl ay ?_;unfold y7;refine AK.cz 1 (λi=>i<=s.1.length/\∀j,j<i->ma k s.1 j=ab) (λi:Nat=>[(1,dI k),(2,.e (.one (.ptr 0 0))),(9,cP.sl s.1),(10,dI s.1.length),(11,dI i)]) (λ_=>[IV s]) (λi=>s.1.length-i) 0 rfl (by simp) rfl (by simp) rfl ⟨by omega,by omega⟩ ?_;rintro i ⟨hi,a⟩;by_cases h:i<s.1.length
 .have v:s.1.getD i cP.b5=s.1.getD i (0,[]):=rfl;have u:s.1.getD (i-1) cP.b5=s.1.getD (i-1) (0,[]):=rfl;have g:ma k s.1 i=(gg k (s.1.getD i (0,[]))&&CL (·.1) (0,[]) s.1 i):=rfl;have t:=qx (f:=λp:bG=>p.1) (d:=(0,[])) (l:=s.1) (i:=i);have c:=y _ (lR (d:=(0,[])) h);generalize s.1.getD i (0,[])=p at *;generalize s.1.getD (i-1) (0,[])=p' at *;cases o:gg k p with
  |false =>
   rw[o,rO]at g;refine aW n [(12,ab),(20,ab),(35,ab)] rfl ?_ (AK.fE (cp.zero rfl ?_))
   .simp[-aq,v,hk,c,o,dO.list_fn,dO.aU];omega
   .rw[iH h g];simp
  |true =>
   rw[o,fC]at g;by_cases z:i=0
   .subst z;refine aW n [(12,ab),(20,af),(23,af),(35,af)] rfl ?_ (AK.aQ 1 rfl (by simp) (by simp) ⟨h,jW a (by rw[g];rfl)⟩ (by omega));simp[-aq,v,hk,c,o,dO.list_fn,dO.aU,bA];omega
   have t:=t z;by_cases C:p'.1<p.1
   .refine aW n [(12,ab),(20,af),(23,ab),(33,af),(35,af)] rfl ?_ (AK.aQ (i+1) rfl (by simp) (by simp) ⟨h,jW a (by grind)⟩ (by omega));simp[-aq,v,u,hk,c,o,dO.list_fn,dO.aU,bA];omega
   .refine aW n [(12,ab),(20,af),(23,ab),(33,ab),(35,ab)] rfl ?_ (AK.fE (cp.zero rfl ?_))
    .simp[-aq,v,u,hk,c,o,dO.list_fn,dO.aU,bA];omega
    .rw[iH h (by grind)];simp
 obtain rfl:i=s.1.length:=by omega
 rw[dz.2 a,fC];refine aW n [(12,af)] rfl (by simp) (AK.leaveD rfl rfl ?_);refine cf n rfl ay ?_;refine AK.cQ (CO s.1 b.pk b.nm) [] rfl ?_;refine cf n rfl ay ?_;refine AK.cQ (LG (bX s.1) b.nm) [1] rfl ?_;have A:=AS (bX s.1);have r:=(EU (X:=X) (oL (bX s.1)) (by rw[lL];exact b.nm)).die;rw[lL]at r;have x:=AT (oL (bX s.1));rw[lL]at x;have B:=b.nm;generalize ez (oL (bX s.1))=cs at *;generalize oL (bX s.1)=so at *;have sY:bE X [(106,yM [kF (bX s.1).length] [IZ (bX s.1).length so] (.e (.one (.bp 0 (.sl (bX s.1).length 1 0 cs.length)))) [.dead]),(40,xh [cP.sl s.1] (cI.sl (bX s.1)))]:=.cons (Cl r) (.cons (Au w) .nil);refine aW sY [(1000009,ab)] rfl ay ?_;by_cases q:s.1.length<=20
 rotate_left
 .refine aW sY [(46,af)] rfl ?_ (AK.bw rfl ?_)
  .simp;omega
  .simp[q]
 have m:(s.1.length:Int)<=20:=by omega
 generalize D:bX s.1=N at *;refine AK.M8 (ι:=Unit) ja 6 (λi=>match bu i 5 with|true=>ab|false=>match aB i 8 with|true=>ab|false=>aB i 9) (λi=>[.e (.one (.ptr 0 0)),cP.sl s.1,dI s.1.length,dB (decide ((s.1.length:Int)<=20)),dB ab,.e (.one (.bp 1 (.sl N.length 1 0 N.length))),.any,.any,.e (.one (.ptr 0 0)),cP.sl s.1].getD i .any)
  (λ_ i=>[.any,.any,.any,.any,.any,.any,.e (.one (.bp 1 (.sl N.length 1 0 cs.length))),dI cs.length,.any,.any,cI.sl N,dI N.length,dB ((cs.length:Int)==N.length),dB ((cs.length:Int)==N.length),dB ((cs.length:Int)==N.length)].getD i .any) (λ_=>[IV s,.dead]) rfl rfl rfl rfl rfl rfl ?_ ?_ ?_ ?_
 .exact⟨.cT tok sY rfl,.cT tok sY rfl,.cT tok sY rfl,.cT tok sY rfl,.eval tok sY (ds:=[(46,ab)]) rfl (db m),.cT tok sY rfl,ay,ay,.cT tok sY rfl,.cT tok sY rfl,ay,ay,ay,ay,ay,ay⟩
 .intro _;exact⟨.cT tok sY rfl,.cT tok sY rfl,.cT tok sY rfl,.cT tok sY rfl,.eval tok sY (ds:=[(46,ab)]) rfl (db m),.cT tok sY rfl,ay,.cT tok sY rfl,.cT tok sY rfl,.cT tok sY rfl,.eval tok sY (ds:=[]) rfl rfl,.cT tok sY rfl,.cT tok sY rfl,.cT tok sY rfl,.cT tok sY rfl,ay⟩
 .exact .Aa (gB tok sY (ds:=[]) (σ':=aa [IV s,.dead]) rfl ⟨rfl,rfl⟩)
 .intro _;refine cf sY rfl ay (AK.bw rfl ?_);have:((cs.length:Int)==N.length)=decide N.Nodup:=by grind
  simp[this,q]
abbrev tHB(l:List (Int×Int))(b:Bool):D:=.eX [.one (.c (.sl af 2 l.length (cH.fn l))),.one (.c (.bool b))]
def Fc(l:List (Int×Int))(x:Int×Int)(f:k6 l=ab)(g:gY x=ab)(i:l.length<=9):Ev X 71 [cH.sl l,Pn x.1 x.2] [] (tHB (if l.length=9 then l else l++[x]) (decide (l.length≠9))) []:=by
 refine Ev.bQ Tryz.func71 rfl λj=>?_;have a:bE X [(61,sL),(110,kr TQ (λh=>dB (gY h)) λ_=>[])]:=.cons GI (.cons (.pz λh _=>xF h) .nil);refine aW a [(9,af),(14,af)] rfl ?_ ?_
 .simp only[az,cH.list_fn,f,g,j9,aG,aE];first|exact cH.aU _|(and_intros<;>first|rfl|exact cH.aU _)
 refine AK.cQ (yR l (by omega)) [] rfl ?_;by_cases d:l.length=9
 .refine aW a [(19,ab)] rfl (by simp[d]) ?_;refine AK.oG 1 rfl rfl rfl (by simp) (by simp) ?_;exact AK.bw rfl (by simp[d,qX])
 .refine aW a [(19,af)] rfl ?_ ?_
  .simp only[az,show i106.bytes=16 from rfl,eD,aG,aE];and_intros<;>first|rfl|omega
  have b:=cH.cu l x;refine AK.BZ (φ':=[(4,.e (.one (.bp 1 (.sl (l.length+1) 2 0 (l.length+1))))),(5,dB ab)]) (σ':=[.cells 106 [.c (.int .i64 x.1),.c (.int .i64 x.2)],.buf 106 2 (l.length+1) (cH.fn (l++[x]))]) ?_ rfl (by simp;rfl) rfl (by simp only[az.cat,az,aG,aE];and_intros<;>first|rfl|exact b);refine AK.oG 1 rfl rfl rfl (by simp) (by simp) ?_;exact AK.bw rfl (by simp[d,qX])
def MW(l:List bG)(c:l.length<=4000000):Ev X 116 [cP.sl l] [] (dI (if l.length=0 then 0 else(l.getD (l.length-1) (0,[])).1)) []:=by
 refine Ev.bQ Tryz.func116 rfl λb=>?_;by_cases h:l.length=0
 .rw[bl h];exact aX [(5,ab)] rfl (by simp[h]) (AK.bw rfl)
 .have a:l.getD ((l.length:Int)-1).toNat cP.b5=l.getD (l.length-1) (0,[]):=by rw[show((l.length:Int)-1).toNat=l.length-1 by omega];rfl
  rw[aZ h];refine aX [(5,af)] rfl ?_ (AK.bw rfl (by simp only[az,a,aE]));simp only[az,a,bA,eD,aG,aE];and_intros<;>omega
def mf(m:Int)(l:List (Int×Int)):Int:=l.foldl (λm h=>max m (h.2+1)) m
def zl(l:List (Int×Int)):∀m n:Int,mf (max m n) l=max m (mf n l):=by
 induction l with
 |nil=>intro m n;rfl
 |cons x r a =>
  intro m n;show mf (max (max m n) (x.2+1)) r=max m (mf (max n (x.2+1)) r);grind
def Fu{m:Int}{l:List (Int×Int)}{i:Nat}(h:i<l.length):mf m (l.take (i+1))=max (mf m (l.take i)) ((l.getD i (0,0)).2+1):=by unfold mf;grind[bS]
def iU(s:bm):Int:=if s.2.1.length=0 then 1 else max 1 ((s.2.1.getD (s.2.1.length-1) (0,[])).1+1)
def Dn(s:bm):mf (iU s) s.2.2=dw s:=by
 unfold iU dw;have a:mf 1 s.2.2=oK s.2.2:=rfl;split
 .exact a
 .rw[show max 1 ((s.2.1.getD (s.2.1.length-1) (0,[])).1+1)=max ((s.2.1.getD (s.2.1.length-1) (0,[])).1+1) 1 by omega,zl,a];omega
def MC(s:bm)(j:lD s)(d:ry s):Ev X 67 [rq s] [] (.eX [.one (.c (.int .i64 (cM s))),.one (.c (.int .i64 (dw s)))]) []:=by
 refine Ev.bQ Tryz.func67 rfl λB=>?_;have n:=j.p;have t:=j.sn;have u:=j.h;have z:1<=iU s/\iU s<=4000001:=by
  unfold iU;split
  .omega
  .have:=d.s _ (fA (show s.2.1.length-1<s.2.1.length by omega) (0,[]));omega
 apply AK.join [(1,.e (.one (.ptr 0 0))),(4,dI (iU s))] [vB s]
 .intro out;by_cases h:s.2.1.length=0
  .refine bH [(12,af),(1000005,ab)] rfl (by simp only[az,bO];omega) ?_;exact out _ _ rfl (by simp[iU,h])
  .have y:=d.s _ (fA (show s.2.1.length-1<s.2.1.length by omega) (0,[]));have a:s.2.1.getD ((s.2.1.length:Int)-1).toNat gp.b5=s.2.1.getD (s.2.1.length-1) (0,[]):=by rw[show((s.2.1.length:Int)-1).toNat=s.2.1.length-1 by omega];rfl
   refine bH [(12,ab)] rfl ?_ ?_
   .simp only[az,a,bA,ba,aG,aE];and_intros<;>omega
   rw[a];refine AK.law (AI (iU s) rfl rfl rfl (by unfold iU;grind) (by simp only[bA];omega)) rfl rfl ?_;refine bH [(1000005,ab)] rfl ay ?_;exact out _ _ rfl (by simp)
 refine c8 rfl ay ?_;refine AK.cz 1 (λi=>i<=s.2.2.length) (λi:Nat=>[(1,.e (.one (.ptr 0 0))),(4,dI (mf (iU s) (s.2.2.take i))),(24,cH.sl s.2.2),(25,dI s.2.2.length),(26,dI i)]) (λi=>[vB s]) (λi=>s.2.2.length-i) 0 rfl ?_ rfl ?_ rfl (by omega) ?_
 .simp[mf]
 .simp
 intro i hi;have f:∀i,1<=mf (iU s) (s.2.2.take i)/\mf (iU s) (s.2.2.take i)<=4000001:=λi=>by have o:=nO (s.2.2.take i) λx q=>d.h x (fW q);have w:mf 1 (s.2.2.take i)=oK (s.2.2.take i):=rfl;rw[show iU s=max (iU s) 1 by omega,zl,w];omega
 have o:=f i;have A:=f (i+1);by_cases h:i<s.2.2.length
 .have y:=d.h _ (fA h (0,0));have a:s.2.2.getD (i:Int).toNat cH.b5=s.2.2.getD i (0,0):=by grind
  have r:=Fu (m:=iU s) h;refine bH [(27,ab)] rfl ?_ ?_
  .simp only[az,a,bA,ba,aG,aE];and_intros<;>omega
  rw[a];refine AK.law (AI (mf (iU s) (s.2.2.take (i+1))) rfl rfl rfl r.symm (by simp only[bA];omega)) rfl rfl ?_;refine c8 rfl ?_ (AK.aQ (i+1) rfl ?_ ?_ h (by omega))
  .simp only[az,bA];omega
  .simp
  .simp
 .obtain rfl:i=s.2.2.length:=by omega
  rw[di,Dn]at o⊢;have b:cM s=(if s.1.length=0 then 0 else(s.1.getD (s.1.length-1) (0,[])).1)+1:=by unfold cM;split<;>rfl
  have l:-4000000<=cM s-1/\cM s-1<=4000000:=by
   rw[b];split
   .omega
   .have:=d.p _ (fA (show s.1.length-1<s.1.length by omega) (0,[]));omega
  have g:=MW (X:=X) s.1 n;have k:=xG (X:=X) s;rw[b]at l⊢;generalize(if s.1.length=0 then 0 else(s.1.getD (s.1.length-1) (0,[])).1)=p at *;have v:bE X [(39,xh [rq s] (rq s)),(116,xh [cP.sl s.1] (dI p))]:=.cons (Au k) (.cons (Au g) .nil);refine bH [(27,af)] rfl (by simp) (AK.leaveD rfl rfl ?_);refine cx v rfl ?_ (AK.bw rfl);simp only[az,bA,aG,aE];and_intros<;>first|rfl|omega
abbrev QO(l:List Bs):C:=.sl af 1 l.length (cS.fn l)
def IA(l:List Bs):Ev X 68 [cS.sl l,dI 4] [] (.e (.one (.c (.fn (.func 117) [] [.rp [QO l],.rp [.int .i64 4]])))) []:=by refine Ev.bQ Tryz.func68 rfl λa=>?_;refine qE [] 6 rfl ay ?_;refine AK.freeze 2 0 rfl rfl rfl ?_;refine AK.freeze 3 1 rfl rfl rfl ?_;exact aX [(6,af)] rfl (by simp) (AK.bw rfl (by simp;rfl))
def rD(l:List Bs)(k:Nat):List Bs:=(l.drop (4*k)).take 4
def Fb(l:List Bs)(y:l.length<=4000000){d:Nat}{N0:Nat}{φ0:Fr}{b lr':Loop}(m:Nat)(A:m<=(l.length+3) / 4)(a:Nat->List aP)(j:List aP)(x:∀k,(a k).length=d)(v:∀k,lA (a k++[.loop N0 φ0 b])=ab)(s:lA (j++[.loop N0 φ0 lr'])=ab)(xj:∀k,k<m->4*k<l.length->Yields (ι:=Unit) X d [cS.sl (rD l k)] (a k++[.loop N0 φ0 b]) ab (λ_=>a (k+1)++[.loop N0 φ0 b]))(jP:4*m<l.length->Yields (ι:=Unit) X d [cS.sl (rD l m)] (a m++[.loop N0 φ0 b]) af (λ_=>j++[.loop N0 φ0 lr'])):
  eb (ι:=Unit) X 117 [.e (.one (.ref d)),.e (.one (.c (.rp [QO l]))),.e (.one (.c (.rp [.int .i64 4])))] (a 0++[.loop N0 φ0 b]) (λ_=>.eX []) (λ_=>if 4*m<l.length then j++[.loop N0 φ0 lr']else a m++[.loop N0 φ0 b]):=by
 refine eb.J2 Tryz.func117 rfl rfl rfl (AK.of_code ?_);refine bt rfl ay ?_;show AW X _ (.loop _) _ _ _;refine AW.loop (S:=Nat) (λk=>k<=m) (λk=>[(0,.e (.one (.ref d))),(1,.e (.one (.c (.rp [QO l])))),(2,.e (.one (.c (.rp [.int .i64 4])))),(4,dI (4*k:Nat))]) (λk=>a k++[.loop N0 φ0 b]) (λk=>m-k) 0 (lk _) ?_ rfl ?_
 .exact .cons rfl (cE rfl (by simp))
 intro k hk;refine AK.of_code ?_;by_cases h:4*k<l.length
 .have o:az (fM l.length (aa ((4*k:Nat):Int)) ae):=by simp only[fM,az];omega
  have p:dc l.length ae-dc 0 (aa ((4*k:Nat):Int))=l.length-4*k:=by simp only[dc];omega
  refine aX [(9,ab),(1000003,ab)] rfl (by simp only[az,ba];omega) ?_;let xs:Nat->D:=λi=>([dI 4,cS.sl l,dI (4*k:Nat),.e (.one (.c (.sl af 1 (dc l.length ae-dc 0 (aa ((4*k:Nat):Int))) (lZ (dc 0 (aa ((4*k:Nat):Int))) (cS.fn l))))),dI (dc l.length ae-dc 0 (aa ((4*k:Nat):Int)):Nat),dI (min 4 (l.length-4*k):Nat),dI (min 4 (l.length-4*k):Nat)]:List D).getD i .any;refine AK.flags ja xs (ui (λ_ _ _=>a k++[.loop N0 φ0 b]) 100 101 102) ?_ ?_ ?_ ?_ ?_ ?_
  .rfl
  .rfl
  .rfl
  .rfl
  .exact⟨.IT tok bE.nil,
   .IT tok bE.nil,
   .IT tok bE.nil,
   dW.q3 rfl rfl rfl (λ_ _ _=>OA.eval (ds:=[]) tok bE.nil rfl o),
   .IT tok bE.nil,
   dW.q3 rfl rfl rfl (λ_ _ _=>OA.kQ (λ_ _ _ _=>dC rfl) (xi _ rfl rfl rfl (by grind) (by simp only[bA];omega))),
   .IT tok bE.nil,ay⟩
  intro D z;show AK X _ _ _ _ _ (a k++[.loop N0 φ0 b]);have w:(((4*k:Nat):Int)+((min 4 (l.length-4*k):Nat):Int))=((4*k+min 4 (l.length-4*k):Nat):Int):=by omega
  refine bt rfl ?_ ?_
  .simp only[az,bA,aG,aE];omega
  refine AK.law (bF.Ob tok rfl rfl rfl rfl (n:=l.length) (es:=cS.fn l) (tt:=af) (λ_ _ r=>eT r) rfl rfl rfl (by omega) (by omega) (by omega) (by omega)) rfl rfl ?_;have u:(rD l k).length=min 4 (l.length-4*k):=by simp[rD]
  refine ib.le (φ':=[(0,.e (.one (.ref d))),(19,.e (.one (.ref d))),(1,.e (.one (.c (.rp [QO l])))),(2,.e (.one (.c (.rp [.int .i64 4])))),(4,dI (4*k:Nat)),(28,cS.sl (rD l k))]) ?_ (.cons rfl (.cons rfl (cE rfl ?_)))
  .have f:(a k++[aP.loop N0 φ0 b])[d]?=aa (.loop N0 φ0 b):=by grind
   rcases cC k m with g|g
   .refine AK.yield (xj k g h) rfl rfl rfl (N0:=N0) (φ0:=φ0) (r:=b) f rfl rfl λ_=>?_;exact aX [(30,af)] rfl (by simp only[az,bA,j9,aG,aE];omega) ⟨k+1,by omega,by omega,.cons rfl (cE rfl (by simp only[az.cat,az,aG,aE];grind)),rfl⟩
   .obtain rfl:k=m:=by omega
    refine AK.yield (jP h) rfl rfl rfl (N0:=N0) (φ0:=φ0) (r:=b) f rfl rfl λ_=>?_;refine aX [(30,ab)] rfl (by simp) ?_;exact AK.ret ⟨(),.inl rfl,(bl h).symm,by grind,[],.eX [],[],rfl,rfl,rfl,ay⟩
  .simp only[az.cat,az,aG,aE];have t:((4*k:Nat):Int).toNat=4*k:=by omega
   have q:(((4*k:Nat):Int)+((min 4 (l.length-4*k):Nat):Int)).toNat-((4*k:Nat):Int).toNat=(rD l k).length:=by grind
   refine⟨q,λi hi=>?_⟩;rw[q]at hi;rw[t];show cS.enc (l.getD (4*k+i) cS.b5)=cS.enc ((rD l k).getD i cS.b5);congr 1;simp only[rD,aq];grind
 .obtain rfl:k=m:=by omega
  refine aX [(9,af)] rfl (by simp only[az,bO];omega) ?_;refine AK.J7 rfl rfl ?_;exact⟨(),.inr rfl,(aZ h).symm,by grind,[],.eX [],[],rfl,rfl,rfl,ay⟩
def Iz(k:Int)(s:bm)(l:List Bs)(j:Nat):Bool:=(nU (cM s+j) k (rD l j)).2&&!(s.1.length+j==20)
def lx(g:Nat->Bool):Nat->Nat->Nat
 |0,j=>j
 |f+1,j=>if g j=ab then lx g f (j+1)else j
def pL(g:Nat->Bool):∀(f j:Nat),j<=lx g f j/\lx g f j<=j+f/\(∀i,j<=i->i<lx g f j->g i=ab)/\(lx g f j<j+f->g (lx g f j)=af)
 |0,j=>⟨bh _,bh _,λi b a=>absurd b (by simp only[lx]at a;omega),λh=>absurd h (by simp[lx])⟩
 |f+1,j=>by obtain⟨b,a,c,d⟩:=pL g f (j+1);rw[lx];grind
def j5(k:Int)(s:bm)(l:List Bs)(n:Nat):List bG:=(bg n).map λj:Nat=>(nU (cM s+j) k (rD l j)).1
theorem ua(k:Int)(s:bm)(l:List Bs)(n:Nat):(j5 k s l n).length=n:=by simp[j5]
def Fa(k:Int)(s:bm)(l:List Bs)(n:Nat):j5 k s l (n+1)=j5 k s l n++[(nU (cM s+(n:Nat)) k (rD l n)).1]:=by simp[j5,List.range_succ]
def ub{s:bm}(a:ry s):-4000000<=cM s/\cM s<=4000001:=by
 unfold cM;split
 .omega
 .rename_i h;have:=a.p _ (tQ h (0,[]));omega
def sU(k:Int)(s:bm)(by_:Int)(t:List bx):bm×Option Bs :=
 let l:=c6 k t (indexOf s.1);let m:=lx (Iz k s l) ((l.length+3) / 4) 0
 if m<(l.length+3) / 4 then(([],[],[]),aa [112,97,99,107,115])
 else if 20<dw s then(([],[],[]),aa [115,110,97,112,115,104,111,116,115])
 else if s.2.2.length=9 then(([],[],[]),aa [104,101,97,100,115])
 else((s.1++j5 k s l m,s.2.1++[fp (dw s) k t],s.2.2++[(by_,dw s)]),ae)
def erE:Option Bs->E1
 |none=>.one (.c .iy)
 |some w=>.one (.c (.ifs 60 (.rp [.str w])))
def tSv(q:bm×Option Bs):D:=.eX [.agg [.c (Gq q.1.1),.c (EI q.1.2.1),.c (Ct q.1.2.2)],erE q.2]
abbrev svF(s:bm)(by_:Int)(t:List bx)(l:List Bs):Fr:=[(2,dI by_),(3,cF.sl t),(4,.e (.one (.ptr 2 0))),(5,.e (.one (.ptr 3 0))),(8,.e (.one (.ptr 4 0))),(9,.e (.one (.ptr 5 0))),(10,.e (.one (.ptr 9 0))),(11,.e (.one (.ptr 10 0))),(12,dI (dw s)),(33,.e (.one (.c (.fn (.func 117) [] [.rp [QO l],.rp [.int .i64 4]]))))]
abbrev Mz(a b:aj×ah)(k:Int)(s:bm)(d:C)(ps:List bG)(no:Int):List aP:=GB a b++[.cells 27 [.c (Gq s.1),.c (EI s.2.1),.c (Ct s.2.2)],.cells 3 [.c (.int .i64 k)],.cells 27 [gK,gK,gK],.cells 57 [.c d],
 .buf 37 2 ps.length (cP.fn ps),.buf 41 2 s.2.1.length (gp.fn s.2.1),.dead,.cells 27 [.bp 6 (.sl ps.length 2 0 ps.length),.bp 7 (.sl s.2.1.length 2 0 s.2.1.length),.c (Ct s.2.2)],.cells 3 [.c (.int .i64 no)]]
def MA{b c:aj×ah}{k:Int}{s:bm}{d a:C}{ps T1:List bG}{no no':Int}{N:Nat}{φ:Fr}{r r':Loop}(i:Nat)(B:aP)(hB:(Mz b c k s d ps no++[.loop N φ r])[i]?=aa B):DN 12 (Mz b c k s a T1 no'++[.loop N φ r']) i B:=by
 rcases i with _|_|_|_|_|_|_|_|_|_|_|_|i<;>first
  |(cases hB;exact .inl ⟨_,_,rfl,rfl⟩)
  |(cases hB;exact .inr (.inr (.inl ⟨_,_,_,_,rfl,rfl⟩)))
  |(cases hB;exact .inr (.inr (.inr ⟨by grind,by grind⟩)))
  |(cases hB;done)
def MB(b d:aj×ah)(k:Int)(s:bm)(by_:Int)(t:List bx)(hk:cd k=ab)(g:lD s)(F:ry s)(E:cw t=ab)(Q:(cW s.1).length<=100000)(P:rB (indexOf s.1) (indexOf s.1).length=ab)(o:k6 s.2.2=ab)(Y:by_=1∨by_=2)(K:1<=dw s):
  Ev X 25 [rq s,dI k,dI by_,cF.sl t] (GB b d) (tSv (sU k s by_ t)) (GB b d):=by
 obtain⟨r,a⟩:∃r,r=sU k s by_ t:=⟨_,rfl⟩;rw[<-a];unfold sU at a;simp only at a;refine(eb.NZ (ι:=Unit) (σ':=λ_=>GB b d) (res:=λ_=>tSv r) Tryz.func25 rfl rfl rfl ?_).DJ
 refine kT.seq (AW.top (AK.of_code ?_));refine bt rfl ay ?_;refine kT.seq (AW.top (AK.of_code ?_));refine bt rfl ay ?_;refine AK.cQ (xt s g.p g.p2 g.sn g.s2 g.h) [] rfl ?_;refine bt rfl ay ?_;refine kT.seq (AW.top (AK.of_code ?_));refine AK.oG 8 rfl rfl rfl (by simp) (by simp;exact⟨ay,ay⟩) ?_;refine bt rfl ay ?_;refine AK.cQ (MC s g F) [] rfl ?_;refine bt rfl ay ?_;refine kT.seq (kT.seq (AW.top (AK.of_code ?_)));generalize G:indexOf s.1=ix at *;have x:bE X [(13,xh [cP.sl s.1] (cH.sl ix)),(68,xh [cS.sl (c6 k t ix),dI 4] (.e (.one (.c (.fn (.func 117) [] [.rp [QO (c6 k t ix)],.rp [.int .i64 4]])))))]:=.cons (Au (G▸uF s.1 g.p Q)) (.cons (Au (IA _)) .nil);have D:ix.length<=4000000:=by grind[pE]
 refine AK.calm ja [dI k,cF.sl t,.e (.one (.ptr 2 0)),cP.sl s.1,cH.sl ix,cS.sl (c6 k t ix),.e (.one (.c (.fn (.func 117) [] [.rp [QO (c6 k t ix)],.rp [.int .i64 4]])))] 12 rfl rfl rfl rfl rfl ⟨OA.cT tok x rfl,OA.cT tok x rfl,OA.cT tok x rfl,OA.cT tok x rfl,
  OA.eval (ds:=[]) tok x rfl rfl,OA.TX (mE.qc (uC b d k t ix hk E P D).te [0,1] rfl rfl rfl rfl rfl rfl rfl (λ_=>rfl) rfl (λ_=>rfl)),OA.eval (ds:=[]) tok x rfl rfl,ay⟩ ?_
 refine bt rfl ay ?_;refine kT.block ?_;refine kT.norm (svF s by_ t (c6 k t ix)) (Mz b d k s .iy (s.1++j5 k s (c6 k t ix) 0) (cM s+(0:Nat))) rfl ?_ rfl ?_ ?_
 .simp
 .simp[j5];exactλi _=>rfl
 have A:∀p∈c6 k t ix,bz p=ab:=(jr (dT E)).1;have N:(c6 k t ix).length<=4000000:=iq (jr (dT E)).2 (by decide);generalize c6 k t ix=l at *;obtain⟨g1,g2,V,Z⟩:=pL (Iz k s l) ((l.length+3) / 4) 0;have IM:=g.p;generalize hmd:lx (Iz k s l) ((l.length+3) / 4) 0=m at *;refine kT.DZ (capD:=fJ [.rp [QO l],.rp [.int .i64 4]]) (cm.callee rfl)
  (Fb (lr':=?lr2) l N m (by omega) (λj=>Mz b d k s .iy (s.1++j5 k s l j) (cM s+(j:Nat))) (Mz b d k s (.ifs 60 (.rp [.str [112,97,99,107,115]])) (s.1++j5 k s l m) (cM s+(m:Nat))) (λj=>rfl) (λj=>rfl) rfl (λj U M=>?xj) λT=>?jP) λi=>?hk
 case jP =>
  have C:Iz k s l m=af:=Z (by omega);have w:=uE (X:=X) b d (cM s+(m:Nat)) k (rD l m) (by have:=ub F;simp only[bA];omega) hk (λp O=>A p (rH (fW O))) (by simp[rD];omega);have z:=ua k s l m;generalize hq:nU (cM s+(m:Nat)) k (rD l m)=q at *;refine Yields.tp (rest:=λ_=>[.cells 37 [.c (.int .i64 q.1.1),.c (.sl af 2 q.1.2.length (dO.fn q.1.2))],.dead]) (Yields.intro (j:=aa .ret) rfl rfl rfl rfl (AK.of_code ?_)) ?_ ?_
  .refine bt rfl ay ?_;refine⟨rfl,rfl,AK.of_code ?_⟩;refine bt rfl ay ?_;refine AK.cQ w [0,1] rfl ?_;have f:(s.1++j5 k s l m).length=s.1.length+m:=by grind
   have n:q.2=ab->s.1.length+m=20:=λh=>by simpa[Iz,hq,h]using C
   cases v:q.2 with
   |false =>
    refine aX [(44,ab),(49,ab),(1000007,ab)] rfl (by simp[v]) ?_;refine AK.region ?_;refine qE [] 3 rfl ay ?_;refine AK.vp 52 13 rfl rfl rfl ?_;refine bt rfl ay (AK.ret ?_);refine⟨rfl,rfl,(),gU rfl ?_⟩;simp only[az.cat,az,aG,aE];and_intros<;>first|exact cv.same|exact cv.nil|rfl
   |true =>
    have:=n v;refine aX [(44,af),(49,ab),(1000007,ab)] rfl (by simp only[az,v,f];grind) ?_;refine AK.region ?_;refine qE [] 3 rfl ay ?_;refine AK.vp 52 13 rfl rfl rfl ?_;refine bt rfl ay (AK.ret ?_);refine⟨rfl,rfl,(),gU rfl ?_⟩;simp only[az.cat,az,aG,aE];and_intros<;>first|exact cv.same|exact cv.nil|rfl
  .exactλ_=>rfl
  .exactλ_=>MA
 case xj =>
  have u:Iz k s l j=ab:=V j (lk _) U;have w:=uE (X:=X) b d (cM s+(j:Nat)) k (rD l j) (by have:=ub F;simp only[bA];omega) hk (λp O=>A p (rH (fW O))) (by simp[rD];omega);have z:=ua k s l j;have hsu:=Fa k s l j;obtain⟨q1,q2⟩:(nU (cM s+(j:Nat)) k (rD l j)).2=ab/\¬s.1.length+j=20:=by simpa[Iz]using u
  generalize nU (cM s+(j:Nat)) k (rD l j)=q at *;have f:(s.1++j5 k s l j).length=s.1.length+j:=by grind
  have R:s.1++j5 k s l (j+1)=(s.1++j5 k s l j)++[q.1]:=by grind
  generalize s.1++j5 k s l j=ps at *;refine Yields.tp (rest:=λ_=>[.cells 37 [.c (.int .i64 q.1.1),.c (.sl af 2 q.1.2.length (dO.fn q.1.2))]]) (Yields.intro (j:=ae) rfl rfl rfl rfl (AK.of_code ?_)) ?_ ?_
  .refine bt rfl ay ?_;refine⟨rfl,rfl,AK.of_code ?_⟩;refine bt rfl ay ?_;refine AK.cQ w [0,1] rfl ?_;have J:=cP.cu ps q.1;have hb:=ub F;refine aX [(44,af),(49,af)] rfl ?_ ?_
   .simp only[az,bA,q1,show i37.bytes=32 from rfl,f,eD,dr,j9,aG,aE];omega
   refine⟨rfl,rfl,(),gU rfl ?_⟩;have H:(ps++[q.1]).length=ps.length+1:=by simp
   have I:cM s+(j:Int)+1=cM s+((j+1:Nat):Int):=by omega
   rw[R,H,<-I];simp only[az.cat,az,aG,aE];and_intros<;>first|exact cv.same|exact J|rfl
  .exactλ_=>rfl
  .exactλ_=>MA
 case hk =>
  by_cases M:4*m<l.length
  .rw[bl M];refine⟨_,rfl,by simp,.ret,rfl,?_⟩;rw[bl (show m<(l.length+3) / 4 by omega)]at a;subst a;simp only[wK,BT];refine .freeze 8 4 rfl rfl rfl (.freeze 9 5 rfl rfl rfl (.of ⟨(),qV.cells tok [0,1] rfl ?_ rfl rfl rfl A8⟩));simp
  .rw[aZ M];refine⟨_,rfl,by simp,.normal,rfl,?_⟩;rw[aZ (show¬m<(l.length+3) / 4 by omega)]at a;show kT X _ _ _ _ _;refine AW.top (AK.of_code ?_);by_cases n:20<dw s
   .rw[bl n]at a;subst a;refine aX [(63,ab),(1000011,ab)] rfl (by simp only[az,ba];omega) ?_;refine AK.region ?_;refine qE [] 3 rfl ay ?_;refine AK.vp 66 13 rfl rfl rfl ?_;refine bt rfl ay (AK.ret (.freeze 8 4 rfl rfl rfl (.freeze 9 5 rfl rfl rfl (.of ⟨(),qV.cells tok [0,1] rfl ?_ rfl rfl rfl A8⟩))));simp
   rw[aZ n]at a;have L:s.2.2.length<=9:=by simp only[k6,bR,ba]at o;omega
   refine aX [(63,af)] rfl (by simp only[az,bO];omega) ?_;refine AK.cQ (E8 b d (dw s) k t ⟨K,by omega⟩ hk E) [0,1] rfl ?_;have J:=gp.cu s.2.1 (fp (dw s) k t);have S:=g.sn;refine aX [(1000014,ab)] rfl ?_ ?_
   .simp only[az,show i41.bytes=32 from rfl,aG,aE];omega
   refine AK.region ?_;refine bt rfl ay ?_;refine AK.cQ (Fc s.2.2 (by_,dw s) o (by simp only[gY,bR,ba];omega) L) [] rfl ?_;by_cases B:s.2.2.length=9
   .rw[bl B]at a;subst a;refine aX [(91,ab),(1000016,ab)] rfl (by simp[B]) ?_;refine AK.region ?_;refine qE [] 3 rfl ay ?_;refine AK.vp 94 14 rfl rfl rfl ?_;refine bt rfl ay (AK.ret (.freeze 8 4 rfl rfl rfl (.freeze 9 5 rfl rfl rfl (.of ⟨(),qV.cells tok [0,1] rfl ?_ rfl rfl rfl A8⟩))));simp
   .rw[aZ B]at a;subst a;simp only[aZ B];refine aX [(91,af),(1000018,ab)] rfl (by simp[B]) ?_;have z:(s.1++j5 k s l m).length=s.1.length+m:=by grind[ua]
    generalize s.1++j5 k s l m=ps at *;generalize W:s.2.1++[fp (dw s) k t]=sw at *;have y:sw.length=s.2.1.length+1:=by grind
    generalize hhw:s.2.2++[(by_,dw s)]=hw at *;refine AK.BZ (φ':=[(8,.e (.one (.ptr 4 0))),(9,.e (.one (.ptr 5 0))),(10,.e (.one (.ptr 9 0)))]) (σ':=GB b d++[.cells 27 [.c (Gq s.1),.c (EI s.2.1),.c (Ct s.2.2)],.cells 3 [.c (.int .i64 k)],.cells 27 [gK,gK,gK],.cells 57 [.c .iy],.buf 37 2 ps.length (cP.fn ps),.buf 41 2 sw.length (gp.fn sw),.dead,.cells 27 [.bp 6 (.sl ps.length 2 0 ps.length),.bp 7 (.sl sw.length 2 0 sw.length),.c (Ct hw)],.cells 3 [.c (.int .i64 (cM s+(m:Nat)))],.dead,.qT,.cells 41 [.c (.int .i64 (fp (dw s) k t).1),.c (.sl af 2 (fp (dw s) k t).2.length (cL.fn (fp (dw s) k t).2))]]) ?_ rfl ?_ rfl ?_
    .refine AK.oG 6 rfl rfl rfl (by simp) (by simp) ?_;refine AK.oG 7 rfl rfl rfl (by simp) (by simp) ?_;refine bt rfl ay (AK.ret (.freeze 8 4 rfl rfl rfl (.freeze 9 5 rfl rfl rfl (.of ⟨(),qV.cells tok [0,1] rfl ?_ rfl rfl rfl A8⟩))));simp[qX]
    .simp
    .simp only[az.cat,az,y,aG,aE];and_intros<;>first|exact cv.same|exact J|rfl
end
def oz{α b:Type}{f:α->List b}{n:Nat}:∀{l:List α},(∀x∈l,(f x).length<=n)->(l.flatMap f).length<=n*l.length
 |[],_=>by simp
 |x::l,h=>by have d:=h x mU;have c:=oz (l:=l) λy a=>h y (qQ _ a);grind[Nat.mul_succ]
def EZ{x:gE}(h:x.2.length<=6/\∀y∈x.2,y.2.length<=40):(vD x.2).length<=240:=by have:=oz (f:=λy:jU=>y.2) (n:=40) h.2;unfold vD;omega
abbrev cTr:List (Nat×dt):=[(107,yO)]
def EV(k:Int)(s:bm)(u:OZ s):Ev (Cx.beside ag) 60 [rq s,dI k] [] (dB ((bg s.2.1.length).all (jX k s))) []:=by
 refine Ev.bQ Tryz.func60 rfl λx=>?_;have w:=u.sN;have q:=u.sm;have c:bE (Cx.beside ag) cTr:=.cons HK .nil;refine cf c rfl ay ?_;refine AK.cz 1 (λi=>i<=s.2.1.length/\∀j,j<i->jX k s j=ab) (λi:Nat=>[(1,dI k),(2,.e (.one (.ptr 0 0))),(10,gp.sl s.2.1),(11,dI s.2.1.length),(12,dI i)]) (λ_=>[IV s]) (λi=>s.2.1.length-i) 0 rfl (by simp) rfl (by simp) rfl ⟨by omega,by omega⟩ ?_;rintro i ⟨hi,b⟩;by_cases h:i<s.2.1.length
 .have n:s.2.1.getD i gp.b5=s.2.1.getD i (0,[]):=rfl;have o:s.2.1.getD (i-1) gp.b5=s.2.1.getD (i-1) (0,[]):=rfl;have a:jX k s i=(decide (1<=(s.2.1.getD i (0,[])).1/\(s.2.1.getD i (0,[])).1<=20)&&CL (·.1) (0,[]) s.2.1 i&&(c9 k (s.2.1.getD i (0,[])) s.1).isSome):=rfl;have r:=qx (f:=λp:gE=>p.1) (d:=(0,[])) (l:=s.2.1) (i:=i);have g:=q _ (lR (d:=(0,[])) h);generalize s.2.1.getD i (0,[])=p at *;generalize s.2.1.getD (i-1) (0,[])=p' at *;by_cases c1:1<=p.1
  rotate_left
  .refine aW c [(13,ab),(20,ab),(25,ab),(40,ab)] rfl ?_ (AK.fE (cp.zero rfl ?_))
   .simp[-aq,n];omega
   .rw[iH h (by grind)];simp
  by_cases c2:p.1<=20
  rotate_left
  .refine aW c [(13,ab),(20,af),(25,ab),(40,ab)] rfl ?_ (AK.fE (cp.zero rfl ?_))
   .simp[-aq,n];omega
   .rw[iH h (by grind)];simp
  rw[db ⟨c1,c2⟩,fC]at a;by_cases t:i=0
  .subst t;rw[show CL (·.1) (0,[]) s.2.1 0=ab from rfl,fC]at a;cases m:(c9 k p s.1).isSome with
   |false =>
    refine aW c [(13,ab),(20,af),(25,af),(27,af),(40,af),(50,ab)] rfl ?_ (AK.fE (cp.zero rfl ?_))
    .simp[-aq,n,bA,cL.list_fn,cL.aU,cP.list_fn,cP.aU,m,g.1];and_intros<;>first|omega|grind
    .rw[iH h (a.trans m)];simp
   |true =>
    refine aW c [(13,ab),(20,af),(25,af),(27,af),(40,af),(50,af)] rfl ?_ (AK.aQ 1 rfl (by simp) (by simp) ⟨h,jW b (a.trans m)⟩ (by omega));simp[-aq,n,bA,cL.list_fn,cL.aU,cP.list_fn,cP.aU,m,g.1];and_intros<;>first|omega|grind
  rw[r t]at a;by_cases v:p'.1<p.1
  rotate_left
  .refine aW c [(13,ab),(20,af),(25,af),(28,ab),(38,ab),(40,ab)] rfl ?_ (AK.fE (cp.zero rfl ?_))
   .simp[-aq,n,o,bA];omega
   .rw[iH h (by grind)];simp
  rw[db v,fC]at a;cases m:(c9 k p s.1).isSome with
  |false =>
   refine aW c [(13,ab),(20,af),(25,af),(28,ab),(38,af),(40,af),(50,ab)] rfl ?_ (AK.fE (cp.zero rfl ?_))
   .simp[-aq,n,o,bA,cL.list_fn,cL.aU,cP.list_fn,cP.aU,m,g.1];and_intros<;>first|omega|grind
   .rw[iH h (a.trans m)];simp
  |true =>
   refine aW c [(13,ab),(20,af),(25,af),(28,ab),(38,af),(40,af),(50,af)] rfl ?_ (AK.aQ (i+1) rfl (by simp) (by simp) ⟨h,jW b (a.trans m)⟩ (by omega));simp[-aq,n,o,bA,cL.list_fn,cL.aU,cP.list_fn,cP.aU,m,g.1];and_intros<;>first|omega|grind
 obtain rfl:i=s.2.1.length:=by omega
 rw[dz.2 b];refine aW c [(13,af)] rfl (by simp) (AK.leaveD rfl rfl ?_);exact cf c rfl ay (AK.bw rfl)
def yi(k:Int)(s:bm):ft k s=(cd k&&y7 k s&&(bg s.2.1.length).all (jX k s)&&k6 s.2.2):=by unfold ft y7;cases(bg s.1.length).all (ma k s.1)<;>cases decide (bX s.1).Nodup<;>cases(bg s.2.1.length).all (jX k s)<;>cases cd k<;>cases k6 s.2.2<;>cases decide (s.1.length<=20)<;>rfl
abbrev SZ:dt:=oT TR aI (λs k=>dB (y7 k s)) λs k=>[cd k=ab,OZ s]
abbrev S0:dt:=oT TR aI (λs k=>dB ((bg s.2.1.length).all (jX k s))) λs _=>[OZ s]
def CP(k:Int)(s:bm)(f:OZ s):Ev (Cx.beside ag) 23 [dI k,rq s] [] (dB (ft k s)) []:=by
 refine Ev.bQ Tryz.func23 rfl λi=>?_;have b:bE (Cx.beside ag) [(39,LF),(30,kr aI (λk=>dB (cd k)) λ_=>[]),(59,SZ),(60,S0),(61,sL)]:=.cons SY (.cons t30 (.cons (.sD λs k h=>ET k s h.1 h.2) (.cons (.sD λs k h=>EV k s h) (.cons GI .nil))));have c:=cP.list_fn s.1;have d:=gp.list_fn s.2.1;have a:=cH.list_fn s.2.2;rw[yi];cases hk:cd k
 .exact aW b [(10,af),(15,af),(20,af)] rfl (by simp[hk,c,d,a,cP.aU,gp.aU,cH.aU]) (AK.bw rfl)
 cases e:y7 k s
 .exact aW b [(10,ab),(15,af),(20,af)] rfl (by simp[hk,c,d,a,cP.aU,gp.aU,cH.aU,f,e]) (AK.bw rfl)
 cases g:(bg s.2.1.length).all (jX k s)
 .exact aW b [(10,ab),(15,ab),(20,af)] rfl (by simp[-List.all_eq_true,-List.all_eq_false,hk,c,d,a,cP.aU,gp.aU,cH.aU,f,e,g]) (AK.bw rfl)
 exact aW b [(10,ab),(15,ab),(20,ab)] rfl (by simp[-List.all_eq_true,-List.all_eq_false,hk,c,d,a,cP.aU,gp.aU,cH.aU,f,e,g]) (AK.bw rfl (by simp[a]))
abbrev y8:dt:=oT aI TR (λk s=>dB (ft k s)) λ_ s=>[OZ s]
def Ij:ef (Cx.beside ag) 23 y8:=.sD λk s h=>CP k s h
abbrev T2(a b:aj×ah):List aP:=GB a b++[ZN]
def mR(k:Int)(s:bm)(by_:Int)(t:List bx):bm×Bool :=
 if ft k s=ab/\(by_=1∨by_=2)/\cw t=ab then(match(sU k s by_ t).2 with|none=>((sU k s by_ t).1,ab)|some _=>(s,af))else(([],[],[]),af)
structure Bd(k:Int)(s:bm):Prop where
 hk:cd k=ab
 sp:(cW s.1).length<=100000
 ix:rB (indexOf s.1) (indexOf s.1).length=ab
 log:k6 s.2.2=ab
 sn:1<=dw s
def sV:∀j,j<3->([0,1,2]:List Nat)[j]?=aa j:=by decide
def MF{X:Cx ag}(v:ah):Ev X 26 [.e (.one (.c .iy)),Nf v] [] (dB af) []:=by refine Ev.bQ Tryz.func26 rfl λa=>?_;refine bt rfl ay ?_;refine AK.law (Eo rfl Tryz.underlying57 rfl rfl rfl) rfl rfl ?_;exact aX [(9,ab)] rfl (by simp) (AK.bw rfl)
def yl(d i:aj×ah)(k:Int)(s:bm)(by_:Int)(t:List bx)(j:lD s)(l:OZ s)(B:ry s)(G:bA .i64 by_)(y:ft k s=ab->Bd k s):
  Ev (Cx.beside ag) 8 [dI k,rq s,dI by_,cF.sl t] (T2 d i) (Y5 (mR k s by_ t).1 (mR k s by_ t).2) (T2 d i):=by
 refine Ev.qK tok Tryz.func8 rfl rfl rfl λH=>?_;have a:bE (Cx.beside ag) [(23,y8),(24,Wl)]:=.cons Ij (.cons t24 .nil);by_cases f:ft k s=ab
 .by_cases n:by_=1∨by_=2
  .by_cases m:cw t=ab
   .have e:mR k s by_ t=(match(sU k s by_ t).2 with|none=>((sU k s by_ t).1,ab)|some _=>(s,af)):=bl ⟨f,n,m⟩;rw[e];obtain⟨C,F,z,E,D⟩:=y f;have r:=MB (X:=Cx.beside ag) d i k s by_ t C j B m F z E n D;apply AK.join [(0,dI k),(2,dI by_),(3,cF.sl t),(5,.e (.one (.ptr 3 0))),(8,.e (.one (.ptr 4 0)))] (T2 d i++[.cells 27 [.c (Gq s.1),.c (EI s.2.1),.c (Ct s.2.2)],.cells 27 [gK,gK,gK]])
    .intro out;rcases n with rfl|rfl
     .refine bq a [(17,af),(20,af),(25,af),(29,af),(1000003,ab)] rfl ?_ (out _ _ rfl ?_)
      .simp only[az,cP.list_fn,gp.list_fn,cH.list_fn,cF.list_fn,f,g9,m];and_intros<;>first|rfl|exact True.intro|exact cP.aU _|exact gp.aU _|exact cH.aU _|exact cF.aU _|exact l
      .simp
     .refine bq a [(17,af),(20,ab),(25,af),(29,af),(1000003,ab)] rfl ?_ (out _ _ rfl ?_)
      .simp only[az,cP.list_fn,gp.list_fn,cH.list_fn,cF.list_fn,f,g9,m];and_intros<;>first|rfl|exact True.intro|exact cP.aU _|exact gp.aU _|exact cH.aU _|exact cF.aU _|exact l
      .simp
    have u:∀v:ah,Ev (Cx.beside ag) 26 [.e (.one (.c .iy)),Nf v] [] (dB af) []:=λv=>MF v;generalize sU k s by_ t=q at *;obtain⟨x,A⟩:=q;cases A with
    |none =>
     have b:Ev (Cx.beside ag) 25 [rq s,dI k,dI by_,cF.sl t] (GB d i) (.eX [.agg [.c (Gq x.1),.c (EI x.2.1),.c (Ct x.2.2)],.one (.c .iy)]) (GB d i):=r;refine cx a rfl ay ?_;refine AK.cQ b [0,1] rfl ?_;refine bq a [(1000005,ab)] rfl ay ?_;refine AK.FO 12 6 rfl rfl λg=>?_;refine cx a rfl ay ?_;refine AK.P0 40 rfl ?_;refine AK.cQ (u _) [] rfl ?_;refine bq a [(41,af)] rfl (by simp) ?_;refine AK.lC () [0,1,2] rfl rfl rfl rfl rfl rfl rfl rfl rfl ?_ rfl rfl rfl rfl sV;simp
    |some w =>
     have b:Ev (Cx.beside ag) 25 [rq s,dI k,dI by_,cF.sl t] (GB d i) (.eX [.agg [.c (Gq x.1),.c (EI x.2.1),.c (Ct x.2.2)],.one (.c (.ifs 60 (.rp [.str w])))]) (GB d i):=r;refine cx a rfl ay ?_;refine AK.cQ b [0,1] rfl ?_;refine bq a [(1000005,ab)] rfl ay ?_;refine AK.FO 12 6 rfl rfl λg=>?_;refine AK.Ru 11 rfl λp=>?_;refine cx a rfl ay ?_;refine AK.P0 40 rfl ?_;refine AK.cQ (ME p g) [2,6] rfl ?_;refine bq a [(41,ab)] rfl (by simp) ?_;refine AK.cQ (xq s j.p j.p2 j.sn j.s2 j.h) [] rfl ?_;refine Zl a [] 2 rfl ay ?_;refine AK.Kn ?_;refine AK.oG 7 rfl rfl rfl (by simp) (by simp) ?_;refine AK.oG 8 rfl rfl rfl (by simp) (by simp) ?_;refine AK.lC () [0,1,2] rfl rfl rfl rfl rfl rfl rfl rfl rfl ?_ rfl rfl rfl rfl sV;simp[qX]
   .have e:mR k s by_ t=(([],[],[]),af):=aZ λh=>m h.2.2;rw[e];have o:cw t=af:=by grind
    rcases n with rfl|rfl
    .refine bq a [(17,af),(20,af),(25,af),(29,ab)] rfl ?_ ?_
     .simp only[az,cP.list_fn,gp.list_fn,cH.list_fn,cF.list_fn,f,g9,o];and_intros<;>first|rfl|exact True.intro|exact cP.aU _|exact gp.aU _|exact cH.aU _|exact cF.aU _|exact l
     refine AK.lC () [0,1,2] rfl rfl rfl rfl rfl rfl rfl rfl rfl ?_ rfl rfl rfl rfl sV;simp
    .refine bq a [(17,af),(20,ab),(25,af),(29,ab)] rfl ?_ ?_
     .simp only[az,cP.list_fn,gp.list_fn,cH.list_fn,cF.list_fn,f,g9,o];and_intros<;>first|rfl|exact True.intro|exact cP.aU _|exact gp.aU _|exact cH.aU _|exact cF.aU _|exact l
     refine AK.lC () [0,1,2] rfl rfl rfl rfl rfl rfl rfl rfl rfl ?_ rfl rfl rfl rfl sV;simp
  .have e:mR k s by_ t=(([],[],[]),af):=aZ λh=>n h.2.1;rw[e];refine bq a [(17,af),(20,ab),(25,ab),(29,ab)] rfl ?_ ?_
   .simp only[az,cP.list_fn,gp.list_fn,cH.list_fn,f,j9,lH,dr];and_intros<;>first|rfl|exact True.intro|exact cP.aU _|exact gp.aU _|exact cH.aU _|exact l|grind
   refine AK.lC () [0,1,2] rfl rfl rfl rfl rfl rfl rfl rfl rfl ?_ rfl rfl rfl rfl sV;simp
 .have e:mR k s by_ t=(([],[],[]),af):=aZ λh=>f h.1;rw[e];refine bq a [(17,ab),(25,ab),(29,ab)] rfl ?_ ?_
  .simp only[az,cP.list_fn,gp.list_fn,cH.list_fn];and_intros<;>first|rfl|exact True.intro|exact cP.aU _|exact gp.aU _|exact cH.aU _|exact l|grind
  refine AK.lC () [0,1,2] rfl rfl rfl rfl rfl rfl rfl rfl rfl ?_ rfl rfl rfl rfl sV;simp
section
variable {X:Cx ag}[X.gZ]
def iT(k:Int)(s:bm)(by_:Int)(t:List bx):bm×Bool :=
 if ft k s=ab/\(1<=by_/\by_<=2)/\cw t=ab then(if gm k s t=ab then s else ee k s by_ t,!gm k s t)else(([],[],[]),af)
def ym(k:Int)(s:bm)(by_:Int)(t:List bx)(a:lD s)(m:ry s)(j:ft k s=ab->Bd k s):
  Ev X 7 [dI k,rq s,dI by_,cF.sl t] [] (Y5 (iT k s by_ t).1 (iT k s by_ t).2) []:=by
 refine Ev.qK tok Tryz.func7 rfl rfl rfl λx=>?_;have f:bE X [(19,y6),(20,Cu),(21,V5)]:=.cons Ib (.cons EJ (.cons t21 .nil));by_cases b:ft k s=ab
 .by_cases d:1<=by_/\by_<=2
  .by_cases c:cw t=ab
   .have e:iT k s by_ t=(if gm k s t=ab then s else ee k s by_ t,!gm k s t):=bl ⟨b,d,c⟩;rw[e];obtain⟨n,q,y,w,u⟩:=j b;have o:∀p∈s.1,0<p.2.length:=λp r=>((iI.1 b).pk p r).len.1;cases g:gm k s t with
    |true =>
     refine bq f [(14,af),(19,af),(23,af)] rfl ?_ ?_
     .simp only[az,cP.list_fn,gp.list_fn,cH.list_fn,cF.list_fn,b,g9,c,d,jD];and_intros<;>first|rfl|exact True.intro|exact cP.aU _|exact gp.aU _|exact cH.aU _|exact cF.aU _|exact a.s2|exact a.p|exact a.sn
     refine AK.cP (rC k s by_ t n a m (dT c) q o g) [] rfl (λ_=>rfl) λ_=>?_;refine c8 rfl ay ?_;refine AK.lC () [] rfl rfl rfl rfl rfl rfl rfl rfl rfl ?_ rfl rfl rfl rfl xe;simp
    |false =>
     refine AK.spare 37 2 ?_;refine bq f [(14,af),(19,af),(23,af)] rfl ?_ ?_
     .simp only[az,cP.list_fn,gp.list_fn,cH.list_fn,cF.list_fn,b,g9,c,d,jD];and_intros<;>first|rfl|exact True.intro|exact cP.aU _|exact gp.aU _|exact cH.aU _|exact cF.aU _|exact a.s2|exact a.p|exact a.sn
     refine AK.cP (xY k s by_ t n a m (dT c) q o g) [0] rfl (λ_=>rfl) λv=>?_;refine c8 rfl ay ?_;refine AK.rn 0 2 0 (E:=37) (k:=2) (cl:=Gq (ee k s by_ t).1) (by decide) rfl rfl rfl (λ_ h=>h) ?_;refine AK.lC () [] rfl rfl rfl rfl rfl rfl rfl rfl rfl ?_ rfl rfl rfl rfl xe;simp
   .have e:iT k s by_ t=(([],[],[]),af):=aZ λh=>c h.2.2;rw[e];have l:cw t=af:=by grind
    refine bq f [(14,af),(19,af),(23,ab)] rfl ?_ ?_
    .simp only[az,cP.list_fn,gp.list_fn,cH.list_fn,cF.list_fn,b,g9,l,d,jD];and_intros<;>first|rfl|exact True.intro|exact cP.aU _|exact gp.aU _|exact cH.aU _|exact cF.aU _|exact a.s2|exact a.p|exact a.sn
    refine AK.lC () [] rfl rfl rfl rfl rfl rfl rfl rfl rfl ?_ rfl rfl rfl rfl xe;simp
  .have e:iT k s by_ t=(([],[],[]),af):=aZ λh=>d h.2.1;rw[e];refine bq f [(14,af),(19,ab),(23,ab)] rfl ?_ ?_
   .simp only[az,cP.list_fn,gp.list_fn,cH.list_fn,b,d,kA];and_intros<;>first|rfl|exact True.intro|exact cP.aU _|exact gp.aU _|exact cH.aU _|exact a.s2|exact a.p|exact a.sn
   refine AK.lC () [] rfl rfl rfl rfl rfl rfl rfl rfl rfl ?_ rfl rfl rfl rfl xe;simp
 .have e:iT k s by_ t=(([],[],[]),af):=aZ λh=>b h.1;rw[e];have i:ft k s=af:=by grind
  refine bq f [(14,ab),(19,ab),(23,ab)] rfl ?_ ?_
  .simp only[az,cP.list_fn,gp.list_fn,cH.list_fn,i];and_intros<;>first|rfl|exact True.intro|exact cP.aU _|exact gp.aU _|exact cH.aU _|exact a.s2|exact a.p|exact a.sn
  refine AK.lC () [] rfl rfl rfl rfl rfl rfl rfl rfl rfl ?_ rfl rfl rfl rfl xe;simp
end
def xZ{k:Int}{l:List cn}:∀(ps a:List Bs),a.Nodup->(ps.foldl (iF k l) a).Nodup
 |[],a,h=>h
 |p::ps,a,h=>by rw[lh];refine xZ ps _ ?_;unfold iF;grind
def yn(k:Int)(t:List bx)(l:List cn):(c6 k t l).Nodup:=xZ _ _ List.nodup_nil
theorem zj{l:List bn}{x y:bn}:y∈gG l x↔y=x∨y∈l:=by
 induction l with
 |nil=>simp[gG]
 |cons a r b=>simp only[gG];split<;>simp[b,or_left_comm,or_assoc]
def MG{l:List bn}{x:bn}(h:l.Pairwise λa b=>a.1<b.1)(c:∀y∈l,y.1≠x.1):(gG l x).Pairwise λa b=>a.1<b.1:=by
 induction l with
 |nil=>simp[gG]
 |cons a r g =>
  obtain⟨f,d⟩:=jk.1 h;have e:=c a mU;simp only[gG];grind[List.pairwise_cons,zj]
def QT:∀(l a:List bn),a.Pairwise (λx y=>x.1<y.1)->l.Pairwise (λx y=>x.1≠y.1)->(∀x∈l,∀y∈a,y.1≠x.1)->(l.foldl gG a).Pairwise λx y=>x.1<y.1
 |[],_,h,_,_=>h
 |x::l,a,h,c,b=>by obtain⟨d1,d2⟩:=jk.1 c;refine QT l _ (MG h (b x mU)) d2 λz d y e=>?_;grind[zj]
theorem G1(k:Int)(qs:List Bs):qu k qs=(qs.map (k8 k)).foldl gG []:=by unfold qu;rw[List.foldl_map];rfl
theorem G2{k:Int}{qs:List Bs}(hk:cd k=ab)(d:∀q∈qs,bz q=ab)(g:qs.Nodup):(qs.map (k8 k)).Pairwise λx y=>x.1≠y.1:=by rw[List.pairwise_map];refine List.Pairwise.imp_of_mem (λ{a b} h f c e=>c ?_) g;exact Ik hk (d a h) (d b f) e
theorem Dg{no k:Int}{qs:List Bs}(hk:cd k=ab)(a:∀q∈qs,bz q=ab)(b:qs.Nodup)(c:qs.length<=4):zi no k qs=gH no k qs:=by
 show(no,mK (qs.map (k8 k)))=(no,qu k qs)
 grind[K7,G2,G1]
theorem uG{no k:Int}{qs:List Bs}(hk:cd k=ab)(c:∀q∈qs,bz q=ab)(d:qs.Nodup)(g:1<=qs.length)(f:qs.length<=4):gg k (gH no k qs)=decide (1<=no/\no<=99):=by
 have b:(qu k qs).length=qs.length:=qv k qs;rw[pW,rz,ba];constructor
 .exactλh=>h.no
 .intro h;refine⟨h,hk,by show 1<=(qu k qs).length/\_;rw[show(gH no k qs).2=qu k qs from rfl];omega,λx e=>?_,?_⟩
  .obtain⟨p,a,rfl⟩:=OQ (show x∈qu k qs from e);have:=CR (c p a);simp[right,this]
  .show (qu k qs).Pairwise _;rw[G1];exact QT _ _ List.Pairwise.nil (G2 hk c d) (by simp)
def me(k:Int):∀(f:Nat) (no:Int)(l:List Bs),l.length<=f->fH k f no l=(bg ((l.length+3) / 4)).map λj:Nat=>gH (no+j) k (rD l j)
 |0,no,l,h=>by
  have:l.length=0:=by omega
  simp[fH,this]
 |f+1,no,l,h=>by
  simp only[fH];by_cases a:0<l.length
  .rw[bl a,me k f (no+1) (l.drop 4) (by grind)];have e:(l.length+3) / 4=((l.drop 4).length+3) / 4+1:=by grind
   rw[e,uZ,pX,List.map_map];congr 1
   .simp[rD]
   .refine List.map_congr_left λj _=>?_;show gH (no+1+(j:Nat)) k (((l.drop 4).drop (4*j)).take 4)=gH (no+((j+1:Nat):Int)) k ((l.drop (4*(j+1))).take 4);grind[List.drop_drop]
  grind
def MH{l:List Bs}(b:∀q∈l,bz q=ab)(c:l.Nodup){j:Nat}(d:j<(l.length+3) / 4):(∀q∈rD l j,bz q=ab)/\(rD l j).Nodup/\1<=(rD l j).length/\(rD l j).length<=4 :=
 ⟨λq a=>b q (rH (fW a)),(c.sublist (List.drop_sublist _ _)).sublist (List.take_sublist _ _),by simp[rD];omega,by simp[rD];omega⟩
def MI{k:Int}{s:bm}{l:List Bs}(hk:cd k=ab)(b:∀q∈l,bz q=ab)(c:l.Nodup){j:Nat}(a:j<(l.length+3) / 4):Iz k s l j=(decide (1<=cM s+(j:Int)/\cM s+(j:Int)<=99)&&!(s.1.length+j==20)):=by obtain⟨c1,c2,c3,c4⟩:=MH b c a;unfold Iz nU;grind[Dg,uG]
def PD{k:Int}{s:bm}{l:List Bs}(hk:cd k=ab)(c:∀q∈l,bz q=ab)(b:l.Nodup)(d:∀j,j<(l.length+3) / 4->Iz k s l j=ab):j5 k s l ((l.length+3) / 4)=fH k l.length (cM s) l:=by
 rw[me k _ _ _ (bh _)];refine List.map_congr_left λj a=>?_;have a:=oa.1 a;obtain⟨c1,c2,c3,c4⟩:=MH c b a;have e:=d j a;have f:gg k (gH (cM s+(j:Int)) k (rD l j))=ab:=by rw[uG hk c1 c2 c3 c4];rw[MI hk c b a]at e;grind
 unfold nU;rw[Dg hk c1 c2 c4,bl f]
def pH.cM{k:Int}{s:bm}(h:pH k s):1<=cM s/\cM s<=100:=by
 unfold R1.cM;split
 .omega
 .rename_i a;have:=(h.pk _ (tQ a (0,[]))).no;omega
def Fi(k:Int)(s:bm)(by_:Int)(t:List bx):mR k s by_ t=iT k s by_ t:=by
 unfold mR iT;by_cases h:ft k s=ab/\(by_=1∨by_=2)/\cw t=ab
 .rw[bl h,bl ⟨h.1,by omega,h.2.2⟩];have b:=iI.1 h.1;have D:=b.cM;have y:s.2.2.length<=9:=by have:=b.log;simp only[k6,bR,ba]at this;exact this.2
  have u:=b.len;have v:=(jr (k:=k) (l:=indexOf s.1) (dT h.2.2)).1;have o:=yn k t (indexOf s.1);have c:(nI k s t).length=((c6 k t (indexOf s.1)).length+3) / 4:=by unfold nI;rw[me _ _ _ _ (bh _)];simp
  have i:nI k s t=fH k (c6 k t (indexOf s.1)).length (cM s) (c6 k t (indexOf s.1)):=rfl;unfold sU;simp only;generalize c6 k t (indexOf s.1)=l at *;obtain⟨B,C,w,z⟩:=pL (Iz k s l) ((l.length+3) / 4) 0;generalize lx (Iz k s l) ((l.length+3) / 4) 0=m at *;have g:∀j,j<(l.length+3) / 4->Iz k s l j=(decide (1<=cM s+(j:Int)/\cM s+(j:Int)<=99)&&!(s.1.length+j==20)):=λj d=>MI b.key v o d;by_cases n:m<(l.length+3) / 4
  .rw[bl n];have r:=z (by omega);rw[g m n]at r;have f:gm k s t=ab:=by simp only[gm,jC,ba,c];simp only[pO,bO,pT,hI]at r;omega
   grind
  .rw[aZ n];obtain rfl:m=(l.length+3) / 4:=by omega
   have a:∀j,j<(l.length+3) / 4->1<=cM s+(j:Int)/\cM s+(j:Int)<=99/\s.1.length+j≠20:=λj d=>by grind
   have x:s.1.length+(l.length+3) / 4<=20:=by refine Nat.le_of_not_lt λE=>?_;exact(a (20-s.1.length) (by omega)).2.2 (by omega)
   have A:cM s+(((l.length+3) / 4:Nat):Int)-1<=99:=by
    rcases mT ((l.length+3) / 4)with e|e
    .grind
    .have:=(a ((l.length+3) / 4-1) (by omega)).2.1;omega
   by_cases q:20<dw s
   .rw[bl q];have f:gm k s t=ab:=by simp only[gm,jC,ba];grind
    grind
   .rw[aZ q];by_cases p:s.2.2.length=9
    .rw[bl p];have f:gm k s t=ab:=by simp only[gm,jC,ba];grind
     grind
    .rw[aZ p];have f:gm k s t=af:=by simp only[gm,u6,bO,c];omega
     rw[f];simp only[ee,i,PD b.key v o λj d=>w j (lk _) d,oc];rfl
 grind
theorem Dh{l:List cn}{x y:cn}(h:y∈gq l x):y=x∨y∈l:=by
 induction l with
 |nil=>simpa[gq]using h
 |cons a r b =>
  simp only[gq]at h;grind
def MJ{l:List cn}{x:cn}(h:l.Pairwise λa b=>a.1<b.1):(gq l x).Pairwise λa b=>a.1<b.1:=by
 induction l with
 |nil=>simp[gq]
 |cons a r e =>
  obtain⟨g,c⟩:=jk.1 h;simp only[gq];split
  .rename_i d;refine jk.2 ⟨λy f=>?_,e c⟩;grind[Dh]
  grind[List.pairwise_cons]
def Di:∀(l a:List cn),(∀x∈l,eF x=ab)->(∀x∈a,eF x=ab)->a.Pairwise (λa b=>a.1<b.1)->(∀x∈l.foldl gq a,eF x=ab)/\(l.foldl gq a).Pairwise λa b=>a.1<b.1
 |[],a,_,e,c=>⟨e,c⟩
 |x::l,a,h,e,c=>Di l (gq a x) (λy d=>h y (qQ _ d)) (λy d=>by grind[Dh]) (MJ c)
theorem PE{l:List cn}(c:∀x∈l,eF x=ab)(d:l.Pairwise λa b=>a.1<b.1):rB l l.length=ab:=by
 refine dz.2 λi hi=>?_;rw[bR];refine⟨c _ (by grind),?_⟩;rcases mT i with e|e
 .simp[e]
 .rw[jC];grind[List.pairwise_iff_getElem]
def Fj(l:List bG):rB (indexOf l) (indexOf l).length=ab:=by
 unfold indexOf;split
 .rename_i h;obtain⟨b,a⟩:=Di (cW l) [] (List.all_eq_true.1 h) (by simp) List.Pairwise.nil;grind[PE]
 .rfl
def Fl{l:List bG}(h:∀x∈l,x.2.length<=4):(cW l).length<=4*l.length:=by
 induction l with
 |nil=>simp[cW]
 |cons f r d =>
  have a:=d λg c=>h g (qQ _ c);have b:=h f mU;simp only[cW,u9,cX,lg,eU]at a⊢;omega
def pH.dw{k:Int}{s:bm}(h:pH k s)(a:ry s):1<=dw s:=by have b:=nO s.2.2 a.h;unfold R1.dw;split<;>omega
def pH.save{k:Int}{s:bm}(h:pH k s)(a:ry s):Bd k s:=by refine⟨h.key,?_,Fj _,h.log,h.dw a⟩;have:=Fl λx b=>(h.pk x b).len.2;have:=h.len;omega
structure Ty(q:bm×Int×List bx):Prop where
 sz:lD q.1
 sm:OZ q.1
 nu:ry q.1
 by':1<=q.2.1/\q.2.1<=3
 an:(GH q.1.2.1).length<=4800
abbrev WG:={q:bm×Int×List bx // Ty q}
abbrev dDr(q:bm×Int×List bx):D:=.eX [.one (.c (.int .i64 7)),.agg [.c (Gq q.1.1),.c (EI q.1.2.1),.c (Ct q.1.2.2)],.one (.c (.int .i64 q.2.1)),.one (.c (.sl af 2 q.2.2.length (cF.fn q.2.2)))]
def WH(m:Nat)(b:Nat->Int):Prop:=eb (ι:=WG) (Cx.beside ag) 6 [.e (.one (.c (.sl af 1 m (Gz b))))] [] (λq=>dDr q.1) (λ_=>[])
def Dj{k:Int}{s:bm}{by_:Int}{t:List bx}(c:ft k s=ab)(b:1<=by_/\by_<=2)(a:cw t=ab):iT k s by_ t=(if gm k s t=ab then s else ee k s by_ t,!gm k s t):=bl ⟨c,b,a⟩
def IB(k:Int)(s:bm)(t:List bx):(nI k s t).length=((c6 k t (indexOf s.1)).length+3) / 4:=by unfold nI;rw[me _ _ _ _ (bh _)];simp
def PF(x:gE):Prop:=x.2.length<=6/\∀y∈x.2,y.2.length<=4000000
theorem PF.of{no k:Int}{t:List bx}(b:cw t=ab):PF (fp no k t):=by have d:=mc b;refine⟨by simpa[fp]using d,λy a=>?_⟩;simp only[fp,kB]at a;obtain⟨f,c,rfl⟩:=a;have:=((dT b).sZ f c).2;have:=kv f.2;simp only[oJ,lg];omega
def uH{k:Int}{s:bm}{by_:Int}{t:List bx}(f:lD s):lD (iT k s by_ t).1:=by
 unfold iT;split
 .rename_i h;have d:=iI.1 h.1;show lD (if gm k s t=ab then s else ee k s by_ t);split
  .exact f
  .rename_i g;have g:gm k s t=af:=by grind
   simp only[gm,u6,bO]at g;have c:PF (fp (dw s) k t):=PF.of h.2.2;have m:=(jr (k:=k) (l:=indexOf s.1) (dT h.2.2)).1;have i:=GK 1 d.sa λx b=>(d.sn x b).1;have e:=d.log;simp only[k6,bR,ba]at e;refine⟨by simp only[ee,cX];omega,λp a=>?_,by simp only[ee,cX,jh];omega,λx b=>?_,by simp only[ee,cX,jh];omega⟩
   .simp only[ee]at a;rcases fY.1 a with a|a
    .exact f.p2 p a
    .obtain⟨j,qs,_,_,_,n,_,rfl⟩:=tP k _ _ _ m p a;have:(qu k qs).length=qs.length:=qv k qs;show(qu k qs).length<=_;omega
   .simp only[ee]at b;rcases fY.1 b with b|b
    .exact f.s2 x b
    .rw[fX]at b;subst b;exact⟨by have:=c.1;omega,c.2⟩
 .exact⟨by simp,by simp,by simp,by simp[ox],by simp⟩
structure Sv(k:Int)(s:bm)(by_:Int)(t:List bx):Prop where
 st:pH k s
 nu:ry s
 by':1<=by_/\by_<=2
 tr:cw t=ab
 fu:gm k s t=af
section
variable {k:Int}{s:bm}{by_:Int}{t:List bx}
end
end Go.AM.R1
namespace Go.AM
def MS{α:Type}(d:α){P:Nat->α->Prop}:∀n:Nat,(∀i,i<n->∃x,P i x)->∃l:List α,l.length=n/\∀i,i<n->P i (l.getD i d)
 |0,_=>⟨[],rfl,λi hi=>absurd hi (fL _)⟩
 |n+1,h=>by obtain⟨l,e,a⟩:=MS d n λi hi=>h i (by omega);obtain⟨x,c⟩:=h n (by omega);refine⟨l++[x],by grind,λi hi=>?_⟩;grind
inductive Fit (M:Mem) (b o:Nat) (u:ah) (x:Int):Prop
 |int (n:Int) (h:M b o=aa (.int .i64 n)) (hu:∀M',Rd M' u (.int .i64 x))
 |str (s:ByteArray) (h:M b o=aa (.string s)) (l:List UInt8) (hu:∀M',Rd M' u (.str l))
section
variable {M:Mem}{b o g m:Nat}{u v:ah}{x:Int}
def Fit.i(h:Fit M b o u x){n:Int}(a:M g m=aa v)(d:Rd M v (.int .i64 n)):∃c v',M.up b o u g m=aa v'/\(∀M',Rd M' v' (.int .i64 c))/\(c=n∨c=x):=by
 unfold Mem.up;by_cases e:g=b/\m=o
 .obtain⟨rfl,rfl⟩:=e;rw[bl ⟨rfl,rfl⟩];cases h with
  |int _ _ f=>exact⟨x,u,rfl,f,.inr rfl⟩
  |str s h=>rw[h]at a;cases a;cases d
 .rw[aZ e,a];cases d with
  |int h=>exact⟨n,_,rfl,λ_=>.int h,.inl rfl⟩
def Fit.s(h:Fit M b o u x){l:List UInt8}(a:M g m=aa v)(c:Rd M v (.str l)):∃l' v',M.up b o u g m=aa v'/\∀M',Rd M' v' (.str l'):=by
 unfold Mem.up;by_cases e:g=b/\m=o
 .obtain⟨rfl,rfl⟩:=e;rw[bl ⟨rfl,rfl⟩];cases h with
  |int n h=>rw[h]at a;cases a;cases c
  |str _ _ l' hu=>exact⟨l',u,rfl,hu⟩
 .rw[aZ e,a];cases c with
  |str h1 h2=>exact⟨l,_,rfl,λ_=>.str h1 h2⟩
def Fit.l(h:Fit M b o u x){t:Bool}{k n:Nat}{es:Nat->List C}(a:M g m=aa v)(c:Rd M v (.sl t k n es)):M.up b o u g m=aa v:=by
 unfold Mem.up;by_cases e:g=b/\m=o
 .obtain⟨rfl,rfl⟩:=e;cases h with
  |int n h=>rw[h]at a;cases a;cases c
  |str s h=>rw[h]at a;cases a;cases c
 grind
end
namespace R1
def two{α:Type}{P:Nat->α->Prop}{x y:α}(a:P 0 x)(d:P 1 y):∀j c,[x,y][j]?=aa c->P j c
 |0,_,h=>by grind
 |1,_,h=>by grind
def PI{M:Mem}{b o:Nat}{u:ah}{x:Int}(h:Fit M b o u x){v:ah}{e:List bn}(F:Rd M v (.sl af 2 e.length (dO.fn e))):∃d:List bn,d.length=e.length/\Rd (M.up b o u) v (.sl af 2 d.length (dO.fn d)):=by
 obtain⟨a,cap,p,k,rfl,G,r,q,K,f⟩:=F.Ed;obtain⟨l,n,I⟩:=MS (0,[]) (P:=λi (y:bn)=>∀(j:Nat) (c:C),[C.int .i64 y.1,.str y.2][j]?=aa c->∃w,M.up b o u p (k+i*2+j)=aa w/\Rd (M.up b o u) w c) e.length λi hi=>by obtain⟨w0,H,r0⟩:=f i hi 0 _ rfl;obtain⟨w1,E,t⟩:=f i hi 1 _ rfl;obtain⟨J,v0,D,z,_⟩:=h.i H r0;obtain⟨l',v1,A,B⟩:=h.s E t;exact⟨(J,l'),two (P:=λj c=>∃w,M.up b o u p (k+i*2+j)=aa w/\Rd (M.up b o u) w c) ⟨v0,D,z _⟩ ⟨v1,A,B _⟩⟩
 exact⟨l,n,by rw[n];exact .RN G r q (λ_ _=>rfl) I⟩
structure Xp(x:Int)(ps T1:List bG):Prop where
 len:T1.length=ps.length
 at':∀i,i<ps.length->(T1.getD i (0,[])).2.length=(ps.getD i (0,[])).2.length/\((T1.getD i (0,[])).1=(ps.getD i (0,[])).1∨(T1.getD i (0,[])).1=x)
def MT{M:Mem}{b o:Nat}{u:ah}{x:Int}(h:Fit M b o u x){v:ah}{ps:List bG}(G:Tz v ps M):∃e,Xp x ps e/\Tz v e (M.up b o u):=by
 obtain⟨a,cap,q,n,rfl,H,t,s,L,k⟩:=Rd.Ed G;obtain⟨l,p,r⟩:=MS (0,[]) (P:=λi (y:bG)=>(y.2.length=(ps.getD i (0,[])).2.length/\(y.1=(ps.getD i (0,[])).1∨y.1=x))/\∀(j:Nat) (c:C),[C.int .i64 y.1,sP y][j]?=aa c->∃w,M.up b o u q (n+i*2+j)=aa w/\Rd (M.up b o u) w c) ps.length λi hi=>by obtain⟨w0,I,r0⟩:=k i hi 0 _ rfl;obtain⟨w1,F,f⟩:=k i hi 1 _ rfl;obtain⟨K,v0,E,z,B⟩:=h.i I r0;have A:=h.l F f;obtain⟨d,J,D⟩:=PI h f;exact⟨(K,d),⟨J,B⟩,two (P:=λj c=>∃w,M.up b o u q (n+i*2+j)=aa w/\Rd (M.up b o u) w c) ⟨v0,E,z _⟩ ⟨w1,A,D⟩⟩
 refine⟨l,⟨p,λi hi=>(r i hi).1⟩,?_⟩;show Rd _ _ (.sl af 2 l.length (cP.fn l));rw[p];exact .RN H t s (λ_ _=>rfl) λi hi=>(r i hi).2
structure Bf(s:bm):Prop where
 p:∀p∈s.1,p.2.length<=4/\0<=p.1/\p.1<=99
 pl:s.1.length<=20
 ex:∃ps,D7 (ps,s.2)
def D7.WJ{s:bm}(h:D7 s):Bf s:=⟨λp a=>by have h1:=(h.p p a).len;have h2:=(h.p p a).no;omega,h.pl,s.1,h⟩
def Bf.spo{s:bm}(h:Bf s){a:List bG}(d:Xp 0 s.1 a):Bf (a,s.2):=by
 refine⟨λp e=>?_,by rw[d.len];exact h.pl,h.ex⟩;obtain⟨i,hi,rfl⟩:=nW.1 e;have c:i<s.1.length:=by rw[<-d.len];exact hi
 have h1:=d.at' i c;have h2:=h.p _ (fA c (0,[]));grind
def Bf.sub{s:bm}(h:Bf s){a:List bG}(c:∀p∈a,p∈s.1)(hl:a.length<=s.1.length):Bf (a,s.2):=⟨λp d=>h.p p (c p d),iq hl h.pl,h.ex⟩
def Bf.size{s:bm}(h:Bf s):lD s:=by obtain⟨ps,d⟩:=h.ex;have a:=d.size;have h1:=h.pl;exact⟨by omega,λp c=>by have:=(h.p p c).1;omega,a.sn,a.s2,a.h⟩
def Bf.num{s:bm}(h:Bf s):ry s:=by obtain⟨ps,d⟩:=h.ex;have a:=d.num;exact⟨λp c=>by have:=(h.p p c).2;omega,a.s,a.h⟩
def ID{no k:Int}{t:List bx}(h:cw t=ab):(vD (fp no k t).2).length<=240:=by have a:=mP.1 h;refine EZ ⟨by simpa[fp]using a.2.2.2,λy c=>?_⟩;obtain⟨f,e,rfl⟩:=kB.1 c;have d:=(a.1 f e).2;simp only[eg,bR,ba]at d;have i:=kv f.2;show((pieces f.2).map _).length<=40;grind
def Bf.an{s:bm}(h:Bf s):(GH s.2.1).length<=4800:=by
 obtain⟨ps,a⟩:=h.ex;have c:=a.sl;have f:(GH s.2.1).length<=240*s.2.1.length:=oz λx d=>by obtain⟨no,t,_,_,e,rfl⟩:=(a.s x d).ex;exact ID e
 grind
def Bf.smT{s:bm}(h:Bf s):OZ s:=by
 have a:=h.size;have h1:=h.pl;have h2:=h.an;have d:(bX s.1).length<=4*s.1.length:=oz λp c=>by rw[lg];exact(h.p p c).1
 exact⟨⟨a.p,a.s2,a.sn,by omega⟩,a.p2,by omega⟩
end R1
def dW.q4b{P:ar}{X:Cx P}{N:Nat}{all:List au}{φ:Fr}{x:Nat->D}{d:Bool->Bool->Bool->Bool->List aP}{i g j f e:Nat}{o:au}(h1:aB g i=af)(h2:aB j i=af)(k:aB f i=af)(l:aB e i=af)(m:fN all e i=ab)(h:∀a b c,OA X N all o (jZ all φ x i) (d a b c af) (x i) (d a b c af)):dW X N all φ x (po d g j f e) i o:=by intro D hT hF;grind[ri]
namespace R1
variable {X:Cx ag}[X.gZ]
abbrev SpI(k:Nat):={q:bm×Nat // Bf q.1/\k<=q.2/\q.2<=k+1100}
def Bf.del{s:bm}(h:Bf s)(i:Nat):Bf (s.1.take i++s.1.drop (i+1),s.2):=h.sub (λp a=>by grind) (by grind)
def qA{M:Mem}{b o cap:Nat}{ps:List bG}{i:Nat}(h:Tz (.slice (aa ⟨b,o,ae⟩) ps.length cap) ps M)(hi:i<ps.length):(∃n,M b (o+i*2)=aa (.int .i64 n))/\∃w,M b (o+i*2+1)=aa w/\Rd M w (sP (ps.getD i (0,[]))):=by obtain⟨a,c2,k,j,e,_,_,f,_,c⟩:=Rd.Ed h;cases e;cases f (by omega);obtain⟨w0,l,r0⟩:=c i hi 0 _ rfl;obtain⟨w1,d,g⟩:=c i hi 1 _ rfl;refine⟨?_,w1,d,g⟩;cases r0;grind
theorem G4{M:Mem}{c o cap:Nat}{b:List bn}(h:Rd M (.slice (aa ⟨c,o,ae⟩) b.length cap) (.sl af 2 b.length (dO.fn b)))(hi:0<b.length):∃s,M c (o+0*2+1)=aa (.string s):=by obtain⟨a,c2,k,j,e,_,_,d,_,g⟩:=h.Ed;cases e;cases d hi;obtain⟨w1,i,f⟩:=g 0 hi 1 _ rfl;cases f;grind
abbrev mY(s:bm)(i:Nat):Nat:=dc s.1.length (aa (i:Int))-dc 0 ae
abbrev w6(s:bm)(i:Nat):Nat:=dc s.1.length ae-dc 0 (aa ((i:Int)+1))
abbrev D6(s:bm):Nat->List C:=lZ (dc 0 ae) (cP.fn s.1)
abbrev zv(s:bm)(i:Nat):Nat->List C:=lZ (dc 0 (aa ((i:Int)+1))) (cP.fn s.1)
abbrev bf1(s:bm)(i:Nat):aP:=.buf 37 2 (0+mY s i) (cA 0 (λi=>([]:List (List C)).getD i []) (D6 s))
abbrev Xq(s:bm)(i:Nat):aP:=.buf 37 2 (0+mY s i+w6 s i) (cA (0+mY s i) (cA 0 (λi=>([]:List (List C)).getD i []) (D6 s)) (zv s i))
def b9S(m:Nat)(b:Nat->Int)(k:Int)(s:bm)(i:Nat)(a c d e:Bool):List aP :=
 match a,c,d,e with
 |true,ab,ab,ab=>[kZ m b k,js,yo,.cells 27 [.bp 4 (.sl (0+mY s i+w6 s i) 2 0 (0+mY s i+w6 s i)),.c (EI s.2.1),.c (Ct s.2.2)],Xq s i]
 |true,ab,ab,af=>[kZ m b k,js,yo,vB s,Xq s i]
 |true,ab,af,_=>[kZ m b k,js,yo,vB s,Xq s i]
 |true,af,_,_=>[kZ m b k,js,yo,vB s,bf1 s i]
 |false,_,_,_=>[kZ m b k,js,yo,vB s]
abbrev x9S(s:bm)(i j:Nat):D :=
 [.e (.one (.c (.sl ab 2 0 λi=>([]:List (List C)).getD i []))),.e (.one (.ptr 3 0)),cP.sl s.1,dI i,.e (.one (.c (.sl af 2 (mY s i) (D6 s)))),.e (.one (.bp 4 (.sl (0+mY s i) 2 0 (0+mY s i)))),
  .e (.one (.ptr 3 0)),cP.sl s.1,dI i,dI ((i:Int)+1),.e (.one (.c (.sl af 2 (w6 s i) (zv s i)))),.e (.one (.bp 4 (.sl (0+mY s i+w6 s i) 2 0 (0+mY s i+w6 s i)))),.e (.one (.ptr 3 0)),.any].getD j .any
set_option maxRecDepth 20000 in
def Dl(m:Nat)(b:Nat->Int)(R:Bytes b)(k:Nat)(hk:k<=40000)(T:m<=1048576):
  eb (ι:=SpI k) X 16 [.e (.one (.ptr 0 0))] [kZ m b k] (λq=>rq q.1.1) (λq=>[kZ m b q.1.2]):=by
 refine eb.rZ tok Tryz.func16 rfl rfl rfl λhf=>?_;refine bt rfl ay ?_;refine AK.cP (Dk m b R k hk T) [0] rfl (λ_=>rfl) ?_;rintro⟨⟨s,v,k1⟩,y,F,A⟩;simp only at y F A;refine aX [(1000002,ab)] rfl ay ?_;have hpl:=y.pl;by_cases U:s.1.length=0
 .refine AK.rn 2 3 0 (E:=37) (k:=2) (cl:=Gq s.1) (by decide) rfl rfl rfl (λ_ h=>h) ?_;refine aX [(10,ab)] rfl (by simp[U]) ?_;refine AK.mH ⟨(s,k1),y.WJ,F,by grind⟩ [0] rfl rfl rfl rfl rfl rfl rfl rfl ?_ rfl rfl rfl rfl ig;simp
 refine AK.fact (PM.of (l:=2) (p:=∃a cap b' o,v=.slice a s.1.length cap/\(0<s.1.length->a=aa ⟨b',o,ae⟩)) rfl λM f=>?_) ?_
 .grind [Rd.Ed]
 rintro⟨a,cap,b',o,rfl,ha⟩;obtain rfl:=ha (by omega);refine aX [(10,af)] rfl (by simp[U];omega) ?_;refine AK.cP (gw m b R k1 s.1.length (by omega) T (by omega)) [0] rfl (λ_=>rfl) ?_;rintro⟨i,i0,t⟩;obtain⟨i,rfl⟩:=Int.eq_ofNat_of_zero_le i0;have t:i<s.1.length:=by omega
 refine bt rfl ay ?_;refine AK.cP (gw m b R (k1+1) 24 (by omega) T (by omega)) [0] rfl (λ_=>rfl) ?_;rintro⟨w,w0,w1⟩;refine aX [(1000006,ab)] rfl ay ?_;have I:0<(s.1.getD i (0,[])).2.length:=y.ne _ (fA t (0,[]));by_cases G:w=0
 .have o4:az (fM s.1.length ae (aa (i:Int))):=by simp only[fM,az];omega
  have o9:az [bA .i64 ((i:Int)+1)]:=by simp only[az,bA];omega
  have Q:az (fM s.1.length (aa ((i:Int)+1)) ae):=by simp only[fM,az];omega
  have W:mY s i=i:=by show((i:Int)).toNat-0=i;omega
  have e2:w6 s i=s.1.length-(i+1):=by show s.1.length-((i:Int)+1).toNat=_;omega
  have o5:az [(0+mY s i)*i37.bytes<=140737488355328]:=by rw[show i37.bytes=32 from rfl,W];simp only[az];omega
  have N:az [0+mY s i=0+mY s i,0+mY s i=0+mY s i,(0+mY s i+w6 s i)*i37.bytes<=140737488355328]:=by refine⟨rfl,rfl,?_⟩;rw[show i37.bytes=32 from rfl];simp only[az];omega
  refine AK.rn 2 3 0 (E:=37) (k:=2) (cl:=Gq s.1) (by decide) rfl rfl rfl (λ_ h=>h) ?_;refine aX [(20,ab),(1000007,ab)] rfl (by simp[G]) ?_;refine AK.flags ja (x9S s i) (po (b9S m b (k1+1+1:Nat) s i) 5 11 12 13) rfl rfl rfl rfl
   ⟨.qD tok bE.nil,
   .qD tok bE.nil,
   dW.q4b rfl rfl rfl rfl rfl (λa b c=>by cases a<;>cases b<;>cases c<;>exact OA.cT tok bE.nil rfl),
   .qD tok bE.nil,
   .Xb tok bE.nil o4,
   dW.c1 rfl rfl rfl rfl rfl rfl (gB (ds:=[(3000026,ab)]) tok bE.nil (σ':=aa _) rfl o5),
   .qD tok bE.nil,
   dW.q4b rfl rfl rfl rfl rfl (λa b c=>by cases a<;>cases b<;>cases c<;>exact OA.cT tok bE.nil rfl),
   .qD tok bE.nil,
   .Xb tok bE.nil o9,
   .Xb tok bE.nil Q,
   dW.c2 rfl rfl rfl rfl rfl rfl (gB (ds:=[]) tok bE.nil (σ':=aa _) rfl N),
   dW.c3 rfl rfl rfl rfl rfl rfl (OA.cT tok bE.nil rfl),
   dW.c4 rfl rfl rfl rfl rfl rfl (gB (ds:=[]) tok bE.nil (σ':=aa _) rfl ay),ay⟩ ?_
  intro D r;show AK X _ _ _ _ _ (b9S m b (k1+1+1:Nat) s i (D 5) (D 11) (D 12) (D 13));rw[r 5 (by decide),r 11 (by decide),r 12 (by decide),r 13 (by decide)];refine AK.BZ (φ':=[(2,.e (.one (.ptr 1 0))),(3,.e (.one (.ptr 3 0)))]) (σ':=[kZ m b (k1+1+1:Nat),js,yo,.cells 27 [.bp 4 (.sl (0+mY s i+w6 s i) 2 0 (0+mY s i+w6 s i)),.c (EI s.2.1),.c (Ct s.2.2)],Xq s i]) ?_ rfl (by simp) rfl (by simp);refine AK.oG 4 rfl rfl rfl (by simp) (by simp) ?_;refine bt rfl ay ?_;refine AK.mH ⟨((s.1.take i++s.1.drop (i+1),s.2),k1+1+1),y.WJ.del i,by grind,by grind⟩ [0] rfl rfl rfl rfl rfl rfl rfl rfl ?_ rfl rfl rfl rfl ig;simp only[az.cat,az];refine⟨⟨by grind,λj hj=>?_⟩,⟨ay,.same⟩,⟨ay,.same⟩,ay⟩;show cA (0+mY s i) (cA 0 (λi=>([]:List (List C)).getD i []) (D6 s)) (zv s i) j=_;rw[W,bC];simp only[cA,D6,zv,lZ,dc,bC,fL,b7,lG,mh.fn,AF,show((i:Int)+1).toNat=i+1 by omega];grind
 by_cases B:w=1
 .refine aX [(20,af),(35,ab)] rfl (by simp[B];omega) ?_;refine AK.hand _ _ rfl rfl (dN.RO tok 2 rfl rfl (λ_=>rfl) rfl rfl (λM f=>?_)) λw1=>?_
  .obtain⟨_,w,g,q2⟩:=qA f t;exact⟨w,g,q2.cell⟩
  refine AK.Jg (PM.of (l:=2) (p:=∃Z V c2,w1=.slice (aa ⟨Z,V,ae⟩) (s.1.getD i (0,[])).2.length c2) rfl λM f=>?_) ?_
  .obtain⟨_,w,g,q2⟩:=qA f.1 t;cases g.symm.trans f.2;grind[Rd.Ed]
  rintro⟨Z,V,c2,rfl⟩;refine bt rfl (by simp only[az];omega) ?_;refine AK.hand _ _ rfl rfl (dN.F6 tok 2 rfl rfl rfl rfl rfl rfl rfl (λM f=>?_)) ?_
  .obtain⟨_,w,g,q2⟩:=qA f.1 t;cases g.symm.trans f.2;grind[G4]
  rintro⟨u,S⟩;refine aX [(1000012,ab)] rfl ay ?_;refine AK.Nv (ι:={d:List bG // Xp 0 s.1 d}) 2 (λq=>PM (Tz (.slice (aa ⟨b',o,ae⟩) s.1.length cap) q.1)) rfl (λ_ ch O=>?_) ?_
  .obtain⟨J,K,M,f,Y⟩:=O;obtain⟨_,w,g,q2⟩:=qA f.1 t;cases g.symm.trans f.2;obtain⟨s0,P⟩:=G4 q2 I;obtain⟨d,L,p2⟩:=MT (x:=0) (Fit.str s0 P _ S) f.1;exact⟨⟨d,L⟩,J,K,by grind⟩
  rintro⟨d,z⟩;refine AK.rn 2 3 0 (E:=37) (k:=2) (cl:=Gq d) (by decide) rfl rfl rfl (λ_ h=>by grind) ?_;refine bt rfl ay ?_;refine AK.mH ⟨((d,s.2),k1+1+1),y.WJ.spo z,by grind,by grind⟩ [0] rfl rfl rfl rfl rfl rfl rfl rfl ?_ rfl rfl rfl rfl ig;simp
 by_cases H:w=2
 .refine aX [(20,af),(35,af),(45,ab)] rfl (by simp[H];omega) ?_;refine AK.hand _ _ rfl rfl (dN.F6 tok 2 rfl rfl rfl rfl rfl rfl rfl (λM f=>?_)) ?_
  .obtain⟨⟨n,g⟩,_⟩:=qA f t;exact⟨_,g⟩
  rintro⟨u,S⟩;refine aX [(1000012,ab)] rfl ay ?_;refine AK.Nv (ι:={d:List bG // Xp 0 s.1 d}) 2 (λq=>PM (Tz (.slice (aa ⟨b',o,ae⟩) s.1.length cap) q.1)) rfl (λ_ ch O=>?_) ?_
  .obtain⟨J,K,M,f,Y⟩:=O;obtain⟨⟨n,g⟩,_⟩:=qA f t;obtain⟨d,L,p2⟩:=MT (x:=0) (Fit.int n g S) f;exact⟨⟨d,L⟩,J,K,by rw[Y];exact p2⟩
  rintro⟨d,z⟩;refine AK.rn 2 3 0 (E:=37) (k:=2) (cl:=Gq d) (by decide) rfl rfl rfl (λ_ h=>by grind) ?_;refine bt rfl ay ?_;refine AK.mH ⟨((d,s.2),k1+1+1),y.WJ.spo z,by grind,by grind⟩ [0] rfl rfl rfl rfl rfl rfl rfl rfl ?_ rfl rfl rfl rfl ig;simp
 refine AK.rn 2 3 0 (E:=37) (k:=2) (cl:=Gq s.1) (by decide) rfl rfl rfl (λ_ h=>h) ?_;refine aX [(20,af),(35,af),(45,af)] rfl (by simp[G,B,H]) ?_;refine AK.mH ⟨(s,k1+1+1),y.WJ,by grind,by grind⟩ [0] rfl rfl rfl rfl rfl rfl rfl rfl ?_ rfl rfl rfl rfl ig;simp
end R1
end Go.AM
namespace Go.AM.R1
def WK(m:Nat)(b:Nat->Int)(c:Bytes b)(f:m<=1048576):WH m b:=by
 refine eb.Jk Tryz.func6 rfl rfl (cV rfl) (AK.of_code ?_);refine bt rfl ay ?_;refine AK.cP (O4 m b f) [] rfl (λ_=>rfl) ?_;rintro⟨d,hm'⟩;refine bt rfl ay ?_;refine AK.cP (Dl d b c 0 (by omega) hm') [1] rfl (λ_=>rfl) ?_;rintro⟨⟨s,k⟩,a,_,hk⟩;simp only at a hk;refine bt rfl ay ?_;refine AK.cP (gw d b c k 2 (by omega) hm' (by omega)) [1] rfl (λ_=>rfl) ?_;rintro⟨u,g,i⟩;refine bt rfl (by simp only[az,bA];omega) ?_;refine AK.cP (gw d b c (k+1) 24 (by omega) hm' (by omega)) [1] rfl (λ_=>rfl) ?_;rintro⟨w,w0,w1⟩;refine bt rfl (by simp only[az,bA];omega) ?_;refine AK.cP (MU d b c (k+1+1) (by omega) hm') [1] rfl (λ_=>rfl) ?_;intro q;refine bt rfl ay ?_;refine AK.freeze 3 0 rfl rfl rfl ?_;have e:1<=1+u+w / 23/\1+u+w / 23<=3:=by omega
 refine AK.iK (λ_ _ _ h=>⟨⟨(s,1+u+w / 23,q.t),a.size,a.smT,a.num,e,a.an⟩,h⟩) ?_;refine AK.Q7 tok [] rfl ?_ rfl rfl rfl xe;simp
def IF{k:Int}{s:bm}{by_:Int}{t:List bx}(c:ry s)(h:(iT k s by_ t).2=ab):Sv k s by_ t/\iT k s by_ t=(ee k s by_ t,ab):=by
 unfold iT at *;split at h
 .rename_i a;have b:gm k s t=af:=by grind
  exact⟨⟨iI.1 a.1,c,a.2.1,a.2.2,b⟩,by simp[a,b]⟩
 .cases h
def Sv.size{k:Int}{s:bm}{by_:Int}{t:List bx}(h:Sv k s by_ t)(a:lD s):lD (ee k s by_ t):=by
 have:=uH (k:=k) (by_:=by_) (t:=t) a
 rwa [Dj (iI.2 h.st) h.by' h.tr,h.fu]at this
def uR(i o:aj×ah)(m:Nat)(b:Nat->Int)(O:Bytes b)(_:m<=9223372036854775807):Ev (Cx.beside ag) 4 [.e (.one (.c (.sl af 1 m (Gz b))))] (T2 i o) (dB ab) (T2 i o):=by
 refine Ev.bQ Tryz.func4 rfl λU=>?_;by_cases T:1048576<m
 .refine aX [(15,ab)] rfl (by simp;omega) (AK.de [0,1,2] rfl ?_ rfl rfl rfl sV);simp
 refine aX [(15,af)] rfl (by simp;omega) ?_;refine AK.cP (WK m b O (by omega)) [] rfl (λ_=>rfl) ?_;rintro⟨⟨s,by_,t⟩,d,r,a,A,E⟩;simp only at d r a A E;have g:ft 7 s=ab->Bd 7 s:=λh=>(iI.1 h).save a;have H:=ym (X:=Cx.beside ag) 7 s by_ t d a g;have B:=yl i o 7 s by_ t d r a (by simp only[bA];omega) g;rw[Fi]at B;refine bt rfl ay ?_;refine AK.cQ H [] rfl ?_;refine bt rfl ay ?_;refine AK.cQ B [0,1,2] rfl ?_;have u:=EK (X:=Cx.beside ag) (iT 7 s by_ t).1 (uH d);have n:=IF (k:=7) (s:=s) (by_:=by_) (t:=t) a;generalize iT 7 s by_ t=q at *;obtain⟨x,ok⟩:=q;have c1:bE (Cx.beside ag) [(9,xh [rq x,rq x] (dB ab))]:=.cons (Au u) .nil;cases ok with
 |false =>
  refine bq c1 [(42,af),(48,af),(51,ab),(55,ab)] rfl ?_ (AK.de [0,1,2] rfl (by simp) rfl rfl rfl sV);simp
 |true =>
  obtain⟨v,e⟩:=n rfl;cases e;have P:=v.size d;have J:=d.h;have M:=d.p;have N:=d.sn;refine bq c1 [(42,af),(48,af),(51,af)] rfl (by simp) ?_;clear c1 u H B n;obtain⟨K,G,I,S,R⟩:=g (iI.2 v.st);have f:(ee 7 s by_ t).1.length=s.1.length+((c6 7 t (indexOf s.1)).length+3) / 4:=by simp only[ee,cX,IB]
  have D:∀j,j<((c6 7 t (indexOf s.1)).length+3) / 4->((ee 7 s by_ t).1.getD (s.1.length+j) (0,[])).2.length=min 4 ((c6 7 t (indexOf s.1)).length-4*j):=λj F=>by
   have e:(ee 7 s by_ t).1=s.1++nI 7 s t:=rfl;unfold nI at e;rw[me _ _ _ _ (bh _)]at e;have:(ee 7 s by_ t).1.getD (s.1.length+j) (0,[])=gH (cM s+j) 7 (rD (c6 7 t (indexOf s.1)) j):=by rw[e,aq,fT (by omega),uY];simp[F]
   rw[this];show(qu 7 (rD _ j)).length=_;rw[qv];simp[rD]
  have L:=(jr (k:=7) (l:=indexOf s.1) (dT v.tr)).2;have z:=uC (X:=Cx.beside ag) i o 7 t (indexOf s.1) K v.tr I (iq (pE G) (by decide));generalize ee 7 s by_ t=x at *;generalize c6 7 t (indexOf s.1)=l at *;refine AK.loop (λj=>j<=(l.length+3) / 4) (λj:Nat=>[(3,dI 7),(4,.e (.one (.ptr 3 0))),(6,cF.sl t),(9,.e (.one (.ptr 5 0))),(11,dI (min (4*j) l.length:Nat)),(12,dI (s.1.length+j:Nat))]) (λ_=>T2 i o++[vB s,vB x,vB x]) (λj=>(l.length+3) / 4-j) 0 (by omega) (cE rfl (by simp)) rfl ?_;intro j F;by_cases C:j<(l.length+3) / 4
  .have w:x.1.getD ((s.1.length+j:Nat):Int).toNat cP.b5=x.1.getD (s.1.length+j) (0,[]):=rfl;have y:=D j C;generalize x.1.getD (s.1.length+j) (0,[])=p at *;by_cases Q:j+1<(l.length+3) / 4
   .refine bH [(67,ab),(85,ab),(94,af)] rfl ?_ ⟨j+1,C,by omega,cE rfl ?_,rfl⟩
    .simp only[az,w,y,f,bA];and_intros<;>first|rfl|omega|(simp<;>omega)
    .simp only[az.cat,az,w,y];and_intros<;>first|trivial|exact cv.same|omega
   .refine bH [(67,ab),(85,af),(94,af)] rfl ?_ ⟨j+1,C,by omega,cE rfl ?_,rfl⟩
    .simp only[az,w,y,f,bA];and_intros<;>first|rfl|omega|(simp<;>omega)
    .simp only[az.cat,az,w,y];and_intros<;>first|trivial|exact cv.same|omega
  obtain rfl:j=(l.length+3) / 4:=by omega
  refine bH [(67,af)] rfl (by simp[f]) (AK.leave rfl rfl ?_);refine c8 rfl ay ?_;refine AK.cQ (uF s.1 d.p G) [] rfl ?_;refine c8 rfl ay ?_;refine AK.cQ z [0,1] rfl ?_;refine c8 rfl ay (AK.de [0,1,2] rfl ?_ rfl rfl rfl sV);simp;omega
end Go.AM.R1
