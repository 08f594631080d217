/- Part 6. No condition. -/
import Derived.Test.YtmikbgondjokcaaGreatDoorA5
set_option linter.all false
set_option maxHeartbeats 8000000
open Go.Proofs
open Go renaming Value → ai, TypeId → av, Operand → aB, World → ay, Program → aJ, Oper → aC, Goroutine → ar, Frame → aX, FuncId → aH
open Option renaming some → aa, none → ae
open Bool renaming true → ab, false → af
open List renaming getD_eq_getElem?_getD → aj, range → bc, all_eq_true → bz
open Nat renaming beq → aw, ble → bD
open Go.Proofs.Tryz renaming prog → ag
namespace Go.AM
variable {n:Nat}{k:Int}{l b i j:Nat}{E:av}{H:ai->(Nat->Option Obj)->Prop}{L:Array Bool}{M:Mem}{N:Nat}{P:aJ}{S:ar->St->Prop}{c:Code}{g:ar}{o:aC}{s:St}{t:av}{v:ai}{w:ay}{x y:aB}{α:Type}{η:aB->D}{ι:Type}{σ:List bg}{φ:Fr}{all:List aC}{jU:Array av}{cap:List C}{cv:List D}{cs:List aX}{ds:List (Nat×Bool)}{es:Nat->List C}{fo:aB}{ks:List Nat}{obs:List Prop}{off:Nat}{op:BinOp}{ops:Array aC}{ps:List Prop}{rest:List aC}{s':St}{ty:av}{val:Nat->Nat->ai}{vs:List ai}{w':ay}{xs:Array aB}{σ' σs:List bg}{res:ι->D}{σ1:ι->List bg}
variable {CT:List (Nat×dJ)}{K:List It}{Qf:Post}{T:List (Nat×TI)}{ie:TI}
namespace R1
section
variable {X:Cx ag}
abbrev tM:=Int×Int
def gD(h:tM):Bool:=decide (1<=h.1/\h.1<=2)&&decide (1<=h.2/\h.2<=20)
def kz(l:List tM):Bool:=(bc l.length).all (λi=>gD (l.getD i (0,0)))&&decide (l.length<=9)
abbrev dHd(h:tM):D:=.e (.agg [.c (.int .i64 h.1),.c (.int .i64 h.2)])
def Jp(h:tM):Ev X 107 [dHd h] [] (dB (gD h)) []:=by
 refine Ev.bQ Tryz.func107 rfl λb=>?_;have a:bH X [(22,DI)]:=.cons Gd .nil;by_cases c:1<=h.1/\h.1<=2
 .exact aU a [(6,ab)] rfl (by simp[c]) (AK.bC rfl (by simp[gD,c]))
 .exact aU a [(6,af)] rfl (by simp;omega) (AK.bC rfl (by simp only[au,gD,iM c];simp))
def Jq(l:List tM):Ev X 57 [cH.sl l] [] (dB (kz l)) []:=by
 refine Ev.bQ Tryz.func57 rfl λf=>?_;have e:=f.sl 0 rfl;have b:bH X [(107,kD U8 (λh=>dB (gD h)) λ_=>[])]:=.cons (.pF λh _=>Jp h) .nil;refine ck b rfl ak ?_;unfold kz;refine AK.kq (λi=>i<=l.length/\∀j,j<i->gD (l.getD j (0,0))=ab) (λi:Nat=>[(0,cH.sl l),(3,dI i)]) (λ_=>[]) (λi=>l.length-i) 0 rfl (by simp) rfl ak ⟨by omega,by omega⟩ ?_;rintro i ⟨hi,a⟩;by_cases h:i<l.length
 .have d:l.getD i cH.b8=l.getD i (0,0):=rfl;cases c:gD (l.getD i (0,0))with
  |false =>
   refine aU b [(7,ab),(15,ab)] rfl ?_ (AK.iC (cz.zero rfl ?_))
   .simp[-aj,d,c,h]
   .rw[ja h c];simp
  |true =>
   refine aU b [(7,ab),(15,af)] rfl ?_ (AK.gg (i+1) rfl (by simp) rfl ak ⟨h,ky a c⟩ (by omega));simp[-aj,d,c,h,bE];omega
 .obtain rfl:i=l.length:=by omega
  refine aU b [(7,af)] rfl (by simp) (AK.leave rfl rfl ?_);exact ck b rfl ak (AK.bC rfl (by rw[dy.2 a];simp;omega))
abbrev tN:dJ:=kD (aL cH) (λl=>dB (kz l)) λ_=>[]
def Qp:eh X 57 tN:=.pF λl _=>Jq l
def bx(ps:List bG):List Int:=ps.flatMap λp=>p.2.map (·.1)
def Eb(f:α->Int)(d:α)(l:List α)(i:Nat):Bool:=i==0||decide (f (l.getD (i-1) d)<f (l.getD i d))
def mM(k:Int)(ps:List bG)(i:Nat):Bool:=gB k (ps.getD i (0,[]))&&Eb (·.1) (0,[]) ps i
def kA(k:Int)(s:bd)(i:Nat):Bool:=decide (1<=(s.2.1.getD i (0,[])).1/\(s.2.1.getD i (0,[])).1<=20)&&Eb (·.1) (0,[]) s.2.1 i&&(cd k (s.2.1.getD i (0,[])) s.1).isSome
def fa(k:Int)(s:bd):Bool:=(bc s.1.length).all (mM k s.1)&&decide (bx s.1).Nodup&&(bc s.2.1.length).all (kA k s)&&b5 k&&kz s.2.2&&decide (s.1.length<=20)
def yF{ps:List bG}(h:i<ps.length):bx (ps.take (i+1))=bx (ps.take i)++(ps.getD i (0,[])).2.map (·.1):=by rw[bU h (0,[])];simp[bx]
def Jr{ps:List bG}(h:¬(bx (ps.take i)).Nodup):¬(bx ps).Nodup:=λa=>h (by
 have:bx ps=bx (ps.take i)++bx (ps.drop i):=by unfold bx;grind[List.take_append_drop]
 grind)
abbrev RQ(s:bd):bg:=.cells 27 [.c (.sl af 2 s.1.length (cP.fn s.1)),.c (.sl af 2 s.2.1.length (eX.fn s.2.1)),.c (.sl af 2 s.2.2.length (cH.fn s.2.2))]
def MW(k:Int)(s:bd)(x:ff)(c:x.2.length<=4000000)(a:∀y∈x.2,y.2.length<=4000000):Ev X 55 [dI k,oY s,Ox x] [] (dB (cd k x s.1).isSome) []:=by
 refine Ev.bQ Tryz.func55 rfl λd=>?_;have b:bH X [(106,yE)]:=.cons Gk .nil;have e:(x.1,cL.list x.2.length (cL.fn x.2))=x:=by rw[cL.list_fn]
 refine ck b rfl ?_ (AK.bC rfl ?_)
 .simp only[au,cL.list_fn,cL.aK,cP.aK,c,aF,aD];exact a
 .simp[cL.list_fn,cP.list_fn]
abbrev MX:dJ:=FV aI RM (FZ cL) (λk s x=>dB (cd k x s.1).isSome) λ_ _ x=>[x.2.length<=4000000,∀y∈x.2,y.2.length<=4000000]
def Uf:eh X 55 MX:=.LU λk s x h=>MW k s x h.1 h.2
def rq{f:α->Int}{d:α}{l:List α}(h:i≠0):Eb f d l i=decide (f (l.getD (i-1) d)<f (l.getD i d)):=by unfold Eb;grind
def Ec(k:Int)(s:bd)(M:mJ s)(R:s.1.length<=4000000)(P:s.2.1.length<=4000000):Ev X 21 [dI k,oY s] [] (dB (fa k s)) []:=by
 refine Ev.bQ Tryz.func21 rfl λN=>?_;have c:bH X [(53,D8),(54,R7),(22,DI),(55,MX),(56,D5),(57,tN)]:=.cons MQ (.cons Xa (.cons Gd (.cons Uf (.cons H3 (.cons Qp .nil)))));refine aU c [(1000002,ab)] rfl ak ?_;refine AK.iW 5 3 1 rfl rfl ?_;refine ck c rfl ak ?_;unfold fa;refine AK.cJ 2 (λi=>i<=s.1.length/\(∀j,j<i->mM k s.1 j=ab)/\(bx (s.1.take i)).Nodup/\(bx (s.1.take i)).length<=4*i) (λi:Nat=>[(0,dI k),(3,.e (.one (.ptr 0 0))),(5,.e (.one (.vec 1 1 (bx (s.1.take i)).length (cI.fn (bx (s.1.take i)))))),(6,dI i)]) (λi=>[RQ s,.vec 3 1 (bx (s.1.take i)).length (cI.fn (bx (s.1.take i)))]) (λi=>s.1.length-i) 0 rfl (by simp[bx]) rfl (by simp[bx]) rfl ⟨by omega,by omega,by simp[bx],by simp[bx]⟩ ?_;rintro i ⟨hi,g,y,L⟩;by_cases h:i<s.1.length
 .have v:=yF h;have D:=Jr (ps:=s.1) (i:=i+1);have m:s.1.getD i cP.b8=s.1.getD i (0,[]):=rfl;have n:s.1.getD (i-1) cP.b8=s.1.getD (i-1) (0,[]):=rfl;have b:mM k s.1 i=(gB k (s.1.getD i (0,[]))&&Eb (·.1) (0,[]) s.1 i):=rfl;have C:=rq (f:=λp:bG=>p.1) (d:=(0,[])) (l:=s.1) (i:=i);generalize E:s.1.getD i (0,[])=p at *;generalize s.1.getD (i-1) (0,[])=p' at *;cases t:gB k p with
  |false =>
   rw[t,sT]at b;refine aU c [(14,ab),(25,ab),(44,ab)] rfl ?_ (AK.fR (cz.zero rfl ?_))
   .simp[-aj,m,t,ei.list_fn,ei.aK,h]
   .rw[ja h b];simp
  |true =>
   have Q:p.2.length<=4:=by grind[qp]
   rw[t,fP]at b;cases u:Eb (·.1) (0,[]) s.1 i with
   |false =>
    have r:i≠0:=by rintro rfl;cases u
    have B:¬p'.1<p.1:=by grind
    refine aU c [(14,ab),(25,af),(28,ab),(42,ab),(44,ab)] rfl ?_ (AK.fR (cz.zero rfl ?_))
    .simp[-aj,m,n,t,ei.list_fn,ei.aK,h,bE];omega
    .rw[ja h (b.trans u)];simp
   |true =>
   rw[u]at b;apply AK.join [(0,dI k),(3,.e (.one (.ptr 0 0))),(5,.e (.one (.vec 1 1 (bx (s.1.take i)).length (cI.fn (bx (s.1.take i)))))),(6,dI i),(7,dI 0)] [RQ s,.vec 3 1 (bx (s.1.take i)).length (cI.fn (bx (s.1.take i)))]
   .intro x;by_cases r:i=0
    .subst r;refine aU c [(14,ab),(25,af),(28,af),(44,af)] rfl ?_ (x _ _ rfl ?_)
     .simp[-aj,m,t,ei.list_fn,ei.aK,h]
     .simp
    .have B:p'.1<p.1:=by grind
     refine aU c [(14,ab),(25,af),(28,ab),(42,af),(44,af)] rfl ?_ (x _ _ rfl ?_)
     .simp[-aj,m,n,t,ei.list_fn,ei.aK,h,bE];omega
     .simp
   generalize bx (s.1.take i)=ns at *;refine AK.cJ 2 (λj=>j<=p.2.length/\(ns++(p.2.take j).map (·.1)).Nodup) (λj:Nat=>[(0,dI k),(3,.e (.one (.ptr 0 0))),(5,.e (.one (.vec 1 1 (ns++(p.2.take j).map (·.1)).length (cI.fn (ns++(p.2.take j).map (·.1)))))),(6,dI i),(7,dI j)]) (λj=>[RQ s,.vec 3 1 (ns++(p.2.take j).map (·.1)).length (cI.fn (ns++(p.2.take j).map (·.1)))]) (λj=>p.2.length-j) 0 rfl (by simp) rfl (by simp) rfl ⟨by omega,by grind⟩ ?_;rintro j ⟨O,F⟩;by_cases o:j<p.2.length
   .have A:p.2.getD j ei.b8=ij p j:=rfl;have z:ns++(p.2.take (j+1)).map (·.1)=(ns++(p.2.take j).map (·.1))++[(ij p j).1]:=by grind[bU]
    have w:(ns++(p.2.take j).map (·.1)).length=ns.length+j:=by grind
    generalize ns++(p.2.take j).map (·.1)=a at *;cases I:a.contains (ij p j).1 with
    |true =>
     refine aU c [(53,ab),(67,ab)] rfl ?_ (AK.fR (AK.tw (cz.zero rfl ?_)))
     .simp[-aj,-List.contains_eq_mem,m,A,h,o,I,cI.list_fn,cI.aK]
     .have K:¬(bx s.1).Nodup:=D (by
       have e:ns++p.2.map (·.1)=(ns++(p.2.take (j+1)).map (·.1))++(p.2.drop (j+1)).map (·.1):=by grind[List.take_append_drop]
       grind)
      simp[K]
    |false =>
     have H:=cI.cD a (ij p j).1;have G:cI.list (ns.length+j) (cI.fn a)=a:=by rw[<-w];exact cI.list_fn a
     refine aU c [(53,ab),(67,af)] rfl ?_ (AK.aQ (j+1) rfl ?_ ?_ ⟨o,?_⟩ (by omega))
     .simp[-aj,-List.contains_eq_mem,m,A,h,o,I,cI.list_fn,cI.aK,w,G,bE,show i3.bytes=8 from rfl];omega
     .rw[z];simp only[au.cat,au,b9,m,A,cW,iK,aF,aD];and_intros<;>first|exact cE.same|exact H|rfl|omega
     .rw[z];simp only[au.cat,au,b9,m,A,cW,iK,aF,aD];and_intros<;>first|exact cE.same|exact H|rfl|omega
     grind
   .obtain rfl:j=p.2.length:=by omega
    rw[dt]at F⊢;refine aU c [(53,af)] rfl ?_ (AK.leaveD rfl rfl ?_)
    .simp[-aj,m,h]
    refine ck c rfl ?_ (AK.aQ (i+1) rfl ?_ ?_ ⟨h,ky g b,by grind,by grind⟩ (by omega))
    .simp[bE];omega
    .rw[v];simp
    .rw[v];simp
 obtain rfl:i=s.1.length:=by omega
 rw[dt]at y⊢;refine aU c [(14,af)] rfl (by simp) (AK.leaveD rfl rfl ?_);refine ck c rfl ak ?_;rw[dy.2 g,de y,fP,fP];generalize bx s.1=ns;refine AK.cJ 2 (λi=>i<=s.2.1.length/\(∀j,j<i->kA k s j=ab)) (λi:Nat=>[(0,dI k),(3,.e (.one (.ptr 0 0))),(8,dI i)]) (λ_=>[RQ s,.vec 3 1 ns.length (cI.fn ns)]) (λi=>s.2.1.length-i) 0 rfl (by simp) rfl (by simp) rfl ⟨by omega,by omega⟩ ?_;rintro i ⟨hi,g⟩;by_cases h:i<s.2.1.length
 .have m:s.2.1.getD i eX.b8=s.2.1.getD i (0,[]):=rfl;have n:s.2.1.getD (i-1) eX.b8=s.2.1.getD (i-1) (0,[]):=rfl;have q:=M _ (ml (d:=(0,[])) h);have b:kA k s i=(decide (1<=(s.2.1.getD i (0,[])).1/\(s.2.1.getD i (0,[])).1<=20)&&Eb (·.1) (0,[]) s.2.1 i&&(cd k (s.2.1.getD i (0,[])) s.1).isSome):=rfl;have C:=rq (f:=λp:ff=>p.1) (d:=(0,[])) (l:=s.2.1) (i:=i);generalize E:s.2.1.getD i (0,[])=p at *;generalize s.2.1.getD (i-1) (0,[])=p' at *;by_cases c1:1<=p.1/\p.1<=20
  rotate_left
  .refine aU c [(85,ab),(96,ab),(116,ab),(126,ab)] rfl ?_ (AK.fR (cz.zero rfl ?_))
   .simp[-aj,m,h];omega
   .rw[ja h (by grind)];simp
  cases u:Eb (·.1) (0,[]) s.2.1 i with
  |false =>
   have r:i≠0:=by rintro rfl;cases u
   have B:¬p'.1<p.1:=by grind
   refine aU c [(85,ab),(96,af),(99,ab),(113,ab),(116,ab),(126,ab)] rfl ?_ (AK.fR (cz.zero rfl ?_))
   .simp[-aj,m,n,h,c1,bE];omega
   .rw[ja h (by grind)];simp
  |true =>
   rw[de c1,u,fP,fP]at b;cases o:(cd k p s.1).isSome with
   |false =>
    by_cases r:i=0
    .subst r;refine aU c [(85,ab),(96,af),(99,af),(116,af),(126,ab)] rfl ?_ (AK.fR (cz.zero rfl ?_))
     .simp[-aj,m,h,c1,cL.list_fn,cL.aK,cP.list_fn,cP.aK,eX.aK,cH.aK,o,q.1];grind
     .rw[ja h (b.trans o)];simp
    .have B:p'.1<p.1:=by grind
     refine aU c [(85,ab),(96,af),(99,ab),(113,af),(116,af),(126,ab)] rfl ?_ (AK.fR (cz.zero rfl ?_))
     .simp[-aj,m,n,h,c1,bE,cL.list_fn,cL.aK,cP.list_fn,cP.aK,eX.aK,cH.aK,o,q.1];and_intros<;>first|omega|grind
     .rw[ja h (b.trans o)];simp
   |true =>
    rw[o]at b;by_cases r:i=0
    .subst r;refine aU c [(85,ab),(96,af),(99,af),(116,af),(126,af)] rfl ?_ (AK.aQ 1 rfl (by simp) (by simp) ⟨h,ky g b⟩ (by omega));simp[-aj,m,h,c1,bE,cL.list_fn,cL.aK,cP.list_fn,cP.aK,eX.aK,cH.aK,o,q.1];grind
    .have B:p'.1<p.1:=by grind
     refine aU c [(85,ab),(96,af),(99,ab),(113,af),(116,af),(126,af)] rfl ?_ (AK.aQ (i+1) rfl (by simp) (by simp) ⟨h,ky g b⟩ (by omega));simp[-aj,m,n,h,c1,bE,cL.list_fn,cL.aK,cP.list_fn,cP.aK,eX.aK,cH.aK,o,q.1];and_intros<;>first|omega|grind
 obtain rfl:i=s.2.1.length:=by omega
 refine aU c [(85,af)] rfl (by simp) (AK.leaveD rfl rfl ?_);rw[dy.2 g,fP];cases hk:b5 k
 .exact aU c [(129,af),(134,af)] rfl (by simp[hk]) (AK.bC rfl)
 cases J:kz s.2.2
 .exact aU c [(129,ab),(134,af)] rfl (by simp[hk,J,cH.list_fn,cH.aK]) (AK.bC rfl)
 exact aU c [(129,ab),(134,ab)] rfl (by simp[hk,J,cH.list_fn,cH.aK]) (AK.bC rfl (by simp;omega))
abbrev Ag:dJ:=pv aI RM (λk s=>dB (fa k s)) λ_ s=>[mJ s,s.1.length<=4000000,s.2.1.length<=4000000]
def Js:eh X 21 Ag:=.sI λk s h=>Ec k s h.1 h.2.1 h.2.2
def qm{α:Type}(c:mS α)(l:List α)(x y:α):cE (l.length+1+1) (cM (l.length+1) (cM l.length (c.fn l) λq=>[c.enc x].getD q []) λq=>[c.enc y].getD q []) (c.fn (l++[x,y])):=c.qm l x y
def tO(l:List ff):List Int:=l.flatMap λx=>wO x.2
structure SmS(s:bd):Prop where
 pN:s.1.length<=4000000
 sm:mJ s
 sN:s.2.1.length<=4000000
 aN:(tO s.2.1).length<=4000000
def JP(n:Int):Ev X 90 [dI n] [] (dB (decide (0<=n)&&decide (n<999999999989))) []:=by
 refine Ev.bQ Tryz.func90 rfl λa=>?_;by_cases h:0<=n
 .exact aW [(5,ab)] rfl (by simp[h]) (AK.bC rfl (by simp[h]))
 .exact aW [(5,af)] rfl (by simp[h]) (AK.bC rfl (by simp[h]))
def GS(a b:Int):Ev X 39 [QN a b] [] (dB (eB (a,b))) []:=by
 refine Ev.bQ Tryz.func39 rfl λe=>?_;have d:bH X [(90,kD aI (λn=>dB (decide (0<=n)&&decide (n<999999999989))) λ_=>[])]:=.cons (.pF λn _=>JP n) .nil;unfold eB;cases h:(decide (0<=a)&&decide (a<999999999989))with
 |false=>exact aU d [(6,af),(11,af)] rfl (by simp[h]) (AK.bC rfl)
 |true =>
  by_cases c:1<=b
  .exact aU d [(6,ab),(11,ab)] rfl (by simp[h,c]) (AK.bC rfl (by simp[c]))
  .exact aU d [(6,ab),(11,af)] rfl (by simp[h,c]) (AK.bC rfl (by simp[c]))
abbrev GU:dJ:=kD U8 (λs=>dB (eB s)) λ_=>[]
def Oi:eh X 39 GU:=.pF λs _=>GS s.1 s.2
def Ar(l:List (Int×Int)):∀t:Tr,Tr.Ok t->(l.foldl (λt x=>t.put x.1 x.2) t).list=l.foldl fU t.list/\Tr.Ok (l.foldl (λt x=>t.put x.1 x.2) t):=by
 induction l with
 |nil=>grind
 |cons x r a =>
  grind[yN,Qs]
def vL(l:List bG)(F:l.length<=4000000)(E:(cZ l).length<=100000):Ev X 11 [cP.sl l] [] (cH.sl (indexOf l)) []:=by
 refine Ev.bQ Tryz.func11 rfl λB=>?_;have d:bH X [(39,GU)]:=.cons Oi .nil;refine cG d rfl ak ?_;refine AK.iW 3 84 2 rfl rfl ?_;refine AK.cJ 1 (λi=>i<=l.length/\(cZ (l.take i)).all eB=ab) (λi:Nat=>[(3,.e (.one (.vec 0 2 (cZ (l.take i)).length (cH.fn (cZ (l.take i)))))),(9,cP.sl l),(10,dI l.length),(11,dI i)]) (λi=>[Cy (cZ (l.take i))]) (λi=>l.length-i) 0 rfl ?_ rfl ?_ rfl ⟨by omega,rfl⟩ ?_
 .simp[cZ]
 .simp[cZ]
 rintro i ⟨hi,a⟩;by_cases h:i<l.length
 .have t:l.getD (i:Int).toNat cP.b8=l.getD i (0,[]):=by grind
  have s:=sx h;refine bm d [(12,ab)] rfl (by simp only[au,a9];omega) ?_;refine AK.cJ 2 (λj=>j<=(l.getD i (0,[])).2.length/\(kX l i j).all eB=ab) (λj:Nat=>[(3,.e (.one (.vec 0 2 (kX l i j).length (cH.fn (kX l i j))))),(5,.e (.one (.ptr 1 0))),(9,cP.sl l),(10,dI l.length),(11,dI i),(16,ei.sl (l.getD i (0,[])).2),(17,dI (l.getD i (0,[])).2.length),(18,dI j)]) (λj=>[Cy (kX l i j),.cells 46 [.c (.int .i64 (l.getD i (0,[])).1),.c (.sl af 2 (l.getD i (0,[])).2.length (ei.fn (l.getD i (0,[])).2))]]) (λj=>(l.getD i (0,[])).2.length-j) 0 rfl ?_ rfl ?_ rfl ⟨by omega,by simpa[kX]using a⟩ ?_
  .simp only[kX,List.take_zero,iw,t,au.cat,au,aF,aD];and_intros<;>first|exact cE.same|rfl|omega
  .simp only[kX,List.take_zero,iw,t,au.cat,au,aF,aD];and_intros<;>first|exact cE.same|rfl|omega
  rintro j ⟨D,f⟩;obtain⟨r,A⟩:=tI (l:=l) (j:=j) h;have q:(kX l i j).length<=100000:=by grind
  have v:(l.getD i (0,[])).2.length<=100000:=by grind[DL]
  by_cases C:j<(l.getD i (0,[])).2.length
  .have b:(l.getD i (0,[])).2.getD (j:Int).toNat ei.b8=(l.getD i (0,[])).2.getD j (0,[]):=by grind
   have g:kX l i (j+1)=kX l i j++[(((l.getD i (0,[])).2.getD j (0,[])).1,(l.getD i (0,[])).1)]:=by unfold kX;rw[mm];congr 1;rw[bU (by grind) (0,0)];grind
   have k:=cH.cD (kX l i j) (((l.getD i (0,[])).2.getD j (0,[])).1,(l.getD i (0,[])).1);cases n:eB (((l.getD i (0,[])).2.getD j (0,[])).1,(l.getD i (0,[])).1)with
   |false =>
    have z:indexOf l=[]:=by obtain⟨r,A⟩:=tI (l:=l) (j:=j+1) h;unfold indexOf;rw[aY];grind
    refine bm d [(19,ab),(29,ab)] rfl ?_ (AK.fR (cz.zero rfl ?_))
    .simp only[au,b,n,a9,aF,aD];and_intros<;>first|rfl|omega
    .rw[z];simp
   |true =>
    refine bm d [(19,ab),(29,af)] rfl ?_ (AK.aQ (j+1) rfl ?_ ?_ ?_ ?_)
    .simp only[au,b,n,bE,show i84.bytes=16 from rfl,a9,aF,aD];and_intros<;>first|rfl|omega
    .rw[g];simp only[cW,iK,au.cat,au,b,aF,aD];and_intros<;>first|exact k|exact cE.same|rfl|omega
    .rw[g];simp only[cW,iK,au.cat,au,b,aF,aD];and_intros<;>first|exact k|exact cE.same|rfl|omega
    .grind
    .omega
  .have y:j=(l.getD i (0,[])).2.length:=by omega
   have m:kX l i j=cZ (l.take (i+1)):=by rw[s,kX];grind[List.length_map]
   refine bm d [(19,af)] rfl ?_ (AK.leaveD rfl rfl ?_)
   .simp only[au,bR];grind
   rw[m];refine cG d rfl ?_ (AK.aQ (i+1) rfl ?_ ?_ ⟨h,m▸f⟩ (by omega))
   .simp only[au,bE,aD];omega
   .simp
   .simp
 .obtain rfl:i=l.length:=by omega
  rw[dt]at a⊢;refine bm d [(12,af)] rfl (by simp) (AK.leaveD rfl rfl ?_);refine AK.Bn (φ':=[(3,cH.sl (cZ l))]) (σ':=[Cy (cZ l)]) ?_ rfl (by simp) rfl (by simp);have o:∀x∈cZ l,bE .i64 x.1/\bE .i64 x.2:=λx u=>by have:=bz.1 a x u;simp only[eB,bM,a9]at this;simp only[bE];omega
  have c2:bH X [(34,sr [Sd (cZ l)] (.e (.one (.c (tC (ph (cZ l)))))))]:=.cons (uG (As (cZ l) (by omega) o)) .nil;have hT:(ph (cZ l)).list=indexOf l:=by unfold indexOf;rw[bo a];exact(Ar (cZ l) .nil (by simp[Tr.Ok,Tr.list])).1
  have p:(indexOf l).length<=100000:=by have:=uN (cZ l) [];unfold indexOf;grind
  rw[<-hT]at p⊢;clear hT;generalize ph (cZ l)=T at *;have w:=EG (X:=X) T (by omega)
  cases T<;>(
   refine cG c2 rfl rfl ?_;refine AK.jB w.sH [] rfl rfl rfl rfl (by simp[tC]) rfl rfl rfl (λ_=>rfl) rfl (λ_=>rfl) rfl λ_=>?_
   exact cG c2 rfl ak (AK.bC rfl))
def qw(l:List Bs)(v:Bs):Int:=match l.findIdx? (λx=>x==v)with
 |some i=>i
 |none=>-1
def JQ{l:List Bs}{v:Bs}(hi:i<l.length)(h:∀j,j<i->l.getD j []≠v)(b:l.getD i []=v):qw l v=i:=by
 have:l.findIdx? (λx=>x==v)=aa i:=by rw[rQ];refine⟨hi,by grind,λj a=>?_⟩;grind
 simp only[qw,this]
def JR{l:List Bs}{v:Bs}(h:∀j,j<l.length->l.getD j []≠v):qw l v=-1:=by
 have:l.findIdx? (λx=>x==v)=ae:=by grind[List.getElem_of_mem]
 simp only[qw,this]
def GV(l:List Bs)(v:Bs):decide (0<=qw l v)=l.contains v:=by unfold qw;grind
def JS(l:List Bs)(v:Bs):Ev X 89 [cS.sl l,dS v] [] (dI (qw l v)) []:=by
 refine Ev.bQ Tryz.func89 rfl λd=>?_;have f:=d.sl 0 rfl;refine bu rfl ak ?_;refine AK.cJ 0 (λi=>i<=l.length/\∀j,j<i->l.getD j []≠v) (λi:Nat=>[(0,cS.sl l),(1,dS v),(7,dI l.length),(8,dI i)]) (λ_=>[]) (λi=>l.length-i) 0 rfl (by simp) rfl ak rfl ⟨by omega,by omega⟩ ?_;rintro i ⟨hi,a⟩;by_cases h:i<l.length
 .have c:l.getD (i:Int).toNat cS.b8=l.getD i []:=rfl;by_cases b:l.getD i []=v
  .rw[JQ h a b];refine aW [(9,ab),(16,ab)] rfl ?_ (AK.fR (cz.zero rfl));simp only[au,c,a9,gw,aF,aD];and_intros<;>first|exact b.symm|omega
  .refine aW [(9,ab),(16,af)] rfl ?_ (AK.aQ (i+1) rfl ?_ ak ⟨h,λj e=>?_⟩ (by omega))
   .simp only[au,c,bE,a9,eF,aF,aD];and_intros<;>first|grind|omega
   .simp
   grind
 .rw[JR λj e=>a j (by omega)];refine aW [(9,af)] rfl (by simp only[au,bR];omega) (AK.leaveD rfl rfl ?_);exact bu rfl ak (AK.bC rfl)
abbrev Q8:dJ:=pv (aL cS) aS (λl v=>dI (qw l v)) λ_ _=>[]
def JU(l:List Bs)(v:Bs):Ev X 38 [cS.sl l,dS v] [] (dB (l.contains v)) []:=by refine Ev.bQ Tryz.func38 rfl λb=>?_;have a:bH X [(89,Q8)]:=.cons (.sI λl v _=>JS l v) .nil;refine ck a rfl (by simp only[au];exact cS.aK _) (AK.bC rfl ?_);simp only[au,cS.list_fn,aD];exact GV l v
abbrev Ig:dJ:=pv (aL cS) aS (λl v=>dB (l.contains v)) λ_ _=>[]
def QP:eh X 38 Ig:=.sI λl v _=>JU l v
def sD(l:List cm)(i:Nat):Bool:=(bc i).all λj=>eB (l.getD j (0,0))&&(j==0||decide ((l.getD (j-1) (0,0)).1<(l.getD j (0,0)).1))
theorem EO{l:List cm}:sD l (i+1)=(sD l i&&(eB (l.getD i (0,0))&&(i==0||decide ((l.getD (i-1) (0,0)).1<(l.getD i (0,0)).1)))):=by unfold sD;rw[List.range_succ,List.all_append];simp
def Ay{l:List cm}(h:sD l i=af):∀n,i<=n->sD l n=af:=by
 intro n a;obtain⟨k,rfl⟩:=Nat.exists_eq_add_of_le a;induction k with
 |zero=>exact h
 |succ k b=>grind[EO]
def ED(l:List cm):Ev X 33 [cH.sl l] [] (dB (sD l l.length)) []:=by
 refine Ev.bQ Tryz.func33 rfl λg=>?_;have m:=g.sl 0 rfl;have a:bH X [(39,GU)]:=.cons Oi .nil;refine ck a rfl ak ?_;refine AK.cJ 0 (λi=>i<=l.length/\sD l i=ab) (λi:Nat=>[(0,cH.sl l),(5,cH.sl l),(6,dI l.length),(7,dI i)]) (λ_=>[]) (λi=>l.length-i) 0 rfl (by simp) rfl ak rfl ⟨by omega,rfl⟩ ?_;rintro i ⟨hi,b⟩;by_cases h:i<l.length
 .have f:=EO (l:=l) (i:=i);rw[b,fP]at f;have d:l.getD (i:Int).toNat cH.b8=l.getD i (0,0):=rfl;cases c:eB (l.getD i (0,0))with
  |false =>
   rw[Ay (i:=i+1) (by grind) l.length (by omega)];refine aU a [(8,ab),(14,ab),(29,ab)] rfl ?_ (AK.fR (cz.zero rfl));simp only[au,d,c,a9,aF,aD];and_intros<;>first|rfl|omega
  |true =>
  rw[c,fP]at f;by_cases j:i=0
  .subst j;refine aU a [(8,ab),(14,af),(17,af),(29,af)] rfl ?_ (AK.aQ 1 rfl (by simp) ak ⟨h,f⟩ (by omega));simp only[au,d,c,bE,a9,bR,aF,aD];and_intros<;>first|rfl|omega
  have e:l.getD ((i:Int)-1).toNat cH.b8=l.getD (i-1) (0,0):=by rw[show((i:Int)-1).toNat=i-1 by omega];rfl
  by_cases k:(l.getD (i-1) (0,0)).1<(l.getD i (0,0)).1
  .refine aU a [(8,ab),(14,af),(17,ab),(29,af)] rfl ?_ (AK.aQ (i+1) rfl (by simp) ak ⟨h,by grind⟩ (by omega));simp only[au,d,e,c,bE,a9,bR,aF,aD];and_intros<;>first|rfl|omega
  .rw[Ay (i:=i+1) (by grind) l.length (by omega)];refine aU a [(8,ab),(14,af),(17,ab),(29,ab)] rfl ?_ (AK.fR (cz.zero rfl));simp only[au,d,e,c,bE,a9,aF,aD];and_intros<;>first|rfl|omega
 .obtain rfl:i=l.length:=by omega
  rw[b];refine aU a [(8,af)] rfl (by simp) (AK.leaveD rfl rfl ?_);exact ck a rfl ak (AK.bC rfl)
def Jd(l:List Int):Ev X 84 [cI.sl l,cI.sl l] [] (dB ab) []:=by
 refine Ev.bQ Tryz.func84 rfl λa=>?_;have b:=a.sl 0 rfl;refine aW [(10,af)] rfl (by simp) ?_;refine AK.cJ 0 (λi=>i<=l.length) (λi:Nat=>[(0,cI.sl l),(1,cI.sl l),(5,dI i)]) (λ_=>[]) (λi=>l.length-i) 0 rfl (by simp) rfl (by simp) rfl (by omega) ?_;intro i hi;by_cases h:i<l.length
 .refine bO [(14,ab),(25,af)] rfl ?_ (AK.aQ (i+1) rfl ?_ ?_ ?_ ?_)
  .simp only[au,bE,j1,kM,oA,a9,aF,aD];and_intros<;>omega
  .simp
  .simp
  .grind
  .omega
 .refine bO [(14,af)] rfl (by simp;omega) (AK.leaveD rfl rfl ?_);exact dk rfl ak (AK.bC rfl)
abbrev WZ:dJ:=pv (aL cI) (aL cI) (λ_ _=>dB ab) λa b=>[b=a]
def aab:eh X 84 WZ:=.sI λa b h=>by have:b=a:=h;subst this;exact Jd _
def MC(l:List (Int×Int)):Ev X 29 [cH.sl l,cH.sl l] [] (dB ab) []:=by
 refine Ev.bQ Tryz.func29 rfl λa=>?_;have b:=a.sl 0 rfl;refine aW [(10,af)] rfl (by simp) ?_;refine AK.cJ 0 (λi=>i<=l.length) (λi:Nat=>[(0,cH.sl l),(1,cH.sl l),(5,dI i)]) (λ_=>[]) (λi=>l.length-i) 0 rfl (by simp) rfl (by simp) rfl (by omega) ?_;intro i hi;by_cases h:i<l.length
 .refine bO [(14,ab),(25,af)] rfl ?_ (AK.aQ (i+1) rfl ?_ ?_ ?_ ?_)
  .simp[bE,h];omega
  .simp
  .simp
  .grind
  .omega
 .refine bO [(14,af)] rfl (by simp;omega) (AK.leaveD rfl rfl ?_);exact dk rfl ak (AK.bC rfl)
abbrev W0:dJ:=pv (aL cH) (aL cH) (λ_ _=>dB ab) λa b=>[b=a]
def aac:eh X 29 W0:=.sI λa b h=>by have:b=a:=h;subst this;exact MC _
abbrev pB(p:bG):bg:=.cells 46 [.c (.int .i64 p.1),.c (.sl af 2 p.2.length (ei.fn p.2))]
def Je(p:bG):Ev X 30 [LY p,LY p] [] (dB ab) []:=by
 refine Ev.bQ Tryz.func30 rfl λl=>?_;by_cases q:p.2.length<=9223372036854775807
 .refine aW [(10,af),(18,af)] rfl (by simp) ?_;refine AK.cJ 2 (λi=>i<=p.2.length) (λi:Nat=>[(2,.e (.one (.ptr 0 0))),(3,.e (.one (.ptr 1 0))),(5,dI i)]) (λ_=>[pB p,pB p]) (λi=>p.2.length-i) 0 rfl (by simp) rfl (by simp) rfl (by omega) ?_;intro i hi;by_cases h:i<p.2.length
  .refine bO [(24,ab),(37,af)] rfl ?_ (AK.aQ (i+1) rfl ?_ ?_ ?_ ?_)
   .simp[bE,h];omega
   .simp
   .simp
   .grind
   .omega
  .refine bO [(24,af)] rfl (by simp;omega) (AK.leaveD rfl rfl ?_);exact dk rfl ak (AK.bC rfl)
 .exfalso;obtain⟨s,vs,g,_⟩:=l;obtain⟨n,m⟩:∃v,du [] s v (LY p):=by
   match vs,g with
   |[a,_],g=>exact⟨a,g.1⟩
  obtain⟨k,_,d⟩:=m
  match k,d with
  |[a,c],d =>
   have:=d.2.1;cases(show Rd s.M c (.sl af 2 p.2.length (ei.fn p.2))from this)with
   |sl b off f j o=>omega
abbrev W1:dJ:=pv (FZ ei) (FZ ei) (λ_ _=>dB ab) λa b=>[b=a]
def aad:eh X 30 W1:=.sI λa b h=>by have:b=a:=h;subst this;exact Je _
abbrev sB(p:ff):bg:=.cells 73 [.c (.int .i64 p.1),.c (.sl af 2 p.2.length (cL.fn p.2))]
def Jf(x:ff)(c:x.2.length<=4000000):Ev X 31 [Ox x,Ox x] [] (dB ab) []:=by
 refine Ev.bQ Tryz.func31 rfl λb=>?_;have a:bH X [(84,WZ)]:=.cons aab .nil;refine aU a [(10,af),(18,af)] rfl (by simp) ?_;refine AK.cJ 2 (λi=>i<=x.2.length) (λi:Nat=>[(2,.e (.one (.ptr 0 0))),(3,.e (.one (.ptr 1 0))),(5,dI i)]) (λ_=>[sB x,sB x]) (λi=>x.2.length-i) 0 rfl (by simp) rfl (by simp) rfl (by omega) ?_;intro i hi;by_cases h:i<x.2.length
 .refine bm a [(24,ab),(39,af),(53,ab)] rfl ?_ (AK.aQ (i+1) rfl ?_ ?_ ?_ ?_)
  .simp only[au,bE,j1,kM,oA,a9,aF,aD];and_intros<;>first|exact cI.aK _|omega
  .simp
  .simp
  .grind
  .omega
 .refine bm a [(24,af)] rfl (by simp;omega) (AK.leaveD rfl rfl ?_);exact cG a rfl ak (AK.bC rfl)
abbrev W2:dJ:=pv (FZ cL) (FZ cL) (λ_ _=>dB ab) λa b=>[b=a,b.2.length<=4000000]
def aae:eh X 31 W2:=.sI λa b h=>by obtain⟨rfl,c⟩:b=a/\_:=h;exact Jf _ c
abbrev Qc(s:bd):bg:=.cells 27 [.c (.sl af 2 s.1.length (cP.fn s.1)),.c (.sl af 2 s.2.1.length (eX.fn s.2.1)),.c (.sl af 2 s.2.2.length (cH.fn s.2.2))]
def o0(s:bd)(b:kI s):Ev X 9 [oY s,oY s] [] (dB ab) []:=by
 refine Ev.bQ Tryz.func9 rfl λg=>?_;have a:bH X [(29,W0),(30,W1),(31,W2)]:=.cons aac (.cons aad (.cons aae .nil));have j:=b.p;have d:=b.sn;refine bm a [(13,af),(21,af),(28,ab)] rfl ?_ ?_
 .simp only[au,bE,j1,kM,oA,a9,aF,aD];and_intros<;>first|exact cH.aK _|omega
 refine AK.cJ 2 (λi=>i<=s.1.length) (λi:Nat=>[(2,.e (.one (.ptr 0 0))),(3,.e (.one (.ptr 1 0))),(5,dI i)]) (λ_=>[Qc s,Qc s]) (λi=>s.1.length-i) 0 rfl (by simp) rfl (by simp) rfl (by omega) ?_;intro i hi;by_cases h:i<s.1.length
 .refine bm a [(35,ab),(48,ab)] rfl ?_ (AK.aQ (i+1) rfl ?_ ?_ ?_ ?_)
  .simp only[au,bE,a9,aF,aD];and_intros<;>first|exact ei.aK _|omega
  .simp
  .simp
  .grind
  .omega
 refine bm a [(35,af)] rfl (by simp;omega) (AK.leaveD rfl rfl ?_);refine cG a rfl ak ?_;refine AK.cJ 2 (λi=>i<=s.2.1.length) (λi:Nat=>[(2,.e (.one (.ptr 0 0))),(3,.e (.one (.ptr 1 0))),(6,dI i)]) (λ_=>[Qc s,Qc s]) (λi=>s.2.1.length-i) 0 rfl (by simp) rfl (by simp) rfl (by omega) ?_;intro i hi;by_cases h:i<s.2.1.length
 .have f:=(b.s2 _ (fM h (0,[]))).1;have c:s.2.1.getD (i:Int).toNat eX.b8=s.2.1.getD i (0,[]):=by grind
  refine bm a [(54,ab),(67,ab)] rfl ?_ (AK.aQ (i+1) rfl ?_ ?_ ?_ ?_)
  .simp only[au,bE,c,cL.list_fn,a9,aF,aD];and_intros<;>first|exact cL.aK _|omega
  .simp
  .simp
  .grind
  .omega
 refine bm a [(54,af)] rfl (by simp;omega) (AK.leaveD rfl rfl ?_);exact cG a rfl ak (AK.bC rfl)
end
structure Xc(x:bG):Prop where
 ex:∃no ps,1<=no/\no<=99/\0<ps.length/\ps.length<=4/\(∀q∈ps,bA q=ab)/\x=fT no 7 ps
structure Xd(x:ff):Prop where
 ex:∃no t,1<=no/\no<=20/\cA t=ab/\x=ey no 7 t
structure D7(st:bd):Prop where
 p:∀x∈st.1,Xc x
 pl:st.1.length<=20
 s:∀x∈st.2.1,Xd x
 Eb:st.2.1.Pairwise λa b=>a.1<b.1
 h:∀x∈st.2.2,(1<=x.1/\x.1<=2)/\1<=x.2/\x.2<=20
 hl:st.2.2.length<=9
 Xe:st.1.Pairwise λa b=>a.1<b.1
def dx{t:List bw}(h:cA t=ab):tF t:=by
 obtain⟨k,_,_,n⟩:=lH.1 h;have i:∀f∈t,cf f.2=ab/\f.2.length<=40:=λf d=>by have:=(k f d).2;simp only[ez,bM,a9]at this;grind
 refine⟨by omega,λf d=>⟨(i f d).1,by grind⟩,?_⟩;have:∀l:List bw,(∀f∈l,f.2.length<=40)->(g9 l).length<=40*l.length:=by
  intro l;induction l with
  |nil=>intro _;simp[g9]
  |cons f r m =>
   intro e;have a:=m λg j=>e g (pH _ j);have b:=e f lM;have c:=kY f.2;simp only[g9,sO,cW,fb]at a⊢;omega
 grind
theorem M5(no k:Int)(ps:List Bs):(fT no k ps).2.length=ps.length:=rm k ps
def Xc.len{x:bG}(h:Xc x):1<=x.2.length/\x.2.length<=4:=by obtain⟨no,ps,_,_,b,a,_,rfl⟩:=h.ex;grind[M5]
def Xc.no{x:bG}(h:Xc x):1<=x.1/\x.1<=99:=by obtain⟨no,ps,h1,h2,_,_,_,rfl⟩:=h.ex;exact⟨h1,h2⟩
def Xd.no{x:ff}(h:Xd x):1<=x.1/\x.1<=20:=by obtain⟨no,t,h1,h2,_,rfl⟩:=h.ex;exact⟨h1,h2⟩
def Xd.len{x:ff}(h:Xd x):x.2.length<=6/\∀y∈x.2,y.2.length<=4000000:=by obtain⟨no,t,_,_,b,rfl⟩:=h.ex;have c:=mO b;refine⟨by simpa[ey]using c,λy a=>?_⟩;simp only[ey,gQ]at a;obtain⟨f,d,rfl⟩:=a;have:=((dx b).uc f d).2;have:=kY f.2;simp only[lG,jM];omega
def H7{l:List ff}:∀(a:Int),l.Pairwise (λa b=>a.1<b.1)->(∀x∈l,a<=x.1/\x.1<=20)->(l.length:Int)<=max 0 (21-a):=by
 induction l with
 |nil=>grind
 |cons x r g =>
  intro a f c;obtain⟨i,d⟩:=jL.1 f;have h:=c x lM;have:=g (x.1+1) d λy e=>⟨by grind,(c y (pH _ e)).2⟩
  grind
def D7.sl{s:bd}(h:D7 s):s.2.1.length<=20:=by have:=H7 1 h.Eb λx a=>(h.s x a).no;omega
def D7.size{s:bd}(h:D7 s):kI s:=by have h1:=h.pl;have h2:=h.sl;have c:=h.hl;refine⟨by omega,λp a=>by have:=(h.p p a).len;omega,by omega,λx b=>?_,by omega⟩;have:=(h.s x b).len;grind
def D7.num{s:bd}(h:D7 s):rE s :=
 ⟨λx a=>by have:=(h.p x a).no;omega,λx a=>by have:=(h.s x a).no;omega,λx a=>by have:=(h.h x a).2;omega⟩
def D7.cZ{s:bd}(h:D7 s):(cZ s.1).length<=100000:=by
 have:∀l:List bG,(∀x∈l,x.2.length<=4)->(R1.cZ l).length<=4*l.length:=by
  intro l;induction l with
  |nil=>intro _;simp[R1.cZ]
  |cons f r e =>
   intro hl;have a:=e λg d=>hl g (pH _ d);have b:=hl f lM;simp only[R1.cZ,sO,cW,jM,fb]at a⊢;omega
 have:=this s.1 λx c=>(h.p x c).len.2;have:=h.pl;omega
def D7.nil:D7 ([],[],[]):=⟨by simp,by simp,by simp,by simp,by simp,by simp,by simp⟩
def uT(k:Int):∀(f:Nat) (no:Int)(ps:List Bs),(∀q∈ps,bA q=ab)->∀x∈dA k f no ps,∃a qs,no<=a/\a<no+(dA k f no ps).length/\0<qs.length/\qs.length<=4/\(∀q∈qs,bA q=ab)/\x=fT a k qs
 |0,_,_,_,x,b=>by simp[dA]at b
 |f+1,no,ps,d,x,b=>by
  simp only[dA]at b⊢;split at b
  .rename_i h;rw[bo h];rcases eb.1 b with rfl|b
   .grind
   .obtain⟨a,qs,i,e,g⟩:=uT k f (no+1) (ps.drop 4) (λq c=>d q (oE c)) x b;grind
  grind
def uU{l:List α}(h:l.length≠0)(d:α):l.getD (l.length-1) d∈l:=fM (by omega) d
def D7.cy{s:bd}(h:D7 s):1<=cy s:=by
 unfold R1.cy;split
 .omega
 .rename_i a;have:=(h.p _ (uU a (0,[]))).no;omega
def uV(k:Int):∀(f:Nat) (no:Int)(ps:List Bs),∀x∈dA k f no ps,no<=x.1
 |0,_,_,x,a=>by simp[dA]at a
 |f+1,no,ps,x,a=>by
  simp only[dA]at a;split at a
  .rcases eb.1 a with rfl|a
   .exact sU _
   .have:=uV k f (no+1) (ps.drop 4) x a;omega
  grind
def yL(k:Int):∀(f:Nat) (no:Int)(ps:List Bs),(dA k f no ps).Pairwise λa b=>a.1<b.1
 |0,_,_=>by simp[dA]
 |f+1,no,ps=>by
  simp only[dA];split
  .refine jL.2 ⟨λx c=>?_,yL k f (no+1) (ps.drop 4)⟩;have:=uV k f (no+1) (ps.drop 4) x c;show no<x.1;omega
  .simp
def D7.yM{s:bd}(h:D7 s):∀x∈s.1,x.1<R1.cy s:=by
 unfold R1.cy;split
 .grind
 .rename_i e;intro x c;obtain⟨i,hi,rfl⟩:=dD c;have a:s.1.getD (s.1.length-1) (0,[])=s.1[s.1.length-1]:=by grind
  rw[a];rcases cN i (s.1.length-1)with b|d
  .have:=jG.1 h.Xe i (s.1.length-1) hi (by omega) b;omega
  grind
def D7.tQ{s:bd}(h:D7 s):1<=cq s/\∀x∈s.2.1,x.1<cq s:=by
 have f:=oh s.2.2 h.num.h;unfold cq;split
 .grind
 .rename_i e;refine⟨by omega,λx c=>?_⟩;obtain⟨i,hi,rfl⟩:=dD c;have a:s.2.1.getD (s.2.1.length-1) (0,[])=s.2.1[s.2.1.length-1]:=by grind
  rw[a];rcases cN i (s.2.1.length-1)with b|d
  .have:=jG.1 h.Eb i (s.2.1.length-1) hi (by omega) b;omega
  grind
def D7.save{s:bd}{t:List bw}{by_:Int}(h:D7 s)(m:cA t=ab)(e:1<=by_/\by_<=2)(j:ga 7 s t=af):D7 (cn 7 s by_ t):=by
 simp only[ga,qB,bR]at j;obtain⟨n,r,o,q⟩:=j;have u:=h.cy;obtain⟨g,f⟩:=h.tQ;refine⟨λx c=>?_,by simp only[cn,cW];omega,λx c=>?_,?_,λx c=>?_,by simp only[cn,cW,iK];omega,?_⟩
 .simp only[cn]at c;rcases fz.1 c with c|c
  .exact h.p x c
  .obtain⟨d,qs,a1,a2,a3,a4,a5,a6⟩:=uT 7 _ _ _ (gC (k:=7) (l:=indexOf s.1) (dx m)).1 x c;have a2:d<R1.cy s+(iY 7 s t).length:=a2;exact⟨d,qs,by omega,by omega,a3,a4,a5,a6⟩
 .simp only[cn]at c;rcases fz.1 c with c|c
  .exact h.s x c
  .rw[fO]at c;exact⟨cq s,t,g,by omega,m,c⟩
 .simp only[cn];rw[qA];refine⟨h.Eb,by simp,λa i b e=>?_⟩;rw[fO]at e;subst e;exact f a i
 .simp only[cn]at c;rcases fz.1 c with c|c
  .exact h.h x c
  grind
 .simp only[cn];rw[qA];refine⟨h.Xe,yL _ _ _ _,λa i b e=>?_⟩;have h1:=h.yM a i;have h2:=uV _ _ _ _ b e;omega
def Al{l:List Int}:∀{k:Nat},(lS l k).length=k->∀i,1<=i->i<k->l.getD i 0≠l.getD (i-1) 0
 |0,_,i,_,h=>by omega
 |k+1,h,i,a,c=>by
  have d:=tR l k;rw[lS]at h;split at h
  .omega
  .rename_i b;simp only[cW,iK]at h;by_cases e:i=k
   .grind
   .exact Al (k:=k) (by omega) i a (by omega)
def B7(l:List Int):(px l).Pairwise λx y=>x<=y:=by have:=List.pairwise_mergeSort (le:=λx y:Int=>decide (x<=y)) (λa b c e d=>by grind) (λa b=>by grind) l;exact this.imp λh=>by grind
def Gt(l:List Int):(px l).Perm l:=List.mergeSort_perm _ _
def B4(l:List Int):(eN (px l)).length=l.length↔l.Nodup:=by
 rw[<-mc l,<-(Gt l).nodup_iff];have d:=B7 l;generalize px l=s at *;have b:∀{i:Nat} (h:i<s.length),s.getD i 0=s[i]:=λ{i} h=>by grind
 constructor
 .intro h;have f:=Al h;refine List.Pairwise.imp (R:=λx y=>x<y) (λh e=>by omega) (jG.2 λi j hi hj hij=>?_);have a:=jG.1 d;have c:=f j (by omega) hj;rw[b hj,b (by omega)]at c;have g:=a (j-1) j (by omega) hj (by omega);by_cases e:i=j-1
  .grind
  .have:=a i (j-1) hi (by omega) (by omega);omega
 .intro h;unfold eN;rw[om (bh _),dt];grind[List.pairwise_iff_getElem]
def pb{l:List α}(h:i<l.length)(d:α):l.getD i d=l[i]:=by grind
def B8{f:α->Int}{d:α}{l:List α}:(∀i,i<l.length->Eb f d l i=ab)↔l.Pairwise λx y=>f x<f y:=by
 constructor
 .intro h;have key:∀n i j (hi:i<l.length) (a:j<l.length),j=i+n->0<n->f l[i]<f l[j]:=by
   intro n;induction n with
   |zero=>grind
   |succ n g =>
    intro i j hi a b _;have c:=h j a;rw[rq (by omega),decide_eq_true_iff,pb (by omega),pb a]at c;by_cases e:n=0
    .subst e;grind
    grind
  exact jG.2 λi j hi a b=>key (j-i) i j hi a (by omega) (by omega)
 .intro h i hi;by_cases e:i=0
  .subst e;rfl
  .rw[rq e,decide_eq_true_iff,pb (by omega),pb hi];exact(jG.1 h) (i-1) i (by omega) hi (by omega)
def B9{l:List α}{p:α->Bool}{d:α}:(∀i,i<l.length->p (l.getD i d)=ab)↔∀x∈l,p x=ab:=by grind[List.mem_iff_getElem]
structure rO(k:Int)(p:bG):Prop where
 no:1<=p.1/\p.1<=99
 key:b5 k=ab
 len:1<=p.2.length/\p.2.length<=4
 rt:∀x∈p.2,right k x=ab
 Eb:p.2.Pairwise λx y=>x.1<y.1
def pd{p:bG}:gB k p=ab↔rO k p:=by
 rw[qp];simp only[bM,a9,dy];have e:(∀i,i<p.2.length->jg k p i=ab)↔(∀x∈p.2,right k x=ab)/\p.2.Pairwise λx y=>x.1<y.1:=by
  rw[<-B9 (d:=(0,[])),<-B8 (f:=λx:br=>x.1) (d:=(0,[]))];constructor
  .intro h;exact⟨λi hi=>by have:=h i hi;simp only[jg,bM]at this;exact this.1,λi hi=>by have:=h i hi;simp only[jg,bM]at this;exact this.2⟩
  .intro h i hi;simp only[jg,bM];exact⟨h.1 i hi,h.2 i hi⟩
 rw[e];constructor
 .rintro⟨⟨⟨j,a⟩,c⟩,b,g⟩;exact⟨j,a,c,b,g⟩
 .rintro⟨j,a,c,b,g⟩;grind
structure iA(k:Int)(s:bd):Prop where
 pk:∀p∈s.1,rO k p
 pa:s.1.Pairwise λp q=>p.1<q.1
 nd:(bx s.1).Nodup
 sn:∀x∈s.2.1,(1<=x.1/\x.1<=20)/\(cd k x s.1).isSome=ab
 sa:s.2.1.Pairwise λx y=>x.1<y.1
 key:b5 k=ab
 log:kz s.2.2=ab
 len:s.1.length<=20
def fh{s:bd}:fa k s=ab↔iA k s:=by
 unfold fa;simp only[bM,a9,dy];have o:(∀i,i<s.1.length->mM k s.1 i=ab)↔(∀p∈s.1,rO k p)/\s.1.Pairwise λp q=>p.1<q.1:=by
  rw[<-B8 (f:=λp:bG=>p.1) (d:=(0,[]))];have:(∀p∈s.1,rO k p)↔∀p∈s.1,gB k p=ab:=⟨λh p b=>pd.2 (h p b),λh p b=>pd.1 (h p b)⟩
  rw[this,<-B9 (d:=(0,[]))];constructor
  .intro h;exact⟨λi hi=>by have:=h i hi;simp only[mM,bM]at this;exact this.1,λi hi=>by have:=h i hi;simp only[mM,bM]at this;exact this.2⟩
  .intro h i hi;simp only[mM,bM];grind
 have r:(∀i,i<s.2.1.length->kA k s i=ab)↔(∀x∈s.2.1,(1<=x.1/\x.1<=20)/\(cd k x s.1).isSome=ab)/\s.2.1.Pairwise λx y=>x.1<y.1:=by
  rw[<-B8 (f:=λp:ff=>p.1) (d:=(0,[]))];have:(∀x∈s.2.1,(1<=x.1/\x.1<=20)/\(cd k x s.1).isSome=ab)↔∀x∈s.2.1,(decide (1<=x.1/\x.1<=20)&&(cd k x s.1).isSome)=ab:=by grind
  rw[this,<-B9 (d:=(0,[]))];constructor
  .intro h;exact⟨λi hi=>by have:=h i hi;simp only[kA,bM]at this⊢;grind,λi hi=>by have:=h i hi;simp only[kA,bM]at this;exact this.1.2⟩
  .intro h i hi;have a:=h.1 i hi;simp only[kA,bM]at a⊢;grind
 rw[o,r];constructor
 .rintro⟨⟨⟨⟨⟨⟨a,c⟩,g⟩,e,m⟩,j⟩,n⟩,l⟩;exact⟨a,c,g,e,m,j,n,l⟩
 .rintro⟨a,c,g,e,m,j,n,l⟩;grind
theorem MK{l:List br}{x y:br}(h:y∈gI l x):y=x∨y∈l:=by
 induction l with
 |nil=>simp[gI]at h;grind
 |cons z r a =>
  simp only[gI]at h;grind
def Qg{ps:List Bs}{y:br}(h:y∈o7 k ps):∃p∈ps,y=(dC k p,eZ p):=by
 have key:∀(ps:List Bs) (acc:List br),y∈ps.foldl (λl p=>gI l (dC k p,eZ p)) acc->y∈acc∨∃p∈ps,y=(dC k p,eZ p):=by
  intro ps;induction ps with
  |nil=>grind
  |cons p r a =>
   grind[MK]
 rcases key ps [] h with h|h
 .cases h
 grind
def sG{ps:List bG}{n:Int}{p:Bs}(h:dg k ps n=aa p):bA p=ab/\dC k p=n/\n∈bx ps:=by
 unfold dg at h;obtain⟨pk,e,a⟩:=List.exists_of_findSome?_eq_some h;unfold ee at a;split at a
 .rename_i x b;have c:x.1=n:=by simpa using List.find?_some b
  have d:=sK b;unfold chunk eK at a;refine⟨by grind,by grind,qJ.2 ⟨pk,e,gQ.2 ⟨x,d,c⟩⟩⟩
 .cases a
def y7{ps:List bG}{n:Int}(hk:b5 k=ab)(j:∀p∈ps,rO k p)(h:n∈bx ps):∃p,dg k ps n=aa p:=by
 obtain⟨pk,c,d⟩:=qJ.1 h;obtain⟨x,f,e⟩:=gQ.1 d;cases g:dg k ps n with
 |some p=>exact⟨p,rfl⟩
 |none =>
  have b:ee k pk n=ae:=List.findSome?_eq_none_iff.1 g pk c;unfold ee at b;split at b
  .rename_i y a;have l:y.1=n:=by simpa using List.find?_some a
   have i:=(j pk c).rt y (sK a);unfold right at i;unfold chunk at b;grind
  .rename_i a;have:=qE.1 a x f;grind
def JN{ps qs:List bG}(hk:b5 k=ab)(g:∀p∈ps,rO k p)(d:∀n∈bx qs,n∈bx ps){n:Int}{p:Bs}(h:dg k qs n=aa p):dg k ps n=aa p:=by obtain⟨b,c,e⟩:=sG h;obtain⟨q,a⟩:=y7 hk g (d n e);obtain⟨f,i,_⟩:=sG a;rw[a,ru hk b f (c.trans i.symm)]
def GX{ps qs:List bG}(g:∀(n:Int)(p:Bs),dg k qs n=aa p->dg k ps n=aa p){x:jD}{f:bw}(h:fileOf k qs x=aa f):fileOf k ps x=aa f:=by
 have key:∀l,dN k qs x.2=aa l->dN k ps x.2=aa l:=by
  intro l b;unfold dN at *;split at b
  .rename_i c;cases b;have e:∀n∈x.2,dg k ps n=dg k qs n:=λn a=>by have:=bz.1 c n a;obtain⟨p,d⟩:=rS.1 this;rw[d,g n p d]
   rw[bo (bz.2 λn a=>by rw[e n a];exact bz.1 c n a),qC λn a=>by rw[e n a]]
  .cases b
 unfold fileOf at *;split at h
 .cases h
 .rename_i l b;rw[key l b];exact h
def Cs{ps qs:List bG}(g:∀(n:Int)(p:Bs),dg k qs n=aa p->dg k ps n=aa p){x:ff}{t:List bw}(h:cd k x qs=aa t):cd k x ps=aa t:=by
 unfold cd at *;split at h
 .rename_i c;cases h;simp only[bM]at c;have e:∀y∈x.2,fileOf k ps y=fileOf k qs y:=λy a=>by obtain⟨f,b⟩:=rS.1 (bz.1 c.1.2 y a);rw[b,GX g b]
  have d:dc k ps x.2=dc k qs x.2:=qC λy a=>by rw[e y a]
  have i:(x.2.all λy=>(fileOf k ps y).isSome)=ab:=bz.2 λy a=>by rw[e y a];exact bz.1 c.1.2 y a
  rw[d,i,c.1.1,c.2];rfl
 .cases h
section
variable {X:Cx ag}[X.ik]
abbrev R0:List bw:=[([97],[104,101,108,108,111])]
def MB:cA R0=ab:=by decide +kernel
abbrev WY(k:Nat):={q:List bw×Nat // cA q.1=ab/\k<=q.2/\q.2<=k+400}
def Qb(m:Nat)(b:Nat->Int)(f:Bytes b)(k:Nat)(hk:k<=50000)(d:m<=1048576):
  ek (ι:=WY k) X 100 [.e (.one (.ptr 0 0))] [lF m b k] (λq=>cF.sl q.1.1) (λq=>[lF m b q.1.2]):=by
 refine ek.rN Tryz.func100 rfl rfl rfl λh=>?_;refine bu rfl ak ?_;refine AK.cP (HU m b f k hk d) [0] rfl (λ_=>rfl) ?_;rintro⟨t,bf,xs,k1,fl,j,c,a⟩;refine aW [(1000002,ab)] rfl ak ?_;refine AK.wY 3 1 (cF.fn t) rfl rfl fl.rd ?_;refine bu rfl ak ?_;refine AK.cQ (z0 t) [] rfl ?_;cases g:cA t with
 |true =>
  refine bu rfl ak (AK.oe ⟨(t,k1),g,c,a⟩ (AK.cX [0] rfl ?_ rfl rfl rfl iI));simp
 |false =>
  refine bu rfl ak (AK.oe ⟨(R0,k1),MB,c,a⟩ (AK.cX [0] rfl ?_ rfl rfl rfl iI));refine⟨rfl,λi hi=>?_⟩;have:i=0:=by grind
  subst this;rfl
end
section
variable {X:Cx ag}
theorem vH{l:List cm}(h:sD l l.length=ab):(∀x∈l,eB x=ab)/\l.Pairwise λx y=>x.1<y.1:=by
 have a:=dy.1 h;have b:∀j,j<l.length->∀i,i<j->(l.getD i (0,0)).1<(l.getD j (0,0)).1:=by
  intro j;induction j with
  |zero=>grind
  |succ j c =>
   grind
 grind[List.getElem_of_mem,List.pairwise_iff_getElem]
def Ci(l:List cm):∀a:List cm,(a++l).Pairwise (λx y=>x.1<y.1)->l.foldl fU a=a++l:=by
 induction l with
 |nil=>grind
 |cons x r b =>
  grind[M6]
def JI{l:List cm}(h:sD l l.length=ab)(n:Int):(ph l).find n=ku l n:=by obtain⟨b,a⟩:=Ar l .nil (by simp[Tr.Ok,Tr.list]);have c:=Ci l [] (by grind[vH]);rw[ph,uW a,b];exact dH (ku · n) c
def yV{t:List bw}(h:cA t=ab):∀f∈t,ez f.2=ab:=λf a=>((lH.1 h).1 f a).2
abbrev dV2(a:List Bs):D:=.e (.one (.vec 2 1 a.length (cS.fn a)))
def vI(o m:av×ai)(k:Int)(t:List bw)(l:List cm)(hk:b5 k=ab)(A:cA t=ab)(H:sD l l.length=ab)(E:l.length<=4000000):
  Ev X 10 [dI k,cF.sl t,cH.sl l] (GB o m) (cS.sl (c7 k t l)) (GB o m):=by
 refine Ev.bQ Tryz.func10 rfl λQ=>?_;have N:bH X [(32,kD aI (λk=>dB (b5 k)) λ_=>[]),(25,Xq),(33,kD (aL cH) (λl=>dB (sD l l.length)) λ_=>[])]:=.cons t32 (.cons t25 (.cons (.pF λl _=>ED l) .nil));refine bm N [(15,af),(20,af),(25,af)] rfl ?_ ?_
 .simp only[au,hk,cF.list_fn,cH.list_fn,iu,A,H];exact⟨rfl,cH.aK _,rfl,cF.aK _,rfl⟩
 have C:=vH H;have z:∀x∈l,bE .i64 x.1/\bE .i64 x.2:=λx r=>by have:=C.1 x r;simp only[eB,bM,a9]at this;simp only[bE];omega
 have hT:=JI H;have u:=As (X:=X) l E z;have v:∀n,Ev X 36 [.e (.one (.c (tC (ph l)))),dI n] [] (dI (ku l n)) []:=λn=>hT n▸QO (ph l) n
 clear hT;generalize ph l=T at *;have c1:bH X [(34,sr [Sd l] (.e (.one (.c (tC T)))))]:=.cons (uG u) .nil;cases T<;>(
  refine cG c1 rfl rfl ?_;refine AK.iW 8 9 1 rfl rfl ?_;refine AK.tv 3 [0,7,29,30] (λi=>i<=t.length) (λi:Nat=>[(8,dV2 ((g9 (t.take i)).foldl (iz k l) [])),(31,dI i)]) (λi=>GB o m++[.vec 9 1 ((g9 (t.take i)).foldl (iz k l) []).length (cS.fn ((g9 (t.take i)).foldl (iz k l) []))]) (λi=>t.length-i) 0 rfl ?_ rfl ?_ rfl (by omega) ?_
  .simp[g9]
  .simp[g9]
  intro i hi;by_cases h:i<t.length
  .have F:t.getD (i:Int).toNat cF.b8=t.getD i ([],[]):=by grind
   have b:t.getD i ([],[])∈t:=by grind
   have P:=yV A _ b;have d:=Ad h;have D:=HW t (i+1);have y:=dx A;have L:=(y.uc _ b).1;have M:=y.all;have O:=y.len;have I:=od L;generalize t.getD i ([],[])=f at *;rw[d,cW]at D;have w:ig f.2=pieces f.2:=by unfold ig;grind
   have c2:bH X [(35,kD aS (λs=>cS.sl (ig s)) λ_=>[])]:=.cons BF .nil;refine bm c2 [(32,ab)] rfl ?_ ?_
   .simp only[au,F,L,a9,aF,aD];and_intros<;>omega
   rw[F,w];refine AK.tv 4 [0,7,29,30,31,37,38] (λj=>j<=(pieces f.2).length) (λj:Nat=>[(8,dV2 ((g9 (t.take i)++(pieces f.2).take j).foldl (iz k l) [])),(39,dI j)]) (λj=>GB o m++[.vec 9 1 ((g9 (t.take i)++(pieces f.2).take j).foldl (iz k l) []).length (cS.fn ((g9 (t.take i)++(pieces f.2).take j).foldl (iz k l) [])),.cells 50 [.c (.str f.1),.c (.str f.2)]]) (λj=>(pieces f.2).length-j) 0 rfl ?_ rfl ?_ rfl (by omega) ?_
   .simp
   .simp[F]
   intro j S;have B:=uM k l (g9 (t.take i)++(pieces f.2).take j) [];simp only[gO,cW,List.length_take]at B;by_cases R:j<(pieces f.2).length
   .have J:(pieces f.2).getD (j:Int).toNat cS.b8=(pieces f.2).getD j []:=by grind
    have G:bA ((pieces f.2).getD j [])=ab:=I _ (by grind);have a:(g9 (t.take i)++(pieces f.2).take (j+1)).foldl (iz k l) []=iz k l ((g9 (t.take i)++(pieces f.2).take j).foldl (iz k l) []) ((pieces f.2).getD j []):=by grind[bU]
    generalize(g9 (t.take i)++(pieces f.2).take j).foldl (iz k l) []=out at *;generalize(pieces f.2).getD j []=p at *;have r:=cS.cD out p;refine bO [(40,ab)] rfl ?_ ?_
    .simp only[au,a9,aF,aD];and_intros<;>omega
    rw[J];refine AK.cQ (u5 o m k p hk G) [0,1] rfl ?_;refine AK.cQ (v _) [] rfl ?_;have c3:bH X [(38,Ig)]:=.cons QP .nil;by_cases g:ku l (dC k p)=0
    .cases K:out.contains p with
     |true =>
      rw[iz,aY (by grind)]at a;refine bm c3 [(49,ab),(54,af)] rfl ?_ (AK.aQ (j+1) rfl ?_ ?_ ?_ ?_)
      .simp only[au,g,K,bE,cS.list_fn,j1,a9,aF,aD];and_intros<;>first|exact cS.aK _|rfl|omega
      .rw[a];simp
      .rw[a];simp
      .grind
      .omega
     |false =>
      rw[iz,bo (by grind)]at a;refine bm c3 [(49,ab),(54,ab)] rfl ?_ (AK.aQ (j+1) rfl ?_ ?_ ?_ ?_)
      .simp only[au,g,K,bE,show i9.bytes=16 from rfl,cS.list_fn,j1,a9,aF,aD];and_intros<;>first|exact cS.aK _|rfl|omega
      .rw[a];simp only[au.cat,au,cW,fb,gO,aF,aD];and_intros<;>first|exactλ_ _=>rfl|exact r|rfl|omega
      .rw[a];simp only[au.cat,au,cW,fb,gO,aF,aD];and_intros<;>first|exactλ_ _=>rfl|exact r|rfl|omega
      .grind
      .omega
    .rw[iz,aY (by grind)]at a;refine bm c3 [(49,af)] rfl ?_ (AK.aQ (j+1) rfl ?_ ?_ ?_ ?_)
     .simp only[au,bE,eF,dz,g,oz,aF,aD];and_intros<;>omega
     .rw[a];simp
     .rw[a];simp
     .grind
     .omega
   .have q:j=(pieces f.2).length:=by omega
    refine bO [(40,af)] rfl (by simp only[au,bR];omega) (AK.leaveD rfl rfl ?_);refine dk rfl ?_ (AK.aQ (i+1) rfl ?_ ?_ ?_ ?_)
    .simp only[au,bE];omega
    .rw[d,q,dt];simp
    .rw[d,q,dt];simp
    .grind
    .omega
  .obtain rfl:i=t.length:=by omega
   rw[dt];refine bO [(32,af)] rfl (by simp) (AK.leaveD rfl rfl ?_)
   refine dk rfl ak (AK.cX [0,1] rfl ?_ rfl rfl rfl Cj);simp[c7,g9])
abbrev aaG(q:bG×Bool):D:=.fD [.agg [.c (.int .i64 q.1.1),.c (.sl af 2 q.1.2.length (ei.fn q.1.2))],.one (.c (.bool q.2))]
def kF(k:Int)(p:Bs):br:=(dC k p,eZ p)
def Au(no k:Int)(ps:List Bs):bG:=(no,ni (ps.map (kF k)))
def ou(no k:Int)(ps:List Bs):bG×Bool:=if gB k (Au no k ps)=ab then(Au no k ps,ab)else((0,[]),af)
theorem ry:∀(l a:List br),(l.foldl hZ a).length=a.length+l.length
 |[],a=>by simp
 |x::l,a=>by rw[jN,ry l,zY,fb];omega
def NL:∀(f:Nat){l:List br}{j:Nat},kE l->j<l.length->kE (y8 f l j)
 |0,_,_,h,_=>h
 |f+1,l,j,h,a=>by
  rw[y8];split
  .exact h
  .split
   .exact NL f (u6 h (by omega) a) (by grind[gn])
   grind
theorem NM{l:List br}{x:br}(b:kE l)(c:bE .i64 x.1/\x.2.length<=9223372036854775807):kE (hZ l x):=by
 refine NL _ (λy a=>?_) (by simp);rcases fz.1 a with h|h
 .exact b y h
 grind
def QR{l:List br}(b:kE l)(a:0<l.length):kE (kW l) :=
 y0 _ _ (u6 b a (by omega)) (by grind[gn]) (by grind[gn])
theorem Ij{p:Bs}(a:bA p=ab):bE .i64 (kF k p).1/\(kF k p).2.length<=9223372036854775807:=by
 have h:=a;simp only[bA,bM,a9]at h;have c:=qK (codeOf p*(2*k+1)+k*7919) (show(999999999989:Int)≠0 by decide);have b:=qF (codeOf p*(2*k+1)+k*7919) (show(0:Int)<999999999989 by decide);refine⟨?_,?_⟩
 .show bE .i64 (dC k p);simp only[bE,dC];omega
 .show (eZ p).length<=_;unfold eZ cR;grind
def Ik(k:Int)(ps:List Bs)(b:∀p∈ps,bA p=ab):kE ((ps.map (kF k)).foldl hZ []):=by
 have:∀(l:List Bs) (a:List br),(∀p∈l,bA p=ab)->kE a->kE ((l.map (kF k)).foldl hZ a):=by
  intro l;induction l with
  |nil=>grind
  |cons p r c=>grind[NM,Ij]
 exact this ps [] b (by simp[kE])
abbrev Xz(a b:av×ai)(g:Nat)(bf:nL)(l:List br):List bg:=GB a b++[.cells 46 [.c (.int .i64 0),.c (.sl ab 0 0 λ_=>[])],cB g bf l.length,hB bf l.length l]
abbrev NN(no:Int)(out:List br):List bg:=[.cells 46 [.c (.int .i64 no),.vec 6 2 out.length (ei.fn out)],.vec 82 2 out.length (ei.fn out)]
def vK(o m:av×ai)(no k:Int)(ps:List Bs)(I:bE .i64 no)(hk:b5 k=ab)(s:∀p∈ps,bA p=ab)(U:ps.length<=4):
  Ev X 74 [dI no,dI k,cS.sl ps] (GB o m) (aaG (ou no k ps)) (GB o m):=by
 refine Ev.rK tok Tryz.func74 rfl rfl rfl λT=>?_;refine bO [(1000002,ab)] rfl ak ?_;refine AK.Lv 8 3 82 2 rfl rfl λg S=>?_;refine dk rfl ak ?_;refine AK.tv 5 [0,1,6,8,14,15] (λq:Nat×nL=>q.1<=ps.length) (λq=>[(16,dI q.1)]) (λq=>Xz o m g q.2 (((ps.take q.1).map (kF k)).foldl hZ [])) (λq=>ps.length-q.1) (0,.nil S) rfl ?_ rfl ?_ rfl (by omega) ?_
 .simp
 .simp[ue]
 rintro⟨i,bf⟩ hi;simp only at hi;by_cases h:i<ps.length
 .have M:ps.getD (i:Int).toNat cS.b8=ps.getD i []:=by grind
  have v:bA (ps.getD i [])=ab:=s _ (by grind);have z:((ps.take (i+1)).map (kF k)).foldl hZ []=hZ (((ps.take i).map (kF k)).foldl hZ []) (kF k (ps.getD i [])):=by grind[bU]
  have L:(((ps.take i).map (kF k)).foldl hZ []).length=i:=by grind[ry]
  have f:=Ik k (ps.take i) λp A=>s p (fN A);generalize ps.getD i []=p at *;generalize((ps.take i).map (kF k)).foldl hZ []=l at *;refine bm (.cons PK .nil:bH X [(126,n8)]) [(17,ab)] rfl ?_ ?_
  .simp only[au,a9,aF,aD];and_intros<;>omega
  rw[M];refine AK.cQ (u5 o m k p hk v) [0,1] rfl ?_;refine cG (.cons PK .nil:bH X [(126,n8)]) rfl ak ?_;refine AK.cP (EE g bf f (by omega) (x:=kF k p) (Ij v)) [3,4] rfl (λ_=>rfl) λy=>?_;have j:=zY l (kF k p);refine dk rfl ?_ (AK.aQ (i+1,y) rfl ?_ ?_ ?_ ?_)
  .simp only[au,bE];omega
  .simp
  .simp only[z,j,au.cat,au,aF,aD];grind[cE.same]
  .grind
  grind
 obtain rfl:i=ps.length:=by omega
 rw[dt];refine bO [(17,af)] rfl (by simp) (AK.leaveD rfl rfl ?_);have J:((ps.map (kF k)).foldl hZ []).length<=4:=by grind[ry]
 have f:=Ik k ps s;have B:ni (ps.map (kF k))=[]++l0 ((ps.map (kF k)).foldl hZ []).length ((ps.map (kF k)).foldl hZ []):=by rw[ni,ry,mV,gO,bF]
 refine dk rfl ak ?_;refine AK.iq 5 1 82 2 (ei.fn []) rfl rfl ?_;refine AK.tv 7 [1,6,8,11] (λq:List br×nL×List br=>kE q.1/\q.1.length+q.2.2.length<=4/\ni (ps.map (kF k))=q.2.2++l0 q.1.length q.1) (λq=>[]) (λq=>Xz o m g q.2.1 q.1++NN no q.2.2) (λq=>q.1.length) ((ps.map (kF k)).foldl hZ [],bf,[]) rfl ?_ rfl ?_ rfl ⟨f,by grind,B⟩ ?_
 .simp
 .simp
 rintro⟨h,bf,out⟩ ⟨F,K,w⟩;simp only at F K w;refine dk rfl ak ?_;refine AK.law (bL.Dg rfl rfl) rfl rfl ?_;refine AK.one (OA.zL tok 3 rfl rfl rfl rfl rfl (nS bf _) rfl) rfl ?_;refine AK.cQ (Cl bf h.length h) [4] rfl ?_;by_cases P:h.length=0
 .rw[P,l0,iw]at w;subst w;refine bO [(37,af)] rfl (by simp only[au,bR,aD];omega) (AK.leaveD rfl rfl ?_);have G:bH X [(94,BI)]:=.cons HL .nil;have H:(ni (ps.map (kF k))).length<=4:=by omega
  cases u:gB k (Au no k ps)with
  |false =>
   have a:gB k (no,ni (ps.map (kF k)))=af:=u;have e:ou no k ps=((0,[]),af):=by unfold ou;grind
   rw[e];refine bm G [(50,ab)] rfl ?_ ?_
   .simp only[au,ei.list_fn,a,hk];and_intros<;>first|exact ei.aK _|rfl|exact True.intro|grind
   refine AK.lZ () [0,1] rfl rfl rfl rfl rfl rfl rfl rfl rfl ?_ rfl rfl rfl rfl Cj;simp
  |true =>
   have a:gB k (no,ni (ps.map (kF k)))=ab:=u;have e:ou no k ps=(Au no k ps,ab):=by unfold ou;grind
   rw[e];refine bm G [(50,af)] rfl ?_ ?_
   .simp only[au,ei.list_fn,a,hk];and_intros<;>first|exact ei.aK _|rfl|exact True.intro|grind
   refine AK.lZ () [0,1] rfl rfl rfl rfl rfl rfl rfl rfl rfl ?_ rfl rfl rfl rfl Cj;simp[Au]
 obtain⟨n,t⟩:∃n,h.length=n+1:=⟨h.length-1,by omega⟩
 refine bO [(37,ab),(1000009,ab)] rfl (by simp only[au,a9,aD];omega) ?_;refine AK.fact (NJ (i:=4) (n:=h.length) (bf:=bf) (l:=h) rfl (by omega)) λR=>?_;obtain⟨b,cap,rfl,d⟩:=R;rw[t]at d;have A:=GC (X:=X) g b cap F t (by omega) d;have Q:=QR F (by omega);have j:((kW h).take n).length=n:=by grind[DJ]
 have O:ni (ps.map (kF k))=(out++[(kW h).getD n (0,[])])++l0 n ((kW h).take n):=by rw[w,t,l0,aY (by omega),t];simp
 have N:kE ((kW h).take n):=λx E=>Q x (fN E);show AK X _ _ _ _ _ (GB o m++[.cells 46 [.c (.int .i64 0),.c (.sl ab 0 0 λ_=>[])],cB g (.row b cap) h.length,hB (.row b cap) h.length h]++NN no out);rw[t];generalize(kW h).getD n (0,[])=x at *;generalize(kW h).take n=r at *;refine AK.Lm (ι:=Unit) ju 4 7 10 (λk=>bD k 3) (λk=>([.e (.one (.ptr 5 1)),.e (.one (.vec 6 2 out.length (ei.fn out))),vZ (.pointer (aa ⟨g,0,ae⟩)),Vg g]:List D).getD k .any) (λ_ k=>([.any,.any,.any,.any,Vf x,Yn x,.e (.one (.c (.sl ab 2 1 λi=>([[.int .i64 x.1,.str x.2]]:List (List C)).getD i [])))]:List D).getD k .any)
  (λ_=>GB o m++[.cells 46 [.c (.int .i64 0),.c (.sl ab 0 0 λ_=>[])],cB g (.row b cap) n,hB (.row b cap) n r]++NN no out)
  rfl rfl rfl rfl rfl rfl rfl (λk h=>by have:=dr h;omega) rfl
  ⟨OA.c8 tok bH.nil rfl,OA.c8 tok bH.nil rfl,OA.c8 tok bH.nil rfl,OA.c8 tok bH.nil rfl,ak,ak,ak,ak,ak,ak,ak⟩
  (λ_=>⟨OA.c8 tok bH.nil rfl,OA.c8 tok bH.nil rfl,OA.c8 tok bH.nil rfl,OA.c8 tok bH.nil rfl,ak,OA.lL (fQ rfl) (bL.Bu (cs:=[.int .i64 x.1,.str x.2]) tok rfl rfl rfl rfl),OA.c8 tok bH.nil rfl,ak⟩)
  (m9.qS A.sH [3,4] rfl rfl rfl rfl rfl rfl rfl (λ_=>rfl) rfl (λ_=>rfl)) λ_=>?_
 have E:=ei.cD out x;refine dk rfl ?_ (AK.aQ (r,.row b cap,out++[x]) rfl ?_ ?_ ?_ ?_)
 .simp only[au,show i82.bytes=24 from rfl,aF];omega
 .simp
 .simp only[j,au.cat,au,cW,fb,gO,aF,aD];and_intros<;>first|exact cE.same|exact E|rfl
 .grind
 grind
abbrev aaE(s:ff):D:=.fD [.agg [.c (.int .i64 s.1),.c (.sl af 2 s.2.length (cL.fn s.2))],.one (.c (.bool ab))]
abbrev Xv(a b:av×ai)(no:Int)(ls:List jD):List bg:=GB a b++[.cells 73 [.c (.int .i64 0),.c (.sl ab 0 0 λ_=>[])],.cells 73 [.c (.int .i64 no),.vec 4 2 ls.length (cL.fn ls)],.vec 141 2 ls.length (cL.fn ls)]
abbrev Xw(f:bw)(ns:List Int):List bg:=[.cells 50 [.c (.str f.1),.c (.str f.2)],.cells 141 [.c (.str f.1),.vec 7 1 ns.length (cI.fn ns)],.vec 3 1 ns.length (cI.fn ns)]
def GA(g d:av×ai)(no k:Int)(t:List bw)(z:1<=no/\no<=99)(hk:b5 k=ab)(o:cA t=ab):
  Ev X 75 [dI no,dI k,cF.sl t] (GB g d) (aaE (ey no k t)) (GB g d):=by
 refine Ev.rK tok Tryz.func75 rfl rfl rfl λJ=>?_;have y:bH X [(32,kD aI (λk=>dB (b5 k)) λ_=>[]),(25,Xq)]:=.cons t32 (.cons t25 .nil);refine bm y [(15,af),(19,af),(24,af),(29,af)] rfl ?_ ?_
 .simp only[au,hk,cF.list_fn,iu,o,bR];and_intros<;>first|exact cF.aK _|rfl|omega
 refine AK.iq 3 1 141 2 (cL.fn []) rfl rfl ?_;refine AK.tv 5 [1,6,8,33,34] (λi=>i<=t.length) (λi:Nat=>[(35,dI i)]) (λi=>Xv g d no (nG k (t.take i))) (λi=>t.length-i) 0 rfl ?_ rfl ?_ rfl (by omega) ?_
 .simp
 .simp
 intro i hi;by_cases h:i<t.length
 .have E:t.getD (i:Int).toNat cF.b8=t.getD i ([],[]):=by grind
  have a:t.getD i ([],[])∈t:=by grind
  have w:=dx o;have F:=w.uc _ a;have H:=yV o _ a;have A:=w.len;have u:=od F.1;have B:=kY (t.getD i ([],[])).2;have l:nG k (t.take (i+1))=nG k (t.take i)++[lG k (t.getD i ([],[]))]:=by grind[bU]
  have D:(nG k (t.take i)).length=i:=by grind
  generalize t.getD i ([],[])=f at *;generalize nG k (t.take i)=ls at *;have n:ig f.2=pieces f.2:=by unfold ig;grind
  have c2:bH X [(35,kD aS (λs=>cS.sl (ig s)) λ_=>[])]:=.cons BF .nil;refine bm c2 [(36,ab)] rfl ?_ ?_
  .simp only[au,a9,aF,aD];and_intros<;>omega
  rw[E,n];refine AK.iq 6 1 3 1 (cI.fn []) rfl rfl ?_;refine AK.tv 8 [1,6,8,10,11,33,34,35,44,45] (λj=>j<=(pieces f.2).length) (λj:Nat=>[(46,dI j)]) (λj=>Xv g d no ls++Xw f (l3 k ((pieces f.2).take j))) (λj=>(pieces f.2).length-j) 0 rfl ?_ rfl ?_ rfl (by omega) ?_
  .simp
  .simp
  intro j L;by_cases K:j<(pieces f.2).length
  .have v:(pieces f.2).getD (j:Int).toNat cS.b8=(pieces f.2).getD j []:=by grind
   have q:bA ((pieces f.2).getD j [])=ab:=u _ (by grind);have b:l3 k ((pieces f.2).take (j+1))=l3 k ((pieces f.2).take j)++[dC k ((pieces f.2).getD j [])]:=by grind[bU]
   have G:(l3 k ((pieces f.2).take j)).length=j:=by grind
   generalize(pieces f.2).getD j []=p at *;generalize l3 k ((pieces f.2).take j)=ns at *;have m:=cI.cD ns (dC k p);refine bO [(47,ab),(1000011,ab)] rfl ?_ ?_
   .simp only[au,a9,aF,aD];and_intros<;>omega
   rw[v];refine AK.calm ju [.e (.one (.ptr 6 1)),.e (.one (.vec 7 1 ns.length (cI.fn ns))),dI k,dS p,dI (dC k p),.e (.one (.c (.sl ab 1 1 λi=>([[.int .i64 (dC k p)]]:List (List C)).getD i [])))] 6 rfl rfl rfl rfl rfl ⟨OA.c8 tok bH.nil rfl,OA.c8 tok bH.nil rfl,OA.c8 tok bH.nil rfl,OA.c8 tok bH.nil rfl,
    OA.Ve (m9.qS (u5 g d k p hk q).sH [0,1] rfl rfl rfl rfl rfl rfl rfl (λ_=>rfl) rfl (λ_=>rfl)),OA.c8 tok bH.nil rfl,ak⟩ ?_
   refine dk rfl ?_ (AK.aQ (j+1) rfl ?_ ?_ ?_ ?_)
   .simp only[au,bE,show i3.bytes=8 from rfl,aF,aD];and_intros<;>omega
   .simp
   .simp only[b,au.cat,au,cW,fb,gO,aF,aD];and_intros<;>first|exact cE.same|exactλ_ _=>rfl|exact m|rfl|omega
   .grind
   .omega
  .have r:j=(pieces f.2).length:=by omega
   rw[r,dt];have m:=cL.cD ls (lG k f);have x:ls.length+1=(ls++[lG k f]).length:=by simp
   have I:cL.enc (lG k f)=[C.str f.1,C.sl af 1 (l3 k (pieces f.2)).length (cI.fn (l3 k (pieces f.2)))]:=rfl;rw[I,<-l]at m;rw[<-l]at x;refine bO [(47,af)] rfl (by simp only[au,bR];omega) (AK.leaveD rfl rfl ?_);refine dk rfl ?_ (AK.aQ (i+1) rfl ?_ ?_ ?_ ?_)
   .simp only[au,bE,show i141.bytes=40 from rfl,aF,aD];and_intros<;>omega
   .simp
   .simp only[au.cat,au,aF,aD];and_intros<;>first|exact cE.same|exact m|exact x|rfl
   .grind
   .omega
 .obtain rfl:i=t.length:=by omega
  rw[dt];refine bO [(36,af)] rfl (by simp) (AK.leaveD rfl rfl ?_);refine dk rfl ak ?_;refine AK.lZ () [0,1] rfl rfl rfl rfl rfl rfl rfl rfl rfl ?_ rfl rfl rfl rfl Cj;simp[ey]
end
end R1
section
namespace R1
variable {X:Cx ag}[X.ik]
abbrev jT:bg:=.cells 27 [g8,g8,g8]
abbrev f92(t:List bw)(n:Nat):Fr:=[(0,.e (.one (.ptr 0 0))),(2,.e (.one (.ptr 1 0))),(3,.e (.one (.ptr 2 0))),(4,cF.sl t),(5,dI n)]
end R1
end
namespace R1
section
variable {X:Cx ag}[X.ik]
abbrev zt:bg:=.cj (gk 46 2 (.nil ae) 0 [])
abbrev N6(v:ai)(s:bd):bg:=.cells 27 [.c (.val v),.c (Gc s.2.1),.c (DH s.2.2)]
abbrev UR(v:ai)(s:bd):D:=.e (.agg [.c (.val v),.c (Gc s.2.1),.c (DH s.2.2)])
abbrev N7:bg:=.cells 27 [.any,.any,.any]
abbrev Cu(v:ai)(s:bd):bg:=.cj (PM (UQ v s.1))
def d9P(m:Nat)(b:Nat->Int)(k:Int)(s s':bd)(e:Option ai)(a c d:Bool):List bg :=
 match e with
 |none=>match a,c with
  |false,af=>[lF m b k,jT,wM s,zt]
  |true,af=>[lF m b (k+1),jT,wM s,zt]
  |false,ab=>[lF m b k,jT,wM s,zt,jT]
  |true,ab=>[lF m b (k+1),jT,wM s,zt,jT]
 |some v=>match a,c,d with
  |true,af,_=>[lF m b (k+1),jT,wM s,Cu v s']
  |true,ab,af=>[lF m b (k+1),jT,wM s,Cu v s',jT]
  |true,ab,ab=>[lF m b (k+1),jT,wM s,Cu v s',N6 v s']
  |false,af,_=>[lF m b k,jT,wM s,Cu v s']
  |false,ab,_=>[lF m b k,jT,wM s,Cu v s',jT]
def x9P(u:Int)(s s':bd)(t:List bw)(a:Option ai)(i:Nat):D :=
 [oY s,.e (.one (.ptr 0 0)),dI u,dI (1+u),cF.sl t,
  (match a with|none=>.any|some v=>.fD [.agg [.c (.val v),.c (Gc s'.2.1),.c (DH s'.2.2)],.one (.c (.bool ab))]),
  (match a with|none=>.any|some v=>.fD [.agg [.c (.val v),.c (Gc s'.2.1),.c (DH s'.2.2)],.one (.c (.bool ab))]),
  (match a with|none=>.any|some v=>UR v s'),dB ab,.e (.one (.ptr 4 0)),.any,dB ab].getD i .any
def d9F(m:Nat)(b:Nat->Int)(k:Int)(v:ai)(s:bd)(a c d:Bool):List bg :=
 match a,c,d with
 |false,af,_=>[lF m b k,jT,N6 v s,Cu v s]
 |true,af,_=>[lF m b (k+1),jT,N6 v s,Cu v s]
 |false,ab,af=>[lF m b k,jT,N6 v s,Cu v s,jT]
 |true,ab,af=>[lF m b (k+1),jT,N6 v s,Cu v s,jT]
 |false,ab,ab=>[lF m b k,jT,N6 v s,Cu v s,N7]
 |true,ab,ab=>[lF m b (k+1),jT,N6 v s,Cu v s,N7]
abbrev N8:D:=.fD [.agg [.any,.any,.any],.one (.c (.bool af))]
def x9F(u:Int)(v:ai)(s:bd)(t:List bw)(i:Nat):D:=[UR v s,.e (.one (.ptr 0 0)),dI u,dI (1+u),cF.sl t,N8,N8,.e (.agg [.any,.any,.any]),dB af,.e (.one (.ptr 4 0)),.any,dB af].getD i .any
abbrev StJ(k:Nat):={q:bd×ai×Nat // D7 q.1/\k<=q.2.2/\q.2.2<=k+1000}
def D7.ne{s:bd}(h:D7 s):∀p∈s.1,0<p.2.length:=λp a=>(h.p p a).len.1
def XL:∀j,j<1->([0,3]:List Nat)[j]?=aa j:=λj a=>by grind
def GP(s:bd)(by_:Int)(t:List bw)(a:D7 s)(c:tF t)(b:ga 7 s t=ab):ek (ι:=Nat->ai) X 24 [dI 7,oY s,dI by_,cF.sl t] [] (λ_=>N8) (λ_=>[]) :=
 (sE (X:=X) 7 s by_ t (by decide) a.size a.num c a.cZ a.ne b).le (λ_=>rfl) (λ_=>by simp)
set_option maxRecDepth 20000 in
def EJ(m:Nat)(b:Nat->Int)(z:Bytes b)(k:Nat)(hk:k<=40000)(G:m<=1048576):
  ek (ι:=StJ k) X 49 [.e (.one (.ptr 0 0))] [lF m b k] (λq=>UR q.1.2.1 q.1.1) (λq=>[lF m b q.1.2.2,Cu q.1.2.1 q.1.1]):=by
 refine ek.tc tok Tryz.func49 rfl rfl rfl λhf=>?_;refine aW [(1000002,ab)] rfl ak ?_;refine AK.spare 46 2 ?_;refine AK.Wf 3 2 0 2 (cP.fn []) (by decide) rfl rfl rfl λv0=>?_;refine bu rfl ak ?_;refine AK.cP (Qb m b z k (by omega) G) [0] rfl (λ_=>rfl) ?_;rintro⟨⟨t0,k1⟩,I,U,K⟩;simp only at I U K;refine bu rfl ak ?_;refine AK.cP (gK m b z k1 5 (by omega) G (by omega)) [0] rfl (λ_=>rfl) ?_;rintro⟨u,u0,u1⟩;refine bu rfl ak ?_;refine AK.cJ 4 (λq:bd×ai×List bw×Nat×Nat=>D7 q.1/\cA q.2.2.1=ab/\q.2.2.2.1<=4/\k<=q.2.2.2.2/\q.2.2.2.2+100*q.2.2.2.1<=k+900) (λq=>f92 q.2.2.1 q.2.2.2.1) (λq=>[lF m b q.2.2.2.2,jT,N6 q.2.1 q.1,Cu q.2.1 q.1]) (λq=>q.2.2.2.1) (([],[],[]),v0,t0,u.toNat,k1+1) rfl ?_ rfl ?_ rfl ⟨D7.nil,I,by grind,by grind,by grind⟩ ?_
 .simp only[au.cat,au,aF,aD];and_intros<;>first|exactλ_ _=>rfl|omega
 .simp;rfl
 rintro⟨s,v,t,n,l⟩ ⟨A,Q,V,O,L⟩;simp only at A Q V O L;by_cases hn:0<n
 .have hv:=vD m b l 2 (by omega);have r:au [(l:Int)=(l:Int).toNat,ud b=ud (Um (ud b)),Bytes (Um (ud b)),(l:Int)<=4000000,m<=1048576,(1:Int)<=2,(2:Int)<=4000000]:=⟨rfl,rfl,z,by omega,G,by omega,(by decide:(2:Int)<=4000000)⟩
  have B:au [bE .i64 (1+mQ m b l 2)]:=by simp only[au,bE];omega
  have g:bH X [(19,c19)]:=.cons t19 .nil;refine bO [(19,ab),(1000006,ab)] rfl (by simp only[au,a9];omega) ?_;apply AK.Wh (ι:={q:bd×ai // D7 q.1}) (λ_=>f92 t n) (λq=>[lF m b (l+1:Nat),jT,N6 q.1.2 q.1.1,Cu q.1.2 q.1.1,N7])
  .intro out;cases H:ga 7 s t with
   |true =>
    have F:=GP (X:=X) s (1+mQ m b l 2) t A (dx Q) H;refine AK.flags ju (x9F (mQ m b l 2) v s t) (vk (d9F m b l v s) 2 9 10) rfl rfl rfl rfl
     ⟨.J3 tok g,
     .J3 tok g,
     en.e1 rfl rfl rfl rfl (λc d=>by cases c<;>cases d<;>exact gV (ds:=[]) tok g (σ':=aa _) rfl r),
     .q3o tok g B,
     .J3 tok g,
     en.q3 rfl rfl rfl (λa c d=>by cases a<;>cases c<;>cases d<;>exactλs a f hh b kk cs S i rest z hi hK=>m9.q8 F rfl rfl rfl (kg.agg 1 0 3 rfl rfl (PM.CL rfl λ_ h=>h)) rfl (by simp) rfl (λ_=>rfl) (λ_=>rfl) s a f hh b kk cs S i rest z hi λ_=>hK),
     .J3 tok g,
     .J3 tok g,
     .J3 tok g,
     en.e2 rfl rfl rfl rfl rfl (λa=>by cases a<;>exact gV (ds:=[]) tok g (σ':=aa _) rfl ak),
     en.e3 rfl rfl rfl rfl rfl (λa=>by cases a<;>exact gV (ds:=[]) tok g (σ':=aa _) rfl ak),
     .J3 tok g,ak⟩ ?_
    intro D o;show AK X _ _ _ _ _ (d9F m b l v s (D 2) (D 9) (D 10));rw[o 2 (by decide),o 9 (by decide),o 10 (by decide)];refine bO [(1000009,ab)] rfl ak ?_;exact out ⟨(s,v),A⟩ _ _ rfl (by simp)
   |false =>
    have P:=A.save (by_:=1+mQ m b l 2) Q (by omega) H;have F:=y4 (X:=X) 7 s (1+mQ m b l 2) t (by decide) A.size A.num (dx Q) A.cZ A.ne H;generalize cn 7 s (1+mQ m b l 2) t=s' at *;refine AK.sq 3 2 0 (E:=46) (k:=2) (cl:=HP s.1) (by decide) rfl rfl rfl (λ_ h=>h) ?_;refine AK.S1 ju (x9P (mQ m b l 2) s s' t) (SO (d9P m b l s s') 2 9 10) (xA ai 5) ae rfl rfl rfl rfl rfl
     ⟨.qe tok g,
     .qe tok g,
     iH.pre rfl rfl rfl rfl rfl (λc=>by cases c<;>exact gV (ds:=[]) tok g (σ':=aa _) rfl r),
     .qo tok g B,
     .qe tok g,
     iH.ZE rfl rfl rfl rfl rfl (λj q=>by
      match q with
      |0=>exact .inr (.inr rfl)
      |1=>exact .inr (.inr rfl)
      |2=>exact .inr (.inr rfl)
      |3=>exact .inr (.inr rfl)
      |4=>exact .inr (.inr rfl)
      |5=>grind
      |6=>exact .inr (.inl rfl)
      |7=>exact .inr (.inl rfl)
      |8=>exact .inr (.inr rfl)
      |9=>exact .inr (.inr rfl)
      |10=>exact .inr (.inr rfl)
      |11=>exact .inr (.inr rfl)
      |q+12=>exact .inr (.inr rfl)) (λc=>by cases c<;>exact m9.jB F [3] rfl rfl rfl rfl (by simp) rfl rfl rfl (λ_=>rfl) rfl (λ_=>rfl)),
     .qs tok g,
     .qs tok g,
     .qs tok g,
     iH.Y2 rfl rfl rfl rfl (λR a=>by cases R<;>cases a<;>exact gV (ds:=[]) tok g (σ':=aa _) rfl ak),
     iH.last rfl rfl rfl rfl rfl rfl (λv'=>gV (ds:=[]) tok g (σ':=aa _) rfl ak),
     .qs tok g,ak⟩ ?_
    intro R D Y o;have Y:R.isSome=ab:=Y.trans (o 5 (by decide));rcases R with _|v'
    .cases Y
    show AK X _ _ _ _ _ (d9P m b l s s' (aa v') (D 2) (D 9) (D 10));rw[o 2 (by decide),o 9 (by decide),o 10 (by decide)];refine bO [(1000009,ab)] rfl ak ?_;refine AK.Bn (φ':=f92 t n) (σ':=[lF m b (l+1:Nat),jT,N6 v' s',Cu v' s',N7]) ?_ rfl ?_ rfl ?_
    .exact out ⟨(s',v'),P⟩ _ _ rfl (by simp)
    .simp
    .simp
  rintro⟨⟨s',v'⟩,P⟩;refine dk rfl ak ?_;refine AK.cP (wP m b z (l+1) (by omega) G) [0] rfl (λ_=>rfl) ?_;rintro⟨p,hp⟩;refine dk rfl ak ?_;refine AK.cP (H9 m b z (l+1+1+1) (by omega) G) [0] rfl (λ_=>rfl) ?_;rintro⟨⟨x,M⟩,hx,T,N⟩;simp only at hx T N;refine dk rfl ak ?_;refine AK.cQ (yQ t p x) [] rfl ?_;have Z:=Gs (t:=t) (p:=p) (x:=x);obtain⟨C,y⟩:∃C,C=if(eD t p x).2=ab then(eD t p x).1 else t:=⟨_,rfl⟩
  have W:cA C=ab:=by grind
  apply AK.join (f92 C n) [lF m b M,jT,N6 v' s',Cu v' s',N7]
  .intro out;cases J:(eD t p x).2 with
   |true =>
    rw[J,bo rfl]at y;rw[<-y];refine bO [(1000012,ab)] rfl ak ?_;exact out _ _ rfl (by simp)
   |false =>
    rw[J,aY (by simp)]at y;rw[y]at out;refine bO [(1000012,ab)] rfl ak ?_;exact out _ _ rfl (by simp)
  clear y;refine dk rfl ak ?_;refine AK.cP (gK m b z M 3 (by omega) G (by omega)) [0] rfl (λ_=>rfl) ?_;rintro⟨w,w0,w1⟩;by_cases hw:w=0
  .refine bO [(46,ab)] rfl (by simp[hw]) ?_;refine AK.cP (wP m b z (M+1) (by omega) G) [0] rfl (λ_=>rfl) ?_;rintro⟨p2,hp2⟩;have V5:=mO W;refine dk rfl ak ?_;refine AK.cQ (Ia C p2 (by omega)) [] rfl ?_;refine dk rfl ?_ (AK.aQ (s',v',mN C p2,n-1,M+1+1+1) rfl ?_ ?_ ?_ ?_)
   .simp only[au,bE];omega
   .simp only[au.cat,au,aF,aD];and_intros<;>first|exactλ_ _=>rfl|omega
   .simp
   .grind [M4]
   grind
  .refine bO [(46,af)] rfl (by simp[hw,bE];omega) (AK.aQ (s',v',C,n-1,M+1) rfl ?_ ?_ ?_ ?_)
   .simp only[au.cat,au,aF,aD];and_intros<;>first|exactλ_ _=>rfl|omega
   .simp
   .grind
   grind
 .refine bO [(19,af)] rfl (by simp only[au,bR];omega) (AK.leaveD rfl rfl ?_);refine dk rfl ak ?_;refine AK.nc ⟨(s,v,l),A,O,by grind⟩ [0,3] rfl rfl rfl rfl rfl rfl rfl rfl ?_ rfl rfl rfl rfl XL;simp
end
end R1
def ek.die{X:Cx P}{f:aH}{args:List D}{E k:Nat}{a:Nat->List C}{w:BP}{es:ι->Nat->List C}{m:ι->Nat}(h:ek X f args [.buf E k n a] (λ_=>.e (.one (.bp 0 w))) (λi=>[.buf E k (m i) (es i)])):Ev X f args [.buf E k n a] (.e (.one (.bp 0 w))) [.dead] :=
 ⟨h.1,λs vs hr hh S cs hS=>h.2 s vs hr hh S cs λi fr v s' hl mT jP st=>hS fr v s' hl (by
  obtain⟨lv,h1,_,_⟩:gH _ _ _ (.bp 0 w):=mT;exact(⟨lv,h1,by simp,λ_ _ _ _ b=>by grind⟩:gH [.dead] s' v (.bp 0 w))) jP.l9
  ⟨st.size,st.fA,st.mem,st.jo,st.wu,λl B L hB hL=>by
   obtain⟨B',L',h1,h2,c⟩:=st.box l B L hB hL;cases l with
   |zero=>simp at hB;subst hB;exact⟨.dead,L',rfl,h2,ak⟩
   |succ l=>grind,st.os,st.tape,st.output,st.own⟩⟩
namespace R1
variable {X:Cx ag}
def yG(h:tM):Ev X 99 [dHd h] [] (dB (gD h)) []:=by
 refine Ev.bQ Tryz.func99 rfl λb=>?_;have a:bH X []:=.nil;unfold gD;by_cases c1:h.1=1
 .by_cases c3:1<=h.2
  .exact aU a [(6,ab),(11,ab),(16,ab)] rfl (by simp[c1,c3]) (AK.bC rfl (by simp[c1,c3]))
  .exact aU a [(6,ab),(11,ab),(16,af)] rfl (by simp[c1];omega) (AK.bC rfl (by simp[c3]))
 .by_cases c2:h.1=2
  .by_cases c3:1<=h.2
   .exact aU a [(6,af),(11,ab),(16,ab)] rfl (by simp[c2,c3]) (AK.bC rfl (by simp[c2,c3]))
   .exact aU a [(6,af),(11,ab),(16,af)] rfl (by simp[c2];omega) (AK.bC rfl (by simp[c3]))
  .exact aU a [(6,af),(11,af),(16,af)] rfl (by simp[c1,c2]) (AK.bC rfl (by
    have:¬(1<=h.1/\h.1<=2):=by omega
    simp only[au,iM this];simp))
def Jt(h:tM):Ev X 98 [dHd h] [] (dB (!gD h)) []:=by refine Ev.bQ Tryz.func98 rfl λb=>?_;have a:bH X [(99,kD U8 (λh=>dB (gD h)) λ_=>[])]:=.cons (.pF λh _=>yG h) .nil;exact ck a rfl ak (AK.bC rfl)
def Ju(l:List tM):kz l=(decide (l.length<=9)&&!l.any λh=>!gD h):=by
 have:(bc l.length).all (λi=>gD (l.getD i (0,0)))=!l.any λh=>!gD h:=by rw[qL,dy,j0,List.any_eq_false];grind[List.mem_iff_getElem]
 rw[kz,this,Bool.and_comm]
def Jv(l:List tM):Ev X 48 [cH.sl l] [] (dB (kz l)) []:=by
 refine Ev.bQ Tryz.func48 rfl λd=>?_;have a:=MP (X:=X) l 98 (λh=>!gD h) λx _=>Jt x;have b:bH X [(97,sr [cH.sl l,.e (.one (.c (.fn (.func 98) [] [])))] (dB (l.any λh=>!gD h)))]:=.cons (uG a) .nil;rw[Ju];by_cases h:l.length<=9
 .exact aU b [(6,ab)] rfl ⟨rfl,de (by omega)⟩ (AK.bC rfl (by simp[h]))
 .exact aU b [(6,af)] rfl (by simp;omega) (AK.bC rfl (by simp[iM h]))
def H5:eh X 48 tN:=.pF λl _=>Jv l
def BZ(p:bG)(f:p.2.length<=4000000):Ev X 91 [LY p] [] (cI.sl (p.2.map (·.1))) []:=by
 refine Ev.bQ Tryz.func91 rfl λd=>?_;refine aW [(1000002,ab)] rfl ak ?_;refine AK.iW 3 3 1 rfl rfl ?_;refine bu rfl ak ?_;refine AK.cJ 2 (λi=>i<=p.2.length) (λi:Nat=>[(1,.e (.one (.ptr 0 0))),(3,.e (.one (.vec 1 1 i (cI.fn ((p.2.take i).map (·.1)))))),(7,ei.sl p.2),(8,dI p.2.length),(9,dI i)]) (λi=>[Uc p,.vec 3 1 i (cI.fn ((p.2.take i).map (·.1)))]) (λi=>p.2.length-i) 0 rfl (by simp) rfl (by simp) rfl (by omega) ?_;intro i hi;by_cases h:i<p.2.length
 .have b:p.2.getD (i:Int).toNat ei.b8=ij p i:=by grind
  have a:(p.2.take (i+1)).map (·.1)=(p.2.take i).map (·.1)++[(ij p i).1]:=by grind[bU]
  have c:((p.2.take i).map (·.1)).length=i:=by grind
  have e:=cI.cD ((p.2.take i).map (·.1)) (ij p i).1;rw[c]at e;refine aW [(10,ab)] rfl ?_ (AK.aQ (i+1) rfl ?_ ?_ h (by omega))
  .simp only[au,bE,show i3.bytes=8 from rfl];grind
  .rw[a];simp only[au.cat,au,b,aF,aD];and_intros<;>first|exact cE.same|exact e|rfl|omega
  .rw[a];simp only[au.cat,au,b,aF,aD];and_intros<;>first|exact cE.same|exact e|rfl|omega
 obtain rfl:i=p.2.length:=by omega
 rw[dt];refine aW [(10,af)] rfl (by simp) (AK.leaveD rfl rfl ?_);exact bu rfl ak (AK.bC rfl)
abbrev Ed:dJ:=kD (FZ ei) (λp=>cI.sl (p.2.map (·.1))) λp=>[p.2.length<=4000000]
def MY:eh X 91 Ed:=.pF λp h=>BZ p h
def Jw(ps:List bG)(i:Nat):(bx (ps.take i)).length<=(bx ps).length:=by
 have:bx ps=bx (ps.take i)++bx (ps.drop i):=by unfold bx;grind[List.take_append_drop]
 grind
abbrev aai(l:List Int):D:=.e (.one (.bp 0 (.sl l.length 1 0 l.length)))
def Ee(ps:List bG)(o:∀p∈ps,p.2.length<=4000000)(q:(bx ps).length<=4000000):Ev X 42 [cP.sl ps] [] (aai (bx ps)) [J9 (bx ps).length (bx ps)]:=by
 refine Ev.bQ Tryz.func42 rfl λm=>?_;have k:=m.sl 0 rfl;have c:bH X [(91,Ed)]:=.cons MY .nil;refine aU c [(1000002,ab)] rfl ak ?_;refine AK.Wo 3 3 1 (cI.fn []) rfl ?_;refine ck c rfl ak ?_;refine AK.cJ 1 (λi=>i<=ps.length) (λi:Nat=>[(3,.e (.one (.bp 0 (.sl (bx (ps.take i)).length 1 0 (bx (ps.take i)).length)))),(6,cP.sl ps),(7,dI ps.length),(8,dI i)]) (λi=>[J9 (bx (ps.take i)).length (bx (ps.take i))]) (λi=>ps.length-i) 0 rfl (by simp[bx]) rfl (by simp[cE,bx]) rfl (by omega) ?_;intro i hi;by_cases h:i<ps.length
 .have g:ps.getD (i:Int).toNat cP.b8=ps.getD i (0,[]):=by grind
  have b:=yF h;have f:=Jw ps (i+1);have l:=o _ (ml (d:=(0,[])) h);generalize ps.getD i (0,[])=p at *;rw[b]at f;generalize bx (ps.take i)=a at *;have e:=cI.Ug a (p.2.map (·.1)) _ rfl;simp only[cW,jM]at f e;refine aU c [(9,ab)] rfl ?_ (AK.aQ (i+1) rfl ?_ ?_ h (by omega))
  .simp only[au,g,bE,ei.list_fn,ei.aK,jM,show i3.bytes=8 from rfl];grind
  .rw[b];simp only[au.cat,au,g,ei.list_fn,cW,jM,aF,aD];and_intros<;>first|exact cE.same|rfl|omega
  .rw[b];simp only[au.cat,au,g,ei.list_fn,cW,jM,aF,aD];grind
 obtain rfl:i=ps.length:=by omega
 rw[dt];refine aU c [(9,af)] rfl (by simp) (AK.leaveD rfl rfl ?_);refine ck c rfl ak (AK.cX [0] rfl ?_ rfl rfl rfl (λj n=>absurd n (by simp)));simp
def Ah(ps:List bG)(a:∀p∈ps,p.2.length<=4000000)(b:(bx ps).length<=4000000):Ev X 42 [cP.sl ps] [] (cI.sl (bx ps)) [] :=
 Ev.LH (σ1:=[]) (E:=3) (k:=1) (n:=(bx ps).length) (es:=cI.fn (bx ps)) (Ee ps a b) rfl (by simp) rfl (bh _)
end R1
namespace R1
section
variable {X:Cx ag}
def yH(s:bd):Ev X 41 [oY s] [] (oY s) []:=by refine Ev.tc Tryz.func41 rfl rfl rfl λb=>?_;refine bu rfl (by simp) ?_;refine AK.freeze 2 1 rfl rfl rfl ?_;exact AK.SB tok [] rfl (by simp) rfl rfl rfl (λj a=>absurd a (by simp))
abbrev Gm:dJ:=kD RM (λs=>oY s) λ_=>[]
def MZ:eh X 41 Gm:=.pF λs _=>yH s
abbrev J5(s:bd):bg:=.cells 90 [.c (.sl af 2 s.1.length (cP.fn s.1)),.c (.sl af 2 s.2.1.length (eX.fn s.2.1)),.c (.sl af 2 s.2.2.length (cH.fn s.2.2))]
structure OB(s:bd):Prop extends SmS s where
 pk:∀p∈s.1,p.2.length<=4000000
 nm:(bx s.1).length<=4000000
def Ai(k:Int)(s:bd):Bool:=(bc s.1.length).all (mM k s.1)&&decide (s.1.length<=20)&&decide (bx s.1).Nodup
def Gn(k:Int)(s:bd)(hk:b5 k=ab)(c:OB s):Ev X 46 [oY s,dI k] [] (dB (Ai k s)) []:=by
 refine Ev.bQ Tryz.func46 rfl λC=>?_;have D:=c.pN;have y:=c.pk;have w:=Ah (X:=X) s.1 c.pk c.nm;have n:bH X [(94,BI)]:=.cons HL .nil;refine ck n rfl ak ?_;unfold Ai;refine AK.cJ 1 (λi=>i<=s.1.length/\∀j,j<i->mM k s.1 j=ab) (λi:Nat=>[(1,dI k),(2,.e (.one (.ptr 0 0))),(9,cP.sl s.1),(10,dI s.1.length),(11,dI i)]) (λ_=>[J5 s]) (λi=>s.1.length-i) 0 rfl (by simp) rfl (by simp) rfl ⟨by omega,by omega⟩ ?_;rintro i ⟨hi,a⟩;by_cases h:i<s.1.length
 .have v:s.1.getD i cP.b8=s.1.getD i (0,[]):=rfl;have u:s.1.getD (i-1) cP.b8=s.1.getD (i-1) (0,[]):=rfl;have g:mM k s.1 i=(gB k (s.1.getD i (0,[]))&&Eb (·.1) (0,[]) s.1 i):=rfl;have q:=rq (f:=λp:bG=>p.1) (d:=(0,[])) (l:=s.1) (i:=i);have b:=y _ (ml (d:=(0,[])) h);generalize s.1.getD i (0,[])=p at *;generalize s.1.getD (i-1) (0,[])=p' at *;cases o:gB k p with
  |false =>
   rw[o,sT]at g;refine aU n [(12,ab),(20,ab),(35,ab)] rfl ?_ (AK.fR (cz.zero rfl ?_))
   .simp[-aj,v,hk,b,o,ei.list_fn,ei.aK];omega
   .rw[ja h g];simp
  |true =>
   rw[o,fP]at g;by_cases z:i=0
   .subst z;refine aU n [(12,ab),(20,af),(23,af),(35,af)] rfl ?_ (AK.aQ 1 rfl (by simp) (by simp) ⟨h,ky a (by rw[g];rfl)⟩ (by omega));simp[-aj,v,hk,b,o,ei.list_fn,ei.aK,bE];omega
   have q:=q z;by_cases F:p'.1<p.1
   .refine aU n [(12,ab),(20,af),(23,ab),(33,af),(35,af)] rfl ?_ (AK.aQ (i+1) rfl (by simp) (by simp) ⟨h,ky a (by grind)⟩ (by omega));simp[-aj,v,u,hk,b,o,ei.list_fn,ei.aK,bE];omega
   .refine aU n [(12,ab),(20,af),(23,ab),(33,ab),(35,ab)] rfl ?_ (AK.fR (cz.zero rfl ?_))
    .simp[-aj,v,u,hk,b,o,ei.list_fn,ei.aK,bE];omega
    .rw[ja h (by grind)];simp
 obtain rfl:i=s.1.length:=by omega
 rw[dy.2 a,fP];refine aU n [(12,af)] rfl (by simp) (AK.leaveD rfl rfl ?_);refine ck n rfl ak ?_;refine AK.cQ (Ee s.1 c.pk c.nm) [] rfl ?_;refine ck n rfl ak ?_;refine AK.cQ (M3 (bx s.1) c.nm) [1] rfl ?_;have A:=B4 (bx s.1);have r:=(Gp (X:=X) (px (bx s.1)) (by rw[mc];exact c.nm)).die;rw[mc]at r;have x:=B5 (px (bx s.1));rw[mc]at x;have B:=c.nm;generalize eN (px (bx s.1))=cs at *;generalize px (bx s.1)=so at *;have ub:bH X [(96,zR [lf (bx s.1).length] [J9 (bx s.1).length so] (.e (.one (.bp 0 (.sl (bx s.1).length 1 0 cs.length)))) [.dead]),(42,sr [cP.sl s.1] (cI.sl (bx s.1)))]:=.cons (Dw r) (.cons (uG w) .nil);refine aU ub [(1000009,ab)] rfl ak ?_;by_cases t:s.1.length<=20
 rotate_left
 .refine aU ub [(46,af)] rfl ?_ (AK.bC rfl ?_)
  .simp;omega
  .simp[t]
 have m:(s.1.length:Int)<=20:=by omega
 generalize E:bx s.1=N at *;refine AK.Ov (ι:=Unit) ju 6 (λi=>match bD i 5 with|true=>ab|false=>match aw i 8 with|true=>ab|false=>aw i 9) (λi=>[.e (.one (.ptr 0 0)),cP.sl s.1,dI s.1.length,dB (decide ((s.1.length:Int)<=20)),dB ab,.e (.one (.bp 1 (.sl N.length 1 0 N.length))),.any,.any,.e (.one (.ptr 0 0)),cP.sl s.1].getD i .any)
  (λ_ i=>[.any,.any,.any,.any,.any,.any,.e (.one (.bp 1 (.sl N.length 1 0 cs.length))),dI cs.length,.any,.any,cI.sl N,dI N.length,dB ((cs.length:Int)==N.length),dB ((cs.length:Int)==N.length),dB ((cs.length:Int)==N.length)].getD i .any) (λ_=>[J5 s,.dead]) rfl rfl rfl rfl rfl rfl ?_ ?_ ?_ ?_
 .exact⟨.c8 tok ub rfl,.c8 tok ub rfl,.c8 tok ub rfl,.c8 tok ub rfl,.eval tok ub (ds:=[(46,ab)]) rfl (de m),.c8 tok ub rfl,ak,ak,.c8 tok ub rfl,.c8 tok ub rfl,ak,ak,ak,ak,ak,ak⟩
 .intro _;exact⟨.c8 tok ub rfl,.c8 tok ub rfl,.c8 tok ub rfl,.c8 tok ub rfl,.eval tok ub (ds:=[(46,ab)]) rfl (de m),.c8 tok ub rfl,ak,.c8 tok ub rfl,.c8 tok ub rfl,.c8 tok ub rfl,.eval tok ub (ds:=[]) rfl rfl,.c8 tok ub rfl,.c8 tok ub rfl,.c8 tok ub rfl,.c8 tok ub rfl,ak⟩
 .exact .Bi (gV tok ub (ds:=[]) (σ':=aa [J5 s,.dead]) rfl ⟨rfl,rfl⟩)
 .intro _;refine ck ub rfl ak (AK.bC rfl ?_);have:((cs.length:Int)==N.length)=decide N.Nodup:=by grind
  simp[this,t]
abbrev tHB(l:List (Int×Int))(b:Bool):D:=.fD [.one (.c (.sl af 2 l.length (cH.fn l))),.one (.c (.bool b))]
def GG(l:List (Int×Int))(x:Int×Int)(g:kz l=ab)(f:gD x=ab)(i:l.length<=9):Ev X 76 [cH.sl l,QN x.1 x.2] [] (tHB (if l.length=9 then l else l++[x]) (decide (l.length≠9))) []:=by
 refine Ev.bQ Tryz.func76 rfl λj=>?_;have a:bH X [(48,tN),(99,kD U8 (λh=>dB (gD h)) λ_=>[])]:=.cons H5 (.cons (.pF λh _=>yG h) .nil);refine aU a [(9,af),(14,af)] rfl ?_ ?_
 .simp only[au,cH.list_fn,g,f,kM,aF,aD];first|exact cH.aK _|(and_intros<;>first|rfl|exact cH.aK _)
 refine AK.cQ (zW l (by omega)) [] rfl ?_;by_cases d:l.length=9
 .refine aU a [(19,ab)] rfl (by simp[d]) ?_;refine AK.pq 1 rfl rfl rfl (by simp) (by simp) ?_;exact AK.bC rfl (by simp[d,r6])
 .refine aU a [(19,af)] rfl ?_ ?_
  .simp only[au,show i52.bytes=16 from rfl,eF,aF,aD];and_intros<;>first|rfl|omega
  have b:=cH.cD l x;refine AK.Bn (φ':=[(4,.e (.one (.bp 1 (.sl (l.length+1) 2 0 (l.length+1))))),(5,dB ab)]) (σ':=[.cells 52 [.c (.int .i64 x.1),.c (.int .i64 x.2)],.buf 52 2 (l.length+1) (cH.fn (l++[x]))]) ?_ rfl (by simp;rfl) rfl (by simp only[au.cat,au,aF,aD];and_intros<;>first|rfl|exact b);refine AK.pq 1 rfl rfl rfl (by simp) (by simp) ?_;exact AK.bC rfl (by simp[d,r6])
def Oj(l:List bG)(c:l.length<=4000000):Ev X 123 [cP.sl l] [] (dI (if l.length=0 then 0 else(l.getD (l.length-1) (0,[])).1)) []:=by
 refine Ev.bQ Tryz.func123 rfl λb=>?_;by_cases h:l.length=0
 .rw[bo h];exact aW [(5,ab)] rfl (by simp[h]) (AK.bC rfl)
 .have a:l.getD ((l.length:Int)-1).toNat cP.b8=l.getD (l.length-1) (0,[]):=by rw[show((l.length:Int)-1).toNat=l.length-1 by omega];rfl
  rw[aY h];refine aW [(5,af)] rfl ?_ (AK.bC rfl (by simp only[au,a,aD]));simp only[au,a,bE,eF,aF,aD];and_intros<;>omega
def mR(m:Int)(l:List (Int×Int)):Int:=l.foldl (λm h=>max m (h.2+1)) m
def Az(l:List (Int×Int)):∀m n:Int,mR (max m n) l=max m (mR n l):=by
 induction l with
 |nil=>intro m n;rfl
 |cons x r a =>
  intro m n;show mR (max (max m n) (x.2+1)) r=max m (mR (max n (x.2+1)) r);grind
def GW{m:Int}{l:List (Int×Int)}(h:i<l.length):mR m (l.take (i+1))=max (mR m (l.take i)) ((l.getD i (0,0)).2+1):=by unfold mR;grind[bU]
def jm(s:bd):Int:=if s.2.1.length=0 then 1 else max 1 ((s.2.1.getD (s.2.1.length-1) (0,[])).1+1)
def EP(s:bd):mR (jm s) s.2.2=cq s:=by
 unfold jm cq;have a:mR 1 s.2.2=pw s.2.2:=rfl;split
 .exact a
 .rw[show max 1 ((s.2.1.getD (s.2.1.length-1) (0,[])).1+1)=max ((s.2.1.getD (s.2.1.length-1) (0,[])).1+1) 1 by omega,Az,a];omega
def NS(s:bd)(l:kI s)(a:rE s):Ev X 72 [oY s] [] (.fD [.one (.c (.int .i64 (cy s))),.one (.c (.int .i64 (cq s)))]) []:=by
 refine Ev.bQ Tryz.func72 rfl λB=>?_;have n:=l.p;have q:=l.sn;have u:=l.h;have A:1<=jm s/\jm s<=4000001:=by
  unfold jm;split
  .omega
  .have:=a.s _ (fM (show s.2.1.length-1<s.2.1.length by omega) (0,[]));omega
 apply AK.join [(1,.e (.one (.ptr 0 0))),(4,dI (jm s))] [wM s]
 .intro out;by_cases h:s.2.1.length=0
  .refine bO [(12,af),(1000005,ab)] rfl (by simp only[au,bR];omega) ?_;exact out _ _ rfl (by simp[jm,h])
  .have v:=a.s _ (fM (show s.2.1.length-1<s.2.1.length by omega) (0,[]));have d:s.2.1.getD ((s.2.1.length:Int)-1).toNat eX.b8=s.2.1.getD (s.2.1.length-1) (0,[]):=by rw[show((s.2.1.length:Int)-1).toNat=s.2.1.length-1 by omega];rfl
   refine bO [(12,ab)] rfl ?_ ?_
   .simp only[au,d,bE,a9,aF,aD];and_intros<;>omega
   rw[d];refine AK.law (BT (jm s) rfl rfl rfl (by unfold jm;grind) (by simp only[bE];omega)) rfl rfl ?_;refine bO [(1000005,ab)] rfl ak ?_;exact out _ _ rfl (by simp)
 refine dk rfl ak ?_;refine AK.cJ 1 (λi=>i<=s.2.2.length) (λi:Nat=>[(1,.e (.one (.ptr 0 0))),(4,dI (mR (jm s) (s.2.2.take i))),(24,cH.sl s.2.2),(25,dI s.2.2.length),(26,dI i)]) (λi=>[wM s]) (λi=>s.2.2.length-i) 0 rfl ?_ rfl ?_ rfl (by omega) ?_
 .simp[mR]
 .simp
 intro i hi;have b:∀i,1<=mR (jm s) (s.2.2.take i)/\mR (jm s) (s.2.2.take i)<=4000001:=λi=>by have o:=oh (s.2.2.take i) λx w=>a.h x (fN w);have z:mR 1 (s.2.2.take i)=pw (s.2.2.take i):=rfl;rw[show jm s=max (jm s) 1 by omega,Az,z];omega
 have o:=b i;have y:=b (i+1);by_cases h:i<s.2.2.length
 .have v:=a.h _ (fM h (0,0));have d:s.2.2.getD (i:Int).toNat cH.b8=s.2.2.getD i (0,0):=by grind
  have r:=GW (m:=jm s) h;refine bO [(27,ab)] rfl ?_ ?_
  .simp only[au,d,bE,a9,aF,aD];and_intros<;>omega
  rw[d];refine AK.law (BT (mR (jm s) (s.2.2.take (i+1))) rfl rfl rfl r.symm (by simp only[bE];omega)) rfl rfl ?_;refine dk rfl ?_ (AK.aQ (i+1) rfl ?_ ?_ h (by omega))
  .simp only[au,bE];omega
  .simp
  .simp
 .obtain rfl:i=s.2.2.length:=by omega
  rw[dt,EP]at o⊢;have f:cy s=(if s.1.length=0 then 0 else(s.1.getD (s.1.length-1) (0,[])).1)+1:=by unfold cy;split<;>rfl
  have g:-4000000<=cy s-1/\cy s-1<=4000000:=by
   rw[f];split
   .omega
   .have:=a.p _ (fM (show s.1.length-1<s.1.length by omega) (0,[]));omega
  have k:=Oj (X:=X) s.1 n;have j:=yH (X:=X) s;rw[f]at g⊢;generalize(if s.1.length=0 then 0 else(s.1.getD (s.1.length-1) (0,[])).1)=p at *;have t:bH X [(41,sr [oY s] (oY s)),(123,sr [cP.sl s.1] (dI p))]:=.cons (uG j) (.cons (uG k) .nil);refine bO [(27,af)] rfl (by simp) (AK.leaveD rfl rfl ?_);refine cG t rfl ?_ (AK.bC rfl);simp only[au,bE,aF,aD];and_intros<;>first|rfl|omega
abbrev Se(l:List Bs):C:=.sl af 1 l.length (cS.fn l)
def JK(l:List Bs):Ev X 73 [cS.sl l,dI 4] [] (.e (.one (.c (.fn (.func 124) [] [.rp [Se l],.rp [.int .i64 4]])))) []:=by refine Ev.bQ Tryz.func73 rfl λa=>?_;refine qi [] 6 rfl ak ?_;refine AK.freeze 2 0 rfl rfl rfl ?_;refine AK.freeze 3 1 rfl rfl rfl ?_;exact aW [(6,af)] rfl (by simp) (AK.bC rfl (by simp;rfl))
def u7(l:List Bs)(k:Nat):List Bs:=(l.drop (4*k)).take 4
def GF(l:List Bs)(z:l.length<=4000000){b:Nat}{N0:Nat}{φ0:Fr}{a lr':Loop}(m:Nat)(x:m<=(l.length+3) / 4)(σs:Nat->List bg)(j:List bg)(w:∀k,(σs k).length=b)(s:∀k,lX (σs k++[.loop N0 φ0 a])=ab)(t:lX (j++[.loop N0 φ0 lr'])=ab)(yc:∀k,k<m->4*k<l.length->Yields (ι:=Unit) X b [cS.sl (u7 l k)] (σs k++[.loop N0 φ0 a]) ab (λ_=>σs (k+1)++[.loop N0 φ0 a]))(kn:4*m<l.length->Yields (ι:=Unit) X b [cS.sl (u7 l m)] (σs m++[.loop N0 φ0 a]) af (λ_=>j++[.loop N0 φ0 lr'])):
  ek (ι:=Unit) X 124 [.e (.one (.ref b)),.e (.one (.c (.rp [Se l]))),.e (.one (.c (.rp [.int .i64 4])))] (σs 0++[.loop N0 φ0 a]) (λ_=>.fD []) (λ_=>if 4*m<l.length then j++[.loop N0 φ0 lr']else σs m++[.loop N0 φ0 a]):=by
 refine ek.Lc Tryz.func124 rfl rfl rfl (AK.of_code ?_);refine bu rfl ak ?_;show AW X _ (.loop _) _ _ _;refine AW.loop (S:=Nat) (λk=>k<=m) (λk=>[(0,.e (.one (.ref b))),(1,.e (.one (.c (.rp [Se l])))),(2,.e (.one (.c (.rp [.int .i64 4])))),(4,dI (4*k:Nat))]) (λk=>σs k++[.loop N0 φ0 a]) (λk=>m-k) 0 (jc _) ?_ rfl ?_
 .exact .cons rfl (db rfl (by simp))
 intro k hk;refine AK.of_code ?_;by_cases h:4*k<l.length
 .have g:au (gb l.length (aa ((4*k:Nat):Int)) ae):=by simp only[gb,au];omega
  have p:dm l.length ae-dm 0 (aa ((4*k:Nat):Int))=l.length-4*k:=by simp only[dm];omega
  refine aW [(9,ab),(1000003,ab)] rfl (by simp only[au,a9];omega) ?_;let xs:Nat->D:=λi=>([dI 4,cS.sl l,dI (4*k:Nat),.e (.one (.c (.sl af 1 (dm l.length ae-dm 0 (aa ((4*k:Nat):Int))) (my (dm 0 (aa ((4*k:Nat):Int))) (cS.fn l))))),dI (dm l.length ae-dm 0 (aa ((4*k:Nat):Int)):Nat),dI (min 4 (l.length-4*k):Nat),dI (min 4 (l.length-4*k):Nat)]:List D).getD i .any;refine AK.flags ju xs (vk (λ_ _ _=>σs k++[.loop N0 φ0 a]) 100 101 102) ?_ ?_ ?_ ?_ ?_ ?_
  .rfl
  .rfl
  .rfl
  .rfl
  .exact⟨.J3 tok bH.nil,
   .J3 tok bH.nil,
   .J3 tok bH.nil,
   en.q3 rfl rfl rfl (λ_ _ _=>OA.eval (ds:=[]) tok bH.nil rfl g),
   .J3 tok bH.nil,
   en.q3 rfl rfl rfl (λ_ _ _=>OA.lL (λ_ _ _ _=>dM rfl) (yb _ rfl rfl rfl (by grind) (by simp only[bE];omega))),
   .J3 tok bH.nil,ak⟩
  intro D y;show AK X _ _ _ _ _ (σs k++[.loop N0 φ0 a]);have v:(((4*k:Nat):Int)+((min 4 (l.length-4*k):Nat):Int))=((4*k+min 4 (l.length-4*k):Nat):Int):=by omega
  refine bu rfl ?_ ?_
  .simp only[au,bE,aF,aD];omega
  refine AK.law (bL.Pz tok rfl rfl rfl rfl (n:=l.length) (es:=cS.fn l) (tt:=af) (λ_ _ r=>fe r) rfl rfl rfl (by omega) (by omega) (by omega) (by omega)) rfl rfl ?_;have u:(u7 l k).length=min 4 (l.length-4*k):=by simp[u7]
  refine iG.le (φ':=[(0,.e (.one (.ref b))),(19,.e (.one (.ref b))),(1,.e (.one (.c (.rp [Se l])))),(2,.e (.one (.c (.rp [.int .i64 4])))),(4,dI (4*k:Nat)),(28,cS.sl (u7 l k))]) ?_ (.cons rfl (.cons rfl (db rfl ?_)))
  .have d:(σs k++[bg.loop N0 φ0 a])[b]?=aa (.loop N0 φ0 a):=by grind
   rcases cN k m with f|f
   .refine AK.yield (yc k f h) rfl rfl rfl (N0:=N0) (φ0:=φ0) (r:=a) d rfl rfl λ_=>?_;exact aW [(30,af)] rfl (by simp only[au,bE,kM,aF,aD];omega) ⟨k+1,by omega,by omega,.cons rfl (db rfl (by simp only[au.cat,au,aF,aD];grind)),rfl⟩
   .obtain rfl:k=m:=by omega
    refine AK.yield (kn h) rfl rfl rfl (N0:=N0) (φ0:=φ0) (r:=a) d rfl rfl λ_=>?_;refine aW [(30,ab)] rfl (by simp) ?_;exact AK.ret ⟨(),.inl rfl,(bo h).symm,by grind,[],.fD [],[],rfl,rfl,rfl,ak⟩
  .simp only[au.cat,au,aF,aD];have q:((4*k:Nat):Int).toNat=4*k:=by omega
   have o:(((4*k:Nat):Int)+((min 4 (l.length-4*k):Nat):Int)).toNat-((4*k:Nat):Int).toNat=(u7 l k).length:=by grind
   refine⟨o,λi hi=>?_⟩;rw[o]at hi;rw[q];show cS.enc (l.getD (4*k+i) cS.b8)=cS.enc ((u7 l k).getD i cS.b8);congr 1;simp only[u7,aj];grind
 .obtain rfl:k=m:=by omega
  refine aW [(9,af)] rfl (by simp only[au,bR];omega) ?_;refine AK.Lh rfl rfl ?_;exact⟨(),.inr rfl,(aY h).symm,by grind,[],.fD [],[],rfl,rfl,rfl,ak⟩
def JJ(k:Int)(s:bd)(l:List Bs)(j:Nat):Bool:=(ou (cy s+j) k (u7 l j)).2&&!(s.1.length+j==20)
def lU(g:Nat->Bool):Nat->Nat->Nat
 |0,j=>j
 |f+1,j=>if g j=ab then lU g f (j+1)else j
def qu(g:Nat->Bool):∀(f j:Nat),j<=lU g f j/\lU g f j<=j+f/\(∀i,j<=i->i<lU g f j->g i=ab)/\(lU g f j<j+f->g (lU g f j)=af)
 |0,j=>⟨bh _,bh _,λi b a=>absurd b (by simp only[lU]at a;omega),λh=>absurd h (by simp[lU])⟩
 |f+1,j=>by obtain⟨b,a,d,c⟩:=qu g f (j+1);rw[lU];grind
def kK(k:Int)(s:bd)(l:List Bs)(n:Nat):List bG:=(bc n).map λj:Nat=>(ou (cy s+j) k (u7 l j)).1
theorem u9(k:Int)(s:bd)(l:List Bs)(n:Nat):(kK k s l n).length=n:=by simp[kK]
def GD(k:Int)(s:bd)(l:List Bs)(n:Nat):kK k s l (n+1)=kK k s l n++[(ou (cy s+(n:Nat)) k (u7 l n)).1]:=by simp[kK,List.range_succ]
def va{s:bd}(a:rE s):-4000000<=cy s/\cy s<=4000001:=by
 unfold cy;split
 .omega
 .rename_i h;have:=a.p _ (uU h (0,[]));omega
def tX(k:Int)(s:bd)(by_:Int)(t:List bw):bd×Option Bs :=
 let l:=c7 k t (indexOf s.1);let m:=lU (JJ k s l) ((l.length+3) / 4) 0
 if m<(l.length+3) / 4 then(([],[],[]),aa [112,97,99,107,115])
 else if 20<cq s then(([],[],[]),aa [115,110,97,112,115,104,111,116,115])
 else if s.2.2.length=9 then(([],[],[]),aa [104,101,97,100,115])
 else((s.1++kK k s l m,s.2.1++[ey (cq s) k t],s.2.2++[(by_,cq s)]),ae)
def erE:Option Bs->E1
 |none=>.one (.c .jk)
 |some w=>.one (.c (.ifs 64 (.rp [.str w])))
def tSv(q:bd×Option Bs):D:=.fD [.agg [.c (HP q.1.1),.c (Gc q.1.2.1),.c (DH q.1.2.2)],erE q.2]
abbrev svF(s:bd)(by_:Int)(t:List bw)(l:List Bs):Fr:=[(2,dI by_),(3,cF.sl t),(4,.e (.one (.ptr 2 0))),(5,.e (.one (.ptr 3 0))),(8,.e (.one (.ptr 4 0))),(9,.e (.one (.ptr 5 0))),(10,.e (.one (.ptr 9 0))),(11,.e (.one (.ptr 10 0))),(12,dI (cq s)),(33,.e (.one (.c (.fn (.func 124) [] [.rp [Se l],.rp [.int .i64 4]]))))]
abbrev NO(b d:av×ai)(k:Int)(s:bd)(a:C)(ps:List bG)(no:Int):List bg:=GB b d++[.cells 27 [.c (HP s.1),.c (Gc s.2.1),.c (DH s.2.2)],.cells 3 [.c (.int .i64 k)],.cells 27 [g8,g8,g8],.cells 61 [.c a],
 .buf 46 2 ps.length (cP.fn ps),.buf 73 2 s.2.1.length (eX.fn s.2.1),.dead,.cells 27 [.bp 6 (.sl ps.length 2 0 ps.length),.bp 7 (.sl s.2.1.length 2 0 s.2.1.length),.c (DH s.2.2)],.cells 3 [.c (.int .i64 no)]]
def NP{b c:av×ai}{s:bd}{d a:C}{ps Vh:List bG}{no no':Int}{r r':Loop}(i:Nat)(B:bg)(hB:(NO b c k s d ps no++[.loop N φ r])[i]?=aa B):Fe 12 (NO b c k s a Vh no'++[.loop N φ r']) i B:=by
 rcases i with _|_|_|_|_|_|_|_|_|_|_|_|i<;>first
  |(cases hB;exact .inl ⟨_,_,rfl,rfl⟩)
  |(cases hB;exact .inr (.inr (.inl ⟨_,_,_,_,rfl,rfl⟩)))
  |(cases hB;exact .inr (.inr (.inr ⟨by grind,by grind⟩)))
  |(cases hB;done)
def NR(d b:av×ai)(k:Int)(s:bd)(by_:Int)(t:List bw)(hk:b5 k=ab)(n:kI s)(E:rE s)(F:cA t=ab)(Q:(cZ s.1).length<=100000)(L:sD (indexOf s.1) (indexOf s.1).length=ab)(o:kz s.2.2=ab)(Z:by_=1∨by_=2)(H:1<=cq s):
  Ev X 26 [oY s,dI k,dI by_,cF.sl t] (GB d b) (tSv (tX k s by_ t)) (GB d b):=by
 obtain⟨r,a⟩:∃r,r=tX k s by_ t:=⟨_,rfl⟩;rw[<-a];unfold tX at a;simp only at a;refine(ek.Pm (ι:=Unit) (σ':=λ_=>GB d b) (res:=λ_=>tSv r) Tryz.func26 rfl rfl rfl ?_).E9
 refine lA.seq (AW.top (AK.of_code ?_));refine bu rfl ak ?_;refine lA.seq (AW.top (AK.of_code ?_));refine bu rfl ak ?_;refine AK.cQ (yk s n.p n.p2 n.sn n.s2 n.h) [] rfl ?_;refine bu rfl ak ?_;refine lA.seq (AW.top (AK.of_code ?_));refine AK.pq 8 rfl rfl rfl (by simp) (by simp;exact⟨ak,ak⟩) ?_;refine bu rfl ak ?_;refine AK.cQ (NS s n E) [] rfl ?_;refine bu rfl ak ?_;refine lA.seq (lA.seq (AW.top (AK.of_code ?_)));generalize N:indexOf s.1=ix at *;have x:bH X [(11,sr [cP.sl s.1] (cH.sl ix)),(73,sr [cS.sl (c7 k t ix),dI 4] (.e (.one (.c (.fn (.func 124) [] [.rp [Se (c7 k t ix)],.rp [.int .i64 4]])))))]:=.cons (uG (N▸vL s.1 n.p Q)) (.cons (uG (JK _)) .nil);have B:ix.length<=4000000:=by grind[ql]
 refine AK.calm ju [dI k,cF.sl t,.e (.one (.ptr 2 0)),cP.sl s.1,cH.sl ix,cS.sl (c7 k t ix),.e (.one (.c (.fn (.func 124) [] [.rp [Se (c7 k t ix)],.rp [.int .i64 4]])))] 12 rfl rfl rfl rfl rfl ⟨OA.c8 tok x rfl,OA.c8 tok x rfl,OA.c8 tok x rfl,OA.c8 tok x rfl,
  OA.eval (ds:=[]) tok x rfl rfl,OA.Ve (m9.qS (vI d b k t ix hk F L B).sH [0,1] rfl rfl rfl rfl rfl rfl rfl (λ_=>rfl) rfl (λ_=>rfl)),OA.eval (ds:=[]) tok x rfl rfl,ak⟩ ?_
 refine bu rfl ak ?_;refine lA.block ?_;refine lA.norm (svF s by_ t (c7 k t ix)) (NO d b k s .jk (s.1++kK k s (c7 k t ix) 0) (cy s+(0:Nat))) rfl ?_ rfl ?_ ?_
 .simp
 .simp[kK];exactλi _=>rfl
 have D:∀p∈c7 k t ix,bA p=ab:=(gC (dx F)).1;have O:(c7 k t ix).length<=4000000:=iN (gC (dx F)).2 (by decide);generalize c7 k t ix=l at *;obtain⟨g1,g2,V,g4⟩:=qu (JJ k s l) ((l.length+3) / 4) 0;have JX:=n.p;generalize hmd:lU (JJ k s l) ((l.length+3) / 4) 0=m at *;refine lA.Ft (capD:=fY [.rp [Se l],.rp [.int .i64 4]]) (cx.callee rfl)
  (GF (lr':=?lr2) l O m (by omega) (λj=>NO d b k s .jk (s.1++kK k s l j) (cy s+(j:Nat))) (NO d b k s (.ifs 64 (.rp [.str [112,97,99,107,115]])) (s.1++kK k s l m) (cy s+(m:Nat))) (λj=>rfl) (λj=>rfl) rfl (λj U P=>?yc) λT=>?kn) λi=>?hk
 case kn =>
  have C:JJ k s l m=af:=g4 (by omega);have w:=vK (X:=X) d b (cy s+(m:Nat)) k (u7 l m) (by have:=va E;simp only[bE];omega) hk (λp I=>D p (oE (fN I))) (by simp[u7];omega);have y:=u9 k s l m;generalize hq:ou (cy s+(m:Nat)) k (u7 l m)=q at *;refine Yields.uv (rest:=λ_=>[.cells 46 [.c (.int .i64 q.1.1),.c (.sl af 2 q.1.2.length (ei.fn q.1.2))],.dead]) (Yields.intro (j:=aa .ret) rfl rfl rfl rfl (AK.of_code ?_)) ?_ ?_
  .refine bu rfl ak ?_;refine⟨rfl,rfl,AK.of_code ?_⟩;refine bu rfl ak ?_;refine AK.cQ w [0,1] rfl ?_;have f:(s.1++kK k s l m).length=s.1.length+m:=by grind
   have g:q.2=ab->s.1.length+m=20:=λh=>by simpa[JJ,hq,h]using C
   cases v:q.2 with
   |false =>
    refine aW [(44,ab),(49,ab),(1000007,ab)] rfl (by simp[v]) ?_;refine AK.region ?_;refine qi [] 3 rfl ak ?_;refine AK.wG 52 13 rfl rfl rfl ?_;refine bu rfl ak (AK.ret ?_);refine⟨rfl,rfl,(),ic rfl ?_⟩;simp only[au.cat,au,aF,aD];and_intros<;>first|exact cE.same|exact cE.nil|rfl
   |true =>
    have:=g v;refine aW [(44,af),(49,ab),(1000007,ab)] rfl (by simp only[au,v,f];grind) ?_;refine AK.region ?_;refine qi [] 3 rfl ak ?_;refine AK.wG 52 13 rfl rfl rfl ?_;refine bu rfl ak (AK.ret ?_);refine⟨rfl,rfl,(),ic rfl ?_⟩;simp only[au.cat,au,aF,aD];and_intros<;>first|exact cE.same|exact cE.nil|rfl
  .exactλ_=>rfl
  .exactλ_=>NP
 case yc =>
  have u:JJ k s l j=ab:=V j (jc _) U;have w:=vK (X:=X) d b (cy s+(j:Nat)) k (u7 l j) (by have:=va E;simp only[bE];omega) hk (λp I=>D p (oE (fN I))) (by simp[u7];omega);have y:=u9 k s l j;have W:=GD k s l j;obtain⟨q1,q2⟩:(ou (cy s+(j:Nat)) k (u7 l j)).2=ab/\¬s.1.length+j=20:=by simpa[JJ]using u
  generalize ou (cy s+(j:Nat)) k (u7 l j)=q at *;have f:(s.1++kK k s l j).length=s.1.length+j:=by grind
  have R:s.1++kK k s l (j+1)=(s.1++kK k s l j)++[q.1]:=by grind
  generalize s.1++kK k s l j=ps at *;refine Yields.uv (rest:=λ_=>[.cells 46 [.c (.int .i64 q.1.1),.c (.sl af 2 q.1.2.length (ei.fn q.1.2))]]) (Yields.intro (j:=ae) rfl rfl rfl rfl (AK.of_code ?_)) ?_ ?_
  .refine bu rfl ak ?_;refine⟨rfl,rfl,AK.of_code ?_⟩;refine bu rfl ak ?_;refine AK.cQ w [0,1] rfl ?_;have M:=cP.cD ps q.1;have hb:=va E;refine aW [(44,af),(49,af)] rfl ?_ ?_
   .simp only[au,bE,q1,show i46.bytes=32 from rfl,f,eF,dz,kM,aF,aD];omega
   refine⟨rfl,rfl,(),ic rfl ?_⟩;have G:(ps++[q.1]).length=ps.length+1:=by simp
   have K:cy s+(j:Int)+1=cy s+((j+1:Nat):Int):=by omega
   rw[R,G,<-K];simp only[au.cat,au,aF,aD];and_intros<;>first|exact cE.same|exact M|rfl
  .exactλ_=>rfl
  .exactλ_=>NP
 case hk =>
  by_cases P:4*m<l.length
  .rw[bo P];refine⟨_,rfl,by simp,.ret,rfl,?_⟩;rw[bo (show m<(l.length+3) / 4 by omega)]at a;subst a;simp only[xH,C9];refine .freeze 8 4 rfl rfl rfl (.freeze 9 5 rfl rfl rfl (.of ⟨(),rZ.cells tok [0,1] rfl ?_ rfl rfl rfl Cj⟩));simp
  .rw[aY P];refine⟨_,rfl,by simp,.normal,rfl,?_⟩;rw[aY (show¬m<(l.length+3) / 4 by omega)]at a;show lA X _ _ _ _ _;refine AW.top (AK.of_code ?_);by_cases g:20<cq s
   .rw[bo g]at a;subst a;refine aW [(63,ab),(1000011,ab)] rfl (by simp only[au,a9];omega) ?_;refine AK.region ?_;refine qi [] 3 rfl ak ?_;refine AK.wG 66 13 rfl rfl rfl ?_;refine bu rfl ak (AK.ret (.freeze 8 4 rfl rfl rfl (.freeze 9 5 rfl rfl rfl (.of ⟨(),rZ.cells tok [0,1] rfl ?_ rfl rfl rfl Cj⟩))));simp
   rw[aY g]at a;have J:s.2.2.length<=9:=by simp only[kz,bM,a9]at o;omega
   refine aW [(63,af)] rfl (by simp only[au,bR];omega) ?_;refine AK.cQ (GA d b (cq s) k t ⟨H,by omega⟩ hk F) [0,1] rfl ?_;have M:=eX.cD s.2.1 (ey (cq s) k t);have S:=n.sn;refine aW [(1000014,ab)] rfl ?_ ?_
   .simp only[au,show i73.bytes=32 from rfl,aF,aD];omega
   refine AK.region ?_;refine bu rfl ak ?_;refine AK.cQ (GG s.2.2 (by_,cq s) o (by simp only[gD,bM,a9];omega) J) [] rfl ?_;by_cases z:s.2.2.length=9
   .rw[bo z]at a;subst a;refine aW [(91,ab),(1000016,ab)] rfl (by simp[z]) ?_;refine AK.region ?_;refine qi [] 3 rfl ak ?_;refine AK.wG 94 14 rfl rfl rfl ?_;refine bu rfl ak (AK.ret (.freeze 8 4 rfl rfl rfl (.freeze 9 5 rfl rfl rfl (.of ⟨(),rZ.cells tok [0,1] rfl ?_ rfl rfl rfl Cj⟩))));simp
   .rw[aY z]at a;subst a;simp only[aY z];refine aW [(91,af),(1000018,ab)] rfl (by simp[z]) ?_;have y:(s.1++kK k s l m).length=s.1.length+m:=by grind[u9]
    generalize s.1++kK k s l m=ps at *;generalize hsw:s.2.1++[ey (cq s) k t]=sw at *;have A:sw.length=s.2.1.length+1:=by grind
    generalize Y:s.2.2++[(by_,cq s)]=hw at *;refine AK.Bn (φ':=[(8,.e (.one (.ptr 4 0))),(9,.e (.one (.ptr 5 0))),(10,.e (.one (.ptr 9 0)))]) (σ':=GB d b++[.cells 27 [.c (HP s.1),.c (Gc s.2.1),.c (DH s.2.2)],.cells 3 [.c (.int .i64 k)],.cells 27 [g8,g8,g8],.cells 61 [.c .jk],.buf 46 2 ps.length (cP.fn ps),.buf 73 2 sw.length (eX.fn sw),.dead,.cells 27 [.bp 6 (.sl ps.length 2 0 ps.length),.bp 7 (.sl sw.length 2 0 sw.length),.c (DH hw)],.cells 3 [.c (.int .i64 (cy s+(m:Nat)))],.dead,.rX,.cells 73 [.c (.int .i64 (ey (cq s) k t).1),.c (.sl af 2 (ey (cq s) k t).2.length (cL.fn (ey (cq s) k t).2))]]) ?_ rfl ?_ rfl ?_
    .refine AK.pq 6 rfl rfl rfl (by simp) (by simp) ?_;refine AK.pq 7 rfl rfl rfl (by simp) (by simp) ?_;refine bu rfl ak (AK.ret (.freeze 8 4 rfl rfl rfl (.freeze 9 5 rfl rfl rfl (.of ⟨(),rZ.cells tok [0,1] rfl ?_ rfl rfl rfl Cj⟩))));simp[r6]
    .simp
    .simp only[au.cat,au,A,aF,aD];and_intros<;>first|exact cE.same|exact M|rfl
end
def mP{α a:Type}{f:α->List a}{n:Nat}:∀{l:List α},(∀x∈l,(f x).length<=n)->(l.flatMap f).length<=n*l.length
 |[],_=>by simp
 |x::l,h=>by have d:=h x lM;have c:=mP (l:=l) λy b=>h y (pH _ b);grind[Nat.mul_succ]
def Gu{x:ff}(h:x.2.length<=6/\∀y∈x.2,y.2.length<=40):(wO x.2).length<=240:=by have:=mP (f:=λy:jD=>y.2) (n:=40) h.2;unfold wO;omega
abbrev cTr:List (Nat×dJ):=[(45,uI)]
def Gq(k:Int)(s:bd)(t:OB s):Ev (Cx.beside ag) 47 [oY s,dI k] [] (dB ((bc s.2.1.length).all (kA k s))) []:=by
 refine Ev.bQ Tryz.func47 rfl λw=>?_;have x:=t.sN;have q:=t.sm;have c:bH (Cx.beside ag) cTr:=.cons zU .nil;refine ck c rfl ak ?_;refine AK.cJ 1 (λi=>i<=s.2.1.length/\∀j,j<i->kA k s j=ab) (λi:Nat=>[(1,dI k),(2,.e (.one (.ptr 0 0))),(10,eX.sl s.2.1),(11,dI s.2.1.length),(12,dI i)]) (λ_=>[J5 s]) (λi=>s.2.1.length-i) 0 rfl (by simp) rfl (by simp) rfl ⟨by omega,by omega⟩ ?_;rintro i ⟨hi,b⟩;by_cases h:i<s.2.1.length
 .have n:s.2.1.getD i eX.b8=s.2.1.getD i (0,[]):=rfl;have o:s.2.1.getD (i-1) eX.b8=s.2.1.getD (i-1) (0,[]):=rfl;have a:kA k s i=(decide (1<=(s.2.1.getD i (0,[])).1/\(s.2.1.getD i (0,[])).1<=20)&&Eb (·.1) (0,[]) s.2.1 i&&(cd k (s.2.1.getD i (0,[])) s.1).isSome):=rfl;have r:=rq (f:=λp:ff=>p.1) (d:=(0,[])) (l:=s.2.1) (i:=i);have g:=q _ (ml (d:=(0,[])) h);generalize s.2.1.getD i (0,[])=p at *;generalize s.2.1.getD (i-1) (0,[])=p' at *;by_cases c1:1<=p.1
  rotate_left
  .refine aU c [(13,ab),(20,ab),(25,ab),(40,ab)] rfl ?_ (AK.fR (cz.zero rfl ?_))
   .simp[-aj,n];omega
   .rw[ja h (by grind)];simp
  by_cases c2:p.1<=20
  rotate_left
  .refine aU c [(13,ab),(20,af),(25,ab),(40,ab)] rfl ?_ (AK.fR (cz.zero rfl ?_))
   .simp[-aj,n];omega
   .rw[ja h (by grind)];simp
  rw[de ⟨c1,c2⟩,fP]at a;by_cases u:i=0
  .subst u;rw[show Eb (·.1) (0,[]) s.2.1 0=ab from rfl,fP]at a;cases m:(cd k p s.1).isSome with
   |false =>
    refine aU c [(13,ab),(20,af),(25,af),(27,af),(40,af),(50,ab)] rfl ?_ (AK.fR (cz.zero rfl ?_))
    .simp[-aj,n,bE,cL.list_fn,cL.aK,cP.list_fn,cP.aK,m,g.1];and_intros<;>first|omega|grind
    .rw[ja h (a.trans m)];simp
   |true =>
    refine aU c [(13,ab),(20,af),(25,af),(27,af),(40,af),(50,af)] rfl ?_ (AK.aQ 1 rfl (by simp) (by simp) ⟨h,ky b (a.trans m)⟩ (by omega));simp[-aj,n,bE,cL.list_fn,cL.aK,cP.list_fn,cP.aK,m,g.1];and_intros<;>first|omega|grind
  rw[r u]at a;by_cases v:p'.1<p.1
  rotate_left
  .refine aU c [(13,ab),(20,af),(25,af),(28,ab),(38,ab),(40,ab)] rfl ?_ (AK.fR (cz.zero rfl ?_))
   .simp[-aj,n,o,bE];omega
   .rw[ja h (by grind)];simp
  rw[de v,fP]at a;cases m:(cd k p s.1).isSome with
  |false =>
   refine aU c [(13,ab),(20,af),(25,af),(28,ab),(38,af),(40,af),(50,ab)] rfl ?_ (AK.fR (cz.zero rfl ?_))
   .simp[-aj,n,o,bE,cL.list_fn,cL.aK,cP.list_fn,cP.aK,m,g.1];and_intros<;>first|omega|grind
   .rw[ja h (a.trans m)];simp
  |true =>
   refine aU c [(13,ab),(20,af),(25,af),(28,ab),(38,af),(40,af),(50,af)] rfl ?_ (AK.aQ (i+1) rfl (by simp) (by simp) ⟨h,ky b (a.trans m)⟩ (by omega));simp[-aj,n,o,bE,cL.list_fn,cL.aK,cP.list_fn,cP.aK,m,g.1];and_intros<;>first|omega|grind
 obtain rfl:i=s.2.1.length:=by omega
 rw[dy.2 b];refine aU c [(13,af)] rfl (by simp) (AK.leaveD rfl rfl ?_);exact ck c rfl ak (AK.bC rfl)
def zp(k:Int)(s:bd):fa k s=(b5 k&&Ai k s&&(bc s.2.1.length).all (kA k s)&&kz s.2.2):=by unfold fa Ai;cases(bc s.1.length).all (mM k s.1)<;>cases decide (bx s.1).Nodup<;>cases(bc s.2.1.length).all (kA k s)<;>cases b5 k<;>cases kz s.2.2<;>cases decide (s.1.length<=20)<;>rfl
abbrev Uh:dJ:=pv RM aI (λs k=>dB (Ai k s)) λs k=>[b5 k=ab,OB s]
abbrev Ui:dJ:=pv RM aI (λs k=>dB ((bc s.2.1.length).all (kA k s))) λs _=>[OB s]
def Ef(k:Int)(s:bd)(e:OB s):Ev (Cx.beside ag) 14 [dI k,oY s] [] (dB (fa k s)) []:=by
 refine Ev.bQ Tryz.func14 rfl λi=>?_;have b:bH (Cx.beside ag) [(41,Gm),(32,kD aI (λk=>dB (b5 k)) λ_=>[]),(46,Uh),(47,Ui),(48,tN)]:=.cons MZ (.cons t32 (.cons (.sI λs k h=>Gn k s h.1 h.2) (.cons (.sI λs k h=>Gq k s h) (.cons H5 .nil))));have c:=cP.list_fn s.1;have d:=eX.list_fn s.2.1;have a:=cH.list_fn s.2.2;rw[zp];cases hk:b5 k
 .exact aU b [(10,af),(15,af),(20,af)] rfl (by simp[hk,c,d,a,cP.aK,eX.aK,cH.aK]) (AK.bC rfl)
 cases f:Ai k s
 .exact aU b [(10,ab),(15,af),(20,af)] rfl (by simp[hk,c,d,a,cP.aK,eX.aK,cH.aK,e,f]) (AK.bC rfl)
 cases g:(bc s.2.1.length).all (kA k s)
 .exact aU b [(10,ab),(15,ab),(20,af)] rfl (by simp[-bz,-List.all_eq_false,hk,c,d,a,cP.aK,eX.aK,cH.aK,e,f,g]) (AK.bC rfl)
 exact aU b [(10,ab),(15,ab),(20,ab)] rfl (by simp[-bz,-List.all_eq_false,hk,c,d,a,cP.aK,eX.aK,cH.aK,e,f,g]) (AK.bC rfl (by simp[a]))
abbrev uS:dJ:=pv aI RM (λk s=>dB (fa k s)) λ_ s=>[OB s]
def Aj:eh (Cx.beside ag) 14 uS:=.sI λk s h=>Ef k s h
abbrev OD(a b:av×ai):List bg:=GB a b++[GBE]
def nv(k:Int)(s:bd)(by_:Int)(t:List bw):bd×Bool :=
 if fa k s=ab/\(by_=1∨by_=2)/\cA t=ab then(match(tX k s by_ t).2 with|none=>((tX k s by_ t).1,ab)|some _=>(s,af))else(([],[],[]),af)
structure vc(k:Int)(s:bd):Prop where
 hk:b5 k=ab
 sp:(cZ s.1).length<=100000
 ix:sD (indexOf s.1) (indexOf s.1).length=ab
 log:kz s.2.2=ab
 sn:1<=cq s
def jw:∀j,j<3->([0,1,2]:List Nat)[j]?=aa j:=by decide
def NV{X:Cx ag}(v:ai):Ev X 27 [.e (.one (.c .jk)),OC v] [] (dB af) []:=by refine Ev.bQ Tryz.func27 rfl λa=>?_;refine bu rfl ak ?_;refine AK.law (FU rfl Tryz.underlying61 rfl rfl rfl) rfl rfl ?_;exact aW [(9,ab)] rfl (by simp) (AK.bC rfl)
def iv(f d:av×ai)(k:Int)(s:bd)(by_:Int)(t:List bw)(l:kI s)(j:OB s)(z:rE s)(H:bE .i64 by_)(y:fa k s=ab->vc k s):
  Ev (Cx.beside ag) 8 [dI k,oY s,dI by_,cF.sl t] (OD f d) (tSt (nv k s by_ t).1 (nv k s by_ t).2) (OD f d):=by
 refine Ev.rK tok Tryz.func8 rfl rfl rfl λG=>?_;have a:bH (Cx.beside ag) [(14,uS),(25,Xq)]:=.cons Aj (.cons t25 .nil);by_cases i:fa k s=ab
 .by_cases n:by_=1∨by_=2
  .by_cases m:cA t=ab
   .have e:nv k s by_ t=(match(tX k s by_ t).2 with|none=>((tX k s by_ t).1,ab)|some _=>(s,af)):=bo ⟨i,n,m⟩;rw[e];obtain⟨F,C,D,E,B⟩:=y i;have r:=NR (X:=Cx.beside ag) f d k s by_ t F l z m C D E n B;apply AK.join [(0,dI k),(2,dI by_),(3,cF.sl t),(5,.e (.one (.ptr 3 0))),(8,.e (.one (.ptr 4 0)))] (OD f d++[.cells 27 [.c (HP s.1),.c (Gc s.2.1),.c (DH s.2.2)],.cells 27 [g8,g8,g8]])
    .intro out;rcases n with rfl|rfl
     .refine bm a [(17,af),(20,af),(25,af),(29,af),(1000003,ab)] rfl ?_ (out _ _ rfl ?_)
      .simp only[au,cP.list_fn,eX.list_fn,cH.list_fn,cF.list_fn,i,iu,m];and_intros<;>first|rfl|exact True.intro|exact cP.aK _|exact eX.aK _|exact cH.aK _|exact cF.aK _|exact j
      .simp
     .refine bm a [(17,af),(20,ab),(25,af),(29,af),(1000003,ab)] rfl ?_ (out _ _ rfl ?_)
      .simp only[au,cP.list_fn,eX.list_fn,cH.list_fn,cF.list_fn,i,iu,m];and_intros<;>first|rfl|exact True.intro|exact cP.aK _|exact eX.aK _|exact cH.aK _|exact cF.aK _|exact j
      .simp
    have u:∀v:ai,Ev (Cx.beside ag) 27 [.e (.one (.c .jk)),OC v] [] (dB af) []:=λv=>NV v;generalize tX k s by_ t=q at *;obtain⟨x,A⟩:=q;cases A with
    |none =>
     have b:Ev (Cx.beside ag) 26 [oY s,dI k,dI by_,cF.sl t] (GB f d) (.fD [.agg [.c (HP x.1),.c (Gc x.2.1),.c (DH x.2.2)],.one (.c .jk)]) (GB f d):=r;refine cG a rfl ak ?_;refine AK.cQ b [0,1] rfl ?_;refine bm a [(1000005,ab)] rfl ak ?_;refine AK.Hh 12 6 rfl rfl λg=>?_;refine cG a rfl ak ?_;refine AK.Rp 40 rfl ?_;refine AK.cQ (u _) [] rfl ?_;refine bm a [(41,af)] rfl (by simp) ?_;refine AK.lZ () [0,1,2] rfl rfl rfl rfl rfl rfl rfl rfl rfl ?_ rfl rfl rfl rfl jw;simp
    |some w =>
     have b:Ev (Cx.beside ag) 26 [oY s,dI k,dI by_,cF.sl t] (GB f d) (.fD [.agg [.c (HP x.1),.c (Gc x.2.1),.c (DH x.2.2)],.one (.c (.ifs 64 (.rp [.str w])))]) (GB f d):=r;refine cG a rfl ak ?_;refine AK.cQ b [0,1] rfl ?_;refine bm a [(1000005,ab)] rfl ak ?_;refine AK.Hh 12 6 rfl rfl λg=>?_;refine AK.S0 11 rfl λp=>?_;refine cG a rfl ak ?_;refine AK.Rp 40 rfl ?_;refine AK.cQ (NU p g) [2,6] rfl ?_;refine bm a [(41,ab)] rfl (by simp) ?_;refine AK.cQ (yj s l.p l.p2 l.sn l.s2 l.h) [] rfl ?_;refine aao a [] 2 rfl ak ?_;refine AK.Lx ?_;refine AK.pq 7 rfl rfl rfl (by simp) (by simp) ?_;refine AK.pq 8 rfl rfl rfl (by simp) (by simp) ?_;refine AK.lZ () [0,1,2] rfl rfl rfl rfl rfl rfl rfl rfl rfl ?_ rfl rfl rfl rfl jw;simp[r6]
   .have e:nv k s by_ t=(([],[],[]),af):=aY λh=>m h.2.2;rw[e];have o:cA t=af:=by grind
    rcases n with rfl|rfl
    .refine bm a [(17,af),(20,af),(25,af),(29,ab)] rfl ?_ ?_
     .simp only[au,cP.list_fn,eX.list_fn,cH.list_fn,cF.list_fn,i,iu,o];and_intros<;>first|rfl|exact True.intro|exact cP.aK _|exact eX.aK _|exact cH.aK _|exact cF.aK _|exact j
     refine AK.lZ () [0,1,2] rfl rfl rfl rfl rfl rfl rfl rfl rfl ?_ rfl rfl rfl rfl jw;simp
    .refine bm a [(17,af),(20,ab),(25,af),(29,ab)] rfl ?_ ?_
     .simp only[au,cP.list_fn,eX.list_fn,cH.list_fn,cF.list_fn,i,iu,o];and_intros<;>first|rfl|exact True.intro|exact cP.aK _|exact eX.aK _|exact cH.aK _|exact cF.aK _|exact j
     refine AK.lZ () [0,1,2] rfl rfl rfl rfl rfl rfl rfl rfl rfl ?_ rfl rfl rfl rfl jw;simp
  .have e:nv k s by_ t=(([],[],[]),af):=aY λh=>n h.2.1;rw[e];refine bm a [(17,af),(20,ab),(25,ab),(29,ab)] rfl ?_ ?_
   .simp only[au,cP.list_fn,eX.list_fn,cH.list_fn,i,kM,l8,dz];and_intros<;>first|rfl|exact True.intro|exact cP.aK _|exact eX.aK _|exact cH.aK _|exact j|grind
   refine AK.lZ () [0,1,2] rfl rfl rfl rfl rfl rfl rfl rfl rfl ?_ rfl rfl rfl rfl jw;simp
 .have e:nv k s by_ t=(([],[],[]),af):=aY λh=>i h.1;rw[e];refine bm a [(17,ab),(25,ab),(29,ab)] rfl ?_ ?_
  .simp only[au,cP.list_fn,eX.list_fn,cH.list_fn];and_intros<;>first|rfl|exact True.intro|exact cP.aK _|exact eX.aK _|exact cH.aK _|exact j|grind
  refine AK.lZ () [0,1,2] rfl rfl rfl rfl rfl rfl rfl rfl rfl ?_ rfl rfl rfl rfl jw;simp
section
variable {X:Cx ag}[X.ik]
def fV(k:Int)(s:bd)(by_:Int)(t:List bw):bd×Bool :=
 if fa k s=ab/\(1<=by_/\by_<=2)/\cA t=ab then(if ga k s t=ab then s else cn k s by_ t,!ga k s t)else(([],[],[]),af)
def nI(k:Int)(s:bd)(by_:Int)(t:List bw)(a:kI s)(m:rE s)(i:fa k s=ab->vc k s):
  Ev X 7 [dI k,oY s,dI by_,cF.sl t] [] (tSt (fV k s by_ t).1 (fV k s by_ t).2) []:=by
 refine Ev.rK tok Tryz.func7 rfl rfl rfl λy=>?_;have f:bH X [(21,Ag),(22,DI),(23,Xb)]:=.cons Js (.cons Gd (.cons t23 .nil));by_cases b:fa k s=ab
 .by_cases c:1<=by_/\by_<=2
  .by_cases d:cA t=ab
   .have e:fV k s by_ t=(if ga k s t=ab then s else cn k s by_ t,!ga k s t):=bo ⟨b,c,d⟩;rw[e];obtain⟨q,n,x,u,w⟩:=i b;have o:∀p∈s.1,0<p.2.length:=λp r=>((fh.1 b).pk p r).len.1;cases g:ga k s t with
    |true =>
     refine bm f [(14,af),(19,af),(23,af)] rfl ?_ ?_
     .simp only[au,cP.list_fn,eX.list_fn,cH.list_fn,cF.list_fn,b,iu,d,c,j5];and_intros<;>first|rfl|exact True.intro|exact cP.aK _|exact eX.aK _|exact cH.aK _|exact cF.aK _|exact a.s2|exact a.p|exact a.sn
     refine AK.cP (sE k s by_ t q a m (dx d) n o g) [] rfl (λ_=>rfl) λ_=>?_;refine dk rfl ak ?_;refine AK.lZ () [] rfl rfl rfl rfl rfl rfl rfl rfl rfl ?_ rfl rfl rfl rfl x8;simp
    |false =>
     refine AK.spare 46 2 ?_;refine bm f [(14,af),(19,af),(23,af)] rfl ?_ ?_
     .simp only[au,cP.list_fn,eX.list_fn,cH.list_fn,cF.list_fn,b,iu,d,c,j5];and_intros<;>first|rfl|exact True.intro|exact cP.aK _|exact eX.aK _|exact cH.aK _|exact cF.aK _|exact a.s2|exact a.p|exact a.sn
     refine AK.cP (y4 k s by_ t q a m (dx d) n o g) [0] rfl (λ_=>rfl) λv=>?_;refine dk rfl ak ?_;refine AK.sq 0 2 0 (E:=46) (k:=2) (cl:=HP (cn k s by_ t).1) (by decide) rfl rfl rfl (λ_ h=>h) ?_;refine AK.lZ () [] rfl rfl rfl rfl rfl rfl rfl rfl rfl ?_ rfl rfl rfl rfl x8;simp
   .have e:fV k s by_ t=(([],[],[]),af):=aY λh=>d h.2.2;rw[e];have l:cA t=af:=by grind
    refine bm f [(14,af),(19,af),(23,ab)] rfl ?_ ?_
    .simp only[au,cP.list_fn,eX.list_fn,cH.list_fn,cF.list_fn,b,iu,l,c,j5];and_intros<;>first|rfl|exact True.intro|exact cP.aK _|exact eX.aK _|exact cH.aK _|exact cF.aK _|exact a.s2|exact a.p|exact a.sn
    refine AK.lZ () [] rfl rfl rfl rfl rfl rfl rfl rfl rfl ?_ rfl rfl rfl rfl x8;simp
  .have e:fV k s by_ t=(([],[],[]),af):=aY λh=>c h.2.1;rw[e];refine bm f [(14,af),(19,ab),(23,ab)] rfl ?_ ?_
   .simp only[au,cP.list_fn,eX.list_fn,cH.list_fn,b,c,k9];and_intros<;>first|rfl|exact True.intro|exact cP.aK _|exact eX.aK _|exact cH.aK _|exact a.s2|exact a.p|exact a.sn
   refine AK.lZ () [] rfl rfl rfl rfl rfl rfl rfl rfl rfl ?_ rfl rfl rfl rfl x8;simp
 .have e:fV k s by_ t=(([],[],[]),af):=aY λh=>b h.1;rw[e];have j:fa k s=af:=by grind
  refine bm f [(14,ab),(19,ab),(23,ab)] rfl ?_ ?_
  .simp only[au,cP.list_fn,eX.list_fn,cH.list_fn,j];and_intros<;>first|rfl|exact True.intro|exact cP.aK _|exact eX.aK _|exact cH.aK _|exact a.s2|exact a.p|exact a.sn
  refine AK.lZ () [] rfl rfl rfl rfl rfl rfl rfl rfl rfl ?_ rfl rfl rfl rfl x8;simp
end
def y5{k:Int}{l:List cm}:∀(ps a:List Bs),a.Nodup->(ps.foldl (iz k l) a).Nodup
 |[],a,h=>h
 |p::ps,a,h=>by rw[jN];refine y5 ps _ ?_;unfold iz;grind
def nJ(k:Int)(t:List bw)(l:List cm):(c7 k t l).Nodup:=y5 _ _ List.nodup_nil
theorem vd{l:List br}{x y:br}:y∈gI l x↔y=x∨y∈l:=by
 induction l with
 |nil=>simp[gI]
 |cons a r b=>simp only[gI];split<;>simp[b,or_left_comm,or_assoc]
def NW{l:List br}{x:br}(h:l.Pairwise λa b=>a.1<b.1)(c:∀y∈l,y.1≠x.1):(gI l x).Pairwise λa b=>a.1<b.1:=by
 induction l with
 |nil=>simp[gI]
 |cons a r g =>
  obtain⟨f,d⟩:=jL.1 h;have e:=c a lM;simp only[gI];grind[List.pairwise_cons,vd]
def NX:∀(l a:List br),a.Pairwise (λx y=>x.1<y.1)->l.Pairwise (λx y=>x.1≠y.1)->(∀x∈l,∀y∈a,y.1≠x.1)->(l.foldl gI a).Pairwise λx y=>x.1<y.1
 |[],_,h,_,_=>h
 |x::l,a,h,b,c=>by obtain⟨d1,d2⟩:=jL.1 b;refine NX l _ (NW h (c x lM)) d2 λz d y e=>?_;grind[vd]
theorem wR(k:Int)(qs:List Bs):o7 k qs=(qs.map (kF k)).foldl gI []:=by unfold o7;rw[List.foldl_map];rfl
theorem Cp{qs:List Bs}(hk:b5 k=ab)(d:∀q∈qs,bA q=ab)(h:qs.Nodup):(qs.map (kF k)).Pairwise λx y=>x.1≠y.1:=by rw[List.pairwise_map];refine List.Pairwise.imp_of_mem (λ{a b} f g c e=>c ?_) h;exact ru hk (d a f) (d b g) e
theorem EH{no:Int}{qs:List Bs}(hk:b5 k=ab)(a:∀q∈qs,bA q=ab)(b:qs.Nodup)(c:qs.length<=4):Au no k qs=fT no k qs:=by
 show(no,ni (qs.map (kF k)))=(no,o7 k qs)
 grind[Mr,Cp,wR]
theorem qv{no:Int}{qs:List Bs}(hk:b5 k=ab)(c:∀q∈qs,bA q=ab)(e:qs.Nodup)(f:1<=qs.length)(g:qs.length<=4):gB k (fT no k qs)=decide (1<=no/\no<=99):=by
 have b:(o7 k qs).length=qs.length:=rm k qs;rw[qL,pd,a9];constructor
 .exactλh=>h.no
 .intro h;refine⟨h,hk,by show 1<=(o7 k qs).length/\_;rw[show(fT no k qs).2=o7 k qs from rfl];omega,λx d=>?_,?_⟩
  .obtain⟨p,a,rfl⟩:=Qg (show x∈o7 k qs from d);have:=Eh (c p a);simp[right,this]
  .show (o7 k qs).Pairwise _;rw[wR];exact NX _ _ List.Pairwise.nil (Cp hk c e) (by simp)
def pj(k:Int):∀(f:Nat) (no:Int)(l:List Bs),l.length<=f->dA k f no l=(bc ((l.length+3) / 4)).map λj:Nat=>fT (no+j) k (u7 l j)
 |0,no,l,h=>by
  have:l.length=0:=by omega
  simp[dA,this]
 |f+1,no,l,h=>by
  simp only[dA];by_cases a:0<l.length
  .rw[bo a,pj k f (no+1) (l.drop 4) (by grind)];have e:(l.length+3) / 4=((l.drop 4).length+3) / 4+1:=by grind
   rw[e,we,qM,List.map_map];congr 1
   .simp[u7]
   .refine qC λj _=>?_;show fT (no+1+(j:Nat)) k (((l.drop 4).drop (4*j)).take 4)=fT (no+((j+1:Nat):Int)) k ((l.drop (4*(j+1))).take 4);grind[List.drop_drop]
  grind
def GL{l:List Bs}(a:∀q∈l,bA q=ab)(c:l.Nodup)(d:j<(l.length+3) / 4):(∀q∈u7 l j,bA q=ab)/\(u7 l j).Nodup/\1<=(u7 l j).length/\(u7 l j).length<=4 :=
 ⟨λq b=>a q (oE (fN b)),(c.sublist (List.drop_sublist _ _)).sublist (List.take_sublist _ _),by simp[u7];omega,by simp[u7];omega⟩
def NY{s:bd}{l:List Bs}(hk:b5 k=ab)(a:∀q∈l,bA q=ab)(c:l.Nodup)(b:j<(l.length+3) / 4):JJ k s l j=(decide (1<=cy s+(j:Int)/\cy s+(j:Int)<=99)&&!(s.1.length+j==20)):=by obtain⟨c1,c2,c3,c4⟩:=GL a c b;unfold JJ ou;grind[EH,qv]
def Q1{s:bd}{l:List Bs}(hk:b5 k=ab)(c:∀q∈l,bA q=ab)(b:l.Nodup)(e:∀j,j<(l.length+3) / 4->JJ k s l j=ab):kK k s l ((l.length+3) / 4)=dA k l.length (cy s) l:=by
 rw[pj k _ _ _ (bh _)];refine qC λj a=>?_;have a:=mW.1 a;obtain⟨c1,c2,c3,c4⟩:=GL c b a;have f:=e j a;have d:gB k (fT (cy s+(j:Int)) k (u7 l j))=ab:=by rw[qv hk c1 c2 c3 c4];rw[NY hk c b a]at f;grind
 unfold ou;rw[EH hk c1 c2 c4,bo d]
def iA.cy{k:Int}{s:bd}(h:iA k s):1<=cy s/\cy s<=100:=by
 unfold R1.cy;split
 .omega
 .rename_i a;have:=(h.pk _ (uU a (0,[]))).no;omega
def k8(k:Int)(s:bd)(by_:Int)(t:List bw):nv k s by_ t=fV k s by_ t:=by
 unfold nv fV;by_cases h:fa k s=ab/\(by_=1∨by_=2)/\cA t=ab
 .rw[bo h,bo ⟨h.1,by omega,h.2.2⟩];have b:=fh.1 h.1;have C:=b.cy;have w:s.2.2.length<=9:=by have:=b.log;simp only[kz,bM,a9]at this;exact this.2
  have u:=b.len;have p:=(gC (k:=k) (l:=indexOf s.1) (dx h.2.2)).1;have r:=nJ k t (indexOf s.1);have c:(iY k s t).length=((c7 k t (indexOf s.1)).length+3) / 4:=by unfold iY;rw[pj _ _ _ _ (bh _)];simp
  have n:iY k s t=dA k (c7 k t (indexOf s.1)).length (cy s) (c7 k t (indexOf s.1)):=rfl;unfold tX;simp only;generalize c7 k t (indexOf s.1)=l at *;obtain⟨D,E,x,A⟩:=qu (JJ k s l) ((l.length+3) / 4) 0;generalize lU (JJ k s l) ((l.length+3) / 4) 0=m at *;have i:∀j,j<(l.length+3) / 4->JJ k s l j=(decide (1<=cy s+(j:Int)/\cy s+(j:Int)<=99)&&!(s.1.length+j==20)):=λj f=>NY b.key p r f;by_cases g:m<(l.length+3) / 4
  .rw[bo g];have o:=A (by omega);rw[i m g]at o;have d:ga k s t=ab:=by simp only[ga,j3,a9,c];simp only[qx,bR,qG,gw]at o;omega
   grind
  .rw[aY g];obtain rfl:m=(l.length+3) / 4:=by omega
   have a:∀j,j<(l.length+3) / 4->1<=cy s+(j:Int)/\cy s+(j:Int)<=99/\s.1.length+j≠20:=λj f=>by grind
   have y:s.1.length+(l.length+3) / 4<=20:=by refine Nat.le_of_not_lt λB=>?_;exact(a (20-s.1.length) (by omega)).2.2 (by omega)
   have z:cy s+(((l.length+3) / 4:Nat):Int)-1<=99:=by
    rcases ny ((l.length+3) / 4)with e|e
    .grind
    .have:=(a ((l.length+3) / 4-1) (by omega)).2.1;omega
   by_cases v:20<cq s
   .rw[bo v];have d:ga k s t=ab:=by simp only[ga,j3,a9];grind
    grind
   .rw[aY v];by_cases q:s.2.2.length=9
    .rw[bo q];have d:ga k s t=ab:=by simp only[ga,j3,a9];grind
     grind
    .rw[aY q];have d:ga k s t=af:=by simp only[ga,qB,bR,c];omega
     rw[d];simp only[cn,n,Q1 b.key p r λj f=>x j (jc _) f,oI];rfl
 grind
theorem EI{l:List cm}{x y:cm}(h:y∈fU l x):y=x∨y∈l:=by
 induction l with
 |nil=>simpa[fU]using h
 |cons a r b =>
  simp only[fU]at h;grind
def NZ{l:List cm}{x:cm}(h:l.Pairwise λa b=>a.1<b.1):(fU l x).Pairwise λa b=>a.1<b.1:=by
 induction l with
 |nil=>simp[fU]
 |cons a r e =>
  obtain⟨g,c⟩:=jL.1 h;simp only[fU];split
  .rename_i d;refine jL.2 ⟨λy f=>?_,e c⟩;grind[EI]
  grind[List.pairwise_cons]
def y6:∀(l a:List cm),(∀x∈l,eB x=ab)->(∀x∈a,eB x=ab)->a.Pairwise (λa b=>a.1<b.1)->(∀x∈l.foldl fU a,eB x=ab)/\(l.foldl fU a).Pairwise λa b=>a.1<b.1
 |[],a,_,d,c=>⟨d,c⟩
 |x::l,a,h,d,c=>y6 l (fU a x) (λy e=>h y (pH _ e)) (λy e=>by grind[EI]) (NZ c)
theorem Q2{l:List cm}(c:∀x∈l,eB x=ab)(d:l.Pairwise λa b=>a.1<b.1):sD l l.length=ab:=by
 refine dy.2 λi hi=>?_;rw[bM];refine⟨c _ (by grind),?_⟩;rcases ny i with e|e
 .simp[e]
 .rw[j3];grind[List.pairwise_iff_getElem]
def GM(l:List bG):sD (indexOf l) (indexOf l).length=ab:=by
 unfold indexOf;split
 .rename_i h;obtain⟨b,a⟩:=y6 (cZ l) [] (bz.1 h) (by simp) List.Pairwise.nil;grind[Q2]
 .rfl
def GN{l:List bG}(h:∀x∈l,x.2.length<=4):(cZ l).length<=4*l.length:=by
 induction l with
 |nil=>simp[cZ]
 |cons f r d =>
  have a:=d λg c=>h g (pH _ c);have b:=h f lM;simp only[cZ,sO,cW,jM,fb]at a⊢;omega
def iA.cq{k:Int}{s:bd}(h:iA k s)(a:rE s):1<=cq s:=by have b:=oh s.2.2 a.h;unfold R1.cq;split<;>omega
def iA.save{s:bd}(h:iA k s)(a:rE s):vc k s:=by refine⟨h.key,?_,GM _,h.log,h.cq a⟩;have:=GN λx b=>(h.pk x b).len.2;have:=h.len;omega
structure UP(q:bd×Int×List bw):Prop where
 sz:kI q.1
 sm:OB q.1
 nu:rE q.1
 Vi:1<=q.2.1/\q.2.1<=3
 an:(tO q.1.2.1).length<=4800
abbrev XJ:={q:bd×Int×List bw // UP q}
abbrev dDr(q:bd×Int×List bw):D:=.fD [.one (.c (.int .i64 7)),.agg [.c (HP q.1.1),.c (Gc q.1.2.1),.c (DH q.1.2.2)],.one (.c (.int .i64 q.2.1)),.one (.c (.sl af 2 q.2.2.length (cF.fn q.2.2)))]
def XK(m:Nat)(b:Nat->Int):Prop:=ek (ι:=XJ) (Cx.beside ag) 6 [.e (.one (.c (.sl af 1 m (ud b))))] [] (λq=>dDr q.1) (λ_=>[])
def vM{s:bd}{by_:Int}{t:List bw}(b:fa k s=ab)(a:1<=by_/\by_<=2)(c:cA t=ab):fV k s by_ t=(if ga k s t=ab then s else cn k s by_ t,!ga k s t):=bo ⟨b,a,c⟩
def Q3(x:ff):Prop:=x.2.length<=6/\∀y∈x.2,y.2.length<=4000000
theorem Q3.of{no:Int}{t:List bw}(b:cA t=ab):Q3 (ey no k t):=by have c:=mO b;refine⟨by simpa[ey]using c,λy a=>?_⟩;simp only[ey,gQ]at a;obtain⟨f,d,rfl⟩:=a;have:=((dx b).uc f d).2;have:=kY f.2;simp only[lG,jM];omega
def jb{s:bd}{by_:Int}{t:List bw}(e:kI s):kI (fV k s by_ t).1:=by
 unfold fV;split
 .rename_i h;have f:=fh.1 h.1;show kI (if ga k s t=ab then s else cn k s by_ t);split
  .exact e
  .rename_i g;have g:ga k s t=af:=by grind
   simp only[ga,qB,bR]at g;have c:Q3 (ey (cq s) k t):=Q3.of h.2.2;have m:=(gC (k:=k) (l:=indexOf s.1) (dx h.2.2)).1;have j:=H7 1 f.sa λx b=>(f.sn x b).1;have d:=f.log;simp only[kz,bM,a9]at d;refine⟨by simp only[cn,cW];omega,λp a=>?_,by simp only[cn,cW,iK];omega,λx b=>?_,by simp only[cn,cW,iK];omega⟩
   .simp only[cn]at a;rcases fz.1 a with a|a
    .exact e.p2 p a
    .obtain⟨i,qs,_,_,_,n,_,rfl⟩:=uT k _ _ _ m p a;have:(o7 k qs).length=qs.length:=rm k qs;show(o7 k qs).length<=_;omega
   .simp only[cn]at b;rcases fz.1 b with b|b
    .exact e.s2 x b
    .rw[fO]at b;subst b;exact⟨by have:=c.1;omega,c.2⟩
 .exact⟨by simp,by simp,by simp,by simp[mJ],by simp⟩
def EL{k:Int}{l:List cm}:∀(ps a:List Bs)(p:Bs),p∈ps.foldl (iz k l) a↔p∈a∨(p∈ps/\ku l (dC k p)=0)
 |[],a,p=>by simp
 |q::ps,a,p=>by
  rw[jN,EL ps];unfold iz;split
  .rename_i b;simp only[bM,gw]at b;grind
  .rename_i b;simp only[bM,gw,j0]at b;by_cases e:p=q
   .subst e;by_cases d:ku l (dC k p)=0
    .have:a.contains p=ab:=by
      cases c:a.contains p with
      |true=>rfl
      |false=>exact absurd ⟨d,c⟩ b
     have:p∈a:=by simpa using this
     grind
    .grind
   .grind
def lJ{t:List bw}{l:List cm}{p:Bs}:p∈c7 k t l↔(∃f∈t,p∈pieces f.2)/\ku l (dC k p)=0:=by unfold c7;rw[EL];simp
def Od{l:List cm}{x:cm}{n:Int}:(∃y∈fU l x,y.1=n)↔n=x.1∨∃y∈l,y.1=n:=by
 induction l with
 |nil=>simp[fU,eq_comm]
 |cons a r c =>
  simp only[fU];split
  .simp only[eb,exists_eq_or_imp,c];grind
  .constructor
   .rintro⟨y,b,rfl⟩;rcases eb.1 b with rfl|b
    .exact .inl rfl
    .exact .inr ⟨y,(gN.1 b).1,rfl⟩
   .rintro(rfl|⟨y,b,rfl⟩)
    .exact⟨x,lM,rfl⟩
    .by_cases e:y.1=x.1
     .exact⟨x,lM,e.symm⟩
     .exact⟨y,pH _ (gN.2 ⟨b,by simpa using e⟩),rfl⟩
def Aw:∀(l a:List cm) (n:Int),(∃y∈l.foldl fU a,y.1=n)↔(∃y∈l,y.1=n)∨∃y∈a,y.1=n
 |[],a,n=>by simp
 |x::l,a,n=>by rw[jN,Aw l,Od];grind
def GQ{x:br}(h:right k x=ab):∃p,bA p=ab/\x.1=dC k p:=by
 unfold right at h;split at h
 .rename_i p a;unfold eK at a;split at a
  .rename_i b;cases a;simp only[bM]at b;exact⟨_,b.1,(by simpa using h:dC k _=x.1).symm⟩
  .cases a
 .cases h
def Oe{ps:List bG}(h:∀p∈ps,rO k p):(cZ ps).all eB=ab:=by refine bz.2 λy a=>?_;obtain⟨p,b,a⟩:=qJ.1 a;obtain⟨x,d,rfl⟩:=gQ.1 a;obtain⟨q,f,e⟩:=GQ ((h p b).rt x d);have c:=(h p b).no;simp only[eB,bM,a9,e,dC];omega
def sF{ps:List bG}(h:∀p∈ps,rO k p)(n:Int):ku (indexOf ps) n=0↔n∉bx ps:=by
 have a:=Oe h;unfold indexOf;rw[bo a];have hk:=Aw (cZ ps) [] n;have c:(∃y∈cZ ps,y.1=n)↔n∈bx ps:=by
  simp only[cZ,bx,qJ,gQ];constructor
  .rintro⟨_,⟨p,f,x,d,rfl⟩,rfl⟩;exact⟨p,f,x,d,rfl⟩
  .rintro⟨p,f,x,d,rfl⟩;exact⟨_,⟨p,f,x,d,rfl⟩,rfl⟩
 have g:=(y6 (cZ ps) [] (bz.1 a) (by simp) List.Pairwise.nil).1;generalize(cZ ps).foldl fU []=l at *;unfold ku;split
 .rename_i s b;have q:=g s (sK b);have m:s.1=n:=by simpa using List.find?_some b
  have:n∈bx ps:=by rw[<-c];have:=hk.1 ⟨s,sK b,m⟩;simpa using this
  simp only[eB,bM,a9]at q;grind
 .rename_i b;have i:=qE.1 b;refine⟨λ_ j=>?_,λ_=>rfl⟩;obtain⟨y,o,e⟩:=hk.2 (.inl (c.2 j));exact i y o (by simpa using e)
def Cr{qs:List Bs}{x:br}:x∈o7 k qs↔∃p∈qs,x=kF k p:=by
 rw[wR];have:∀(l a:List br),x∈l.foldl gI a↔x∈l∨x∈a:=by
  intro l;induction l with
  |nil=>simp
  |cons y l b=>intro a;rw[jN,b,vd];grind
 rw[this];grind
def pn{k:Int}{n:Int}:∀(f:Nat) (no:Int)(l:List Bs),l.length<=f->(n∈bx (dA k f no l)↔∃p∈l,dC k p=n)
 |0,no,l,h=>by have:l=[]:=List.length_eq_zero_iff.1 (by omega);subst this;simp[dA,bx]
 |f+1,no,l,h=>by
  simp only[dA];split
  .have c:=pn (k:=k) (n:=n) f (no+1) (l.drop 4) (by simp;omega);have e:bx (fT no k (l.take 4)::dA k f (no+1) (l.drop 4))=(o7 k (l.take 4)).map (·.1)++bx (dA k f (no+1) (l.drop 4)):=by simp[bx];rfl
   rw[e,fz,c];have:(n∈(o7 k (l.take 4)).map (·.1))↔∃p∈l.take 4,dC k p=n:=by
    rw[gQ];constructor
    .rintro⟨x,b,rfl⟩;obtain⟨p,a,rfl⟩:=Cr.1 b;exact⟨p,a,rfl⟩
    .rintro⟨p,a,rfl⟩;exact⟨kF k p,Cr.2 ⟨p,a,rfl⟩,rfl⟩
   rw[this];conv=>rhs;rw[<-jJ 4 l]
   grind
  .have:l=[]:=List.length_eq_zero_iff.1 (by omega);subst this;simp[bx]
def tZ{k:Int}(hk:b5 k=ab):∀(f:Nat) (no:Int)(l:List Bs),l.length<=f->(∀q∈l,bA q=ab)->l.Nodup->(bx (dA k f no l)).Nodup
 |0,no,l,h,_,_=>by simp[dA,bx]
 |f+1,no,l,h,i,g=>by
  simp only[dA];split
  .have e:bx (fT no k (l.take 4)::dA k f (no+1) (l.drop 4))=(o7 k (l.take 4)).map (·.1)++bx (dA k f (no+1) (l.drop 4)):=by simp[bx];rfl
   have n:(o7 k (l.take 4)).Pairwise λx y=>x.1<y.1:=by rw[wR];exact NX _ _ List.Pairwise.nil (Cp hk (λq b=>i q (fN b)) (g.sublist (List.take_sublist _ _))) (by simp)
   rw[e,List.nodup_append];refine⟨List.pairwise_map.2 (n.imp λh=>by omega),tZ hk f _ _ (by simp;omega) (λq b=>i q (oE b)) (g.sublist (List.drop_sublist _ _)),λa o c j e=>?_⟩;subst e;obtain⟨x,m,rfl⟩:=gQ.1 o;obtain⟨p,d,rfl⟩:=Cr.1 m;obtain⟨q,b,e⟩:=(pn f _ _ (by simp;omega)).1 j;have e:=ru hk (i q (oE b)) (i p (fN d)) e;subst e;rw[<-jJ 4 l,List.nodup_append]at g;exact g.2.2 q d q b rfl
  .simp[bx]
def EM(t:Bs):(pieces t).flatten=t:=by
 have:∀k f,f<=t.length->t.length-f<=k->(eT t k f).flatten=t.drop f:=by
  intro k;induction k with
  |zero=>intro f c a;simp[eT,wh (show t.length<=f by omega)]
  |succ k d =>
   intro f c a;simp only[eT];split
   .rename_i h;obtain⟨e,b,_⟩:=mI t f h;rw[List.flatten_cons,d _ b (by omega)];conv=>rhs;rw[<-jJ (cutAt t f-f) (t.drop f),List.drop_drop,show f+(cutAt t f-f)=cutAt t f by omega]
   .simp[wh (show t.length<=f by omega)]
 exact(this t.length 0 (jc _) (by omega)).trans (by simp)
def EN{no:Int}{ps:List bG}{t:List bw}(hk:b5 k=ab)(g:cA t=ab)(h:∀f∈t,∀p∈pieces f.2,dg k ps (dC k p)=aa p):cd k (ey no k t) ps=aa t:=by
 have c:=(lH.1 g).1;have e:∀f∈t,fileOf k ps (lG k f)=aa f:=λf b=>by
  have d:=h f b;have o:dN k ps (lG k f).2=aa (pieces f.2):=by
   unfold dN lG;rw[bo]
   .congr 1;rw[List.map_map];conv=>rhs;rw[<-List.map_id (pieces f.2)]
    exact qC λp a=>by simp[d p a]
   .refine bz.2 λn i=>?_;obtain⟨p,a,rfl⟩:=gQ.1 i;rw[d p a];rfl
  have j:fW (pieces f.2)=aa f.2:=by unfold fW;rw[EM,(c f b).2];simp
  unfold fileOf;rw[o];simp only[j];rfl
 have m:dc k ps (t.map (lG k))=t:=by
  unfold dc;rw[List.map_map];conv=>rhs;rw[<-List.map_id t]
  exact qC λf b=>by simp[e f b]
 have l:((t.map (lG k)).all λx=>(fileOf k ps x).isSome)=ab:=bz.2 λx c=>by obtain⟨f,b,rfl⟩:=gQ.1 c;rw[e f b];rfl
 unfold cd ey;simp only[m,l,hk,g,Bool.and_self,b6]
structure Sv(k:Int)(s:bd)(by_:Int)(t:List bw):Prop where
 st:iA k s
 nu:rE s
 Vi:1<=by_/\by_<=2
 tr:cA t=ab
 fu:ga k s t=af
section
variable {s:bd}{by_:Int}{t:List bw}
def Sv.piece(h:Sv k s by_ t){f:bw}(b:f∈t){p:Bs}(a:p∈pieces f.2):bA p=ab:=by have:=(gC (k:=k) (l:=[]) (dx h.tr)).1 p;exact this (lJ.2 ⟨⟨f,b,a⟩,rfl⟩)
def Sv.names(h:Sv k s by_ t)(n:Int):n∈bx (cn k s by_ t).1↔n∈bx s.1∨∃f∈t,∃p∈pieces f.2,dC k p=n:=by
 have e:bx (cn k s by_ t).1=bx s.1++bx (iY k s t):=by simp[cn,bx]
 rw[e,fz];unfold iY;rw[pn _ _ _ (bh _)];constructor
 .rintro(h1|⟨p,a,rfl⟩)
  .exact .inl h1
  .obtain⟨⟨f,b,a⟩,_⟩:=lJ.1 a;exact .inr ⟨f,b,p,a,rfl⟩
 .rintro(h1|⟨f,b,p,a,rfl⟩)
  .exact .inl h1
  .by_cases c:dC k p∈bx s.1
   .exact .inl c
   .exact .inr ⟨p,lJ.2 ⟨⟨f,b,a⟩,(sF h.st.pk _).2 c⟩,rfl⟩
def Sv.new(h:Sv k s by_ t):(∀p∈iY k s t,rO k p)/\(iY k s t).Pairwise (λp q=>p.1<q.1)/\∀p∈iY k s t,cy s<=p.1:=by
 have d:=gC (k:=k) (l:=indexOf s.1) (dx h.tr);have e:=nJ k t (indexOf s.1);have c:=h.fu;have i:=h.st.cy;unfold ga at c;unfold iY at *;generalize c7 k t (indexOf s.1)=l at *;rw[pj k _ _ _ (bh _)]at *;simp only[qB,bR,jM,List.length_range]at c;refine⟨λp f=>?_,?_,λp f=>?_⟩
 .obtain⟨j,hj,rfl⟩:=gQ.1 f;have hj:=mW.1 hj;obtain⟨c1,c2,c3,c4⟩:=GL d.1 e hj;rw[<-pd,qv h.st.key c1 c2 c3 c4,a9];omega
 .rw[List.pairwise_map];refine List.pairwise_lt_range.imp λ{a b} g=>?_;show cy s+(a:Int)<cy s+(b:Int);omega
 .obtain⟨j,hj,rfl⟩:=gQ.1 f;show cy s<=cy s+(j:Int);omega
def iA.yM(h:iA k s):∀p∈s.1,p.1<R1.cy s:=by
 intro p a;obtain⟨i,hi,rfl⟩:=dD a;unfold R1.cy;rw[aY (by omega),pb (by omega)];by_cases e:i=s.1.length-1
 .subst e;omega
 .have:=jG.1 h.pa i (s.1.length-1) hi (by omega) (by omega);omega
def iA.tQ(h:iA k s):∀x∈s.2.1,x.1<R1.cq s:=by
 intro x a;obtain⟨i,hi,rfl⟩:=dD a;unfold R1.cq;rw[aY (by omega),pb (by omega)];by_cases e:i=s.2.1.length-1
 .subst e;omega
 .have:=jG.1 h.sa i (s.2.1.length-1) hi (by omega) (by omega);omega
def Sv.FJ(h:Sv k s by_ t):∀p∈(cn k s by_ t).1,rO k p:=λp a=>by
 rcases fz.1 a with a|a
 .exact h.st.pk p a
 .exact h.new.1 p a
def Sv.tree(h:Sv k s by_ t){no:Int}:cd k (ey no k t) (cn k s by_ t).1=aa t:=by refine EN h.st.key h.tr λf b p c=>?_;obtain⟨q,a⟩:=y7 h.st.key h.FJ ((h.names _).2 (.inr ⟨f,b,p,c,rfl⟩));obtain⟨d,e,_⟩:=sG a;rw[a,ru h.st.key d (h.piece b c) e]
def Sv.old(h:Sv k s by_ t){x:ff}{u:List bw}(b:cd k x s.1=aa u):cd k x (cn k s by_ t).1=aa u :=
 Cs (λn p=>JN h.st.key h.FJ (λn a=>(h.names n).2 (.inl a))) b
def Sv.ok(h:Sv k s by_ t):iA k (cn k s by_ t):=by
 have m:=h.fu;simp only[ga,qB,bR]at m;have o:=h.new;have j:=h.st.tQ;have n:=h.st.cq h.nu;refine⟨h.FJ,?_,?_,λx d=>?_,?_,h.st.key,?_,by simp only[cn,cW];omega⟩
 .refine qA.2 ⟨h.st.pa,o.2.1,λa f b c=>?_⟩;have:=h.st.yM a f;have:=o.2.2 b c;omega
 .have e:bx (cn k s by_ t).1=bx s.1++bx (iY k s t):=by simp[cn,bx]
  have g:=gC (k:=k) (l:=indexOf s.1) (dx h.tr);rw[e,List.nodup_append];refine⟨h.st.nd,tZ h.st.key _ _ _ (bh _) g.1 (nJ _ _ _),λa f b c e=>?_⟩;subst e;obtain⟨p,r,rfl⟩:=(pn _ _ _ (bh _)).1 c;exact(sF h.st.pk _).1 (lJ.1 r).2 f
 .rcases fz.1 d with d|d
  .obtain⟨h1,h2⟩:=h.st.sn x d;obtain⟨u,q⟩:=rS.1 h2;exact⟨h1,by rw[h.old q];rfl⟩
  .rw[fO]at d;subst d;exact⟨⟨n,by show cq s<=20;omega⟩,by rw[h.tree];rfl⟩
 .refine qA.2 ⟨h.st.sa,by simp,λa f b c=>?_⟩;rw[fO]at c;subst c;exact j a f
 .have hl:=h.st.log;have c:=h.Vi;simp only[kz,bM,a9,dy]at hl⊢;refine⟨λi hi=>?_,by simp only[cn,cW,iK];omega⟩;simp only[cn,cW,iK]at hi⊢;by_cases e:i<s.2.2.length
  .have:=hl.1 i e
   rwa [aj,jH e,<-aj]
  .obtain rfl:i=s.2.2.length:=by omega
   rw[aj,gp (bh _),Nat.sub_self];simp only[jI,gv,gD,bM,a9];omega
def Sv.load(h:Sv k s by_ t):gj k (cn k s by_ t) (cq s)=aa t:=by
 unfold gj;have e:(cn k s by_ t).2.1.find? (λx=>x.1==cq s)=aa (ey (cq s) k t):=by
  simp only[cn,List.find?_append];have:s.2.1.find? (λx=>x.1==cq s)=ae:=qE.2 λx a=>by have:=h.st.tQ x a;simp;omega
  rw[this];simp[ey]
 rw[e];exact h.tree
def Sv.Q7(h:Sv k s by_ t){x:ff}(c:x∈s.2.1):gj k (cn k s by_ t) x.1=gj k s x.1:=by
 unfold gj;have e:(cn k s by_ t).2.1.find? (λy=>y.1==x.1)=s.2.1.find? (λy=>y.1==x.1):=by
  simp only[cn,List.find?_append];cases a:s.2.1.find? (λy=>y.1==x.1)with
  |some y=>rfl
  |none=>exact absurd (qE.1 a x c) (by simp)
 rw[e];cases a:s.2.1.find? (λy=>y.1==x.1)with
 |none=>rfl
 |some y =>
  obtain⟨u,b⟩:=rS.1 (h.st.sn y (sK a)).2;show cd k y _=cd k y _;rw[b,h.old b]
def Sv.again(h:Sv k s by_ t):c7 k t (indexOf (cn k s by_ t).1)=[]:=by refine List.eq_nil_iff_forall_not_mem.2 λp a=>?_;obtain⟨⟨f,b,a⟩,c⟩:=lJ.1 a;exact(sF h.FJ _).1 c ((h.names _).2 (.inr ⟨f,b,p,a,rfl⟩))
end
end R1
def N9{α:Type}(d:α){P:Nat->α->Prop}:∀n:Nat,(∀i,i<n->∃x,P i x)->∃l:List α,l.length=n/\∀i,i<n->P i (l.getD i d)
 |0,_=>⟨[],rfl,λi hi=>absurd hi (fy _)⟩
 |n+1,h=>by obtain⟨l,b,a⟩:=N9 d n λi hi=>h i (by omega);obtain⟨x,c⟩:=h n (by omega);refine⟨l++[x],by grind,λi hi=>?_⟩;grind
inductive Fit (M:Mem) (b o:Nat) (u:ai) (x:Int):Prop
 |int (n:Int) (h:M b o=aa (.int .i64 n)) (hu:∀M',Rd M' u (.int .i64 x))
 |str (s:ByteArray) (h:M b o=aa (.string s)) (l:List UInt8) (hu:∀M',Rd M' u (.str l))
section
variable {o m g:Nat}{u:ai}{x:Int}
def Fit.fi(h:Fit M b o u x){n:Int}(c:M m g=aa v)(d:Rd M v (.int .i64 n)):∃a v',M.up b o u m g=aa v'/\(∀M',Rd M' v' (.int .i64 a))/\(a=n∨a=x):=by
 unfold Mem.up;by_cases e:m=b/\g=o
 .obtain⟨rfl,rfl⟩:=e;rw[bo ⟨rfl,rfl⟩];cases h with
  |int _ _ f=>exact⟨x,u,rfl,f,.inr rfl⟩
  |str s h=>rw[h]at c;cases c;cases d
 .rw[aY e,c];cases d with
  |int h=>exact⟨n,_,rfl,λ_=>.int h,.inl rfl⟩
def Fit.fs(h:Fit M b o u x){l:List UInt8}(a:M m g=aa v)(c:Rd M v (.str l)):∃l' v',M.up b o u m g=aa v'/\∀M',Rd M' v' (.str l'):=by
 unfold Mem.up;by_cases e:m=b/\g=o
 .obtain⟨rfl,rfl⟩:=e;rw[bo ⟨rfl,rfl⟩];cases h with
  |int n h=>rw[h]at a;cases a;cases c
  |str _ _ l' hu=>exact⟨l',u,rfl,hu⟩
 .rw[aY e,a];cases c with
  |str h1 h2=>exact⟨l,_,rfl,λ_=>.str h1 h2⟩
def Fit.fl(h:Fit M b o u x){t:Bool}{k:Nat}(a:M m g=aa v)(c:Rd M v (.sl t k n es)):M.up b o u m g=aa v:=by
 unfold Mem.up;by_cases e:m=b/\g=o
 .obtain⟨rfl,rfl⟩:=e;cases h with
  |int n h=>rw[h]at a;cases a;cases c
  |str s h=>rw[h]at a;cases a;cases c
 grind
end
namespace R1
def two{P:Nat->α->Prop}{x y:α}(b:P 0 x)(a:P 1 y):∀j c,[x,y][j]?=aa c->P j c
 |0,_,h=>by grind
 |1,_,h=>by grind
def Q6{o:Nat}{u:ai}{x:Int}(h:Fit M b o u x){e:List br}(F:Rd M v (.sl af 2 e.length (ei.fn e))):∃d:List br,d.length=e.length/\Rd (M.up b o u) v (.sl af 2 d.length (ei.fn d)):=by
 obtain⟨a,cap,n,p,rfl,H,B,r,J,k⟩:=F.FG;obtain⟨l,f,t⟩:=N9 (0,[]) (P:=λi (y:br)=>∀(j:Nat) (c:C),[C.int .i64 y.1,.str y.2][j]?=aa c->∃w,M.up b o u n (p+i*2+j)=aa w/\Rd (M.up b o u) w c) e.length λi hi=>by obtain⟨w0,s,r0⟩:=k i hi 0 _ rfl;obtain⟨w1,D,q⟩:=k i hi 1 _ rfl;obtain⟨I,v0,z,E,_⟩:=h.fi s r0;obtain⟨l',v1,A,G⟩:=h.fs D q;exact⟨(I,l'),two (P:=λj c=>∃w,M.up b o u n (p+i*2+j)=aa w/\Rd (M.up b o u) w c) ⟨v0,z,E _⟩ ⟨v1,A,G _⟩⟩
 exact⟨l,f,by rw[f];exact .Tk H B r (λ_ _=>rfl) t⟩
structure Yo(x:Int)(ps Vh:List bG):Prop where
 len:Vh.length=ps.length
 at':∀i,i<ps.length->(Vh.getD i (0,[])).2.length=(ps.getD i (0,[])).2.length/\((Vh.getD i (0,[])).1=(ps.getD i (0,[])).1∨(Vh.getD i (0,[])).1=x)
def Oa{o:Nat}{u:ai}{x:Int}(h:Fit M b o u x){ps:List bG}(H:UQ v ps M):∃e,Yo x ps e/\UQ v e (M.up b o u):=by
 obtain⟨a,cap,q,r,rfl,J,D,t,L,p⟩:=Rd.FG H;obtain⟨l,n,k⟩:=N9 (0,[]) (P:=λi (y:bG)=>(y.2.length=(ps.getD i (0,[])).2.length/\(y.1=(ps.getD i (0,[])).1∨y.1=x))/\∀(j:Nat) (c:C),[C.int .i64 y.1,sP y][j]?=aa c->∃w,M.up b o u q (r+i*2+j)=aa w/\Rd (M.up b o u) w c) ps.length λi hi=>by obtain⟨w0,z,r0⟩:=p i hi 0 _ rfl;obtain⟨w1,E,f⟩:=p i hi 1 _ rfl;obtain⟨K,v0,A,G,s⟩:=h.fi z r0;have B:=h.fl E f;obtain⟨d,F,I⟩:=Q6 h f;exact⟨(K,d),⟨F,s⟩,two (P:=λj c=>∃w,M.up b o u q (r+i*2+j)=aa w/\Rd (M.up b o u) w c) ⟨v0,A,G _⟩ ⟨w1,B,I⟩⟩
 refine⟨l,⟨n,λi hi=>(k i hi).1⟩,?_⟩;show Rd _ _ (.sl af 2 l.length (cP.fn l));rw[n];exact .Tk J D t (λ_ _=>rfl) λi hi=>(k i hi).2
structure Cq(s:bd):Prop where
 p:∀p∈s.1,p.2.length<=4/\0<=p.1/\p.1<=99
 pl:s.1.length<=20
 ex:∃ps,D7 (ps,s.2)
def D7.XM{s:bd}(h:D7 s):Cq s:=⟨λp a=>by have h1:=(h.p p a).len;have h2:=(h.p p a).no;omega,h.pl,s.1,h⟩
def Cq.spo{s:bd}(h:Cq s){a:List bG}(c:Yo 0 s.1 a):Cq (a,s.2):=by
 refine⟨λp d=>?_,by rw[c.len];exact h.pl,h.ex⟩;obtain⟨i,hi,rfl⟩:=oy.1 d;have b:i<s.1.length:=by rw[<-c.len];exact hi
 have h1:=c.at' i b;have h2:=h.p _ (fM b (0,[]));grind
def Cq.sub{s:bd}(h:Cq s){a:List bG}(c:∀p∈a,p∈s.1)(hl:a.length<=s.1.length):Cq (a,s.2):=⟨λp b=>h.p p (c p b),iN hl h.pl,h.ex⟩
def Cq.size{s:bd}(h:Cq s):kI s:=by obtain⟨ps,b⟩:=h.ex;have a:=b.size;have h1:=h.pl;exact⟨by omega,λp c=>by have:=(h.p p c).1;omega,a.sn,a.s2,a.h⟩
def Cq.num{s:bd}(h:Cq s):rE s:=by obtain⟨ps,b⟩:=h.ex;have a:=b.num;exact⟨λp c=>by have:=(h.p p c).2;omega,a.s,a.h⟩
def Av{no:Int}{t:List bw}(e:cA t=ab):(wO (ey no k t).2).length<=240:=by have a:=lH.1 e;refine Gu ⟨by simpa[ey]using a.2.2.2,λy c=>?_⟩;obtain⟨f,b,rfl⟩:=gQ.1 c;have d:=(a.1 f b).2;simp only[ez,bM,a9]at d;have h:=kY f.2;show((pieces f.2).map _).length<=40;grind
def Cq.an{s:bd}(h:Cq s):(tO s.2.1).length<=4800:=by
 obtain⟨ps,a⟩:=h.ex;have b:=a.sl;have e:(tO s.2.1).length<=240*s.2.1.length:=mP λx c=>by obtain⟨no,t,_,_,d,rfl⟩:=(a.s x c).ex;exact Av d
 grind
def Cq.XN{s:bd}(h:Cq s):OB s:=by
 have a:=h.size;have h1:=h.pl;have h2:=h.an;have c:(bx s.1).length<=4*s.1.length:=mP λp b=>by rw[jM];exact(h.p p b).1
 exact⟨⟨a.p,a.s2,a.sn,by omega⟩,a.p2,by omega⟩
end R1
def en.q4b{X:Cx P}{x:Nat->D}{d:Bool->Bool->Bool->Bool->List bg}{f j g e:Nat}(h1:aw f i=af)(h2:aw j i=af)(k:aw g i=af)(m:aw e i=af)(l:gd all e i=ab)(h:∀a b c,OA X N all o (kC all φ x i) (d a b c af) (x i) (d a b c af)):en X N all φ x (pY d f j g e) i o:=by intro D hT hF;grind[sh]
namespace R1
variable {X:Cx ag}[X.ik]
abbrev SpI(k:Nat):={q:bd×Nat // Cq q.1/\k<=q.2/\q.2<=k+1100}
def Cq.del{s:bd}(h:Cq s)(i:Nat):Cq (s.1.take i++s.1.drop (i+1),s.2):=h.sub (λp a=>by grind) (by grind)
def rz{b o cap:Nat}{ps:List bG}(h:UQ (.slice (aa ⟨b,o,ae⟩) ps.length cap) ps M)(hi:i<ps.length):(∃n,M b (o+i*2)=aa (.int .i64 n))/\∃w,M b (o+i*2+1)=aa w/\Rd M w (sP (ps.getD i (0,[]))):=by obtain⟨a,c2,j,l,e,_,_,f,_,c⟩:=Rd.FG h;cases e;cases f (by omega);obtain⟨w0,k,r0⟩:=c i hi 0 _ rfl;obtain⟨w1,g,d⟩:=c i hi 1 _ rfl;refine⟨?_,w1,g,d⟩;cases r0;grind
theorem Iq{c o cap:Nat}{b:List br}(h:Rd M (.slice (aa ⟨c,o,ae⟩) b.length cap) (.sl af 2 b.length (ei.fn b)))(hi:0<b.length):∃s,M c (o+0*2+1)=aa (.string s):=by obtain⟨a,c2,i,k,e,_,_,f,_,g⟩:=h.FG;cases e;cases f hi;obtain⟨w1,j,d⟩:=g 0 hi 1 _ rfl;cases d;grind
abbrev kV(s:bd)(i:Nat):Nat:=dm s.1.length (aa (i:Int))-dm 0 ae
abbrev xY(s:bd)(i:Nat):Nat:=dm s.1.length ae-dm 0 (aa ((i:Int)+1))
abbrev Fz(s:bd):Nat->List C:=my (dm 0 ae) (cP.fn s.1)
abbrev AL(s:bd)(i:Nat):Nat->List C:=my (dm 0 (aa ((i:Int)+1))) (cP.fn s.1)
abbrev bf1(s:bd)(i:Nat):bg:=.buf 46 2 (0+kV s i) (cM 0 (λi=>([]:List (List C)).getD i []) (Fz s))
abbrev Yp(s:bd)(i:Nat):bg:=.buf 46 2 (0+kV s i+xY s i) (cM (0+kV s i) (cM 0 (λi=>([]:List (List C)).getD i []) (Fz s)) (AL s i))
def b9S(m:Nat)(b:Nat->Int)(k:Int)(s:bd)(i:Nat)(a c d e:Bool):List bg :=
 match a,c,d,e with
 |true,ab,ab,ab=>[lF m b k,jT,zt,.cells 27 [.bp 4 (.sl (0+kV s i+xY s i) 2 0 (0+kV s i+xY s i)),.c (Gc s.2.1),.c (DH s.2.2)],Yp s i]
 |true,ab,ab,af=>[lF m b k,jT,zt,wM s,Yp s i]
 |true,ab,af,_=>[lF m b k,jT,zt,wM s,Yp s i]
 |true,af,_,_=>[lF m b k,jT,zt,wM s,bf1 s i]
 |false,_,_,_=>[lF m b k,jT,zt,wM s]
abbrev x9S(s:bd)(i j:Nat):D :=
 [.e (.one (.c (.sl ab 2 0 λi=>([]:List (List C)).getD i []))),.e (.one (.ptr 3 0)),cP.sl s.1,dI i,.e (.one (.c (.sl af 2 (kV s i) (Fz s)))),.e (.one (.bp 4 (.sl (0+kV s i) 2 0 (0+kV s i)))),
  .e (.one (.ptr 3 0)),cP.sl s.1,dI i,dI ((i:Int)+1),.e (.one (.c (.sl af 2 (xY s i) (AL s i)))),.e (.one (.bp 4 (.sl (0+kV s i+xY s i) 2 0 (0+kV s i+xY s i)))),.e (.one (.ptr 3 0)),.any].getD j .any
set_option maxRecDepth 20000 in
def EK(m:Nat)(b:Nat->Int)(K:Bytes b)(k:Nat)(hk:k<=40000)(P:m<=1048576):
  ek (ι:=SpI k) X 18 [.e (.one (.ptr 0 0))] [lF m b k] (λq=>oY q.1.1) (λq=>[lF m b q.1.2]):=by
 refine ek.tc tok Tryz.func18 rfl rfl rfl λhf=>?_;refine bu rfl ak ?_;refine AK.cP (EJ m b K k hk P) [0] rfl (λ_=>rfl) ?_;rintro⟨⟨s,v,k1⟩,y,B,A⟩;simp only at y B A;refine aW [(1000002,ab)] rfl ak ?_;have hpl:=y.pl;by_cases Z:s.1.length=0
 .refine AK.sq 2 3 0 (E:=46) (k:=2) (cl:=HP s.1) (by decide) rfl rfl rfl (λ_ h=>h) ?_;refine aW [(10,ab)] rfl (by simp[Z]) ?_;refine AK.nc ⟨(s,k1),y.XM,B,by grind⟩ [0] rfl rfl rfl rfl rfl rfl rfl rfl ?_ rfl rfl rfl rfl iI;simp
 refine AK.fact (PM.of (l:=2) (p:=∃a cap b' o,v=.slice a s.1.length cap/\(0<s.1.length->a=aa ⟨b',o,ae⟩)) rfl λM f=>?_) ?_
 .grind [Rd.FG]
 rintro⟨a,cap,b',o,rfl,ha⟩;obtain rfl:=ha (by omega);refine aW [(10,af)] rfl (by simp[Z];omega) ?_;refine AK.cP (gK m b K k1 s.1.length (by omega) P (by omega)) [0] rfl (λ_=>rfl) ?_;rintro⟨i,i0,t⟩;obtain⟨i,rfl⟩:=Int.eq_ofNat_of_zero_le i0;have t:i<s.1.length:=by omega
 refine bu rfl ak ?_;refine AK.cP (gK m b K (k1+1) 24 (by omega) P (by omega)) [0] rfl (λ_=>rfl) ?_;rintro⟨w,w0,w1⟩;refine aW [(1000006,ab)] rfl ak ?_;have H:0<(s.1.getD i (0,[])).2.length:=y.ne _ (fM t (0,[]));by_cases I:w=0
 .have o4:au (gb s.1.length ae (aa (i:Int))):=by simp only[gb,au];omega
  have o9:au [bE .i64 ((i:Int)+1)]:=by simp only[au,bE];omega
  have O:au (gb s.1.length (aa ((i:Int)+1)) ae):=by simp only[gb,au];omega
  have Y:kV s i=i:=by show((i:Int)).toNat-0=i;omega
  have e2:xY s i=s.1.length-(i+1):=by show s.1.length-((i:Int)+1).toNat=_;omega
  have o5:au [(0+kV s i)*i46.bytes<=140737488355328]:=by rw[show i46.bytes=32 from rfl,Y];simp only[au];omega
  have L:au [0+kV s i=0+kV s i,0+kV s i=0+kV s i,(0+kV s i+xY s i)*i46.bytes<=140737488355328]:=by refine⟨rfl,rfl,?_⟩;rw[show i46.bytes=32 from rfl];simp only[au];omega
  refine AK.sq 2 3 0 (E:=46) (k:=2) (cl:=HP s.1) (by decide) rfl rfl rfl (λ_ h=>h) ?_;refine aW [(20,ab),(1000007,ab)] rfl (by simp[I]) ?_;refine AK.flags ju (x9S s i) (pY (b9S m b (k1+1+1:Nat) s i) 5 11 12 13) rfl rfl rfl rfl
   ⟨.rC tok bH.nil,
   .rC tok bH.nil,
   en.q4b rfl rfl rfl rfl rfl (λa b c=>by cases a<;>cases b<;>cases c<;>exact OA.c8 tok bH.nil rfl),
   .rC tok bH.nil,
   .Yb tok bH.nil o4,
   en.c1 rfl rfl rfl rfl rfl rfl (gV (ds:=[(3000026,ab)]) tok bH.nil (σ':=aa _) rfl o5),
   .rC tok bH.nil,
   en.q4b rfl rfl rfl rfl rfl (λa b c=>by cases a<;>cases b<;>cases c<;>exact OA.c8 tok bH.nil rfl),
   .rC tok bH.nil,
   .Yb tok bH.nil o9,
   .Yb tok bH.nil O,
   en.c2 rfl rfl rfl rfl rfl rfl (gV (ds:=[]) tok bH.nil (σ':=aa _) rfl L),
   en.c3 rfl rfl rfl rfl rfl rfl (OA.c8 tok bH.nil rfl),
   en.c4 rfl rfl rfl rfl rfl rfl (gV (ds:=[]) tok bH.nil (σ':=aa _) rfl ak),ak⟩ ?_
  intro D r;show AK X _ _ _ _ _ (b9S m b (k1+1+1:Nat) s i (D 5) (D 11) (D 12) (D 13));rw[r 5 (by decide),r 11 (by decide),r 12 (by decide),r 13 (by decide)];refine AK.Bn (φ':=[(2,.e (.one (.ptr 1 0))),(3,.e (.one (.ptr 3 0)))]) (σ':=[lF m b (k1+1+1:Nat),jT,zt,.cells 27 [.bp 4 (.sl (0+kV s i+xY s i) 2 0 (0+kV s i+xY s i)),.c (Gc s.2.1),.c (DH s.2.2)],Yp s i]) ?_ rfl (by simp) rfl (by simp);refine AK.pq 4 rfl rfl rfl (by simp) (by simp) ?_;refine bu rfl ak ?_;refine AK.nc ⟨((s.1.take i++s.1.drop (i+1),s.2),k1+1+1),y.XM.del i,by grind,by grind⟩ [0] rfl rfl rfl rfl rfl rfl rfl rfl ?_ rfl rfl rfl rfl iI;simp only[au.cat,au];refine⟨⟨by grind,λj hj=>?_⟩,⟨ak,.same⟩,⟨ak,.same⟩,ak⟩;show cM (0+kV s i) (cM 0 (λi=>([]:List (List C)).getD i []) (Fz s)) (AL s i) j=_;rw[Y,bF];simp only[cM,Fz,AL,my,dm,bF,fy,cg,l7,mS.fn,BQ,show((i:Int)+1).toNat=i+1 by omega];grind
 by_cases F:w=1
 .refine aW [(20,af),(35,ab)] rfl (by simp[F];omega) ?_;refine AK.hand _ _ rfl rfl (eg.Tl tok 2 rfl rfl (λ_=>rfl) rfl rfl (λM f=>?_)) λw1=>?_
  .obtain⟨_,w,g,q2⟩:=rz f t;exact⟨w,g,q2.cell⟩
  refine AK.Kn (PM.of (l:=2) (p:=∃U W c2,w1=.slice (aa ⟨U,W,ae⟩) (s.1.getD i (0,[])).2.length c2) rfl λM f=>?_) ?_
  .obtain⟨_,w,g,q2⟩:=rz f.1 t;cases g.symm.trans f.2;grind[Rd.FG]
  rintro⟨U,W,c2,rfl⟩;refine bu rfl (by simp only[au];omega) ?_;refine AK.hand _ _ rfl rfl (eg.Hy tok 2 rfl rfl rfl rfl rfl rfl rfl (λM f=>?_)) ?_
  .obtain⟨_,w,g,q2⟩:=rz f.1 t;cases g.symm.trans f.2;grind[Iq]
  rintro⟨u,J⟩;refine aW [(1000012,ab)] rfl ak ?_;refine AK.OS (ι:={d:List bG // Yo 0 s.1 d}) 2 (λq=>PM (UQ (.slice (aa ⟨b',o,ae⟩) s.1.length cap) q.1)) rfl (λ_ ch N=>?_) ?_
  .obtain⟨R,T,M,f,V⟩:=N;obtain⟨_,w,g,q2⟩:=rz f.1 t;cases g.symm.trans f.2;obtain⟨s0,S⟩:=Iq q2 H;obtain⟨d,Q,p2⟩:=Oa (x:=0) (Fit.str s0 S _ J) f.1;exact⟨⟨d,Q⟩,R,T,by grind⟩
  rintro⟨d,z⟩;refine AK.sq 2 3 0 (E:=46) (k:=2) (cl:=HP d) (by decide) rfl rfl rfl (λ_ h=>by grind) ?_;refine bu rfl ak ?_;refine AK.nc ⟨((d,s.2),k1+1+1),y.XM.spo z,by grind,by grind⟩ [0] rfl rfl rfl rfl rfl rfl rfl rfl ?_ rfl rfl rfl rfl iI;simp
 by_cases G:w=2
 .refine aW [(20,af),(35,af),(45,ab)] rfl (by simp[G];omega) ?_;refine AK.hand _ _ rfl rfl (eg.Hy tok 2 rfl rfl rfl rfl rfl rfl rfl (λM f=>?_)) ?_
  .obtain⟨⟨n,g⟩,_⟩:=rz f t;exact⟨_,g⟩
  rintro⟨u,J⟩;refine aW [(1000012,ab)] rfl ak ?_;refine AK.OS (ι:={d:List bG // Yo 0 s.1 d}) 2 (λq=>PM (UQ (.slice (aa ⟨b',o,ae⟩) s.1.length cap) q.1)) rfl (λ_ ch N=>?_) ?_
  .obtain⟨R,T,M,f,V⟩:=N;obtain⟨⟨n,g⟩,_⟩:=rz f t;obtain⟨d,Q,p2⟩:=Oa (x:=0) (Fit.int n g J) f;exact⟨⟨d,Q⟩,R,T,by rw[V];exact p2⟩
  rintro⟨d,z⟩;refine AK.sq 2 3 0 (E:=46) (k:=2) (cl:=HP d) (by decide) rfl rfl rfl (λ_ h=>by grind) ?_;refine bu rfl ak ?_;refine AK.nc ⟨((d,s.2),k1+1+1),y.XM.spo z,by grind,by grind⟩ [0] rfl rfl rfl rfl rfl rfl rfl rfl ?_ rfl rfl rfl rfl iI;simp
 refine AK.sq 2 3 0 (E:=46) (k:=2) (cl:=HP s.1) (by decide) rfl rfl rfl (λ_ h=>h) ?_;refine aW [(20,af),(35,af),(45,af)] rfl (by simp[I,F,G]) ?_;refine AK.nc ⟨(s,k1+1+1),y.XM,by grind,by grind⟩ [0] rfl rfl rfl rfl rfl rfl rfl rfl ?_ rfl rfl rfl rfl iI;simp
end R1
namespace R1
def Ob(m:Nat)(b:Nat->Int)(d:Bytes b)(f:m<=1048576):XK m b:=by
 refine ek.Kr Tryz.func6 rfl rfl (dr rfl) (AK.of_code ?_);refine bu rfl ak ?_;refine AK.cP (Qv m b f) [] rfl (λ_=>rfl) ?_;rintro⟨c,hm'⟩;refine bu rfl ak ?_;refine AK.cP (EK c b d 0 (by omega) hm') [1] rfl (λ_=>rfl) ?_;rintro⟨⟨s,k⟩,a,_,hk⟩;simp only at a hk;refine bu rfl ak ?_;refine AK.cP (gK c b d k 2 (by omega) hm' (by omega)) [1] rfl (λ_=>rfl) ?_;rintro⟨u,i,g⟩;refine bu rfl (by simp only[au,bE];omega) ?_;refine AK.cP (gK c b d (k+1) 24 (by omega) hm' (by omega)) [1] rfl (λ_=>rfl) ?_;rintro⟨w,w0,w1⟩;refine bu rfl (by simp only[au,bE];omega) ?_;refine AK.cP (Oc c b d (k+1+1) (by omega) hm') [1] rfl (λ_=>rfl) ?_;intro q;refine bu rfl ak ?_;refine AK.freeze 3 0 rfl rfl rfl ?_;have e:1<=1+u+w / 23/\1+u+w / 23<=3:=by omega
 refine AK.jf (λ_ _ _ h=>⟨⟨(s,1+u+w / 23,q.t),a.size,a.XN,a.num,e,a.an⟩,h⟩) ?_;refine AK.SB tok [] rfl ?_ rfl rfl rfl x8;simp
def ov{s:bd}{by_:Int}{t:List bw}(c:rE s)(h:(fV k s by_ t).2=ab):Sv k s by_ t/\fV k s by_ t=(cn k s by_ t,ab):=by
 unfold fV at *;split at h
 .rename_i a;have b:ga k s t=af:=by grind
  exact⟨⟨fh.1 a.1,c,a.2.1,a.2.2,b⟩,by simp[a,b]⟩
 .cases h
def Sv.size{s:bd}{by_:Int}{t:List bw}(h:Sv k s by_ t)(a:kI s):kI (cn k s by_ t):=by
 have:=jb (k:=k) (by_:=by_) (t:=t) a
 rwa [vM (fh.2 h.st) h.Vi h.tr,h.fu]at this
def Sv.an{s:bd}{by_:Int}{t:List bw}(h:Sv k s by_ t):(tO (cn k s by_ t).2.1).length<=(tO s.2.1).length+240:=by have:=Av (no:=cq s) (k:=k) h.tr;simp only[cn,tO,List.flatMap_append,cW,sO,List.flatMap_nil,iw];omega
def iA.XN{s:bd}(h:iA k s)(a:kI s)(c:(tO s.2.1).length<=4000000):OB s:=by
 have d:(bx s.1).length<=4*s.1.length:=mP λp b=>by rw[jM];exact(h.pk p b).len.2
 have:=h.len;exact⟨⟨a.p,a.s2,a.sn,c⟩,a.p2,by omega⟩
end R1
end Go.AM
