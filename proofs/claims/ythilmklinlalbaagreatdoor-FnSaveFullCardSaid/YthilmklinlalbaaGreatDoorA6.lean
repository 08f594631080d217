/- Part 6. No condition. -/
import Derived.Test.YthilmklinlalbaaGreatDoorA5
import Derived.Laws.Externs
import Derived.RowKit
import Derived.Conc.LeavingOf
import Derived.Below
import Derived.ProofKit
import Derived.OpenShut
import Derived.OpenVars
import Derived.LaidMore
import Derived.Lay
import Derived.SevenTiedAt
import Derived.LaidSub
import Derived.LaidLaws
import Derived.LaidHandle
set_option linter.all false
set_option maxHeartbeats 8000000
open Go renaming Value → ah
open Option renaming some → aa
open Go renaming Program → aq
open Go renaming TypeId → aj
open Bool renaming true → ab
open Option renaming none → af
open Go renaming Oper → ar
open Go renaming Operand → ak
open Bool renaming false → ae
open Go renaming undef → ai
open Go.World renaming cell? → aU
open List renaming getD_eq_getElem?_getD → an
open Go.Sem renaming events_bind → aK
open Go.Result renaming evThen_ok → aO
open Go.Instr renaming sliceBounds → ba
open Go renaming execOp → av
open Go renaming World → az
open Go renaming stepG → aG
open Go renaming Frame → aR
open List renaming range → bd
open Go renaming FuncId → aH
open Nat renaming beq → aA
open Nat renaming ble → bw
open Go.Op renaming equalIn → aX
open Go.Proofs.Tryz renaming prog → ag
namespace Go.AM.R1
section
open Go.Proofs
variable {X:Cx ag}
def G5{l:List (Int×Int)}{i:Nat}(h:i<l.length):l.getD i (0,0)∈l:=by grind
def oH(l:List (Int×Int)):Tr:=l.foldl (λt x=>t.put x.1 x.2) .nil
theorem IG(l:List (Int×Int))(x:Int×Int):oH (l++[x])=(oH l).put x.1 x.2:=by unfold oH;grind
def sV{l:List (Int×Int)}{j:Nat}(h:j<l.length):oH (l.take (j+1))=(oH (l.take j)).put (l.getD j (0,0)).1 (l.getD j (0,0)).2:=by grind[List.take_add_one,IG]
abbrev QO(l:List (Int×Int)):D:=.e (.one (.c (.sl ae 1 1 λi=>([[.sl ae 2 l.length (cH.fn l)]]:List (List C)).getD i [])))
abbrev ZK(x:Int×Int):aP:=.cells 91 [.c (.int .i64 x.1),.c (.int .i64 x.2)]
def frJ(l:List (Int×Int)):Nat->Fr
 |0=>[(3,.e (.one (.c .fx))),(8,QO l),(9,dI 1),(10,dI 0),(14,cH.sl l),(15,dI l.length),(16,dI 0)]
 |j+1=>[(3,.e (.one (.ref 1))),(8,QO l),(9,dI 1),(10,dI 0),(14,cH.sl l),(15,dI l.length),(16,dI (j+1:Nat))]
def stJ(l:List (Int×Int)):Nat->List aP
 |0=>[]
 |j+1=>[ZK (l.getD 0 (0,0)),.cf (nc IY (oH (l.take (j+1))))]
def ZL(l:List (Int×Int)):Nat->Fr
 |0=>[(3,.e (.one (.c .fx))),(8,QO l),(9,dI 1),(10,dI 0)]
 |j+1=>match l with
  |[]=>[(3,.e (.one (.c .fx))),(8,QO l),(9,dI 1),(10,dI (j+1:Nat))]
  |_::_=>[(3,.e (.one (.ref 1))),(8,QO l),(9,dI 1),(10,dI (j+1:Nat))]
def ZM(l:List (Int×Int)):Nat->List aP
 |0=>[]
 |_+1=>match l with
  |[]=>[]
  |x::r=>[ZK x,.cf (nc IY (oH (x::r)))]
def zc(l:List (Int×Int))(s:l.length<=4000000)(p:∀x∈l,bA .i64 x.1/\bA .i64 x.2):Ev X 42 [QO l] [] (.e (.one (.c (tC (oH l))))) []:=by
 refine Ev.bQ Tryz.func42 rfl λt=>?_;refine bu rfl aw ?_;refine AK.Qc 0 (λx=>x<=1) (ZL l) (ZM l) (λx=>1-x) 0 rfl (by simp) rfl aw rfl (by omega) ?_;intro x g;rcases x with _|x
 .refine aW [(11,ab)] rfl ?_ ?_
  .simp only[ay,aF,aD];and_intros<;>first|rfl|omega
  refine AK.Qc 0 (λj=>j<=l.length) (frJ l) (stJ l) (λj=>l.length-j) 0 rfl (by simp) rfl aw rfl (by omega) ?_;intro j q;rcases j with _|j
  .by_cases h:0<l.length
   .have g:=p _ (G5 h);have e:=sV h;have c1:bF X [(90,yE [.e (.one (.c .fx)),Pn (l.getD 0 (0,0)).1 (l.getD 0 (0,0)).2] [] (.e (.one (.ref 0))) [.cf (nc IY (.nd .nil (l.getD 0 (0,0)).1 (l.getD 0 (0,0)).2 .nil))])]:=.cons (Cg (A1 _ _ g.1 g.2 .nil)) .nil;refine bh c1 [(17,ab)] rfl ?_ (AK.z8 2 1 (by omega) rfl ?_ rfl rfl rfl ?_ rfl h (by grind))
    .simp only[ay,bA,aZ,aF,aD];and_intros<;>first|rfl|omega
    .simp
    .simp only[ay.cat,ay,aF,aD];rw[e];and_intros<;>rfl
   .obtain rfl:l=[]:=jf (by omega);refine bL [(17,ae)] rfl (by simp) (AK.z9 rfl rfl ?_);refine di rfl (by simp[bA]) (AK.z8 0 1 (by omega) rfl ?_ rfl rfl rfl aw rfl (by omega) (by decide));simp
  .obtain⟨n,m,k,i,e⟩:∃a b c d,oH (l.take (j+1))=.nd a b c d:=by rw[sV (by omega)];exact A0 _ _ _
   show AK X _ _ _ _ (frJ l (j+1)) [ZK (l.getD 0 (0,0)),.cf (nc IY (oH (l.take (j+1))))];by_cases h:j+1<l.length
   .have g:=p _ (G5 h);have o:=sV h;rw[e]at o⊢;have c1:bF X [(90,yE [.e (.one (.ref 0)),Pn (l.getD (j+1) (0,0)).1 (l.getD (j+1) (0,0)).2] [.cf (nc IY (.nd n m k i))] (.e (.one (.ref 0))) [.cf (nc IY ((Tr.nd n m k i).put (l.getD (j+1) (0,0)).1 (l.getD (j+1) (0,0)).2))])]:=.cons (Cg (A1 _ _ g.1 g.2 (.nd n m k i))) .nil;refine bh c1 [(17,ab)] rfl ?_ (AK.z8 2 (j+2) (by omega) rfl ?_ rfl rfl rfl ?_ rfl h (by grind))
    .simp only[ay,bA,aZ,aF,aD];and_intros<;>first|rfl|omega
    .simp only[ay.cat,ay,aF,aD];and_intros<;>first|exact cy.same|rfl|omega
    .simp only[ay.cat,ay,aF,aD];rw[o]
   .have f:j+1=l.length:=by omega
    rw[f,dh]at e
    match l,f,e with
    |x::r,f,e =>
     rw[f,dh,e];refine bL [(17,ae)] rfl (by simp[f]) (AK.z9 rfl rfl ?_);refine di rfl (by simp[bA]) (AK.z8 2 1 (by omega) rfl ?_ rfl rfl rfl ?_ rfl (by omega) (by decide))
     .simp
     .simp only[ay.cat,ay,aF,aD];grind
 .cases l with
  |nil =>
   refine bL [(11,ae)] rfl (by simp only[ay,bM,aD];omega) (AK.z9 rfl rfl ?_);exact di rfl aw (AK.bx rfl (by simp;rfl))
  |cons y r =>
   refine bL [(11,ae)] rfl (by simp only[ay,bM,aD];omega) (AK.z9 rfl rfl ?_);refine di rfl aw ?_;refine AK.Af 2 1 rfl rfl ?_;obtain⟨n,m,k,i,e⟩:∃a b c d,oH (y::r)=.nd a b c d:=by have:=sV (l:=y::r) (j:=r.length) (by simp);rw[List.take_of_length_le (by simp)]at this;rw[this];exact A0 _ _ _
   rw[e];exact AK.bx rfl
end
end Go.AM.R1
namespace Go.AM
section
open Go.Conc (G)
section
variable {P:aq}{X:Cx P}
def Yields.tm{ι:Type}{e:Nat}{ds:List D}{σ:List aP}{res:Bool}{σ1 rest:ι->List aP}(h:Yields X e ds σ res λi=>σ1 i++rest i)(hl:∀i,(σ1 i).length=σ.length)(m:∀i (l:Nat)(B:aP),(σ1 i)[l]?=aa B->DO (σ1 i).length σ l B):Yields X e ds σ res σ1:=by
 intro s vs l g hh Dp;obtain⟨fn,tmps,a,b,h1,h2,f⟩:=h s vs l g hh Dp;refine⟨fn,tmps,a,b,h1,h2,λS c cs hS=>f S c cs λi s' iX st=>?_⟩;have k:eu s' (s'.cut (σ1 i).length):=⟨rfl,λ_ _ _ h=>h,λ_ _ _=>rfl,iX.mem,λb d=>d.imp id λ⟨L,j,d⟩=>⟨L,fP j,d⟩⟩
 exact .ghost k (hS i _ (hh.PU (hl i).symm (m i) iX) (st.drop (Nat.le_of_eq (hl i).symm)))
end
section
variable {P:aq}{X:Cx P}{N:Nat}{φ:Fr}{σ:List aP}{Qf:Post}{K:List It}{all rest:List ar}
def AK.vn(t l:Nat){E:aj}{cs:List A}{cc:List C}(b:look φ t=.e (.one (.ptr l 0)))(hl:dw l σ=aa (.cells E cs))(a:gE cs=aa cc)(kk:AK X N Qf (.ops all rest::K) .normal ((t,.e (.one (.c (.rp cc))))::φ) (dH.qD l .dead σ)):AK X N Qf (.ops all rest::K) .normal φ σ:=by grind[jc,AK.J1,cq.freeze]
def oq.cons{φ φ':Fr}{t:Nat}{d:D}(h:look φ t=d)(r:oq φ φ'):oq φ ((t,d)::φ'):=by
 intro σ s v u a;simp only[look];cases b:aA t u with
 |false=>exact r _ _ _ _ a
 |true =>
  grind[Nat.eq_of_beq_eq_true]
end
end
def Tr.sz:Tr->Nat
 |.nil=>0
 |.nd l _ _ r=>l.sz+r.sz+1
namespace R1
open Go.Proofs
variable {X:Cx ag}
def Po(t:Tr)(n:Int):Ev X 44 [.e (.one (.c (tC t))),dI n] [] (dI (t.find n)) []:=by
 refine Ev.bQ Tryz.func44 rfl λg=>?_;refine bu rfl aw ?_;refine AK.loop (λu:Tr=>u.find n=t.find n) (λu=>[(0,.e (.one (.c (tC u)))),(1,dI n)]) (λ_=>[]) (λu=>u.sz) t rfl (.cons rfl (cX rfl (by simp))) rfl ?_;intro u d;cases u with
 |nil =>
  refine bu rfl aw ?_;refine AK.law (tE rfl Tryz.underlying85 rfl rfl rfl) rfl rfl ?_;refine aW [(7,ae),(15,ae)] rfl (by simp) (AK.leave rfl rfl ?_);refine bu rfl aw ?_;refine AK.law (tE rfl Tryz.underlying85 rfl rfl rfl) rfl rfl ?_;refine bu rfl aw (AK.bx rfl ?_);rw[<-d];simp[Tr.find]
 |nd l a b r =>
  have e:(Tr.nd l a b r).find n=if n=a then b else if n<a then l.find n else r.find n:=rfl;rw[e]at d;refine bu rfl aw ?_;refine AK.law (Gp rfl Tryz.underlying85 rfl rfl rfl) rfl rfl ?_;by_cases h:n=a
  .subst h;rw[bl rfl]at d;refine aW [(7,ab),(15,ae)] rfl (by simp) (AK.leave rfl rfl ?_);refine bu rfl aw ?_;refine AK.law (Gp rfl Tryz.underlying85 rfl rfl rfl) rfl rfl ?_;refine bu rfl aw (AK.bx rfl ?_);rw[<-d];simp
  rw[aY h]at d;by_cases f:n<a
  .rw[bl f]at d;cases l<;>exact aW [(7,ab),(15,ab),(22,ab)] rfl (by simp only[ay,lG,aZ,aF,aD];and_intros<;>first|rfl|grind|exact f) ⟨_,d,by simp only[Tr.sz];omega,.cons rfl (cX rfl (by simp)),rfl⟩
  .rw[aY f]at d;cases r<;>exact aW [(7,ab),(15,ab),(22,ae)] rfl (by simp only[ay,lG,bM,aF,aD];and_intros<;>first|rfl|grind|exact f) ⟨_,d,by simp only[Tr.sz];omega,.cons rfl (cX rfl (by simp)),rfl⟩
end R1
end Go.AM
namespace Go.AM.R1
section
open Go.Proofs
variable {X:Cx ag}
def IH(n:Int):Ev X 95 [dI n] [] (dB (decide (0<=n)&&decide (n<999999999989))) []:=by
 refine Ev.bQ Tryz.func95 rfl λa=>?_;by_cases h:0<=n
 .exact aW [(5,ab)] rfl (by simp[h]) (AK.bx rfl (by simp[h]))
 .exact aW [(5,ae)] rfl (by simp[h]) (AK.bx rfl (by simp[h]))
def Fx(a b:Int):Ev X 47 [Pn a b] [] (dB (eF (a,b))) []:=by
 refine Ev.bQ Tryz.func47 rfl λe=>?_;have d:bF X [(95,kq aI (λn=>dB (decide (0<=n)&&decide (n<999999999989))) λ_=>[])]:=.cons (.pD λn _=>IH n) .nil;unfold eF;cases h:(decide (0<=a)&&decide (a<999999999989))with
 |false=>exact aV d [(6,ae),(11,ae)] rfl (by simp[h]) (AK.bx rfl)
 |true =>
  by_cases c:1<=b
  .exact aV d [(6,ab),(11,ab)] rfl (by simp[h,c]) (AK.bx rfl (by simp[c]))
  .exact aV d [(6,ab),(11,ae)] rfl (by simp[h,c]) (AK.bx rfl (by simp[c]))
abbrev Fy:dv:=kq TV (λs=>dB (eF s)) λ_=>[]
def MS:eb X 47 Fy:=.pD λs _=>Fx s.1 s.2
def zb(l:List (Int×Int)):∀t:Tr,Tr.Ok t->(l.foldl (λt x=>t.put x.1 x.2) t).list=l.foldl gv t.list/\Tr.Ok (l.foldl (λt x=>t.put x.1 x.2) t):=by
 induction l with
 |nil=>grind
 |cons x r a =>
  grind[xA,O1]
def uI(l:List bH)(C:l.length<=4000000)(F:(c6 l).length<=100000):Ev X 12 [cP.sl l] [] (cH.sl (indexOf l)) []:=by
 refine Ev.bQ Tryz.func12 rfl λE=>?_;have d:bF X [(47,Fy)]:=.cons MS .nil;refine cm d rfl aw ?_;refine AK.iB 3 91 2 rfl rfl ?_;refine AK.cC 1 (λi=>i<=l.length/\(c6 (l.take i)).all eF=ab) (λi:Nat=>[(3,.e (.one (.vec 0 2 (c6 (l.take i)).length (cH.fn (c6 (l.take i)))))),(9,cP.sl l),(10,dI l.length),(11,dI i)]) (λi=>[Be (c6 (l.take i))]) (λi=>l.length-i) 0 rfl ?_ rfl ?_ rfl ⟨by omega,rfl⟩ ?_
 .simp[c6]
 .simp[c6]
 rintro i ⟨hi,b⟩;by_cases h:i<l.length
 .have t:l.getD (i:Int).toNat cP.b7=l.getD i (0,[]):=by grind
  have s:=rA h;refine bh d [(12,ab)] rfl (by simp only[ay,aZ];omega) ?_;refine AK.cC 2 (λj=>j<=(l.getD i (0,[])).2.length/\(kt l i j).all eF=ab) (λj:Nat=>[(3,.e (.one (.vec 0 2 (kt l i j).length (cH.fn (kt l i j))))),(5,.e (.one (.ptr 1 0))),(9,cP.sl l),(10,dI l.length),(11,dI i),(16,dM.sl (l.getD i (0,[])).2),(17,dI (l.getD i (0,[])).2.length),(18,dI j)]) (λj=>[Be (kt l i j),.cells 67 [.c (.int .i64 (l.getD i (0,[])).1),.c (.sl ae 2 (l.getD i (0,[])).2.length (dM.fn (l.getD i (0,[])).2))]]) (λj=>(l.getD i (0,[])).2.length-j) 0 rfl ?_ rfl ?_ rfl ⟨by omega,by simpa[kt]using b⟩ ?_
  .simp only[kt,List.take_zero,iQ,t,ay.cat,ay,aF,aD];and_intros<;>first|exact cy.same|rfl|omega
  .simp only[kt,List.take_zero,iQ,t,ay.cat,ay,aF,aD];and_intros<;>first|exact cy.same|rfl|omega
  rintro j ⟨D,k⟩;obtain⟨r,v⟩:=sH (l:=l) (j:=j) h;have p:(kt l i j).length<=100000:=by grind
  have z:(l.getD i (0,[])).2.length<=100000:=by grind[Ct]
  by_cases B:j<(l.getD i (0,[])).2.length
  .have a:(l.getD i (0,[])).2.getD (j:Int).toNat dM.b7=(l.getD i (0,[])).2.getD j (0,[]):=by grind
   have m:kt l i (j+1)=kt l i j++[(((l.getD i (0,[])).2.getD j (0,[])).1,(l.getD i (0,[])).1)]:=by unfold kt;rw[lR];congr 1;rw[bT (by grind) (0,0)];grind
   have f:=cH.cj (kt l i j) (((l.getD i (0,[])).2.getD j (0,[])).1,(l.getD i (0,[])).1);cases n:eF (((l.getD i (0,[])).2.getD j (0,[])).1,(l.getD i (0,[])).1)with
   |false =>
    have u:indexOf l=[]:=by obtain⟨r,v⟩:=sH (l:=l) (j:=j+1) h;unfold indexOf;rw[aY];grind
    refine bh d [(19,ab),(29,ab)] rfl ?_ (AK.fJ (cw.zero rfl ?_))
    .simp only[ay,a,n,aZ,aF,aD];and_intros<;>first|rfl|omega
    .rw[u];simp
   |true =>
    refine bh d [(19,ab),(29,ae)] rfl ?_ (AK.aQ (j+1) rfl ?_ ?_ ?_ ?_)
    .simp only[ay,a,n,bA,show i91.bytes=16 from rfl,aZ,aF,aD];and_intros<;>first|rfl|omega
    .rw[m];simp only[cA,jg,ay.cat,ay,a,aF,aD];and_intros<;>first|exact f|exact cy.same|rfl|omega
    .rw[m];simp only[cA,jg,ay.cat,ay,a,aF,aD];and_intros<;>first|exact f|exact cy.same|rfl|omega
    .grind
    .omega
  .have y:j=(l.getD i (0,[])).2.length:=by omega
   have g:kt l i j=c6 (l.take (i+1)):=by rw[s,kt];grind[List.length_map]
   refine bh d [(19,ae)] rfl ?_ (AK.leaveD rfl rfl ?_)
   .simp only[ay,bM];grind
   rw[g];refine cm d rfl ?_ (AK.aQ (i+1) rfl ?_ ?_ ⟨h,g▸k⟩ (by omega))
   .simp only[ay,bA,aD];omega
   .simp
   .simp
 .obtain rfl:i=l.length:=by omega
  rw[dh]at b⊢;refine bh d [(12,ae)] rfl (by simp) (AK.leaveD rfl rfl ?_);refine AK.BU (φ':=[(3,cH.sl (c6 l))]) (σ':=[Be (c6 l)]) ?_ rfl (by simp) rfl (by simp);have q:∀x∈c6 l,bA .i64 x.1/\bA .i64 x.2:=λx A=>by have:=List.all_eq_true.1 b x A;simp only[eF,bS,aZ]at this;simp only[bA];omega
  have c2:bF X [(42,xc [QO (c6 l)] (.e (.one (.c (tC (oH (c6 l)))))))]:=.cons (Ao (zc (c6 l) (by omega) q)) .nil;have hT:(oH (c6 l)).list=indexOf l:=by unfold indexOf;rw[bl b];exact(zb (c6 l) .nil (by simp[Tr.Ok,Tr.list])).1
  have o:(indexOf l).length<=100000:=by have:=tM (c6 l) [];unfold indexOf;grind
  rw[<-hT]at o⊢;clear hT;generalize oH (c6 l)=T at *;have w:=Dc (X:=X) T (by omega)
  cases T<;>(
   refine cm c2 rfl rfl ?_;refine AK.jI w.sW [] rfl rfl rfl rfl (by simp[tC]) rfl rfl rfl (λ_=>rfl) rfl (λ_=>rfl) rfl λ_=>?_
   exact cm c2 rfl aw (AK.bx rfl))
def pO(l:List Bs)(v:Bs):Int:=match l.findIdx? (λx=>x==v)with
 |some i=>i
 |none=>-1
def II{l:List Bs}{v:Bs}{i:Nat}(hi:i<l.length)(h:∀j,j<i->l.getD j []≠v)(a:l.getD i []=v):pO l v=i:=by
 have:l.findIdx? (λx=>x==v)=aa i:=by rw[vE];refine⟨hi,by grind,λj b=>?_⟩;grind
 simp only[pO,this]
def IJ{l:List Bs}{v:Bs}(h:∀j,j<l.length->l.getD j []≠v):pO l v=-1:=by
 have:l.findIdx? (λx=>x==v)=af:=by grind[List.getElem_of_mem]
 simp only[pO,this]
def Fz(l:List Bs)(v:Bs):decide (0<=pO l v)=l.contains v:=by unfold pO;grind
def IK(l:List Bs)(v:Bs):Ev X 94 [cS.sl l,dS v] [] (dI (pO l v)) []:=by
 refine Ev.bQ Tryz.func94 rfl λd=>?_;have f:=d.sl 0 rfl;refine bu rfl aw ?_;refine AK.cC 0 (λi=>i<=l.length/\∀j,j<i->l.getD j []≠v) (λi:Nat=>[(0,cS.sl l),(1,dS v),(7,dI l.length),(8,dI i)]) (λ_=>[]) (λi=>l.length-i) 0 rfl (by simp) rfl aw rfl ⟨by omega,by omega⟩ ?_;rintro i ⟨hi,a⟩;by_cases h:i<l.length
 .have c:l.getD (i:Int).toNat cS.b7=l.getD i []:=rfl;by_cases b:l.getD i []=v
  .rw[II h a b];refine aW [(9,ab),(16,ab)] rfl ?_ (AK.fJ (cw.zero rfl));simp only[ay,c,aZ,hI,aF,aD];and_intros<;>first|exact b.symm|omega
  .refine aW [(9,ab),(16,ae)] rfl ?_ (AK.aQ (i+1) rfl ?_ aw ⟨h,λj e=>?_⟩ (by omega))
   .simp only[ay,c,bA,aZ,eD,aF,aD];and_intros<;>first|grind|omega
   .simp
   grind
 .rw[IJ λj e=>a j (by omega)];refine aW [(9,ae)] rfl (by simp only[ay,bM];omega) (AK.leaveD rfl rfl ?_);exact bu rfl aw (AK.bx rfl)
abbrev PI:dv:=oX (aL cS) aS (λl v=>dI (pO l v)) λ_ _=>[]
def IL(l:List Bs)(v:Bs):Ev X 46 [cS.sl l,dS v] [] (dB (l.contains v)) []:=by refine Ev.bQ Tryz.func46 rfl λb=>?_;have a:bF X [(94,PI)]:=.cons (.sC λl v _=>IK l v) .nil;refine cg a rfl (by simp only[ay];exact cS.aM _) (AK.bx rfl ?_);simp only[ay,cS.list_fn,aD];exact Fz l v
abbrev GV:dv:=oX (aL cS) aS (λl v=>dB (l.contains v)) λ_ _=>[]
def Pp:eb X 46 GV:=.sC λl v _=>IL l v
def rE(l:List cu)(i:Nat):Bool:=(bd i).all λj=>eF (l.getD j (0,0))&&(j==0||decide ((l.getD (j-1) (0,0)).1<(l.getD j (0,0)).1))
theorem Dl{l:List cu}{i:Nat}:rE l (i+1)=(rE l i&&(eF (l.getD i (0,0))&&(i==0||decide ((l.getD (i-1) (0,0)).1<(l.getD i (0,0)).1)))):=by unfold rE;rw[List.range_succ,List.all_append];simp
def zf{l:List cu}{i:Nat}(h:rE l i=ae):∀n,i<=n->rE l n=ae:=by
 intro n a;obtain⟨k,rfl⟩:=Nat.exists_eq_add_of_le a;induction k with
 |zero=>exact h
 |succ k b=>grind[Dl]
def C9(l:List cu):Ev X 41 [cH.sl l] [] (dB (rE l l.length)) []:=by
 refine Ev.bQ Tryz.func41 rfl λj=>?_;have m:=j.sl 0 rfl;have a:bF X [(47,Fy)]:=.cons MS .nil;refine cg a rfl aw ?_;refine AK.cC 0 (λi=>i<=l.length/\rE l i=ab) (λi:Nat=>[(0,cH.sl l),(5,cH.sl l),(6,dI l.length),(7,dI i)]) (λ_=>[]) (λi=>l.length-i) 0 rfl (by simp) rfl aw rfl ⟨by omega,rfl⟩ ?_;rintro i ⟨hi,c⟩;by_cases h:i<l.length
 .have f:=Dl (l:=l) (i:=i);rw[c,fH]at f;have d:l.getD (i:Int).toNat cH.b7=l.getD i (0,0):=rfl;cases b:eF (l.getD i (0,0))with
  |false =>
   rw[zf (i:=i+1) (by grind) l.length (by omega)];refine aV a [(8,ab),(14,ab),(29,ab)] rfl ?_ (AK.fJ (cw.zero rfl));simp only[ay,d,b,aZ,aF,aD];and_intros<;>first|rfl|omega
  |true =>
  rw[b,fH]at f;by_cases g:i=0
  .subst g;refine aV a [(8,ab),(14,ae),(17,ae),(29,ae)] rfl ?_ (AK.aQ 1 rfl (by simp) aw ⟨h,f⟩ (by omega));simp only[ay,d,b,bA,aZ,bM,aF,aD];and_intros<;>first|rfl|omega
  have e:l.getD ((i:Int)-1).toNat cH.b7=l.getD (i-1) (0,0):=by rw[show((i:Int)-1).toNat=i-1 by omega];rfl
  by_cases k:(l.getD (i-1) (0,0)).1<(l.getD i (0,0)).1
  .refine aV a [(8,ab),(14,ae),(17,ab),(29,ae)] rfl ?_ (AK.aQ (i+1) rfl (by simp) aw ⟨h,by grind⟩ (by omega));simp only[ay,d,e,b,bA,aZ,bM,aF,aD];and_intros<;>first|rfl|omega
  .rw[zf (i:=i+1) (by grind) l.length (by omega)];refine aV a [(8,ab),(14,ae),(17,ab),(29,ab)] rfl ?_ (AK.fJ (cw.zero rfl));simp only[ay,d,e,b,bA,aZ,aF,aD];and_intros<;>first|rfl|omega
 .obtain rfl:i=l.length:=by omega
  rw[c];refine aV a [(8,ae)] rfl (by simp) (AK.leaveD rfl rfl ?_);exact cg a rfl aw (AK.bx rfl)
theorem uE{l:List cu}(h:rE l l.length=ab):(∀x∈l,eF x=ab)/\l.Pairwise λx y=>x.1<y.1:=by
 have a:=dz.1 h;have c:∀j,j<l.length->∀i,i<j->(l.getD i (0,0)).1<(l.getD j (0,0)).1:=by
  intro j;induction j with
  |zero=>grind
  |succ j b =>
   grind
 grind[List.getElem_of_mem,List.pairwise_iff_getElem]
def A2(l:List cu):∀a:List cu,(a++l).Pairwise (λx y=>x.1<y.1)->l.foldl gv a=a++l:=by
 induction l with
 |nil=>grind
 |cons x r b =>
  grind[LI]
def IB{l:List cu}(h:rE l l.length=ab)(n:Int):(oH l).find n=mH l n:=by obtain⟨c,a⟩:=zb l .nil (by simp[Tr.Ok,Tr.list]);have b:=A2 l [] (by grind[uE]);rw[oH,tU a,c];exact dA (mH · n) b
def xI{t:List bz}(h:cz t=ab):∀f∈t,ee f.2=ab:=λf a=>((mO.1 h).1 f a).2
abbrev dV2(a:List Bs):D:=.e (.one (.vec 2 1 a.length (cS.fn a)))
def uF(m q:aj×ah)(k:Int)(t:List bz)(l:List cu)(hk:b6 k=ab)(A:cz t=ab)(I:rE l l.length=ab)(v:l.length<=4000000):
  Ev X 11 [dI k,cF.sl t,cH.sl l] (GB m q) (cS.sl (dg k t l)) (GB m q):=by
 refine Ev.bQ Tryz.func11 rfl λS=>?_;have P:bF X [(40,kq aI (λk=>dB (b6 k)) λ_=>[]),(25,Wn),(41,kq (aL cH) (λl=>dB (rE l l.length)) λ_=>[])]:=.cons t40 (.cons t25 (.cons (.pD λl _=>C9 l) .nil));refine bh P [(15,ae),(20,ae),(25,ae)] rfl ?_ ?_
 .simp only[ay,hk,cF.list_fn,cH.list_fn,iJ,A,I];exact⟨rfl,cH.aM _,rfl,cF.aM _,rfl⟩
 have J:=uE I;have G:∀x∈l,bA .i64 x.1/\bA .i64 x.2:=λx r=>by have:=J.1 x r;simp only[eF,bS,aZ]at this;simp only[bA];omega
 have hT:=IB I;have E:=zc (X:=X) l v G;have C:∀n,Ev X 44 [.e (.one (.c (tC (oH l)))),dI n] [] (dI (mH l n)) []:=λn=>hT n▸Po (oH l) n
 clear hT;generalize oH l=T at *;have c1:bF X [(42,xc [QO l] (.e (.one (.c (tC T)))))]:=.cons (Ao E) .nil;cases T<;>(
  refine cm c1 rfl rfl ?_;refine AK.iB 8 9 1 rfl rfl ?_;refine AK.sk 3 [0,7,29,30] (λi=>i<=t.length) (λi:Nat=>[(8,dV2 ((gL (t.take i)).foldl (iF k l) [])),(31,dI i)]) (λi=>GB m q++[.vec 9 1 ((gL (t.take i)).foldl (iF k l) []).length (cS.fn ((gL (t.take i)).foldl (iF k l) []))]) (λi=>t.length-i) 0 rfl ?_ rfl ?_ rfl (by omega) ?_
  .simp[gL]
  .simp[gL]
  intro i hi;by_cases h:i<t.length
  .have H:t.getD (i:Int).toNat cF.b7=t.getD i ([],[]):=by grind
   have b:t.getD i ([],[])∈t:=by grind
   have N:=xI A _ b;have d:=yW h;have z:=GC t (i+1);have w:=eg A;have L:=(w.sZ _ b).1;have K:=w.all;have O:=w.len;have u:=nJ L;generalize t.getD i ([],[])=f at *;rw[d,cA]at z;have B:gV f.2=pieces f.2:=by unfold gV;grind
   have c2:bF X [(43,kq aS (λs=>cS.sl (gV s)) λ_=>[])]:=.cons Ap .nil;refine bh c2 [(32,ab)] rfl ?_ ?_
   .simp only[ay,H,L,aZ,aF,aD];and_intros<;>omega
   rw[H,B];refine AK.sk 4 [0,7,29,30,31,37,38] (λj=>j<=(pieces f.2).length) (λj:Nat=>[(8,dV2 ((gL (t.take i)++(pieces f.2).take j).foldl (iF k l) [])),(39,dI j)]) (λj=>GB m q++[.vec 9 1 ((gL (t.take i)++(pieces f.2).take j).foldl (iF k l) []).length (cS.fn ((gL (t.take i)++(pieces f.2).take j).foldl (iF k l) [])),.cells 82 [.c (.str f.1),.c (.str f.2)]]) (λj=>(pieces f.2).length-j) 0 rfl ?_ rfl ?_ rfl (by omega) ?_
   .simp
   .simp[H]
   intro j R;have D:=tL k l (gL (t.take i)++(pieces f.2).take j) [];simp only[fG,cA,List.length_take]at D;by_cases Q:j<(pieces f.2).length
   .have F:(pieces f.2).getD (j:Int).toNat cS.b7=(pieces f.2).getD j []:=by grind
    have y:bt ((pieces f.2).getD j [])=ab:=u _ (by grind);have a:(gL (t.take i)++(pieces f.2).take (j+1)).foldl (iF k l) []=iF k l ((gL (t.take i)++(pieces f.2).take j).foldl (iF k l) []) ((pieces f.2).getD j []):=by grind[bT]
    generalize(gL (t.take i)++(pieces f.2).take j).foldl (iF k l) []=out at *;generalize(pieces f.2).getD j []=p at *;have r:=cS.cj out p;refine bL [(40,ab)] rfl ?_ ?_
    .simp only[ay,aZ,aF,aD];and_intros<;>omega
    rw[F];refine AK.cQ (ua m q k p hk y) [0,1] rfl ?_;refine AK.cQ (C _) [] rfl ?_;have c3:bF X [(46,GV)]:=.cons Pp .nil;by_cases g:mH l (ek k p)=0
    .cases M:out.contains p with
     |true =>
      rw[iF,aY (by grind)]at a;refine bh c3 [(49,ab),(54,ae)] rfl ?_ (AK.aQ (j+1) rfl ?_ ?_ ?_ ?_)
      .simp only[ay,g,M,bA,cS.list_fn,jz,aZ,aF,aD];and_intros<;>first|exact cS.aM _|rfl|omega
      .rw[a];simp
      .rw[a];simp
      .grind
      .omega
     |false =>
      rw[iF,bl (by grind)]at a;refine bh c3 [(49,ab),(54,ab)] rfl ?_ (AK.aQ (j+1) rfl ?_ ?_ ?_ ?_)
      .simp only[ay,g,M,bA,show i9.bytes=16 from rfl,cS.list_fn,jz,aZ,aF,aD];and_intros<;>first|exact cS.aM _|rfl|omega
      .rw[a];simp only[ay.cat,ay,cA,er,fG,aF,aD];and_intros<;>first|exactλ_ _=>rfl|exact r|rfl|omega
      .rw[a];simp only[ay.cat,ay,cA,er,fG,aF,aD];and_intros<;>first|exactλ_ _=>rfl|exact r|rfl|omega
      .grind
      .omega
    .rw[iF,aY (by grind)]at a;refine bh c3 [(49,ae)] rfl ?_ (AK.aQ (j+1) rfl ?_ ?_ ?_ ?_)
     .simp only[ay,bA,eD,du,g,n5,aF,aD];and_intros<;>omega
     .rw[a];simp
     .rw[a];simp
     .grind
     .omega
   .have o:j=(pieces f.2).length:=by omega
    refine bL [(40,ae)] rfl (by simp only[ay,bM];omega) (AK.leaveD rfl rfl ?_);refine di rfl ?_ (AK.aQ (i+1) rfl ?_ ?_ ?_ ?_)
    .simp only[ay,bA];omega
    .rw[d,o,dh];simp
    .rw[d,o,dh];simp
    .grind
    .omega
  .obtain rfl:i=t.length:=by omega
   rw[dh];refine bL [(32,ae)] rfl (by simp) (AK.leaveD rfl rfl ?_)
   refine di rfl aw (AK.cY [0,1] rfl ?_ rfl rfl rfl A3);simp[dg,gL])
abbrev ZB(q:bH×Bool):D:=.fa [.agg [.c (.int .i64 q.1.1),.c (.sl ae 2 q.1.2.length (dM.fn q.1.2))],.one (.c (.bool q.2))]
def k9(k:Int)(p:Bs):bm:=(ek k p,eT p)
def zd(no k:Int)(ps:List Bs):bH:=(no,mI (ps.map (k9 k)))
def nU(no k:Int)(ps:List Bs):bH×Bool:=if gk k (zd no k ps)=ab then(zd no k ps,ab)else((0,[]),ae)
theorem qB:∀(l a:List bm),(l.foldl gQ a).length=a.length+l.length
 |[],a=>by simp
 |x::l,a=>by rw[lj,qB l,yL,er];omega
def Ms:∀(f:Nat){l:List bm}{j:Nat},jY l->j<l.length->jY (xQ f l j)
 |0,_,_,h,_=>h
 |f+1,l,j,h,a=>by
  rw[xQ];split
  .exact h
  .split
   .exact Ms f (ub h (by omega) a) (by grind[fX])
   grind
theorem Mt{l:List bm}{x:bm}(b:jY l)(c:bA .i64 x.1/\x.2.length<=9223372036854775807):jY (gQ l x):=by
 refine Ms _ (λy a=>?_) (by simp);rcases gb.1 a with h|h
 .exact b y h
 grind
def Pr{l:List bm}(a:jY l)(b:0<l.length):jY (kr l) :=
 xN _ _ (ub a b (by omega)) (by grind[fX]) (by grind[fX])
theorem GY{k:Int}{p:Bs}(a:bt p=ab):bA .i64 (k9 k p).1/\(k9 k p).2.length<=9223372036854775807:=by
 have h:=a;simp only[bt,bS,aZ]at h;have c:=pY (codeOf p*(2*k+1)+k*7919) (show(999999999989:Int)≠0 by decide);have b:=pT (codeOf p*(2*k+1)+k*7919) (show(0:Int)<999999999989 by decide);refine⟨?_,?_⟩
 .show bA .i64 (ek k p);simp only[bA,ek];omega
 .show (eT p).length<=_;unfold eT cK;grind
def GZ(k:Int)(ps:List Bs)(b:∀p∈ps,bt p=ab):jY ((ps.map (k9 k)).foldl gQ []):=by
 have:∀(l:List Bs) (a:List bm),(∀p∈l,bt p=ab)->jY a->jY ((l.map (k9 k)).foldl gQ a):=by
  intro l;induction l with
  |nil=>grind
  |cons p r c=>grind[Mt,GY]
 exact this ps [] b (by simp[jY])
abbrev Ww(a b:aj×ah)(g:Nat)(bf:m9)(l:List bm):List aP:=GB a b++[.cells 67 [.c (.int .i64 0),.c (.sl ab 0 0 λ_=>[])],cB g bf l.length,hB bf l.length l]
abbrev Mv(no:Int)(out:List bm):List aP:=[.cells 67 [.c (.int .i64 no),.vec 6 2 out.length (dM.fn out)],.vec 76 2 out.length (dM.fn out)]
def uH(j o:aj×ah)(no k:Int)(ps:List Bs)(H:bA .i64 no)(hk:b6 k=ab)(f:∀p∈ps,bt p=ab)(U:ps.length<=4):
  Ev X 74 [dI no,dI k,cS.sl ps] (GB j o) (ZB (nU no k ps)) (GB j o):=by
 refine Ev.pA tok Tryz.func74 rfl rfl rfl λT=>?_;refine bL [(1000002,ab)] rfl aw ?_;refine AK.Kg 8 3 76 2 rfl rfl λg J=>?_;refine di rfl aw ?_;refine AK.sk 5 [0,1,6,8,14,15] (λq:Nat×m9=>q.1<=ps.length) (λq=>[(16,dI q.1)]) (λq=>Ww j o g q.2 (((ps.take q.1).map (k9 k)).foldl gQ [])) (λq=>ps.length-q.1) (0,.nil J) rfl ?_ rfl ?_ rfl (by omega) ?_
 .simp
 .simp[s8]
 rintro⟨i,bf⟩ hi;simp only at hi;by_cases h:i<ps.length
 .have P:ps.getD (i:Int).toNat cS.b7=ps.getD i []:=by grind
  have u:bt (ps.getD i [])=ab:=f _ (by grind);have E:((ps.take (i+1)).map (k9 k)).foldl gQ []=gQ (((ps.take i).map (k9 k)).foldl gQ []) (k9 k (ps.getD i [])):=by grind[bT]
  have I:(((ps.take i).map (k9 k)).foldl gQ []).length=i:=by grind[qB]
  have m:=GZ k (ps.take i) λp A=>f p (fP A);generalize ps.getD i []=p at *;generalize((ps.take i).map (k9 k)).foldl gQ []=l at *;refine bh (.cons Oi .nil:bF X [(126,nC)]) [(17,ab)] rfl ?_ ?_
  .simp only[ay,aZ,aF,aD];and_intros<;>omega
  rw[P];refine AK.cQ (ua j o k p hk u) [0,1] rfl ?_;refine cm (.cons Oi .nil:bF X [(126,nC)]) rfl aw ?_;refine AK.cP (Da g bf m (by omega) (x:=k9 k p) (GY u)) [3,4] rfl (λ_=>rfl) λy=>?_;have s:=yL l (k9 k p);refine di rfl ?_ (AK.aQ (i+1,y) rfl ?_ ?_ ?_ ?_)
  .simp only[ay,bA];omega
  .simp
  .simp only[E,s,ay.cat,ay,aF,aD];grind[cy.same]
  .grind
  grind
 obtain rfl:i=ps.length:=by omega
 rw[dh];refine bL [(17,ae)] rfl (by simp) (AK.leaveD rfl rfl ?_);have K:((ps.map (k9 k)).foldl gQ []).length<=4:=by grind[qB]
 have m:=GZ k ps f;have B:mI (ps.map (k9 k))=[]++lD ((ps.map (k9 k)).foldl gQ []).length ((ps.map (k9 k)).foldl gQ []):=by rw[mI,qB,ml,fG,bC]
 refine di rfl aw ?_;refine AK.g7 5 1 76 2 (dM.fn []) rfl rfl ?_;refine AK.sk 7 [1,6,8,11] (λq:List bm×m9×List bm=>jY q.1/\q.1.length+q.2.2.length<=4/\mI (ps.map (k9 k))=q.2.2++lD q.1.length q.1) (λq=>[]) (λq=>Ww j o g q.2.1 q.1++Mv no q.2.2) (λq=>q.1.length) ((ps.map (k9 k)).foldl gQ [],bf,[]) rfl ?_ rfl ?_ rfl ⟨m,by grind,B⟩ ?_
 .simp
 .simp
 rintro⟨h,bf,out⟩ ⟨z,Q,w⟩;simp only at z Q w;refine di rfl aw ?_;refine AK.law (bG.BX rfl rfl) rfl rfl ?_;refine AK.one (OA.yz tok 3 rfl rfl rfl rfl rfl (ni bf _) rfl) rfl ?_;refine AK.cQ (A5 bf h.length h) [4] rfl ?_;by_cases S:h.length=0
 .rw[S,lD,iQ]at w;subst w;refine bL [(37,ae)] rfl (by simp only[ay,bM,aD];omega) (AK.leaveD rfl rfl ?_);have G:bF X [(102,Ar)]:=.cons Gr .nil;have L:(mI (ps.map (k9 k))).length<=4:=by omega
  cases v:gk k (zd no k ps)with
  |false =>
   have a:gk k (no,mI (ps.map (k9 k)))=ae:=v;have e:nU no k ps=((0,[]),ae):=by unfold nU;grind
   rw[e];refine bh G [(50,ab)] rfl ?_ ?_
   .simp only[ay,dM.list_fn,a,hk];and_intros<;>first|exact dM.aM _|rfl|exact True.intro|grind
   refine AK.mF () [0,1] rfl rfl rfl rfl rfl rfl rfl rfl rfl ?_ rfl rfl rfl rfl A3;simp
  |true =>
   have a:gk k (no,mI (ps.map (k9 k)))=ab:=v;have e:nU no k ps=(zd no k ps,ab):=by unfold nU;grind
   rw[e];refine bh G [(50,ae)] rfl ?_ ?_
   .simp only[ay,dM.list_fn,a,hk];and_intros<;>first|exact dM.aM _|rfl|exact True.intro|grind
   refine AK.mF () [0,1] rfl rfl rfl rfl rfl rfl rfl rfl rfl ?_ rfl rfl rfl rfl A3;simp[zd]
 obtain⟨n,t⟩:∃n,h.length=n+1:=⟨h.length-1,by omega⟩
 refine bL [(37,ab),(1000009,ab)] rfl (by simp only[ay,aZ,aD];omega) ?_;refine AK.fact (Mq (i:=4) (n:=h.length) (bf:=bf) (l:=h) rfl (by omega)) λM=>?_;obtain⟨b,cap,rfl,d⟩:=M;rw[t]at d;have A:=Fe (X:=X) g b cap z t (by omega) d;have O:=Pr z (by omega);have s:((kr h).take n).length=n:=by grind[Cq]
 have R:mI (ps.map (k9 k))=(out++[(kr h).getD n (0,[])])++lD n ((kr h).take n):=by rw[w,t,lD,aY (by omega),t];simp
 have N:jY ((kr h).take n):=λx F=>O x (fP F);show AK X _ _ _ _ _ (GB j o++[.cells 67 [.c (.int .i64 0),.c (.sl ab 0 0 λ_=>[])],cB g (.row b cap) h.length,hB (.row b cap) h.length h]++Mv no out);rw[t];generalize(kr h).getD n (0,[])=x at *;generalize(kr h).take n=r at *;refine AK.J7 (ι:=Unit) iZ 4 7 10 (λk=>bw k 3) (λk=>([.e (.one (.ptr 5 1)),.e (.one (.vec 6 2 out.length (dM.fn out))),uW (.pointer (aa ⟨g,0,af⟩)),T6 g]:List D).getD k .any) (λ_ k=>([.any,.any,.any,.any,T5 x,Xm x,.e (.one (.c (.sl ab 2 1 λi=>([[.int .i64 x.1,.str x.2]]:List (List C)).getD i [])))]:List D).getD k .any)
  (λ_=>GB j o++[.cells 67 [.c (.int .i64 0),.c (.sl ab 0 0 λ_=>[])],cB g (.row b cap) n,hB (.row b cap) n r]++Mv no out)
  rfl rfl rfl rfl rfl rfl rfl (λk h=>by have:=cZ h;omega) rfl
  ⟨OA.cV tok bF.nil rfl,OA.cV tok bF.nil rfl,OA.cV tok bF.nil rfl,OA.cV tok bF.nil rfl,aw,aw,aw,aw,aw,aw,aw⟩
  (λ_=>⟨OA.cV tok bF.nil rfl,OA.cV tok bF.nil rfl,OA.cV tok bF.nil rfl,OA.cV tok bF.nil rfl,aw,OA.kS (fI rfl) (bG.Ae (cs:=[.int .i64 x.1,.str x.2]) tok rfl rfl rfl rfl),OA.cV tok bF.nil rfl,aw⟩)
  (mz.qg A.sW [3,4] rfl rfl rfl rfl rfl rfl rfl (λ_=>rfl) rfl (λ_=>rfl)) λ_=>?_
 have F:=dM.cj out x;refine di rfl ?_ (AK.aQ (r,.row b cap,out++[x]) rfl ?_ ?_ ?_ ?_)
 .simp only[ay,show i76.bytes=24 from rfl,aF];omega
 .simp
 .simp only[s,ay.cat,ay,cA,er,fG,aF,aD];and_intros<;>first|exact cy.same|exact F|rfl
 .grind
 grind
abbrev Zz(s:gG):D:=.fa [.agg [.c (.int .i64 s.1),.c (.sl ae 2 s.2.length (cL.fn s.2))],.one (.c (.bool ab))]
abbrev Ws(a b:aj×ah)(no:Int)(ls:List jS):List aP:=GB a b++[.cells 71 [.c (.int .i64 0),.c (.sl ab 0 0 λ_=>[])],.cells 71 [.c (.int .i64 no),.vec 4 2 ls.length (cL.fn ls)],.vec 140 2 ls.length (cL.fn ls)]
abbrev Wt(f:bz)(ns:List Int):List aP:=[.cells 82 [.c (.str f.1),.c (.str f.2)],.cells 140 [.c (.str f.1),.vec 7 1 ns.length (cI.fn ns)],.vec 3 1 ns.length (cI.fn ns)]
def Fc(d g:aj×ah)(no k:Int)(t:List bz)(y:1<=no/\no<=99)(hk:b6 k=ab)(q:cz t=ab):
  Ev X 75 [dI no,dI k,cF.sl t] (GB d g) (Zz (fA no k t)) (GB d g):=by
 refine Ev.pA tok Tryz.func75 rfl rfl rfl λL=>?_;have H:bF X [(40,kq aI (λk=>dB (b6 k)) λ_=>[]),(25,Wn)]:=.cons t40 (.cons t25 .nil);refine bh H [(15,ae),(19,ae),(24,ae),(29,ae)] rfl ?_ ?_
 .simp only[ay,hk,cF.list_fn,iJ,q,bM];and_intros<;>first|exact cF.aM _|rfl|omega
 refine AK.g7 3 1 140 2 (cL.fn []) rfl rfl ?_;refine AK.sk 5 [1,6,8,33,34] (λi=>i<=t.length) (λi:Nat=>[(35,dI i)]) (λi=>Ws d g no (m6 k (t.take i))) (λi=>t.length-i) 0 rfl ?_ rfl ?_ rfl (by omega) ?_
 .simp
 .simp
 intro i hi;by_cases h:i<t.length
 .have E:t.getD (i:Int).toNat cF.b7=t.getD i ([],[]):=by grind
  have a:t.getD i ([],[])∈t:=by grind
  have w:=eg q;have A:=w.sZ _ a;have D:=xI q _ a;have I:=w.len;have n:=nJ A.1;have G:=ku (t.getD i ([],[])).2;have l:m6 k (t.take (i+1))=m6 k (t.take i)++[oN k (t.getD i ([],[]))]:=by grind[bT]
  have z:(m6 k (t.take i)).length=i:=by grind
  generalize t.getD i ([],[])=f at *;generalize m6 k (t.take i)=ls at *;have r:gV f.2=pieces f.2:=by unfold gV;grind
  have c2:bF X [(43,kq aS (λs=>cS.sl (gV s)) λ_=>[])]:=.cons Ap .nil;refine bh c2 [(36,ab)] rfl ?_ ?_
  .simp only[ay,aZ,aF,aD];and_intros<;>omega
  rw[E,r];refine AK.g7 6 1 3 1 (cI.fn []) rfl rfl ?_;refine AK.sk 8 [1,6,8,10,11,33,34,35,44,45] (λj=>j<=(pieces f.2).length) (λj:Nat=>[(46,dI j)]) (λj=>Ws d g no ls++Wt f (lE k ((pieces f.2).take j))) (λj=>(pieces f.2).length-j) 0 rfl ?_ rfl ?_ rfl (by omega) ?_
  .simp
  .simp
  intro j K;by_cases J:j<(pieces f.2).length
  .have v:(pieces f.2).getD (j:Int).toNat cS.b7=(pieces f.2).getD j []:=by grind
   have o:bt ((pieces f.2).getD j [])=ab:=n _ (by grind);have b:lE k ((pieces f.2).take (j+1))=lE k ((pieces f.2).take j)++[ek k ((pieces f.2).getD j [])]:=by grind[bT]
   have F:(lE k ((pieces f.2).take j)).length=j:=by grind
   generalize(pieces f.2).getD j []=p at *;generalize lE k ((pieces f.2).take j)=ns at *;have m:=cI.cj ns (ek k p);refine bL [(47,ab),(1000011,ab)] rfl ?_ ?_
   .simp only[ay,aZ,aF,aD];and_intros<;>omega
   rw[v];refine AK.calm iZ [.e (.one (.ptr 6 1)),.e (.one (.vec 7 1 ns.length (cI.fn ns))),dI k,dS p,dI (ek k p),.e (.one (.c (.sl ab 1 1 λi=>([[.int .i64 (ek k p)]]:List (List C)).getD i [])))] 6 rfl rfl rfl rfl rfl ⟨OA.cV tok bF.nil rfl,OA.cV tok bF.nil rfl,OA.cV tok bF.nil rfl,OA.cV tok bF.nil rfl,
    OA.T4 (mz.qg (ua d g k p hk o).sW [0,1] rfl rfl rfl rfl rfl rfl rfl (λ_=>rfl) rfl (λ_=>rfl)),OA.cV tok bF.nil rfl,aw⟩ ?_
   refine di rfl ?_ (AK.aQ (j+1) rfl ?_ ?_ ?_ ?_)
   .simp only[ay,bA,show i3.bytes=8 from rfl,aF,aD];and_intros<;>omega
   .simp
   .simp only[b,ay.cat,ay,cA,er,fG,aF,aD];and_intros<;>first|exact cy.same|exactλ_ _=>rfl|exact m|rfl|omega
   .grind
   .omega
  .have u:j=(pieces f.2).length:=by omega
   rw[u,dh];have m:=cL.cj ls (oN k f);have x:ls.length+1=(ls++[oN k f]).length:=by simp
   have B:cL.enc (oN k f)=[C.str f.1,C.sl ae 1 (lE k (pieces f.2)).length (cI.fn (lE k (pieces f.2)))]:=rfl;rw[B,<-l]at m;rw[<-l]at x;refine bL [(47,ae)] rfl (by simp only[ay,bM];omega) (AK.leaveD rfl rfl ?_);refine di rfl ?_ (AK.aQ (i+1) rfl ?_ ?_ ?_ ?_)
   .simp only[ay,bA,show i140.bytes=40 from rfl,aF,aD];and_intros<;>omega
   .simp
   .simp only[ay.cat,ay,aF,aD];and_intros<;>first|exact cy.same|exact m|exact x|rfl
   .grind
   .omega
 .obtain rfl:i=t.length:=by omega
  rw[dh];refine bL [(36,ae)] rfl (by simp) (AK.leaveD rfl rfl ?_);refine di rfl aw ?_;refine AK.mF () [0,1] rfl rfl rfl rfl rfl rfl rfl rfl rfl ?_ rfl rfl rfl rfl A3;simp[fA]
abbrev tHB(l:List (Int×Int))(b:Bool):D:=.fa [.one (.c (.sl ae 2 l.length (cH.fn l))),.one (.c (.bool b))]
def Fh(l:List (Int×Int))(x:Int×Int)(f:k7 l=ab)(g:gY x=ab)(i:l.length<=9):Ev X 76 [cH.sl l,Pn x.1 x.2] [] (tHB (if l.length=9 then l else l++[x]) (decide (l.length≠9))) []:=by
 refine Ev.bQ Tryz.func76 rfl λj=>?_;have b:bF X [(54,sL),(100,kq TV (λh=>dB (gY h)) λ_=>[])]:=.cons GK (.cons (.pD λh _=>xu h) .nil);refine aV b [(9,ae),(14,ae)] rfl ?_ ?_
 .simp only[ay,cH.list_fn,f,g,j8,aF,aD];first|exact cH.aM _|(and_intros<;>first|rfl|exact cH.aM _)
 refine AK.cQ (yI l (by omega)) [] rfl ?_;by_cases d:l.length=9
 .refine aV b [(19,ab)] rfl (by simp[d]) ?_;refine AK.oK 1 rfl rfl rfl (by simp) (by simp) ?_;exact AK.bx rfl (by simp[d,q8])
 .refine aV b [(19,ae)] rfl ?_ ?_
  .simp only[ay,show i48.bytes=16 from rfl,eD,aF,aD];and_intros<;>first|rfl|omega
  have a:=cH.cj l x;refine AK.BU (φ':=[(4,.e (.one (.bp 1 (.sl (l.length+1) 2 0 (l.length+1))))),(5,dB ab)]) (σ':=[.cells 48 [.c (.int .i64 x.1),.c (.int .i64 x.2)],.buf 48 2 (l.length+1) (cH.fn (l++[x]))]) ?_ rfl (by simp;rfl) rfl (by simp only[ay.cat,ay,aF,aD];and_intros<;>first|rfl|exact a);refine AK.oK 1 rfl rfl rfl (by simp) (by simp) ?_;exact AK.bx rfl (by simp[d,q8])
def MT(l:List bH)(c:l.length<=4000000):Ev X 50 [cP.sl l] [] (dI (if l.length=0 then 0 else(l.getD (l.length-1) (0,[])).1)) []:=by
 refine Ev.bQ Tryz.func50 rfl λb=>?_;by_cases h:l.length=0
 .rw[bl h];exact aW [(5,ab)] rfl (by simp[h]) (AK.bx rfl)
 .have a:l.getD ((l.length:Int)-1).toNat cP.b7=l.getD (l.length-1) (0,[]):=by rw[show((l.length:Int)-1).toNat=l.length-1 by omega];rfl
  rw[aY h];refine aW [(5,ae)] rfl ?_ (AK.bx rfl (by simp only[ay,a,aD]));simp only[ay,a,bA,eD,aF,aD];and_intros<;>omega
def mg(m:Int)(l:List (Int×Int)):Int:=l.foldl (λm h=>max m (h.2+1)) m
def zg(l:List (Int×Int)):∀m n:Int,mg (max m n) l=max m (mg n l):=by
 induction l with
 |nil=>intro m n;rfl
 |cons x r a =>
  intro m n;show mg (max (max m n) (x.2+1)) r=max m (mg (max n (x.2+1)) r);grind
def FA{m:Int}{l:List (Int×Int)}{i:Nat}(h:i<l.length):mg m (l.take (i+1))=max (mg m (l.take i)) ((l.getD i (0,0)).2+1):=by unfold mg;grind[bT]
def iT(s:bo):Int:=if s.2.1.length=0 then 1 else max 1 ((s.2.1.getD (s.2.1.length-1) (0,[])).1+1)
def Dm(s:bo):mg (iT s) s.2.2=de s:=by
 unfold iT de;have a:mg 1 s.2.2=nO s.2.2:=rfl;split
 .exact a
 .rw[show max 1 ((s.2.1.getD (s.2.1.length-1) (0,[])).1+1)=max ((s.2.1.getD (s.2.1.length-1) (0,[])).1+1) 1 by omega,zg,a];omega
def Mz(s:bo)(g:l8 s)(d:sE s):Ev X 13 [qN s] [] (.fa [.one (.c (.int .i64 (cv s))),.one (.c (.int .i64 (de s)))]) []:=by
 refine Ev.bQ Tryz.func13 rfl λB=>?_;have k:=g.p;have r:=g.sn;have z:=g.h;have v:1<=iT s/\iT s<=4000001:=by
  unfold iT;split
  .omega
  .have:=d.s _ (ff (show s.2.1.length-1<s.2.1.length by omega) (0,[]));omega
 apply AK.join [(1,.e (.one (.ptr 0 0))),(4,dI (iT s))] [xR s]
 .intro out;by_cases h:s.2.1.length=0
  .refine bL [(12,ae),(1000005,ab)] rfl (by simp only[ay,bM];omega) ?_;exact out _ _ rfl (by simp[iT,h])
  .have w:=d.s _ (ff (show s.2.1.length-1<s.2.1.length by omega) (0,[]));have f:s.2.1.getD ((s.2.1.length:Int)-1).toNat fL.b7=s.2.1.getD (s.2.1.length-1) (0,[]):=by rw[show((s.2.1.length:Int)-1).toNat=s.2.1.length-1 by omega];rfl
   refine bL [(12,ab)] rfl ?_ ?_
   .simp only[ay,f,bA,aZ,aF,aD];and_intros<;>omega
   rw[f];refine AK.law (AB (iT s) rfl rfl rfl (by unfold iT;grind) (by simp only[bA];omega)) rfl rfl ?_;refine bL [(1000005,ab)] rfl aw ?_;exact out _ _ rfl (by simp)
 refine di rfl aw ?_;refine AK.cC 1 (λi=>i<=s.2.2.length) (λi:Nat=>[(1,.e (.one (.ptr 0 0))),(4,dI (mg (iT s) (s.2.2.take i))),(24,cH.sl s.2.2),(25,dI s.2.2.length),(26,dI i)]) (λi=>[xR s]) (λi=>s.2.2.length-i) 0 rfl ?_ rfl ?_ rfl (by omega) ?_
 .simp[mg]
 .simp
 intro i hi;have b:∀i,1<=mg (iT s) (s.2.2.take i)/\mg (iT s) (s.2.2.take i)<=4000001:=λi=>by have o:=ma (s.2.2.take i) λx A=>d.h x (fP A);have q:mg 1 (s.2.2.take i)=nO (s.2.2.take i):=rfl;rw[show iT s=max (iT s) 1 by omega,zg,q];omega
 have o:=b i;have t:=b (i+1);by_cases h:i<s.2.2.length
 .have w:=d.h _ (ff h (0,0));have f:s.2.2.getD (i:Int).toNat cH.b7=s.2.2.getD i (0,0):=by grind
  have u:=FA (m:=iT s) h;refine bL [(27,ab)] rfl ?_ ?_
  .simp only[ay,f,bA,aZ,aF,aD];and_intros<;>omega
  rw[f];refine AK.law (AB (mg (iT s) (s.2.2.take (i+1))) rfl rfl rfl u.symm (by simp only[bA];omega)) rfl rfl ?_;refine di rfl ?_ (AK.aQ (i+1) rfl ?_ ?_ h (by omega))
  .simp only[ay,bA];omega
  .simp
  .simp
 .obtain rfl:i=s.2.2.length:=by omega
  rw[dh,Dm]at o⊢;have a:cv s=(if s.1.length=0 then 0 else(s.1.getD (s.1.length-1) (0,[])).1)+1:=by unfold cv;split<;>rfl
  have j:-4000000<=cv s-1/\cv s-1<=4000000:=by
   rw[a];split
   .omega
   .have:=d.p _ (ff (show s.1.length-1<s.1.length by omega) (0,[]));omega
  have n:=MT (X:=X) s.1 k;have l:=xw (X:=X) s;rw[a]at j⊢;generalize(if s.1.length=0 then 0 else(s.1.getD (s.1.length-1) (0,[])).1)=p at *;have y:bF X [(49,xc [qN s] (qN s)),(50,xc [cP.sl s.1] (dI p))]:=.cons (Ao l) (.cons (Ao n) .nil);refine bL [(27,ae)] rfl (by simp) (AK.leaveD rfl rfl ?_);refine cm y rfl ?_ (AK.bx rfl);simp only[ay,bA,aF,aD];and_intros<;>first|rfl|omega
end
end Go.AM.R1
namespace Go.AM
section
open Go.Conc (G)
section
variable {P:aq}{T:List (Nat×TI)}{o:ar}{d:ak->D}{σ:List aP}
def bG.Oa(hT:cT P T){t:aj}{x w y z:ak}(h:o.op=.slice t x (aa w) (aa y) (aa z)){J B:TI}{E:aj}(K:bD T t=aa J)(Y:J.desc=.slice E)(Z:bD T E=aa B){tt:Bool}{n:Nat}{es:Nat->List C}{A r u:IntKind}{i j m:Int}(hx:∀s v,dn σ s v (d x)->Rd s.M v (.sl tt B.size n es))(X:d w=.e (.one (.c (.int A i))))(W:d y=.e (.one (.c (.int r j))))(hz:d z=.e (.one (.c (.int u m))))(N:0<=i)(S:i<=j)(h1:j<=m)(h2:m<=n):
  bG P o d σ (.e (.one (.c (.sl ae B.size (j.toNat-i.toNat) (jJ i.toNat es))))) σ:=by
 refine .quiet λst ρ hh hr=>?_;have p:=hx st _ (hr x);have get:∀(q:ak) (k:IntKind) (v:Int),d q=.e (.one (.c (.int k v)))->ρ q=.int k v:=λq k v I=>by have l:=hr q;rw[I]at l;replace l:=eY l;generalize ρ q=vq at l;cases l;rfl
 have H:=get w A i X;have F:=get y r j W;have G:=get z u m hz;obtain⟨a,cap,vs,L,O,V,ht,hF,hm⟩:=p.flat;rw[L]at p;have g:=(hT t J K).run_underlying (w:=st.w);rw[Y]at g;have em:((m.toNat:Nat):Int)=m:=rJ (by omega);have ej:((j.toNat:Nat):Int)=j:=rJ (by omega);have R:(ba ab n cap (aa (.int A i)) (aa (.int r j)) (aa (.int u m))).run P st.w=.ok (i.toNat,j.toNat,m.toNat) st.w:=by simp[ba,run_sliceBound (P:=P) st.w u m cap _ (by omega) (by omega),run_sliceBound (P:=P) st.w r j m.toNat _ (by omega) (by omega),run_sliceBound (P:=P) st.w A i j.toNat _ N (by omega)]
 have U:(ba ab n cap (aa (.int A i)) (aa (.int r j)) (aa (.int u m))).events P st.w #[]=#[]:=by simp[ba,run_sliceBound (P:=P) st.w u m cap _ (by omega) (by omega),run_sliceBound (P:=P) st.w r j m.toNat _ (by omega) (by omega),dF (P:=P) st.w u m cap _ (by omega) (by omega),dF (P:=P) st.w r j m.toNat _ (by omega) (by omega),dF (P:=P) st.w A i j.toNat _ N (by omega)]
 refine⟨.slice (if m.toNat=i.toNat then a else a.map (·.add (i.toNat*B.size))) (j.toNat-i.toNat) (m.toNat-i.toNat),?_,?_,by simp[av,h,L,H,F,G,Instr.sliceAt,g,Instr.slice,R,U]⟩
 .simp[av,h,L,H,F,G,Instr.sliceAt,g,Instr.slice,R,(hT E B Z).run_sizeOf]
 .cases p with
  |sl b off f _ _ _ hk ha hm' MY =>
   refine Rd.sl b (off+i.toNat*B.size) (λq j=>f (i.toNat+q) j) (by omega) (by omega) (by simp) (λq I=>hk _ (by omega)) (λQ=>?_) (λq I j c hj=>?_) (λq I j c hj=>MY _ (by omega) j c hj)
   .rw[aY (by omega),ha (by omega)];simp[dq]
   .have:=hm' (i.toNat+q) (by omega) j c hj;grind
end
end
end Go.AM
namespace Go.AM.R1
section
open Go.Proofs
variable {X:Cx ag}
abbrev QP(l:List Bs):C:=.sl ae 1 l.length (cS.fn l)
def ID(l:List Bs):Ev X 73 [cS.sl l,dI 4] [] (.e (.one (.c (.fn (.func 124) [] [.rp [QP l],.rp [.int .i64 4]])))) []:=by refine Ev.bQ Tryz.func73 rfl λa=>?_;refine qG [] 6 rfl aw ?_;refine AK.freeze 2 0 rfl rfl rfl ?_;refine AK.freeze 3 1 rfl rfl rfl ?_;exact aW [(6,ae)] rfl (by simp) (AK.bx rfl (by simp;rfl))
def uc(l:List Bs)(k:Nat):List Bs:=(l.drop (4*k)).take 4
def Fg(l:List Bs)(A:l.length<=4000000){d:Nat}{N0:Nat}{φ0:Fr}{b lr':Loop}(m:Nat)(y:m<=(l.length+3) / 4)(a:Nat->List aP)(j:List aP)(z:∀k,(a k).length=d)(s:∀k,lB (a k++[.loop N0 φ0 b])=ab)(v:lB (j++[.loop N0 φ0 lr'])=ab)(xd:∀k,k<m->4*k<l.length->Yields (ι:=Unit) X d [cS.sl (uc l k)] (a k++[.loop N0 φ0 b]) ab (λ_=>a (k+1)++[.loop N0 φ0 b]))(jN:4*m<l.length->Yields (ι:=Unit) X d [cS.sl (uc l m)] (a m++[.loop N0 φ0 b]) ae (λ_=>j++[.loop N0 φ0 lr'])):
  dZ (ι:=Unit) X 124 [.e (.one (.ref d)),.e (.one (.c (.rp [QP l]))),.e (.one (.c (.rp [.int .i64 4])))] (a 0++[.loop N0 φ0 b]) (λ_=>.fa []) (λ_=>if 4*m<l.length then j++[.loop N0 φ0 lr']else a m++[.loop N0 φ0 b]):=by
 refine dZ.JX Tryz.func124 rfl rfl rfl (AK.of_code ?_);refine bu rfl aw ?_;show AW X _ (.loop _) _ _ _;refine AW.loop (S:=Nat) (λk=>k<=m) (λk=>[(0,.e (.one (.ref d))),(1,.e (.one (.c (.rp [QP l])))),(2,.e (.one (.c (.rp [.int .i64 4])))),(4,dI (4*k:Nat))]) (λk=>a k++[.loop N0 φ0 b]) (λk=>m-k) 0 (ll _) ?_ rfl ?_
 .exact .cons rfl (cX rfl (by simp))
 intro k hk;refine AK.of_code ?_;by_cases h:4*k<l.length
 .have o:ay (fR l.length (aa ((4*k:Nat):Int)) af):=by simp only[fR,ay];omega
  have q:cO l.length af-cO 0 (aa ((4*k:Nat):Int))=l.length-4*k:=by simp only[cO];omega
  refine aW [(9,ab),(1000003,ab)] rfl (by simp only[ay,aZ];omega) ?_;let xs:Nat->D:=λi=>([dI 4,cS.sl l,dI (4*k:Nat),.e (.one (.c (.sl ae 1 (cO l.length af-cO 0 (aa ((4*k:Nat):Int))) (jJ (cO 0 (aa ((4*k:Nat):Int))) (cS.fn l))))),dI (cO l.length af-cO 0 (aa ((4*k:Nat):Int)):Nat),dI (min 4 (l.length-4*k):Nat),dI (min 4 (l.length-4*k):Nat)]:List D).getD i .any;refine AK.flags iZ xs (um (λ_ _ _=>a k++[.loop N0 φ0 b]) 100 101 102) ?_ ?_ ?_ ?_ ?_ ?_
  .rfl
  .rfl
  .rfl
  .rfl
  .exact⟨.IQ tok bF.nil,
   .IQ tok bF.nil,
   .IQ tok bF.nil,
   dT.q3 rfl rfl rfl (λ_ _ _=>OA.eval (ds:=[]) tok bF.nil rfl o),
   .IQ tok bF.nil,
   dT.q3 rfl rfl rfl (λ_ _ _=>OA.kS (λ_ _ _ _=>dC rfl) (tF _ rfl rfl rfl (by grind) (by simp only[bA];omega))),
   .IQ tok bF.nil,aw⟩
  intro D x;show AK X _ _ _ _ _ (a k++[.loop N0 φ0 b]);have t:(((4*k:Nat):Int)+((min 4 (l.length-4*k):Nat):Int))=((4*k+min 4 (l.length-4*k):Nat):Int):=by omega
  refine bu rfl ?_ ?_
  .simp only[ay,bA,aF,aD];omega
  refine AK.law (bG.Oa tok rfl rfl rfl rfl (n:=l.length) (es:=cS.fn l) (tt:=ae) (λ_ _ r=>eY r) rfl rfl rfl (by omega) (by omega) (by omega) (by omega)) rfl rfl ?_;have u:(uc l k).length=min 4 (l.length-4*k):=by simp[uc]
  refine ia.le (φ':=[(0,.e (.one (.ref d))),(19,.e (.one (.ref d))),(1,.e (.one (.c (.rp [QP l])))),(2,.e (.one (.c (.rp [.int .i64 4])))),(4,dI (4*k:Nat)),(28,cS.sl (uc l k))]) ?_ (.cons rfl (.cons rfl (cX rfl ?_)))
  .have f:(a k++[aP.loop N0 φ0 b])[d]?=aa (.loop N0 φ0 b):=by grind
   rcases cG k m with g|g
   .refine AK.yield (xd k g h) rfl rfl rfl (N0:=N0) (φ0:=φ0) (r:=b) f rfl rfl λ_=>?_;exact aW [(30,ae)] rfl (by simp only[ay,bA,j8,aF,aD];omega) ⟨k+1,by omega,by omega,.cons rfl (cX rfl (by simp only[ay.cat,ay,aF,aD];grind)),rfl⟩
   .obtain rfl:k=m:=by omega
    refine AK.yield (jN h) rfl rfl rfl (N0:=N0) (φ0:=φ0) (r:=b) f rfl rfl λ_=>?_;refine aW [(30,ab)] rfl (by simp) ?_;exact AK.ret ⟨(),.inl rfl,(bl h).symm,by grind,[],.fa [],[],rfl,rfl,rfl,aw⟩
  .simp only[ay.cat,ay,aF,aD];have w:((4*k:Nat):Int).toNat=4*k:=by omega
   have p:(((4*k:Nat):Int)+((min 4 (l.length-4*k):Nat):Int)).toNat-((4*k:Nat):Int).toNat=(uc l k).length:=by grind
   refine⟨p,λi hi=>?_⟩;rw[p]at hi;rw[w];show cS.enc (l.getD (4*k+i) cS.b7)=cS.enc ((uc l k).getD i cS.b7);congr 1;simp only[uc,an];grind
 .obtain rfl:k=m:=by omega
  refine aW [(9,ae)] rfl (by simp only[ay,bM];omega) ?_;refine AK.J2 rfl rfl ?_;exact⟨(),.inr rfl,(aY h).symm,by grind,[],.fa [],[],rfl,rfl,rfl,aw⟩
end
end Go.AM.R1
namespace Go.AM
section
open Go.Conc (G)
section
variable {P:aq}{X:Cx P}{N:Nat}{Q:Post}{φ:Fr}{σ:List aP}{e:Exit}
def M5(N:Nat)(Q:Post):Post:=λe φ σ=>∃φ' σ',(∀s a,cq N σ s φ a->aE σ s->∃s':St,s'.w=s.w/\cq N σ' s' φ' a/\aE σ' s'/\Step σ s σ' s')/\Q e φ' σ'
theorem M5.of(h:Q e φ σ):M5 N Q e φ σ:=⟨φ,σ,λs a b hh=>⟨s,rfl,b,hh,.refl _ _⟩,h⟩
def M5.step{φ':Fr}{σ':List aP}(h:∀s a,cq N σ s φ a->aE σ s->∃s':St,s'.w=s.w/\cq N σ' s' φ' a/\aE σ' s'/\Step σ s σ' s')(k:M5 N Q e φ' σ'):M5 N Q e φ σ:=by obtain⟨b,σ2,h2,q⟩:=k;refine⟨b,σ2,λs a l hh=>?_,q⟩;obtain⟨g,e1,j,h1,c⟩:=h s a l hh;obtain⟨m,e3,i,f,d⟩:=h2 g a j h1;exact⟨m,e3.trans e1,i,f,c.trans d⟩
theorem M5.freeze(t l:Nat){E:aj}{cs:List A}{cc:List C}(f:look φ t=.e (.one (.ptr l 0)))(hl:dw l σ=aa (.cells E cs))(d:gE cs=aa cc)(k:M5 N Q e ((t,.e (.one (.c (.rp cc))))::φ) (dH.qD l .dead σ)):M5 N Q e φ σ:=by rw[jc]at k;exact .step (λs a b hh=>cq.freeze t l f hl d b hh) k
def kV.gh{c:Code}(h:kV X N c (M5 N Q) φ σ):kV X N c Q φ σ:=by
 intro s a u hh b k cs S p j n;refine h s a u hh b k cs S p j λe m σ2 s2 a2 q r h2 nV=>?_;obtain⟨φ',σ',t,q⟩:=q;obtain⟨s',o,i,d,st⟩:=t s2 a2 r h2;have f:=st.na h2;have g:=n e φ' σ' s' a2 q i d (nV.trans f);have l:eu s2 s':=.of h2 d o f;cases e<;>first
  |exact g.elim
  |exact .ghost l g
  |exactλpre=>.ghost l (g pre)
  |exactλpre hp=>.ghost l (g pre hp)
def kV.norm{c:Code}(φ':Fr)(σ':List aP){ps qs:List Prop}(h1:nA φ φ'=aa ps)(i:ay ps)(h2:oV σ σ'=aa qs)(j:ay qs)(k:kV X N c Q φ' σ'):kV X N c Q φ σ:=by intro s a n hh b kk cs S l g h;have d:=gU h2 j;have st:=(d s hh).2.1;exact k s a ((n.le (cX h1 i)).bs d hh) (d s hh).1 b kk cs S l g λe f σ2 s2 a2 q m h2 nV=>h e f σ2 s2 a2 q m h2 ((st.na hh).trans nV)
def kV.D1{ι:Type}{f:ak}{ps:Array Tmp}{assign body:Code}{F:aH}{capD:List D}{res:ι->D}{σ':ι->List aP}(d:∀s a,cq N σ s φ a->aE σ s->∃b:List ah,a.eval f=.func (.func F) #[] b.toArray/\ck σ s b capD)(c:dZ X F (.e (.one (.ref σ.length))::capD) (σ++[.loop N φ {state:=.ready,pending:=af,fn:=0,tmps:=#[],params:=ps,assign:=assign,body:=body,defers:=0}]) res σ')(hk:∀i,∃r',(σ' i)[σ.length]?=aa (.loop N φ r')/\r'.state≠.busy/\∃e,F3 r'.pending=aa e/\Q e φ ((σ' i).set σ.length .dead++[.qX])):kV X N (.rangeFunc f ps assign body) Q φ σ :=
 kV.rangeFunc (r':=λi=>(hk i).choose) d c (λi=>⟨(hk i).choose_spec.1,(hk i).choose_spec.2.1⟩) λi=>(hk i).choose_spec.2.2
def dZ.NX{ι:Type}{f:aH}{fn:Func}{c:Code}{args:List D}{σ':ι->List aP}{res:ι->D}(m:P.funcs[f]?=aa fn)(d:(fn.name== "runtime.NumGoroutine")=ae)(l:fn.body=aa c)(g:bw args.length fn.ntmps=ab)(h:kV X fn.ntmps c (M5 fn.ntmps λe φ σ1=>∃j,qZ P fn σ.length (res j) (σ' j) e φ σ1) (iY 0 args) σ):dZ X f args σ res σ' :=
 dZ.D2 m d l (cZ g) λs a f i b k cs S hk NY hQ=>kV.gh h s a f i b k cs S hk NY hQ
def qZ.cells{T:List (Nat×TI)}(hT:cT P T){fn:Func}{a:Nat}{res:D}{σ':List aP}(ks:List Nat){ps:List Prop}(h:Hg T fn.results.toList ks φ res=aa ps)(d:ay ps)(c:jH ks σ=aa σ')(b:kn σ'=ab)(f:dy ks=ab)(hk:∀j,j<a->ks[j]?=aa j):qZ P fn a res σ' .ret φ σ:=by refine⟨.inl rfl,ks,?_⟩;unfold Hg at h;grind[zD.Us]
end
end
end Go.AM
namespace Go.AM.R1
section
open Go.Proofs
variable {X:Cx ag}
def IC(k:Int)(s:bo)(l:List Bs)(j:Nat):Bool:=(nU (cv s+j) k (uc l j)).2&&!(s.1.length+j==20)
def ly(g:Nat->Bool):Nat->Nat->Nat
 |0,j=>j
 |f+1,j=>if g j=ab then ly g f (j+1)else j
def pM(g:Nat->Bool):∀(f j:Nat),j<=ly g f j/\ly g f j<=j+f/\(∀i,j<=i->i<ly g f j->g i=ab)/\(ly g f j<j+f->g (ly g f j)=ae)
 |0,j=>⟨bg _,bg _,λi b a=>absurd b (by simp only[ly]at a;omega),λh=>absurd h (by simp[ly])⟩
 |f+1,j=>by obtain⟨b,a,c,d⟩:=pM g f (j+1);rw[ly];grind
def j4(k:Int)(s:bo)(l:List Bs)(n:Nat):List bH:=(bd n).map λj:Nat=>(nU (cv s+j) k (uc l j)).1
theorem ud(k:Int)(s:bo)(l:List Bs)(n:Nat):(j4 k s l n).length=n:=by simp[j4]
def Ff(k:Int)(s:bo)(l:List Bs)(n:Nat):j4 k s l (n+1)=j4 k s l n++[(nU (cv s+(n:Nat)) k (uc l n)).1]:=by simp[j4,List.range_succ]
def ue{s:bo}(a:sE s):-4000000<=cv s/\cv s<=4000001:=by
 unfold cv;split
 .omega
 .rename_i h;have:=a.p _ (tS h (0,[]));omega
def sU(k:Int)(s:bo)(by_:Int)(t:List bz):bo×Option Bs :=
 let l:=dg k t (indexOf s.1);let m:=ly (IC k s l) ((l.length+3) / 4) 0
 if m<(l.length+3) / 4 then(([],[],[]),aa [112,97,99,107,115])
 else if 20<de s then(([],[],[]),aa [115,110,97,112,115,104,111,116,115])
 else if s.2.2.length=9 then(([],[],[]),aa [104,101,97,100,115])
 else((s.1++j4 k s l m,s.2.1++[fA (de s) k t],s.2.2++[(by_,de s)]),af)
def erE:Option Bs->E1
 |none=>.one (.c .iw)
 |some w=>.one (.c (.ifs 60 (.rp [.str w])))
def tSv(q:bo×Option Bs):D:=.fa [.agg [.c (HT q.1.1),.c (EL q.1.2.1),.c (Co q.1.2.2)],erE q.2]
abbrev svF(s:bo)(by_:Int)(t:List bz)(l:List Bs):Fr:=[(2,dI by_),(3,cF.sl t),(4,.e (.one (.ptr 2 0))),(5,.e (.one (.ptr 3 0))),(8,.e (.one (.ptr 4 0))),(9,.e (.one (.ptr 5 0))),(10,.e (.one (.ptr 9 0))),(11,.e (.one (.ptr 10 0))),(12,dI (de s)),(33,.e (.one (.c (.fn (.func 124) [] [.rp [QP l],.rp [.int .i64 4]]))))]
abbrev Mw(a d:aj×ah)(k:Int)(s:bo)(b:C)(ps:List bH)(no:Int):List aP:=GB a d++[.cells 27 [.c (HT s.1),.c (EL s.2.1),.c (Co s.2.2)],.cells 3 [.c (.int .i64 k)],.cells 27 [gm,gm,gm],.cells 57 [.c b],
 .buf 67 2 ps.length (cP.fn ps),.buf 71 2 s.2.1.length (fL.fn s.2.1),.dead,.cells 27 [.bp 6 (.sl ps.length 2 0 ps.length),.bp 7 (.sl s.2.1.length 2 0 s.2.1.length),.c (Co s.2.2)],.cells 3 [.c (.int .i64 no)]]
def Mx{b c:aj×ah}{k:Int}{s:bo}{d a:C}{ps T7:List bH}{no no':Int}{N:Nat}{φ:Fr}{r r':Loop}(i:Nat)(B:aP)(hB:(Mw b c k s d ps no++[.loop N φ r])[i]?=aa B):DO 12 (Mw b c k s a T7 no'++[.loop N φ r']) i B:=by
 rcases i with _|_|_|_|_|_|_|_|_|_|_|_|i<;>first
  |(cases hB;exact .inl ⟨_,_,rfl,rfl⟩)
  |(cases hB;exact .inr (.inr (.inl ⟨_,_,_,_,rfl,rfl⟩)))
  |(cases hB;exact .inr (.inr (.inr ⟨by grind,by grind⟩)))
  |(cases hB;done)
def My(d f:aj×ah)(k:Int)(s:bo)(by_:Int)(t:List bz)(hk:b6 k=ab)(n:l8 s)(E:sE s)(F:cz t=ab)(N:(c6 s.1).length<=100000)(I:rE (indexOf s.1) (indexOf s.1).length=ab)(o:k7 s.2.2=ab)(hby:by_=1∨by_=2)(K:1<=de s):
  Ev X 26 [qN s,dI k,dI by_,cF.sl t] (GB d f) (tSv (sU k s by_ t)) (GB d f):=by
 obtain⟨r,a⟩:∃r,r=sU k s by_ t:=⟨_,rfl⟩;rw[<-a];unfold sU at a;simp only at a;refine(dZ.NX (ι:=Unit) (σ':=λ_=>GB d f) (res:=λ_=>tSv r) Tryz.func26 rfl rfl rfl ?_).DK
 refine kV.seq (AW.top (AK.of_code ?_));refine bu rfl aw ?_;refine kV.seq (AW.top (AK.of_code ?_));refine bu rfl aw ?_;refine AK.cQ (xk s n.p n.p2 n.sn n.s2 n.h) [] rfl ?_;refine bu rfl aw ?_;refine kV.seq (AW.top (AK.of_code ?_));refine AK.oK 8 rfl rfl rfl (by simp) (by simp;exact⟨aw,aw⟩) ?_;refine bu rfl aw ?_;refine AK.cQ (Mz s n E) [] rfl ?_;refine bu rfl aw ?_;refine kV.seq (kV.seq (AW.top (AK.of_code ?_)));generalize M:indexOf s.1=ix at *;have x:bF X [(12,xc [cP.sl s.1] (cH.sl ix)),(73,xc [cS.sl (dg k t ix),dI 4] (.e (.one (.c (.fn (.func 124) [] [.rp [QP (dg k t ix)],.rp [.int .i64 4]])))))]:=.cons (Ao (M▸uI s.1 n.p N)) (.cons (Ao (ID _)) .nil);have C:ix.length<=4000000:=by grind[mL]
 refine AK.calm iZ [dI k,cF.sl t,.e (.one (.ptr 2 0)),cP.sl s.1,cH.sl ix,cS.sl (dg k t ix),.e (.one (.c (.fn (.func 124) [] [.rp [QP (dg k t ix)],.rp [.int .i64 4]])))] 12 rfl rfl rfl rfl rfl ⟨OA.cV tok x rfl,OA.cV tok x rfl,OA.cV tok x rfl,OA.cV tok x rfl,
  OA.eval (ds:=[]) tok x rfl rfl,OA.T4 (mz.qg (uF d f k t ix hk F I C).sW [0,1] rfl rfl rfl rfl rfl rfl rfl (λ_=>rfl) rfl (λ_=>rfl)),OA.eval (ds:=[]) tok x rfl rfl,aw⟩ ?_
 refine bu rfl aw ?_;refine kV.block ?_;refine kV.norm (svF s by_ t (dg k t ix)) (Mw d f k s .iw (s.1++j4 k s (dg k t ix) 0) (cv s+(0:Nat))) rfl ?_ rfl ?_ ?_
 .simp
 .simp[j4];exactλi _=>rfl
 have y:∀p∈dg k t ix,bt p=ab:=(iE (eg F)).1;have H:(dg k t ix).length<=4000000:=im (iE (eg F)).2 (by decide);generalize dg k t ix=l at *;obtain⟨g1,g2,g3,g4⟩:=pM (IC k s l) ((l.length+3) / 4) 0;have Z:=n.p;generalize hmd:ly (IC k s l) ((l.length+3) / 4) 0=m at *;refine kV.D1 (capD:=fN [.rp [QP l],.rp [.int .i64 4]]) (cq.callee rfl)
  (Fg (lr':=?lr2) l H m (by omega) (λj=>Mw d f k s .iw (s.1++j4 k s l j) (cv s+(j:Nat))) (Mw d f k s (.ifs 60 (.rp [.str [112,97,99,107,115]])) (s.1++j4 k s l m) (cv s+(m:Nat))) (λj=>rfl) (λj=>rfl) rfl (λj U Q=>?xd) λV=>?jN) λi=>?hk
 case jN =>
  have D:IC k s l m=ae:=g4 (by omega);have v:=uH (X:=X) d f (cv s+(m:Nat)) k (uc l m) (by have:=ue E;simp only[bA];omega) hk (λp J=>y p (pR (fP J))) (by simp[uc];omega);have B:=ud k s l m;generalize Y:nU (cv s+(m:Nat)) k (uc l m)=q at *;refine Yields.tm (rest:=λ_=>[.cells 67 [.c (.int .i64 q.1.1),.c (.sl ae 2 q.1.2.length (dM.fn q.1.2))],.dead]) (Yields.intro (j:=aa .ret) rfl rfl rfl rfl (AK.of_code ?_)) ?_ ?_
  .refine bu rfl aw ?_;refine⟨rfl,rfl,AK.of_code ?_⟩;refine bu rfl aw ?_;refine AK.cQ v [0,1] rfl ?_;have b:(s.1++j4 k s l m).length=s.1.length+m:=by grind
   have g:q.2=ab->s.1.length+m=20:=λh=>by simpa[IC,Y,h]using D
   cases w:q.2 with
   |false =>
    refine aW [(44,ab),(49,ab),(1000007,ab)] rfl (by simp[w]) ?_;refine AK.region ?_;refine qG [] 3 rfl aw ?_;refine AK.vn 52 13 rfl rfl rfl ?_;refine bu rfl aw (AK.ret ?_);refine⟨rfl,rfl,(),gU rfl ?_⟩;simp only[ay.cat,ay,aF,aD];and_intros<;>first|exact cy.same|exact cy.nil|rfl
   |true =>
    have:=g w;refine aW [(44,ae),(49,ab),(1000007,ab)] rfl (by simp only[ay,w,b];grind) ?_;refine AK.region ?_;refine qG [] 3 rfl aw ?_;refine AK.vn 52 13 rfl rfl rfl ?_;refine bu rfl aw (AK.ret ?_);refine⟨rfl,rfl,(),gU rfl ?_⟩;simp only[ay.cat,ay,aF,aD];and_intros<;>first|exact cy.same|exact cy.nil|rfl
  .exactλ_=>rfl
  .exactλ_=>Mx
 case xd =>
  have u:IC k s l j=ab:=g3 j (ll _) U;have v:=uH (X:=X) d f (cv s+(j:Nat)) k (uc l j) (by have:=ue E;simp only[bA];omega) hk (λp J=>y p (pR (fP J))) (by simp[uc];omega);have B:=ud k s l j;have W:=Ff k s l j;obtain⟨T,q2⟩:(nU (cv s+(j:Nat)) k (uc l j)).2=ab/\¬s.1.length+j=20:=by simpa[IC]using u
  generalize nU (cv s+(j:Nat)) k (uc l j)=q at *;have b:(s.1++j4 k s l j).length=s.1.length+j:=by grind
  have O:s.1++j4 k s l (j+1)=(s.1++j4 k s l j)++[q.1]:=by grind
  generalize s.1++j4 k s l j=ps at *;refine Yields.tm (rest:=λ_=>[.cells 67 [.c (.int .i64 q.1.1),.c (.sl ae 2 q.1.2.length (dM.fn q.1.2))]]) (Yields.intro (j:=af) rfl rfl rfl rfl (AK.of_code ?_)) ?_ ?_
  .refine bu rfl aw ?_;refine⟨rfl,rfl,AK.of_code ?_⟩;refine bu rfl aw ?_;refine AK.cQ v [0,1] rfl ?_;have R:=cP.cj ps q.1;have hb:=ue E;refine aW [(44,ae),(49,ae)] rfl ?_ ?_
   .simp only[ay,bA,T,show i67.bytes=32 from rfl,b,eD,du,j8,aF,aD];omega
   refine⟨rfl,rfl,(),gU rfl ?_⟩;have L:(ps++[q.1]).length=ps.length+1:=by simp
   have G:cv s+(j:Int)+1=cv s+((j+1:Nat):Int):=by omega
   rw[O,L,<-G];simp only[ay.cat,ay,aF,aD];and_intros<;>first|exact cy.same|exact R|rfl
  .exactλ_=>rfl
  .exactλ_=>Mx
 case hk =>
  by_cases Q:4*m<l.length
  .rw[bl Q];refine⟨_,rfl,by simp,.ret,rfl,?_⟩;rw[bl (show m<(l.length+3) / 4 by omega)]at a;subst a;simp only[wG,BN];refine .freeze 8 4 rfl rfl rfl (.freeze 9 5 rfl rfl rfl (.of ⟨(),qZ.cells tok [0,1] rfl ?_ rfl rfl rfl A3⟩));simp
  .rw[aY Q];refine⟨_,rfl,by simp,.normal,rfl,?_⟩;rw[aY (show¬m<(l.length+3) / 4 by omega)]at a;show kV X _ _ _ _ _;refine AW.top (AK.of_code ?_);by_cases g:20<de s
   .rw[bl g]at a;subst a;refine aW [(63,ab),(1000011,ab)] rfl (by simp only[ay,aZ];omega) ?_;refine AK.region ?_;refine qG [] 3 rfl aw ?_;refine AK.vn 66 13 rfl rfl rfl ?_;refine bu rfl aw (AK.ret (.freeze 8 4 rfl rfl rfl (.freeze 9 5 rfl rfl rfl (.of ⟨(),qZ.cells tok [0,1] rfl ?_ rfl rfl rfl A3⟩))));simp
   rw[aY g]at a;have P:s.2.2.length<=9:=by simp only[k7,bS,aZ]at o;omega
   refine aW [(63,ae)] rfl (by simp only[ay,bM];omega) ?_;refine AK.cQ (Fc d f (de s) k t ⟨K,by omega⟩ hk F) [0,1] rfl ?_;have R:=fL.cj s.2.1 (fA (de s) k t);have S:=n.sn;refine aW [(1000014,ab)] rfl ?_ ?_
   .simp only[ay,show i71.bytes=32 from rfl,aF,aD];omega
   refine AK.region ?_;refine bu rfl aw ?_;refine AK.cQ (Fh s.2.2 (by_,de s) o (by simp only[gY,bS,aZ];omega) P) [] rfl ?_;by_cases z:s.2.2.length=9
   .rw[bl z]at a;subst a;refine aW [(91,ab),(1000016,ab)] rfl (by simp[z]) ?_;refine AK.region ?_;refine qG [] 3 rfl aw ?_;refine AK.vn 94 14 rfl rfl rfl ?_;refine bu rfl aw (AK.ret (.freeze 8 4 rfl rfl rfl (.freeze 9 5 rfl rfl rfl (.of ⟨(),qZ.cells tok [0,1] rfl ?_ rfl rfl rfl A3⟩))));simp
   .rw[aY z]at a;subst a;simp only[aY z];refine aW [(91,ae),(1000018,ab)] rfl (by simp[z]) ?_;have B:(s.1++j4 k s l m).length=s.1.length+m:=by grind[ud]
    generalize s.1++j4 k s l m=ps at *;generalize hsw:s.2.1++[fA (de s) k t]=sw at *;have A:sw.length=s.2.1.length+1:=by grind
    generalize hhw:s.2.2++[(by_,de s)]=hw at *;refine AK.BU (φ':=[(8,.e (.one (.ptr 4 0))),(9,.e (.one (.ptr 5 0))),(10,.e (.one (.ptr 9 0)))]) (σ':=GB d f++[.cells 27 [.c (HT s.1),.c (EL s.2.1),.c (Co s.2.2)],.cells 3 [.c (.int .i64 k)],.cells 27 [gm,gm,gm],.cells 57 [.c .iw],.buf 67 2 ps.length (cP.fn ps),.buf 71 2 sw.length (fL.fn sw),.dead,.cells 27 [.bp 6 (.sl ps.length 2 0 ps.length),.bp 7 (.sl sw.length 2 0 sw.length),.c (Co hw)],.cells 3 [.c (.int .i64 (cv s+(m:Nat)))],.dead,.qX,.cells 71 [.c (.int .i64 (fA (de s) k t).1),.c (.sl ae 2 (fA (de s) k t).2.length (cL.fn (fA (de s) k t).2))]]) ?_ rfl ?_ rfl ?_
    .refine AK.oK 6 rfl rfl rfl (by simp) (by simp) ?_;refine AK.oK 7 rfl rfl rfl (by simp) (by simp) ?_;refine bu rfl aw (AK.ret (.freeze 8 4 rfl rfl rfl (.freeze 9 5 rfl rfl rfl (.of ⟨(),qZ.cells tok [0,1] rfl ?_ rfl rfl rfl A3⟩))));simp[q8]
    .simp
    .simp only[ay.cat,ay,A,aF,aD];and_intros<;>first|exact cy.same|exact R|rfl
end
end Go.AM.R1
namespace Go.AM
section
open Go.Conc (G)
def W7:A->Option ah
 |.c (.val v)=>aa v
 |_=>af
def UE:List A->Option (List ah)
 |[]=>aa []
 |a::r=>match W7 a with
  |some v=>match UE r with
   |some q=>aa (v::q)
   |none=>af
  |none=>af
def W8:D->Option ah
 |.e (.one a)=>W7 a
 |.e (.agg cs)=>match UE cs with
  |some l=>aa (.agg l.toArray)
  |none=>af
 |_=>af
def Hl:List D->Option (List ah)
 |[]=>aa []
 |a::r=>match W8 a with
  |some v=>match Hl r with
   |some q=>aa (v::q)
   |none=>af
  |none=>af
section
variable {P:aq}{X:Cx P}{N:Nat}{Qf:Post}{K:List It}{φ:Fr}{σ:List aP}{all rest:List ar}{o:ar}{s:St}
def JB{v u:ah}:∀{a:A},gu σ s v a->W7 a=aa u->v=u
 |.c (.val x),h,e=>by cases e;exact Rd.dY h
theorem JC:∀{cs:List A}{vs us:List ah},dW σ s vs cs->UE cs=aa us->vs=us
 |[],[],us,_,e=>by cases e;rfl
 |[],_::_,_,h,_=>h.elim
 |_::_,[],_,h,_=>h.elim
 |a::r,v::vs,us,h,e=>by
  simp only[UE]at e;cases c:W7 a with
  |none=>grind
  |some x =>
   cases b:UE r with
   |none=>grind
   |some q =>
    simp[c,b]at e;subst e;rw[JB h.1 c,JC h.2 b]
def Rw{v u:ah}:∀{d:D},dn σ s v d->W8 d=aa u->v=u
 |.e (.one a),h,e=>JB h e
 |.e (.agg cs),⟨vs,b,h⟩,e=>by simp only[W8]at e;grind[JC]
def zS:∀{ds:List D}{vs us:List ah},ck σ s vs ds->Hl ds=aa us->vs=us
 |[],[],us,_,e=>by cases e;rfl
 |[],_::_,_,h,_=>h.elim
 |_::_,[],_,h,_=>h.elim
 |a::r,v::vs,us,h,e=>by
  simp only[Hl]at e;cases c:W8 a with
  |none=>grind
  |some x =>
   cases b:Hl r with
   |none=>grind
   |some q =>
    simp[c,b]at e;subst e;rw[Rw h.1 c,zS h.2 b]
def gi(P:aq)(N:Nat)(o:ar)(φ:Fr)(σ:List aP)(f:aH)(args:List ah):Prop:=∀s a,cq N σ s φ a->∀w,(av a.eval o).run P w=(callFunc f args.toArray).run P w/\(av a.eval o).events P w #[]=(callFunc f args.toArray).events P w #[]
def gi.direct{f:aH}{xs:Array ak}{b:Array aj}{args:List ah}(d:o.op=.call {callee:=.value (.func f),args:=xs,argTypes:=b})(h:Hl (xs.toList.map (bP φ))=aa args):gi P N o φ σ f args:=by
 intro s a g w;have h1:=zS (lI (c7 g) xs.toList) h;have h2:xs.map a.eval=args.toArray:=by grind
 have c:a.eval (.func f)=.func (.func f) #[] #[]:=rfl;have e:av a.eval o=callFunc f args.toArray:=by simp[av,d,resolve,c,Deferred.ofValue,invoke,h2]
 grind
def gi.invoke{f:aH}{x:ak}{k:Array ak}{i:Array aj}{name:String}{h:aj}{u r:ah}{args:List ah}(m:o.op=.call {callee:=.invoke x name,args:=k,argTypes:=i})(p:bP φ x=.e (.one (.c (.val (.iface h u)))))(n:Hl (k.toList.map (bP φ))=aa args)(j:∀w,(Go.method (P.types.size+Made.depth) h u name).run P w=.ok (f,r) w/\∀es,(Go.method (P.types.size+Made.depth) h u name).events P w es=es):gi P N o φ σ f (r::args):=by
 intro s a l w;have g:=c7 l x;rw[p]at g;have g:=Rd.dY (eY g);have h1:=zS (lI (c7 l) k.toList) n;have b:∀w,(program:Sem aq).run P w=.ok P w:=λw=>by simp[program,Sem.run]
 have d:∀w es,(program:Sem aq).events P w es=es:=λw es=>by simp[program,Sem.events,Sem.runT]
 rw[pq m g,h1];constructor
 .simp[callMethod,b,(j w).1]
 .simp[callMethod,b,d,(j w).1,(j w).2]
structure kT(P:aq)(f:aH)(e:Array ah->Sem ah):Prop where
 fn:∃fn,P.funcs[f]?=aa fn/\(fn.name== "runtime.NumGoroutine")=ae/\fn.body.isNone=ab/\Extern.findNext fn=af/\Extern.find fn=aa e
def kT.run{f:aH}{e:Array ah->Sem ah}(h:kT P f e){args:Array ah}{w w':az}{v:ah}(c:(e args).run P w=.ok v w'):(callFunc f args).run P w=.ok (.value v) w'/\∀es,(callFunc f args).events P w es=(e args).events P w (es.push ⟨.mark (.extern f),ae,ab⟩):=by
 obtain⟨fn,i,a,d,g,b⟩:=h.fn;have h1:fn.name≠ "runtime.NumGoroutine":=by grind
 have h2:fn.body=af:=by simpa using d
 constructor
 .rw[run_callFunc_extern i a d g b,c];rfl
 .intro es;simp[callFunc,i,h1,h2,g,b,c]
def dO.ext{ι:Type}{x:ι->D}{σ':ι->List aP}{f:aH}{e:Array ah->Sem ah}{args:List ah}(l:gi P N o φ σ f args)(d:kT P f e)(h:∀s,aE σ s->∃i s' v,(e args.toArray).run P s.w=.ok v s'.w/\dn (σ' i) s' v (x i)/\aE (σ' i) s'/\Step σ s (σ' i) s'/\∀es,∀c∈(e args.toArray).events P s.w es,c∈es∨oh s c):dO P N o φ σ x σ':=by
 intro s a m hh;obtain⟨h1,h2⟩:=l s a m s.w;obtain⟨i,s',v,k,q2,q3,q4,g⟩:=h s hh;obtain⟨j,n⟩:=d.run k;refine⟨i,.value v,s',v,h1.trans j,.inl rfl,q2,q3,q4,λc b=>?_⟩;rw[h2,n]at b;rcases g _ c b with h|h
 .simp at h;subst h;exact .inr ⟨f,rfl⟩
 grind
def dO.DW{f:aH}{e:Array ah->Sem ah}{args:List ah}{v:ah}{x:D}(c:gi P N o φ σ f args)(a:kT P f e)(b:∀w,(e args.toArray).run P w=.ok v w)(g:∀w es,(e args.toArray).events P w es=es)(d:∀s,dn σ s v x):dO P N o φ σ (λ_:Unit=>x) λ_=>σ :=
 .ext c a λs hh=>⟨(),s,v,b s.w,d s,hh,.refl _ _,λes ev h=>.inl (by grind)⟩
def dO.JD{f:aH}{e:Array ah->Sem ah}{args:List ah}{v:Nat->ah}{x:Nat->D}{E:aj}{u:ah}(k:gi P N o φ σ f args)(d:kT P f e)(i:∀w,(e args.toArray).run P w=.ok (v w.heap.size) (w.alloc (.cells #[u] E)))(q:∀w es,(e args.toArray).events P w es=es)(p:∀g σ s,dn σ s (v g) (x g)):
  dO P N o φ σ x λg=>σ++[.cf (dJ g E u)] :=
 .ext k d λs hh=>by
  have st:Step σ s σ {s with w:=s.w.alloc (.cells #[u] E)}:=⟨by show _<=(s.w.heap.push _).size;simp,λb a _=>cM _ _ a,λ_ _ _ h=>h,λ_ _ _ _=>rfl,λL m b a=>.inr ⟨L,m,a⟩,λl B L h1 h2=>⟨B,L,h1,h2,.refl _ _⟩,rfl,rfl,rfl,rfl⟩
  have r:∀o,s.M s.w.heap.size o=af:=λo=>by
   cases c:s.M s.w.heap.size o with
   |none=>rfl
   |some v=>exact absurd (hh.block c) (Nat.lt_irrefl _)
  have h1:=(hh.grow (w':=s.w.alloc (.cells #[u] E)) (M':=s.M) (by simp) (λb a=>cM s.w _ a) (λb a o=>rfl) (λb a o v c=>by have:=hh.block c;omega) rfl rfl rfl).1;obtain⟨n,j⟩:=h1.hO (B:=.cf (dJ s.w.heap.size E u)) (L:=⟨.pointer (aa ⟨s.w.heap.size,0,af⟩),[s.w.heap.size]⟩) st rfl hh
   ⟨λb=>if b=s.w.heap.size then aa (.cells #[u] E (0,0))else af,⟨rfl,by simp,λb a=>by grind⟩,λb o a=>by
    by_cases e:b=s.w.heap.size
    .subst e;simp only[cn]at a;grind[dG]
    grind,λb=>by by_cases e:b=s.w.heap.size<;>simp[e],λb a o=>by grind⟩
   (λb a=>by simp at a;subst a;exact⟨bg _,by show _<(s.w.heap.push _).size;simp⟩)
  exact⟨s.w.heap.size,_,_,i s.w,p _ _ _,n,j,λes ev h=>.inl (by grind)⟩
def dJ.own{l g:Nat}{E:aj}{v:ah}(hl:dw l σ=aa (.cf (dJ g E v)))(hh:aE σ s):s.w.heap[g]?=aa (.cells #[v] E (0,0))/\s.w.cell? ⟨g,0,af⟩=aa v/\(∀j,oh s ⟨.cell ⟨g,j,af⟩,ae,ae⟩)/\∀j,oh s ⟨.cell ⟨g,j,af⟩,ab,ae⟩:=by
 have hB:=b5 hl;have b:l<s.β.length:=by rw[hh.len];grind
 have a:=br b;generalize s.β[l]=L at a;obtain⟨ch,⟨h1,h2,i⟩,f,h,e⟩:=hh.box l _ L hB a;have d:=f g _ h2;have c:g∈L.bs:=(h g).2 (by grind);exact⟨d,by simp[aU,d],λj=>jF (bJ a) c,λj=>jC (bJ a) c (e g c _)⟩
def dJ.ju{l g:Nat}{E:aj}{v u:ah}(hl:dw l σ=aa (.cf (dJ g E v)))(hh:aE σ s):aE (σ.set l (.cf (dJ g E u))) {s with w:=s.w.setRow g #[u]}/\Step σ s (σ.set l (.cf (dJ g E u))) {s with w:=s.w.setRow g #[u]}:=by
 have hl:=b5 hl;have d:l<s.β.length:=by rw[hh.len];grind
 have i:=br d;generalize s.β[l]=L at i;obtain⟨ch,⟨h1,h2,p⟩,c,h,n⟩:=hh.box l _ L hl i;have m:g∈L.bs:=(h g).2 (by grind);have e:=c g _ h2;have f:∀b,b≠g->(s.w.setRow g #[u]).heap[b]?=s.w.heap[b]?:=λb a=>setRow_other s.w g b _ a;have k:=setRow_heap s.w g #[v] #[u] E (0,0) e;have j:s.β.set l L=s.β:=by apply iO;grind
 have q:=hh.ju (l:=l) (H':=dJ g E u) (L':=L) (w':=s.w.setRow g #[u]) hl i rfl (by simp)
  (λb a r=>f b (by grind)) (λb a=>.inl a)
  ⟨λb=>if b=g then aa (.cells #[u] E (0,0))else af,⟨h1,by simp,λb a=>by grind⟩,λb o a=>by
   grind,λb=>by grind⟩ rfl rfl rfl
 grind
def dO.PY{f:aH}{e:Array ah->Sem ah}{args:List ah}{v u:ah}{x:D}(l:Nat){g:Nat}{E:aj}(hl:dw l σ=aa (.cf (dJ g E u)))(j:gi P N o φ σ f args)(b:kT P f e)(i:∀w,w.cell? ⟨g,0,af⟩=aa u->(e args.toArray).run P w=.ok v w/\∀es,∀a∈(e args.toArray).events P w es,a∈es∨a=⟨.cell ⟨g,0,af⟩,ae,ae⟩)(k:∀s,dn σ s v x):dO P N o φ σ (λ_:Unit=>x) λ_=>σ :=
 .ext j b λs hh=>by obtain⟨_,d,q2,_⟩:=dJ.own hl hh;obtain⟨c,m⟩:=i s.w d;exact⟨(),s,v,c,k s,hh,.refl _ _,λes a h=>(m es a h).imp id λn=>by grind⟩
def dO.Rx{f:aH}{e:Array ah->Sem ah}{args:List ah}{v u w0:ah}{x:D}(l d:Nat){g c:Nat}{E E2:aj}(hl:dw l σ=aa (.cf (dJ g E w0)))(b:dw d σ=aa (.cf (dJ c E2 u)))(n:gi P N o φ σ f args)(i:kT P f e)(m:∀w,w.heap[g]?=aa (.cells #[w0] E (0,0))->w.cell? ⟨c,0,af⟩=aa u->(e args.toArray).run P w=.ok v (w.setRow g #[u])/\∀es,∀a∈(e args.toArray).events P w es,a∈es∨a=⟨.cell ⟨c,0,af⟩,ae,ae⟩∨a=⟨.cell ⟨g,0,af⟩,ab,ae⟩)(t:∀σ s,dn σ s v x):dO P N o φ σ (λ_:Unit=>x) λ_=>σ.set l (.cf (dJ g E u)) :=
 .ext n i λs hh=>by obtain⟨p,_,_,p4⟩:=dJ.own hl hh;obtain⟨_,k,q2,_⟩:=dJ.own b hh;obtain⟨j,y⟩:=m s.w p k;obtain⟨r,q⟩:=dJ.ju (u:=u) hl hh;refine⟨(),_,v,j,t _ _,r,q,λes a h=>?_⟩;grind
def AK.oL{ι:Type}{x:ι->D}{σ':ι->List aP}(m:qK all φ o=ab)(A:fW N o.dst=ab)(h:dO P N o φ σ x σ')(k:∀i,AK X N Qf (.ops all rest::K) .normal (kl o.dst (x i) φ) (σ' i)):AK X N Qf (.ops all (o::rest)::K) .normal φ σ:=by
 intro s a f hh b kk cs S idx hb jk hQ;cases idx with
 |nil=>exact jk.elim
 |cons j idx =>
 refine rl hb jk.1 (fI m _ _ _ f) λw d=>?_;have c:=hh.rely d;have l:=f.rely d hh;obtain⟨i,u,s',v,h1,h2,r,n,p,y⟩:=h w a l c;have g:=p.na c;refine⟨u,s',v,h1,h2,⟨⟨σ,σ' i,c,n,p⟩,y⟩,?_⟩;refine k i s' _ ?_ n b kk cs S idx hb jk.2 λe σ2 s2 a2 q z h2 st=>hQ e σ2 s2 a2 q z h2 ((d.stepW.trans g).trans st);cases B:o.dst with
 |none=>exact l.mono g c.len
 |some t=>exact(l.mono g c.len).put (gC A t B) r
def AK.Ry(t:Nat){T:aj}{cs:List C}{c:Code}(g:look φ t=.e (.one (.c (.ifs T (.rp cs)))))(kk:∀p:Addr,AK X N Qf (.code c::K) .normal ((t,.e (.one (.v (.iface T (.pointer (aa p))))))::φ) σ):AK X N Qf (.code c::K) .normal φ σ:=by
 refine AW.ta (ι:=Addr) (φ':=λp=>(t,.e (.one (.v (.iface T (.pointer (aa p))))))::φ) (σ':=λ_=>σ) (λs a d hh=>?_) kk;have h1:=d.slot t;rw[g]at h1;have h1:=eY h1;generalize h:a.tmps.getD t ai=v at h1;cases h1 with
 |@ifs _ u _ h2 hc =>
  cases h2 with
  |rp b off f k j =>
   refine⟨⟨b,off,af⟩,s,rfl,⟨d.size,d.defers,λu=>?_⟩,hh,.refl _ _⟩;simp only[look];cases i:aA t u with
   |false=>exact d.slot u
   |true =>
    have e:=bR i;subst e;rw[h];exact Rd.val rfl
def AK.PZ(t:Nat){T:aj}{x:ah}(d:look φ t=.e (.one (.c (.ifs T (.val x)))))(kk:AK X N Qf (.ops all rest::K) .normal ((t,.e (.one (.v (.iface T x))))::φ) σ):AK X N Qf (.ops all rest::K) .normal φ σ:=by
 refine ia.le kk λσ s v u a=>?_;simp only[look];cases b:aA t u with
 |false=>exact a
 |true =>
  have e:=bR b;subst e;rw[d]at a;have h1:Rd s.M v (.ifs T (.val x)):=a;cases h1 with
  |@ifs _ f _ h2 hc =>
   obtain rfl:=Rd.dY h2;exact Rd.val rfl
def AK.FV(t l:Nat){E:aj}{c:Code}(r:look φ t=.e (.one (.ptr l 0)))(hl:dw l σ=aa (.cells E [.c .fx]))(kk:∀g,AK X N Qf (.code c::K) .normal ((t,.e (.one (.v (.pointer (aa ⟨g,0,af⟩)))))::φ) (σ.set l (.cf (dJ g E (.pointer af))))):AK X N Qf (.code c::K) .normal φ σ:=by
 refine AW.ta (ι:=Nat) (φ':=λg=>(t,.e (.one (.v (.pointer (aa ⟨g,0,af⟩)))))::φ) (σ':=λg=>σ.set l (.cf (dJ g E (.pointer af)))) (λs a k hh=>?_) kk;have hl:=b5 hl;have f:l<s.β.length:=by rw[hh.len];grind
 have j:=br f;generalize s.β[l]=L at j;obtain⟨g,vs,rfl,B,m,z⟩:=hh.box l _ L hl j
 match vs,m with
 |[v],⟨n,_⟩ =>
  have n:Rd s.M v .fx:=n;cases n;obtain⟨x,q2⟩:=hh.gB (M':=s.M) (w':=s.w) (B':=.cf (dJ g E (.pointer af))) (L':=⟨.pointer (aa ⟨g,0,af⟩),[g]⟩) hl j rfl (bg _) (λ_ _ _=>rfl) (λ_ _ _ _=>rfl) (λ_ _ _ h=>h) hh.mem (λb d=>⟨.inl d,hh.lt _ (bJ j) b d⟩) rfl rfl rfl
   ⟨λb=>if b=g then aa (.cells #[.pointer af] E (0,0))else af,⟨rfl,by simp,λb d=>by grind⟩,λb o d=>by
    grind,λb=>by by_cases e:b=g<;>simp[e],λb d o=>by grind⟩
  refine⟨g,{s with β:=s.β.set l ⟨.pointer (aa ⟨g,0,af⟩),[g]⟩},rfl,⟨k.size,k.defers.imp λ_ h1=>h1.mono q2.ext,λu=>?_⟩,x,q2⟩;simp only[look];cases d:aA t u with
  |false=>exact(k.slot u).mono q2.ext hh.len
  |true =>
   have e:=bR d;subst e;have h1:=k.slot t;rw[r]at h1;obtain⟨_,y,A,i,p,q⟩:=(h1:gu σ s _ (.ptr l 0));rw[j]at i;cases i;cases p;rw[q];exact Rd.val rfl
end
end
end Go.AM
namespace Go.AM.R1
section
open Go.Proofs Go.Extern
abbrev rF:aj:=62
abbrev lz:aj:=60
abbrev Ps:aj:=186
abbrev hT(t:aj):ah:=.pointer (aa ⟨6,t,af⟩)
abbrev rT(t:aj):ah:=.iface Ps (.agg #[hT t])
abbrev vV(t:aj)(g:Nat)(a:Int):ah:=.agg #[hT t,.pointer (aa ⟨g,0,af⟩),.int .u64 a]
def Db:kT ag 77 λargs=>ReflectliteValue.unpack (args.getD 0 (.tuple #[])):=⟨_,Tryz.func77,by kernel_rfl,by kernel_rfl,by kernel_rfl,by kernel_rfl⟩
def Fi(p:Addr)(w:az):(ReflectliteValue.unpack (.iface rF (.pointer (aa p)))).run ag w=.ok (vV rF w.heap.size 150) (w.alloc (.cells #[.pointer (aa p)] rF)):=by kernel_rfl
def Fj(p:Addr)(w:az)(es:Array Event):(ReflectliteValue.unpack (.iface rF (.pointer (aa p)))).events ag w es=es:=by kernel_rfl
def Fl(p:Addr)(w:az):(ReflectliteValue.unpack (.iface lz (.pointer (aa p)))).run ag w=.ok (vV lz w.heap.size 150) (w.alloc (.cells #[.pointer (aa p)] lz)):=by kernel_rfl
def Fo(p:Addr)(w:az)(es:Array Event):(ReflectliteValue.unpack (.iface lz (.pointer (aa p)))).events ag w es=es:=by kernel_rfl
def Wx:kT ag 78 (ReflectliteValue.methodAny (ReflectliteValue.valueError "reflectlite.Value.Type" 0) λt _ _ _=>ReflectliteType.toType t):=⟨_,Tryz.func78,by kernel_rfl,by kernel_rfl,by kernel_rfl,by kernel_rfl⟩
def Wy(g:Nat)(w:az):(ReflectliteValue.methodAny (ReflectliteValue.valueError "reflectlite.Value.Type" 0) (λt _ _ _=>ReflectliteType.toType t) #[vV rF g 150]).run ag w=.ok (rT rF) w:=by kernel_rfl
def Wz(g:Nat)(w:az)(es:Array Event):(ReflectliteValue.methodAny (ReflectliteValue.valueError "reflectlite.Value.Type" 0) (λt _ _ _=>ReflectliteType.toType t) #[vV rF g 150]).events ag w es=es:=by kernel_rfl
def QQ(h:ah)(w:az):(Go.method (Tryz.prog.types.size+Made.depth) Ps (.agg #[h]) "Kind").run ag w=.ok (262,h) w/\∀es,(Go.method (Tryz.prog.types.size+Made.depth) Ps (.agg #[h]) "Kind").events ag w es=es:=⟨by kernel_rfl,λes=>by kernel_rfl⟩
def QR:kT ag 262 (ReflectliteType.abiMethod λt=>do pure (.int .u8 (<-Rtype.kind t))):=⟨_,Tryz.func262,by kernel_rfl,by kernel_rfl,by kernel_rfl,by kernel_rfl⟩
def Pt(w:az):((ReflectliteType.abiMethod λt=>do pure (.int .u8 (<-Rtype.kind t))) #[hT rF]).run ag w=.ok (.int .u8 22) w:=by kernel_rfl
def Pu(w:az)(es:Array Event):((ReflectliteType.abiMethod λt=>do pure (.int .u8 (<-Rtype.kind t))) #[hT rF]).events ag w es=es:=by kernel_rfl
def Pv(w:az):((ReflectliteType.abiMethod λt=>do pure (.int .u8 (<-Rtype.kind t))) #[hT lz]).run ag w=.ok (.int .u8 22) w:=by kernel_rfl
def Pw(w:az)(es:Array Event):((ReflectliteType.abiMethod λt=>do pure (.int .u8 (<-Rtype.kind t))) #[hT lz]).events ag w es=es:=by kernel_rfl
def Ts:kT ag 79 (ReflectliteValue.method (ReflectliteValue.valueError "reflectlite.Value.IsNil" 0) ReflectliteValue.isNil):=⟨_,Tryz.func79,by kernel_rfl,by kernel_rfl,by kernel_rfl,by kernel_rfl⟩
def rlm(z:Sem ah)(f:aj->Addr->Nat->Nat->Sem ah)(v:ah):ReflectliteValue.method z f #[v]=(do match<-ReflectliteValue.parts v with|none=>z|some (t,a,b)=>f t a b (b % 32)):=rfl
def uf(g:Nat)(w:az):(ReflectliteValue.parts (vV rF g 150)).run ag w=.ok (aa (rF,⟨g,0,af⟩,150)) w/\∀es,(ReflectliteValue.parts (vV rF g 150)).events ag w es=es:=⟨by kernel_rfl,λes=>by kernel_rfl⟩
def Tt(g:Nat)(p:Addr)(w:az)(c:w.cell? ⟨g,0,af⟩=aa (.pointer (aa p))):(ReflectliteValue.method (ReflectliteValue.valueError "reflectlite.Value.IsNil" 0) ReflectliteValue.isNil #[vV rF g 150]).run ag w=.ok (.bool ae) w /\
  ∀es,∀b∈(ReflectliteValue.method (ReflectliteValue.valueError "reflectlite.Value.IsNil" 0) ReflectliteValue.isNil #[vV rF g 150]).events ag w es,b∈es∨b=⟨.cell ⟨g,0,af⟩,ae,ae⟩:=by
 have d:=Tryz.underlying62;rw[rlm];constructor
 .simp only[bO,(uf g w).1,bX];simp[ReflectliteValue.isNil,loadVar,isAgg,underlying,d,c]
 .intro es b a;simp only[aK,bO,(uf g w).1,(uf g w).2,bX,aO]at a;simpa[ReflectliteValue.isNil,loadVar,isAgg,underlying,d,c,show(Mode.plain==Mode.atomic)=ae from rfl]using a
def WA(h:ah)(w:az):(Go.method (Tryz.prog.types.size+Made.depth) Ps (.agg #[h]) "Elem").run ag w=.ok (279,.agg #[h]) w/\∀es,(Go.method (Tryz.prog.types.size+Made.depth) Ps (.agg #[h]) "Elem").events ag w es=es:=⟨by kernel_rfl,λes=>by kernel_rfl⟩
def Tu:kT ag 279 (ReflectliteType.method ReflectliteType.elem):=⟨_,Tryz.func279,by kernel_rfl,by kernel_rfl,by kernel_rfl,by kernel_rfl⟩
def Tv(w:az):(ReflectliteType.method ReflectliteType.elem #[.agg #[hT rF]]).run ag w=.ok (rT lz) w:=by kernel_rfl
def Tw(w:az)(es:Array Event):(ReflectliteType.method ReflectliteType.elem #[.agg #[hT rF]]).events ag w es=es:=by kernel_rfl
def WB(h:ah)(w:az):(Go.method (Tryz.prog.types.size+Made.depth) Ps (.agg #[h]) "Implements").run ag w=.ok (280,.agg #[h]) w/\∀es,(Go.method (Tryz.prog.types.size+Made.depth) Ps (.agg #[h]) "Implements").events ag w es=es:=⟨by kernel_rfl,λes=>by kernel_rfl⟩
def WC:kT ag 280 (ReflectliteType.relation "Implements" ReflectliteType.implements_):=⟨_,Tryz.func280,by kernel_rfl,by kernel_rfl,by kernel_rfl,by kernel_rfl⟩
def WE(w:az):(ReflectliteType.relation "Implements" ReflectliteType.implements_ #[.agg #[hT lz],rT 57]).run ag w=.ok (.bool ab) w:=by kernel_rfl
def WG(w:az)(es:Array Event):(ReflectliteType.relation "Implements" ReflectliteType.implements_ #[.agg #[hT lz],rT 57]).events ag w es=es:=by kernel_rfl
def ZC(h:ah)(w:az):(Go.method (Tryz.prog.types.size+Made.depth) Ps (.agg #[h]) "AssignableTo").run ag w=.ok (277,.agg #[h]) w/\∀es,(Go.method (Tryz.prog.types.size+Made.depth) Ps (.agg #[h]) "AssignableTo").events ag w es=es:=⟨by kernel_rfl,λes=>by kernel_rfl⟩
def ZD:kT ag 277 (ReflectliteType.relation "AssignableTo" ReflectliteType.assignableTo):=⟨_,Tryz.func277,by kernel_rfl,by kernel_rfl,by kernel_rfl,by kernel_rfl⟩
def ZE(w:az):(ReflectliteType.relation "AssignableTo" ReflectliteType.assignableTo #[.agg #[hT lz],rT lz]).run ag w=.ok (.bool ab) w:=by kernel_rfl
def ZF(w:az)(es:Array Event):(ReflectliteType.relation "AssignableTo" ReflectliteType.assignableTo #[.agg #[hT lz],rT lz]).events ag w es=es:=by kernel_rfl
def Px:kT ag 129 ReflectliteType.typeOf:=⟨_,Tryz.func129,by kernel_rfl,by kernel_rfl,by kernel_rfl,by kernel_rfl⟩
def Py(v:ah)(w:az):(ReflectliteType.typeOf #[.iface lz v]).run ag w=.ok (rT lz) w:=by kernel_rfl
def Pz(v:ah)(w:az)(es:Array Event):(ReflectliteType.typeOf #[.iface lz v]).events ag w es=es:=by kernel_rfl
def Tx:kT ag 130 (ReflectliteValue.method (ReflectliteValue.valueError "reflectlite.Value.Elem" 0) ReflectliteValue.elem):=⟨_,Tryz.func130,by kernel_rfl,by kernel_rfl,by kernel_rfl,by kernel_rfl⟩
def G0(w:az):(Rtype.elem? rF).run ag w=.ok (aa lz) w/\∀es,(Rtype.elem? rF).events ag w es=es:=⟨by kernel_rfl,λes=>by kernel_rfl⟩
def rMk(p:Addr)(w:az):(ReflectliteValue.mk lz p ReflectliteValue.flagAddr).run ag w=.ok (.agg #[hT lz,.pointer (aa p),.int .u64 406]) w/\∀es,(ReflectliteValue.mk lz p ReflectliteValue.flagAddr).events ag w es=es:=⟨by kernel_rfl,λes=>by kernel_rfl⟩
def Ty(g:Nat)(p:Addr)(w:az)(c:w.cell? ⟨g,0,af⟩=aa (.pointer (aa p))):(ReflectliteValue.method (ReflectliteValue.valueError "reflectlite.Value.Elem" 0) ReflectliteValue.elem #[vV rF g 150]).run ag w=.ok (.agg #[hT lz,.pointer (aa p),.int .u64 406]) w /\
  ∀es,∀b∈(ReflectliteValue.method (ReflectliteValue.valueError "reflectlite.Value.Elem" 0) ReflectliteValue.elem #[vV rF g 150]).events ag w es,b∈es∨b=⟨.cell ⟨g,0,af⟩,ae,ae⟩:=by
 have d:=Tryz.underlying62;rw[rlm];constructor
 .simp only[bO,(uf g w).1,bX];simp[ReflectliteValue.elem,loadVar,isAgg,underlying,d,c,G0,rMk]
 .intro es b a;simp only[aK,bO,(uf g w).1,(uf g w).2,bX,aO]at a;simpa[ReflectliteValue.elem,loadVar,isAgg,underlying,d,c,G0,rMk,show(Mode.plain==Mode.atomic)=ae from rfl]using a
def ZG:kT ag 131 ReflectliteValue.set:=⟨_,Tryz.func131,by kernel_rfl,by kernel_rfl,by kernel_rfl,by kernel_rfl⟩
def rls(v x:ah):ReflectliteValue.set #[v,x]=(do
  let (aa (d,a,e),aa (c,b,_)):=(<-ReflectliteValue.parts v,<-ReflectliteValue.parts x)
   |unsupported (.noEntry "extern/(internal/reflectlite.Value).Set.zeroValue")
  if e / ReflectliteValue.flagAddr % 2==0 then unsupported (.noEntry "extern/(internal/reflectlite.Value).Set.unaddressable")
  let val<-loadVar c b
  if<-Rtype.directlyAssignable d c then storeVar d a val
  else if<-Rtype.implements d c then
   if(<-Rtype.kind c)==20 then
    match val with
    |.nilIface=>unsupported (.noEntry "extern/reflectlite: a nil value of one interface type handed on as a value of another")
    |_=>storeVar d a val
   else storeVar d a (.iface c val)
  else panicString ("reflectlite.Set: value of type "++(<-Rtype.spelt c)++ " is not assignable to type "++(<-Rtype.spelt d))
  pure (.tuple #[])):=rfl
def A6(p:Addr)(w:az):(ReflectliteValue.parts (.agg #[hT lz,.pointer (aa p),.int .u64 406])).run ag w=.ok (aa (lz,p,406)) w/\∀es,(ReflectliteValue.parts (.agg #[hT lz,.pointer (aa p),.int .u64 406])).events ag w es=es:=⟨by kernel_rfl,λes=>by kernel_rfl⟩
def A7(g:Nat)(w:az):(ReflectliteValue.parts (vV lz g 150)).run ag w=.ok (aa (lz,⟨g,0,af⟩,150)) w/\∀es,(ReflectliteValue.parts (vV lz g 150)).events ag w es=es:=⟨by kernel_rfl,λes=>by kernel_rfl⟩
def G1(w:az):(Rtype.directlyAssignable lz lz).run ag w=.ok ab w/\∀es,(Rtype.directlyAssignable lz lz).events ag w es=es:=⟨by kernel_rfl,λes=>by kernel_rfl⟩
def QS(w:az):(sizeOf lz).run ag w=.ok 1 w/\∀es,(sizeOf lz).events ag w es=es:=⟨by kernel_rfl,λes=>by kernel_rfl⟩
def ZH(g b:Nat)(E:aj)(w0:ah)(e:Addr)(w:az)(m:w.heap[g]?=aa (.cells #[w0] E (0,0)))(l:w.cell? ⟨b,0,af⟩=aa (.pointer (aa e))):
  (ReflectliteValue.set #[.agg #[hT lz,.pointer (aa ⟨g,0,af⟩),.int .u64 406],vV lz b 150]).run ag w=.ok (.tuple #[]) (w.setRow g #[.pointer (aa e)]) /\
  ∀es,∀c∈(ReflectliteValue.set #[.agg #[hT lz,.pointer (aa ⟨g,0,af⟩),.int .u64 406],vV lz b 150]).events ag w es,c∈es∨c=⟨.cell ⟨b,0,af⟩,ae,ae⟩∨c=⟨.cell ⟨g,0,af⟩,ab,ae⟩:=by
 have n:=Tryz.underlying60;have d:∀w∈[Value.pointer (aa e)],w.oneCell'=ab:=λw o=>by simp at o;subst o;rfl
 have k:=run_storeCells_at ag g 0 E [.pointer (aa e)] 0 #[w0] w m (by simp) d;have a:(storeCells ⟨g,0,af⟩ [.pointer (aa e)] 0).run ag w=.ok () (w.setRow g #[.pointer (aa e)]):=k;rw[rls];constructor
 .simp only[bO,(A6 ⟨g,0,af⟩ w).1,(A7 b w).1,bX];simp[ReflectliteValue.flagAddr,loadVar,isAgg,underlying,n,l,G1,storeVar,Value.cells,QS,a]
 .intro es c f;simp only[aK,bO,(A6 ⟨g,0,af⟩ w).1,(A6 ⟨g,0,af⟩ w).2,(A7 b w).1,(A7 b w).2,bX,aO]at f;have i:c∈(storeCells ⟨g,0,af⟩ [.pointer (aa e)] 0).events ag w (es.push ⟨.cell ⟨b,0,af⟩,ae,ae⟩):=by simpa[ReflectliteValue.flagAddr,loadVar,isAgg,underlying,n,l,G1,storeVar,Value.cells,QS,a,show(Mode.plain==Mode.atomic)=ae from rfl]using f
  rcases dE [.pointer (aa e)] 0 #[w0] w _ m (by simp) d c i with h|⟨j,q,p,rfl⟩
  .grind
  .obtain rfl:j=0:=by grind
   exact .inr (.inr rfl)
end
section
open Go.Proofs Go.Extern
variable {X:Cx ag}
abbrev ZI:aP:=.cf (dJ 0 129 (rT 57))
abbrev Nb(v:ah):D:=.e (.one (.c (.val v)))
abbrev PC(t:aj)(g:Nat)(a:Int):D:=.e (.agg [.c (.val (hT t)),.c (.val (.pointer (aa ⟨g,0,af⟩))),.c (.val (.int .u64 a))])
abbrev asB(p:Addr)(g a:Nat):List aP:=[.cf (dJ a rF (.pointer (aa ⟨g,0,af⟩))),.cf (dJ g lz (.pointer af))]
def QT:∀j,j<2->([0,1]:List Nat)[j]?=aa j:=by decide
def MA(p:Addr)(g b:Nat):Ev X 80 [Nb (.iface lz (.pointer (aa p))),Nb (.iface rF (.pointer (aa ⟨g,0,af⟩))),PC rF b 150,Nb (rT lz)] (asB p g b) (dB ab) [.cf (dJ b rF (.pointer (aa ⟨g,0,af⟩))),.cf (dJ g lz (.pointer (aa p)))]:=by
 refine Ev.bQ Tryz.func80 rfl λh=>?_;refine bu rfl aw ?_;refine AK.sk 3 [0,1,3,6] (λ_:Unit=>True) (λ_=>[]) (λ_=>asB p g b++[.cells 126 [.c (.val (hT rF)),.c (.val (.pointer (aa ⟨b,0,af⟩))),.c (.val (.int .u64 150))]]) (λ_=>0) () rfl ?_ rfl ?_ rfl aw λ_ _=>?_
 .simp
 .simp
 refine bu rfl aw ?_;refine AK.oL rfl rfl (dO.DW (gi.direct rfl rfl) Px (Py _) (Pz _) (x:=Nb (rT lz)) λ_=>Rd.val rfl) λ_=>?_;refine bu rfl aw ?_;refine AK.oL rfl rfl (dO.DW (gi.invoke rfl rfl rfl (ZC _)) ZD ZE ZF (x:=dB ab) λ_=>Rd.bool) λ_=>?_;refine aW [(19,ab)] rfl (by simp) ?_;refine AK.oL rfl rfl (dO.PY 0 (u:=.pointer (aa ⟨g,0,af⟩)) rfl (gi.direct rfl rfl) Tx (λw f=>Ty b ⟨g,0,af⟩ w f) (x:=PC lz g 406) λ_=>⟨_,rfl,Rd.val rfl,Rd.val rfl,Rd.val rfl,aw⟩) λ_=>?_;refine bu rfl aw ?_;refine AK.oL rfl rfl (dO.JD (E:=lz) (u:=.pointer (aa p)) (v:=λa=>vV lz a 150) (x:=λa=>PC lz a 150) (gi.direct rfl rfl) Db (Fl p) (Fo p) λa _ _=>⟨_,rfl,Rd.val rfl,Rd.val rfl,Rd.val rfl,aw⟩) λa=>?_;refine bu rfl aw ?_;refine AK.oL rfl rfl (dO.Rx 1 3 (w0:=.pointer af) (u:=.pointer (aa p)) rfl rfl (gi.direct rfl rfl) ZG (λw e d=>ZH g a lz _ p w e d) (x:=.fa []) λ_ _=>⟨[],rfl,aw⟩) λ_=>?_;refine bu rfl aw (AK.fJ (cw.mk [0,1] rfl ?_ rfl rfl rfl QT));simp
def G2{P:aq}{o:ar}{l:ak->D}{σ:List aP}{op:BinOp}{t ty T:aj}{v:ah}{x y:ak}(h:o.op=.binOp op t x y ty){c:Bool}{u:Array (String×aj)}(q:P.underlying t=aa (.interface u))(z:l x=.e (.one (.c (.val (.iface T v)))))(r:l y=.e (.one (.c .iw)))(b:∀w,(eqGuard op t x y (.iface T v) .nilIface).run P w=.ok () w)(i:∀w es,(eqGuard op t x y (.iface T v) .nilIface).events P w es=es)(m:ja op ae=aa c):bG P o l σ (.e (.one (.c (.bool c)))) σ:=by
 refine .quiet λs p A n=>?_;have j:=n x;have f:=n y;rw[z]at j;rw[r]at f;replace j:=eY j;replace f:=eY f;generalize a:p x=vx at j;generalize d:p y=vy at f;cases j;cases f;have k:(Op.equal t (.iface T v) .nilIface).run P s.w=.ok ae s.w:=by show(aX (9999+1) t _ _).run P s.w=_;unfold aX;simp[underlying,q]
 have g:∀es,(Op.equal t (.iface T v) .nilIface).events P s.w es=es:=λes=>by show(aX (9999+1) t _ _).events P s.w es=es;unfold aX;simp[underlying,q]
 cases op<;>simp only[ja,reduceCtorEq,dr]at m
 .subst m;exact⟨.bool ae,by simp[av,h,a,d,b,binOp,k],Rd.bool,by simp[av,h,a,d,b,i,binOp,k,g]⟩
 .subst m;exact⟨.bool ab,by simp[av,h,a,d,b,binOp,k],Rd.bool,by simp[av,h,a,d,b,i,binOp,k,g]⟩
def MB(p:Addr)(g:Nat):Ev X 27 [Nb (.iface lz (.pointer (aa p))),Nb (.iface rF (.pointer (aa ⟨g,0,af⟩)))] [ZI,.cf (dJ g lz (.pointer af))] (dB ab) [ZI,.cf (dJ g lz (.pointer (aa p)))]:=by refine Ev.bQ Tryz.func27 rfl λf=>?_;refine bu rfl aw ?_;refine AK.law (G2 rfl Tryz.underlying57 rfl rfl (λ_=>rfl) (λ_ _=>rfl) rfl) rfl rfl ?_;refine aW [(9,ae)] rfl (by simp) ?_;refine AK.law (G2 rfl Tryz.underlying20 rfl rfl (λ_=>rfl) (λ_ _=>rfl) rfl) rfl rfl ?_;refine aW [(11,ae)] rfl (by simp) ?_;refine AK.oL rfl rfl (dO.JD (E:=rF) (u:=.pointer (aa ⟨g,0,af⟩)) (v:=λb=>vV rF b 150) (x:=λb=>PC rF b 150) (gi.direct rfl rfl) Db (Fi _) (Fj _) λb _ _=>⟨_,rfl,Rd.val rfl,Rd.val rfl,Rd.val rfl,aw⟩) λa=>?_;refine bu rfl aw ?_;refine AK.oL rfl rfl (dO.DW (gi.direct rfl rfl) Wx (Wy a) (Wz a) (x:=Nb (rT rF)) λ_=>Rd.val rfl) λ_=>?_;refine bu rfl aw ?_;refine AK.oL rfl rfl (dO.DW (gi.invoke rfl rfl rfl (QQ _)) QR Pt Pu (x:=.e (.one (.c (.int .u8 22)))) λ_=>Rd.int (by simp[bA])) λ_=>?_;refine aW [(20,ae)] rfl (by simp) ?_;refine AK.oL rfl rfl (dO.PY 2 (u:=.pointer (aa ⟨g,0,af⟩)) rfl (gi.direct rfl rfl) Ts (λw d=>Tt a ⟨g,0,af⟩ w d) (x:=dB ae) λ_=>Rd.bool) λ_=>?_;refine aW [(23,ae)] rfl (by simp) ?_;refine AK.oL rfl rfl (dO.DW (gi.invoke rfl rfl rfl (WA _)) Tu Tv Tw (x:=Nb (rT lz)) λ_=>Rd.val rfl) λ_=>?_;refine bu rfl aw ?_;refine AK.oL rfl rfl (dO.DW (gi.invoke rfl rfl rfl (QQ _)) QR Pv Pw (x:=.e (.one (.c (.int .u8 22)))) λ_=>Rd.int (by simp[bA])) λ_=>?_;refine aW [(30,ab)] rfl (by simp) ?_;refine AK.one (OA.JS tok 0 rfl rfl rfl rfl rfl rfl) rfl ?_;refine AK.oL rfl rfl (dO.DW (gi.invoke rfl rfl rfl (WB _)) WC WE WG (x:=dB ab) λ_=>Rd.bool) λ_=>?_;refine aW [(35,ae)] rfl (by simp) ?_;refine AK.cQ (MA p g a) [2,1] rfl ?_;refine bu rfl aw (AK.cY [0,1] rfl ?_ rfl rfl rfl QT);simp
end
section
open Go.Proofs
abbrev cTr:List (Nat×dv):=[(53,yG)]
def E3(k:Int)(s:bo)(t:OZ s):Ev (Cx.beside ag) 57 [qN s,dI k] [] (dB ((bd s.2.1.length).all (jV k s))) []:=by
 refine Ev.bQ Tryz.func57 rfl λx=>?_;have w:=t.sN;have q:=t.sm;have c:bF (Cx.beside ag) cTr:=.cons HN .nil;refine cg c rfl aw ?_;refine AK.cC 1 (λi=>i<=s.2.1.length/\∀j,j<i->jV k s j=ab) (λi:Nat=>[(1,dI k),(2,.e (.one (.ptr 0 0))),(10,fL.sl s.2.1),(11,dI s.2.1.length),(12,dI i)]) (λ_=>[IT s]) (λi=>s.2.1.length-i) 0 rfl (by simp) rfl (by simp) rfl ⟨by omega,by omega⟩ ?_;rintro i ⟨hi,b⟩;by_cases h:i<s.2.1.length
 .have o:s.2.1.getD i fL.b7=s.2.1.getD i (0,[]):=rfl;have n:s.2.1.getD (i-1) fL.b7=s.2.1.getD (i-1) (0,[]):=rfl;have a:jV k s i=(decide (1<=(s.2.1.getD i (0,[])).1/\(s.2.1.getD i (0,[])).1<=20)&&CJ (·.1) (0,[]) s.2.1 i&&(db k (s.2.1.getD i (0,[])) s.1).isSome):=rfl;have r:=qz (f:=λp:gG=>p.1) (d:=(0,[])) (l:=s.2.1) (i:=i);have m:=q _ (lQ (d:=(0,[])) h);generalize s.2.1.getD i (0,[])=p at *;generalize s.2.1.getD (i-1) (0,[])=p' at *;by_cases c1:1<=p.1
  rotate_left
  .refine aV c [(13,ab),(20,ab),(25,ab),(40,ab)] rfl ?_ (AK.fJ (cw.zero rfl ?_))
   .simp[-an,o];omega
   .rw[iH h (by grind)];simp
  by_cases c2:p.1<=20
  rotate_left
  .refine aV c [(13,ab),(20,ae),(25,ab),(40,ab)] rfl ?_ (AK.fJ (cw.zero rfl ?_))
   .simp[-an,o];omega
   .rw[iH h (by grind)];simp
  rw[dc ⟨c1,c2⟩,fH]at a;by_cases u:i=0
  .subst u;rw[show CJ (·.1) (0,[]) s.2.1 0=ab from rfl,fH]at a;cases g:(db k p s.1).isSome with
   |false =>
    refine aV c [(13,ab),(20,ae),(25,ae),(27,ae),(40,ae),(50,ab)] rfl ?_ (AK.fJ (cw.zero rfl ?_))
    .simp[-an,o,bA,cL.list_fn,cL.aM,cP.list_fn,cP.aM,g,m.1];and_intros<;>first|omega|grind
    .rw[iH h (a.trans g)];simp
   |true =>
    refine aV c [(13,ab),(20,ae),(25,ae),(27,ae),(40,ae),(50,ae)] rfl ?_ (AK.aQ 1 rfl (by simp) (by simp) ⟨h,jU b (a.trans g)⟩ (by omega));simp[-an,o,bA,cL.list_fn,cL.aM,cP.list_fn,cP.aM,g,m.1];and_intros<;>first|omega|grind
  rw[r u]at a;by_cases v:p'.1<p.1
  rotate_left
  .refine aV c [(13,ab),(20,ae),(25,ae),(28,ab),(38,ab),(40,ab)] rfl ?_ (AK.fJ (cw.zero rfl ?_))
   .simp[-an,o,n,bA];omega
   .rw[iH h (by grind)];simp
  rw[dc v,fH]at a;cases g:(db k p s.1).isSome with
  |false =>
   refine aV c [(13,ab),(20,ae),(25,ae),(28,ab),(38,ae),(40,ae),(50,ab)] rfl ?_ (AK.fJ (cw.zero rfl ?_))
   .simp[-an,o,n,bA,cL.list_fn,cL.aM,cP.list_fn,cP.aM,g,m.1];and_intros<;>first|omega|grind
   .rw[iH h (a.trans g)];simp
  |true =>
   refine aV c [(13,ab),(20,ae),(25,ae),(28,ab),(38,ae),(40,ae),(50,ae)] rfl ?_ (AK.aQ (i+1) rfl (by simp) (by simp) ⟨h,jU b (a.trans g)⟩ (by omega));simp[-an,o,n,bA,cL.list_fn,cL.aM,cP.list_fn,cP.aM,g,m.1];and_intros<;>first|omega|grind
 obtain rfl:i=s.2.1.length:=by omega
 rw[dz.2 b];refine aV c [(13,ae)] rfl (by simp) (AK.leaveD rfl rfl ?_);exact cg c rfl aw (AK.bx rfl)
def yb(k:Int)(s:bo):eH k s=(b6 k&&y0 k s&&(bd s.2.1.length).all (jV k s)&&k7 s.2.2):=by unfold eH y0;cases(bd s.1.length).all (mc k s.1)<;>cases decide (bY s.1).Nodup<;>cases(bd s.2.1.length).all (jV k s)<;>cases b6 k<;>cases k7 s.2.2<;>cases decide (s.1.length<=20)<;>rfl
abbrev SZ:dv:=oX TX aI (λs k=>dB (y0 k s)) λs k=>[b6 k=ab,OZ s]
abbrev S0:dv:=oX TX aI (λs k=>dB ((bd s.2.1.length).all (jV k s))) λs _=>[OZ s]
def CN(k:Int)(s:bo)(e:OZ s):Ev (Cx.beside ag) 18 [dI k,qN s] [] (dB (eH k s)) []:=by
 refine Ev.bQ Tryz.func18 rfl λi=>?_;have c:bF (Cx.beside ag) [(49,LB),(40,kq aI (λk=>dB (b6 k)) λ_=>[]),(56,SZ),(57,S0),(54,sL)]:=.cons SY (.cons t40 (.cons (.sC λs k h=>EY k s h.1 h.2) (.cons (.sC λs k h=>E3 k s h) (.cons GK .nil))));have d:=cP.list_fn s.1;have b:=fL.list_fn s.2.1;have a:=cH.list_fn s.2.2;rw[yb];cases hk:b6 k
 .exact aV c [(10,ae),(15,ae),(20,ae)] rfl (by simp[hk,d,b,a,cP.aM,fL.aM,cH.aM]) (AK.bx rfl)
 cases f:y0 k s
 .exact aV c [(10,ab),(15,ae),(20,ae)] rfl (by simp[hk,d,b,a,cP.aM,fL.aM,cH.aM,e,f]) (AK.bx rfl)
 cases g:(bd s.2.1.length).all (jV k s)
 .exact aV c [(10,ab),(15,ab),(20,ae)] rfl (by simp[-List.all_eq_true,-List.all_eq_false,hk,d,b,a,cP.aM,fL.aM,cH.aM,e,f,g]) (AK.bx rfl)
 exact aV c [(10,ab),(15,ab),(20,ab)] rfl (by simp[-List.all_eq_true,-List.all_eq_false,hk,d,b,a,cP.aM,fL.aM,cH.aM,e,f,g]) (AK.bx rfl (by simp[a]))
abbrev y3:dv:=oX aI TX (λk s=>dB (eH k s)) λ_ s=>[OZ s]
def Im:eb (Cx.beside ag) 18 y3:=.sC λk s h=>CN k s h
abbrev Tz(a b:aj×ah):List aP:=GB a b++[ZI]
def mQ(k:Int)(s:bo)(by_:Int)(t:List bz):bo×Bool :=
 if eH k s=ab/\(by_=1∨by_=2)/\cz t=ab then(match(sU k s by_ t).2 with|none=>((sU k s by_ t).1,ab)|some _=>(s,ae))else(([],[],[]),ae)
structure A8(k:Int)(s:bo):Prop where
 hk:b6 k=ab
 sp:(c6 s.1).length<=100000
 ix:rE (indexOf s.1) (indexOf s.1).length=ab
 log:k7 s.2.2=ab
 sn:1<=de s
def mR:∀j,j<3->([0,1,2]:List Nat)[j]?=aa j:=by decide
def MC{X:Cx ag}(v:ah):Ev X 27 [.e (.one (.c .iw)),Nb v] [] (dB ae) []:=by refine Ev.bQ Tryz.func27 rfl λa=>?_;refine bu rfl aw ?_;refine AK.law (Er rfl Tryz.underlying57 rfl rfl rfl) rfl rfl ?_;exact aW [(9,ab)] rfl (by simp) (AK.bx rfl)
def ye(f i:aj×ah)(k:Int)(s:bo)(by_:Int)(t:List bz)(j:l8 s)(l:OZ s)(A:sE s)(H:bA .i64 by_)(u:eH k s=ab->A8 k s):
  Ev (Cx.beside ag) 7 [dI k,qN s,dI by_,cF.sl t] (Tz f i) (Y3 (mQ k s by_ t).1 (mQ k s by_ t).2) (Tz f i):=by
 refine Ev.pA tok Tryz.func7 rfl rfl rfl λG=>?_;have a:bF (Cx.beside ag) [(18,y3),(25,Wn)]:=.cons Im (.cons t25 .nil);by_cases d:eH k s=ab
 .by_cases o:by_=1∨by_=2
  .by_cases m:cz t=ab
   .have e:mQ k s by_ t=(match(sU k s by_ t).2 with|none=>((sU k s by_ t).1,ab)|some _=>(s,ae)):=bl ⟨d,o,m⟩;rw[e];obtain⟨F,C,D,z,B⟩:=u d;have n:=My (X:=Cx.beside ag) f i k s by_ t F j A m C D z o B;apply AK.join [(0,dI k),(2,dI by_),(3,cF.sl t),(5,.e (.one (.ptr 3 0))),(8,.e (.one (.ptr 4 0)))] (Tz f i++[.cells 27 [.c (HT s.1),.c (EL s.2.1),.c (Co s.2.2)],.cells 27 [gm,gm,gm]])
    .intro out;rcases o with rfl|rfl
     .refine bh a [(17,ae),(20,ae),(25,ae),(29,ae),(1000003,ab)] rfl ?_ (out _ _ rfl ?_)
      .simp only[ay,cP.list_fn,fL.list_fn,cH.list_fn,cF.list_fn,d,iJ,m];and_intros<;>first|rfl|exact True.intro|exact cP.aM _|exact fL.aM _|exact cH.aM _|exact cF.aM _|exact l
      .simp
     .refine bh a [(17,ae),(20,ab),(25,ae),(29,ae),(1000003,ab)] rfl ?_ (out _ _ rfl ?_)
      .simp only[ay,cP.list_fn,fL.list_fn,cH.list_fn,cF.list_fn,d,iJ,m];and_intros<;>first|rfl|exact True.intro|exact cP.aM _|exact fL.aM _|exact cH.aM _|exact cF.aM _|exact l
      .simp
    have y:∀v:ah,Ev (Cx.beside ag) 27 [.e (.one (.c .iw)),Nb v] [] (dB ae) []:=λv=>MC v;generalize sU k s by_ t=q at *;obtain⟨x,E⟩:=q;cases E with
    |none =>
     have b:Ev (Cx.beside ag) 26 [qN s,dI k,dI by_,cF.sl t] (GB f i) (.fa [.agg [.c (HT x.1),.c (EL x.2.1),.c (Co x.2.2)],.one (.c .iw)]) (GB f i):=n;refine cm a rfl aw ?_;refine AK.cQ b [0,1] rfl ?_;refine bh a [(1000005,ab)] rfl aw ?_;refine AK.FV 12 6 rfl rfl λg=>?_;refine cm a rfl aw ?_;refine AK.PZ 40 rfl ?_;refine AK.cQ (y _) [] rfl ?_;refine bh a [(41,ae)] rfl (by simp) ?_;refine AK.mF () [0,1,2] rfl rfl rfl rfl rfl rfl rfl rfl rfl ?_ rfl rfl rfl rfl mR;simp
    |some w =>
     have b:Ev (Cx.beside ag) 26 [qN s,dI k,dI by_,cF.sl t] (GB f i) (.fa [.agg [.c (HT x.1),.c (EL x.2.1),.c (Co x.2.2)],.one (.c (.ifs 60 (.rp [.str w])))]) (GB f i):=n;refine cm a rfl aw ?_;refine AK.cQ b [0,1] rfl ?_;refine bh a [(1000005,ab)] rfl aw ?_;refine AK.FV 12 6 rfl rfl λg=>?_;refine AK.Ry 11 rfl λp=>?_;refine cm a rfl aw ?_;refine AK.PZ 40 rfl ?_;refine AK.cQ (MB p g) [2,6] rfl ?_;refine bh a [(41,ab)] rfl (by simp) ?_;refine AK.cQ (xj s j.p j.p2 j.sn j.s2 j.h) [] rfl ?_;refine Zi a [] 2 rfl aw ?_;refine AK.Ki ?_;refine AK.oK 7 rfl rfl rfl (by simp) (by simp) ?_;refine AK.oK 8 rfl rfl rfl (by simp) (by simp) ?_;refine AK.mF () [0,1,2] rfl rfl rfl rfl rfl rfl rfl rfl rfl ?_ rfl rfl rfl rfl mR;simp[q8]
   .have e:mQ k s by_ t=(([],[],[]),ae):=aY λh=>m h.2.2;rw[e];have r:cz t=ae:=by grind
    rcases o with rfl|rfl
    .refine bh a [(17,ae),(20,ae),(25,ae),(29,ab)] rfl ?_ ?_
     .simp only[ay,cP.list_fn,fL.list_fn,cH.list_fn,cF.list_fn,d,iJ,r];and_intros<;>first|rfl|exact True.intro|exact cP.aM _|exact fL.aM _|exact cH.aM _|exact cF.aM _|exact l
     refine AK.mF () [0,1,2] rfl rfl rfl rfl rfl rfl rfl rfl rfl ?_ rfl rfl rfl rfl mR;simp
    .refine bh a [(17,ae),(20,ab),(25,ae),(29,ab)] rfl ?_ ?_
     .simp only[ay,cP.list_fn,fL.list_fn,cH.list_fn,cF.list_fn,d,iJ,r];and_intros<;>first|rfl|exact True.intro|exact cP.aM _|exact fL.aM _|exact cH.aM _|exact cF.aM _|exact l
     refine AK.mF () [0,1,2] rfl rfl rfl rfl rfl rfl rfl rfl rfl ?_ rfl rfl rfl rfl mR;simp
  .have e:mQ k s by_ t=(([],[],[]),ae):=aY λh=>o h.2.1;rw[e];refine bh a [(17,ae),(20,ab),(25,ab),(29,ab)] rfl ?_ ?_
   .simp only[ay,cP.list_fn,fL.list_fn,cH.list_fn,d,j8,lG,du];and_intros<;>first|rfl|exact True.intro|exact cP.aM _|exact fL.aM _|exact cH.aM _|exact l|grind
   refine AK.mF () [0,1,2] rfl rfl rfl rfl rfl rfl rfl rfl rfl ?_ rfl rfl rfl rfl mR;simp
 .have e:mQ k s by_ t=(([],[],[]),ae):=aY λh=>d h.1;rw[e];refine bh a [(17,ab),(25,ab),(29,ab)] rfl ?_ ?_
  .simp only[ay,cP.list_fn,fL.list_fn,cH.list_fn];and_intros<;>first|rfl|exact True.intro|exact cP.aM _|exact fL.aM _|exact cH.aM _|exact l|grind
  refine AK.mF () [0,1,2] rfl rfl rfl rfl rfl rfl rfl rfl rfl ?_ rfl rfl rfl rfl mR;simp
end
section
open Go.Proofs
variable {X:Cx ag}
def kz(k:Int)(s:bo)(by_:Int)(t:List bz):bo×Bool :=
 if eH k s=ab/\(1<=by_/\by_<=2)/\cz t=ab then(if eU k s t=ab then s else eO k s by_ t,!eU k s t)else(([],[],[]),ae)
def yf(k:Int)(s:bo)(by_:Int)(t:List bz)(a:l8 s)(m:sE s)(i:eH k s=ab->A8 k s):
  Ev X 6 [dI k,qN s,dI by_,cF.sl t] [] (Y3 (kz k s by_ t).1 (kz k s by_ t).2) []:=by
 refine Ev.pA tok Tryz.func6 rfl rfl rfl λu=>?_;have f:bF X [(9,tQ),(23,Cp),(10,T1)]:=.cons yZ (.cons EM (.cons t10 .nil));by_cases b:eH k s=ab
 .by_cases c:1<=by_/\by_<=2
  .by_cases d:cz t=ab
   .have e:kz k s by_ t=(if eU k s t=ab then s else eO k s by_ t,!eU k s t):=bl ⟨b,c,d⟩;rw[e];obtain⟨n,l,r,o,q⟩:=i b;refine bh f [(14,ae),(19,ae),(23,ae)] rfl ?_ ?_
    .simp only[ay,cP.list_fn,fL.list_fn,cH.list_fn,cF.list_fn,b,iJ,d,c,kC];and_intros<;>first|rfl|exact True.intro|exact cP.aM _|exact fL.aM _|exact cH.aM _|exact cF.aM _|exact a.s2|exact a.p|exact a.sn
    refine AK.cQ (yN k s by_ t n a m (eg d) l) [] rfl ?_;refine di rfl aw ?_;refine AK.mF () [] rfl rfl rfl rfl rfl rfl rfl rfl rfl ?_ rfl rfl rfl rfl sD;simp
   .have e:kz k s by_ t=(([],[],[]),ae):=aY λh=>d h.2.2;rw[e];have g:cz t=ae:=by grind
    refine bh f [(14,ae),(19,ae),(23,ab)] rfl ?_ ?_
    .simp only[ay,cP.list_fn,fL.list_fn,cH.list_fn,cF.list_fn,b,iJ,g,c,kC];and_intros<;>first|rfl|exact True.intro|exact cP.aM _|exact fL.aM _|exact cH.aM _|exact cF.aM _|exact a.s2|exact a.p|exact a.sn
    refine AK.mF () [] rfl rfl rfl rfl rfl rfl rfl rfl rfl ?_ rfl rfl rfl rfl sD;simp
  .have e:kz k s by_ t=(([],[],[]),ae):=aY λh=>c h.2.1;rw[e];refine bh f [(14,ae),(19,ab),(23,ab)] rfl ?_ ?_
   .simp only[ay,cP.list_fn,fL.list_fn,cH.list_fn,b,c,kA];and_intros<;>first|rfl|exact True.intro|exact cP.aM _|exact fL.aM _|exact cH.aM _|exact a.s2|exact a.p|exact a.sn
   refine AK.mF () [] rfl rfl rfl rfl rfl rfl rfl rfl rfl ?_ rfl rfl rfl rfl sD;simp
 .have e:kz k s by_ t=(([],[],[]),ae):=aY λh=>b h.1;rw[e];have j:eH k s=ae:=by grind
  refine bh f [(14,ab),(19,ab),(23,ab)] rfl ?_ ?_
  .simp only[ay,cP.list_fn,fL.list_fn,cH.list_fn,j];and_intros<;>first|rfl|exact True.intro|exact cP.aM _|exact fL.aM _|exact cH.aM _|exact a.s2|exact a.p|exact a.sn
  refine AK.mF () [] rfl rfl rfl rfl rfl rfl rfl rfl rfl ?_ rfl rfl rfl rfl sD;simp
end
theorem Ln{l:List bm}{x y:bm}(h:y∈gI l x):y=x∨y∈l:=by
 induction l with
 |nil=>simp[gI]at h;grind
 |cons z r a =>
  simp only[gI]at h;grind
def OQ{k:Int}{ps:List Bs}{y:bm}(h:y∈oY k ps):∃p∈ps,y=(ek k p,eT p):=by
 have key:∀(ps:List Bs) (acc:List bm),y∈ps.foldl (λl p=>gI l (ek k p,eT p)) acc->y∈acc∨∃p∈ps,y=(ek k p,eT p):=by
  intro ps;induction ps with
  |nil=>grind
  |cons p r a =>
   grind[Ln]
 rcases key ps [] h with h|h
 .cases h
 grind
def xO{k:Int}{l:List cu}:∀(ps a:List Bs),a.Nodup->(ps.foldl (iF k l) a).Nodup
 |[],a,h=>h
 |p::ps,a,h=>by rw[lj];refine xO ps _ ?_;unfold iF;grind
def yg(k:Int)(t:List bz)(l:List cu):(dg k t l).Nodup:=xO _ _ List.nodup_nil
theorem ze{l:List bm}{x y:bm}:y∈gI l x↔y=x∨y∈l:=by
 induction l with
 |nil=>simp[gI]
 |cons a r b=>simp only[gI];split<;>simp[b,or_left_comm,or_assoc]
def MD{l:List bm}{x:bm}(h:l.Pairwise λa b=>a.1<b.1)(c:∀y∈l,y.1≠x.1):(gI l x).Pairwise λa b=>a.1<b.1:=by
 induction l with
 |nil=>simp[gI]
 |cons a r e =>
  obtain⟨g,d⟩:=ji.1 h;have f:=c a mU;simp only[gI];grind[List.pairwise_cons,ze]
def QU:∀(l a:List bm),a.Pairwise (λx y=>x.1<y.1)->l.Pairwise (λx y=>x.1≠y.1)->(∀x∈l,∀y∈a,y.1≠x.1)->(l.foldl gI a).Pairwise λx y=>x.1<y.1
 |[],_,h,_,_=>h
 |x::l,a,h,b,c=>by obtain⟨d1,d2⟩:=ji.1 b;refine QU l _ (MD h (c x mU)) d2 λz e y d=>?_;grind[ze]
theorem G3(k:Int)(qs:List Bs):oY k qs=(qs.map (k9 k)).foldl gI []:=by unfold oY;rw[List.foldl_map];rfl
theorem G4{k:Int}{qs:List Bs}(hk:b6 k=ab)(d:∀q∈qs,bt q=ab)(h:qs.Nodup):(qs.map (k9 k)).Pairwise λx y=>x.1≠y.1:=by rw[List.pairwise_map];refine List.Pairwise.imp_of_mem (λ{a b} f g c e=>c ?_) h;exact Io hk (d a f) (d b g) e
theorem Dd{no k:Int}{qs:List Bs}(hk:b6 k=ab)(b:∀q∈qs,bt q=ab)(a:qs.Nodup)(c:qs.length<=4):zd no k qs=eZ no k qs:=by
 show(no,mI (qs.map (k9 k)))=(no,oY k qs)
 grind[K2,G4,G3]
theorem uJ{no k:Int}{qs:List Bs}(hk:b6 k=ab)(b:∀q∈qs,bt q=ab)(d:qs.Nodup)(g:1<=qs.length)(f:qs.length<=4):gk k (eZ no k qs)=decide (1<=no/\no<=99):=by
 have c:(oY k qs).length=qs.length:=qx k qs;rw[pZ,rB,aZ];constructor
 .exactλh=>h.no
 .intro h;refine⟨h,hk,by show 1<=(oY k qs).length/\_;rw[show(eZ no k qs).2=oY k qs from rfl];omega,λx e=>?_,?_⟩
  .obtain⟨p,a,rfl⟩:=OQ (show x∈oY k qs from e);have:=CP (b p a);simp[right,this]
  .show (oY k qs).Pairwise _;rw[G3];exact QU _ _ List.Pairwise.nil (G4 hk b d) (by simp)
def oI(k:Int):∀(f:Nat) (no:Int)(l:List Bs),l.length<=f->eQ k f no l=(bd ((l.length+3) / 4)).map λj:Nat=>eZ (no+j) k (uc l j)
 |0,no,l,h=>by
  have:l.length=0:=by omega
  simp[eQ,this]
 |f+1,no,l,h=>by
  simp only[eQ];by_cases a:0<l.length
  .rw[bl a,oI k f (no+1) (l.drop 4) (by grind)];have e:(l.length+3) / 4=((l.drop 4).length+3) / 4+1:=by grind
   rw[e,uY,p9,List.map_map];congr 1
   .simp[uc]
   .refine List.map_congr_left λj _=>?_;show eZ (no+1+(j:Nat)) k (((l.drop 4).drop (4*j)).take 4)=eZ (no+((j+1:Nat):Int)) k ((l.drop (4*(j+1))).take 4);grind[List.drop_drop]
  grind
def ME{l:List Bs}(c:∀q∈l,bt q=ab)(b:l.Nodup){j:Nat}(d:j<(l.length+3) / 4):(∀q∈uc l j,bt q=ab)/\(uc l j).Nodup/\1<=(uc l j).length/\(uc l j).length<=4 :=
 ⟨λq a=>c q (pR (fP a)),(b.sublist (List.drop_sublist _ _)).sublist (List.take_sublist _ _),by simp[uc];omega,by simp[uc];omega⟩
def MF{k:Int}{s:bo}{l:List Bs}(hk:b6 k=ab)(b:∀q∈l,bt q=ab)(a:l.Nodup){j:Nat}(c:j<(l.length+3) / 4):IC k s l j=(decide (1<=cv s+(j:Int)/\cv s+(j:Int)<=99)&&!(s.1.length+j==20)):=by obtain⟨c1,c2,c3,c4⟩:=ME b a c;unfold IC nU;grind[Dd,uJ]
def PD{k:Int}{s:bo}{l:List Bs}(hk:b6 k=ab)(b:∀q∈l,bt q=ab)(c:l.Nodup)(e:∀j,j<(l.length+3) / 4->IC k s l j=ab):j4 k s l ((l.length+3) / 4)=eQ k l.length (cv s) l:=by
 rw[oI k _ _ _ (bg _)];refine List.map_congr_left λj a=>?_;have a:=oe.1 a;obtain⟨c1,c2,c3,c4⟩:=ME b c a;have f:=e j a;have d:gk k (eZ (cv s+(j:Int)) k (uc l j))=ab:=by rw[uJ hk c1 c2 c3 c4];rw[MF hk b c a]at f;grind
 unfold nU;rw[Dd hk c1 c2 c4,bl d]
def rC.cv{k:Int}{s:bo}(h:rC k s):1<=cv s/\cv s<=100:=by
 unfold R1.cv;split
 .omega
 .rename_i a;have:=(h.pk _ (tS a (0,[]))).no;omega
def Fp(k:Int)(s:bo)(by_:Int)(t:List bz):mQ k s by_ t=kz k s by_ t:=by
 unfold mQ kz;by_cases h:eH k s=ab/\(by_=1∨by_=2)/\cz t=ab
 .rw[bl h,bl ⟨h.1,by omega,h.2.2⟩];have b:=pJ.1 h.1;have E:=b.cv;have z:s.2.2.length<=9:=by have:=b.log;simp only[k7,bS,aZ]at this;exact this.2
  have o:=b.len;have q:=(iE (k:=k) (l:=indexOf s.1) (eg h.2.2)).1;have r:=yg k t (indexOf s.1);have c:(nI k s t).length=((dg k t (indexOf s.1)).length+3) / 4:=by unfold nI;rw[oI _ _ _ _ (bg _)];simp
  have g:nI k s t=eQ k (dg k t (indexOf s.1)).length (cv s) (dg k t (indexOf s.1)):=rfl;unfold sU;simp only;generalize dg k t (indexOf s.1)=l at *;obtain⟨D,C,A,y⟩:=pM (IC k s l) ((l.length+3) / 4) 0;generalize ly (IC k s l) ((l.length+3) / 4) 0=m at *;have n:∀j,j<(l.length+3) / 4->IC k s l j=(decide (1<=cv s+(j:Int)/\cv s+(j:Int)<=99)&&!(s.1.length+j==20)):=λj d=>MF b.key q r d;by_cases i:m<(l.length+3) / 4
  .rw[bl i];have v:=y (by omega);rw[n m i]at v;have f:eU k s t=ab:=by simp only[eU,jA,aZ,c];simp only[pP,bM,pU,hI]at v;omega
   grind
  .rw[aY i];obtain rfl:m=(l.length+3) / 4:=by omega
   have a:∀j,j<(l.length+3) / 4->1<=cv s+(j:Int)/\cv s+(j:Int)<=99/\s.1.length+j≠20:=λj d=>by grind
   have w:s.1.length+(l.length+3) / 4<=20:=by refine Nat.le_of_not_lt λB=>?_;exact(a (20-s.1.length) (by omega)).2.2 (by omega)
   have x:cv s+(((l.length+3) / 4:Nat):Int)-1<=99:=by
    rcases mT ((l.length+3) / 4)with e|e
    .grind
    .have:=(a ((l.length+3) / 4-1) (by omega)).2.1;omega
   by_cases p:20<de s
   .rw[bl p];have f:eU k s t=ab:=by simp only[eU,jA,aZ];grind
    grind
   .rw[aY p];by_cases u:s.2.2.length=9
    .rw[bl u];have f:eU k s t=ab:=by simp only[eU,jA,aZ];grind
     grind
    .rw[aY u];have f:eU k s t=ae:=by simp only[eU,rI,bM,c];omega
     rw[f];simp only[eO,g,PD b.key q r λj d=>A j (ll _) d,og];rfl
 grind
theorem De{l:List cu}{x y:cu}(h:y∈gv l x):y=x∨y∈l:=by
 induction l with
 |nil=>simpa[gv]using h
 |cons a r b =>
  simp only[gv]at h;grind
def MG{l:List cu}{x:cu}(h:l.Pairwise λa b=>a.1<b.1):(gv l x).Pairwise λa b=>a.1<b.1:=by
 induction l with
 |nil=>simp[gv]
 |cons a r d =>
  obtain⟨g,c⟩:=ji.1 h;simp only[gv];split
  .rename_i e;refine ji.2 ⟨λy f=>?_,d c⟩;grind[De]
  grind[List.pairwise_cons]
def Df:∀(l a:List cu),(∀x∈l,eF x=ab)->(∀x∈a,eF x=ab)->a.Pairwise (λa b=>a.1<b.1)->(∀x∈l.foldl gv a,eF x=ab)/\(l.foldl gv a).Pairwise λa b=>a.1<b.1
 |[],a,_,e,c=>⟨e,c⟩
 |x::l,a,h,e,c=>Df l (gv a x) (λy d=>h y (qU _ d)) (λy d=>by grind[De]) (MG c)
theorem PE{l:List cu}(c:∀x∈l,eF x=ab)(d:l.Pairwise λa b=>a.1<b.1):rE l l.length=ab:=by
 refine dz.2 λi hi=>?_;rw[bS];refine⟨c _ (by grind),?_⟩;rcases mT i with e|e
 .simp[e]
 .rw[jA];grind[List.pairwise_iff_getElem]
def Fq(l:List bH):rE (indexOf l) (indexOf l).length=ab:=by
 unfold indexOf;split
 .rename_i h;obtain⟨b,a⟩:=Df (c6 l) [] (List.all_eq_true.1 h) (by simp) List.Pairwise.nil;grind[PE]
 .rfl
def Fs{l:List bH}(h:∀x∈l,x.2.length<=4):(c6 l).length<=4*l.length:=by
 induction l with
 |nil=>simp[c6]
 |cons f r c =>
  have a:=c λg d=>h g (qU _ d);have b:=h f mU;simp only[c6,u6,cA,lh,er]at a⊢;omega
def rC.de{k:Int}{s:bo}(h:rC k s)(a:sE s):1<=de s:=by have b:=ma s.2.2 a.h;unfold R1.de;split<;>omega
def rC.save{k:Int}{s:bo}(h:rC k s)(a:sE s):A8 k s:=by refine⟨h.key,?_,Fq _,h.log,h.de a⟩;have:=Fs λx b=>(h.pk x b).len.2;have:=h.len;omega
section
open Go.Proofs
variable {X:Cx ag}
def HW(l:List Int):Ev X 84 [cI.sl l,cI.sl l] [] (dB ab) []:=by
 refine Ev.bQ Tryz.func84 rfl λa=>?_;have b:=a.sl 0 rfl;refine aW [(10,ae)] rfl (by simp) ?_;refine AK.cC 0 (λi=>i<=l.length) (λi:Nat=>[(0,cI.sl l),(1,cI.sl l),(5,dI i)]) (λ_=>[]) (λi=>l.length-i) 0 rfl (by simp) rfl (by simp) rfl (by omega) ?_;intro i hi;by_cases h:i<l.length
 .refine bL [(14,ab),(25,ae)] rfl ?_ (AK.aQ (i+1) rfl ?_ ?_ ?_ ?_)
  .simp only[ay,bA,jz,j8,n6,aZ,aF,aD];and_intros<;>omega
  .simp
  .simp
  .grind
  .omega
 .refine bL [(14,ae)] rfl (by simp;omega) (AK.leaveD rfl rfl ?_);exact di rfl aw (AK.bx rfl)
abbrev VN:dv:=oX (aL cI) (aL cI) (λ_ _=>dB ab) λa b=>[b=a]
def Y4:eb X 84 VN:=.sC λa b h=>by have:b=a:=h;subst this;exact HW _
def Lf(l:List (Int×Int)):Ev X 29 [cH.sl l,cH.sl l] [] (dB ab) []:=by
 refine Ev.bQ Tryz.func29 rfl λa=>?_;have b:=a.sl 0 rfl;refine aW [(10,ae)] rfl (by simp) ?_;refine AK.cC 0 (λi=>i<=l.length) (λi:Nat=>[(0,cH.sl l),(1,cH.sl l),(5,dI i)]) (λ_=>[]) (λi=>l.length-i) 0 rfl (by simp) rfl (by simp) rfl (by omega) ?_;intro i hi;by_cases h:i<l.length
 .refine bL [(14,ab),(25,ae)] rfl ?_ (AK.aQ (i+1) rfl ?_ ?_ ?_ ?_)
  .simp[bA,h];omega
  .simp
  .simp
  .grind
  .omega
 .refine bL [(14,ae)] rfl (by simp;omega) (AK.leaveD rfl rfl ?_);exact di rfl aw (AK.bx rfl)
abbrev VO:dv:=oX (aL cH) (aL cH) (λ_ _=>dB ab) λa b=>[b=a]
def Y5:eb X 29 VO:=.sC λa b h=>by have:b=a:=h;subst this;exact Lf _
abbrev pB(p:bH):aP:=.cells 67 [.c (.int .i64 p.1),.c (.sl ae 2 p.2.length (dM.fn p.2))]
def HX(p:bH):Ev X 30 [HG p,HG p] [] (dB ab) []:=by
 refine Ev.bQ Tryz.func30 rfl λl=>?_;by_cases q:p.2.length<=9223372036854775807
 .refine aW [(10,ae),(18,ae)] rfl (by simp) ?_;refine AK.cC 2 (λi=>i<=p.2.length) (λi:Nat=>[(2,.e (.one (.ptr 0 0))),(3,.e (.one (.ptr 1 0))),(5,dI i)]) (λ_=>[pB p,pB p]) (λi=>p.2.length-i) 0 rfl (by simp) rfl (by simp) rfl (by omega) ?_;intro i hi;by_cases h:i<p.2.length
  .refine bL [(24,ab),(37,ae)] rfl ?_ (AK.aQ (i+1) rfl ?_ ?_ ?_ ?_)
   .simp[bA,h];omega
   .simp
   .simp
   .grind
   .omega
  .refine bL [(24,ae)] rfl (by simp;omega) (AK.leaveD rfl rfl ?_);exact di rfl aw (AK.bx rfl)
 .exfalso;obtain⟨s,vs,g,_⟩:=l;obtain⟨n,k⟩:∃v,dn [] s v (HG p):=by
   match vs,g with
   |[a,_],g=>exact⟨a,g.1⟩
  obtain⟨m,_,d⟩:=k
  match m,d with
  |[a,c],d =>
   have:=d.2.1;cases(show Rd s.M c (.sl ae 2 p.2.length (dM.fn p.2))from this)with
   |sl b off f j o=>omega
abbrev VP:dv:=oX (Ey dM) (Ey dM) (λ_ _=>dB ab) λa b=>[b=a]
def Y6:eb X 30 VP:=.sC λa b h=>by have:b=a:=h;subst this;exact HX _
abbrev sB(p:gG):aP:=.cells 71 [.c (.int .i64 p.1),.c (.sl ae 2 p.2.length (cL.fn p.2))]
def HY(x:gG)(c:x.2.length<=4000000):Ev X 31 [M8 x,M8 x] [] (dB ab) []:=by
 refine Ev.bQ Tryz.func31 rfl λb=>?_;have a:bF X [(84,VN)]:=.cons Y4 .nil;refine aV a [(10,ae),(18,ae)] rfl (by simp) ?_;refine AK.cC 2 (λi=>i<=x.2.length) (λi:Nat=>[(2,.e (.one (.ptr 0 0))),(3,.e (.one (.ptr 1 0))),(5,dI i)]) (λ_=>[sB x,sB x]) (λi=>x.2.length-i) 0 rfl (by simp) rfl (by simp) rfl (by omega) ?_;intro i hi;by_cases h:i<x.2.length
 .refine bh a [(24,ab),(39,ae),(53,ab)] rfl ?_ (AK.aQ (i+1) rfl ?_ ?_ ?_ ?_)
  .simp only[ay,bA,jz,j8,n6,aZ,aF,aD];and_intros<;>first|exact cI.aM _|omega
  .simp
  .simp
  .grind
  .omega
 .refine bh a [(24,ae)] rfl (by simp;omega) (AK.leaveD rfl rfl ?_);exact cm a rfl aw (AK.bx rfl)
abbrev VQ:dv:=oX (Ey cL) (Ey cL) (λ_ _=>dB ab) λa b=>[b=a,b.2.length<=4000000]
def Y7:eb X 31 VQ:=.sC λa b h=>by obtain⟨rfl,c⟩:b=a/\_:=h;exact HY _ c
abbrev OM(s:bo):aP:=.cells 27 [.c (.sl ae 2 s.1.length (cP.fn s.1)),.c (.sl ae 2 s.2.1.length (fL.fn s.2.1)),.c (.sl ae 2 s.2.2.length (cH.fn s.2.2))]
def EP(s:bo)(b:l8 s):Ev X 8 [qN s,qN s] [] (dB ab) []:=by
 refine Ev.bQ Tryz.func8 rfl λg=>?_;have a:bF X [(29,VO),(30,VP),(31,VQ)]:=.cons Y5 (.cons Y6 (.cons Y7 .nil));have f:=b.p;have d:=b.sn;refine bh a [(13,ae),(21,ae),(28,ab)] rfl ?_ ?_
 .simp only[ay,bA,jz,j8,n6,aZ,aF,aD];and_intros<;>first|exact cH.aM _|omega
 refine AK.cC 2 (λi=>i<=s.1.length) (λi:Nat=>[(2,.e (.one (.ptr 0 0))),(3,.e (.one (.ptr 1 0))),(5,dI i)]) (λ_=>[OM s,OM s]) (λi=>s.1.length-i) 0 rfl (by simp) rfl (by simp) rfl (by omega) ?_;intro i hi;by_cases h:i<s.1.length
 .refine bh a [(35,ab),(48,ab)] rfl ?_ (AK.aQ (i+1) rfl ?_ ?_ ?_ ?_)
  .simp only[ay,bA,aZ,aF,aD];and_intros<;>first|exact dM.aM _|omega
  .simp
  .simp
  .grind
  .omega
 refine bh a [(35,ae)] rfl (by simp;omega) (AK.leaveD rfl rfl ?_);refine cm a rfl aw ?_;refine AK.cC 2 (λi=>i<=s.2.1.length) (λi:Nat=>[(2,.e (.one (.ptr 0 0))),(3,.e (.one (.ptr 1 0))),(6,dI i)]) (λ_=>[OM s,OM s]) (λi=>s.2.1.length-i) 0 rfl (by simp) rfl (by simp) rfl (by omega) ?_;intro i hi;by_cases h:i<s.2.1.length
 .have j:=(b.s2 _ (ff h (0,[]))).1;have c:s.2.1.getD (i:Int).toNat fL.b7=s.2.1.getD i (0,[]):=by grind
  refine bh a [(54,ab),(67,ab)] rfl ?_ (AK.aQ (i+1) rfl ?_ ?_ ?_ ?_)
  .simp only[ay,bA,c,cL.list_fn,aZ,aF,aD];and_intros<;>first|exact cL.aM _|omega
  .simp
  .simp
  .grind
  .omega
 refine bh a [(54,ae)] rfl (by simp;omega) (AK.leaveD rfl rfl ?_);exact cm a rfl aw (AK.bx rfl)
end
section
open Go.Proofs
structure TA(q:bo×Int×List bz):Prop where
 sz:l8 q.1
 sm:OZ q.1
 nu:sE q.1
 by':1<=q.2.1/\q.2.1<=3
abbrev WI:={q:bo×Int×List bz // TA q}
abbrev dDr(q:bo×Int×List bz):D:=.fa [.one (.c (.int .i64 7)),.agg [.c (HT q.1.1),.c (EL q.1.2.1),.c (Co q.1.2.2)],.one (.c (.int .i64 q.2.1)),.one (.c (.sl ae 2 q.2.2.length (cF.fn q.2.2)))]
def QV(m:Nat)(b:Nat->Int):Prop:=dZ (ι:=WI) (Cx.beside ag) 5 [.e (.one (.c (.sl ae 1 m (ET b))))] [] (λq=>dDr q.1) (λ_=>[])
def Dg{k:Int}{s:bo}{by_:Int}{t:List bz}(c:eH k s=ab)(a:1<=by_/\by_<=2)(b:cz t=ab):kz k s by_ t=(if eU k s t=ab then s else eO k s by_ t,!eU k s t):=bl ⟨c,a,b⟩
def IE(k:Int)(s:bo)(t:List bz):(nI k s t).length=((dg k t (indexOf s.1)).length+3) / 4:=by unfold nI;rw[oI _ _ _ _ (bg _)];simp
def PF(x:gG):Prop:=x.2.length<=6/\∀y∈x.2,y.2.length<=4000000
theorem PF.of{no k:Int}{t:List bz}(a:cz t=ab):PF (fA no k t):=by have c:=me a;refine⟨by simpa[fA]using c,λy b=>?_⟩;simp only[fA,kB]at b;obtain⟨f,d,rfl⟩:=b;have:=((eg a).sZ f d).2;have:=ku f.2;simp only[oN,lh];omega
def Dh{k:Int}{s:bo}{by_:Int}{t:List bz}(d:l8 s):l8 (kz k s by_ t).1:=by
 unfold kz;split
 .rename_i h;have f:=pJ.1 h.1;show l8 (if eU k s t=ab then s else eO k s by_ t);split
  .exact d
  .rename_i g;have g:eU k s t=ae:=by grind
   simp only[eU,rI,bM]at g;have c:PF (fA (de s) k t):=PF.of h.2.2;have j:=(iE (k:=k) (l:=indexOf s.1) (eg h.2.2)).1;have i:=GM 1 f.sa λx b=>(f.sn x b).1;have e:=f.log;simp only[k7,bS,aZ]at e;refine⟨by simp only[eO,cA];omega,λp a=>?_,by simp only[eO,cA,jg];omega,λx b=>?_,by simp only[eO,cA,jg];omega⟩
   .simp only[eO]at a;rcases gb.1 a with a|a
    .exact d.p2 p a
    .obtain⟨m,qs,_,_,_,n,_,rfl⟩:=tR k _ _ _ j p a;have:(oY k qs).length=qs.length:=qx k qs;show(oY k qs).length<=_;omega
   .simp only[eO]at b;rcases gb.1 b with b|b
    .exact d.s2 x b
    .rw[ga]at b;subst b;exact⟨by have:=c.1;omega,c.2⟩
 .exact⟨by simp,by simp,by simp,by simp[oA],by simp⟩
def xP(y z:aj×ah)(m:Nat)(b:Nat->Int)(K:m<=1048576->QV m b):Ev (Cx.beside ag) 3 [.e (.one (.c (.sl ae 1 m (ET b))))] (Tz y z) (dB ab) (Tz y z):=by
 refine Ev.bQ Tryz.func3 rfl λT=>?_;by_cases U:1048576<m
 .refine aW [(15,ab)] rfl (by simp only[ay,aZ,aD];omega) (AK.cY [0,1,2] rfl ?_ rfl rfl rfl mR);simp
 refine aW [(15,ae)] rfl (by simp only[ay,bM,aD];omega) ?_;refine AK.cP (K (by omega)) [] rfl (λ_=>rfl) ?_;rintro⟨⟨s,by_,t⟩,a,u,d,w⟩;simp only at a u d w;have n:eH 7 s=ab->A8 7 s:=λh=>(pJ.1 h).save d;have J:=yf (X:=Cx.beside ag) 7 s by_ t a d n;have E:=ye y z 7 s by_ t a u d (by simp only[bA];omega) n;rw[Fp]at E;refine bu rfl aw ?_;refine AK.cQ J [] rfl ?_;refine bu rfl aw ?_;refine AK.cQ E [0,1,2] rfl ?_;have F:=Dh (k:=7) (by_:=by_) (t:=t) a;have v:=EP (X:=Cx.beside ag) (kz 7 s by_ t).1 F;have f:=Dg (k:=7) (s:=s) (by_:=by_) (t:=t);generalize kz 7 s by_ t=q at *;obtain⟨x,ok⟩:=q;simp only at F v;have g:bF (Cx.beside ag) [(8,xc [qN x,qN x] (dB ab)),(9,tQ),(10,T1)]:=.cons (Ao v) (.cons yZ (.cons t10 .nil));by_cases j:eH 7 s=ab/\cz t=ab/\by_<=2
 .obtain⟨r,o,L⟩:=j;have f:=f r ⟨w.1,L⟩ o;obtain⟨M,D,H,O,P⟩:=n r;have B:=IE 7 s t;refine bh g [(42,ae),(48,ae),(54,ae),(59,ae),(62,ae)] rfl ?_ ?_
  .simp only[ay,cP.list_fn,fL.list_fn,cH.list_fn,cF.list_fn,r,o];and_intros<;>first|rfl|exact True.intro|exact cP.aM _|exact fL.aM _|exact cH.aM _|exact cF.aM _|exact a.s2|exact a.p|exact a.sn|grind|simp
  refine AK.cQ (uI s.1 a.p D) [] rfl ?_;refine di rfl aw ?_;refine AK.cQ (uF y z 7 t (indexOf s.1) M o H (im (mL D) (by decide))) [0,1] rfl ?_;have N:=a.p;have I:=(iE (k:=7) (l:=indexOf s.1) (eg o)).2;generalize(dg 7 t (indexOf s.1))=l at *;have S:(((l.length:Nat):Int)+4-1) / 4=(((l.length+3) / 4:Nat):Int):=by omega
  cases i:eU 7 s t with
  |true =>
   rw[i]at f;obtain⟨rfl,rfl⟩:x=s/\ok=ae:=by grind
   by_cases R:20<x.1.length+(l.length+3) / 4
   .refine bh g [(89,ab),(94,ab),(97,ab)] rfl ?_ (AK.cY [0,1,2] rfl ?_ rfl rfl rfl mR)
    .simp only[ay,bA];and_intros<;>first|rfl|exact True.intro|omega|grind
    .simp
   by_cases Q:x.2.2.length=9
   .refine bh g [(89,ae),(94,ab),(97,ab)] rfl ?_ (AK.cY [0,1,2] rfl ?_ rfl rfl rfl mR)
    .simp only[ay,bA];and_intros<;>first|rfl|exact True.intro|omega|grind
    .simp
   refine bh g [(89,ae),(94,ae),(103,ae)] rfl ?_ (AK.cY [0,1,2] rfl ?_ rfl rfl rfl mR)
   .simp only[ay,bA];and_intros<;>first|rfl|exact True.intro|omega|grind
   .simp
  |false =>
   rw[i]at f;obtain⟨rfl,rfl⟩:x=eO 7 s by_ t/\ok=ab:=by grind
   simp only[eU,rI,bM,B]at i;refine bh g [(89,ae),(94,ae),(103,ab)] rfl ?_ (AK.cY [0,1,2] rfl ?_ rfl rfl rfl mR)
   .simp only[ay,bA];and_intros<;>first|rfl|exact True.intro|omega|grind
   .simp
 .by_cases r:eH 7 s=ab
  .by_cases o:cz t=ab
   .refine bh g [(42,ae),(48,ae),(54,ae),(59,ae),(62,ab),(66,ab)] rfl ?_ (AK.cY [0,1,2] rfl ?_ rfl rfl rfl mR)
    .have G:2<by_:=by grind
     simp only[ay,cP.list_fn,fL.list_fn,cH.list_fn,cF.list_fn,r,o];and_intros<;>first|rfl|exact True.intro|exact cP.aM _|exact fL.aM _|exact cH.aM _|exact cF.aM _|exact a.s2|exact a.p|exact a.sn|grind|simp
    .simp
   .have C:cz t=ae:=by grind
    refine bh g [(42,ae),(48,ae),(54,ae),(59,ab),(62,ab),(66,ab)] rfl ?_ (AK.cY [0,1,2] rfl ?_ rfl rfl rfl mR)
    .simp only[ay,cP.list_fn,fL.list_fn,cH.list_fn,cF.list_fn,r,C];and_intros<;>first|rfl|exact True.intro|exact cP.aM _|exact fL.aM _|exact cH.aM _|exact cF.aM _|exact a.s2|exact a.p|exact a.sn|simp
    .simp
  .have A:eH 7 s=ae:=by grind
   refine bh g [(42,ae),(48,ae),(54,ab),(59,ab),(62,ab),(66,ab)] rfl ?_ (AK.cY [0,1,2] rfl ?_ rfl rfl rfl mR)
   .simp only[ay,cP.list_fn,fL.list_fn,cH.list_fn,cF.list_fn,A];and_intros<;>first|rfl|exact True.intro|exact cP.aM _|exact fL.aM _|exact cH.aM _|exact cF.aM _|exact a.s2|exact a.p|exact a.sn|simp
   .simp
end
end Go.AM.R1
namespace Go.AM
section
open Go.Conc (G)
def aE.By{σ1:List aP}{s:St}{E:aj}{k n:Nat}{bf:m9}{xs:List ah}{es:Nat->List C}(hh:aE (σ1++[.cf (fV E k bf n xs)]) s)(d:gn k n es xs)(l:rZ σ1.length σ1=ab):
  ∃s2:St,aE σ1 s2/\eu s s2/\Rd s2.M (la bf n) (.sl ae k n es)/\∀{σ0:List aP} {s0:St},cU σ0 s0 (σ1++[.cf (fV E k bf n xs)]) s->σ0.length<=σ1.length->cU σ0 s0 σ1 s2:=by
 have hB:(σ1++[aP.cf (fV E k bf n xs)])[σ1.length]?=aa (.cf (fV E k bf n xs)):=by simp
 obtain⟨L,M',t,r,p,m,B,u⟩:=fV.Bq hB es (λi hi=>⟨d.wid i hi,λM j c x hj hx=>by
  obtain⟨y,A,z⟩:=d.at' i hi j c hj
  grind⟩) s hh
 obtain⟨q,q2⟩:=hh.gB (M':=M') (w':=s.w) (B':=.dead) (L':=⟨L.v,[]⟩) hB t rfl (bg _) (λ_ _ _=>rfl) (λb _ a o=>p b a o) r m (by simp) rfl rfl rfl aw;have e:(σ1++[aP.cf (fV E k bf n xs)]).set σ1.length .dead=σ1++[.dead]:=by simp
 rw[e]at q q2;refine⟨_,q.drop (rest:=[.dead]) l,⟨rfl,r,λb a o=>p b (a L (bJ t)) o,m,λb a=>?_⟩,u,λ{σ0 s0} h g=>(h.trans (q2.na hh)).drop (rest:=[.dead]) g⟩;rcases a with a|⟨L',f,a⟩
 .exact .inl a
 .have h1:=fP f;grind
def dZ.By{P:aq}{ι:Type}{X:Cx P}{f:aH}{args:List D}{σ:List aP}{σ1:ι->List aP}{E k:Nat}{n:ι->Nat}{bf:ι->m9}{xs:ι->List ah}{es:ι->Nat->List C}(h:dZ X f args σ (λi=>.e (.one (.v (la (bf i) (n i))))) (λi=>σ1 i++[.cf (fV E k (bf i) (n i) (xs i))]))(d:∀i,gn k (n i) (es i) (xs i))(b:∀i,rZ (σ1 i).length (σ1 i)=ab)(a:∀i,σ.length<=(σ1 i).length):dZ X f args σ (λi=>.e (.one (.c (.sl ae k (n i) (es i))))) σ1:=by refine⟨h.1,λs vs hr hh S cs hS=>h.2 s vs hr hh S cs λi fr v s' hl mh iX st=>?_⟩;obtain⟨s2,c1,c2,c3,c4⟩:=iX.By (d i) (b i);have g:v=la (bf i) (n i):=Rd.dY mh;exact .ghost c2 (hS i fr v s2 (hl.mono c2.mem) (by rw[g];exact c3) c1 (c4 st (a i)))
end
end Go.AM
namespace Go.AM.R1
section
open Go.Proofs
variable {X:Cx ag}[X.gZ]
def MR(m:Nat)(b:Nat->Int)(c:Bytes b)(k:Nat)(hk:k<=50000)(a:m<=1048576):
  dZ (ι:=CY k 400) X 22 [.e (.one (.ptr 0 0))] [k6 m b k] (λq=>cF.sl q.t) (λq=>[k6 m b q.k1]) :=
 dZ.By (σ1:=λq:CY k 400=>[k6 m b q.k1]) (k:=2) (n:=λq:CY k 400=>q.t.length) (es:=λq:CY k 400=>cF.fn q.t) (Gz m b c k hk a) (λq=>q.fl) (λ_=>rfl) (λ_=>bg _)
end
section
open Go.Proofs
def WL(m:Nat)(b:Nat->Int)(d:Bytes b)(f:m<=1048576):QV m b:=by
 refine dZ.Jf Tryz.func5 rfl rfl (cZ rfl) (AK.of_code ?_);refine bu rfl aw ?_;refine AK.cP (O4 m b f) [] rfl (λ_=>rfl) ?_;rintro⟨c,hm'⟩;refine bu rfl aw ?_;refine AK.cP (Dk c b d 0 (by omega) hm') [1] rfl (λ_=>rfl) ?_;rintro⟨⟨s,k⟩,a,_,hk⟩;simp only at a hk;refine bu rfl aw ?_;refine AK.cP (gy c b d k 2 (by omega) hm' (by omega)) [1] rfl (λ_=>rfl) ?_;rintro⟨u,g,i⟩;refine bu rfl (by simp only[ay,bA];omega) ?_;refine AK.cP (gy c b d (k+1) 24 (by omega) hm' (by omega)) [1] rfl (λ_=>rfl) ?_;rintro⟨w,w0,w1⟩;refine bu rfl (by simp only[ay,bA];omega) ?_;refine AK.cP (MR c b d (k+1+1) (by omega) hm') [1] rfl (λ_=>rfl) ?_;intro q;refine bu rfl aw ?_;refine AK.freeze 3 0 rfl rfl rfl ?_;have e:1<=1+u+w / 23/\1+u+w / 23<=3:=by omega
 refine AK.iK (λ_ _ _ h=>⟨⟨(s,1+u+w / 23,q.t),a.size,a.smT,a.num,e⟩,h⟩) ?_;refine AK.Bx tok [] rfl ?_ rfl rfl rfl sD;simp
def Lm(a d:aj×ah)(m:Nat)(b:Nat->Int)(g:Bytes b)(_:m<=9223372036854775807):Ev (Cx.beside ag) 3 [.e (.one (.c (.sl ae 1 m (ET b))))] (Tz a d) (dB ab) (Tz a d):=xP a d m b λf=>WL m b g f
end
end Go.AM.R1
namespace Go.AM
section
open Go.RowKit
open Go.Conc (G solo crowd AtRel Past EvL Leavers)
def St.top(w:az):St:={β:=[],M:=λb o=>w.cell? ⟨b,o,af⟩,w:=w,own:=λb=>b<w.heap.size}
def aE.top(w:az):aE [] (St.top w):=⟨λ_ _ _ h=>h,rfl,by simp,by simp[St.top],by simp[St.top],λb a=>⟨a,by simp[St.top]⟩⟩
def R0{P:aq}{f:aH}{a:aR}{v:ah}{s:St}(h:uK P f a v s)(hi:P.inits.idxOf? f=af)(w:az)(j:∀b o u,s.M b o=aa u->w.cell? ⟨b,o,af⟩=aa u):∃es,aG P ab (G a []) w=.ended (.done v) w es/\∀e∈es,∃b o u,e=⟨.cell ⟨b,o,af⟩,ae,ae⟩/\s.M b o=aa u:=by
 obtain⟨fn,l,c⟩:=h.fn;obtain⟨k,g⟩:=c w j;refine⟨seen P a.fn ((results fn a.tmps).events P w #[]),?_,λe i=>g e (Go.Conc.mem_seen i)⟩;have d:P.inits.idxOf? a.fn=af:=by rw[h.isF];exact hi
 simp[G,aG,unwind,doReturn,h.mode,h.defers,h.kind,l,k,d,GStep.after]
end
section
open Go.ChangeShapes Go.WideShapes Go.ChangeAt Go.RowKit
def AE{H:Type}{enc:aj×ah->H}{a:Assume}{C:Checked}{os:Os}{f:aH}{fn:Func}{s:ChangeSpec}{h:List PathCond}{apart fresh handsOn again:Bool}{X:az->Array ah->Prop}(A:∀(w w':az) (args:Array ah),w.heap=w'.heap->X w args->X w' args)(own:ownKnob C.prog.godebug=af)(d:os.Started)(x:C.prog.funcs[f]?=aa fn)(g:∃(w:az) (b:Tape) (i:Input),w.os=os/\(w.forCall b i).Shaped C.prog/\i.vars=[]/\Input.okWide C.prog (w.forCall b i) .any w.heap.size f i /\
   ((s.pre enc C.prog fn h apart (w.forCall b i).memory i.args/\X (w.forCall b i).memory i.args)/\sizedMet enc C.prog fn (OpenSpec.ofChange s) apart (w.forCall b i).memory i.args)/\a.holds C.prog (lone (Frame.enter C.prog f i.args .normal) [] (w.forCall b i)))(n:∀(W:az) (base:Nat) (args:Array ah) (ds gs:List (DataW H)) (c:List MemPlace),
   (∀(j:Nat) t v,fn.params[j]?=aa t->args[j]?=aa v->Value.okWide C.prog W .any base t v) ->
   DataW.Whole enc C.prog fn.params.toList s.vars apart W args.toList ds gs c->W.ShapedOpen C.prog->X W args ->
   ∃M last o w' t',runNT C.prog (M+1) (Conc.solo (Conc.G (Frame.enter C.prog f args .normal) []) W) #[]=(.ended o w',t')/\runN C.prog M (Conc.solo (Conc.G (Frame.enter C.prog f args .normal) []) W)=.next last /\
    step C.prog last=.ended o w'/\Conc.Good C.prog (λv E=>s.post enc C.prog fn apart fresh handsOn again W args v E) last o w' t'):
  ReturnsInLeavingWide a C os f .any (λw args=>(s.pre enc C.prog fn h apart w args/\X w args)/\sizedMet enc C.prog fn (OpenSpec.ofChange s) apart w args) (s.post enc C.prog fn apart fresh handsOn again):=by refine returnsInLeavingWide_of_good own d g ?_;intro w b i _ u _ y m p;obtain⟨_,_,_,q,k,_,_,_,_,l⟩:=y;have e:q=fn:=rM (k.symm.trans x);subst e;obtain⟨⟨⟨ds,gs,c,F,L⟩,K⟩,N⟩:=m;have r:=DataW.Whole.of_heap (w':=w.forCall b i) (by rfl) F;obtain⟨M,last,o,w',t',B,I,z,J⟩:=n (w.forCall b i) w.heap.size i.args ds gs c l r u (A (w.forCall b i).memory (w.forCall b i) i.args rfl K);exact⟨M,last,o,w',t',B,I,z,J.mono λv D=>ChangeSpec.post_blind D⟩
def H5(l:Looks){p:Pinned}{s:OpenSpec}{c:OpenClaim}(m:List (List PathCond))(kinds:List LaidKind)(a:Bool)(b:Bool×String)(d:Bool)(w:c.holds p s)(n:∀D∈m,(c.withDomain D).holds p s)(z:c.wfByText s=ab)(k:∀D∈m,(c.withDomain D).wfByText s=ab)(i:c.laidByTextAt l p kinds a)(e:c.start=.entering)(g:c.noBlocks=ae/\c.again=ae)(u:p.checked.prog.mainIs=aa (b.1,b.2.toList))(x:(!b.1&&b.2.isEmpty&&!d)=ae)(v:∀f fn,p.checked.prog.funcNamed c.func=aa f->p.checked.prog.funcs[f]?=aa fn->d=p.checked.prog.looks []/\∀(j:Nat) t,fn.params[j]?=aa t->p.checked.prog.wantsStandIn t=ae)(y:ab=c.goesBy p.checked.prog):
  Claim7.holds p (.plain s) {stood:={row:=c,standIns:=[],harness:=b,looks:=d},kinds:=[],alts:=m,goes:=ab,laidByText:=ab,laidKinds:=kinds,laidTests:=a,laidLooks:=l}:=by
 have q:∀r:OpenClaim,Claim7.isSixth {stood:={row:=r,standIns:=[],harness:=b,looks:=d},kinds:=[]}=ae:=λr=>by simpa[Claim7.isSixth]using x
 refine⟨Claim7.tied_new_at l kinds a (Claim7.new_of_sixth w b d e g u (q c) v) z,λD o=>?_,i,(λh=>by cases h),y⟩;exact Claim7.tied_new_at l kinds a (Claim7.new_of_sixth (n D o) b d e g u (q _) v) (k D o)
end
section
open Go.RowKit
open Go.Conc (G solo crowd AtRel Past EvL Leavers)
abbrev Gl:=Nat×aj×ah
abbrev Od(gs:List Gl):List aP:=gs.map λx=>.cf (dJ x.1 x.2.1 x.2.2)
def St.uP(gs:List Gl)(w:az):St:={β:=gs.map λx=>⟨.pointer (aa ⟨x.1,0,af⟩),[x.1]⟩,M:=λb o=>if b∈gs.map (·.1)then af else w.cell? ⟨b,o,af⟩,w:=w,own:=λb=>b<w.heap.size/\b∉gs.map (·.1)}
def aE.uP{gs:List Gl}{w:az}(p:(gs.map (·.1)).Nodup)(m:∀x∈gs,w.heap[x.1]?=aa (.cells #[x.2.2] x.2.1 (0,0))):aE (Od gs) (St.uP gs w):=by
 have k:∀x∈gs,x.1<w.heap.size:=λx j=>(ig.1 (m x j)).1;have d:∀(l:Nat) (L:Loc),(St.uP gs w).β[l]?=aa L->∃x,gs[l]?=aa x/\L=⟨.pointer (aa ⟨x.1,0,af⟩),[x.1]⟩:=λl L h=>by simp only[St.uP,mV,qT]at h;grind
 refine⟨λb o v g=>?_,by simp[St.uP],λl B L hB hl=>?_,λl l' L L' h1 h2 b a c=>?_,λL h b a=>?_,λb a=>⟨a.1,λL h f=>?_⟩⟩
 .simp only[St.uP]at g;split at g
  .cases g
  .exact g
 .obtain⟨x,h1,rfl⟩:=d l L hl;simp only[Od,mV,h1,n8,dr]at hB;subst hB;have j:=bJ h1;refine⟨λb=>if b=x.1 then aa (.cells #[x.2.2] x.2.1 (0,0))else af,⟨rfl,bl rfl,λb a=>aY a⟩,λb o a=>?_,λb=>?_,λb a o=>?_⟩
  .simp only at a;split at a
   .rename_i e;cases a;rw[e];exact m x j
   grind
  .by_cases e:b=x.1<;>simp[e]
  .rw[ga]at a;subst a;exact bl (kB.2 ⟨x,j,rfl⟩)
 .obtain⟨x,i,rfl⟩:=d l L h1;obtain⟨y,n,rfl⟩:=d l' L' h2;rw[ga]at a c;have e:x.1=y.1:=a.symm.trans c;have a1:(gs.map (·.1))[l]?=aa x.1:=by grind
  have a2:(gs.map (·.1))[l']?=aa x.1:=by grind
  grind[List.getElem?_inj]
 .obtain⟨l,hl⟩:=zn h;obtain⟨x,i,rfl⟩:=d l L hl;rw[ga]at a;subst a;exact k x (bJ i)
 .obtain⟨l,hl⟩:=zn h;obtain⟨x,i,rfl⟩:=d l L hl;rw[ga]at f;subst f;exact a.2 (kB.2 ⟨x,bJ i,rfl⟩)
def aE.YE{gs:List Gl}{s:St}(h:aE (Od gs) s){x:Gl}(b:x∈gs):s.w.heap[x.1]?=aa (.cells #[x.2.2] x.2.1 (0,0)):=by
 obtain⟨l,hl⟩:=zn b;have hB:(Od gs)[l]?=aa (.cf (dJ x.1 x.2.1 x.2.2)):=by grind
 have a:l<s.β.length:=by rw[h.len];grind
 obtain⟨ch,⟨_,h2,_⟩,c,_⟩:=h.box l _ _ hB (br a);grind
def dZ.Va{P:aq}{ι:Type}{f:aH}{args:List D}{res:ι->D}{gs:List Gl}(h:dZ (Cx.beside P) f args (Od gs) res (λ_=>Od gs))(hi:P.inits.idxOf? f=af){w:az}(A:(gs.map (·.1)).Nodup)(t:∀x∈gs,w.heap[x.1]?=aa (.cells #[x.2.2] x.2.1 (0,0))){vs:List ah}(O:ck (Od gs) (St.uP gs w) vs args){Post:ah->az->Prop}(R:∀i v s',dn (Od gs) s' v (res i)->Below w.heap.size w s'.w->∀d,Post v (s'.w.at d)):
  ∃M last o w' t',runNT P (M+1) (solo (G (Frame.enter P f vs.toArray .normal) []) w) #[]=(.ended o w',t')/\runN P M (solo (G (Frame.enter P f vs.toArray .normal) []) w)=.next last /\
   step P last=.ended o w'/\Go.Conc.Good P Post last o w' t':=by
 have m:=aE.uP A t;have key:=h.2 (St.uP gs w) vs O m (λg s'=>∃i v fr,g=G fr []/\uK P f fr v s'/\dn (Od gs) s' v (res i)/\Below w.heap.size w s'.w) []
  (λi fr v s' h1 h2 h3 h4=>.stop ⟨i,v,fr,rfl,h1,h2,⟨h4.os,h4.tape,h4.output,h4.size,λk hk=>by
   by_cases e:k∈gs.map (·.1)
   .obtain⟨x,y,rfl⟩:=kB.1 e;rw[h3.YE y,t x y]
   .exact h4.fi k ⟨hk,e⟩⟩⟩)
 have L:AM.lV (λ_=>False)=λ_=>False:=by funext l;cases l<;>rfl
 obtain⟨N,q,r,g',s',c,t',W,h1,h2,h3,h4,T,S,U,⟨i,v,fr,rfl,k1,C,z⟩⟩:=key.beside (λ_=>False) #[G (Frame.enter P f vs.toArray .normal) []] af #[] (λ_=>0) m.mem rfl (Go.Conc.leavers_one P _)
  (by rw[L];exact Go.Conc.past_nil.mono (ll _)) ⟨λ_ h=>h.elim,λ_ h=>h.elim,λ_ h=>h.elim,λ_ h=>h.elim⟩ (λa=>by intro i hi;simp[Trace.act?]at hi)
 have j:=Go.Conc.beside_ends (P:=P) (Shun:=AM.lV q) (B:=s'.w.heap.size) (D:=λ_ _ _=>False) (Post:=Post) (λ_ _ _ h=>h.elim) (sl:=c) (n:=0) h3 h4 T (Go.Conc.Goes.stop λw1 Q5=>by
  obtain⟨d,rfl⟩:=Q5;obtain⟨es,e1,e2⟩:=R0 k1 hi (s'.w.at d) (λb o u s=>h2 b o u s);refine⟨rfl,v,es,e1,λe I=>?_,R i v s' C z d⟩;obtain⟨b,o,u,rfl,s⟩:=e2 e I;refine Go.Conc.evL_cell _ _ (λJ=>?_) (gM.lt h2 s);have:=S.M b J o
  grind)
 obtain⟨p,last,o,w',Q,K,V,E,F⟩:=j;refine⟨N+p,last,o,w',Q,?_,?_,E,F⟩
 .rw[show N+p+1=N+(p+1) by omega];exact(runNT_add N (p+1) h1).trans K
 .have e:=runNT_fst P N (crowd #[G (Frame.enter P f vs.toArray .normal) []] w af) #[];have H:(runNT P N (crowd #[G (Frame.enter P f vs.toArray .normal) []] w af) #[]).1=.next (crowd r s'.w c):=by have:runNT P N (crowd #[G (Frame.enter P f vs.toArray .normal) []] w af) #[]=_:=h1;grind
  grind[Go.Conc.solo_eq_crowd,runN_add]
def Rd.uP{gs:List Gl}{w:az}(q:∀x∈gs,w.heap[x.1]?=aa (.cells #[x.2.2] x.2.1 (0,0)))(hi:∀x∈gs,∃T u,x.2.2=.iface T u){v:ah}{t:Bool}{k n:Nat}{es:Nat->List C}(g:∀(i j:Nat)(c:C),(es i)[j]?=aa c->∃kd m,c=C.int kd m)(h:Rd (St.top w).M v (.sl t k n es)):Rd (St.uP gs w).M v (.sl ae k n es):=by
 obtain⟨a,cap,b,off,rfl,h1,h2,o,r,s⟩:=h.Ef;refine .RQ h1 h2 o r λi f j c hj=>?_;obtain⟨u,d,q2⟩:=s i f j c hj;obtain⟨kd,m,rfl⟩:=g i j c hj;cases q2 with
 |int hr =>
  refine⟨_,?_,.int hr⟩;have d:w.cell? ⟨b,off+i*k+j,af⟩=aa (.int kd m):=d;show(if b∈gs.map (·.1)then af else w.cell? _)=_;rw[aY,d];intro p;obtain⟨x,l,rfl⟩:=kB.1 p;obtain⟨T,u,e⟩:=hi x l;simp only[aU,q x l,e]at d;grind
end
def sv{P:aq}{w:az}:∀{l:List (String×DataW Unit)}{ps:List MemPlace},DataW.LaidVars P w l ps->∀{n:String}{d:DataW Unit},(n,d)∈l ->
  ∃g t cs fuel p,P.globalNamed n=aa g/\(P.globals[g]?).map (·.type)=aa t/\w.var? P n=aa cs/\DataW.trod (λ_=>()) P w 0 (λ_=>ab) ae fuel t cs.toList=aa (d,p)
 |[],_,_,_,_,a=>by cases a
 |(m,j)::r,ps,h,n,d,a=>by
  obtain⟨g,t,cs,fuel,p,q,i,c,f,k,b,_⟩:=h;rcases eE.1 a with e|e
  .grind
  .exact sv b e
theorem wV{P:aq}{W:az}(a:W.ShapedOpen P){g:Nat}{zero:Array ah}{t:aj}(d:g<P.globals.size)(b:(((begin P (λ_ _=>0) default).world.heap[g]?).bind Obj.row?)=aa (zero,t)){n:String}(e:P.globalNamed n=aa g){cs:Array ah}(c:W.var? P n=aa cs):
  W.heap[g]?=aa (.cells cs t (0,0)):=by obtain⟨c2,f,_⟩:=a.1 g zero t d b;unfold World.var? at c;grind
def wW{P:aq}{W:az}{l:List (String×DataW Unit)}(h:laidMetH P l W)(a:W.ShapedOpen P){n k:String}{d:DataW Unit}(A:(n,.iface k d)∈l.filter λx=>x.2.handleName?.isNone){g t b:Nat}{s:Array (String×aj)}{zero:Array ah}(f:P.globalNamed n=aa g)(m:(P.globals[g]?).map (·.type)=aa t)(w:P.underlying t=aa (.interface s))(y:g<P.globals.size)(o:(((begin P (λ_ _=>0) default).world.heap[g]?).bind Obj.row?)=aa (zero,b)):∃e:aj×ah,W.heap[g]?=aa (.cells #[.iface e.1 e.2] b (0,0)):=by obtain⟨ps,r,_⟩:=(laidMetH_iff.1 h).1;obtain⟨B,C,cs,c,p,z,i,j,q⟩:=sv r A;cases f.symm.trans z;cases m.symm.trans i;obtain⟨_,u,v,e,_⟩:=iface_of_trod w q;have:=wV a y o f j;rw[Array.eq_one_of_toList e]at this;exact⟨(u,v),this⟩
def B7{P:aq}{W:az}{l:List (String×DataW Unit)}(h:laidMetH P l W)(o:W.ShapedOpen P){n:String}{d:DataW Unit}{s:List UInt8}(p:(n,d)∈l.filter λx=>x.2.handleName?.isSome)(m:d.funcsIn?=af)(f:d.handleName?=aa s){g b u ty:Nat}{zero:Array ah}(y:P.globalNamed n=aa g)(j:(P.cutTypes.find? (·.1== "internal/reflectlite.rtype")).map (·.2)=aa u)(A:((bd P.types.size).filter λt=>P.rowNamed t s)=[ty])(z:g<P.globals.size)(v:(((begin P (λ_ _=>0) default).world.heap[g]?).bind Obj.row?)=aa (zero,b)):W.heap[g]?=aa (.cells #[.iface u (.agg #[typeHandle P ty])] b (0,0)):=by have:=(laidMetH_iff.1 h).2 _ p;rw[m]at this;obtain⟨name,q,a,k,i,c,e,w⟩:=this;cases f.symm.trans k;cases j.symm.trans i;have r:a∈(bd P.types.size).filter λt=>P.rowNamed t s:=lg.2 ⟨oe.2 c,e⟩;grind[wV]
end Go.AM
