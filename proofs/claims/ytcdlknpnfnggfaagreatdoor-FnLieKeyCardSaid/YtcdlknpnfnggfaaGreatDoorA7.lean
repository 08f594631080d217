/-
  Part 7 of a machine of values without memory, proved sound over the model, and of contracts of the functions that the laws reach. Nothing is taken for granted: no condition.
-/
import Derived.Test.YtcdlknpnfnggfaaGreatDoorA6
import Derived.Sort.LotD5
import Derived.Sort.Walk13a
set_option linter.unusedVariables false
set_option linter.unusedSimpArgs false
set_option linter.defProp false
set_option linter.deprecated false
namespace Go.AM.R1
open Go.Proofs
open Go.Sort (swp reverseLoop reverseRange siftDown heapBuild heapPop heapSort ltInt)
variable {X:Cx Tryz.prog}
theorem Nl(n:Nat)(d:Array Int)(a b:Nat)(k:d.size=n)(m:1<=b)(q:a<=n)(o:b<=n)(p:n<=1000000):Ev X 90 [jI n,dI a,dI b] [bI n d] (.dH []) [bI n (reverseRange d a b)]:=by
 refine Ev.body Tryz.func90 rfl rfl rfl λl=>?_
 refine aA rfl (by simp[aa,aJ];omega) ?_
 refine AK.bA 1 (λs:Nat×Nat×Array Int=>s.2.2.size=n/\s.1<=n/\s.2.1<n+1/\s.2.1<n/\reverseLoop s.1 s.2.1 s.2.2=reverseRange d a b) (λs=>[(0,jI n),(6,dI s.1),(7,dI s.2.1)]) (λs=>[bI n s.2.2]) (λs=>s.2.1-s.1) (a,b-1,d) rfl ?_ rfl ?_ rfl ⟨k,by simp only;omega,by simp only;omega,by simp only;omega,rfl⟩ ?_
 ·simp[aa.cat,aa];omega
 ·simp[aa.cat,aa,au]
 rintro⟨i,j,d1⟩ ⟨f,hi,_,g,c⟩;simp only at f hi g c
 by_cases h:i<j
 ·refine aq [(13,true)] 200 rfl ?_ (AK.ay (i+1,j-1,swp d1 i j) rfl ?_ rfl rfl rfl ?_ rfl ?_ ?_)
  ·simp only[aa,aw,aF,aJ,av,af,ae];and_intros <;> omega
  ·simp only[aa.cat,aa,af,ae];and_intros <;> omega
  ·simp only[aa.cat,aa,aw,aF,ae,af];exact gb f (by omega) (by omega) (λ_ _=>rfl)
  ·refine⟨by rw[size_swp];exact f,by simp only;omega,by simp only;omega,by simp only;omega,?_⟩
   rw[<-c,reverseLoop.eq_1 i j d1,an h]
  ·simp only;omega
 ·have e:reverseRange d a b=d1:=by rw[<-c,reverseLoop,ak h]
  rw[e];refine aq [(13,false)] 100 rfl (by simp[aa];omega) (AK.leaveD rfl rfl ?_)
  exact cv.rY [0] rfl ab rfl rfl rfl gB
theorem zA(n:Nat)(d:Array Int){lo hi first:Nat}(h:d.size=n)(e:first+hi<=n)(g:lo<=n)(f:n<=1000000){x y z:Int}(b:x=lo)(c:y=hi)(a:z=first) :
  Ev X 138 [jI n,dI x,dI y,dI z] [bI n d] (.dH []) [bI n (siftDown ltInt hi first lo d)]:=by
 subst b c a;exact Kc n d lo hi first h e g f
theorem wB(hi first:Nat):∀ (m root:Nat)(d:Array Int),hi-root<=m->(siftDown ltInt hi first root d).size=d.size:=by
 intro m
 induction m with
 |zero=>intro root d h;rw[siftDown,dif_pos (by omega)]
 |succ m a =>
  intro root d h;rw[siftDown];split
  ·rfl
  split
  ·split
   ·rfl
   split
   ·rw[a _ _ (by omega),size_swp]
   ·rfl
  ·split
   ·rfl
   ·rw[a _ _ (by omega),size_swp]
set_option maxHeartbeats 1000000 in
theorem J9(n:Nat)(d:Array Int)(a b:Nat)(t:d.size=n)(r:a<=b)(p:1<=b-a)(q:b<=n)(o:n<=1000000):Ev X 87 [jI n,dI a,dI b] [bI n d] (.dH []) [bI n (heapSort ltInt d a b)]:=by
 refine Ev.body Tryz.func87 rfl rfl rfl λu=>?_
 obtain⟨l,rfl⟩:∃ l,b=a+l:=⟨b-a,by omega⟩
 rw[l7] at p;refine cE rfl (by simp only[aa,aJ,af,ae];and_intros <;> omega) ?_
 refine AK.jU (S2:=Array Int) 0 rfl rfl (λd2=>d2.size=n/\d2=heapBuild ltInt l a ((l-1) / 2+1) d) (λ_=>[(0,jI n),(6,dI a),(7,dI 0),(8,dI l)]) (λd2=>[bI n d2]) 1 (λs:Nat×Array Int=>s.2.size=n/\s.1<=(l-1) / 2+1/\heapBuild ltInt l a s.1 s.2=heapBuild ltInt l a ((l-1) / 2+1) d) (λs=>[(0,jI n),(6,dI a),(7,dI 0),(8,dI l),(9,dI ((s.1:Int)-1))]) (λs=>[bI n s.2]) (λs=>s.1) ((l-1) / 2+1,d) rfl ?_ rfl ?_ rfl ⟨t,ar _,rfl⟩ ?_ ?_
 ·simp[aa.cat,aa];omega
 ·simp[aa.cat,aa,au]
 ·rintro out ⟨k,d1⟩ ⟨e,h,c⟩;simp only at e h c;cases k with
  |zero =>
   refine aq [(19,false)] 100 rfl (by simp[aa]) (AK.leaveD rfl rfl ?_)
   exact out d1 ⟨e,c⟩ rfl (by simp[aa,aa.cat]) rfl (by simp[aa,aa.cat,au])
  |succ k =>
   refine aq [(19,true)] 100 rfl (by simp only[aa,av];omega) ?_
   refine AK.aC (zA n d1 (lo:=k) (hi:=l) (first:=a) e q (by omega) o (by omega) rfl rfl) [0] rfl rfl rfl rfl rfl rfl rfl rfl rfl rfl rfl ?_
   refine cE rfl ?_ (AK.ay (k,siftDown ltInt l a k d1) rfl ?_ rfl rfl rfl ?_ rfl ?_ ?_)
   ·simp only[aa,aJ];omega
   ·simp only[aa.cat,aa,af,ae];omega
   ·simp[aa.cat,aa,au]
   ·exact⟨by rw[wB _ _ _ _ _ (ar _)];exact e,by simp only;omega,c⟩
   ·simp
 rintro j ⟨g,i⟩;refine cE rfl (by simp only[aa,aJ];omega) ?_
 have f:heapSort ltInt d a (a+l)=heapPop ltInt a l j:=by
  unfold heapSort;rw[l7,<-i]
 rw[f];refine AK.bA 1 (λs:Nat×Array Int=>s.2.size=n/\s.1<=l/\heapPop ltInt a s.1 s.2=heapPop ltInt a l j) (λs=>[(0,jI n),(6,dI a),(7,dI 0),(8,dI l),(10,dI ((s.1:Int)-1))]) (λs=>[bI n s.2]) (λs=>s.1) (l,j) rfl ?_ rfl ?_ rfl ⟨g,ar _,rfl⟩ ?_
 ·simp[aa.cat,aa]
 ·simp[aa.cat,aa,au]
 rintro⟨k,d1⟩ ⟨e,h,c⟩;simp only at e h c;cases k with
 |zero =>
  rw[<-c];refine aq [(30,false)] 100 rfl (by simp[aa]) (AK.leaveD rfl rfl ?_)
  exact cv.rY [0] rfl ab rfl rfl rfl gB
 |succ k =>
  have m:((a:Int)+(((k+1:Nat):Int)-1)).toNat=a+k:=by omega
  refine aq [(30,true),(1000011,true)] 200 rfl ?_ ?_
  ·simp only[aa,aw,aF,m,aJ,av,af,ae];and_intros <;> omega
  refine AK.norm [bI n (swp d1 a (a+k))] rfl ?_ ?_
  ·simp only[aa.cat,aa,aw,aF,m,ae,af];exact gb e (by omega) (by omega) (λ_ _=>rfl)
  refine cE rfl ab ?_;refine AK.aC (zA n (swp d1 a (a+k)) (lo:=0) (hi:=k) (first:=a) (by rw[size_swp];exact e) (by omega) (by omega) o rfl (by omega) rfl) [0] rfl rfl rfl rfl rfl rfl rfl rfl rfl rfl rfl ?_
  refine cE rfl ?_ (AK.ay (k,siftDown ltInt k a 0 (swp d1 a (a+k))) rfl ?_ rfl rfl rfl ?_ rfl ?_ ?_)
  ·simp only[aa,aJ];omega
  ·simp only[aa.cat,aa,af,ae];omega
  ·simp[aa.cat,aa,au]
  ·exact⟨by rw[wB _ _ _ _ _ (ar _),size_swp];exact e,by simp only;omega,c⟩
  ·simp
end Go.AM.R1
namespace Go.AM.R1
open Go.Proofs
open Go.Sort (bitsLen)
variable {X:Cx Tryz.prog}
def vn:List UInt8:=(List.range 256).map λi=>UInt8.ofNat (bitsLen i)
theorem jl{x k:Nat}(h:x<2 ^ k):bitsLen x<=k:=by
 unfold bitsLen;split
 ·omega
 ·rename_i a
  have:=(Nat.log2_lt a).2 h;omega
theorem Kd{x:Nat}(h:x<256):(gJ vn x).toNat=bitsLen x:=by
 unfold gJ vn;rw[aF,List.getD_eq_getElem?_getD,mb,List.getElem?_range h];have:=jl (x:=x) (k:=8) h;simp only[gk,cK];rw[UInt8.toNat_ofNat'];omega
theorem rL{n k:Nat}(h:2 ^ k<=n):bitsLen n=k+bitsLen (n / 2 ^ k):=by
 have a:0<2 ^ k:=Nat.two_pow_pos k;have d:0<n / 2 ^ k:=Nat.div_pos h a;unfold bitsLen;rw[ak (by omega),ak (by omega)]
 have e:Nat.log2 n=k+Nat.log2 (n / 2 ^ k):=by
  rw[Nat.log2_eq_iff (by omega)]
  have c:=Nat.log2_self_le (n:=n / 2 ^ k) (by omega)
  have b:=Nat.lt_log2_self (n:=n / 2 ^ k)
  constructor
  ·rw[Nat.pow_add,iX];exact er (ee _ c) (Nat.div_mul_le_self n _)
  ·rw[show k+Nat.log2 (n / 2 ^ k)+1=k+(Nat.log2 (n / 2 ^ k)+1) by omega,Nat.pow_add]
   have:=(Nat.div_lt_iff_lt_mul a).1 b
   rwa [iX] at this
 omega
set_option maxRecDepth 100000 in
theorem HS(n:Nat)(l:n<=1000000):Ev X 96 [dQ n] [] (dI (bitsLen n)) []:=by
 refine Ev.body Tryz.func96 rfl rfl rfl λj=>?_
 have fin:∀ {T:List UInt8} {x:Nat},T=vn->x<256->(gJ T (x:Int)).toNat=bitsLen x:=λb g=>by rw[b];exact Kd g
 have d:∀ {T:List UInt8},T=vn->T.length=256:=λb=>by rw[b];rfl
 by_cases h:65536<=n
 ·have c:((n:Int).toNat / 2 ^ Int.toNat 16)=n / 65536:=by simp
  have e:bitsLen n=16+bitsLen (n / 65536):=rL (n:=n) (k:=16) h;have f:=jl (x:=n / 65536) (k:=8) (by simp;omega)
  refine aq [(4,false),(8,true),(14,false)] 200 rfl ?_ (AK.aK rfl ?_)
  ·generalize b:(ByteArray.data _).toList=T;have a:T=vn:=by rw[<-b];decide +kernel
   simp only[aa,c,fin a (show n / 65536<256 by omega),d a,aJ,av,aZ];and_intros <;> omega
  ·generalize b:(ByteArray.data _).toList=T;have a:T=vn:=by rw[<-b];decide +kernel
   simp only[aa,aa.cat,c,fin a (show n / 65536<256 by omega),af,ae]
   omega
 by_cases i:256<=n
 ·have c:((n:Int).toNat / 2 ^ Int.toNat 8)=n / 256:=by simp
  have e:bitsLen n=8+bitsLen (n / 256):=rL (n:=n) (k:=8) i;have f:=jl (x:=n / 256) (k:=8) (by simp;omega)
  refine aq [(4,false),(8,false),(14,true)] 200 rfl ?_ (AK.aK rfl ?_)
  ·generalize b:(ByteArray.data _).toList=T;have a:T=vn:=by rw[<-b];decide +kernel
   simp only[aa,c,fin a (show n / 256<256 by omega),d a,aJ,av,aZ];and_intros <;> omega
  ·generalize b:(ByteArray.data _).toList=T;have a:T=vn:=by rw[<-b];decide +kernel
   simp only[aa,aa.cat,c,fin a (show n / 256<256 by omega),af,ae]
   omega
 ·have f:=jl (x:=n) (k:=8) (by simp;omega)
  refine aq [(4,false),(8,false),(14,false)] 200 rfl ?_ (AK.aK rfl ?_)
  ·generalize b:(ByteArray.data _).toList=T;have a:T=vn:=by rw[<-b];decide +kernel
   simp only[aa,fin a (show n<256 by omega),d a,aJ,av,aZ];and_intros <;> omega
  ·generalize b:(ByteArray.data _).toList=T;have a:T=vn:=by rw[<-b];decide +kernel
   simp only[aa,aa.cat,fin a (show n<256 by omega),af,ae]
   omega
abbrev Yw(n:Nat):D:=dQ n
theorem HM(n:Nat)(a:n<=1000000):Ev X 56 [dQ n] [] (dI (bitsLen n)) []:=by
 refine Ev.body Tryz.func56 rfl rfl rfl λb=>?_
 refine cE rfl ab ?_;refine AK.Cb ?_;refine cE rfl ab ?_;refine AK.aC (HS n a) [] rfl rfl rfl rfl rfl rfl rfl rfl rfl rfl rfl ?_;refine cE rfl ab (AK.aK rfl ?_);simp[aa,aa.cat]
end Go.AM.R1
namespace Go.AM.R1
open Go.Proofs
open Go.Sort (swp bitsLen xorNextN xorNextN_lt xorNext xorNext_toNat breakStep breakPatterns)
variable {X:Cx Tryz.prog}
abbrev bQ(r:Nat):aj:=.cells 193 [.c (.int .u64 r)]
theorem Ke(r:Nat):Ev X 140 [.e (.one (.ptr 0 0))] [bQ r] (dQ (xorNextN r)) [bQ (xorNextN r)]:=by
 refine Ev.body Tryz.func140 rfl rfl rfl λd=>?_
 have a:(2:Nat) ^ Int.toNat 13=8192:=by decide
 have c:(2:Nat) ^ Int.toNat 7=128:=by decide
 have b:(2:Nat) ^ Int.toNat 17=131072:=by decide
 refine cE rfl ?_ ?_
 ·simp only[aa];omega
 refine AK.norm [bQ (xorNextN r)] rfl ?_ (AK.cZ [0] rfl ?_ rfl rfl rfl gB)
 ·simp only[aa,aa.cat,xorNextN,aF,a,c,b,ae]
 ·simp only[aa,aa.cat,xorNextN,aF,a,c,b]
theorem Kf(n:Nat)(a:n<=1000000):Ev X 139 [dI n] [] (dQ ((1 <<< bitsLen n:Nat):Int)) []:=by
 refine Ev.body Tryz.func139 rfl rfl rfl λb=>?_
 have l:=jl (x:=n) (k:=20) (by simp;omega)
 refine cE rfl (by simp only[aa,aJ];and_intros <;> omega) ?_
 refine AK.aC (HM n a) [] rfl rfl rfl rfl rfl rfl rfl rfl rfl rfl rfl ?_;refine cE rfl ?_ (AK.aK rfl ?_)
 ·simp only[aa];omega
 ·have c:2 ^ bitsLen n<=2 ^ 20:=Nat.pow_le_pow_right (by omega) l
  simp only[aa,aa.cat,Nat.shiftLeft_eq,aF];have e:Int.toNat 1*2 ^ bitsLen n % 18446744073709551616=1*2 ^ bitsLen n:=by
   rw[show Int.toNat 1=1 from rfl,n8]
   exact Nat.mod_eq_of_lt (by omega)
  rw[e]
theorem zB{L:Nat}(h:0<L):1 <<< bitsLen L<=2*L:=by
 rw[Nat.shiftLeft_eq,n8];unfold bitsLen;rw[ak (by omega),Nat.pow_succ]
 have:=Nat.log2_self_le (n:=L) (by omega)
 omega
theorem HT(L:Nat):1<=1 <<< bitsLen L:=by
 rw[Nat.shiftLeft_eq,n8];exact Nat.two_pow_pos _
def NN(a L M:Nat):Nat->Nat->UInt64×Array Int->UInt64×Array Int
 |0,_,st=>st
 |k+1,idx,st=>NN a L M k (idx+1) (breakStep a L M st idx)
theorem rf{d:Array Int}{a L:Nat}(h:8<=L):breakPatterns d a (a+L)=(NN a L (1 <<< bitsLen L) 3 (a+L / 4*2-1) (UInt64.ofNat L,d)).2:=by
 unfold breakPatterns;simp only[l7];rw[an h];rfl
theorem ya{a L M idx:Nat}{r:UInt64}{d:Array Int}:breakStep a L M (r,d) idx=(xorNext r,swp d idx (a+if (xorNextN r.toNat &&& (M-1))≥L then (xorNextN r.toNat &&& (M-1))-L else (xorNextN r.toNat &&& (M-1)))):=by
 unfold breakStep;simp only[xorNext_toNat]
abbrev T4(n a L M:Nat)(k:Nat):Fr:=[(0,jI n),(1,dI a),(6,dI L),(7,.e (.one (.ptr 1 0))),(8,dQ M),(9,dI ((a+L / 4*2-1+(3-k):Nat):Int))]
set_option maxHeartbeats 2000000 in
theorem HJ(n:Nat)(d:Array Int)(a b:Nat)(t:d.size=n)(u:a<=b)(C:b<=n)(z:n<=1000000) :
  Ev X 88 [jI n,dI a,dI b] [bI n d] (.dH []) [bI n (breakPatterns d a b)]:=by
 refine Ev.body Tryz.func88 rfl rfl rfl λA=>?_
 obtain⟨L,rfl⟩:∃ L,b=a+L:=⟨b-a,by omega⟩
 by_cases o:8<=L
 ·rw[rf o];have y:=zB (L:=L) (by omega)
  have v:=HT L;have m:(UInt64.ofNat L).toNat=L:=by rw[UInt64.toNat_ofNat'];omega
  refine aq [(15,true)] 200 rfl ?_ ?_
  ·simp only[aa,aJ,av,af,ae];and_intros <;> omega
  have key:∀ x:Int,x=(L:Int)->Ev X 139 [dI x] [] (dQ ((1 <<< bitsLen L:Nat):Int)) []:=by
   rintro x rfl;exact Kf L (by omega)
  refine AK.aC (key _ (by omega)) [] rfl rfl rfl rfl rfl rfl rfl rfl rfl rfl rfl ?_
  refine cE rfl ?_ ?_
  ·simp only[aa,aJ,av,af,ae];and_intros <;> omega
  generalize q:1 <<< bitsLen L=M at *;refine AK.bA 2 (λs:Nat×UInt64×Array Int=>s.2.2.size=n/\s.1<=3/\(NN a L M s.1 (a+L / 4*2-1+(3-s.1)) s.2).2=(NN a L M 3 (a+L / 4*2-1) (UInt64.ofNat L,d)).2) (λs=>T4 n a L M s.1) (λs=>[bI n s.2.2,bQ s.2.1.toNat]) (λs=>s.1) (3,UInt64.ofNat L,d) rfl ?_ rfl ?_ rfl ⟨t,ar _,rfl⟩ ?_
  ·simp only[aa.cat,aa,af,ae];and_intros <;> omega
  ·simp only[aa.cat,aa,au,m,af,ae];exact⟨λ_ _=>trivial,by omega⟩
  rintro⟨k,r,d1⟩ ⟨i,w,c⟩;simp only at i w c;cases k with
  |zero =>
   rw[<-c];refine aq [(33,false)] 200 rfl ?_ (AK.leaveD rfl rfl ?_)
   ·simp only[aa,aJ,aZ,af,ae];and_intros <;> omega
   exact cv.rY [0] rfl ab rfl rfl rfl gB
  |succ k =>
   have B:xorNextN r.toNat<18446744073709551616:=xorNextN_lt _ (UInt64.toNat_lt r);have p:xorNextN r.toNat &&& (M-1)<=M-1:=Nat.and_le_right;have j:((M:Int)-1).toNat=M-1:=by omega
   refine aq [(33,true)] 200 rfl ?_ ?_
   ·simp only[aa,aJ,av,af,ae];and_intros <;> omega
   refine AK.aC (Ke r.toNat) [1] rfl rfl rfl rfl rfl rfl rfl rfl rfl rfl rfl ?_;have f:=ya (a:=a) (L:=L) (M:=M) (idx:=a+L / 4*2-1+(3-(k+1))) (r:=r) (d:=d1);generalize l:xorNextN r.toNat &&& (M-1)=O at *
   by_cases h:L<=O
   ·rw[an h] at f;have g:((a:Int)+((O:Int)-(L:Int))).toNat=a+(O-L):=by omega
    refine aq [(43,true)] 200 rfl ?_ (AK.ay (k,xorNext r,swp d1 (a+L / 4*2-1+(3-(k+1))) (a+(O-L))) rfl ?_ rfl rfl rfl ?_ rfl ?_ ?_)
    ·simp only[aa,aw,aF,j,l,g,aJ,av,af,ae];and_intros <;> omega
    ·simp only[aa.cat,aa,af,ae];omega
    ·simp only[aa.cat,aa,aw,aF,j,l,g,xorNext_toNat,ae,af];exact gb i (by omega) (by omega) (λ_ _=>rfl)
    ·refine⟨by rw[size_swp];exact i,by simp only;omega,?_⟩
     rw[<-c,NN,f,show a+L / 4*2-1+(3-(k+1))+1=a+L / 4*2-1+(3-k) by omega]
    ·simp
   ·rw[ak h] at f;have g:((a:Int)+(O:Int)).toNat=a+O:=by omega
    refine aq [(43,false)] 200 rfl ?_ (AK.ay (k,xorNext r,swp d1 (a+L / 4*2-1+(3-(k+1))) (a+O)) rfl ?_ rfl rfl rfl ?_ rfl ?_ ?_)
    ·simp only[aa,aw,aF,j,l,g,aJ,aZ,af,ae];and_intros <;> omega
    ·simp only[aa.cat,aa,af,ae];omega
    ·simp only[aa.cat,aa,aw,aF,j,l,g,xorNext_toNat,ae,af];exact gb i (by omega) (by omega) (λ_ _=>rfl)
    ·refine⟨by rw[size_swp];exact i,by simp only;omega,?_⟩
     rw[<-c,NN,f,show a+L / 4*2-1+(3-(k+1))+1=a+L / 4*2-1+(3-k) by omega]
    ·simp
 ·have e:breakPatterns d a (a+L)=d:=by unfold breakPatterns;simp only[l7];rw[ak o]
  rw[e];refine aq [(15,false)] 200 rfl ?_ ?_
  ·simp only[aa,aJ,aZ,af,ae];and_intros <;> omega
  exact cv.rY [0] rfl ab rfl rfl rfl gB
end Go.AM.R1
namespace Go.AM.R1
open Go.Proofs
open Go.Sort (swp scanUp scanDown partLoop partEqLoop partition partitionEqual ltInt)
variable {X:Cx Tryz.prog}
theorem lx{p:Int->Bool}{d:Array Int}{j i:Nat}(h:i<=j)(a:p d[i]! = true):scanUp p d j i=scanUp p d j (i+1):=by
 rw[scanUp.eq_1 p d j i,an (by simp[h,a])]
theorem eO{p:Int->Bool}{d:Array Int}{j i:Nat}(h:i<=j->p d[i]! = false):scanUp p d j i=i:=by
 rw[scanUp,ak];intro a;rw[bq,av] at a;rw[h a.1] at a;cases a.2
theorem ju{p:Int->Bool}{d:Array Int}{j i:Nat}(c:1<=j)(h:i<=j)(a:p d[j]! = true):scanDown p d i j=scanDown p d i (j-1):=by
 obtain⟨j,rfl⟩:∃ b,j=b+1:=⟨j-1,by omega⟩
 rw[scanDown,an (by simp[h,a]),kV]
theorem ek{p:Int->Bool}{d:Array Int}{j i:Nat}(h:i<=j->p d[j]! = false):scanDown p d i j=j:=by
 cases j with
 |zero=>rfl
 |succ j =>
  rw[scanDown,ak];intro a;rw[bq,av] at a;rw[h a.1] at a;cases a.2
theorem l5{p:Int->Bool}{d:Array Int}{j:Nat}:∀ (m i:Nat),j+1-i<=m->i<=scanUp p d j i/\(scanUp p d j i<=j+1∨scanUp p d j i=i):=by
 intro m
 induction m with
 |zero=>intro i h;rw[eO (λa=>by omega)];omega
 |succ m c =>
  intro i h
  by_cases b:i<=j
  ·cases a:p d[i]! with
   |true=>rw[lx b a];have:=c (i+1) (by omega);omega
   |false=>rw[eO λ_=>a];omega
  ·rw[eO λx=>absurd x b];omega
theorem jJ{p:Int->Bool}{d:Array Int}{i:Nat}:∀ j:Nat,scanDown p d i j<=j/\(i<=scanDown p d i j+1∨scanDown p d i j=j):=by
 intro j
 induction j with
 |zero=>rw[show scanDown p d i 0=0 from rfl];omega
 |succ j c =>
  by_cases b:i<=j+1
  ·cases a:p d[j+1]! with
   |true=>rw[ju (by omega) b a,kV];omega
   |false=>rw[ek λ_=>a];omega
  ·rw[ek λx=>absurd x b];omega
theorem partLoop_eq{a i j:Nat}{d:Array Int}{i2 j2:Nat}(f:1<=i)(hi:i2=scanUp (λx=>ltInt x d[a]!) d j i)(b:j2=scanDown (λx=>!ltInt x d[a]!) d i2 j) :
  partLoop ltInt a i j d=if i2>j2 then (j2,d) else partLoop ltInt a (i2+1) (j2-1) (swp d i2 j2):=by
 have e:=l5 (p:=λx=>ltInt x d[a]!) (d:=d) (j:=j) (j+1-i) i (ar _)
 have c:=jJ (p:=λx=>!ltInt x d[a]!) (d:=d) (i:=i2) j
 rw[<-hi] at e;rw[<-b] at c;rw[partLoop.eq_1,<-hi,<-b]
 by_cases h:i2>j2
 ·rw[an h,an h]
 ·rw[ak h,ak h,dif_pos (by omega)]
theorem zC{d c:Array Int}{a b v i j:Nat}(e:c=swp d a v)(hi:i=scanUp (λx=>ltInt x c[a]!) c (b-1) (a+1))(f:j=scanDown (λx=>!ltInt x c[a]!) c i (b-1))(h:i>j):partition ltInt d a b v=(j,true,swp c j a):=by
 unfold partition;simp only;rw[<-e,<-hi,<-f,an h]
theorem zD{d c:Array Int}{a b v i j:Nat}(e:c=swp d a v)(hi:i=scanUp (λx=>ltInt x c[a]!) c (b-1) (a+1))(g:j=scanDown (λx=>!ltInt x c[a]!) c i (b-1))(h:¬i>j){r:Nat×Array Int}(f:partLoop ltInt a (i+1) (j-1) (swp c i j)=r):partition ltInt d a b v=(r.1,false,swp r.2 r.1 a):=by
 subst f;unfold partition;simp only;rw[<-e,<-hi,<-g,ak h]
set_option maxHeartbeats 8000000 in
theorem Ka(n:Nat)(d:Array Int)(a b v:Nat)(Q:d.size=n)(V:a<b)(hb:b<=n)(Z:v<n)(W:n<=1000000) :
  Ev X 94 [jI n,dI a,dI b,dI v] [bI n d] (.dH [.one (.c (.int .i64 (partition ltInt d a b v).1)),.one (.c (.bool (partition ltInt d a b v).2.1))]) [bI n (partition ltInt d a b v).2.2]:=by
 have l:aY X [(92,rK)]:=.cons uP .nil;refine Ev.body Tryz.func94 rfl rfl rfl λY=>?_
 refine ah l [(1000002,true)] 200 rfl ?_ ?_
 ·simp only[aa,aw,aF,aJ,af,ae];and_intros <;> omega
 refine AK.norm [bI n (swp d a v)] rfl ?_ ?_
 ·simp only[aa.cat,aa,aw,aF,ae,af];exact gb Q (by omega) (by omega) (λ_ _=>rfl)
 have w:(swp d a v).size=n:=by rw[size_swp];exact Q
 obtain⟨f,J⟩:∃ f,f=swp d a v:=⟨_,rfl⟩;rw[<-J] at w ⊢;refine ah l [] 200 rfl ?_ ?_
 ·simp only[aa,aJ];and_intros <;> omega
 refine AK.jU (S2:=Unit) 0 rfl rfl (λ_=>True) (λ_=>[(0,jI n),(1,dI a),(10,dI ((scanUp (λx=>ltInt x f[a]!) f (b-1) (a+1)):Nat)),(11,dI (b-1:Nat))]) (λ_=>[bI n f]) 1 (λk:Nat=>a+1<=k/\k<=n+1/\scanUp (λx=>ltInt x f[a]!) f (b-1) k=scanUp (λx=>ltInt x f[a]!) f (b-1) (a+1)) (λk=>[(0,jI n),(1,dI a),(10,dI (k:Nat)),(11,dI (b-1:Nat))]) (λ_=>[bI n f]) (λk=>b-1+1-k) (a+1) rfl ?_ rfl ?_ rfl ⟨ar _,by omega,rfl⟩ ?_ ?_
 ·simp[aa.cat,aa,au] <;> omega
 ·simp[aa.cat,aa,au]
 ·rintro out k ⟨A,z,g⟩
  by_cases m:k<=b-1
  ·by_cases t:(λx=>ltInt x f[a]!) f[k]! = true
   ·have h:ltInt f[k]! f[a]! = true:=by simpa using t
    refine ah l [(32,true),(42,true)] 200 rfl ?_ (AK.ay (k+1) rfl ?_ rfl rfl rfl ?_ rfl ?_ ?_)
    ·simp only[aa,aw,aF,h,aJ,av,af,ae];and_intros <;> omega
    ·simp only[aa.cat,aa,af,ae];omega
    ·simp[aa.cat,aa,au]
    ·exact⟨by omega,by omega,by rw[<-g,lx m t]⟩
    ·omega
   ·have h:ltInt f[k]! f[a]! = false:=by simpa using t
    refine ah l [(32,true),(42,false)] 200 rfl ?_ (AK.leaveD rfl rfl ?_)
    ·simp only[aa,aw,aF,h,aJ,av,af,ae];and_intros <;> omega
    have e:scanUp (λx=>ltInt x f[a]!) f (b-1) (a+1)=k:=by rw[<-g];exact eO λ_=>by simpa using t
    exact out () ab rfl (by simp only[aa.cat,aa,e,af,ae]) rfl (by simp[aa.cat,aa,au])
  ·refine ah l [(32,false)] 200 rfl ?_ (AK.leaveD rfl rfl ?_)
   ·simp only[aa,aJ,aZ,af,ae];omega
   have e:scanUp (λx=>ltInt x f[a]!) f (b-1) (a+1)=k:=by rw[<-g];exact eO λx=>absurd x m
   exact out () ab rfl (by simp only[aa.cat,aa,e,af,ae]) rfl (by simp[aa.cat,aa,au])
 rintro⟨⟩ -;have U:=l5 (p:=λx=>ltInt x f[a]!) (d:=f) (j:=b-1) (b-1+1-(a+1)) (a+1) (ar _)
 obtain⟨i,hi⟩:∃ i,i=scanUp (λx=>ltInt x f[a]!) f (b-1) (a+1):=⟨_,rfl⟩
 rw[<-hi] at U ⊢;refine ah l [] 200 rfl ab ?_;refine AK.jU (S2:=Unit) 2 rfl rfl (λ_=>True) (λ_=>[(0,jI n),(1,dI a),(10,dI (i:Nat)),(11,dI ((scanDown (λx=>!ltInt x f[a]!) f (i) (b-1)):Nat))]) (λ_=>[bI n f]) 1 (λk:Nat=>k<=b-1/\k<=n/\scanDown (λx=>!ltInt x f[a]!) f (i) k=scanDown (λx=>!ltInt x f[a]!) f (i) (b-1)) (λk=>[(0,jI n),(1,dI a),(10,dI (i:Nat)),(11,dI (k:Nat))]) (λ_=>[bI n f]) (λk=>k) (b-1) rfl ?_ rfl ?_ rfl ⟨ar _,by omega,rfl⟩ ?_ ?_
 ·simp[aa.cat,aa,au] <;> omega
 ·simp[aa.cat,aa,au]
 ·rintro out k ⟨A,z,g⟩
  by_cases m:i<=k
  ·by_cases t:(λx=>!ltInt x f[a]!) f[k]! = true
   ·have h:ltInt f[k]! f[a]! = false:=by simpa using t
    refine ah l [(48,true),(58,false)] 200 rfl ?_ (AK.ay (k-1) rfl ?_ rfl rfl rfl ?_ rfl ?_ ?_)
    ·simp only[aa,aw,aF,h,aJ,av,af,ae];and_intros <;> omega
    ·simp only[aa.cat,aa,af,ae];omega
    ·simp[aa.cat,aa,au]
    ·exact⟨by omega,by omega,by rw[<-g,ju (by omega) m t]⟩
    ·omega
   ·have h:ltInt f[k]! f[a]! = true:=by simpa using t
    refine ah l [(48,true),(58,true)] 200 rfl ?_ (AK.leaveD rfl rfl ?_)
    ·simp only[aa,aw,aF,h,aJ,av,af,ae];and_intros <;> omega
    have e:scanDown (λx=>!ltInt x f[a]!) f (i) (b-1)=k:=by rw[<-g];exact ek λ_=>by simpa using t
    exact out () ab rfl (by simp only[aa.cat,aa,e,af,ae]) rfl (by simp[aa.cat,aa,au])
  ·refine ah l [(48,false)] 200 rfl ?_ (AK.leaveD rfl rfl ?_)
   ·simp only[aa,aJ,aZ,af,ae];omega
   have e:scanDown (λx=>!ltInt x f[a]!) f (i) (b-1)=k:=by rw[<-g];exact ek λx=>absurd x m
   exact out () ab rfl (by simp only[aa.cat,aa,e,af,ae]) rfl (by simp[aa.cat,aa,au])
 rintro⟨⟩ -;have T:=jJ (p:=λx=>!ltInt x f[a]!) (d:=f) (i:=i) (b-1)
 obtain⟨j,K⟩:∃ j,j=scanDown (λx=>!ltInt x f[a]!) f i (b-1):=⟨_,rfl⟩
 rw[<-K] at T ⊢
 by_cases P:j<i
 ·rw[zC J hi K P];refine ah l [(65,true),(1000009,true)] 200 rfl ?_ ?_
  ·simp only[aa,aw,aF,aJ,av,af,ae];and_intros <;> omega
  refine AK.norm [bI n (swp f j a)] rfl ?_ ?_
  ·simp only[aa.cat,aa,aw,aF,ae,af];exact gb w (by omega) (by omega) (λ_ _=>rfl)
  refine ah l [] 200 rfl ab (AK.cZ [0] rfl ?_ rfl rfl rfl gB);simp[aa.cat,aa]
 refine ah l [(65,false),(1000011,true)] 200 rfl ?_ ?_
 ·simp only[aa,aw,aF,aJ,aZ,af,ae];and_intros <;> omega
 refine AK.norm [bI n (swp f i j)] rfl ?_ ?_
 ·simp only[aa.cat,aa,aw,aF,ae,af];exact gb w (by omega) (by omega) (λ_ _=>rfl)
 refine ah l [] 200 rfl ?_ ?_
 ·simp only[aa,aJ];and_intros <;> omega
 have F:(swp f i j).size=n:=by rw[size_swp];exact w
 obtain⟨r,N⟩:∃ r,partLoop ltInt a (i+1) (j-1) (swp f i j)=r:=⟨_,rfl⟩;rw[zD J hi K (by omega) N]
 obtain⟨d1,O⟩:∃ d1,d1=swp f i j:=⟨_,rfl⟩;rw[<-O] at F N ⊢;refine AK.jU (S2:=Unit) 4 rfl rfl (λ_=>r.1<n/\r.2.size=n) (λ_=>[(0,jI n),(1,dI a),(11,dI r.1)]) (λ_=>[bI n r.2]) 1 (λs:Nat×Nat×Array Int=>s.2.2.size=n/\a+1<=s.1/\s.1<=n+1/\s.2.1<n/\partLoop ltInt a s.1 s.2.1 s.2.2=r) (λs=>[(0,jI n),(1,dI a),(10,dI s.1),(11,dI s.2.1)]) (λs=>[bI n s.2.2]) (λs=>s.2.1+1-s.1) (i+1,j-1,d1) rfl ?_ rfl ?_ rfl ⟨F,by simp only;omega,by simp only;omega,by simp only;omega,N⟩ ?_ ?_
 ·simp only[aa.cat,aa,af,ae];and_intros <;> omega
 ·simp[aa.cat,aa,au]
 ·rintro H ⟨i3,o,d2⟩ ⟨y,L,E,M,u⟩;simp only at y L E M u;refine ah l [] 200 rfl ab ?_;refine AK.jU (S2:=Unit) 6 rfl rfl (λ_=>True) (λ_=>[(0,jI n),(1,dI a),(10,dI ((scanUp (λx=>ltInt x d2[a]!) d2 (o) (i3)):Nat)),(11,dI (o:Nat))]) (λ_=>[bI n d2]) 1 (λk:Nat=>i3<=k/\k<=n+1/\scanUp (λx=>ltInt x d2[a]!) d2 (o) k=scanUp (λx=>ltInt x d2[a]!) d2 (o) (i3)) (λk=>[(0,jI n),(1,dI a),(10,dI (k:Nat)),(11,dI (o:Nat))]) (λ_=>[bI n d2]) (λk=>o+1-k) (i3) rfl ?_ rfl ?_ rfl ⟨ar _,by omega,rfl⟩ ?_ ?_
  ·simp[aa.cat,aa,au] <;> omega
  ·simp[aa.cat,aa,au]
  ·rintro out k ⟨A,z,g⟩
   by_cases m:k<=o
   ·by_cases t:(λx=>ltInt x d2[a]!) d2[k]! = true
    ·have h:ltInt d2[k]! d2[a]! = true:=by simpa using t
     refine ah l [(101,true),(111,true)] 200 rfl ?_ (AK.ay (k+1) rfl ?_ rfl rfl rfl ?_ rfl ?_ ?_)
     ·simp only[aa,aw,aF,h,aJ,av,af,ae];and_intros <;> omega
     ·simp only[aa.cat,aa,af,ae];omega
     ·simp[aa.cat,aa,au]
     ·exact⟨by omega,by omega,by rw[<-g,lx m t]⟩
     ·omega
    ·have h:ltInt d2[k]! d2[a]! = false:=by simpa using t
     refine ah l [(101,true),(111,false)] 200 rfl ?_ (AK.leaveD rfl rfl ?_)
     ·simp only[aa,aw,aF,h,aJ,av,af,ae];and_intros <;> omega
     have e:scanUp (λx=>ltInt x d2[a]!) d2 (o) (i3)=k:=by rw[<-g];exact eO λ_=>by simpa using t
     exact out () ab rfl (by simp only[aa.cat,aa,e,af,ae]) rfl (by simp[aa.cat,aa,au])
   ·refine ah l [(101,false)] 200 rfl ?_ (AK.leaveD rfl rfl ?_)
    ·simp only[aa,aJ,aZ,af,ae];omega
    have e:scanUp (λx=>ltInt x d2[a]!) d2 (o) (i3)=k:=by rw[<-g];exact eO λx=>absurd x m
    exact out () ab rfl (by simp only[aa.cat,aa,e,af,ae]) rfl (by simp[aa.cat,aa,au])
  rintro⟨⟩ -;have S:=l5 (p:=λx=>ltInt x d2[a]!) (d:=d2) (j:=o) (o+1-i3) i3 (ar _)
  obtain⟨i4,D⟩:∃ i4,i4=scanUp (λx=>ltInt x d2[a]!) d2 o i3:=⟨_,rfl⟩
  rw[<-D] at S ⊢;refine ah l [] 200 rfl ab ?_;refine AK.jU (S2:=Unit) 8 rfl rfl (λ_=>True) (λ_=>[(0,jI n),(1,dI a),(10,dI (i4:Nat)),(11,dI ((scanDown (λx=>!ltInt x d2[a]!) d2 (i4) (o)):Nat))]) (λ_=>[bI n d2]) 1 (λk:Nat=>k<=o/\k<=n/\scanDown (λx=>!ltInt x d2[a]!) d2 (i4) k=scanDown (λx=>!ltInt x d2[a]!) d2 (i4) (o)) (λk=>[(0,jI n),(1,dI a),(10,dI (i4:Nat)),(11,dI (k:Nat))]) (λ_=>[bI n d2]) (λk=>k) (o) rfl ?_ rfl ?_ rfl ⟨ar _,by omega,rfl⟩ ?_ ?_
  ·simp[aa.cat,aa,au] <;> omega
  ·simp[aa.cat,aa,au]
  ·rintro out k ⟨A,z,g⟩
   by_cases m:i4<=k
   ·by_cases t:(λx=>!ltInt x d2[a]!) d2[k]! = true
    ·have h:ltInt d2[k]! d2[a]! = false:=by simpa using t
     refine ah l [(117,true),(127,false)] 200 rfl ?_ (AK.ay (k-1) rfl ?_ rfl rfl rfl ?_ rfl ?_ ?_)
     ·simp only[aa,aw,aF,h,aJ,av,af,ae];and_intros <;> omega
     ·simp only[aa.cat,aa,af,ae];omega
     ·simp[aa.cat,aa,au]
     ·exact⟨by omega,by omega,by rw[<-g,ju (by omega) m t]⟩
     ·omega
    ·have h:ltInt d2[k]! d2[a]! = true:=by simpa using t
     refine ah l [(117,true),(127,true)] 200 rfl ?_ (AK.leaveD rfl rfl ?_)
     ·simp only[aa,aw,aF,h,aJ,av,af,ae];and_intros <;> omega
     have e:scanDown (λx=>!ltInt x d2[a]!) d2 (i4) (o)=k:=by rw[<-g];exact ek λ_=>by simpa using t
     exact out () ab rfl (by simp only[aa.cat,aa,e,af,ae]) rfl (by simp[aa.cat,aa,au])
   ·refine ah l [(117,false)] 200 rfl ?_ (AK.leaveD rfl rfl ?_)
    ·simp only[aa,aJ,aZ,af,ae];omega
    have e:scanDown (λx=>!ltInt x d2[a]!) d2 (i4) (o)=k:=by rw[<-g];exact ek λx=>absurd x m
    exact out () ab rfl (by simp only[aa.cat,aa,e,af,ae]) rfl (by simp[aa.cat,aa,au])
  rintro⟨⟩ -;have c2:=jJ (p:=λx=>!ltInt x d2[a]!) (d:=d2) (i:=i4) o
  obtain⟨B,G⟩:∃ B,B=scanDown (λx=>!ltInt x d2[a]!) d2 i4 o:=⟨_,rfl⟩
  rw[<-G] at c2 ⊢;have q:=partLoop_eq (by omega) D G
  by_cases C:B<i4
  ·have e:=q;rw[u,an C] at e;refine ah l [(134,true)] 200 rfl ?_ (AK.leaveD rfl rfl ?_)
   ·simp only[aa,aJ,av];omega
   exact H () (by rw[e];exact⟨by simp only;omega,y⟩) rfl (by simp only[aa.cat,aa,e,af,ae]) rfl (by simp[aa.cat,aa,au,e])
  ·have e:=q;rw[u,ak (by omega)] at e
   refine ah l [(134,false),(1000019,true)] 200 rfl ?_ ?_
   ·simp only[aa,aw,aF,aJ,aZ,af,ae];and_intros <;> omega
   refine AK.norm [bI n (swp d2 i4 B)] rfl ?_ ?_
   ·simp only[aa.cat,aa,aw,aF,ae,af];exact gb y (by omega) (by omega) (λ_ _=>rfl)
   refine ah l [] 200 rfl ?_ (AK.ay (i4+1,B-1,swp d2 i4 B) rfl ?_ rfl rfl rfl ?_ rfl ?_ ?_)
   ·simp only[aa,aJ];and_intros <;> omega
   ·simp only[aa.cat,aa,af,ae];and_intros <;> omega
   ·simp[aa.cat,aa,au]
   ·exact⟨by rw[size_swp];exact y,by simp only;omega,by simp only;omega,by simp only;omega,e.symm⟩
   ·simp only;omega
 rintro⟨⟩ ⟨R,I⟩;refine ah l [(1000022,true)] 200 rfl ?_ ?_
 ·simp only[aa,aw,aF,aJ,af,ae];and_intros <;> omega
 refine AK.norm [bI n (swp r.2 r.1 a)] rfl ?_ ?_
 ·simp only[aa.cat,aa,aw,aF,ae,af];exact gb I (by omega) (by omega) (λ_ _=>rfl)
 refine ah l [] 200 rfl ab (AK.cZ [0] rfl ?_ rfl rfl rfl gB);simp[aa.cat,aa]
theorem partEqLoop_eq{a i j:Nat}{d:Array Int}{i2 j2:Nat}(f:1<=i)(hi:i2=scanUp (λx=>!ltInt d[a]! x) d j i)(b:j2=scanDown (λx=>ltInt d[a]! x) d i2 j) :
  partEqLoop ltInt a i j d=if i2>j2 then (i2,d) else partEqLoop ltInt a (i2+1) (j2-1) (swp d i2 j2):=by
 have e:=l5 (p:=λx=>!ltInt d[a]! x) (d:=d) (j:=j) (j+1-i) i (ar _)
 have c:=jJ (p:=λx=>ltInt d[a]! x) (d:=d) (i:=i2) j
 rw[<-hi] at e;rw[<-b] at c;rw[partEqLoop.eq_1,<-hi,<-b]
 by_cases h:i2>j2
 ·rw[an h,an h]
 ·rw[ak h,ak h,dif_pos (by omega)]
set_option maxHeartbeats 8000000 in
theorem Ed(n:Nat)(d:Array Int)(a b v:Nat)(H:d.size=n)(M:a<b)(Q:b<=n)(P:v<n)(N:n<=1000000) :
  Ev X 93 [jI n,dI a,dI b,dI v] [bI n d] (dI (partitionEqual ltInt d a b v).1) [bI n (partitionEqual ltInt d a b v).2]:=by
 have h:aY X [(92,rK)]:=.cons uP .nil;refine Ev.body Tryz.func93 rfl rfl rfl λO=>?_
 refine ah h [(1000002,true)] 200 rfl ?_ ?_
 ·simp only[aa,aw,aF,aJ,af,ae];and_intros <;> omega
 refine AK.norm [bI n (swp d a v)] rfl ?_ ?_
 ·simp only[aa.cat,aa,aw,aF,ae,af];exact gb H (by omega) (by omega) (λ_ _=>rfl)
 have F:(swp d a v).size=n:=by rw[size_swp];exact H
 unfold partitionEqual;generalize swp d a v=d1 at *;obtain⟨r,I⟩:∃ r,partEqLoop ltInt a (a+1) (b-1) d1=r:=⟨_,rfl⟩;rw[I];refine ah h [] 200 rfl ?_ ?_
 ·simp only[aa,aJ];and_intros <;> omega
 refine AK.jU (S2:=Unit) 0 rfl rfl (λ_=>r.1<=n+1/\r.2.size=n) (λ_=>[(0,jI n),(1,dI a),(9,dI r.1)]) (λ_=>[bI n r.2]) 1 (λs:Nat×Nat×Array Int=>s.2.2.size=n/\a+1<=s.1/\s.1<=n+1/\s.2.1<n/\partEqLoop ltInt a s.1 s.2.1 s.2.2=r) (λs=>[(0,jI n),(1,dI a),(9,dI s.1),(10,dI s.2.1)]) (λs=>[bI n s.2.2]) (λs=>s.2.1+1-s.1) (a+1,b-1,d1) rfl ?_ rfl ?_ rfl ⟨F,by simp only;omega,by simp only;omega,by simp only;omega,I⟩ ?_ ?_
 ·simp only[aa.cat,aa,af,ae];and_intros <;> omega
 ·simp[aa.cat,aa,au]
 ·rintro B ⟨i3,c,d2⟩ ⟨t,C,z,E,l⟩;simp only at t C z E l;refine ah h [] 200 rfl ab ?_;refine AK.jU (S2:=Unit) 2 rfl rfl (λ_=>True) (λ_=>[(0,jI n),(1,dI a),(9,dI ((scanUp (λx=>!ltInt d2[a]! x) d2 (c) (i3)):Nat)),(10,dI (c:Nat))]) (λ_=>[bI n d2]) 1 (λk:Nat=>i3<=k/\k<=n+1/\scanUp (λx=>!ltInt d2[a]! x) d2 (c) k=scanUp (λx=>!ltInt d2[a]! x) d2 (c) (i3)) (λk=>[(0,jI n),(1,dI a),(9,dI (k:Nat)),(10,dI (c:Nat))]) (λ_=>[bI n d2]) (λk=>c+1-k) (i3) rfl ?_ rfl ?_ rfl ⟨ar _,by omega,rfl⟩ ?_ ?_
  ·simp[aa.cat,aa,au] <;> omega
  ·simp[aa.cat,aa,au]
  ·rintro out k ⟨G,D,f⟩
   by_cases m:k<=c
   ·by_cases o:(λx=>!ltInt d2[a]! x) d2[k]! = true
    ·have g:ltInt d2[a]! d2[k]! = false:=by simpa using o
     refine ah h [(31,true),(41,false)] 200 rfl ?_ (AK.ay (k+1) rfl ?_ rfl rfl rfl ?_ rfl ?_ ?_)
     ·simp only[aa,aw,aF,g,aJ,av,af,ae];and_intros <;> omega
     ·simp only[aa.cat,aa,af,ae];omega
     ·simp[aa.cat,aa,au]
     ·exact⟨by omega,by omega,by rw[<-f,lx m o]⟩
     ·omega
    ·have g:ltInt d2[a]! d2[k]! = true:=by simpa using o
     refine ah h [(31,true),(41,true)] 200 rfl ?_ (AK.leaveD rfl rfl ?_)
     ·simp only[aa,aw,aF,g,aJ,av,af,ae];and_intros <;> omega
     have e:scanUp (λx=>!ltInt d2[a]! x) d2 (c) (i3)=k:=by rw[<-f];exact eO λ_=>by simpa using o
     exact out () ab rfl (by simp only[aa.cat,aa,e,af,ae]) rfl (by simp[aa.cat,aa,au])
   ·refine ah h [(31,false)] 200 rfl ?_ (AK.leaveD rfl rfl ?_)
    ·simp only[aa,aJ,aZ,af,ae];omega
    have e:scanUp (λx=>!ltInt d2[a]! x) d2 (c) (i3)=k:=by rw[<-f];exact eO λx=>absurd x m
    exact out () ab rfl (by simp only[aa.cat,aa,e,af,ae]) rfl (by simp[aa.cat,aa,au])
  rintro⟨⟩ -;have L:=l5 (p:=λx=>!ltInt d2[a]! x) (d:=d2) (j:=c) (c+1-i3) i3 (ar _)
  obtain⟨i4,y⟩:∃ i4,i4=scanUp (λx=>!ltInt d2[a]! x) d2 c i3:=⟨_,rfl⟩
  rw[<-y] at L ⊢;refine ah h [] 200 rfl ab ?_;refine AK.jU (S2:=Unit) 4 rfl rfl (λ_=>True) (λ_=>[(0,jI n),(1,dI a),(9,dI (i4:Nat)),(10,dI ((scanDown (λx=>ltInt d2[a]! x) d2 (i4) (c)):Nat))]) (λ_=>[bI n d2]) 1 (λk:Nat=>k<=c/\k<=n/\scanDown (λx=>ltInt d2[a]! x) d2 (i4) k=scanDown (λx=>ltInt d2[a]! x) d2 (i4) (c)) (λk=>[(0,jI n),(1,dI a),(9,dI (i4:Nat)),(10,dI (k:Nat))]) (λ_=>[bI n d2]) (λk=>k) (c) rfl ?_ rfl ?_ rfl ⟨ar _,by omega,rfl⟩ ?_ ?_
  ·simp[aa.cat,aa,au] <;> omega
  ·simp[aa.cat,aa,au]
  ·rintro out k ⟨G,D,f⟩
   by_cases m:i4<=k
   ·by_cases o:(λx=>ltInt d2[a]! x) d2[k]! = true
    ·have g:ltInt d2[a]! d2[k]! = true:=by simpa using o
     refine ah h [(48,true),(58,true)] 200 rfl ?_ (AK.ay (k-1) rfl ?_ rfl rfl rfl ?_ rfl ?_ ?_)
     ·simp only[aa,aw,aF,g,aJ,av,af,ae];and_intros <;> omega
     ·simp only[aa.cat,aa,af,ae];omega
     ·simp[aa.cat,aa,au]
     ·exact⟨by omega,by omega,by rw[<-f,ju (by omega) m o]⟩
     ·omega
    ·have g:ltInt d2[a]! d2[k]! = false:=by simpa using o
     refine ah h [(48,true),(58,false)] 200 rfl ?_ (AK.leaveD rfl rfl ?_)
     ·simp only[aa,aw,aF,g,aJ,av,af,ae];and_intros <;> omega
     have e:scanDown (λx=>ltInt d2[a]! x) d2 (i4) (c)=k:=by rw[<-f];exact ek λ_=>by simpa using o
     exact out () ab rfl (by simp only[aa.cat,aa,e,af,ae]) rfl (by simp[aa.cat,aa,au])
   ·refine ah h [(48,false)] 200 rfl ?_ (AK.leaveD rfl rfl ?_)
    ·simp only[aa,aJ,aZ,af,ae];omega
    have e:scanDown (λx=>ltInt d2[a]! x) d2 (i4) (c)=k:=by rw[<-f];exact ek λx=>absurd x m
    exact out () ab rfl (by simp only[aa.cat,aa,e,af,ae]) rfl (by simp[aa.cat,aa,au])
  rintro⟨⟩ -;have c2:=jJ (p:=λx=>ltInt d2[a]! x) (d:=d2) (i:=i4) c
  obtain⟨u,A⟩:∃ u,u=scanDown (λx=>ltInt d2[a]! x) d2 i4 c:=⟨_,rfl⟩
  rw[<-A] at c2 ⊢;have q:=partEqLoop_eq (by omega) y A
  by_cases w:u<i4
  ·have e:=q;rw[l,an w] at e;refine ah h [(64,true)] 200 rfl ?_ (AK.leaveD rfl rfl ?_)
   ·simp only[aa,aJ,av];omega
   exact B () (by rw[e];exact⟨by simp only;omega,t⟩) rfl (by simp only[aa.cat,aa,e,af,ae]) rfl (by simp[aa.cat,aa,au,e])
  ·have e:=q;rw[l,ak (by omega)] at e
   refine ah h [(64,false),(1000009,true)] 200 rfl ?_ ?_
   ·simp only[aa,aw,aF,aJ,aZ,af,ae];and_intros <;> omega
   refine AK.norm [bI n (swp d2 i4 u)] rfl ?_ ?_
   ·simp only[aa.cat,aa,aw,aF,ae,af];exact gb t (by omega) (by omega) (λ_ _=>rfl)
   refine ah h [] 200 rfl ?_ (AK.ay (i4+1,u-1,swp d2 i4 u) rfl ?_ rfl rfl rfl ?_ rfl ?_ ?_)
   ·simp only[aa,aJ];and_intros <;> omega
   ·simp only[aa.cat,aa,af,ae];and_intros <;> omega
   ·simp[aa.cat,aa,au]
   ·exact⟨by rw[size_swp];exact t,by simp only;omega,by simp only;omega,by simp only;omega,e.symm⟩
   ·simp only;omega
 rintro⟨⟩ ⟨K,J⟩;refine ah h [] 200 rfl ab (AK.cZ [0] rfl ?_ rfl rfl rfl gB);simp[aa.cat,aa]
end Go.AM.R1
namespace Go.AM.R1
open Go.Proofs
open Go.Sort (swp scanSorted shiftDown shiftUp partialIns partialInsertionSort ltInt)
variable {X:Cx Tryz.prog}
theorem uQ{d:Array Int}{b i:Nat}(h:i<b)(a:ltInt d[i]! d[i-1]! = false):scanSorted ltInt d b i=scanSorted ltInt d b (i+1):=by
 rw[scanSorted.eq_1 ltInt d b i,an (by simp[h,a])]
theorem kT{d:Array Int}{b i:Nat}(h:i<b->ltInt d[i]! d[i-1]! = true):scanSorted ltInt d b i=i:=by
 rw[scanSorted,ak];intro a;rw[bq,av] at a;rw[h a.1] at a;cases a.2
theorem HF{d:Array Int}{b:Nat}:∀ (m i:Nat),b-i<=m->i<=b->i<=scanSorted ltInt d b i/\scanSorted ltInt d b i<=b:=by
 intro m
 induction m with
 |zero=>intro i h f;rw[kT λx=>by omega];omega
 |succ m e =>
  intro i h f
  by_cases a:i<b
  ·cases c:ltInt d[i]! d[i-1]! with
   |false=>rw[uQ a c];have:=e (i+1) (by omega) (by omega);omega
   |true=>rw[kT λ_=>c];omega
  ·rw[kT λx=>absurd x a];omega
theorem HG{d:Array Int}{j:Nat}(b:1<=j)(h:ltInt d[j]! d[j-1]! = true):shiftDown ltInt j d=shiftDown ltInt (j-1) (swp d j (j-1)):=by
 obtain⟨j,rfl⟩:∃ a,j=a+1:=⟨j-1,by omega⟩
 simp only[kV] at h ⊢;rw[shiftDown,ak (by simp[h])]
theorem zx{d:Array Int}{j:Nat}(h:1<=j->ltInt d[j]! d[j-1]! = false):shiftDown ltInt j d=d:=by
 cases j with
 |zero=>rfl
 |succ j =>
  have:=h (by omega)
  simp only[kV] at this;rw[shiftDown,an (by simp[this])]
theorem HH{d:Array Int}{b j:Nat}(a:j<b)(h:ltInt d[j]! d[j-1]! = true):shiftUp ltInt b j d=shiftUp ltInt b (j+1) (swp d j (j-1)):=by
 rw[shiftUp.eq_1 ltInt b j d,an a,ak (by simp[h])]
theorem zy{d:Array Int}{b j:Nat}(h:j<b->ltInt d[j]! d[j-1]! = false):shiftUp ltInt b j d=d:=by
 rw[shiftUp]
 by_cases a:j<b
 ·rw[an a,an (by simp[h a])]
 ·rw[ak a]
abbrev Lc(n a b i s:Nat):Fr:=[(0,jI n),(1,dI a),(2,dI b),(7,dI i),(8,dI (5-(s:Int)))]
theorem J7{a b s i:Nat}{d:Array Int}:partialIns ltInt a b (s+1) i d=(if scanSorted ltInt d b i=b then (d,true) else if b-a<50 then (d,false) else
  partialIns ltInt a b s (scanSorted ltInt d b i) (if b-scanSorted ltInt d b i≥2 then shiftUp ltInt b (scanSorted ltInt d b i+1) (if scanSorted ltInt d b i-a≥2 then shiftDown ltInt (scanSorted ltInt d b i-1) (swp d (scanSorted ltInt d b i) (scanSorted ltInt d b i-1)) else swp d (scanSorted ltInt d b i) (scanSorted ltInt d b i-1)) else (if scanSorted ltInt d b i-a≥2 then shiftDown ltInt (scanSorted ltInt d b i-1) (swp d (scanSorted ltInt d b i) (scanSorted ltInt d b i-1)) else swp d (scanSorted ltInt d b i) (scanSorted ltInt d b i-1)))):=rfl
set_option maxHeartbeats 8000000 in
theorem uR(n:Nat)(d:Array Int)(a b:Nat)(R:d.size=n)(U:a<b)(Z:b<=n)(W:n<=1000000) :
  Ev X 91 [jI n,dI a,dI b] [bI n d] (dB (partialInsertionSort ltInt d a b).2) [bI n (partialInsertionSort ltInt d a b).1]:=by
 have h:aY X [(92,rK)]:=.cons uP .nil;refine Ev.body Tryz.func91 rfl rfl rfl λY=>?_
 obtain⟨r,O⟩:∃ r,partialIns ltInt a b 5 (a+1) d=r:=⟨_,rfl⟩;have K:partialInsertionSort ltInt d a b=r:=O;rw[K];refine ah h [] 200 rfl (by simp only[aa,aJ];omega) ?_
 refine AK.jU (S2:=Unit) 0 rfl rfl (λ_=>r.2=false) (λ_=>[(0,jI n)]) (λ_=>[bI n r.1]) 1 (λs:Nat×Nat×Array Int=>s.2.2.size=n/\s.1<=5/\a+1<=s.2.1/\s.2.1<=b/\partialIns ltInt a b s.1 s.2.1 s.2.2=r) (λs=>Lc n a b s.2.1 s.1) (λs=>[bI n s.2.2]) (λs=>s.1) (5,a+1,d) rfl ?_ rfl ?_ rfl ⟨R,by simp only;omega,by simp only;omega,by simp only;omega,O⟩ ?_ ?_
 ·simp[aa.cat,aa]
 ·simp[aa.cat,aa,au]
 ·rintro F ⟨s,i,d1⟩ ⟨M,w,hi,u,f⟩;simp only at M w hi u f;cases s with
  |zero =>
   rw[partialIns] at f;refine ah h [(14,false)] 200 rfl ?_ (AK.leaveD rfl rfl ?_)
   ·simp[aa]
   exact F () (by rw[<-f]) rfl (by simp[aa.cat,aa]) rfl (by simp[aa.cat,aa,au,<-f])
  |succ s =>
   rw[J7] at f;refine ah h [(14,true)] 200 rfl (by simp only[aa,av];omega) ?_
   refine AK.jU (S2:=Unit) 2 rfl rfl (λ_=>True) (λ_=>Lc n a b (scanSorted ltInt d1 b i) (s+1)) (λ_=>[bI n d1]) 1 (λk:Nat=>i<=k/\k<=b/\scanSorted ltInt d1 b k=scanSorted ltInt d1 b i) (λk=>Lc n a b k (s+1)) (λ_=>[bI n d1]) (λk=>b-k) i rfl ?_ rfl ?_ rfl ⟨ar _,u,rfl⟩ ?_ ?_
   ·simp[aa.cat,aa]
   ·simp[aa.cat,aa,au]
   ·rintro out k ⟨S,Q,v⟩
    by_cases E:k<b
    ·have C:((k:Int)-1).toNat=k-1:=by omega
     cases o:ltInt d1[k]! d1[k-1]! with
     |false =>
      refine ah h [(19,true),(30,false)] 200 rfl ?_ (AK.ay (k+1) rfl ?_ rfl rfl rfl ?_ rfl ?_ ?_)
      ·simp only[aa,aw,aF,C,o,aJ,av,af,ae];and_intros <;> omega
      ·simp only[aa.cat,aa,af,ae];omega
      ·simp[aa.cat,aa,au]
      ·exact⟨by omega,by omega,by rw[<-v,uQ E o]⟩
      ·omega
     |true =>
      refine ah h [(19,true),(30,true)] 200 rfl ?_ (AK.leaveD rfl rfl ?_)
      ·simp only[aa,aw,aF,C,o,aJ,av,af,ae];and_intros <;> omega
      have e:scanSorted ltInt d1 b i=k:=by rw[<-v];exact kT λ_=>o
      exact out () ab rfl (by simp only[aa.cat,aa,e,af,ae]) rfl (by simp[aa.cat,aa,au])
    ·refine ah h [(19,false)] 200 rfl ?_ (AK.leaveD rfl rfl ?_)
     ·simp only[aa,aJ,aZ,af,ae];omega
     have e:scanSorted ltInt d1 b i=k:=by rw[<-v];exact kT λx=>absurd x E
     exact out () ab rfl (by simp only[aa.cat,aa,e,af,ae]) rfl (by simp[aa.cat,aa,au])
   rintro⟨⟩ -;have c:=HF (d:=d1) (b:=b) (b-i) i (ar _) u;obtain⟨i2,L⟩:∃ i2,i2=scanSorted ltInt d1 b i:=⟨_,rfl⟩;rw[<-L] at c f ⊢
   by_cases y:i2=b
   ·rw[an y] at f;rw[<-f];refine ah h [(37,true)] 200 rfl ?_ (AK.jP (cv.mk [0] rfl ?_ rfl rfl rfl gB))
    ·simp[aa,y]
    ·simp[aa,aa.cat]
   rw[ak y] at f
   by_cases A:b-a<50
   ·rw[an A] at f;rw[<-f];refine ah h [(37,false),(41,true)] 200 rfl ?_ (AK.jP (cv.mk [0] rfl ?_ rfl rfl rfl gB))
    ·simp[aa,aJ];omega
    ·simp[aa,aa.cat]
   rw[ak A] at f;have C:((i2:Int)-1).toNat=i2-1:=by omega
   refine ah h [(37,false),(41,false),(1000012,true)] 200 rfl ?_ ?_
   ·simp only[aa,aw,aF,C,aJ,aZ,cD,bY,af,ae];and_intros <;> omega
   refine AK.norm [bI n (swp d1 i2 (i2-1))] rfl ?_ ?_
   ·simp only[aa.cat,aa,aw,aF,C,ae,af];exact gb M (by omega) (by omega) (λ_ _=>rfl)
   have q:(swp d1 i2 (i2-1)).size=n:=by rw[size_swp];exact M
   obtain⟨d2,H⟩:∃ d2,d2=swp d1 i2 (i2-1):=⟨_,rfl⟩;rw[<-H] at q f ⊢;obtain⟨d3,p⟩:∃ d3,d3=if i2-a≥2 then shiftDown ltInt (i2-1) d2 else d2:=⟨_,rfl⟩
   rw[<-p] at f;have T:∀ (j:Nat) (d:Array Int),(shiftDown ltInt j d).size=d.size:=by
    intro j
    induction j with
    |zero=>intro d;rfl
    |succ j V =>
     intro d;rw[shiftDown];split;· rfl
     ·rw[V,size_swp]
   have B:d3.size=n:=by
    rw[p];split
    ·rw[T];exact q
    ·exact q
   apply AK.join (Lc n a b i2 (s+1)) [bI n d3]
   ·intro out
    by_cases P:i2-a≥2
    ·rw[an P] at p;refine ah h [(61,true)] 200 rfl ?_ ?_
     ·simp only[aa,aJ,av,af,ae];and_intros <;> omega
     refine AK.jU (S2:=Unit) 4 rfl rfl (λ_=>True) (λ_=>Lc n a b i2 (s+1)) (λ_=>[bI n d3]) 1 (λs:Nat×Array Int=>s.2.size=n/\s.1<b/\shiftDown ltInt s.1 s.2=d3) (λs2=>Lc n a b i2 (s+1)++[(9,dI s2.1)]) (λs=>[bI n s.2]) (λs=>s.1) (i2-1,d2) rfl ?_ rfl ?_ rfl ⟨q,by simp only;omega,p.symm⟩ ?_ ?_
     ·simp only[aa.cat,aa,af,ae];omega
     ·simp[aa.cat,aa,au]
     ·rintro m ⟨j,d4⟩ ⟨l,J,g⟩;simp only at l J g
      by_cases t:1<=j
      ·have z:((j:Int)-1).toNat=j-1:=by omega
       cases o:ltInt d4[j]! d4[j-1]! with
       |true =>
        refine ah h [(65,true),(77,true)] 200 rfl ?_ (AK.ay (j-1,swp d4 j (j-1)) rfl ?_ rfl rfl rfl ?_ rfl ?_ ?_)
        ·simp only[aa,aw,aF,z,o,aJ,av,af,ae];and_intros <;> omega
        ·simp only[aa.cat,aa,af,ae];omega
        ·simp only[aa.cat,aa,aw,aF,z,ae,af];exact gb l (by omega) (by omega) (λ_ _=>rfl)
        ·exact⟨by rw[size_swp];exact l,by simp only;omega,by rw[<-g,HG t o]⟩
        ·simp only;omega
       |false =>
        refine ah h [(65,true),(77,false)] 200 rfl ?_ (AK.leaveD rfl rfl ?_)
        ·simp only[aa,aw,aF,z,o,aJ,av,af,ae];and_intros <;> omega
        have e:d3=d4:=by rw[<-g];exact zx λ_=>o
        exact m () ab rfl (by simp[aa.cat,aa]) rfl (by simp[aa.cat,aa,au,e])
      ·refine ah h [(65,false)] 200 rfl ?_ (AK.leaveD rfl rfl ?_)
       ·simp only[aa,aZ];omega
       have e:d3=d4:=by rw[<-g];exact zx λx=>absurd x t
       exact m () ab rfl (by simp[aa.cat,aa]) rfl (by simp[aa.cat,aa,au,e])
     rintro⟨⟩ -;refine ah h [(1000018,true)] 200 rfl ab ?_;exact out _ _ rfl (by simp[aa.cat,aa])
    ·rw[ak P] at p;rw[<-p];refine ah h [(61,false),(1000018,true)] 200 rfl ?_ ?_
     ·simp only[aa,aJ,aZ,af,ae];and_intros <;> omega
     exact out _ _ rfl (by simp[aa.cat,aa])
   by_cases N:b-i2≥2
   ·rw[an N] at f;obtain⟨d5,D⟩:∃ d5,shiftUp ltInt b (i2+1) d3=d5:=⟨_,rfl⟩;rw[D] at f;refine ah h [(98,true)] 200 rfl ?_ ?_
    ·simp only[aa,aJ,av,af,ae];and_intros <;> omega
    refine AK.jU (S2:=Unit) 6 rfl rfl (λ_=>d5.size=n) (λ_=>Lc n a b i2 (s+1)) (λ_=>[bI n d5]) 1 (λs:Nat×Array Int=>s.2.size=n/\1<=s.1/\s.1<=b/\shiftUp ltInt b s.1 s.2=d5) (λs2=>Lc n a b i2 (s+1)++[(10,dI s2.1)]) (λs=>[bI n s.2]) (λs=>b-s.1) (i2+1,d3) rfl ?_ rfl ?_ rfl ⟨B,by simp only;omega,by simp only;omega,D⟩ ?_ ?_
    ·simp only[aa.cat,aa,af,ae];omega
    ·simp[aa.cat,aa,au]
    ·rintro m ⟨j,d4⟩ ⟨l,t,J,g⟩;simp only at l t J g
     by_cases G:j<b
     ·have z:((j:Int)-1).toNat=j-1:=by omega
      cases o:ltInt d4[j]! d4[j-1]! with
      |true =>
       refine ah h [(103,true),(115,true)] 200 rfl ?_ (AK.ay (j+1,swp d4 j (j-1)) rfl ?_ rfl rfl rfl ?_ rfl ?_ ?_)
       ·simp only[aa,aw,aF,z,o,aJ,av,af,ae];and_intros <;> omega
       ·simp only[aa.cat,aa,af,ae];omega
       ·simp only[aa.cat,aa,aw,aF,z,ae,af];exact gb l (by omega) (by omega) (λ_ _=>rfl)
       ·exact⟨by rw[size_swp];exact l,by simp only;omega,by simp only;omega,by rw[<-g,HH G o]⟩
       ·simp only;omega
      |false =>
       refine ah h [(103,true),(115,false)] 200 rfl ?_ (AK.leaveD rfl rfl ?_)
       ·simp only[aa,aw,aF,z,o,aJ,av,af,ae];and_intros <;> omega
       have e:d5=d4:=by rw[<-g];exact zy λ_=>o
       exact m () (by rw[e];exact l) rfl (by simp[aa.cat,aa]) rfl (by simp[aa.cat,aa,au,e])
     ·refine ah h [(103,false)] 200 rfl ?_ (AK.leaveD rfl rfl ?_)
      ·simp only[aa,aZ];omega
      have e:d5=d4:=by rw[<-g];exact zy λx=>absurd x G
      exact m () (by rw[e];exact l) rfl (by simp[aa.cat,aa]) rfl (by simp[aa.cat,aa,au,e])
    rintro⟨⟩ w;refine ah h [] 200 rfl ?_ (AK.ay (s,i2,d5) rfl ?_ rfl rfl rfl ?_ rfl ?_ ?_)
    ·simp only[aa,aJ];omega
    ·simp only[aa.cat,aa,af,ae];omega
    ·simp[aa.cat,aa,au]
    ·exact⟨w,by simp only;omega,by simp only;omega,by simp only;omega,f⟩
    ·simp only;omega
   ·rw[ak N] at f;refine ah h [(98,false)] 200 rfl ?_ (AK.ay (s,i2,d3) rfl ?_ rfl rfl rfl ?_ rfl ?_ ?_)
    ·simp only[aa,aJ,aZ,af,ae];and_intros <;> omega
    ·simp only[aa.cat,aa,af,ae];omega
    ·simp[aa.cat,aa,au]
    ·exact⟨B,by simp only;omega,by simp only;omega,by simp only;omega,f⟩
    ·simp only;omega
 rintro⟨⟩ I;refine ah h [] 200 rfl ab (AK.cZ [0] rfl ?_ rfl rfl rfl gB);simp[aa,aa.cat,I]
end Go.AM.R1
namespace Go.AM.R1
open Go.Proofs
open Go.Sort (swp pdq rd Rd Below SWO insertionSort heapSort breakPatterns choosePivot reverseRange partialInsertionSort partition partitionEqual Hint ltInt PermIn SortedIn)
variable {X:Cx Tryz.prog}
abbrev Y2(b:Bool):D:=dB b
abbrev P7(n a b c:Nat)(wb wp:Bool):Fr:=[(0,jI n),(1,dI a),(2,dI b),(3,dI c),(8,dB wb),(9,dB wp)]
theorem wz{h:Hint}:lu h=2↔h=.decreasing:=by cases h <;> simp[lu]
theorem q8{h:Hint}:lu h=1↔h=.increasing:=by cases h <;> simp[lu]
structure Ym where
 a:Nat
 b:Nat
 lim:Nat
 wb:Bool
 wp:Bool
 d:Array Int
theorem J8(n:Nat)(d:Array Int){a b:Nat}(h:d.size=n)(e:b<=n)(g:a<=n)(f:n<=1000000){r:Array Int}(c:r=insertionSort ltInt d a b):Ev X 86 [jI n,dI a,dI b] [bI n d] (.dH []) [bI n r]:=by
 subst c;exact Nj n d a b h e g f
theorem HI(n:Nat)(d:Array Int){a b:Nat}(i:d.size=n)(c:a<=b)(f:1<=b-a)(g:b<=n)(h:n<=1000000){r:Array Int}(e:r=heapSort ltInt d a b):Ev X 87 [jI n,dI a,dI b] [bI n d] (.dH []) [bI n r]:=by
 subst e;exact J9 n d a b i c f g h
set_option maxHeartbeats 8000000 in
theorem Nk(n:Nat)(G:n<=1000000):∀ (m:Nat)(d:Array Int)(a b lim:Nat),b-a<=m->d.size=n->a<=b->b<=n->lim<=100->Below ltInt a b d ->
  ∀ {x y z:Int},x=a->y=b->z=lim->∀ {R:Array Int},R=pdq ltInt d a b lim true true->Ev X 55 [jI n,dI x,dI y,dI z] [bI n d] (.dH []) [bI n R]:=by
 have k:aY X [(92,rK)]:=.cons uP .nil;have D:SWO ltInt:=Go.Sort.swo_ltInt;have Yn:=Go.Sort.partialInsertionSort_holds (lt:=ltInt);have Yo:=Go.Sort.partition_holds ltInt;have Yp:=Go.Sort.partitionEqual_holds ltInt;have Y:=Go.Sort.reverseRange_holds (α:=Int);have U:=Go.Sort.pdq_sorts ltInt;intro m
 induction m using Nat.strongRecOn with
 |_ m ih =>
 intro d a b lim hm hd Yq hb hl hB x y z hx hy hz R hR;subst hx hy hz;refine Ev.body Tryz.func55 rfl rfl rfl λhf=>?_
 refine ah k [] 200 rfl ab ?_;refine AK.bA 1 (λs:Ym=>s.d.size=n/\s.a<=s.b/\s.b<=n/\s.lim<=100/\s.b-s.a<=b-a/\Below ltInt s.a s.b s.d/\pdq ltInt s.d s.a s.b s.lim s.wb s.wp=R) (λs=>P7 n s.a s.b s.lim s.wb s.wp) (λs=>[bI n s.d]) (λs=>s.b-s.a) ⟨a,b,lim,true,true,d⟩ rfl ?_ rfl ?_ rfl ⟨hd,Yq,hb,hl,ar _,hB,hR.symm⟩ ?_
 ·simp[aa.cat,aa]
 ·simp[aa.cat,aa,au]
 clear hf hB hd hR;rintro⟨f,h,q,wb,wp,d1⟩ ⟨N,u,i,OJ,Le,hB,l⟩;simp only at N u i OJ Le hB l
 by_cases B:h-f<=12
 ·rw[Go.Sort.pdq_small B] at l;refine ah k [(23,true)] 200 rfl ?_ ?_
  ·simp only[aa,aJ,av];and_intros <;> omega
  refine AK.aC (J8 n d1 (a:=f) (b:=h) N i (by omega) G l.symm) [0] rfl rfl rfl rfl rfl rfl rfl rfl rfl rfl rfl ?_
  refine ah k [] 200 rfl ab (AK.jP (cv.mk [0] rfl ab rfl rfl rfl gB))
 by_cases Q:q=0
 ·rw[Go.Sort.pdq_heap B Q] at l;refine ah k [(23,false),(29,true)] 200 rfl ?_ ?_
  ·simp only[aa,aJ,aZ,eU];and_intros <;> omega
  refine AK.aC (HI n d1 (a:=f) (b:=h) N u (by omega) i G l.symm) [0] rfl rfl rfl rfl rfl rfl rfl rfl rfl rfl rfl ?_
  refine ah k [] 200 rfl ab (AK.jP (cv.mk [0] rfl ab rfl rfl rfl gB))
 have p:f<h:=by omega
 obtain⟨f1,f2,f3,f4,f5,f6,L,f8⟩:=Go.Sort.rd_facts (limit:=q) (wb:=wb) (wp:=wp) D Yn Y p (by rw[N];exact i) hB
 have fl:=Go.Sort.rd_lim_le (lt:=ltInt) (d:=d1) (a:=f) (b:=h) (limit:=q) (wb:=wb) (wp:=wp);have S:=Go.Sort.rd_dec (lt:=ltInt) (d:=d1) (a:=f) (b:=h) (limit:=q) (wb:=wb) (wp:=wp);have W:=Go.Sort.rd_not (lt:=ltInt) (d:=d1) (a:=f) (b:=h) (limit:=q) (wb:=wb) (wp:=wp);have I:=Go.Sort.rd_pi_yes (lt:=ltInt) (d:=d1) (a:=f) (b:=h) (limit:=q) (wb:=wb) (wp:=wp);have V:=Go.Sort.rd_pi_no (lt:=ltInt) (d:=d1) (a:=f) (b:=h) (limit:=q) (wb:=wb) (wp:=wp);have fc:=Go.Sort.rd_c (lt:=ltInt) (d:=d1) (a:=f) (b:=h) (limit:=q) (wb:=wb) (wp:=wp);have Yr:wb=false->(rd ltInt d1 f h q wb wp).d1=breakPatterns d1 f h/\(rd ltInt d1 f h q wb wp).lim=q-1:=by rintro rfl;exact Go.Sort.rd_false
 have Ys:wb=true->(rd ltInt d1 f h q wb wp).d1=d1/\(rd ltInt d1 f h q wb wp).lim=q:=by rintro rfl;exact Go.Sort.rd_true
 have F:=Go.Sort.pdq_done (lt:=ltInt) (d:=d1) (wb:=wb) (wp:=wp) B Q;have geq:=Go.Sort.pdq_eq (lt:=ltInt) (d:=d1) (wb:=wb) (wp:=wp) B Q;have C:=Go.Sort.pdq_left (lt:=ltInt) (d:=d1) (wb:=wb) (wp:=wp) B Q;have w:=Go.Sort.pdq_right (lt:=ltInt) (d:=d1) (wb:=wb) (wp:=wp) B Q;rw[N] at f1 f4 L;rw[l] at F geq C w;generalize rd ltInt d1 f h q wb wp=r at *
 apply AK.join (P7 n f h r.lim wb wp++[(10,dI ((h-f:Nat):Int))]) [bI n r.d1]
 ·intro out;cases wb with
  |false =>
   obtain⟨J,K⟩:=Yr rfl;refine ah k [(23,false),(29,false)] 200 rfl ?_ ?_
   ·simp only[aa,aJ,aZ,cD,bY];and_intros <;> omega
   refine AK.aC (HJ n d1 f h N u i G) [0] rfl rfl rfl rfl rfl rfl rfl rfl rfl rfl rfl ?_;rw[<-J];refine ah k [(1000010,true)] 200 rfl ?_ ?_
   ·simp only[aa,aJ];and_intros <;> omega
   exact out _ _ rfl (by simp only[aa.cat,aa,K,af,ae];and_intros <;> omega)
  |true =>
   obtain⟨J,K⟩:=Ys rfl;subst J;refine ah k [(23,false),(29,false),(1000010,true)] 200 rfl ?_ ?_
   ·simp only[aa,aJ,aZ,cD,bY];and_intros <;> omega
   exact out _ _ rfl (by simp only[aa.cat,aa,K,af,ae];and_intros <;> omega)
 refine ah k [] 200 rfl ab ?_;refine AK.aC (Ec n r.d1 f h u i (by omega) G) [0] rfl rfl rfl rfl rfl rfl rfl rfl rfl rfl rfl ?_
 rw[<-fc]
 apply AK.join (P7 n f h r.lim wb wp++[(10,dI ((h-f:Nat):Int)),(11,dI r.pivot),(12,dI (lu r.hint))]) [bI n r.d2]
 ·intro out
  by_cases v:r.c.2=.decreasing
  ·obtain⟨J,K,e3⟩:=S v;refine ah k [(50,true)] 200 rfl ?_ ?_
   ·simp only[aa,eU,wz];exact v
   refine AK.aC (Nl n r.d1 f h f1 (by omega) (by omega) i G) [0] rfl rfl rfl rfl rfl rfl rfl rfl rfl rfl rfl ?_
   rw[<-J];refine ah k [(1000015,true)] 200 rfl ?_ ?_
   ·simp only[aa,aJ];and_intros <;> omega
   exact out _ _ rfl (by simp only[aa.cat,aa,K,e3,lu,af,ae];and_intros <;> omega)
  ·obtain⟨J,K,e3⟩:=W v;rw[<-J];refine ah k [(50,false),(1000015,true)] 200 rfl ?_ ?_
   ·simp only[aa,cD,bY,wz];exact v
   exact out _ _ rfl (by simp only[aa.cat,aa,K,e3,af,ae])
 by_cases o:r.pi.2=true
 ·
  have t:(wb&&wp&&decide (r.hint=.increasing))=true:=by
   cases j:(wb&&wp&&decide (r.hint=.increasing)) with
   |true=>rfl
   |false=>rw[V j] at o;cases o
  have e:=I t;simp only[bq,av] at t;obtain⟨⟨rfl,rfl⟩,E⟩:=t;refine ah k [(67,true)] 200 rfl ?_ ?_
  ·simp only[aa,eU,q8];exact E
  refine AK.aC (uR n r.d2 f h f4 p i G) [0] rfl rfl rfl rfl rfl rfl rfl rfl rfl rfl rfl ?_;rw[<-e,o,<-F o];refine ah k [] 200 rfl ab (AK.jP (cv.mk [0] rfl ab rfl rfl rfl gB))
 rw[mj] at o
 apply AK.join (P7 n f h r.lim wb wp++[(10,dI ((h-f:Nat):Int)),(11,dI r.pivot)]) [bI n r.pi.1]
 ·intro out;cases j:(wb&&wp&&decide (r.hint=.increasing)) with
  |true =>
   have e:=I j;simp only[bq,av] at j;obtain⟨⟨rfl,rfl⟩,E⟩:=j;refine ah k [(67,true)] 200 rfl ?_ ?_
   ·simp only[aa,eU,q8];exact E
   refine AK.aC (uR n r.d2 f h f4 p i G) [0] rfl rfl rfl rfl rfl rfl rfl rfl rfl rfl rfl ?_;rw[<-e,o];refine ah k [(1000017,true)] 200 rfl ab ?_;exact out _ _ rfl (by simp[aa.cat,aa])
  |false =>
   have e:r.d2=r.pi.1:=by rw[V j]
   rw[e];cases wb with
   |false =>
    refine ah k [(1000017,true)] 200 rfl ab ?_;exact out _ _ rfl (by simp[aa.cat,aa])
   |true =>
    cases wp with
    |false =>
     refine ah k [(1000017,true)] 200 rfl ab ?_;exact out _ _ rfl (by simp[aa.cat,aa])
    |true =>
     refine ah k [(67,false),(1000017,true)] 200 rfl ?_ ?_
     ·simp only[aa,cD,bY,q8];simpa using j
     exact out _ _ rfl (by simp[aa.cat,aa])
 have ep:((f:Int)-1).toNat=f-1:=by omega
 cases j:(decide (f>0)&&!ltInt r.pi.1[f-1]! r.pi.1[r.pivot]!) with
 |true =>
  have A:=j;simp only[bq,av,jL] at A;obtain⟨M,O,H,Z,_⟩:=Go.Sort.round_eq (mid:=(partitionEqual ltInt r.pi.1 f h r.pivot).1) (d4:=(partitionEqual ltInt r.pi.1 f h r.pivot).2) D Yp A.1 f6.1 f6.2 (by rw[L];exact i) f8 A.2 rfl
  have g:=geq o j ⟨M,O⟩;refine ah k [(74,true),(85,false)] 200 rfl ?_ ?_
  ·simp only[aa,aw,aF,ep,A.2,aJ,av,af,ae];and_intros <;> omega
  refine AK.aC (Ed n r.pi.1 f h r.pivot L p i (by omega) G) [0] rfl rfl rfl rfl rfl rfl rfl rfl rfl rfl rfl ?_
  refine ah k [] 200 rfl ab (AK.ay ⟨(partitionEqual ltInt r.pi.1 f h r.pivot).1,h,r.lim,wb,wp,(partitionEqual ltInt r.pi.1 f h r.pivot).2⟩ rfl ?_ rfl rfl rfl ?_ rfl ?_ ?_)
  ·simp[aa.cat,aa]
  ·simp[aa.cat,aa,au]
  ·exact⟨by simp only;rw[H,L],O,i,by simp only;omega,by simp only;omega,Z,g.symm⟩
  ·simp only;omega
 |false =>
  obtain⟨M,O,H,Z,q5,q6,q7⟩:=Go.Sort.round_part (mid:=(partition ltInt r.pi.1 f h r.pivot).1) (ap:=(partition ltInt r.pi.1 f h r.pivot).2.1) (d4:=(partition ltInt r.pi.1 f h r.pivot).2.2) D Yo f6.1 f6.2 (by rw[L];exact i) f8 rfl
  apply AK.join (P7 n f h r.lim wb wp++[(10,dI ((h-f:Nat):Int)),(11,dI r.pivot)]) [bI n r.pi.1]
  ·intro out
   by_cases Yt:0<f
   ·have oV:ltInt r.pi.1[f-1]! r.pi.1[r.pivot]! = true:=by
     cases hl:ltInt r.pi.1[f-1]! r.pi.1[r.pivot]! with
     |true=>rfl
     |false=>rw[hl] at j;simp[Yt] at j
    refine ah k [(74,true),(85,true),(1000020,true)] 200 rfl ?_ ?_
    ·simp only[aa,aw,aF,ep,oV,aJ,av,af,ae];and_intros <;> omega
    exact out _ _ rfl (by simp[aa.cat,aa])
   ·refine ah k [(74,false),(1000020,true)] 200 rfl ?_ ?_
    ·simp only[aa,aZ];omega
    exact out _ _ rfl (by simp[aa.cat,aa])
  refine ah k [] 200 rfl ab ?_;refine AK.aC (Ka n r.pi.1 f h r.pivot L p i (by omega) G) [0] rfl rfl rfl rfl rfl rfl rfl rfl rfl rfl rfl ?_
  have gl:=C o j ⟨M,O⟩;have gr:=w o j ⟨M,O⟩;generalize partition ltInt r.pi.1 f h r.pivot=P at *;rw[L] at H
  by_cases T:P.1-f<h-P.1
  ·have g:=gl T;obtain⟨w1,w2⟩:=U D P.2.2 f P.1 r.lim true true M (by rw[H];omega) Z
   obtain⟨w3,_⟩:=q6 _ w1 w2;refine ah k [(113,true)] 200 rfl ?_ ?_
   ·simp only[aa,aJ,av,af,ae];and_intros <;> omega
   refine AK.aC (ih (P.1-f) (by omega) P.2.2 f P.1 r.lim (ar _) H M (by omega) (by omega) Z rfl rfl rfl rfl) [0] rfl rfl rfl rfl rfl rfl rfl rfl rfl rfl rfl ?_
   refine ah k [] 200 rfl ?_ (AK.ay ⟨P.1+1,h,r.lim,decide (P.1-f≥(h-f) / 8),P.2.1,pdq ltInt P.2.2 f P.1 r.lim true true⟩ rfl ?_ rfl rfl rfl ?_ rfl ?_ ?_)
   ·simp only[aa,aJ,af,ae];and_intros <;> omega
   ·simp only[aa.cat,aa,af,ae];refine⟨by omega,?_⟩
    rw[decide_eq_decide];omega
   ·simp[aa.cat,aa,au]
   ·exact⟨by simp only;rw[w1.1,H],by simp only;omega,i,by simp only;omega,by simp only;omega,w3,g.symm⟩
   ·simp only;omega
  ·have g:=gr T;obtain⟨w1,w2⟩:=U D P.2.2 (P.1+1) h r.lim true true (by omega) (by rw[H];omega) q5
   obtain⟨w3,_⟩:=q7 _ w1 w2;refine ah k [(113,false)] 200 rfl ?_ ?_
   ·simp only[aa,aJ,aZ,af,ae];and_intros <;> omega
   refine AK.aC (ih (h-(P.1+1)) (by omega) P.2.2 (P.1+1) h r.lim (ar _) H (by omega) i (by omega) q5 (x:=(P.1:Int)+1) (by omega) rfl rfl rfl) [0] rfl rfl rfl rfl rfl rfl rfl rfl rfl rfl rfl ?_
   refine ah k [] 200 rfl ?_ (AK.ay ⟨f,P.1,r.lim,decide (h-P.1≥(h-f) / 8),P.2.1,pdq ltInt P.2.2 (P.1+1) h r.lim true true⟩ rfl ?_ rfl rfl rfl ?_ rfl ?_ ?_)
   ·trivial
   ·simp only[aa.cat,aa,af,ae];rw[decide_eq_decide];omega
   ·simp[aa.cat,aa,au]
   ·exact⟨by simp only;rw[w1.1,H],by simp only;omega,by simp only;omega,by simp only;omega,by simp only;omega,w3,g.symm⟩
   ·simp only;omega
end Go.AM.R1
namespace Go.AM.R1
open Go.Proofs
variable {X:Cx Tryz.prog}
abbrev H8(s:az)(l:cQ)(es:Nat->List C):List aj:=NK s l [.buf 56 2 s.1.length (cP.fn s.1),.buf 39 2 s.2.1.length (cT.fn s.2.1),.buf 64 2 s.2.2.length es] (aB 3 s.1.length s.1.length) (aB 4 s.2.1.length s.2.1.length) (aB 5 s.2.2.length s.2.2.length)
abbrev XL(s:az)(l:cQ):Int×Int:=s.2.2.getD l.2.1.toNat (0,0)
abbrev xN(s:az)(l:cQ):Nat->List C:=mY (0+l.2.1.toNat) [.int .i64 (3-(s.2.2.getD (0+l.2.1.toNat) cH.bl).1),.int .i64 (s.2.2.getD (0+l.2.1.toNat) cH.bl).2] (cH.fn s.2.2)
theorem Dt(s:az)(l:cQ)(h:¬(0<=l.2.1/\l.2.1<s.2.2.length)):Ev X 48 [.e (.one (.ptr 6 0)),xH (qR l)] (H8 s l (cH.fn s.2.2)) (.dH []) (H8 s l (cH.fn s.2.2)):=by
 refine cf.tm (cf.mM (ι:=Unit) (res:=λ_=>.dH []) (σ':=λ_=>H8 s l (cH.fn s.2.2)) Tryz.func48 rfl rfl rfl (AK.of_code ?_))
 by_cases a:0<=l.2.1
 ·refine aq [(6,true),(15,false)] 100 rfl (by simp[aa,a];omega) ?_
  exact⟨(),.inr rfl,rfl,rfl,_,_,_,rfl,rfl,rfl,ab⟩
 ·refine aq [(6,false),(15,false)] 100 rfl (by simp[aa];omega) ?_
  exact⟨(),.inr rfl,rfl,rfl,_,_,_,rfl,rfl,rfl,ab⟩
abbrev QD:D:=.e (.one (.ptr 6 0))
abbrev Pr:D:=.e (.one (.ptr 6 2))
abbrev Vb(s:az):D:=.e (.one (aB 5 s.2.2.length s.2.2.length))
abbrev QE(s:az)(l:cQ):D:=.e (.one (.bp 5 (.el s.2.2.length 2 (0+l.2.1.toNat) 0)))
abbrev Vd(l:cQ):D:=xH [.int .i64 l.2.1,.int .i64 l.2.2.1,.str l.2.2.2]
abbrev Dr(s:az)(l:cQ):Int:=(s.2.2.getD (0+l.2.1.toNat) cH.bl).1
set_option maxHeartbeats 1000000 in
theorem Ds(s:az)(l:cQ)(d:0<=l.2.1)(f:l.2.1<s.2.2.length)(c:aJ .i64 (3-Dr s l)):Ev X 48 [.e (.one (.ptr 6 0)),xH (qR l)] (H8 s l (cH.fn s.2.2)) (.dH []) (H8 s l (xN s l)):=by
 refine cf.tm (cf.mM (ι:=Unit) (res:=λ_=>.dH []) (σ':=λ_=>H8 s l (xN s l)) Tryz.func48 rfl rfl rfl (AK.of_code ?_))
 refine aq [(6,true),(15,true),(1000001,true)] 100 rfl ?_ ?_
 ·simp only[aa];exact⟨bx (by omega),bx (by omega)⟩
 have b:0<=l.2.1/\l.2.1<((s.2.2.length:Nat):Int):=⟨d,f⟩;have a:s.2.2.length=s.2.2.length/\0+l.2.1.toNat<s.2.2.length:=⟨rfl,by omega⟩
 refine AK.I0 (ι:=Unit) nc 0 18 (λi=>Nat.ble 4 i&&Nat.ble i 15) (λi=>[.any,.any,.any,.any,Vd l,dI l.2.1,QD,QD,Pr,Vb s,Vd l,dI l.2.1,QE s l,QE s l,dI (Dr s l),dI (3-Dr s l)].getD i .any) (λ_ i=>[QD,QD,Pr,Vb s,.any,.any,.any,.any,.any,.any,.any,.any,.any,.any,.any,.any,QE s l,QE s l,.any].getD i .any)
  (λ_=>H8 s l (cH.fn s.2.2)) (λ_=>H8 s l (xN s l)) rfl rfl rfl rfl rfl rfl rfl rfl rfl rfl
  ⟨ab,ab,ab,ab,OA.bS tok aY.nil rfl,OA.bS tok aY.nil rfl,OA.bS tok aY.nil rfl,OA.bS tok aY.nil rfl,OA.bS tok aY.nil rfl,OA.bS tok aY.nil rfl,OA.bS tok aY.nil rfl,OA.bS tok aY.nil rfl,?_,OA.bS tok aY.nil rfl,?_,?_,ab,ab,ab,ab⟩
  (λ_=>⟨ab,OA.bS tok aY.nil rfl,OA.bS tok aY.nil rfl,OA.bS tok aY.nil rfl,OA.bS tok aY.nil rfl,OA.bS tok aY.nil rfl,OA.bS tok aY.nil rfl,OA.bS tok aY.nil rfl,OA.bS tok aY.nil rfl,OA.bS tok aY.nil rfl,OA.bS tok aY.nil rfl,OA.bS tok aY.nil rfl,?_,OA.bS tok aY.nil rfl,?_,?_,?_,OA.bS tok aY.nil rfl,ab⟩)
  (tI.rW (OA.bS tok aY.nil rfl)) (λ_=>?_) λ_=>?_
 ·exact OA.eval (ds:=[]) tok aY.nil rfl b
 ·exact OA.eval (ds:=[]) tok aY.nil rfl a
 ·exact OA.eval (ds:=[]) tok aY.nil rfl c
 ·exact OA.eval (ds:=[]) tok aY.nil rfl b
 ·exact OA.eval (ds:=[]) tok aY.nil rfl a
 ·exact OA.eval (ds:=[]) tok aY.nil rfl c
 ·exact OA.eval (ds:=[]) tok aY.nil rfl b
 ·exact gp (ds:=[]) tok aY.nil (σ':=some _) rfl a
 refine aA rfl ab ?_;exact⟨(),.inr rfl,rfl,rfl,_,_,_,rfl,rfl,rfl,ab⟩
theorem qi(s:az)(l:cQ)(a:fb s)(h:l.1=4)(es:Nat->List C)(b:Ev X 48 [.e (.one (.ptr 6 0)),xH (qR l)] (H8 s l (cH.fn s.2.2)) (.dH []) (H8 s l es)) :
  cf (ι:=Unit) X 5 [eH s,fX l] [] (λ_=>.e (.agg [aB 0 s.1.length s.1.length,aB 1 s.2.1.length s.2.1.length,aB 2 s.2.2.length s.2.2.length])) (λ_=>[.buf 56 2 s.1.length (cP.fn s.1),.buf 39 2 s.2.1.length (cT.fn s.2.1),.buf 64 2 s.2.2.length es]):=by
 refine cf.jz tok Tryz.func5 rfl rfl rfl λc=>?_
 refine aA rfl ab ?_;refine AK.aC (uu s a.p a.p2 a.sn a.s2 a.h) [] rfl rfl rfl rfl rfl rfl rfl rfl rfl rfl rfl ?_;refine aA rfl ab ?_;refine AK.aC (AS l h) [] rfl rfl rfl rfl rfl rfl rfl rfl rfl rfl rfl ?_;refine aA rfl ab ?_;refine AK.mq b.EM rfl rfl rfl rfl ?_ rfl ?_
 ·simp[aa,aa.cat]
 intro _;refine aA rfl ab ?_;refine AK.ez () [3,4,5] rfl rfl rfl rfl rfl rfl rfl rfl ?_ rfl rfl rfl rfl mP;simp[aa.cat,aa,au.same]
theorem qj(s:az)(l:cQ)(es:Nat->List C)(d:List (Int×Int))(f:d.length=s.2.2.length)(h:au s.2.2.length es (cH.fn d))
  (a:cf (ι:=Unit) X 5 [eH s,fX l] [] (λ_=>.e (.agg [aB 0 s.1.length s.1.length,aB 1 s.2.1.length s.2.1.length,aB 2 s.2.2.length s.2.2.length])) (λ_=>[.buf 56 2 s.1.length (cP.fn s.1),.buf 39 2 s.2.1.length (cT.fn s.2.1),.buf 64 2 s.2.2.length es])) :
  Ev X 5 [eH s,fX l] [] (eH (s.1,s.2.1,d)) []:=by
 have g:=cf.ib (σ1:=λ_:Unit=>[.buf 56 2 s.1.length (cP.fn s.1),.buf 39 2 s.2.1.length (cT.fn s.2.1)]) (E:=64) (k:=2) (n:=λ_=>s.2.2.length) (es:=λ_=>es) a (λ_=>rfl) (λ_=>?_) (λ_=>rfl) (λ_=>fH _)
 have b:=cf.ib (σ1:=λ_:Unit=>[.buf 56 2 s.1.length (cP.fn s.1)]) (E:=39) (k:=2) (n:=λ_=>s.2.1.length) (es:=λ_=>cT.fn s.2.1) g (λ_=>rfl) (λ_=>?_) (λ_=>rfl) (λ_=>fH _)
 have c:=cf.ib (σ1:=λ_:Unit=>[]) (E:=56) (k:=2) (n:=λ_=>s.1.length) (es:=λ_=>cP.fn s.1) b (λ_=>rfl) (λ_=>?_) (λ_=>rfl) (λ_=>ar _)
 refine(c.le (res':=λ_=>eH (s.1,s.2.1,d)) (λ_=>rfl) (λ_=>?_)).one
 ·simp only[aa.cat,aa,ae,af];refine⟨au.same,au.same,f.symm,?_⟩;intro i hi;exact h i (by first|exact hi|(rw[<-f];exact hi))
 ·simp[aa.cat,aa]
 ·simp[aa.cat,aa]
 ·simp[aa.cat,aa]
theorem xI(s:az)(l:cQ)(a:fb s)(h:l.1=4)(b:0<=l.2.1)(d:l.2.1<s.2.2.length)(c:aJ .i64 (3-Dr s l)) :
  Ev X 5 [eH s,fX l] [] (eH (s.1,s.2.1,s.2.2.set (0+l.2.1.toNat) (3-Dr s l,(s.2.2.getD (0+l.2.1.toNat) cH.bl).2))) [] :=
 qj s l _ _ (by simp) (cH.uv s.2.2 (0+l.2.1.toNat) (3-Dr s l,(s.2.2.getD (0+l.2.1.toNat) cH.bl).2) s.2.2.length (ar _)) (qi s l a h _ (Ds s l b d c))
theorem xJ(s:az)(l:cQ)(a:fb s)(h:l.1=4)(b:¬(0<=l.2.1/\l.2.1<s.2.2.length)):Ev X 5 [eH s,fX l] [] (eH s) [] :=
 qj s l _ s.2.2 rfl au.same (qi s l a h _ (Dt s l b))
end Go.AM.R1
namespace Go.AM.R1
open Go.Proofs
open Go.Sort (pdq bitsLen ltInt Below)
variable {X:Cx Tryz.prog}
def uS(l:List Int):List Int:=l.mergeSort λx y=>decide (x<=y)
theorem kl(l:List Int):(uS l).length=l.length:=List.length_mergeSort _
theorem HK(l:List Int):pdq ltInt l.toArray 0 l.length (bitsLen l.length) true true=(uS l).toArray:=by
 have h:=Go.Sort.sortInt l;unfold Go.Sort.sort at h;rw[mh] at h;exact gy (by rw[h];rfl)
theorem P8(l:List Int):eI l.toArray=cI.fn l:=by
 funext j
 simp only[eI,gN.fn,qT,cI,List.getD_eq_getElem?_getD];simp
abbrev H9(n:Nat)(l:List Int):aj:=.buf 3 1 n (cI.fn l)
theorem HL(l:List Int)(a:l.length<=1000000):Ev X 25 [jI l.length] [H9 l.length l] (.dH []) [H9 l.length (uS l)]:=by
 refine Ev.body Tryz.func25 rfl rfl rfl λb=>?_
 refine cE rfl (by simp only[aa,aJ];and_intros <;> omega) ?_
 refine AK.aC (HM l.length a) [] rfl rfl rfl rfl rfl rfl rfl rfl rfl rfl rfl ?_;refine cE rfl ab ?_;have c:=jl (x:=l.length) (k:=20) (by simp;omega)
 have key:Ev X 55 [jI l.length,dI 0,dI l.length,dI (bitsLen l.length)] [H9 l.length l] (.dH []) [H9 l.length (uS l)]:=by
  have:=Nk (X:=X) l.length a l.length l.toArray 0 l.length (bitsLen l.length) (by omega) (by simp) (by omega) (ar _) (by omega) (.inl rfl) (x:=0) rfl rfl rfl (HK l).symm
  simp only[bI,P8] at this;exact this
 refine AK.aC key [0] rfl rfl rfl rfl rfl rfl rfl rfl rfl rfl rfl ?_;refine cE rfl ab ?_;exact cv.rY [0] rfl ab rfl rfl rfl gB
def jm(l:List Int):Nat->List Int
 |0=>[]
 |j+1=>if j≠0/\l.getD j 0=l.getD (j-1) 0 then jm l j else jm l j++[l.getD j 0]
def dm(l:List Int):List Int:=jm l l.length
theorem uT(l:List Int):∀ j,(jm l j).length<=j
 |0=>ar _
 |j+1=>by
  have:=uT l j;simp only[jm];split
  ·omega
  ·simp;omega
theorem zz(l:List Int):∀ j,1<=(jm l (j+1)).length
 |0=>by simp[jm]
 |j+1=>by
  have:=zz l j;rw[jm];split
  ·exact this
  ·simp
theorem oA{l:List Int}:∀ {k:Nat},k<=l.length->(∀ i,1<=i->i<k->l.getD i 0≠l.getD (i-1) 0)->jm l k=l.take k
 |0,_,_=>by simp[jm]
 |k+1,d,h=>by
  rw[jm,ak,oA (by omega) λi b e=>h i b (by omega),bt (by omega) 0]
  rintro⟨c,a⟩;exact h k (by omega) (by omega) a
structure Yu (l:List Int)(k0:Nat)(k2:Nat)(ys:List Int):Prop where
 h1:1<=k2
 hj:k0+k2<=l.length
 len:ys.length=l.length
 lt:(jm l (k0+k2)).length<k0+k2
 done:ys.take (jm l (k0+k2)).length=jm l (k0+k2)
 rest:∀ i,k0+k2<=i+1->ys.getD i 0=l.getD i 0
abbrev HN(a:List Int):Type:={ es:Nat->List C // ∀ i,i<a.length->es i=cI.fn a i }
set_option maxHeartbeats 2000000 in
theorem Bj(l:List Int)(K:l.length<=1000000):cf (ι:=HN (dm l)) X 26 [jI l.length] [H9 l.length l] (λ_=>.e (.one (.bp 0 (.sl l.length 1 0 (dm l).length)))) (λes=>[.buf 3 1 l.length es.1]):=by
 refine cf.m7 Tryz.func26 rfl rfl rfl λL=>?_
 by_cases o:l.length<2
 ·have n:dm l=l:=by
   unfold dm;rw[oA (ar _) λi _ _=>by omega,cm]
  refine aq [(8,true)] 200 rfl (by simp only[aa,av];omega) (AK.jF ⟨cI.fn l,λi _=>by rw[n]⟩ (AK.cZ [0] rfl ?_ rfl rfl rfl gB))
  simp[aa,n]
 refine aq [(8,false)] 200 rfl (by simp only[aa,aZ];omega) ?_
 refine AK.jU (S2:=Unit) 0 rfl rfl (λ_=>dm l=l) (λ_=>[(0,jI l.length)]) (λ_=>[H9 l.length l]) 1 (λk:Nat=>1<=k/\k<=l.length/\∀ i,1<=i->i<k->l.getD i 0≠l.getD (i-1) 0) (λk=>[(0,jI l.length),(3,dI k)]) (λ_=>[H9 l.length l]) (λk=>l.length-k) 1 rfl ?_ rfl ?_ rfl ⟨ar _,by omega,λi y o=>by omega⟩ ?_ ?_
 ·simp[aa.cat,aa]
 ·simp[aa.cat,aa,au.same]
 ·rintro out k ⟨F,M,d⟩
  by_cases I:k<l.length
  ·have w:((k:Int)-1).toNat=k-1:=by omega
   have z:∀ j,l.getD j cI.bl=l.getD j 0:=λ_=>rfl
   by_cases g:l.getD k 0=l.getD (k-1) 0
   ·refine aq [(13,true),(25,true)] 200 rfl ?_ ?_
    ·simp only[aa,aw,aF,w,z,g,aJ,av,fG,af,ae];and_intros <;> omega
    have H:=oA (l:=l) (by omega) d
    have u:jm l (k+1)=l.take k:=by rw[jm,an ⟨by omega,g⟩,H]
    refine AK.jU (S2:=List Int) 2 rfl rfl (λc=>c.length=l.length/\c.take (dm l).length=dm l) (λ_=>[(0,jI l.length),(3,dI (dm l).length)]) (λc=>[H9 l.length c]) 1 (λs:Nat×List Int=>Yu l k s.1 s.2) (λs=>[(0,jI l.length),(3,dI (jm l (k+s.1)).length),(4,.e (.one (.bp 0 (.sl l.length 1 k (l.length-k))))),(5,dI s.1)]) (λs=>[H9 l.length s.2]) (λs=>l.length-s.1) (1,l) rfl ?_ rfl ?_ rfl ?_ ?_ ?_
    ·simp only[aa.cat,aa,u,List.length_take,bT,aw,aF,af,ae];exact⟨by omega,rfl,rfl⟩
    ·simp[aa.cat,aa,au.same]
    ·exact⟨ar _,by omega,rfl,by rw[u,List.length_take];omega,by rw[u];simp[sD],λ_ _=>rfl⟩
    ·rintro p ⟨b,c⟩ ⟨J,c2,c3,c4,h,m⟩;simp only at J c2 c3 c4 h m
     by_cases C:k+b<l.length
     ·have A:((b:Int)-1).toNat=b-1:=by omega
      have t:∀ j,c.getD j cI.bl=c.getD j 0:=λ_=>rfl
      have v:c.getD (k+b) 0=l.getD (k+b) 0:=m _ (by omega)
      have B:c.getD (k+(b-1)) 0=l.getD (k+(b-1)) 0:=m _ (by omega)
      by_cases q:l.getD (k+b) 0=l.getD (k+(b-1)) 0
      ·have f:jm l (k+(b+1))=jm l (k+b):=by
        rw[show k+(b+1)=k+b+1 by omega,jm,an ⟨by omega,by rw[q,show k+b-1=k+(b-1) by omega]⟩]
       refine aq [(32,true),(44,false)] 200 rfl ?_ (AK.ay (b+1,c) rfl ?_ rfl rfl rfl ?_ rfl ?_ ?_)
       ·simp only[aa,aw,aF,A,t,v,B,q,aJ,av,ma,iu,fG,af,ae];and_intros <;> first|trivial|omega
       ·simp only[aa.cat,aa,f,af,ae];omega
       ·simp[aa.cat,aa,au.same]
       ·exact⟨by simp only;omega,by simp only;omega,c3,by simp only;rw[f];omega,by simp only;rw[f];exact h,λi hi=>m i (by simp only at hi;omega)⟩
       ·simp only;omega
      ·have f:jm l (k+(b+1))=jm l (k+b)++[l.getD (k+b) 0]:=by
        rw[show k+(b+1)=k+b+1 by omega,jm,ak]
        rintro⟨_,g⟩;exact q (by rw[g,show k+b-1=k+(b-1) by omega])
       refine aq [(32,true),(44,true)] 200 rfl ?_ (AK.ay (b+1,c.set (jm l (k+b)).length (l.getD (k+b) 0)) rfl ?_ rfl rfl rfl ?_ rfl ?_ ?_)
       ·simp only[aa,aw,aF,A,t,v,B,aJ,av,jL,cD,oa,bY,af,ae];and_intros <;> first|exact q|omega
       ·simp only[aa.cat,aa,f,ba,cM,ef,af,ae];and_intros <;> omega
       ·have e:=cI.uv c (jm l (k+b)).length (l.getD (k+b) 0) l.length (by omega)
        simp only[aa.cat,aa,aw,aF,t,v,ae,af];exact e
       ·refine⟨by simp only;omega,by simp only;omega,by simp[c3],by simp only;rw[f,ba];simp;omega,?_,λi hi=>?_⟩
        ·simp only;rw[f,ba,show ∀ a:Int,[a].length=1 fromλ_=>rfl,g7,List.take_set,wE (by simp;omega),h,bk (by omega)]
         rfl
        ·simp only at hi ⊢;rw[List.getD_eq_getElem?_getD,b6 (by omega),<-List.getD_eq_getElem?_getD]
         exact m i (by omega)
       ·simp only;omega
     ·have E:k+b=l.length:=by omega
      have x:jm l (k+b)=dm l:=by rw[E];rfl
      refine aq [(32,false)] 200 rfl ?_ (AK.leaveD rfl rfl ?_)
      ·simp only[aa,aZ];omega
      rw[x] at h;exact p c ⟨c3,h⟩ rfl (by simp[aa.cat,aa,x]) rfl (by simp[aa.cat,aa,au.same])
    rintro c ⟨D,r⟩;have G:(dm l).length<=l.length:=uT l _;refine cE rfl ?_ ?_
    ·simp only[aa];exact⟨by omega,by omega⟩
    refine AK.law (aM.zW tok rfl rfl rfl rfl rfl rfl ?_) rfl rfl ?_
    ·simp only[bT,aF];omega
    refine aA rfl ?_ (AK.jP ⟨⟨nC (0+bT 0 (some ((dm l).length:Int))) (0+bT 0 (some ((dm l).length:Int))+(bT l.length none-bT 0 (some ((dm l).length:Int)))) i3.zero (cI.fn c),λi hi=>?_⟩,cv.mk [0] rfl ?_ rfl rfl rfl gB⟩)
    ·simp only[aa];exact⟨by omega,by omega⟩
    ·have e:c[i]?=(dm l)[i]?:=by rw[<-r,de,an hi]
     refine(ph (by simp only[bT,aF];omega)).trans ?_
     simp only[gN.fn,qT,List.getD_eq_getElem?_getD,e]
    ·simp[aa,bT];rfl
   ·refine aq [(13,true),(25,false)] 200 rfl ?_ (AK.ay (k+1) rfl ?_ rfl rfl rfl ?_ rfl ?_ ?_)
    ·simp only[aa,aw,aF,w,z,aJ,av,cD,bY,af,ae];and_intros <;> first|exact g|omega
    ·simp[aa.cat,aa]
    ·simp[aa.cat,aa,au.same]
    ·refine⟨by omega,by omega,λi y o=>?_⟩
     rcases fE.1 o with o|rfl
     ·exact d i y o
     ·exact g
    ·omega
  ·obtain rfl:k=l.length:=by omega
   refine aq [(13,false)] 200 rfl (by simp[aa]) (AK.leaveD rfl rfl ?_)
   exact out () (by unfold dm;rw[oA (ar _) d,cm]) rfl (by simp[aa.cat,aa]) rfl (by simp[aa.cat,aa,au.same])
 rintro⟨⟩ n;refine cE rfl ab (AK.jF ⟨cI.fn l,λi _=>by rw[n]⟩ (AK.cZ [0] rfl ?_ rfl rfl rfl gB))
 simp[aa,n]
end Go.AM.R1
namespace Go.AM.R1
open Go.Proofs
variable {X:Cx Tryz.prog}
def bU(l:List iG):List Int:=l.flatMap (·.2)
def fN(x:cB):List Int:=dm (uS (bU x.2))
theorem x6{l:List iG}{i:Nat}(h:i<l.length):bU (l.take (i+1))=bU (l.take i)++(l.getD i ([],[])).2:=by
 rw[bt h ([],[])];simp[bU]
theorem _root_.Go.AM.gN.Nm{α:Type}(c:gN α)(a b:List α)(n:Nat)(d:n=(a++b).length):au n (cj a.length (c.fn a) (c.fn b)) (c.fn (a++b)):=by
 intro i hi;simp only[cj,gN.fn,qT,List.getD_eq_getElem?_getD];subst d
 by_cases h:i<a.length
 ·rw[an h,bc h]
 ·rw[ak h,ck (by omega)]
theorem vm(x:cB)(o:x.2.length<=1000000)(k:(bU x.2).length<=1000000)(m:∀ i,i<=x.2.length->(bU (x.2.take i)).length<=1000000) :
  cf (ι:=HN (fN x)) X 9 [Cd x] [] (λ_=>.e (.one (.bp 0 (.sl (bU x.2).length 1 0 (fN x).length)))) (λes=>[.buf 3 1 (bU x.2).length es.1]):=by
 refine cf.m7 Tryz.func9 rfl rfl rfl λn=>?_
 refine aq [(1000002,true)] 200 rfl ab ?_;refine AK.OY 3 3 1 (cI.fn []) rfl ?_;refine cE rfl ab ?_;refine AK.bA 2 (λi=>i<=x.2.length) (λi:Nat=>[(3,.e (.one (.bp 1 (.sl (bU (x.2.take i)).length 1 0 (bU (x.2.take i)).length)))),(7,cL.sl x.2),(8,dI x.2.length),(9,dI i)])
  (λi=>[.cells 39 [.c (.int .i64 x.1),.c (.sl false 2 x.2.length (cL.fn x.2))],H9 (bU (x.2.take i)).length (bU (x.2.take i))]) (λi=>x.2.length-i) 0 rfl ?_ rfl ?_ rfl (by omega) ?_
 ·simp[aa.cat,aa,au.same,bU]
 ·simp[aa.cat,aa,au,bU]
 intro i hi
 by_cases h:i<x.2.length
 ·have f:x.2.getD (i:Int).toNat cL.bl=x.2.getD i ([],[]):=by rw[aF];rfl
  have a:=x6 h;have d:=m (i+1) h;rw[a,ba] at d;refine aq [(10,true)] 200 rfl ?_ (AK.ay (i+1) rfl ?_ rfl rfl rfl ?_ rfl ?_ ?_)
  ·simp only[aa,f,aJ,show i3.bytes=8 from rfl,av,af,ae];and_intros <;> omega
  ·simp only[aa.cat,aa,f,a,ba,ae,af]
   and_intros <;> first|exact au.same|rfl|omega
  ·have e:=cI.Nm (bU (x.2.take i)) (x.2.getD i ([],[])).2 _ rfl;simp only[aa.cat,aa,f,a,ba,ae,af] at e ⊢;exact⟨au.same,e⟩
  ·show i+1<=_;omega
  ·omega
 ·obtain rfl:i=x.2.length:=by omega
  rw[cm];refine aq [(10,false)] 200 rfl (by simp[aa]) (AK.leaveD rfl rfl ?_)
  refine cE rfl ab ?_;refine AK.aC (HL (bU x.2) k) [1] rfl rfl rfl rfl rfl rfl rfl rfl rfl rfl rfl ?_;refine cE rfl ab ?_;have g:=Bj (X:=X) (uS (bU x.2)) (by rw[kl];exact k)
  rw[kl] at g;refine AK.bZ g [1] rfl rfl rfl rfl rfl rfl rfl (λ_=>rfl) rfl (λ_=>rfl) rfl ?_
  rintro⟨es,b⟩;refine cE rfl ab (AK.jF ⟨es,b⟩ (AK.cZ [1] rfl ?_ rfl rfl rfl (λj l=>absurd l (by simp))))
  simp[aa,fN]
theorem ra(l:List iG)(i:Nat):(bU (l.take i)).length<=(bU l).length:=by
 have h:bU l=bU (l.take i)++bU (l.drop i):=by
  unfold bU;rw[<-sk,nu]
 rw[h,ba];omega
theorem x7(l:List Int):(dm l).length<=l.length:=uT l _
theorem xZ(x:cB)(d:x.2.length<=1000000)(c:(bU x.2).length<=1000000):Ev X 9 [Cd x] [] (cI.sl (fN x)) []:=by
 have a:=vm (X:=X) x d c λi _=>er (ra _ _) c
 have b:=cf.ib (σ1:=λ_:HN (fN x)=>[]) (E:=3) (k:=1) (n:=λ_=>(bU x.2).length) (es:=λes=>es.1) a (λ_=>rfl) (λ_=>?_) (λ_=>rfl) (λ_=>ar _)
 refine(b.le (res':=λ_=>cI.sl (fN x)) (λ_=>rfl) (λes=>?_)).one
 ·simp only[aa.cat,aa,ae,af];exact es.2
 ·have:(fN x).length<=(bU x.2).length:=by unfold fN;rw[<-kl (bU x.2)];exact x7 _
  simpa[aa.cat,aa] using this
theorem oN(x:cB):(fN x).length=0↔(bU x.2).length=0:=by
 unfold fN;rw[<-kl (bU x.2)];cases h:uS (bU x.2) with
 |nil=>simp[dm,jm]
 |cons y r =>
  have:=zz (y::r) r.length
  constructor
  ·intro h;exact absurd h (by unfold dm;rw[cM];omega)
  ·intro h;simp at h
theorem MH(n lo hi:Int):Ev X 21 [dI n,dI lo,dI hi] [] (dB (decide (lo<=n/\n<=hi))) []:=by
 refine Ev.body Tryz.func21 rfl rfl rfl λc=>?_
 by_cases b:lo<=n
 ·by_cases a:n<=hi
  ·refine aq [(10,true),(14,true)] 100 rfl (by simp[aa];omega) (AK.aK rfl ?_)
   simp[aa,b,a]
  ·refine aq [(10,true),(14,false)] 100 rfl (by simp[aa];omega) (AK.aK rfl ?_)
   simp[aa];omega
 ·refine aq [(10,false),(14,false)] 100 rfl (by simp[aa];omega) (AK.aK rfl ?_)
  simp[aa];omega
abbrev za:c7:=El aI aI aI (λn lo hi=>dB (decide (lo<=n/\n<=hi))) λ_ _ _=>[]
theorem AX:dw X 21 za:=.Mn λn lo hi _=>MH n lo hi
theorem Dy(n:Nat)(f:n<=1000000):Ev X 150 [dI n] [] (dI (bH n)) []:=by
 refine Ev.body Tryz.func150 rfl rfl rfl λe=>?_
 by_cases c:n<1
 ·refine aq [(6,true),(9,true)] 100 rfl (by simp[aa];omega) (AK.aK rfl ?_)
  have:bH n=0:=by simp[bH,c]
  simp[aa,this]
 by_cases d:8<n
 ·refine aq [(6,false),(9,true)] 100 rfl (by simp[aa];omega) (AK.aK rfl ?_)
  have:bH n=0:=by simp[bH,d]
  simp[aa,this]
 by_cases a:n<=2
 ·refine aq [(6,false),(9,false),(10,true)] 100 rfl (by simp[aa];omega) (AK.aK rfl ?_)
  have:bH n=2:=by simp only[bH,ak (show ¬(n<1∨8<n) by omega),an a]
  simp[aa,this]
 by_cases b:n<=4
 ·refine aq [(6,false),(9,false),(10,false),(13,true)] 100 rfl (by simp[aa];omega) (AK.aK rfl ?_)
  have:bH n=4:=by simp only[bH,ak (show ¬(n<1∨8<n) by omega),ak a,an b]
  simp[aa,this]
 ·refine aq [(6,false),(9,false),(10,false),(13,false)] 100 rfl (by simp[aa];omega) (AK.aK rfl ?_)
  have:bH n=8:=by simp only[bH,ak (show ¬(n<1∨8<n) by omega),ak a,ak b]
  simp[aa,this]
theorem JB(l:List Bs)(p:Bs)(g:l.length<=1000000):Ev X 103 [cS.sl l,dS p] [] (dB (l.contains p)) []:=by
 refine Ev.body Tryz.func103 rfl rfl rfl λf=>?_
 refine aA rfl ab ?_;refine AK.bA 0 (λi=>i<=l.length/\∀ j,j<i->l.getD j []≠p) (λi:Nat=>[(0,cS.sl l),(1,dS p),(5,dI i)]) (λ_=>[]) (λi=>l.length-i) 0 rfl ?_ rfl ?_ rfl ⟨by omega,by omega⟩ ?_
 ·simp[aa.cat,aa,au.same]
 ·simp[aa]
 rintro i ⟨hi,a⟩
 by_cases h:i<l.length
 ·have d:l.getD (i:Int).toNat cS.bl=l.getD i []:=by rw[aF];rfl
  by_cases c:l.getD i []=p
  ·refine aq [(9,true),(17,true)] 100 rfl ?_ (AK.jP (cv.zero rfl ?_))
   ·simp only[aa,d];exact⟨eU.2 c,by omega,by omega,bx (by omega)⟩
   ·have:p∈l:=by rw[<-c,List.getD_eq_getElem?_getD,ai h];exact bJ h
    simp[aa,this]
  ·refine aq [(9,true),(17,false)] 100 rfl ?_ (AK.ay (i+1) rfl ?_ rfl rfl rfl ?_ rfl ?_ ?_)
   ·simp only[aa,d,aJ];exact⟨by omega,cD.2 c,by omega,by omega,bx (by omega)⟩
   ·simp[aa.cat,aa,au.same]
   ·simp[aa]
   ·refine⟨by omega,λj b=>?_⟩
    rcases fE.1 b with b|rfl
    ·exact a j b
    ·exact c
   ·omega
 ·refine aq [(9,false)] 100 rfl (by simp[aa];omega) (AK.leaveD rfl rfl ?_)
  refine aA rfl ab (AK.aK rfl ?_);have:¬p∈l:=λe=>by
   obtain⟨j,b,rfl⟩:=cJ e;exact absurd (by simp[List.getD_eq_getElem?_getD,ai b]) (a j (by omega))
  simp[aa,this]
theorem GG(p:Bs)(b:aR p=true):Ev X 149 [dS p] [] (dI (codeOf p)) []:=by
 refine Ev.body Tryz.func149 rfl rfl rfl λf=>?_
 have a:=b;simp only[aR,bq,av] at a;refine aA rfl ab ?_;refine AK.bA 0 (λi=>i<=p.length) (λi:Nat=>[(0,dS p),(3,dI (codeOf (p.take i))),(4,dI i)]) (λ_=>[]) (λi=>p.length-i) 0 rfl (by simp[aa.cat,aa,codeOf]) rfl (by simp[aa]) rfl (by omega) ?_
 intro i hi
 by_cases h:i<p.length
 ·have k:=iF b hi;have g:=iF b (i:=i+1) (by omega)
  have e:=ry h;have j:=ic a.2 (p.getD i 0) (ue h);have d:97<=bL p i/\bL p i<=122:=by unfold bL;omega
  refine aq [(8,true)] 100 rfl ?_ (AK.ay (i+1) rfl ?_ rfl rfl rfl ?_ rfl ?_ ?_)
  ·simp only[aa,bX,aJ];simp[-List.getD_eq_getElem?_getD,h,bX];omega
  ·have c:(bL p i-97) % 256=bL p i-97:=kY (by omega) (by omega)
   rw[c] at e;simp[-List.getD_eq_getElem?_getD,aa.cat,aa,bX,e]
  ·simp[aa]
  ·show i+1<=p.length;omega
  ·show p.length-(i+1)<p.length-i;omega
 ·obtain rfl:i=p.length:=by omega
  refine aq [(8,false)] 100 rfl (by simp[aa]) (AK.leaveD rfl rfl ?_)
  refine aA rfl ab (AK.aK rfl ?_);simp[aa]
theorem MI:dw X 149 (nn aS (λp=>dI (codeOf p)) λp=>[aR p=true]):=.vP λp h=>GG p h
theorem GH(k:Int)(p:Bs)(c:b5 k=true)(b:aR p=true):Ev X 102 [dI k,dS p] [] (dI (eB k p)) []:=by
 refine Ev.body Tryz.func102 rfl rfl rfl λh=>?_
 have d:aY X [(149,nn aS (λp=>dI (codeOf p)) λp=>[aR p=true])]:=.cons MI .nil
 have a:=c;simp only[b5,bq,av] at a;have f:=qN b;refine ah d [] 100 rfl ?_ (AK.aK rfl ?_)
 ·have e:0<=codeOf p*(2*k+1):=Int.mul_nonneg f.1 (by omega)
  have g:codeOf p*(2*k+1)<=282429536481*199:=Int.mul_le_mul (by omega) (by omega) (by omega) (by omega)
  generalize codeOf p*(2*k+1)=m at e g;simp only[aa,aJ];simp[b];omega
 ·show (_:Int)=_;rfl
theorem AY:dw X 102 (qO aI aS (λk p=>dI (eB k p)) λk p=>[b5 k=true,aR p=true]):=.xz λk p h=>GH k p h.1 h.2
theorem GI(l:List cq) (n:Int)(g:l.length<=1000000):Ev X 101 [m6.sl l,dI n] [] (dI (rC l n)) []:=by
 refine Ev.body Tryz.func101 rfl rfl rfl λf=>?_
 refine aA rfl ab ?_;refine AK.bA 0 (λi=>i<=l.length/\∀ j,j<i->(l.getD j (0,0)).1≠n) (λi:Nat=>[(0,m6.sl l),(1,dI n),(5,dI i)]) (λ_=>[]) (λi=>l.length-i) 0 rfl ?_ rfl ?_ rfl ⟨by omega,by omega⟩ ?_
 ·simp[aa.cat,aa,au.same]
 ·simp[aa]
 rintro i ⟨hi,a⟩
 by_cases h:i<l.length
 ·have d:l.getD (i:Int).toNat m6.bl=l.getD i (0,0):=by rw[aF];rfl
  by_cases c:(l.getD i (0,0)).1=n
  ·refine aq [(9,true),(18,true)] 100 rfl ?_ (AK.jP (cv.zero rfl ?_))
   ·simp only[aa,d];exact⟨by omega,by omega,eU.2 c,by omega,by omega,bx (by omega)⟩
   ·have:rC l n=(l.getD i (0,0)).2:=by
     have:l.find? (λs=>s.1==n)=some (l.getD i (0,0)):=by
      rw[wC];refine⟨by simpa using c,i,h,by simp[List.getD_eq_getElem?_getD,ai h],λj b=>?_⟩
      have:=a j b;simpa[List.getD_eq_getElem?_getD,ai (show j<l.length by omega)] using this
     rw[rC,this]
    simp only[aa,d];rw[this]
  ·refine aq [(9,true),(18,false)] 100 rfl ?_ (AK.ay (i+1) rfl ?_ rfl rfl rfl ?_ rfl ?_ ?_)
   ·simp only[aa,d,aJ];exact⟨by omega,cD.2 c,by omega,by omega,bx (by omega)⟩
   ·simp[aa.cat,aa,au.same]
   ·simp[aa]
   ·refine⟨by omega,λj b=>?_⟩
    rcases fE.1 b with b|rfl
    ·exact a j b
    ·exact c
   ·omega
 ·refine aq [(9,false)] 100 rfl (by simp[aa];omega) (AK.leaveD rfl rfl ?_)
  refine aA rfl ab (AK.aK rfl ?_);have:rC l n=0:=by
   have:l.find? (λs=>s.1==n)=none:=by
    rw[kW];intro x e;obtain⟨j,b,rfl⟩:=cJ e;have:=a j (by omega)
    simpa[List.getD_eq_getElem?_getD,ai b] using this
   rw[rC,this]
  simp[aa,this]
theorem AZ{n:Nat}(b:1<=n)(a:n<=8):n<=bH n/\bH n<=8:=by
 unfold bH;rw[ak (by omega)]
 split
 ·omega
 ·split <;> omega
abbrev Cl:c7:=nn aI (λn=>dI (bH n.toNat)) λn=>[0<=n/\n<=1000000]
theorem JC:dw X 150 Cl:=.vP λn h=>by
 obtain⟨m,rfl⟩:∃ m:Nat,n=m:=⟨n.toNat,by have:=h.1;omega⟩
 exact Dy m (by have:=h.2;omega)
theorem JD(p:Bs)(c:aR p=true):Ev X 107 [dS p] [] (dS (gF p)) []:=by
 refine Ev.body Tryz.func107 rfl rfl rfl λd=>?_
 have b:aY X [(150,Cl)]:=.cons JC .nil;have a:=c;simp only[aR,bq,av] at a;have g:=AZ a.1.1 a.1.2;refine ah b [] 100 rfl ?_ ?_
 ·simp only[aa];omega
 refine AK.bA 0 (λj=>p.length+j<=bH p.length) (λj:Nat=>[(0,dS (p++List.replicate j 46)),(3,dI (bH p.length))]) (λ_=>[]) (λj=>bH p.length-j) 0 rfl (by simp[aa.cat,aa]) rfl (by simp[aa]) rfl (by omega) ?_
 intro j f
 by_cases h:p.length+j<bH p.length
 ·refine ah b [(10,true)] 100 rfl ?_ (AK.ay (j+1) rfl ?_ rfl rfl rfl ?_ rfl ?_ ?_)
  ·simp[aa];omega
  ·simp[aa.cat,aa,List.replicate_succ']
  ·simp[aa]
  ·show p.length+(j+1)<=_;omega
  ·show bH p.length-(j+1)<bH p.length-j;omega
 ·have e:bH p.length-p.length=j:=by omega
  refine ah b [(10,false)] 100 rfl (by simp[aa];omega) (AK.leaveD rfl rfl ?_)
  refine ah b [] 100 rfl ab (AK.aK rfl ?_);simp[aa,gF,c,e]
theorem GJ(s:cq):Ev X 104 [.e (.agg [.c (.int .i64 s.1),.c (.int .i64 s.2)])] [] (dB (jg s)) []:=by
 refine Ev.body Tryz.func104 rfl rfl rfl λf=>?_
 have d:aY X [(21,za)]:=.cons AX .nil
 by_cases a:0<=s.1/\s.1<=999999999988
 ·by_cases b:1<=s.2/\s.2<=99
  ·refine ah d [(6,true),(10,true)] 100 rfl (by simp[aa,a,b]) (AK.aK rfl ?_)
   have:jg s=true:=by simp[jg,a,b];omega
   simp[aa,this]
  ·refine ah d [(6,true),(10,false)] 100 rfl (by simp[aa,a,b] <;> omega) (AK.aK rfl ?_)
   have:jg s=false:=by simp[jg,a];omega
   simp[aa,this]
 ·refine ah d [(6,false),(10,false)] 100 rfl (by simp[aa];omega) (AK.aK rfl ?_)
  have:jg s=false:=by simp[jg];omega
  simp[aa,this]
abbrev GK:c7:=nn U0 (λs=>dB (jg s)) λ_=>[]
theorem MJ:dw X 104 GK:=.vP λs _=>GJ s
theorem GL(s:Bs)(i:Nat)(b:bj s=true)(k:3<=i)(hi:i<=s.length)(j:s.length<=1000000):Ev X 180 [dS s,dI i] [] (dB (j5 s i)) []:=by
 refine Ev.body Tryz.func180 rfl rfl rfl λf=>?_
 have g:=Dd b (i-1) (by omega)
 have l:=Dd b (i-2) (by omega)
 have h:=Dd b (i-3) (by omega)
 have c:((gJ s ((i:Int)-1)).toNat:Int)=bL s (i-1):=by rw[bX,show ((i:Int)-1).toNat=i-1 by omega]
 have d:((gJ s ((i:Int)-2)).toNat:Int)=bL s (i-2):=by rw[bX,show ((i:Int)-2).toNat=i-2 by omega]
 have e:((gJ s ((i:Int)-3)).toNat:Int)=bL s (i-3):=by rw[bX,show ((i:Int)-3).toNat=i-3 by omega]
 refine aA rfl ?_ (AK.aK rfl ?_)
 ·simp only[aa,aJ,c,d,e];omega
 ·simp only[aa,aa.cat,c,d,e,j5,dl,ae];rw[kY (a:=bL s (i-1)-97) (by omega) (by omega),kY (a:=bL s (i-2)-97) (by omega) (by omega),kY (a:=bL s (i-3)-97) (by omega) (by omega)]
abbrev GM:c7:=qO aS aI (λs i=>dB (j5 s i.toNat)) λs i=>[bj s=true,3<=i,i<=s.length,s.length<=1000000]
theorem MK:dw X 180 GM:=.xz λs i h=>by
 obtain⟨a,c,d,b⟩:=h;obtain⟨m,rfl⟩:∃ m:Nat,i=m:=⟨i.toNat,by omega⟩
 exact GL s m a (by omega) (by omega) b
theorem ML(t:Bs)(f:Nat)(g:bj t=true)(n:f<=t.length)(q:t.length<=1000000):Ev X 170 [dS t,dI f] [] (dI (cutAt t f)) []:=by
 refine Ev.body Tryz.func170 rfl rfl rfl λo=>?_
 have b:aY X [(180,GM)]:=.cons MK .nil;refine ah b [] 100 rfl ab ?_;refine AK.lV (λj=>j<=5/\qP t f (5-j)=cutAt t f) (λj:Nat=>[(0,dS t),(1,dI f),(5,dI (3+j))]) (λ_=>[]) (λj=>5-j) 0 rfl ?_ rfl ab ⟨by omega,rfl⟩ ?_
 ·simp[aa,aa.cat]
 rintro j ⟨p,a⟩
 by_cases h:j<5
 ·obtain⟨k,m⟩:∃ k,5-j=k+1:=⟨4-j,by omega⟩
  have d:f+(7-k)=f+3+j:=by omega
  rw[m] at a;simp only[qP,d] at a
  by_cases i:t.length<=f+3+j
  ·rw[an i] at a;refine ah b [(7,true),(15,true)] 100 rfl ?_ (AK.jC (cv.zero rfl ?_))
   ·simp only[aa,aJ,av,af,ae];omega
   ·simp[aa,aa.cat,<-a]
  rw[ak i] at a;have e:((f:Int)+(3+(j:Int))).toNat=f+3+j:=by omega
  cases c:j5 t (f+3+j) with
  |true =>
   rw[c,an rfl] at a;refine ah b [(7,true),(15,false),(22,true)] 100 rfl ?_ (AK.jC (cv.zero rfl ?_))
   ·simp only[aa,aJ,e,c,g,av,aZ,af,ae];omega
   ·simp[aa,aa.cat,<-a];omega
  |false =>
   rw[c,ak (by simp)] at a
   refine ah b [(7,true),(15,false),(22,false)] 100 rfl ?_ (AK.gK (j+1) rfl ?_ rfl ab ⟨by omega,by rw[<-a];congr 1;omega⟩ (by omega))
   ·simp only[aa,aJ,e,c,g,av,aZ,af,ae];omega
   ·simp[aa,aa.cat];omega
 ·have e:cutAt t f=min (f+8) t.length:=by
   rw[<-a,show 5-j=0 by omega];rfl
  have l:aJ .i64 ((min (f+8) t.length:Nat):Int):=by simp only[aJ];omega
  refine ah b [(7,false)] 100 rfl ?_ (AK.leave rfl rfl ?_)
  ·simp only[aa,aJ,av,aZ];omega
  refine ah b [] 100 rfl ?_ ?_
  ·simp only[aa,aJ];omega
  refine AK.law (xB ((min (f+8) t.length:Nat):Int) rfl rfl rfl (by omega) l) rfl rfl ?_
  refine ah b [] 100 rfl ab (AK.aK rfl ?_);simp[aa,e]
abbrev Ps:c7:=qO aS aI (λs i=>dI (cutAt s i.toNat)) λs i=>[bj s=true,0<=i,i<=s.length,s.length<=1000000]
theorem SV:dw X 170 Ps:=.xz λs i h=>by
 obtain⟨a,c,d,b⟩:=h;obtain⟨m,rfl⟩:∃ m:Nat,i=m:=⟨i.toNat,by omega⟩
 exact ML s m a (by omega) b
abbrev jW(t:Bs):List Int:=(xS t).map λn:Nat=>(n:Int)
theorem GN(t:Bs)(l:bj t=true)(p:t.length<=1000000):Ev X 148 [dS t] [] (cI.sl (jW t)) []:=by
 refine Ev.body Tryz.func148 rfl rfl rfl λo=>?_
 have a:aY X [(170,Ps)]:=.cons SV .nil;refine ah a [(1000003,true)] 100 rfl ab ?_;refine AK.iS 3 3 1 rfl rfl ?_;refine ah a [] 100 rfl ab ?_;refine AK.bA 1 (λs:Nat×List Int=>s.1<=t.length/\s.2.length<=s.1/\∃ k,t.length<=s.1+k/\jW t=s.2++(ln t k s.1).map λn:Nat=>(n:Int)) (λs=>[(0,dS t),(3,.e (.one (.vec 0 1 s.2.length (cI.fn s.2)))),(4,dI s.1)]) (λs=>[.vec 3 1 s.2.length (cI.fn s.2)]) (λs=>t.length-s.1) (0,[]) rfl ?_ rfl ?_ rfl ⟨by simp,by simp,t.length,by simp,by simp[jW,xS]⟩ ?_
 ·simp[aa.cat,aa,au.same,au.nil]
 ·simp[aa.cat,aa,au.same,au.nil]
 rintro⟨f,acc⟩ ⟨d,b,k,j,c⟩;simp only at d b j c
 by_cases h:f<t.length
 ·obtain⟨k,rfl⟩:∃ k',k=k'+1:=⟨k-1,by omega⟩
  have m:=nS t f h;have g:=cI.b9 acc (cutAt t f:Int);have i:acc.length+1=(acc++[(cutAt t f:Int)]).length:=by simp
  refine ah a [(9,true)] 100 rfl ?_ (AK.ay (cutAt t f,acc++[(cutAt t f:Int)]) rfl ?_ rfl rfl rfl ?_ rfl ?_ ?_)
  ·simp only[aa,l,show i3.bytes=8 from rfl,av,af,ae]
   and_intros <;> omega
  ·exact aa.cat.2 ⟨rfl,aa.cat.2 ⟨⟨i,g⟩,aa.cat.2 ⟨rfl,ab⟩⟩⟩
  ·exact aa.cat.2 ⟨⟨i,g⟩,ab⟩
  ·refine⟨m.2.1,by simp;omega,k,by simp only;omega,?_⟩
   rw[c];simp only[ln,an h];simp
  ·simp only;omega
 ·have e:jW t=acc:=by
   have:ln t k f=[]:=by cases k <;> simp[ln,h]
   rw[c,this];simp
  refine ah a [(9,false)] 100 rfl (by simp only[aa,aZ];omega) (AK.leaveD rfl rfl ?_)
  refine ah a [] 100 rfl ab (AK.aK rfl ?_);rw[e];simp[aa,aa.cat,au.same]
abbrev GO:c7:=nn aS (λt=>cI.sl (jW t)) λt=>[bj t=true,t.length<=1000000]
theorem MM:dw X 148 GO:=.vP λt h=>GN t h.1 h.2
theorem drop_cons{α:Type}{l r:List α}{i:Nat}{x:α}(h:l.drop i=x::r)(d:α):i<l.length/\l.getD i d=x/\l.drop (i+1)=r:=by
 have a:i<l.length:=by
  rcases bz i l.length with a|a
  ·exact a
  ·rw[wH a] at h;cases h
 rw[List.drop_eq_getElem_cons a] at h;simp only[List.cons.injEq] at h;refine⟨a,?_,h.2⟩;rw[List.getD_eq_getElem?_getD,ai a];exact h.1
theorem vU(t:Bs):∀ k f,(ln t k f).length<=k
 |0,_=>ar _
 |k+1,f=>by
  simp only[ln];split
  ·have:=vU t k (cutAt t f);simp;omega
  ·simp
theorem JE(t:Bs)(z:bj t=true)(v:t.length<=1000000):Ev X 100 [dS t] [] (cS.sl (pieces t)) []:=by
 refine Ev.body Tryz.func100 rfl rfl rfl λC=>?_
 have g:aY X [(148,GO)]:=.cons MM .nil;have B:(jW t).length<=t.length:=by simp only[jW,ku];exact vU t _ _
 refine ah g [(1000002,true)] 100 rfl ab ?_;refine AK.iS 3 9 1 rfl rfl ?_;refine ah g [] 100 rfl (by simp only[aa,z];exact⟨ab,v⟩) ?_
 refine AK.bA 1 (λs:Nat×Nat×List Bs=>s.1<=(jW t).length/\s.2.1<=t.length/\s.2.2.length<=s.1/\∃ k,t.length<=s.2.1+k/\(jW t).drop s.1=((ln t k s.2.1).map λn:Nat=>(n:Int))/\pieces t=s.2.2++fg t k s.2.1) (λs=>[(0,dS t),(3,.e (.one (.vec 0 1 s.2.2.length (cS.fn s.2.2)))),(4,dI s.2.1),(5,cI.sl (jW t)),(6,dI s.1)]) (λs=>[.vec 9 1 s.2.2.length (cS.fn s.2.2)]) (λs=>(jW t).length-s.1) (0,0,[]) rfl ?_ rfl ?_ rfl ⟨by simp,by simp,by simp,t.length,by simp,by simp[jW,xS],by simp[pieces]⟩ ?_
 ·simp[aa.cat,aa,au.same,au.nil]
 ·simp[aa.cat,aa,au.same,au.nil]
 rintro⟨i,f,acc⟩ ⟨hi,p,j,k,y,c,o⟩;simp only at hi p j y c o
 by_cases h:i<(jW t).length
 ·have d:ln t k f≠[]:=by
   intro e;rw[e] at c;have:=gj (i:=i) (l:=jW t);rw[c] at this;simp at this;simp only[jW,ku] at h;omega
  obtain⟨k,rfl⟩:∃ k',k=k'+1:=by
   cases k with
   |zero=>exact absurd rfl d
   |succ k=>exact⟨k,rfl⟩
  have a:f<t.length:=by
   rcases bz f t.length with h|h
   ·exact h
   ·exact absurd (by simp only[ln,ak (show ¬f<t.length by omega)]) d
  simp only[ln,an a,j0] at c;obtain⟨_,x,g2⟩:=drop_cons c 0;have A:=nS t f a;have m:(jW t).getD (i:Int).toNat cI.bl=(cutAt t f:Int):=by rw[aF];exact x
  have b:qD t (some (f:Int)) (some (cutAt t f:Int))=(t.drop f).take (cutAt t f-f):=by simp[qD,List.drop_take]
  have u:=cS.b9 acc ((t.drop f).take (cutAt t f-f));have r:acc.length+1=(acc++[(t.drop f).take (cutAt t f-f)]).length:=by simp
  refine ah g [(13,true)] 100 rfl ?_ (AK.ay (i+1,cutAt t f,acc++[(t.drop f).take (cutAt t f-f)]) rfl ?_ rfl rfl rfl ?_ rfl ?_ ?_)
  ·simp only[aa,m,aJ,jc,show i9.bytes=16 from rfl,av,af,ae]
   and_intros <;> omega
  ·simp only[aa.cat,aa,m,b,af,ae]
   and_intros <;> first|exact r|exact u|exactλ_ _=>rfl|omega
  ·simp only[aa.cat,aa,m,b,af,ae]
   and_intros <;> first|exact r|exact u
  ·refine⟨by simp only;omega,A.2.1,by simp;omega,k,by simp only;omega,g2,?_⟩
   rw[o];simp only[fg,an a];simp
  ·simp only;omega
 ·have e:pieces t=acc:=by
   have q:ln t k f=[]:=by
    rw[wH (by omega)] at c
    exact List.map_eq_nil_iff.1 c.symm
   have a:¬f<t.length:=by
    intro w;cases k with
    |zero=>omega
    |succ k=>simp only[ln,an w] at q;cases q
   rw[o];cases k <;> simp[fg,a]
  refine ah g [(13,false)] 100 rfl (by simp only[aa,aZ];omega) (AK.leaveD rfl rfl ?_)
  refine ah g [] 100 rfl ab (AK.aK rfl ?_);rw[e];simp[aa,aa.cat,au.same]
abbrev GP:c7:=nn aS (λt=>cS.sl (pieces t)) λt=>[bj t=true,t.length<=1000000]
theorem KT:dw X 100 GP:=.vP λt h=>JE t h.1 h.2
theorem _root_.Go.AM.gN.zd{α:Type}(c:gN α)(l:List α)(x y:α):au (l.length+1+1) (cj (l.length+1) (cj l.length (c.fn l) λq=>[c.enc x].getD q []) λq=>[c.enc y].getD q []) (c.fn (l++[x,y])):=by
 have h1:=c.b9 l x;have h2:=c.b9 (l++[x]) y;rw[show (l++[x]).length=l.length+1 by simp,show l++[x]++[y]=l++[x,y] by simp] at h2
 intro q a;rw[<-h2 q a];simp only[cj]
 by_cases e:q<l.length+1
 ·rw[an e,an e];exact h1 q e
 ·rw[ak e,ak e]
abbrev S5(x:bD):D:=.e (.agg [.c (.int .i64 x.1),.c (.str x.2)])
def iL(x:bD)(acc:List bD×Bool)(y:bD):List bD×Bool:=if acc.2=true then (acc.1++[y],true) else if x.1<y.1 then (acc.1++[x,y],true) else (acc.1++[y],false)
theorem we(x:bD):∀ (l:List bD)(a:List bD),(l.foldl (iL x) (a,true))=(a++l,true)
 |[],a=>by simp
 |y::r,a=>by
  rw[ir,show iL x (a,true) y=(a++[y],true) from rfl,we x r]
  simp
theorem wh(x:bD):∀ (l:List bD)(a:List bD),(if (l.foldl (iL x) (a,false)).2=true then (l.foldl (iL x) (a,false)).1 else (l.foldl (iL x) (a,false)).1++[x])=a++nk l x
 |[],a=>by simp[nk]
 |y::r,a=>by
  rw[ir]
  by_cases h:x.1<y.1
  ·rw[show iL x (a,false) y=(a++[x,y],true) by simp[iL,h],we]
   simp[nk,h]
  ·rw[show iL x (a,false) y=(a++[y],false) by simp[iL,h],wh x r]
   simp[nk,h]
theorem wi(x:bD):∀ (l:List bD)(a:List bD×Bool),(l.foldl (iL x) a).1.length<=a.1.length+l.length+1-(if a.2=true then 1 else 0)
 |[],a=>by simp only[sE,ef];split <;> omega
 |y::r,a=>by
  rw[ir];have:=wi x r (iL x a y);unfold iL at this ⊢;split at this
  ·rename_i h;simp[h] at this ⊢;omega
  ·rename_i h
   split at this
   ·rename_i b;simp[h,b] at this ⊢;omega
   ·rename_i b;simp[h,b] at this ⊢;omega
abbrev qm(x:bD)(l:List bD)(i:Nat):List bD×Bool:=(l.take i).foldl (iL x) ([],false)
theorem DN{x:bD}{l:List bD}{i:Nat}(h:i<l.length):qm x l (i+1)=iL x (qm x l i) (l.getD i (0,[])):=by
 unfold qm;rw[bt h (0,[]),mi];rfl
theorem ze(x:bD)(l:List bD)(i:Nat):(qm x l i).1.length<=l.length+1:=by
 have:=wi x (l.take i) ([],false);simp only[List.length_take,ef,gI,aW] at this;show ((l.take i).foldl (iL x) ([],false)).1.length<=_;omega
abbrev XQ(l:List bD)(x:bD)(i:Nat)(a:List bD×Bool):Fr:=[(0,dO.sl l),(3,.e (.one (.ptr 0 0))),(5,.e (.one (.vec 1 2 a.1.length (dO.fn a.1)))),(6,dB a.2),(7,dI i)]
abbrev XR(x:bD)(a:List bD):List aj:=[.cells 62 [.c (.int .i64 x.1),.c (.str x.2)],.vec 62 2 a.length (dO.fn a)]
set_option maxHeartbeats 1000000 in
theorem JL(l:List bD)(x:bD)(q:l.length<=1000000):Ev X 106 [dO.sl l,S5 x] [] (dO.sl (nk l x)) []:=by
 refine Ev.body Tryz.func106 rfl rfl rfl λp=>?_
 refine aq [(1000002,true)] 200 rfl ab ?_;refine AK.iS 5 62 2 rfl rfl ?_;refine cE rfl ab ?_;refine AK.bA 2 (λi=>i<=l.length) (λi:Nat=>XQ l x i (qm x l i)) (λi=>XR x (qm x l i).1) (λi=>l.length-i) 0 rfl ?_ rfl ?_ rfl (by omega) ?_
 ·simp[aa.cat,aa,au.same,au.nil,qm]
 ·simp[aa.cat,aa,au.same,au.nil,qm]
 intro i hi
 by_cases h:i<l.length
 ·have n:=DN (x:=x) h;have e:=ze x l i;have g:l.getD (i:Int).toNat dO.bl=l.getD i (0,[]):=by rw[aF];rfl
  generalize qm x l i=a at n e;obtain⟨a,b⟩:=a;simp only at e;have k:=dO.b9 a (l.getD i (0,[]));have m:=dO.zd a x (l.getD i (0,[]));cases b with
  |true =>
   have d:qm x l (i+1)=(a++[l.getD i (0,[])],true):=n;have j:a.length+1=(a++[l.getD i (0,[])]).length:=by simp
   refine aq [(12,true)] 200 rfl ?_ (AK.ay (i+1) rfl ?_ rfl rfl rfl ?_ rfl ?_ ?_)
   ·simp only[aa,g,aJ,show i62.bytes=24 from rfl,av,af,ae];and_intros <;> omega
   ·rw[d];simp only[aa.cat,aa,g,af,ae]
    and_intros <;> first|exact j|exact k|exactλ_ _=>rfl|rfl|omega
   ·rw[d];simp only[aa.cat,aa,g,af,ae]
    and_intros <;> first|exact j|exact k|exactλ_ _=>rfl|rfl|omega
   ·show i+1<=_;omega
   ·omega
  |false =>
   by_cases f:x.1<(l.getD i (0,[])).1
   ·have d:qm x l (i+1)=(a++[x,l.getD i (0,[])],true):=by rw[n];simp only[iL,an f];rfl
    have j:a.length+1+1=(a++[x,l.getD i (0,[])]).length:=by simp
    refine aq [(12,true),(25,true)] 200 rfl ?_ (AK.ay (i+1) rfl ?_ rfl rfl rfl ?_ rfl ?_ ?_)
    ·simp only[aa,g,aJ,show i62.bytes=24 from rfl,f,mn,av,af,ae];and_intros <;> omega
    ·rw[d];simp only[aa.cat,aa,g,af,ae]
     and_intros <;> first|exact j|exact m|exactλ_ _=>rfl|rfl|omega
    ·rw[d];simp only[aa.cat,aa,g,af,ae]
     and_intros <;> first|exact j|exact m|exactλ_ _=>rfl|rfl|omega
    ·show i+1<=_;omega
    ·omega
   ·have d:qm x l (i+1)=(a++[l.getD i (0,[])],false):=by rw[n];simp only[iL,ak f];rfl
    have j:a.length+1=(a++[l.getD i (0,[])]).length:=by simp
    refine aq [(12,true),(25,false)] 200 rfl ?_ (AK.ay (i+1) rfl ?_ rfl rfl rfl ?_ rfl ?_ ?_)
    ·simp only[aa,g,aJ,show i62.bytes=24 from rfl,av,f,k5,mg,aZ,af,ae];and_intros <;> omega
    ·rw[d];simp only[aa.cat,aa,g,af,ae]
     and_intros <;> first|exact j|exact k|exactλ_ _=>rfl|rfl|omega
    ·rw[d];simp only[aa.cat,aa,g,af,ae]
     and_intros <;> first|exact j|exact k|exactλ_ _=>rfl|rfl|omega
    ·show i+1<=_;omega
    ·omega
 ·obtain rfl:i=l.length:=by omega
  have c:=wh x l [];have e:=ze x l l.length;refine aq [(12,false)] 200 rfl (by simp[aa]) (AK.leaveD rfl rfl ?_)
  have o:qm x l l.length=l.foldl (iL x) ([],false):=by unfold qm;rw[cm]
  rw[o] at e ⊢;generalize l.foldl (iL x) ([],false)=a at *;obtain⟨a,b⟩:=a;simp only[sz] at c e;cases b with
  |true =>
   simp only[aX] at c;subst c;refine cE rfl ab (AK.aK rfl ?_);simp[aa,aa.cat,au.same]
  |false =>
   simp only[gI,aW] at c;have k:=dO.b9 a x;refine cE rfl ?_ (AK.aK rfl ?_)
   ·simp only[aa,show i62.bytes=24 from rfl,af,ae];and_intros <;> omega
   ·rw[<-c];simp only[aa.cat,aa,af,ae]
    and_intros <;> first|exact k|simp
abbrev KX:c7:=qO (aL dO) O4 (λl x=>dO.sl (nk l x)) λl _=>[l.length<=1000000]
theorem PD:dw X 106 KX:=.xz λl x h=>JL l x h
abbrev S6(x:cq):D:=.e (.agg [.c (.int .i64 x.1),.c (.int .i64 x.2)])
def dy(x:cq)(acc:List cq×Bool)(y:cq):List cq×Bool :=
 if acc.2=true then (if y.1=x.1 then acc else (acc.1++[y],true)) else if x.1<=y.1 then (if y.1=x.1 then (acc.1++[x],true) else (acc.1++[x,y],true)) else (acc.1++[y],false)
theorem ox(x:cq):∀ (l:List cq)(a:List cq),(l.foldl (dy x) (a,true))=(a++l.filter λz=>!(z.1==x.1),true)
 |[],a=>by simp
 |y::r,a=>by
  rw[ir]
  by_cases h:y.1=x.1
  ·rw[show dy x (a,true) y=(a,true) by simp[dy,h],ox x r]
   simp[h]
  ·rw[show dy x (a,true) y=(a++[y],true) by simp[dy,h],ox x r]
   simp[h]
theorem wj(x:cq):∀ (l:List cq)(a:List cq),(if (l.foldl (dy x) (a,false)).2=true then (l.foldl (dy x) (a,false)).1 else (l.foldl (dy x) (a,false)).1++[x])=a++oF l x
 |[],a=>by simp[oF]
 |y::r,a=>by
  rw[ir]
  by_cases h:x.1<=y.1
  ·have c:¬y.1<x.1:=by omega
   by_cases b:y.1=x.1
   ·rw[show dy x (a,false) y=(a++[x],true) by simp[dy,b],ox]
    simp[oF,b]
   ·rw[show dy x (a,false) y=(a++[x,y],true) by simp[dy,h,b],ox]
    simp[oF,c,b]
  ·have c:y.1<x.1:=by omega
   rw[show dy x (a,false) y=(a++[y],false) by simp[dy,h],wj x r]
   simp[oF,c]
theorem wm(x:cq):∀ (l:List cq)(a:List cq×Bool),(l.foldl (dy x) a).1.length<=a.1.length+l.length+1-(if a.2=true then 1 else 0)
 |[],a=>by simp only[sE,ef];split <;> omega
 |y::r,a=>by
  rw[ir];have c:=wm x r (dy x a y);obtain⟨a,b⟩:=a;simp only[cM];cases b with
  |true =>
   by_cases d:y.1=x.1
   ·rw[show dy x (a,true) y=(a,true) by simp[dy,d]] at c ⊢
    simp at c ⊢;omega
   ·rw[show dy x (a,true) y=(a++[y],true) by simp[dy,d]] at c ⊢
    simp at c ⊢;omega
  |false =>
   by_cases h:x.1<=y.1
   ·by_cases d:y.1=x.1
    ·rw[show dy x (a,false) y=(a++[x],true) by simp[dy,d]] at c ⊢
     simp at c ⊢;omega
    ·rw[show dy x (a,false) y=(a++[x,y],true) by simp[dy,h,d]] at c ⊢
     simp at c ⊢;omega
   ·rw[show dy x (a,false) y=(a++[y],false) by simp[dy,h]] at c ⊢
    simp at c ⊢;omega
abbrev oG(x:cq)(l:List cq)(i:Nat):List cq×Bool:=(l.take i).foldl (dy x) ([],false)
theorem DO{x:cq}{l:List cq}{i:Nat}(h:i<l.length):oG x l (i+1)=dy x (oG x l i) (l.getD i (0,0)):=by
 unfold oG;rw[bt h (0,0),mi];rfl
theorem zf(x:cq)(l:List cq)(i:Nat):(oG x l i).1.length<=l.length+1:=by
 have:=wm x (l.take i) ([],false);simp only[List.length_take,ef,gI,aW] at this;show ((l.take i).foldl (dy x) ([],false)).1.length<=_;omega
abbrev XS(l:List cq)(x:cq)(i:Nat)(a:List cq×Bool):Fr:=[(0,m6.sl l),(3,.e (.one (.ptr 0 0))),(5,.e (.one (.vec 1 2 a.1.length (m6.fn a.1)))),(6,dB a.2),(7,dI i)]
abbrev XT(x:cq)(a:List cq):List aj:=[.cells 156 [.c (.int .i64 x.1),.c (.int .i64 x.2)],.vec 156 2 a.length (m6.fn a)]
set_option maxHeartbeats 2000000 in
theorem JM(l:List cq)(x:cq)(q:l.length<=1000000):Ev X 105 [m6.sl l,S6 x] [] (m6.sl (oF l x)) []:=by
 refine Ev.body Tryz.func105 rfl rfl rfl λp=>?_
 refine aq [(1000002,true)] 200 rfl ab ?_;refine AK.iS 5 156 2 rfl rfl ?_;refine cE rfl ab ?_;refine AK.bA 2 (λi=>i<=l.length) (λi:Nat=>XS l x i (oG x l i)) (λi=>XT x (oG x l i).1) (λi=>l.length-i) 0 rfl ?_ rfl ?_ rfl (by omega) ?_
 ·simp[aa.cat,aa,au.same,au.nil,oG]
 ·simp[aa.cat,aa,au.same,au.nil,oG]
 intro i hi
 by_cases h:i<l.length
 ·have n:=DO (x:=x) h;have k:=zf x l i;have f:l.getD (i:Int).toNat m6.bl=l.getD i (0,0):=by rw[aF];rfl
  generalize oG x l i=a at n k;obtain⟨a,b⟩:=a;simp only at k;have j:=m6.b9 a (l.getD i (0,0));have m:=m6.b9 a x;have d:=m6.zd a x (l.getD i (0,0));cases b with
  |true =>
   by_cases heq:(l.getD i (0,0)).1=x.1
   ·have c:oG x l (i+1)=(a,true):=by rw[n];simp only[dy,aX,an heq]
    refine aq [(12,true),(38,false)] 200 rfl ?_ (AK.ay (i+1) rfl ?_ rfl rfl rfl ?_ rfl ?_ ?_)
    ·simp only[aa,f,aJ,show i156.bytes=16 from rfl,av,aZ,jL,n3,eU,cD,oa,bY,heq,en,mg,fG,iu,ma,mn,k5,af,ae];and_intros <;> omega
    ·rw[c];simp only[aa.cat,aa,f,af,ae]
     and_intros <;> first|exact j|exact m|exact d|exactλ_ _=>rfl|rfl|omega|simp
    ·rw[c];simp only[aa.cat,aa,f,af,ae]
     and_intros <;> first|exact j|exact m|exact d|exactλ_ _=>rfl|rfl|omega|simp
    ·show i+1<=_;omega
    ·omega
   ·have c:oG x l (i+1)=(a++[l.getD i (0,0)],true):=by rw[n];simp only[dy,aX,ak heq]
    refine aq [(12,true),(38,true)] 200 rfl ?_ (AK.ay (i+1) rfl ?_ rfl rfl rfl ?_ rfl ?_ ?_)
    ·simp only[aa,f,aJ,show i156.bytes=16 from rfl,av,aZ,jL,n3,eU,cD,oa,bY,heq,en,mg,fG,iu,ma,mn,k5,af,ae];and_intros <;> omega
    ·rw[c];simp only[aa.cat,aa,f,af,ae]
     and_intros <;> first|exact j|exact m|exact d|exactλ_ _=>rfl|rfl|omega|simp
    ·rw[c];simp only[aa.cat,aa,f,af,ae]
     and_intros <;> first|exact j|exact m|exact d|exactλ_ _=>rfl|rfl|omega|simp
    ·show i+1<=_;omega
    ·omega
  |false =>
   by_cases g:x.1<=(l.getD i (0,0)).1
   ·by_cases heq:(l.getD i (0,0)).1=x.1
    ·have c:oG x l (i+1)=(a++[x],true):=by rw[n];simp only[dy,an g,an heq];rfl
     refine aq [(12,true),(25,true),(38,false)] 200 rfl ?_ (AK.ay (i+1) rfl ?_ rfl rfl rfl ?_ rfl ?_ ?_)
     ·simp only[aa,f,aJ,show i156.bytes=16 from rfl,av,aZ,jL,n3,eU,cD,oa,bY,g,heq,en,mg,fG,iu,ma,mn,k5,af,ae];and_intros <;> omega
     ·rw[c];simp only[aa.cat,aa,f,af,ae]
      and_intros <;> first|exact j|exact m|exact d|exactλ_ _=>rfl|rfl|omega|simp
     ·rw[c];simp only[aa.cat,aa,f,af,ae]
      and_intros <;> first|exact j|exact m|exact d|exactλ_ _=>rfl|rfl|omega|simp
     ·show i+1<=_;omega
     ·omega
    ·have c:oG x l (i+1)=(a++[x,l.getD i (0,0)],true):=by rw[n];simp only[dy,an g,ak heq];rfl
     refine aq [(12,true),(25,true),(38,true)] 200 rfl ?_ (AK.ay (i+1) rfl ?_ rfl rfl rfl ?_ rfl ?_ ?_)
     ·simp only[aa,f,aJ,show i156.bytes=16 from rfl,av,aZ,jL,n3,eU,cD,oa,bY,g,heq,en,mg,fG,iu,ma,mn,k5,af,ae];and_intros <;> omega
     ·rw[c];simp only[aa.cat,aa,f,af,ae]
      and_intros <;> first|exact j|exact m|exact d|exactλ_ _=>rfl|rfl|omega|simp
     ·rw[c];simp only[aa.cat,aa,f,af,ae]
      and_intros <;> first|exact j|exact m|exact d|exactλ_ _=>rfl|rfl|omega|simp
     ·show i+1<=_;omega
     ·omega
   ·have heq:¬(l.getD i (0,0)).1=x.1:=by omega
    have c:oG x l (i+1)=(a++[l.getD i (0,0)],false):=by rw[n];simp only[dy,ak g];rfl
    refine aq [(12,true),(25,false),(38,true)] 200 rfl ?_ (AK.ay (i+1) rfl ?_ rfl rfl rfl ?_ rfl ?_ ?_)
    ·simp only[aa,f,aJ,show i156.bytes=16 from rfl,av,aZ,jL,n3,eU,cD,oa,bY,g,heq,en,mg,fG,iu,ma,mn,k5,af,ae];and_intros <;> omega
    ·rw[c];simp only[aa.cat,aa,f,af,ae]
     and_intros <;> first|exact j|exact m|exact d|exactλ_ _=>rfl|rfl|omega|simp
    ·rw[c];simp only[aa.cat,aa,f,af,ae]
     and_intros <;> first|exact j|exact m|exact d|exactλ_ _=>rfl|rfl|omega|simp
    ·show i+1<=_;omega
    ·omega
 ·obtain rfl:i=l.length:=by omega
  have e:=wj x l [];have k:=zf x l l.length;refine aq [(12,false)] 200 rfl (by simp[aa]) (AK.leaveD rfl rfl ?_)
  have o:oG x l l.length=l.foldl (dy x) ([],false):=by unfold oG;rw[cm]
  rw[o] at k ⊢;generalize l.foldl (dy x) ([],false)=a at *;obtain⟨a,b⟩:=a;simp only[sz] at e k;cases b with
  |true =>
   simp only[aX] at e;subst e;refine cE rfl ab (AK.aK rfl ?_);simp[aa,aa.cat,au.same]
  |false =>
   simp only[gI,aW] at e;have j:=m6.b9 a x;refine cE rfl ?_ (AK.aK rfl ?_)
   ·simp only[aa,show i156.bytes=16 from rfl,af,ae];and_intros <;> omega
   ·rw[<-e];simp only[aa.cat,aa,af,ae]
    and_intros <;> first|exact j|simp
abbrev KY:c7:=qO (aL m6) U0 (λl x=>m6.sl (oF l x)) λl _=>[l.length<=1000000]
theorem PE:dw X 105 KY:=.xz λl x h=>JM l x h
abbrev xU(p:a9):List cq:=p.2.map λx=>(x.1,p.1)
def qV(l:List a9)(i j:Nat):List cq:=eb (l.take i)++(xU (l.getD i (0,[]))).take j
theorem uE{l:List a9}{i:Nat}(h:i<l.length):eb (l.take (i+1))=eb (l.take i)++xU (l.getD i (0,[])):=by
 rw[bt h (0,[])];simp[eb]
theorem G6(l:List a9)(i:Nat):(eb (l.take i)).length<=(eb l).length:=by
 have h:eb l=eb (l.take i)++eb (l.drop i):=by
  unfold eb;rw[<-sk,nu]
 rw[h,ba];omega
theorem zg{l:List a9}{i j:Nat}(h:i<l.length):∃ r,eb l=qV l i j++r:=by
 have a:eb l=eb (l.take (i+1))++eb (l.drop (i+1)):=by
  unfold eb;rw[<-sk,nu]
 refine⟨(xU (l.getD i (0,[]))).drop j++eb (l.drop (i+1)),?_⟩;rw[a,uE h,qV,di,di]
 congr 1
 rw[<-di,nu]
theorem G7(l:List cq)(x:cq):(oF l x).length<=l.length+1:=by
 induction l with
 |nil=>simp[oF]
 |cons y r a =>
  simp only[oF];split
  ·simp;omega
  ·simp only[cM];have:=ik (λz=>!(z.1==x.1)) (y::r)
   simp only[cM] at this;omega
theorem vX(l:List cq):∀ a:List cq,(l.foldl oF a).length<=a.length+l.length:=by
 induction l with
 |nil=>intro a;simp
 |cons y r b=>intro a;have:=b (oF a y);have:=G7 a y;simp only[ir,cM];omega
abbrev XU(a:List cq):D:=m6.sl a
set_option maxHeartbeats 2000000 in
theorem A9(l:List a9)(A:l.length<=1000000)(x:(eb l).length<=100000):Ev X 62 [cP.sl l] [] (m6.sl (indexOf l)) []:=by
 refine Ev.body Tryz.func62 rfl rfl rfl λz=>?_
 have b:aY X [(104,GK),(105,KY)]:=.cons MJ (.cons PE .nil);refine ah b [] 200 rfl ab ?_;refine AK.bA 0 (λi=>i<=l.length/\(eb (l.take i)).all jg=true) (λi:Nat=>[(0,cP.sl l),(3,m6.sl ((eb (l.take i)).foldl oF [])),(4,dI i)]) (λ_=>[]) (λi=>l.length-i) 0 rfl ?_ rfl ?_ rfl ⟨by omega,rfl⟩ ?_
 ·simp[aa.cat,aa,au.same,au.nil,eb]
 ·simp[aa]
 rintro i ⟨hi,f⟩
 by_cases h:i<l.length
 ·have n:l.getD (i:Int).toNat cP.bl=l.getD i (0,[]):=by rw[aF];rfl
  have g:=uE h;refine ah b [(11,true)] 200 rfl (by simp only[aa,av];omega) ?_
  refine AK.bA 0 (λj=>j<=(l.getD i (0,[])).2.length/\(qV l i j).all jg=true) (λj:Nat=>[(0,cP.sl l),(3,m6.sl ((qV l i j).foldl oF [])),(4,dI i),(5,dI j)]) (λ_=>[]) (λj=>(l.getD i (0,[])).2.length-j) 0 rfl ?_ rfl ?_ rfl ⟨by omega,by simpa[qV] using f⟩ ?_
  ·simp[aa.cat,aa,au.same,au.nil,qV]
  ·simp[aa]
  rintro j ⟨y,c⟩;obtain⟨r,p⟩:=zg (l:=l) (j:=j) h;have q:(qV l i j).length<=100000:=by rw[p,ba] at x;omega
  have o:=vX (qV l i j) [];simp only[ef] at o;have v:(l.getD i (0,[])).2.length<=100000:=by
   have:=G6 l (i+1);rw[g] at this;simp at this;simp[List.getD_eq_getElem?_getD] at this ⊢;omega
  by_cases s:j<(l.getD i (0,[])).2.length
  ·have d:(l.getD i (0,[])).2.getD (j:Int).toNat dO.bl=(l.getD i (0,[])).2.getD j (0,[]):=by rw[aF];rfl
   have e:qV l i (j+1)=qV l i j++[(((l.getD i (0,[])).2.getD j (0,[])).1,(l.getD i (0,[])).1)]:=by
    unfold qV;rw[di]
    congr 1
    rw[bt (by simpa using s) (0,0)]
    congr 2
    rw[List.getD_eq_getElem?_getD,mb,List.getD_eq_getElem?_getD (l:=(l.getD i (0,[])).2),ai s];rfl
   cases a:jg (((l.getD i (0,[])).2.getD j (0,[])).1,(l.getD i (0,[])).1) with
   |false =>
    have u:indexOf l=[]:=by
     obtain⟨r,p⟩:=zg (l:=l) (j:=j+1) h;unfold indexOf;rw[ak];intro t;rw[p,e,sC,sC,bq,bq] at t;have m:=t.1.2;rw[sH,a] at m;cases m
    refine ah b [(21,true),(40,false)] 200 rfl ?_ (AK.jP (cv.zero rfl ?_))
    ·simp only[aa,n,d,a,av,af,ae];and_intros <;> omega
    ·rw[u];simp[aa,aa.cat,au.nil]
   |true =>
    refine ah b [(21,true),(40,true)] 200 rfl ?_ (AK.ay (j+1) rfl ?_ rfl rfl rfl ?_ rfl ?_ ?_)
    ·simp only[aa,n,d,a,aJ,m6.list_fn,av,af,ae];and_intros <;> first|exact m6.bu _|omega
    ·rw[e];simp only[mi,ir,sE,aa.cat,aa,n,d,m6.list_fn,af,ae]
     and_intros <;> first|exactλ_ _=>rfl|rfl|omega
    ·simp[aa]
    ·exact⟨by omega,by rw[e,sC,c,sH,a];rfl⟩
    ·omega
  ·have w:j=(l.getD i (0,[])).2.length:=by omega
   have k:qV l i j=eb (l.take (i+1)):=by
    rw[g,qV]
    congr 1
    apply wF
    rw[ku];omega
   refine ah b [(21,false)] 200 rfl ?_ (AK.leaveD rfl rfl ?_)
   ·simp only[aa,n,aZ];and_intros <;> omega
   refine ah b [] 200 rfl ?_ (AK.ay (i+1) rfl ?_ rfl rfl rfl ?_ rfl ?_ ?_)
   ·simp only[aa,aJ];omega
   ·rw[k];simp[aa.cat,aa,au.same]
   ·simp[aa]
   ·exact⟨by omega,by rw[<-k];exact c⟩
   ·omega
 ·obtain rfl:i=l.length:=by omega
  rw[cm] at f ⊢;refine ah b [(11,false)] 200 rfl (by simp[aa]) (AK.leaveD rfl rfl ?_)
  refine ah b [] 200 rfl ab (AK.aK rfl ?_);simp[aa,aa.cat,au.same,indexOf,f]
abbrev GW:c7:=nn (aL cP) (λl=>m6.sl (indexOf l)) λl=>[l.length<=1000000,(eb l).length<=100000]
theorem MQ:dw X 62 GW:=.vP λl h=>A9 l h.1 h.2
abbrev Ba:c7:=qO aI aS (λk p=>dI (eB k p)) λk p=>[b5 k=true,aR p=true]
abbrev KZ:c7:=nn aS (λp=>dS (gF p)) λp=>[aR p=true]
theorem PF:dw X 107 KZ:=.vP λp h=>JD p h
theorem G8(l:List bD)(x:bD):(nk l x).length=l.length+1:=by
 induction l with
 |nil=>simp[nk]
 |cons y r a=>simp only[nk];split <;> simp[a]
def K1(k:Int)(ps:List Bs):List bD:=ps.foldl (λl p=>nk l (eB k p,gF p)) []
theorem Cp(k:Int)(ps:List Bs):(K1 k ps).length=ps.length:=by
 have h:∀ (ps:List Bs) (a:List bD),(ps.foldl (λl p=>nk l (eB k p,gF p)) a).length=a.length+ps.length:=by
  intro ps
  induction ps with
  |nil=>intro a;simp
  |cons p r b=>intro a;rw[ir,b,G8,cM];omega
 have:=h ps [];rw[ef,aw] at this;exact this
theorem G9{k:Int}{ps:List Bs}{i:Nat}(h:i<ps.length):K1 k (ps.take (i+1))=nk (K1 k (ps.take i)) (eB k (ps.getD i []),gF (ps.getD i [])):=by
 unfold K1;rw[bt h [],mi];rfl
abbrev XV(no:Int)(l:List bD):aj:=.cells 56 [.c (.int .i64 no),.c (.sl false 2 l.length (dO.fn l))]
set_option maxHeartbeats 1000000 in
theorem GS(no k:Int)(ps:List Bs)(m:b5 k=true)(g:∀ p∈ps,aR p=true)(q:ps.length<=1000000):Ev X 63 [dI no,dI k,cS.sl ps] [] (AE (iH no k ps)) []:=by
 refine Ev.jV tok Tryz.func63 rfl rfl rfl λo=>?_
 have a:aY X [(102,Ba),(107,KZ),(106,KX)]:=.cons AY (.cons PF (.cons PD .nil));refine ah a [] 200 rfl ab ?_;refine AK.bA 2 (λi=>i<=ps.length) (λi:Nat=>[(1,dI k),(2,cS.sl ps),(6,.e (.one (.ptr 0 0))),(7,.e (.one (.ptr 1 0))),(8,dI i)]) (λi=>[.cells 56 [.c (.int .i64 0),.c (.sl true 0 0 λ_=>[])],XV no (K1 k (ps.take i))]) (λi=>ps.length-i) 0 rfl ?_ rfl ?_ rfl (by omega) ?_
 ·simp[aa.cat,aa,au.same]
 ·simp[aa.cat,aa,au.same,au.nil,K1]
 intro i hi
 by_cases h:i<ps.length
 ·have f:ps.getD (i:Int).toNat cS.bl=ps.getD i []:=by rw[aF];rfl
  have b:aR (ps.getD i [])=true:=g _ (by rw[List.getD_eq_getElem?_getD,ai h];exact bJ h)
  have l:=G9 (k:=k) h;have d:=Cp k (ps.take i);rw[List.length_take] at d;refine ah a [(15,true)] 200 rfl ?_ (AK.ay (i+1) rfl ?_ rfl rfl rfl ?_ rfl ?_ ?_)
  ·simp only[aa,f,m,b,aJ,dO.list_fn,av,af,ae];and_intros <;> first|exact dO.bu _|omega
  ·simp[aa.cat,aa,au.same]
  ·rw[l];simp only[aa.cat,aa,f,dO.list_fn,af,ae]
   and_intros <;> first|exactλ_ _=>rfl|rfl|omega
  ·show i+1<=_;omega
  ·omega
 ·obtain rfl:i=ps.length:=by omega
  rw[cm];refine ah a [(15,false)] 200 rfl (by simp[aa]) (AK.leaveD rfl rfl ?_)
  refine ah a [] 200 rfl ab ?_;refine AK.ez () [] rfl rfl rfl rfl rfl rfl rfl rfl ?_ rfl rfl rfl rfl (λj n=>absurd n (by simp))
  simp[aa,aa.cat,au.same,iH,K1]
theorem zh{s r:Bs}(h:bj s=true)(a:∀ b∈r,b∈s):bj r=true:=by
 unfold bj at h ⊢;rw[eR] at h ⊢;exactλb c=>h b (a b c)
theorem uF{t:Bs}(d:bj t=true):∀ k f,∀ p∈fg t k f,aR p=true
 |0,_,p,a=>by simp[fg] at a
 |k+1,f,p,a=>by
  simp only[fg] at a;split at a
  ·rename_i h
   have c:=nS t f h;rcases dr.1 a with rfl|a
   ·have e:((t.drop f).take (cutAt t f-f)).length=cutAt t f-f:=by simp;omega
    simp only[aR,bq,av];refine⟨⟨by omega,by omega⟩,zh d λb c=>si (gH c)⟩
   ·exact uF d k _ p a
  ·simp at a
theorem qU{t:Bs}(a:bj t=true):∀ p∈pieces t,aR p=true:=uF a _ _
theorem rE(t:Bs):∀ k f,(fg t k f).length<=k
 |0,_=>ar _
 |k+1,f=>by
  simp only[fg];split
  ·have:=rE t k (cutAt t f);simp;omega
  ·simp
theorem pj(t:Bs):(pieces t).length<=t.length:=rE t _ _
def iJ(t:List aH):List Bs:=t.flatMap λf=>pieces f.2
theorem DQ{t:List aH}{i:Nat}(h:i<t.length):iJ (t.take (i+1))=iJ (t.take i)++pieces (t.getD i ([],[])).2:=by
 rw[bt h ([],[])];simp[iJ]
theorem JN(t:List aH)(i:Nat):(iJ (t.take i)).length<=(iJ t).length:=by
 have h:iJ t=iJ (t.take i)++iJ (t.drop i):=by
  unfold iJ;rw[<-sk,nu]
 rw[h,ba];omega
theorem vW(k:Int)(l:List cq)(ps:List Bs):∀ a:List Bs,(ps.foldl (l0 k l) a).length<=a.length+ps.length:=by
 induction ps with
 |nil=>intro a;simp
 |cons p r b =>
  intro a;have d:=b (l0 k l a p);have c:(l0 k l a p).length<=a.length+1:=by unfold l0;split <;> simp
  simp only[ir,cM];omega
abbrev Ha:c7:=qO (aL m6) aI (λl n=>dI (rC l n)) λl _=>[l.length<=1000000]
theorem MV:dw X 101 Ha:=.xz λl n h=>GI l n h
abbrev K3:c7:=qO (aL cS) aS (λl p=>dB (l.contains p)) λl _=>[l.length<=1000000]
theorem PG:dw X 103 K3:=.xz λl p h=>JB l p h
abbrev Vg(a:List Bs):D:=.e (.one (.vec 0 1 a.length (cS.fn a)))
structure uB (t:List aH):Prop where
 len:t.length<=1000000
 r7:∀ f∈t,bj f.2=true/\f.2.length<=1000000
 all:(iJ t).length<=100000
set_option maxHeartbeats 4000000 in
theorem GV(k:Int)(t:List aH)(l:List cq)(v:b5 k=true)(q:uB t)(E:l.length<=1000000):Ev X 61 [dI k,cF.sl t,m6.sl l] [] (cS.sl (iI k t l)) []:=by
 refine Ev.body Tryz.func61 rfl rfl rfl λF=>?_
 have d:aY X [(100,GP),(102,Ba),(101,Ha),(103,K3)]:=.cons KT (.cons AY (.cons MV (.cons PG .nil)));refine ah d [(1000002,true)] 200 rfl ab ?_;refine AK.iS 7 9 1 rfl rfl ?_;refine ah d [] 200 rfl ab ?_;refine AK.bA 1 (λi=>i<=t.length) (λi:Nat=>[(0,dI k),(1,cF.sl t),(2,m6.sl l),(7,Vg ((iJ (t.take i)).foldl (l0 k l) [])),(8,dI i)]) (λi=>[.vec 9 1 ((iJ (t.take i)).foldl (l0 k l) []).length (cS.fn ((iJ (t.take i)).foldl (l0 k l) []))]) (λi=>t.length-i) 0 rfl ?_ rfl ?_ rfl (by omega) ?_
 ·simp[aa.cat,aa,au.same,au.nil,iJ]
 ·simp[aa.cat,aa,au.same,au.nil,iJ]
 intro i hi
 by_cases h:i<t.length
 ·have y:t.getD (i:Int).toNat cF.bl=t.getD i ([],[]):=by rw[aF];rfl
  have m:t.getD i ([],[])∈t:=by rw[List.getD_eq_getElem?_getD,ai h];exact bJ h
  obtain⟨x,C⟩:=q.r7 _ m;have e:=DQ h;have w:=JN t (i+1);have A:=q.all;have B:=q.len;have u:=qU x;generalize t.getD i ([],[])=f at *;rw[e,ba] at w;refine ah d [(15,true)] 200 rfl ?_ ?_
  ·simp only[aa,y,x,av,af,ae];and_intros <;> omega
  rw[y];refine AK.bA 1 (λj=>j<=(pieces f.2).length) (λj:Nat=>[(0,dI k),(1,cF.sl t),(2,m6.sl l),(7,Vg ((iJ (t.take i)++(pieces f.2).take j).foldl (l0 k l) [])),(8,dI i),(9,cS.sl (pieces f.2)),(10,dI j)]) (λj=>[.vec 9 1 ((iJ (t.take i)++(pieces f.2).take j).foldl (l0 k l) []).length (cS.fn ((iJ (t.take i)++(pieces f.2).take j).foldl (l0 k l) []))]) (λj=>(pieces f.2).length-j) 0 rfl ?_ rfl ?_ rfl (by omega) ?_
  ·simp[aa.cat,aa,au.same]
  ·simp[aa.cat,aa,au.same]
  intro j D;have s:=vW k l (iJ (t.take i)++(pieces f.2).take j) [];simp only[ef,ba,List.length_take] at s
  by_cases r:j<(pieces f.2).length
  ·have b:(pieces f.2).getD (j:Int).toNat cS.bl=(pieces f.2).getD j []:=by rw[aF];rfl
   have g:aR ((pieces f.2).getD j [])=true:=u _ (by rw[List.getD_eq_getElem?_getD,ai r];exact bJ r)
   have a:(iJ (t.take i)++(pieces f.2).take (j+1)).foldl (l0 k l) []=l0 k l ((iJ (t.take i)++(pieces f.2).take j).foldl (l0 k l) []) ((pieces f.2).getD j []):=by
    rw[bt r [],<-di,mi];rfl
   generalize (iJ (t.take i)++(pieces f.2).take j).foldl (l0 k l) []=out at *;generalize (pieces f.2).getD j []=p at *;have z:=cS.b9 out p
   by_cases c:rC l (eB k p)=0
   ·cases o:out.contains p with
    |true =>
     rw[l0,ak (by rw[o,iu,Bool.and_false];simp)] at a
     refine ah d [(27,true),(38,true),(45,true)] 200 rfl ?_ (AK.ay (j+1) rfl ?_ rfl rfl rfl ?_ rfl ?_ ?_)
     ·simp only[aa,b,v,g,c,o,aJ,cS.list_fn,m6.list_fn,fG,av,af,ae];and_intros <;> first|exact cS.bu _|exact m6.bu _|omega
     ·rw[a];simp[aa.cat,aa,au.same]
     ·rw[a];simp[aa.cat,aa,au.same]
     ·show j+1<=_;omega
     ·omega
    |false =>
     rw[l0,an (by rw[o,c];rfl)] at a
     refine ah d [(27,true),(38,true),(45,false)] 200 rfl ?_ (AK.ay (j+1) rfl ?_ rfl rfl rfl ?_ rfl ?_ ?_)
     ·simp only[aa,b,v,g,c,o,aJ,show i9.bytes=16 from rfl,cS.list_fn,m6.list_fn,fG,av,af,ae];and_intros <;> first|exact cS.bu _|exact m6.bu _|omega
     ·rw[a];simp only[aa.cat,aa,b,ba,cM,ef,af,ae]
      and_intros <;> first|exactλ_ _=>rfl|exact z|rfl|omega
     ·rw[a];simp only[aa.cat,aa,b,ba,cM,ef,af,ae]
      and_intros <;> first|exact z|rfl|omega
     ·show j+1<=_;omega
     ·omega
   ·rw[l0,ak (by simp[c])] at a
    refine ah d [(27,true),(38,false)] 200 rfl ?_ (AK.ay (j+1) rfl ?_ rfl rfl rfl ?_ rfl ?_ ?_)
    ·simp only[aa,b,v,g,aJ,m6.list_fn,cD,bY,c,mg,av,af,ae];and_intros <;> first|exact m6.bu _|omega
    ·rw[a];simp[aa.cat,aa,au.same]
    ·rw[a];simp[aa.cat,aa,au.same]
    ·show j+1<=_;omega
    ·omega
  ·have n:j=(pieces f.2).length:=by omega
   refine ah d [(27,false)] 200 rfl (by simp only[aa,aZ];omega) (AK.leaveD rfl rfl ?_)
   refine ah d [] 200 rfl ?_ (AK.ay (i+1) rfl ?_ rfl rfl rfl ?_ rfl ?_ ?_)
   ·simp only[aa,aJ];omega
   ·rw[e,n,cm];simp[aa.cat,aa,au.same]
   ·rw[e,n,cm];simp[aa.cat,aa,au.same]
   ·show i+1<=_;omega
   ·omega
 ·obtain rfl:i=t.length:=by omega
  rw[cm];refine ah d [(15,false)] 200 rfl (by simp[aa]) (AK.leaveD rfl rfl ?_)
  refine ah d [] 200 rfl ab (AK.aK rfl ?_);simp[aa,aa.cat,au.same,iI,iJ]
abbrev na(k:Int)(ps:List Bs):List Int:=ps.map (eB k)
abbrev qW(k:Int)(t:List aH):List iG:=t.map (lp k)
abbrev K4(no:Int)(a:List iG):List aj:=[.cells 39 [.c (.int .i64 0),.c (.sl true 0 0 λ_=>[])],.cells 39 [.c (.int .i64 no),.vec 2 2 a.length (cL.fn a)],.vec 69 2 a.length (cL.fn a)]
set_option maxHeartbeats 4000000 in
theorem JG(no k:Int)(t:List aH)(z:b5 k=true)(r:uB t):Ev X 64 [dI no,dI k,cF.sl t] [] (Cd (ga no k t)) []:=by
 refine Ev.jV tok Tryz.func64 rfl rfl rfl λB=>?_
 have a:aY X [(100,GP),(102,Ba)]:=.cons KT (.cons AY .nil);refine ah a [(1000002,true)] 200 rfl ab ?_;refine AK.hZ 1 1 69 2 (cL.fn []) rfl rfl ?_;refine ah a [] 200 rfl ab ?_;refine AK.bA 3 (λi=>i<=t.length) (λi:Nat=>[(1,dI k),(2,cF.sl t),(6,.e (.one (.ptr 0 0))),(7,.e (.one (.ptr 1 0))),(8,dI i)]) (λi=>K4 no (qW k (t.take i))) (λi=>t.length-i) 0 rfl ?_ rfl ?_ rfl (by omega) ?_
 ·simp[aa.cat,aa,au.same]
 ·simp[aa.cat,aa,au.same,au.nil]
 intro i hi
 by_cases h:i<t.length
 ·have p:t.getD (i:Int).toNat cF.bl=t.getD i ([],[]):=by rw[aF];rfl
  have d:t.getD i ([],[])∈t:=by rw[List.getD_eq_getElem?_getD,ai h];exact bJ h
  obtain⟨s,A⟩:=r.r7 _ d;have w:=r.len;have n:=qU s;have y:=pj (t.getD i ([],[])).2;have g:qW k (t.take (i+1))=qW k (t.take i)++[lp k (t.getD i ([],[]))]:=by
   rw[bt h ([],[]),qW,pC];rfl
  have x:(qW k (t.take i)).length=i:=by simp;omega
  generalize t.getD i ([],[])=f at *;generalize qW k (t.take i)=ls at *;refine ah a [(18,true),(1000007,true)] 200 rfl ?_ ?_
  ·simp only[aa,p,s,av,af,ae];and_intros <;> omega
  rw[p];refine AK.iS 10 3 1 rfl rfl ?_;refine ah a [] 200 rfl ab ?_;refine AK.bA 4 (λj=>j<=(pieces f.2).length) (λj:Nat=>[(1,dI k),(2,cF.sl t),(6,.e (.one (.ptr 0 0))),(7,.e (.one (.ptr 1 0))),(8,dI i),(9,cS.sl (pieces f.2)),(10,.e (.one (.vec 3 1 j (cI.fn (na k ((pieces f.2).take j)))))),(11,dI j)]) (λj=>K4 no ls++[.vec 3 1 j (cI.fn (na k ((pieces f.2).take j)))]) (λj=>(pieces f.2).length-j) 0 rfl ?_ rfl ?_ rfl (by omega) ?_
  ·simp[aa.cat,aa,au.same,au.nil]
  ·simp[aa.cat,aa,au.same,au.nil]
  intro j q
  by_cases l:j<(pieces f.2).length
  ·have b:(pieces f.2).getD (j:Int).toNat cS.bl=(pieces f.2).getD j []:=by rw[aF];rfl
   have o:aR ((pieces f.2).getD j [])=true:=n _ (by rw[List.getD_eq_getElem?_getD,ai l];exact bJ l)
   have c:=cI.b9 (na k ((pieces f.2).take j)) (eB k ((pieces f.2).getD j []));rw[show (na k ((pieces f.2).take j)).length=j by simp;omega,show na k ((pieces f.2).take j)++[eB k ((pieces f.2).getD j [])]=na k ((pieces f.2).take (j+1)) by rw[bt l [],na,na,pC];rfl] at c
   refine ah a [(31,true)] 200 rfl ?_ (AK.ay (j+1) rfl ?_ rfl rfl rfl ?_ rfl ?_ ?_)
   ·simp only[aa,b,z,o,aJ,show i3.bytes=8 from rfl,av,af,ae];and_intros <;> omega
   ·simp only[aa.cat,aa,b,af,ae]
    and_intros <;> first|exactλ_ _=>rfl|exact c|rfl|omega
   ·simp only[aa.cat,aa,b,af,ae]
    and_intros <;> first|exactλ_ _=>rfl|exact c|rfl|omega
   ·show j+1<=_;omega
   ·omega
  ·have m:j=(pieces f.2).length:=by omega
   rw[m,cm];have c:=cL.b9 ls (lp k f);have u:ls.length+1=(ls++[lp k f]).length:=by simp
   have v:cL.enc (lp k f)=[C.str f.1,C.sl false 1 (pieces f.2).length (cI.fn (na k (pieces f.2)))]:=by
    show [C.str f.1,C.sl false 1 (na k (pieces f.2)).length (cI.fn (na k (pieces f.2)))]=_;rw[show (na k (pieces f.2)).length=(pieces f.2).length from ku ..]
   rw[v,<-g] at c;rw[<-g] at u;refine ah a [(31,false)] 200 rfl (by simp only[aa,aZ];omega) (AK.leaveD rfl rfl ?_)
   refine ah a [] 200 rfl ?_ (AK.ay (i+1) rfl ?_ rfl rfl rfl ?_ rfl ?_ ?_)
   ·simp only[aa,aJ,show i69.bytes=40 from rfl,af,ae];and_intros <;> omega
   ·simp[aa.cat,aa,au.same]
   ·simp only[aa.cat,aa,p,af,ae]
    and_intros <;> first|exact au.same|exact c|exact u|rfl
   ·show i+1<=_;omega
   ·omega
 ·obtain rfl:i=t.length:=by omega
  rw[cm];refine ah a [(18,false)] 200 rfl (by simp[aa]) (AK.leaveD rfl rfl ?_)
  refine ah a [] 200 rfl ab ?_;refine AK.ez () [] rfl rfl rfl rfl rfl rfl rfl rfl ?_ rfl rfl rfl rfl (λj q=>absurd q (by simp))
  simp[aa,aa.cat,au.same,ga]
theorem gC(f g:Nat->List C):cj 0 f g=g:=by funext i;simp[cj]
abbrev mS(s:az):aj:=.cells 27 [.c (.sl false 2 s.1.length (cP.fn s.1)),.c (.sl false 2 s.2.1.length (cT.fn s.2.1)),.c (.sl false 2 s.2.2.length (cH.fn s.2.2))]
abbrev MW(s:az)(i:Nat)(p:List a9)(j:Nat)(q:List cB):List aj:=[mS s,.cells 27 [dk,dk,dk],.buf 56 2 i (cP.fn p),.buf 39 2 j (cT.fn q),.buf 64 2 s.2.2.length (cH.fn s.2.2),.cells 27 [.bp 2 (.sl i 2 0 i),.bp 3 (.sl j 2 0 j),.bp 4 (.sl s.2.2.length 2 0 s.2.2.length)]]
set_option maxHeartbeats 4000000 in
theorem DL(s:az)(o:s.1.length<=1000000)(f:∀ p∈s.1,p.2.length<=1000000)(u:s.2.1.length<=1000000)(g:mQ s)(r:s.2.2.length<=1000000) :
  Ev X 19 [eH s] [] (.e (.agg [.bp 0 (.sl s.1.length 2 0 s.1.length),.bp 1 (.sl s.2.1.length 2 0 s.2.1.length),.bp 2 (.sl s.2.2.length 2 0 s.2.2.length)])) [.buf 56 2 s.1.length (cP.fn s.1),.buf 39 2 s.2.1.length (cT.fn s.2.1),.buf 64 2 s.2.2.length (cH.fn s.2.2)]:=by
 refine Ev.jV tok Tryz.func19 rfl rfl rfl λn=>?_
 refine aq [(1000001,true)] 200 rfl ab ?_;refine AK.region ?_;refine aq [] 5 rfl ab ?_;refine AK.tP 9 56 2 (cP.fn []) rfl ?_;refine AK.tP 10 39 2 (cT.fn []) rfl ?_;refine AK.tP 11 64 2 (cH.fn []) rfl ?_;refine cE rfl ?_ ?_
 ·simp only[aa,show i64.bytes=16 from rfl,af,ae];and_intros <;> omega
 refine AK.bA 6 (λi=>i<=s.1.length) (λi:Nat=>[(1,.e (.one (.ptr 0 0))),(2,.e (.one (.ptr 1 0))),(3,.e (.one (.ptr 5 0))),(4,dI i)]) (λi=>MW s i (s.1.take i) 0 []) (λi=>s.1.length-i) 0 rfl ?_ rfl ?_ rfl (by omega) ?_
 ·simp[aa.cat,aa]
 ·simp[aa.cat,aa,au,gC];rfl
 intro i hi
 by_cases h:i<s.1.length
 ·have d:s.1.getD i (0,[])∈s.1:=by rw[List.getD_eq_getElem?_getD,ai h];exact bJ h
  have a:s.1.getD (i:Int).toNat cP.bl=s.1.getD i (0,[]):=by rw[aF];rfl
  have q:=f _ d;refine aq [(20,true),(2000038,true)] 200 rfl ?_ (AK.ay (i+1) rfl ?_ rfl rfl rfl ?_ rfl ?_ ?_)
  ·simp only[aa,a,aJ,show i56.bytes=32 from rfl,show i62.bytes=24 from rfl,av,fI,af,ae];and_intros <;> omega
  ·simp[aa.cat,aa]
  ·have e:=cP.fM s.1 h (0,[]);simp only[aa.cat,aa,a,gC,aw,ae,af]
   and_intros <;> first|exactλ_ _=>rfl|exact e|rfl
  ·show i+1<=_;omega
  ·omega
 obtain rfl:i=s.1.length:=by omega
 rw[cm];refine aq [(20,false)] 200 rfl (by simp[aa]) (AK.leaveD rfl rfl ?_)
 refine cE rfl ab ?_;refine AK.bA 6 (λi=>i<=s.2.1.length) (λi:Nat=>[(1,.e (.one (.ptr 0 0))),(2,.e (.one (.ptr 1 0))),(3,.e (.one (.ptr 5 0))),(5,dI i)]) (λi=>MW s s.1.length s.1 i (s.2.1.take i)) (λi=>s.2.1.length-i) 0 rfl ?_ rfl ?_ rfl (by omega) ?_
 ·simp[aa.cat,aa]
 ·simp[aa.cat,aa,au.same,au]
 intro i hi
 by_cases h:i<s.2.1.length
 ·have d:s.2.1.getD i (0,[])∈s.2.1:=by rw[List.getD_eq_getElem?_getD,ai h];exact bJ h
  have a:s.2.1.getD (i:Int).toNat cT.bl=s.2.1.getD i (0,[]):=by rw[aF];rfl
  have q:=g _ d;have e:=cT.fM s.2.1 h (0,[]);generalize s.2.1.getD i (0,[])=x at *;refine aq [(47,true),(1000010,true)] 200 rfl ?_ ?_
  ·simp only[aa,a,av,fI,af,ae];and_intros <;> omega
  rw[a];refine AK.hZ 6 1 69 2 (cL.fn []) rfl rfl ?_;refine cE rfl ab ?_;refine AK.bA 8 (λj=>j<=x.2.length) (λj:Nat=>[(1,.e (.one (.ptr 0 0))),(2,.e (.one (.ptr 1 0))),(3,.e (.one (.ptr 5 0))),(5,dI i),(6,.e (.one (.ptr 6 0))),(7,dI j)]) (λj=>MW s s.1.length s.1 i (s.2.1.take i)++[.cells 39 [.c (.int .i64 x.1),.vec 7 2 j (cL.fn (x.2.take j))],.vec 69 2 j (cL.fn (x.2.take j))]) (λj=>x.2.length-j) 0 rfl ?_ rfl ?_ rfl (by omega) ?_
  ·simp[aa.cat,aa]
  ·simp[aa.cat,aa,au.same,au]
  intro j l
  by_cases k:j<x.2.length
  ·have b:x.2.getD (j:Int).toNat cL.bl=x.2.getD j ([],[]):=by rw[aF];rfl
   have t:=q.2 (x.2.getD j ([],[])) (by rw[List.getD_eq_getElem?_getD,ai k];exact bJ k)
   have m:=cL.fM x.2 k ([],[]);refine aq [(66,true),(2000085,true)] 200 rfl ?_ (AK.ay (j+1) rfl ?_ rfl rfl rfl ?_ rfl ?_ ?_)
   ·simp only[aa,a,b,aJ,show i69.bytes=40 from rfl,show i3.bytes=8 from rfl,av,fI,af,ae];and_intros <;> omega
   ·simp[aa.cat,aa]
   ·simp only[aa.cat,aa,a,b,gC,aw,ae,af]
    and_intros <;> first|exactλ_ _=>rfl|exact m|rfl
   ·show j+1<=_;omega
   ·omega
  obtain rfl:j=x.2.length:=by omega
  rw[cm];refine aq [(66,false)] 200 rfl ?_ (AK.leaveD rfl rfl ?_)
  ·simp only[aa,a,aZ];and_intros <;> omega
  refine cE rfl ?_ (AK.ay (i+1) rfl ?_ rfl rfl rfl ?_ rfl ?_ ?_)
  ·simp only[aa,a,aJ,show i39.bytes=32 from rfl,af,ae];and_intros <;> omega
  ·simp[aa.cat,aa]
  ·simp only[aa.cat,aa,ae,af]
   and_intros <;> first|exactλ_ _=>rfl|exact e|rfl
  ·show i+1<=_;omega
  ·omega
 obtain rfl:i=s.2.1.length:=by omega
 rw[cm];refine aq [(47,false)] 200 rfl (by simp[aa]) (AK.leaveD rfl rfl ?_)
 refine cE rfl ab ?_;refine AK.ez () [2,3,4] rfl rfl rfl rfl rfl rfl rfl rfl ?_ rfl rfl rfl rfl (λj l=>absurd l (by simp))
 ·simp[aa.cat,aa,au.same]
abbrev JO(s:az)(i:Nat)(es:Nat->List C)(j:Nat)(q:List cB)(bf:oZ)(m:Nat)(xs:List Value):List aj:=[mS s,.cells 27 [dk,dk,dk],.buf 56 2 i es,.buf 39 2 j (cT.fn q),.buf 64 2 s.2.2.length (cH.fn s.2.2),.cells 27 [.bp 2 (.sl i 2 0 i),.bp 3 (.sl j 2 0 j),.bp 4 (.sl s.2.2.length 2 0 s.2.2.length)],.cx (gz 62 2 bf m xs)]
set_option maxHeartbeats 4000000 in
theorem Bd(s:az)(i0:Nat)(D:i0<s.1.length)(b:0<(s.1.getD i0 (0,[])).2.length)(G:s.1.length<=1000000)(w:∀ p∈s.1,p.2.length<=1000000)(H:s.2.1.length<=1000000)(y:mQ s)(E:s.2.2.length<=1000000) :
  cf (ι:=Own (s.1.getD i0 (0,[])).2) X 19 [eH s] [] (λ_=>.e (.agg [.bp 0 (.sl s.1.length 2 0 s.1.length),.bp 1 (.sl s.2.1.length 2 0 s.2.1.length),.bp 2 (.sl s.2.2.length 2 0 s.2.2.length)]))
   (λq=>[.buf 56 2 s.1.length (gQ s.1 i0 (kF q.1.1 (s.1.getD i0 (0,[])).2.length)),.buf 39 2 s.2.1.length (cT.fn s.2.1),.buf 64 2 s.2.2.length (cH.fn s.2.2),DR (s.1.getD i0 (0,[])).2 q]):=by
 refine cf.jz tok Tryz.func19 rfl rfl rfl λF=>?_
 refine aq [(1000001,true)] 200 rfl ab ?_;refine AK.region ?_;refine aq [] 5 rfl ab ?_;refine AK.tP 9 56 2 (cP.fn []) rfl ?_;refine AK.tP 10 39 2 (cT.fn []) rfl ?_;refine AK.tP 11 64 2 (cH.fn []) rfl ?_;refine aq [(1000002,true)] 200 rfl ?_ ?_
 ·simp only[aa,show i64.bytes=16 from rfl,af,ae];and_intros <;> omega
 refine AK.spare 62 2 ?_;refine cE rfl ab ?_;refine AK.bA 7 (I3 s.1 i0) (λx:S3=>[(1,.e (.one (.ptr 0 0))),(2,.e (.one (.ptr 1 0))),(3,.e (.one (.ptr 5 0))),(4,dI x.1)]) (λx=>JO s x.1 (gQ s.1 i0 (u3 x)) 0 [] x.2.1 x.2.2.1 x.2.2.2) (λx=>s.1.length-x.1) (0,.nil none,0,[]) rfl ?_ rfl ?_ rfl ⟨by omega,.inl ⟨by omega,rfl⟩⟩ ?_
 ·simp[aa.cat,aa]
 ·simp[aa.cat,aa,au,gC];rfl
 rintro⟨i,bf,m,xs⟩ ⟨hi,g⟩;simp only at hi g
 by_cases h:i<s.1.length
 ·have v:s.1.getD i (0,[])∈s.1:=by rw[List.getD_eq_getElem?_getD,ai h];exact bJ h
  have a:s.1.getD (i:Int).toNat cP.bl=s.1.getD i (0,[]):=by rw[aF];rfl
  have q:=w _ v
  by_cases d:i=i0
  ·subst d;have z:m=0:=by rcases g with⟨_,o⟩|⟨l,_⟩ <;> omega
   rw[<-a] at b q;refine aq [(20,true),(1000005,true)] 100 rfl ?_ ?_
   ·simp only[aa,aJ,av,af,ae];omega
   refine AK.C2 (ι:=Own (s.1.getD (i:Int).toNat cP.bl).2) nc 15 18 8 (λk=>Nat.ble k 14)
    (λk=>[.e (.one (.ptr 5 0)),.e (.one (.bp 2 (.sl i 2 0 i))),.e (.one (.ptr 0 0)),cP.sl s.1,dI i,xH [.int .i64 (s.1.getD (i:Int).toNat cP.bl).1,sP (s.1.getD (i:Int).toNat cP.bl)],xH [.int .i64 (s.1.getD (i:Int).toNat cP.bl).1,sP (s.1.getD (i:Int).toNat cP.bl)],dI (s.1.getD (i:Int).toNat cP.bl).1,
     .e (.one (.c (.sl true 2 0 (λj=>[].getD j [])))),.e (.one (.ptr 0 0)),cP.sl s.1,dI i,xH [.int .i64 (s.1.getD (i:Int).toNat cP.bl).1,sP (s.1.getD (i:Int).toNat cP.bl)],xH [sP (s.1.getD (i:Int).toNat cP.bl)],.e (.one (.c (sP (s.1.getD (i:Int).toNat cP.bl))))].getD k .any)
    (λq k=>[.e (.one (.c (Bc _ q))),.e (.agg [.c (.int .i64 (s.1.getD (i:Int).toNat cP.bl).1),.c (Bc _ q)]),.e (.one (.c (.sl true 2 1 (λj=>[[.int .i64 (s.1.getD (i:Int).toNat cP.bl).1,Bc _ q]].getD j []))))].getD (k-15) .any)
    (λq=>JO s i (gQ s.1 i (kF bf m)) 0 [] bf m xs++[DR _ q])
    rfl rfl rfl rfl rfl rfl rfl (λk h=>by have:=cA h;omega) rfl
    ⟨OA.bS tok aY.nil rfl,OA.bS tok aY.nil rfl,OA.bS tok aY.nil rfl,OA.bS tok aY.nil rfl,OA.bS tok aY.nil rfl,OA.eval (ds:=[]) tok aY.nil rfl ?_,OA.bS tok aY.nil rfl,OA.bS tok aY.nil rfl,OA.bS tok aY.nil rfl,OA.bS tok aY.nil rfl,OA.bS tok aY.nil rfl,OA.bS tok aY.nil rfl,OA.eval (ds:=[]) tok aY.nil rfl ?_,OA.bS tok aY.nil rfl,OA.bS tok aY.nil rfl,ab,ab,ab,ab,ab,ab,ab⟩
    (λq=>⟨OA.bS tok aY.nil rfl,OA.bS tok aY.nil rfl,OA.bS tok aY.nil rfl,OA.bS tok aY.nil rfl,OA.bS tok aY.nil rfl,OA.eval (ds:=[]) tok aY.nil rfl ?_,OA.bS tok aY.nil rfl,OA.bS tok aY.nil rfl,OA.bS tok aY.nil rfl,OA.bS tok aY.nil rfl,OA.bS tok aY.nil rfl,OA.bS tok aY.nil rfl,OA.eval (ds:=[]) tok aY.nil rfl ?_,OA.bS tok aY.nil rfl,OA.bS tok aY.nil rfl,ab,OA.bS tok aY.nil rfl,OA.bS tok aY.nil rfl,ab⟩)
    (tI.LP rfl (yE.fresh (K5 rfl) rfl rfl rfl b (by show _*24<=_;omega) (Cq _ _))) ?_
   ·simp only[aa,ae];omega
   ·simp only[aa,ae];omega
   ·simp only[aa,ae];omega
   ·simp only[aa,ae];omega
   rw[a];rw[a] at b q;generalize n:s.1.getD i (0,[])=p at *;intro r;refine aq [(1000004,true)] 100 rfl ?_ ?_
   ·simp only[aa,show i56.bytes=32 from rfl,af,ae];and_intros <;> omega
   refine AK.swap 6 7 (by decide) rfl rfl (λ_ _ h=>h.1) (λ_ _ h=>h.1) ?_
   refine aA rfl ?_ (AK.ay (i+1,r.1.1,p.2.length,r.1.2) rfl ?_ rfl rfl rfl ?_ rfl ?_ ?_)
   ·simp only[aa,aJ,ae];omega
   ·simp[aa.cat,aa,au.same]
   ·have e:=uG (ps:=s.1) (i0:=i) (u:=kF r.1.1 p.2.length) (u':=kF bf m);rw[n] at e;simp only[aa.cat,aa,ae,af]
    and_intros <;> first|exactλ_ _=>rfl|exact e|rfl
   ·refine⟨by show i+1<=_;omega,.inr ⟨by show i<i+1;omega,?_⟩⟩
    rw[n];exact⟨rfl,r.2⟩
   ·show s.1.length-(i+1)<s.1.length-i;omega
  ·refine aq [(20,true),(2000038,true)] 200 rfl ?_ (AK.ay (i+1,bf,m,xs) rfl ?_ rfl rfl rfl ?_ rfl ?_ ?_)
   ·simp only[aa,a,aJ,show i56.bytes=32 from rfl,show i62.bytes=24 from rfl,av,fI,af,ae];and_intros <;> omega
   ·simp[aa.cat,aa]
   ·have e:=wo (ps:=s.1) (u:=kF bf m) d;simp only[aa.cat,aa,a,gC,aw,ae,af]
    and_intros <;> first|exactλ_ _=>rfl|exact e|rfl
   ·refine⟨by show i+1<=_;omega,?_⟩
    rcases g with⟨l,o⟩|⟨l,o⟩
    ·exact .inl ⟨by show i+1<=i0;omega,o⟩
    ·exact .inr ⟨by show i0<i+1;omega,o⟩
   ·show s.1.length-(i+1)<s.1.length-i;omega
 obtain rfl:i=s.1.length:=by omega
 obtain⟨_,z,t⟩:i0<s.1.length/\m=(s.1.getD i0 (0,[])).2.length/\c6 2 (s.1.getD i0 (0,[])).2.length (dO.fn (s.1.getD i0 (0,[])).2) xs:=by
  rcases g with⟨l,_⟩|l
  ·omega
  ·exact l
 subst z;clear g;generalize s.1.getD i0 (0,[])=pp at *;refine aq [(20,false)] 200 rfl (by simp[aa]) (AK.leaveD rfl rfl ?_)
 refine cE rfl ab ?_;refine AK.bA 7 (λi=>i<=s.2.1.length) (λi:Nat=>[(1,.e (.one (.ptr 0 0))),(2,.e (.one (.ptr 1 0))),(3,.e (.one (.ptr 5 0))),(5,dI i)]) (λi=>JO s s.1.length (gQ s.1 i0 (kF bf pp.2.length)) i (s.2.1.take i) bf pp.2.length xs) (λi=>s.2.1.length-i) 0 rfl ?_ rfl ?_ rfl (by omega) ?_
 ·simp[aa.cat,aa]
 ·simp[aa.cat,aa,au.same,au]
 intro i hi
 by_cases h:i<s.2.1.length
 ·have v:s.2.1.getD i (0,[])∈s.2.1:=by rw[List.getD_eq_getElem?_getD,ai h];exact bJ h
  have a:s.2.1.getD (i:Int).toNat cT.bl=s.2.1.getD i (0,[]):=by rw[aF];rfl
  have q:=y _ v;have e:=cT.fM s.2.1 h (0,[]);generalize s.2.1.getD i (0,[])=x at *;refine aq [(47,true),(1000010,true)] 200 rfl ?_ ?_
  ·simp only[aa,a,av,fI,af,ae];and_intros <;> omega
  rw[a];refine AK.hZ 7 1 69 2 (cL.fn []) rfl rfl ?_;refine cE rfl ab ?_;refine AK.bA 9 (λj=>j<=x.2.length) (λj:Nat=>[(1,.e (.one (.ptr 0 0))),(2,.e (.one (.ptr 1 0))),(3,.e (.one (.ptr 5 0))),(5,dI i),(6,.e (.one (.ptr 7 0))),(7,dI j)]) (λj=>JO s s.1.length (gQ s.1 i0 (kF bf pp.2.length)) i (s.2.1.take i) bf pp.2.length xs++[.cells 39 [.c (.int .i64 x.1),.vec 8 2 j (cL.fn (x.2.take j))],.vec 69 2 j (cL.fn (x.2.take j))]) (λj=>x.2.length-j) 0 rfl ?_ rfl ?_ rfl (by omega) ?_
  ·simp[aa.cat,aa]
  ·simp[aa.cat,aa,au.same,au]
  intro j A
  by_cases d:j<x.2.length
  ·have f:x.2.getD (j:Int).toNat cL.bl=x.2.getD j ([],[]):=by rw[aF];rfl
   have C:=q.2 (x.2.getD j ([],[])) (by rw[List.getD_eq_getElem?_getD,ai d];exact bJ d)
   have B:=cL.fM x.2 d ([],[]);refine aq [(66,true),(2000085,true)] 200 rfl ?_ (AK.ay (j+1) rfl ?_ rfl rfl rfl ?_ rfl ?_ ?_)
   ·simp only[aa,a,f,aJ,show i69.bytes=40 from rfl,show i3.bytes=8 from rfl,av,fI,af,ae];and_intros <;> omega
   ·simp[aa.cat,aa]
   ·simp only[aa.cat,aa,a,f,gC,aw,ae,af]
    and_intros <;> first|exactλ_ _=>rfl|exact B|rfl
   ·show j+1<=_;omega
   ·omega
  obtain rfl:j=x.2.length:=by omega
  rw[cm];refine aq [(66,false)] 200 rfl ?_ (AK.leaveD rfl rfl ?_)
  ·simp only[aa,a,aZ];and_intros <;> omega
  refine cE rfl ?_ (AK.ay (i+1) rfl ?_ rfl rfl rfl ?_ rfl ?_ ?_)
  ·simp only[aa,a,aJ,show i39.bytes=32 from rfl,af,ae];and_intros <;> omega
  ·simp[aa.cat,aa]
  ·simp only[aa.cat,aa,ae,af]
   and_intros <;> first|exactλ_ _=>rfl|exact e|rfl
  ·show i+1<=_;omega
  ·omega
 obtain rfl:i=s.2.1.length:=by omega
 rw[cm];refine aq [(47,false)] 200 rfl (by simp[aa]) (AK.leaveD rfl rfl ?_)
 refine cE rfl ab ?_;refine AK.ez ⟨(bf,xs),t⟩ [2,3,4,6] rfl rfl rfl rfl rfl rfl rfl rfl ?_ rfl rfl rfl rfl (λj A=>absurd A (by simp))
 ·simp[aa.cat,aa,au.same]
abbrev MX(s:az)(i:Nat)(p:List a9)(j:Nat)(q:List cB):List aj:=[mS s,.cells 27 [dk,dk,dk],.vec 64 2 s.2.2.length (cH.fn s.2.2),.cells 27 [.vec 4 2 i (cP.fn p),.vec 5 2 j (cT.fn q),.vec 2 2 s.2.2.length (cH.fn s.2.2)],.vec 56 2 i (cP.fn p),.vec 39 2 j (cT.fn q)]
set_option maxHeartbeats 4000000 in
theorem e9(s:az)(o:s.1.length<=1000000)(f:∀ p∈s.1,p.2.length<=1000000)(u:s.2.1.length<=1000000)(g:mQ s)(r:s.2.2.length<=1000000) :
  Ev X 19 [eH s] [] (.e (.agg [.vec 0 2 s.1.length (cP.fn s.1),.vec 1 2 s.2.1.length (cT.fn s.2.1),.vec 2 2 s.2.2.length (cH.fn s.2.2)])) [.vec 56 2 s.1.length (cP.fn s.1),.vec 39 2 s.2.1.length (cT.fn s.2.1),.vec 64 2 s.2.2.length (cH.fn s.2.2)]:=by
 refine Ev.jV tok Tryz.func19 rfl rfl rfl λn=>?_
 refine aq [(1000002,true)] 200 rfl ?_ ?_
 ·simp only[aa,show i64.bytes=16 from rfl,af,ae,fI];and_intros <;> omega
 refine AK.hZ 3 0 56 2 (cP.fn []) rfl rfl ?_;refine AK.hZ 3 1 39 2 (cT.fn []) rfl rfl ?_;refine cE rfl ab ?_;refine AK.bA 6 (λi=>i<=s.1.length) (λi:Nat=>[(1,.e (.one (.ptr 0 0))),(2,.e (.one (.ptr 1 0))),(3,.e (.one (.ptr 3 0))),(4,dI i)]) (λi=>MX s i (s.1.take i) 0 []) (λi=>s.1.length-i) 0 rfl ?_ rfl ?_ rfl (by omega) ?_
 ·simp[aa.cat,aa]
 ·simp[aa.cat,aa,au,gC]
 intro i hi
 by_cases h:i<s.1.length
 ·have d:s.1.getD i (0,[])∈s.1:=by rw[List.getD_eq_getElem?_getD,ai h];exact bJ h
  have a:s.1.getD (i:Int).toNat cP.bl=s.1.getD i (0,[]):=by rw[aF];rfl
  have q:=f _ d;refine aq [(20,true),(2000038,true)] 200 rfl ?_ (AK.ay (i+1) rfl ?_ rfl rfl rfl ?_ rfl ?_ ?_)
  ·simp only[aa,a,aJ,show i56.bytes=32 from rfl,show i62.bytes=24 from rfl,av,fI,af,ae];and_intros <;> omega
  ·simp[aa.cat,aa]
  ·have e:=cP.fM s.1 h (0,[]);simp only[aa.cat,aa,a,gC,aw,ae,af]
   and_intros <;> first|exactλ_ _=>rfl|exact e|rfl|omega
  ·show i+1<=_;omega
  ·omega
 obtain rfl:i=s.1.length:=by omega
 rw[cm];refine aq [(20,false)] 200 rfl (by simp[aa]) (AK.leaveD rfl rfl ?_)
 refine cE rfl ab ?_;refine AK.bA 6 (λi=>i<=s.2.1.length) (λi:Nat=>[(1,.e (.one (.ptr 0 0))),(2,.e (.one (.ptr 1 0))),(3,.e (.one (.ptr 3 0))),(5,dI i)]) (λi=>MX s s.1.length s.1 i (s.2.1.take i)) (λi=>s.2.1.length-i) 0 rfl ?_ rfl ?_ rfl (by omega) ?_
 ·simp[aa.cat,aa]
 ·simp[aa.cat,aa,au.same,au]
 intro i hi
 by_cases h:i<s.2.1.length
 ·have d:s.2.1.getD i (0,[])∈s.2.1:=by rw[List.getD_eq_getElem?_getD,ai h];exact bJ h
  have a:s.2.1.getD (i:Int).toNat cT.bl=s.2.1.getD i (0,[]):=by rw[aF];rfl
  have q:=g _ d;have e:=cT.fM s.2.1 h (0,[]);generalize s.2.1.getD i (0,[])=x at *;refine aq [(47,true),(1000010,true)] 200 rfl ?_ ?_
  ·simp only[aa,a,av,fI,af,ae];and_intros <;> omega
  rw[a];refine AK.hZ 6 1 69 2 (cL.fn []) rfl rfl ?_;refine cE rfl ab ?_;refine AK.bA 8 (λj=>j<=x.2.length) (λj:Nat=>[(1,.e (.one (.ptr 0 0))),(2,.e (.one (.ptr 1 0))),(3,.e (.one (.ptr 3 0))),(5,dI i),(6,.e (.one (.ptr 6 0))),(7,dI j)]) (λj=>MX s s.1.length s.1 i (s.2.1.take i)++[.cells 39 [.c (.int .i64 x.1),.vec 7 2 j (cL.fn (x.2.take j))],.vec 69 2 j (cL.fn (x.2.take j))]) (λj=>x.2.length-j) 0 rfl ?_ rfl ?_ rfl (by omega) ?_
  ·simp[aa.cat,aa]
  ·simp[aa.cat,aa,au.same,au]
  intro j l
  by_cases k:j<x.2.length
  ·have b:x.2.getD (j:Int).toNat cL.bl=x.2.getD j ([],[]):=by rw[aF];rfl
   have t:=q.2 (x.2.getD j ([],[])) (by rw[List.getD_eq_getElem?_getD,ai k];exact bJ k)
   have m:=cL.fM x.2 k ([],[]);refine aq [(66,true),(2000085,true)] 200 rfl ?_ (AK.ay (j+1) rfl ?_ rfl rfl rfl ?_ rfl ?_ ?_)
   ·simp only[aa,a,b,aJ,show i69.bytes=40 from rfl,show i3.bytes=8 from rfl,av,fI,af,ae];and_intros <;> omega
   ·simp[aa.cat,aa]
   ·simp only[aa.cat,aa,a,b,gC,aw,ae,af]
    and_intros <;> first|exactλ_ _=>rfl|exact m|rfl
   ·show j+1<=_;omega
   ·omega
  obtain rfl:j=x.2.length:=by omega
  rw[cm];refine aq [(66,false)] 200 rfl ?_ (AK.leaveD rfl rfl ?_)
  ·simp only[aa,a,aZ];and_intros <;> omega
  refine cE rfl ?_ (AK.ay (i+1) rfl ?_ rfl rfl rfl ?_ rfl ?_ ?_)
  ·simp only[aa,a,aJ,show i39.bytes=32 from rfl,af,ae];and_intros <;> omega
  ·simp[aa.cat,aa]
  ·simp only[aa.cat,aa,ae,af]
   and_intros <;> first|exactλ_ _=>rfl|exact e|rfl|omega
  ·show i+1<=_;omega
  ·omega
 obtain rfl:i=s.2.1.length:=by omega
 rw[cm];refine aq [(47,false)] 200 rfl (by simp[aa]) (AK.leaveD rfl rfl ?_)
 refine cE rfl ab ?_;refine AK.ez () [4,5,2] rfl rfl rfl rfl rfl rfl rfl rfl ?_ rfl rfl rfl rfl (λj l=>absurd l (by simp))
 ·simp[aa.cat,aa,au.same]
theorem A5(s:az) (n:Int)(c:s.2.2.length<=1000000)(h:n<0∨n>s.2.2.length):Ev X 20 [eH s,dI n] [] (eH s) []:=by
 refine Ev.jV tok Tryz.func20 rfl rfl rfl λd=>?_
 have a:aY X [(21,za)]:=.cons AX .nil;refine ah a [(15,true)] 200 rfl (by simp[aa];omega) ?_
 refine AK.ez () [] rfl rfl rfl rfl rfl rfl rfl rfl ?_ rfl rfl rfl rfl (λj b=>absurd b (by simp))
 simp[aa.cat,aa,au.same]
abbrev m9(n:Nat)(s:az)(q:List cB):List cB:=q.filter λx=>!fY n s.2.2 x
abbrev wa(n:Nat)(s:az)(j:Nat)(x:cB):Bool:=((s.2.2.drop n).take j).any λh=>h.2==x.1
abbrev Vf(s:az)(n:Nat)(ks:List cB):List aj:=[.cells 27 [.c (SR s.1),.c (SU s.2.1),.c (y7 (s.2.2.take n))],.cells 27 [dk,dk,dk],.vec 39 2 ks.length (cT.fn ks)]
theorem rD{α:Type}(p:α->Bool){l:List α}{i:Nat}(h:i<l.length)(d:α):(l.take (i+1)).filter p=(l.take i).filter p++(if p (l.getD i d) then [l.getD i d] else []):=by
 rw[bt h d,kX]
 congr 1
 generalize l.getD i d=x
 by_cases a:p x <;> simp[a]
theorem G4{α:Type}(p:α->Bool){l:List α}{i:Nat}(h:i<l.length)(d:α):(l.take (i+1)).any p=((l.take i).any p||p (l.getD i d)):=by
 rw[bt h d,List.any_append];simp
set_option maxHeartbeats 4000000 in
theorem A6(s:az)(n:Nat)(y:n<=s.2.2.length)(z:s.2.1.length<=1000000)(m:∀ x∈s.2.1,-1000000<=x.1/\x.1<=1000000)(w:s.2.2.length<=1000000):Ev X 20 [eH s,dI n] [] (eH (s.1,m9 n s s.2.1,s.2.2.take n)) []:=by
 refine Ev.jV tok Tryz.func20 rfl rfl rfl λv=>?_
 have a:aY X [(21,za)]:=.cons AX .nil;refine ah a [(15,false),(1000006,true)] 100 rfl ?_ ?_
 ·simp[aa,jc];omega
 refine AK.iS 6 39 2 rfl rfl ?_;refine ah a [] 100 rfl ab ?_;refine AK.bA 3 (λi=>i<=s.2.1.length) (λi:Nat=>[(2,.e (.one (.ptr 0 0))),(4,.e (.one (.ptr 1 0))),(5,cH.sl (s.2.2.drop n)),(6,.e (.one (.vec 2 2 (m9 n s (s.2.1.take i)).length (cT.fn (m9 n s (s.2.1.take i)))))),(7,dI i)]) (λi=>Vf s n (m9 n s (s.2.1.take i))) (λi=>s.2.1.length-i) 0 rfl ?_ rfl ?_ rfl (by omega) ?_
 ·have e:=cH.Ck s.2.2 n (s.2.2.length-n);simp[aa.cat,aa,au.same,au.nil,bT];exact e
 ·simp[aa.cat,aa,au.same,au.nil,bT];exact⟨by omega,λi hi=>by
   have k:i<n:=hi;simp[j7,bT,gN.fn,qT,List.getD_eq_getElem?_getD,de,k]⟩
 intro i hi
 by_cases h:i<s.2.1.length
 ·have p:s.2.1.getD i (0,[])∈s.2.1:=by rw[List.getD_eq_getElem?_getD,ai h];exact bJ h
  have f:s.2.1.getD (i:Int).toNat cT.bl=s.2.1.getD i (0,[]):=by rw[aF];rfl
  have q:=m _ p;have e:=cT.fM s.2.1 h (0,[]);have d:m9 n s (s.2.1.take (i+1))=m9 n s (s.2.1.take i)++(if !fY n s.2.2 (s.2.1.getD i (0,[])) then [s.2.1.getD i (0,[])] else []):=rD (λx=>!fY n s.2.2 x) h (0,[])
  have t:(m9 n s (s.2.1.take i)).length<=i:=er (ik _ _) (by simp;omega)
  generalize m9 n s (s.2.1.take i)=ks at *;generalize s.2.1.getD i (0,[])=x at *;refine ah a [(31,true)] 200 rfl ?_ ?_
  ·simp only[aa,f,av,fI,af,ae];and_intros <;> omega
  refine AK.bA 3 (λj=>j<=(s.2.2.drop n).length) (λj:Nat=>[(2,.e (.one (.ptr 0 0))),(4,.e (.one (.ptr 1 0))),(5,cH.sl (s.2.2.drop n)),(6,.e (.one (.vec 2 2 ks.length (cT.fn ks)))),(7,dI i),(8,dB (wa n s j x)),(9,dI j)]) (λj=>Vf s n ks) (λj=>(s.2.2.drop n).length-j) 0 rfl ?_ rfl ?_ rfl (by omega) ?_
  ·simp[aa.cat,aa,au.same]
  ·simp[aa.cat,aa,au.same]
  intro j o;have r:=gj (i:=n) (l:=s.2.2)
  by_cases u:j<(s.2.2.drop n).length
  ·have b:(s.2.2.drop n).getD (j:Int).toNat cH.bl=(s.2.2.drop n).getD j (0,0):=by rw[aF];rfl
   have c:wa n s (j+1) x=(wa n s j x||((s.2.2.drop n).getD j (0,0)).2==x.1):=G4 (λh:Int×Int=>h.2==x.1) u (0,0)
   cases g:wa n s j x with
   |true =>
    refine ah a [(37,true)] 200 rfl ?_ (AK.ay (j+1) rfl ?_ rfl rfl rfl ?_ rfl ?_ ?_)
    ·simp only[aa,f,b,av,fI,af,ae];and_intros <;> omega
    ·rw[g] at c;simp[aa.cat,aa,au.same,c]
    ·simp[aa.cat,aa,au.same]
    ·show j+1<=_;omega
    ·omega
   |false =>
    refine ah a [(37,true)] 200 rfl ?_ (AK.ay (j+1) rfl ?_ rfl rfl rfl ?_ rfl ?_ ?_)
    ·simp only[aa,f,b,av,fI,af,ae];and_intros <;> omega
    ·rw[g] at c;simp only[aa.cat,aa,au.same,c,f,b,af,ae,Bool.false_or];rfl
    ·simp[aa.cat,aa,au.same]
    ·show j+1<=_;omega
    ·omega
  obtain rfl:j=(s.2.2.drop n).length:=by omega
  have c:wa n s (s.2.2.drop n).length x=fY n s.2.2 x:=by unfold wa fY;rw[cm]
  rw[c];cases g:fY n s.2.2 x with
  |true =>
   rw[g] at d;refine ah a [(37,false)] 200 rfl ?_ (AK.leaveD rfl rfl ?_)
   ·simp[aa]
   refine ah a [] 200 rfl ?_ (AK.ay (i+1) rfl ?_ rfl rfl rfl ?_ rfl ?_ ?_)
   ·simp only[aa,aJ,af,ae];omega
   ·have:m9 n s (s.2.1.take (i+1))=ks:=by simpa using d
    rw[this];simp only[aa.cat,aa,au.same,af,ae];rfl
   ·rw[show m9 n s (s.2.1.take (i+1))=ks by simpa using d]
    simp[aa.cat,aa,au.same]
   ·show i+1<=_;omega
   ·omega
  |false =>
   rw[g] at d;refine ah a [(37,false)] 200 rfl ?_ (AK.leaveD rfl rfl ?_)
   ·simp[aa]
   refine ah a [] 200 rfl ?_ (AK.ay (i+1) rfl ?_ rfl rfl rfl ?_ rfl ?_ ?_)
   ·simp only[aa,aJ,show i39.bytes=32 from rfl,af,ae];and_intros <;> omega
   ·rw[show m9 n s (s.2.1.take (i+1))=ks++[x] by simpa using d]
    simp only[aa.cat,aa,f,au.same,af,ae,ba,md];exact⟨cT.b9 ks x,rfl⟩
   ·rw[show m9 n s (s.2.1.take (i+1))=ks++[x] by simpa using d]
    simp only[aa.cat,aa,f,au.same,af,ae,ba,md];exact cT.b9 ks x
   ·show i+1<=_;omega
   ·omega
 obtain rfl:i=s.2.1.length:=by omega
 rw[cm];refine ah a [(31,false)] 200 rfl (by simp[aa]) (AK.leaveD rfl rfl ?_)
 refine ah a [] 200 rfl ab ?_;refine AK.ez () [] rfl rfl rfl rfl rfl rfl rfl rfl ?_ rfl rfl rfl rfl (λj o=>absurd o (by simp))
 simp[aa.cat,aa,au.same]
theorem DJ(s:az)(l:cQ)(a:fb s)(b:l.1≠1)(e:l.1≠2)(d:l.1≠3)(f:l.1≠4):Ev X 7 [eH s,fX l] [] (eH s) []:=by
 refine Ev.jV tok Tryz.func7 rfl rfl rfl λg=>?_
 refine aA rfl ab ?_;refine AK.aC (e9 s a.p a.p2 a.sn a.s2 a.h) [] rfl rfl rfl rfl rfl rfl rfl rfl rfl rfl rfl ?_;refine aq [(13,false),(42,false),(48,false),(91,false)] 100 rfl ?_ ?_
 ·simp[aa,b,e,d,f]
 refine AK.ez () [] rfl rfl rfl rfl rfl rfl rfl rfl ?_ rfl rfl rfl rfl (λj c=>absurd c (by simp))
 simp[aa.cat,aa,au.same]
theorem wc(s:az)(l:cQ)(s':az)(a:fb s)(d:l.1=2)(c:Ev X 20 [eH s,dI l.2.1] [] (eH s') []):Ev X 7 [eH s,fX l] [] (eH s') []:=by
 refine Ev.jV tok Tryz.func7 rfl rfl rfl λe=>?_
 refine aA rfl ab ?_;refine AK.aC (e9 s a.p a.p2 a.sn a.s2 a.h) [] rfl rfl rfl rfl rfl rfl rfl rfl rfl rfl rfl ?_;refine aq [(13,false),(42,true)] 100 rfl ?_ ?_
 ·simp[aa,d]
 refine AK.pV c.EM [] rfl rfl rfl rfl ?_ rfl rfl rfl (λ_=>rfl) rfl (λ_=>rfl) rfl ?_
 ·simp[aa.cat,aa,au.same]
 rintro -;refine aA rfl ab ?_;refine AK.ez () [] rfl rfl rfl rfl rfl rfl rfl rfl ?_ rfl rfl rfl rfl (λj b=>absurd b (by simp))
 simp[aa.cat,aa,au.same]
abbrev nV(n:Int)(q:List a9):List a9:=q.filter λx=>!(x.1==n)
abbrev S4(s:az)(l:cQ)(ks:List a9):List aj:=[mS s,.cells 29 (ux l),.cells 27 [dk,dk,dk],.vec 56 2 s.1.length (cP.fn s.1),.vec 39 2 s.2.1.length (cT.fn s.2.1),.vec 64 2 s.2.2.length (cH.fn s.2.2),
 .cells 27 [.vec 3 2 s.1.length (cP.fn s.1),.vec 4 2 s.2.1.length (cT.fn s.2.1),.vec 5 2 s.2.2.length (cH.fn s.2.2)],.vec 56 2 ks.length (cP.fn ks)]
set_option maxHeartbeats 4000000 in
theorem DK(s:az)(l:cQ)(b:fb s)(g:l.1=1):Ev X 7 [eH s,fX l] [] (eH (s.1.filter λx=>!(x.1==l.2.1),s.2.1,s.2.2)) []:=by
 refine Ev.jV tok Tryz.func7 rfl rfl rfl λn=>?_
 refine aA rfl ab ?_;refine AK.aC (e9 s b.p b.p2 b.sn b.s2 b.h) [] rfl rfl rfl rfl rfl rfl rfl rfl rfl rfl rfl ?_;refine aq [(13,true),(1000005,true)] 100 rfl ?_ ?_
 ·simp[aa,g]
 refine AK.iS 6 56 2 rfl rfl ?_;refine aA rfl ab ?_;have f:=b.p;refine AK.bA 8 (λi=>i<=s.1.length) (λi:Nat=>[(3,.e (.one (.ptr 1 0))),(4,.e (.one (.ptr 2 0))),(5,.e (.one (.ptr 6 0))),(6,.e (.one (.vec 7 2 (nV l.2.1 (s.1.take i)).length (cP.fn (nV l.2.1 (s.1.take i)))))),(7,dI i)]) (λi=>S4 s l (nV l.2.1 (s.1.take i))) (λi=>s.1.length-i) 0 rfl ?_ rfl ?_ rfl (by omega) ?_
 ·simp[aa.cat,aa,au.same,au.nil]
 ·simp[aa.cat,aa,au.same,au.nil]
 intro i hi
 by_cases h:i<s.1.length
 ·have d:s.1.getD (i:Int).toNat cP.bl=s.1.getD i (0,[]):=by rw[aF];rfl
  have a:nV l.2.1 (s.1.take (i+1))=nV l.2.1 (s.1.take i)++(if !((s.1.getD i (0,[])).1==l.2.1) then [s.1.getD i (0,[])] else []):=rD (λx:a9=>!(x.1==l.2.1)) h (0,[])
  have m:(nV l.2.1 (s.1.take i)).length<=i:=er (ik _ _) (by simp;omega)
  generalize nV l.2.1 (s.1.take i)=ks at *;generalize s.1.getD i (0,[])=x at *;cases c:x.1==l.2.1 with
  |true =>
   rw[c] at a;refine aq [(20,true),(31,false)] 200 rfl ?_ (AK.ay (i+1) rfl ?_ rfl rfl rfl ?_ rfl ?_ ?_)
   ·simp only[aa,d,aJ,av,aZ,fI,af,ae]
    and_intros <;> first|omega|simp[bne,c]
   ·rw[show nV l.2.1 (s.1.take (i+1))=ks by simpa using a]
    simp only[aa.cat,aa,au.same,af,ae];rfl
   ·rw[show nV l.2.1 (s.1.take (i+1))=ks by simpa using a]
    simp[aa.cat,aa,au.same]
   ·show i+1<=_;omega
   ·omega
  |false =>
   rw[c] at a;refine aq [(20,true),(31,true)] 200 rfl ?_ (AK.ay (i+1) rfl ?_ rfl rfl rfl ?_ rfl ?_ ?_)
   ·simp only[aa,d,aJ,show i56.bytes=32 from rfl,av,aZ,fI,af,ae]
    and_intros <;> first|omega|simp[bne,c]
   ·rw[show nV l.2.1 (s.1.take (i+1))=ks++[x] by simpa using a]
    simp only[aa.cat,aa,d,au.same,af,ae,ba,md];exact⟨cP.b9 ks x,rfl⟩
   ·rw[show nV l.2.1 (s.1.take (i+1))=ks++[x] by simpa using a]
    simp only[aa.cat,aa,d,au.same,af,ae,ba,md];exact cP.b9 ks x
   ·show i+1<=_;omega
   ·omega
 obtain rfl:i=s.1.length:=by omega
 rw[cm];refine aq [(20,false)] 200 rfl (by simp[aa]) (AK.leaveD rfl rfl ?_)
 refine cE rfl ab ?_;refine AK.ez () [] rfl rfl rfl rfl rfl rfl rfl rfl ?_ rfl rfl rfl rfl (λj k=>absurd k (by simp))
 simp[aa.cat,aa,au.same]
theorem G5{f:FuncId}{args:List D}(ps:List a9)(d:List cB)(n:Nat)(es:Nat->List C)(g:List (Int×Int))(i:g.length=n)(h:au n es (cH.fn g))
  (a:cf (ι:=Unit) X f args [] (λ_=>.e (.agg [aB 0 ps.length ps.length,aB 1 d.length d.length,aB 2 n n])) (λ_=>[.buf 56 2 ps.length (cP.fn ps),.buf 39 2 d.length (cT.fn d),.buf 64 2 n es])) :
  Ev X f args [] (eH (ps,d,g)) []:=by
 have j:=cf.ib (σ1:=λ_:Unit=>[.buf 56 2 ps.length (cP.fn ps),.buf 39 2 d.length (cT.fn d)]) (E:=64) (k:=2) (n:=λ_=>n) (es:=λ_=>es) a (λ_=>rfl) (λ_=>?_) (λ_=>rfl) (λ_=>fH _)
 have b:=cf.ib (σ1:=λ_:Unit=>[.buf 56 2 ps.length (cP.fn ps)]) (E:=39) (k:=2) (n:=λ_=>d.length) (es:=λ_=>cT.fn d) j (λ_=>rfl) (λ_=>?_) (λ_=>rfl) (λ_=>fH _)
 have c:=cf.ib (σ1:=λ_:Unit=>[]) (E:=56) (k:=2) (n:=λ_=>ps.length) (es:=λ_=>cP.fn ps) b (λ_=>rfl) (λ_=>?_) (λ_=>rfl) (λ_=>ar _)
 refine(c.le (res':=λ_=>eH (ps,d,g)) (λ_=>rfl) (λ_=>?_)).one
 ·simp only[aa.cat,aa,ae,af];exact⟨au.same,au.same,i.symm,h⟩
 ·simp[aa.cat,aa]
 ·simp[aa.cat,aa]
 ·simp[aa.cat,aa]
theorem A7(s:az)(l:cQ)(a:fb s)(h:l.1=4)(f:0<=l.2.1)(i:l.2.1<s.2.2.length)(b:aJ .i64 (3-Dr s l)) :
  cf (ι:=Unit) X 7 [eH s,fX l] [] (λ_=>.e (.agg [aB 0 s.1.length s.1.length,aB 1 s.2.1.length s.2.1.length,aB 2 s.2.2.length s.2.2.length])) (λ_=>[.buf 56 2 s.1.length (cP.fn s.1),.buf 39 2 s.2.1.length (cT.fn s.2.1),.buf 64 2 s.2.2.length (xN s l)]):=by
 refine cf.jz tok Tryz.func7 rfl rfl rfl λd=>?_
 have c:aY X [(21,za)]:=.cons AX .nil;have g:=a.h;refine ah c [] 100 rfl ab ?_;refine AK.aC (DL s a.p a.p2 a.sn a.s2 a.h) [] rfl rfl rfl rfl rfl rfl rfl rfl rfl rfl rfl ?_;refine ah c [(13,false),(42,false),(48,false),(91,true),(99,true)] 100 rfl ?_ ?_
 ·have b:aJ .i64 (3-(s.2.2.getD (0+l.2.1.toNat) cH.bl).1):=b;simp only[aa,aJ,h,av,af,ae] at b ⊢
  and_intros <;> first|omega|rfl
 refine AK.ez () [3,4,5] rfl rfl rfl rfl rfl rfl rfl rfl ?_ rfl rfl rfl rfl mP;simp[aa.cat,aa,au.same]
theorem DM(s:az)(l:cQ)(a:fb s)(h:l.1=4)(b:0<=l.2.1)(d:l.2.1<s.2.2.length)(c:aJ .i64 (3-Dr s l)) :
  Ev X 7 [eH s,fX l] [] (eH (s.1,s.2.1,s.2.2.set (0+l.2.1.toNat) (3-Dr s l,(s.2.2.getD (0+l.2.1.toNat) cH.bl).2))) [] :=
 G5 s.1 s.2.1 _ _ _ (by simp) (cH.uv s.2.2 (0+l.2.1.toNat) (3-Dr s l,(s.2.2.getD (0+l.2.1.toNat) cH.bl).2) s.2.2.length (ar _)) (A7 s l a h b d c)
theorem A8(s:az)(l:cQ)(a:fb s)(h:l.1=4)(f:¬(0<=l.2.1/\l.2.1<s.2.2.length)):Ev X 7 [eH s,fX l] [] (eH s) []:=by
 refine Ev.jV tok Tryz.func7 rfl rfl rfl λd=>?_
 have b:aY X [(21,za)]:=.cons AX .nil;have e:=a.h;refine ah b [] 100 rfl ab ?_;refine AK.aC (e9 s a.p a.p2 a.sn a.s2 a.h) [] rfl rfl rfl rfl rfl rfl rfl rfl rfl rfl rfl ?_;refine ah b [(13,false),(42,false),(48,false),(91,true),(99,false)] 100 rfl ?_ ?_
 ·simp only[aa,aJ,h,aZ,af,ae]
  and_intros <;> first|omega|rfl
 refine AK.ez () [] rfl rfl rfl rfl rfl rfl rfl rfl ?_ rfl rfl rfl rfl (λj c=>absurd c (by simp))
 simp[aa.cat,aa,au.same]
abbrev MY(s:az)(l:cQ)(i0 b cap n0:Nat)(a:List Value):List aj:=[mS s,.cells 29 (ux l),.cells 27 [dk,dk,dk],.buf 56 2 s.1.length (gQ s.1 i0 (.slice (some ⟨b,0,none⟩) n0 cap)),.buf 39 2 s.2.1.length (cT.fn s.2.1),.buf 64 2 s.2.2.length (cH.fn s.2.2),.cx (gz 62 2 (.row b cap) n0 a),.cells 27 [aB 3 s.1.length s.1.length,aB 4 s.2.1.length s.2.1.length,aB 5 s.2.2.length s.2.2.length]]
set_option maxHeartbeats 4000000 in
theorem Be(s:az)(l:cQ)(n:fb s)(h:l.1=3)(i0 m:Nat)(d:PH s l i0 m) :
  cf (ι:={ q:oZ×List Value // c6 2 (s.1.getD i0 (0,[])).2.length (dO.fn (cN (s.1.getD i0 (0,[])).2 m l.2.2.2)) q.2 }) X 7 [eH s,fX l] []
   (λ_=>.e (.agg [aB 0 s.1.length s.1.length,aB 1 s.2.1.length s.2.1.length,aB 2 s.2.2.length s.2.2.length]))
   (λq=>[.buf 56 2 s.1.length (gQ s.1 i0 (kF q.1.1 (s.1.getD i0 (0,[])).2.length)),.buf 39 2 s.2.1.length (cT.fn s.2.1),.buf 64 2 s.2.2.length (cH.fn s.2.2),.cx (gz 62 2 q.1.1 (s.1.getD i0 (0,[])).2.length q.1.2)]):=by
 have v:=d.ml;have G:=n.p2 _ (l3 d.i);have E:=n.p;refine cf.jz tok Tryz.func7 rfl rfl rfl λJ=>?_
 have a:aY X [(21,za)]:=.cons AX .nil;refine ah a [] 100 rfl ab ?_;refine AK.bZ (Bd s i0 d.i (by omega) n.p n.p2 n.sn n.s2 n.h) [] rfl rfl rfl rfl rfl rfl rfl (λ_=>rfl) rfl (λ_=>rfl) rfl ?_
 rintro⟨⟨bf,B⟩,C⟩;refine AK.EF (gz.len (l:=6) rfl) λw=>?_
 obtain⟨b,cap,rfl⟩:=w.2.2.1 (by omega)
 refine ah a [(13,false),(42,false),(48,true)] 100 rfl ?_ ?_
 ·simp[aa,h]
 refine AK.bA 8 (λx:Nat×List Value=>x.1<=s.1.length/\(x.1<=i0->x.2=B)/\(i0<x.1->c6 2 (s.1.getD i0 (0,[])).2.length (dO.fn (cN (s.1.getD i0 (0,[])).2 m l.2.2.2)) x.2)) (λx=>[(3,.e (.one (.ptr 1 0))),(4,.e (.one (.ptr 2 0))),(5,.e (.one (.ptr 7 0))),(8,dI x.1)]) (λx=>MY s l i0 b cap (s.1.getD i0 (0,[])).2.length x.2) (λx=>s.1.length-x.1) (0,B) rfl ?_ rfl ?_ rfl ⟨by omega,λ_=>rfl,λh=>by omega⟩ ?_
 ·simp[aa.cat,aa,au.same]
 ·simp only[aa.cat,aa,au.same,ae,af]
  and_intros <;> first|exactλ_ _=>rfl|rfl
 rintro⟨i,f⟩ ⟨hi,g,j⟩;simp only at hi g j;have r:0+(i:Int).toNat=i:=by omega
 by_cases h:i<s.1.length
 ·by_cases z:i=i0
  ·subst z;obtain rfl:=g (ar _);have o:=d.no;have D:=d.at';generalize F:(s.1.getD i (0,[])).2=xs at *;refine ah a [(54,true),(1000017,true)] 100 rfl ?_ ?_
   ·simp only[aa,av,af,ae];omega
   refine AK.C2 (ι:=Unit) nc 17 20 20 (λk=>Nat.ble k 16) (λk=>[.e (.one (.ptr 7 0)),.e (.one (aB 3 s.1.length s.1.length)),dI i,.e (.one (.bp 3 (.el s.1.length 2 (0+(i:Int).toNat) 0))),.e (.one (.bp 3 (.el s.1.length 2 (0+(i:Int).toNat) 0))),dI (s.1.getD (0+(i:Int).toNat) (0,[])).1,.e (.one (.ptr 1 1)),dI l.2.1,dB ((s.1.getD (0+(i:Int).toNat) (0,[])).1==l.2.1),dB true,.e (.one (.ptr 1 2)),dI l.2.2.1,.e (.one (.ptr 7 0)),.e (.one (aB 3 s.1.length s.1.length)),dI i,.e (.one (.bp 3 (.el s.1.length 2 (0+(i:Int).toNat) 0))),.e (.one (.bp 3 (.el s.1.length 2 (0+(i:Int).toNat) 1)))].getD k .any)
    (λ_ k=>[.e (.one (.c (.val (.slice (some ⟨b,0,none⟩) xs.length cap)))),dI xs.length,dI (xs.length-1)].getD (k-17) .any)
    (λ_=>MY s l i b cap xs.length f) rfl rfl rfl rfl rfl rfl rfl (λk h=>by have:=cA h;omega) rfl
    ⟨OA.bS tok a rfl,OA.bS tok a rfl,OA.bS tok a rfl,OA.eval (ds:=[]) tok a rfl (by simp only[aa,ae];omega),OA.bS tok a rfl,OA.eval (ds:=[]) tok a rfl (by simp only[aa,af,ae];omega),OA.bS tok a rfl,OA.bS tok a rfl,OA.bS tok a rfl,OA.eval (ds:=[(66,true)]) tok a rfl (by simp only[aa.cat,aa,r,o,fG,af]),OA.bS tok a rfl,OA.bS tok a rfl,OA.bS tok a rfl,OA.bS tok a rfl,OA.bS tok a rfl,OA.eval (ds:=[]) tok a rfl (by simp only[aa,ae];omega),OA.bS tok a rfl,ab,ab,ab,ab,ab,ab⟩
    (λ_=>⟨OA.bS tok a rfl,OA.bS tok a rfl,OA.bS tok a rfl,OA.eval (ds:=[]) tok a rfl (by simp only[aa,ae];omega),OA.bS tok a rfl,OA.eval (ds:=[]) tok a rfl (by simp only[aa,af,ae];omega),OA.bS tok a rfl,OA.bS tok a rfl,OA.bS tok a rfl,OA.eval (ds:=[(66,true)]) tok a rfl (by simp only[aa.cat,aa,r,o,fG,af]),OA.bS tok a rfl,OA.bS tok a rfl,OA.bS tok a rfl,OA.bS tok a rfl,OA.bS tok a rfl,OA.eval (ds:=[]) tok a rfl (by simp only[aa,ae];omega),OA.bS tok a rfl,ab,OA.eval (ds:=[]) tok a rfl (by simp only[aa,ae];omega),OA.eval (ds:=[]) tok a rfl (by simp only[aa,aJ,ae];omega),ab⟩)
    (tI.rW (OA.kJ (te rfl) (aM.yx tok (e:=.one (.c (.val (.slice (some ⟨b,0,none⟩) xs.length cap)))) rfl rfl rfl rfl rfl ?_ ?_))) λ_=>?_
   ·show some (E1.one (A.c (zI s.1 i (.slice (some ⟨b,0,none⟩) xs.length cap) (0+(i:Int).toNat))))=_;rw[r,zI,an rfl]
   ·show 0+(i:Int).toNat<_;omega
   refine ah a [(78,true),(1000018,true)] 100 rfl ?_ ?_
   ·simp only[aa,av,ae];omega
   refine AK.C2 (ι:=Unit) nc 5 10 8 (λk=>Nat.ble k 4||(Nat.ble 6 k&&Nat.ble k 9)) (λk=>[.e (.one (.ptr 7 0)),.e (.one (aB 3 s.1.length s.1.length)),dI i,.e (.one (.bp 3 (.el s.1.length 2 (0+(i:Int).toNat) 0))),.e (.one (.bp 3 (.el s.1.length 2 (0+(i:Int).toNat) 1))),.any,.e (.one (.ptr 1 2)),dI l.2.2.1,.e (.one (.ptr 1 3)),.e (.one (.c (.str l.2.2.2)))].getD k .any)
    (λ_ k=>[.e (.one (.c (.val (.slice (some ⟨b,0,none⟩) xs.length cap))))].getD (k-5) .any)
    (λ_=>MY s l i b cap xs.length f) rfl rfl rfl rfl rfl rfl rfl (λk h=>by simp at h;omega) rfl
    ⟨OA.bS tok a rfl,OA.bS tok a rfl,OA.bS tok a rfl,OA.eval (ds:=[]) tok a rfl (by simp only[aa,ae];omega),OA.bS tok a rfl,ab,OA.bS tok a rfl,OA.bS tok a rfl,OA.bS tok a rfl,OA.bS tok a rfl,ab,ab,ab,ab⟩
    (λ_=>⟨OA.bS tok a rfl,OA.bS tok a rfl,OA.bS tok a rfl,OA.eval (ds:=[]) tok a rfl (by simp only[aa,ae];omega),OA.bS tok a rfl,ab,OA.bS tok a rfl,OA.bS tok a rfl,OA.bS tok a rfl,OA.bS tok a rfl,ab⟩)
    (tI.rW (OA.kJ (te rfl) (aM.yx tok (e:=.one (.c (.val (.slice (some ⟨b,0,none⟩) xs.length cap)))) rfl rfl rfl rfl rfl ?_ ?_))) λ_=>?_
   ·show some (E1.one (A.c (zI s.1 i (.slice (some ⟨b,0,none⟩) xs.length cap) (0+(i:Int).toNat))))=_;rw[r,zI,an rfl]
   ·show 0+(i:Int).toNat<_;omega
   refine ah a [] 100 rfl ?_ ?_
   ·simp only[aa,ae];omega
   have I:f.length=xs.length*2:=C.len;have H:0+l.2.2.1.toNat*2+1=m*2+1:=by omega
   refine AK.zR tok 6 rfl rfl rfl rfl rfl rfl rfl ?_ rfl rfl λvs EB=>?_
   ·show 0+l.2.2.1.toNat*2+1+1<=f.length;omega
   have u:=qn C v EB;refine ah a [] 100 rfl ?_ (AK.ay (i+1,f.take (m*2+1)++vs++f.drop (m*2+1+vs.length)) rfl ?_ rfl rfl rfl ?_ rfl ?_ ?_)
   ·simp only[aa,aJ,ae];omega
   ·simp[aa.cat,aa,au.same]
   ·simp only[aa.cat,aa,au.same,ae,af];show gz 62 2 _ _ (List.take (0+l.2.2.1.toNat*2+1) f++vs++List.drop (0+l.2.2.1.toNat*2+1+vs.length) f)=_;rw[H]
   ·exact⟨by show i+1<=_;omega,λt=>absurd t (by show ¬i+1<=i;omega),λ_=>u⟩
   ·show s.1.length-(i+1)<s.1.length-i;omega
  ·have y:=d.ne i h z;refine ah a [(54,true),(66,false),(78,false)] 100 rfl ?_ (AK.ay (i+1,f) rfl ?_ rfl rfl rfl ?_ rfl ?_ ?_)
   ·simp only[aa,aJ,r,cD,av,af,ae]
    and_intros <;> first|exact y|omega
   ·simp[aa.cat,aa,au.same]
   ·simp[aa.cat,aa,au.same]
   ·exact⟨by show i+1<=_;omega,λt=>g (by have:i+1<=i0:=t;omega),λt=>j (by have:i0<i+1:=t;omega)⟩
   ·show s.1.length-(i+1)<s.1.length-i;omega
 obtain rfl:i=s.1.length:=by omega
 refine ah a [(54,false)] 100 rfl (by simp[aa]) (AK.leaveD rfl rfl ?_)
 refine ah a [] 100 rfl ab ?_;refine AK.ez ⟨(.row b cap,f),j d.i⟩ [3,4,5,6] rfl rfl rfl rfl rfl rfl rfl rfl ?_ rfl rfl rfl rfl mP;simp[aa.cat,aa,au.same]
theorem DV{f:FuncId}{args:List D}(s:az)(l:cQ)(i0 m:Nat)(hi:i0<s.1.length)
  (a:cf (ι:={ q:oZ×List Value // c6 2 (s.1.getD i0 (0,[])).2.length (dO.fn (cN (s.1.getD i0 (0,[])).2 m l.2.2.2)) q.2 }) X f args []
   (λ_=>.e (.agg [aB 0 s.1.length s.1.length,aB 1 s.2.1.length s.2.1.length,aB 2 s.2.2.length s.2.2.length]))
   (λq=>[.buf 56 2 s.1.length (gQ s.1 i0 (kF q.1.1 (s.1.getD i0 (0,[])).2.length)),.buf 39 2 s.2.1.length (cT.fn s.2.1),.buf 64 2 s.2.2.length (cH.fn s.2.2),.cx (gz 62 2 q.1.1 (s.1.getD i0 (0,[])).2.length q.1.2)])) :
  Ev X f args [] (eH (gG s l i0 m)) []:=by
 generalize o:s.1.getD i0 (0,[])=p at *;have i:∀ j,j≠i0->cP.fn (gG s l i0 m).1 j=cP.fn s.1 j:=λj g=>by
  simp[gN.fn,qT,List.getD_eq_getElem?_getD,sr,fJ g]
 have t:cP.fn (gG s l i0 m).1 i0=[.int .i64 p.1,.sl false 2 p.2.length (dO.fn (cN p.2 m l.2.2.2))]:=by
  have:(gG s l i0 m).1.getD i0 cP.bl=(p.1,cN p.2 m l.2.2.2):=by
   show (s.1.set i0 ((s.1.getD i0 (0,[])).1,cN (s.1.getD i0 (0,[])).2 m l.2.2.2)).getD i0 cP.bl=_;rw[o,List.getD_eq_getElem?_getD,bk hi];rfl
  show cP.enc ((gG s l i0 m).1.getD i0 cP.bl)=_;rw[this];show [C.int .i64 p.1,C.sl false 2 (cN p.2 m l.2.2.2).length (dO.fn (cN p.2 m l.2.2.2))]=_;rw[rF]
 have u:=cf.xh (σ1:=λq:{ q:oZ×List Value // c6 2 p.2.length (dO.fn (cN p.2 m l.2.2.2)) q.2 }=>[.buf 56 2 s.1.length (gQ s.1 i0 (kF q.1.1 p.2.length)),.buf 39 2 s.2.1.length (cT.fn s.2.1),.buf 64 2 s.2.2.length (cH.fn s.2.2)]) (σ2:=λ_=>[.buf 56 2 s.1.length (cP.fn (gG s l i0 m).1),.buf 39 2 s.2.1.length (cT.fn s.2.1),.buf 64 2 s.2.2.length (cH.fn s.2.2)]) (E:=62) (k:=2) (n:=p.2.length) (bf:=λq=>q.1.1) (xs:=λq=>q.1.2) a (λq=>q.2) 0 (λ_=>rfl) (λ_=>rfl) (λ_=>rfl) (λ_=>rfl) (λ_=>fH _)
  (λq j g=>by
   by_cases h:j=i0
   ·subst h;rw[t];rfl
   ·rw[i j h];rfl)
  (λq j g r v d=>by
   by_cases h:j=i0
   ·subst h;rw[t] at d;have:gQ s.1 j (kF q.1.1 p.2.length) j=[.int .i64 p.1,.val (kF q.1.1 p.2.length)]:=by simp only[gQ,zI,aX,o]
    rw[this];rcases r with _|_|r
    ·simp at d;subst d;exact⟨_,rfl,.inl rfl⟩
    ·simp at d;subst d;exact⟨_,rfl,.inr ⟨rfl,rfl⟩⟩
    ·simp at d
   ·rw[i j h] at d;have:gQ s.1 i0 (kF q.1.1 p.2.length) j=cP.fn s.1 j:=by simp only[gQ,zI,ak h];rfl
    rw[this];exact⟨v,d,.inl rfl⟩)
 have w:=cf.ib (σ1:=λ_=>[.buf 56 2 s.1.length (cP.fn (gG s l i0 m).1),.buf 39 2 s.2.1.length (cT.fn s.2.1)]) (E:=64) (k:=2) (n:=λ_=>s.2.2.length) (es:=λ_=>cH.fn s.2.2) u (λ_=>rfl) (λ_=>?_) (λ_=>rfl) (λ_=>fH _)
 have b:=cf.ib (σ1:=λ_=>[.buf 56 2 s.1.length (cP.fn (gG s l i0 m).1)]) (E:=39) (k:=2) (n:=λ_=>s.2.1.length) (es:=λ_=>cT.fn s.2.1) w (λ_=>rfl) (λ_=>?_) (λ_=>rfl) (λ_=>fH _)
 have c:=cf.ib (σ1:=λ_=>[]) (E:=56) (k:=2) (n:=λ_=>s.1.length) (es:=λ_=>cP.fn (gG s l i0 m).1) b (λ_=>rfl) (λ_=>?_) (λ_=>rfl) (λ_=>ar _)
 refine(c.le (res':=λ_=>eH (gG s l i0 m)) (λ_=>rfl) (λ_=>?_)).one
 ·simp only[aa.cat,aa,ae,af,sA];exact⟨au.same,au.same,au.same⟩
 ·simp[aa.cat,aa]
 ·simp[aa.cat,aa]
 ·simp[aa.cat,aa]
theorem DW(s:az)(l:cQ)(b:fb s)(h:l.1=3)(i0 m:Nat)(a:PH s l i0 m):Ev X 7 [eH s,fX l] [] (eH (gG s l i0 m)) [] :=
 DV s l i0 m a.i (Be s l b h i0 m a)
def uI(s:az)(l:cQ):Prop:=∀ j,j<s.1.length->¬((s.1.getD j (0,[])).1=l.2.1/\0<=l.2.2.1/\l.2.2.1<(s.1.getD j (0,[])).2.length)
set_option maxHeartbeats 4000000 in
theorem DU(s:az)(l:cQ)(f:fb s)(j:uI s l):Ev X 47 [.e (.one (.ptr 5 0)),xH (qR l)] (Em s l) (.dH []) (Em s l):=by
 have n:=f.p;refine cf.tm (cf.mM (ι:=Unit) (res:=λ_=>.dH []) (σ':=λ_=>Em s l) Tryz.func47 rfl rfl rfl (AK.of_code ?_))
 refine aA rfl ab ?_;refine AK.bA 6 (λi=>i<=s.1.length) (λi:Nat=>[(0,.e (.one (.ptr 5 0))),(1,xH (qR l)),(8,.e (.one (aB 3 s.1.length s.1.length))),(9,dI s.1.length),(10,dI i)]) (λ_=>Em s l) (λi=>s.1.length-i) 0 rfl ?_ rfl ?_ rfl (by omega) ?_
 ·simp[aa.cat,aa,au.same]
 ·simp[aa.cat,aa,au.same]
 intro i hi
 by_cases h:i<s.1.length
 ·have b:=j i h;have m:=f.p2 _ (l3 h);have g:0+(i:Int).toNat=i:=by omega
  have c:s.1.getD (0+(i:Int).toNat) cP.bl=s.1.getD i (0,[]):=by rw[g];rfl
  generalize s.1.getD i (0,[])=p at *
  by_cases a:p.1=l.2.1
  ·by_cases k:0<=l.2.2.1
   ·have d:¬l.2.2.1<p.2.length:=λd=>b ⟨a,k,d⟩
    refine aq [(11,true),(19,true),(24,true),(31,false)] 100 rfl ?_ (AK.ay (i+1) rfl ?_ rfl rfl rfl ?_ rfl ?_ ?_)
    ·simp only[aa,aJ,c,a,fG,av,aZ,af,ae];and_intros <;> omega
    ·simp[aa.cat,aa,au.same]
    ·simp[aa.cat,aa,au.same]
    ·show i+1<=_;omega
    ·omega
   ·refine aq [(11,true),(19,true),(24,false),(31,false)] 100 rfl ?_ (AK.ay (i+1) rfl ?_ rfl rfl rfl ?_ rfl ?_ ?_)
    ·simp only[aa,aJ,c,a,fG,av,aZ,af,ae];and_intros <;> omega
    ·simp[aa.cat,aa,au.same]
    ·simp[aa.cat,aa,au.same]
    ·show i+1<=_;omega
    ·omega
  ·refine aq [(11,true),(19,false),(24,false),(31,false)] 100 rfl ?_ (AK.ay (i+1) rfl ?_ rfl rfl rfl ?_ rfl ?_ ?_)
   ·simp only[aa,aJ,c,cD,av,aZ,af,ae];and_intros <;> first|exact a|omega
   ·simp[aa.cat,aa,au.same]
   ·simp[aa.cat,aa,au.same]
   ·show i+1<=_;omega
   ·omega
 obtain rfl:i=s.1.length:=by omega
 refine aq [(11,false)] 100 rfl (by simp[aa]) (AK.leaveD rfl rfl ?_)
 refine aA rfl ab ?_;exact⟨(),.inr rfl,rfl,rfl,_,_,_,rfl,rfl,rfl,ab⟩
theorem vk(s:az)(l:cQ)(a:fb s)(h:l.1=3)(b:uI s l) :
  cf (ι:=Unit) X 5 [eH s,fX l] [] (λ_=>.e (.agg [aB 0 s.1.length s.1.length,aB 1 s.2.1.length s.2.1.length,.c (y7 s.2.2)])) (λ_=>[.buf 56 2 s.1.length (cP.fn s.1),.buf 39 2 s.2.1.length (cT.fn s.2.1)]):=by
 refine cf.jz tok Tryz.func5 rfl rfl rfl λd=>?_
 refine aA rfl ab ?_;refine AK.aC (gw s a.p a.p2 a.sn a.s2 a.h) [] rfl rfl rfl rfl rfl rfl rfl rfl rfl rfl rfl ?_;refine aA rfl ab ?_;refine AK.aC (uz l h) [] rfl rfl rfl rfl rfl rfl rfl rfl rfl rfl rfl ?_;refine aA rfl ab ?_;refine AK.mq (DU s l a b).EM rfl rfl rfl rfl ?_ rfl ?_
 ·simp[aa,aa.cat]
 intro _;refine aA rfl ab ?_;refine AK.ez () [3,4] rfl rfl rfl rfl rfl rfl rfl rfl ?_ rfl rfl rfl rfl mP;simp[aa.cat,aa,au.same]
theorem xX(s:az)(l:cQ)(a:fb s)(h:l.1=3)(b:uI s l):Ev X 5 [eH s,fX l] [] (eH s) []:=xQ (vk s l a h b)
abbrev XX(s:az)(l:cQ):List aj:=[mS s,.cells 29 (ux l),.cells 27 [dk,dk,dk],.vec 56 2 s.1.length (cP.fn s.1),.vec 39 2 s.2.1.length (cT.fn s.2.1),.vec 64 2 s.2.2.length (cH.fn s.2.2),
 .cells 27 [.vec 3 2 s.1.length (cP.fn s.1),.vec 4 2 s.2.1.length (cT.fn s.2.1),.vec 5 2 s.2.2.length (cH.fn s.2.2)]]
set_option maxHeartbeats 4000000 in
theorem DX(s:az)(l:cQ)(a:fb s)(h:l.1=3)(k:uI s l):Ev X 7 [eH s,fX l] [] (eH s) []:=by
 refine Ev.jV tok Tryz.func7 rfl rfl rfl λo=>?_
 have b:aY X [(21,za)]:=.cons AX .nil;have f:=a.p;refine ah b [] 100 rfl ab ?_;refine AK.aC (e9 s a.p a.p2 a.sn a.s2 a.h) [] rfl rfl rfl rfl rfl rfl rfl rfl rfl rfl rfl ?_;refine ah b [(13,false),(42,false),(48,true)] 100 rfl ?_ ?_
 ·simp[aa,h]
 refine AK.bA 7 (λi=>i<=s.1.length) (λi:Nat=>[(3,.e (.one (.ptr 1 0))),(4,.e (.one (.ptr 2 0))),(5,.e (.one (.ptr 6 0))),(8,dI i)]) (λ_=>XX s l) (λi=>s.1.length-i) 0 rfl ?_ rfl ?_ rfl (by omega) ?_
 ·simp[aa.cat,aa]
 ·simp[aa.cat,aa,au.same]
 intro i hi
 by_cases h:i<s.1.length
 ·have m:=k i h;have n:=a.p2 _ (l3 h);have d:s.1.getD (i:Int).toNat cP.bl=s.1.getD i (0,[]):=by rw[aF];rfl
  generalize s.1.getD i (0,[])=p at *
  by_cases c:p.1=l.2.1
  ·refine ah b [(54,true),(66,true),(78,false)] 100 rfl ?_ (AK.ay (i+1) rfl ?_ rfl rfl rfl ?_ rfl ?_ ?_)
   ·simp only[aa,aJ,d,c,fG,av,aZ,af,ae];and_intros <;> omega
   ·simp[aa.cat,aa,au.same]
   ·simp[aa.cat,aa,au.same]
   ·show i+1<=_;omega
   ·omega
  ·refine ah b [(54,true),(66,false),(78,false)] 100 rfl ?_ (AK.ay (i+1) rfl ?_ rfl rfl rfl ?_ rfl ?_ ?_)
   ·simp only[aa,aJ,d,cD,av,aZ,af,ae];and_intros <;> first|exact c|omega
   ·simp[aa.cat,aa,au.same]
   ·simp[aa.cat,aa,au.same]
   ·show i+1<=_;omega
   ·omega
 obtain rfl:i=s.1.length:=by omega
 refine ah b [(54,false)] 100 rfl (by simp[aa]) (AK.leaveD rfl rfl ?_)
 refine ah b [] 100 rfl ab ?_;refine AK.ez () [] rfl rfl rfl rfl rfl rfl rfl rfl ?_ rfl rfl rfl rfl (λj g=>absurd g (by simp))
 simp[aa.cat,aa,au.same]
end Go.AM.R1
namespace Go.AM.R1
abbrev x0(l:List aH):Prop:=l.Pairwise λa b=>Op.bytesLess a.1 b.1=true
theorem uL{t:List aH}(h:cr t=true):x0 t:=by
 simp only[cr,bq] at h;have a:=c8.1 h.1;rw[x0,nq];intro i j hi hj Ta;rw[fileAt hi,fileAt hj];refine PK (t:=t) (i:=j) (λk c b=>?_) i Ta
 have:=a k (by omega)
 simp only[fx,bq,kv,eU] at this;exact this.1.2.resolve_left (by omega)
theorem nW{t:List aH}:cr t=true↔(∀ f∈t,cG f.1=true/\dG f.2=true)/\x0 t/\t.Pairwise (λa b=>clash a.1 b.1=false)/\t.length<=6:=by
 constructor
 ·intro h;have m:=uL h;simp only[cr,bq,av] at h;have c:=c8.1 h.1;refine⟨λf g=>?_,m,?_,h.2⟩
  ·obtain⟨i,hi,rfl⟩:=cJ g;have:=c i hi;simp only[fx,bq] at this;rw[fileAt hi];exact⟨this.1.1.1,this.1.1.2⟩
  ·rw[nq];intro i j hi hj Ta;have:=c j hj;simp only[fx,bq] at this;have:=c8.1 this.2 i Ta;rw[fileAt hi,fileAt hj];simpa using this
 ·rintro⟨k,n,l,o⟩;simp only[cr,bq,av];refine⟨c8.2 λi hi=>?_,o⟩
  have d:=k _ (bJ hi);rw[fileAt hi] at d;simp only[fx,bq,kv,eU];refine⟨⟨d,?_⟩,c8.2 λj hj=>?_⟩
  ·by_cases e:i=0
   ·exact .inl e
   ·right
    have:=nq.1 n (i-1) i (by omega) hi (by omega)
    rw[fileAt (by omega),fileAt hi] at this
    exact this
  ·have:=nq.1 l j i (by omega) hi hj
   rw[fileAt (by omega),fileAt hi] at this
   simp[this]
theorem uM{t:List aH}(q:aH->Bool)(h:cr t=true):cr (t.filter q)=true:=by
 obtain⟨b,d,c,e⟩:=nW.1 h;exact nW.2 ⟨λf a=>b f (mm.1 a).1,d.filter _,c.filter _,er (ik _ _) e⟩
theorem GY{t:List aH}(p:Bs)(h:cr t=true):cr (jH t p)=true:=uM _ h
theorem A1{t:List aH}{p x:Bs}(h:(dc t p x).2=true):cr (dc t p x).1=true:=by
 unfold dc at h ⊢;split at h
 ·rename_i b
  rw[an b];split at h
  ·rename_i a;rw[an a];exact a
  ·cases h
 ·cases h
end Go.AM.R1
namespace Go.AM.R1
open Go.Proofs
variable {X:Cx Tryz.prog}
theorem Hb{o:Oper}{j:Operand->D}{σ:List aj}{x y:Operand}{k:Array TypeId}{a b:Int} (m:Int)(h:o.op=.call { callee:=.builtin .max,args:=#[x,y],argTypes:=k })(p:j x=dI a)(q:j y=dI b)(r:max a b=m)(n:aJ .i64 m):aM Tryz.prog o j σ (dI m) σ:=by
 refine .quiet λs l t d=>?_
 have f:=d x;have i:=d y;rw[p] at f;rw[q] at i
 replace f:=eX f
 replace i:=eX i
 generalize c:l x=vx at f;generalize g:l y=vy at i;cases f;cases i;have e:(if a<b then b else a)=m:=by
  rw[<-r];split <;> omega
 exact⟨.int .i64 m,by simp[execOp,h,resolve,invoke,builtin,c,g,Builtin.max_,Builtin.max2,e],.int n,by simp[execOp,h,resolve,invoke,builtin,c,g,Builtin.max_,Builtin.max2]⟩
def fw(s:az):Int:=if s.1.length=0 then 1 else (s.1.getD (s.1.length-1) (0,[])).1+1
def oM(l:List (Int×Int)):Int:=l.foldl (λm h=>max m (h.2+1)) 1
def gO(s:az):Int:=if s.2.1.length=0 then oM s.2.2 else max (oM s.2.2) ((s.2.1.getD (s.2.1.length-1) (0,[])).1+1)
structure MP (st:az):Prop where
 p:∀ x∈st.1,-1000000<=x.1/\x.1<=1000000
 s:∀ x∈st.2.1,-1000000<=x.1/\x.1<=1000000
 h:∀ x∈st.2.2,-1000000<=x.2/\x.2<=1000000
theorem qk(l:List (Int×Int))(h:∀ x∈l,-1000000<=x.2/\x.2<=1000000):1<=oM l/\oM l<=1000001:=by
 have:∀ (l:List (Int×Int)) (m:Int),(∀ x∈l,-1000000<=x.2/\x.2<=1000000)->1<=m->m<=1000001->1<=l.foldl (λm h=>max m (h.2+1)) m/\l.foldl (λm h=>max m (h.2+1)) m<=1000001:=by
  intro l
  induction l with
  |nil=>intro m _ b c;exact⟨b,c⟩
  |cons x r d =>
   intro m a b c;have:=a x lz;exact d _ (λy e=>a y (im _ e)) (by simp only;omega) (by simp only;omega)
 exact this l 1 h (by omega) (by omega)
theorem Bb{l:List (Int×Int)}{i:Nat}(h:i<l.length):oM (l.take (i+1))=max (oM (l.take i)) ((l.getD i (0,0)).2+1):=by
 unfold oM;rw[bt h (0,0),mi];rfl
theorem jh{α:Type}{l:List α}{i:Nat}(h:i<l.length)(d:α):l.getD i d∈l:=by
 rw[List.getD_eq_getElem?_getD,ai h];exact bJ h
theorem DD(s:az)(d:fb s)(b:MP s):Ev X 60 [eH s] [] (.dH [.one (.c (.int .i64 (fw s))),.one (.c (.int .i64 (gO s)))]) []:=by
 refine Ev.body Tryz.func60 rfl rfl rfl λo=>?_
 have k:=d.p;have g:=d.sn;have l:=d.h
 apply AK.join [(1,.e (.one (.ptr 0 0))),(4,dI (fw s)),(5,dI 1)] [mS s]
 ·intro out
  by_cases h:s.1.length=0
  ·refine aq [(10,false),(1000005,true)] 200 rfl (by simp only[aa,aZ];omega) ?_
   exact out _ _ rfl (by simp[aa.cat,aa,fw,h])
  ·have f:=b.p _ (jh (show s.1.length-1<s.1.length by omega) (0,[]))
   have a:s.1.getD ((s.1.length:Int)-1).toNat cP.bl=s.1.getD (s.1.length-1) (0,[]):=by rw[show ((s.1.length:Int)-1).toNat=s.1.length-1 by omega];rfl
   refine aq [(10,true),(1000005,true)] 200 rfl ?_ ?_
   ·simp only[aa,a,aJ,av,af,ae];and_intros <;> omega
   exact out _ _ rfl (by simp only[aa.cat,aa,fw,ak h,a,af,ae])
 refine cE rfl ab ?_;refine AK.bA 1 (λi=>i<=s.2.2.length) (λi:Nat=>[(1,.e (.one (.ptr 0 0))),(4,dI (fw s)),(5,dI (oM (s.2.2.take i))),(6,dI i)]) (λi=>[mS s]) (λi=>s.2.2.length-i) 0 rfl ?_ rfl ?_ rfl (by omega) ?_
 ·simp[aa.cat,aa,oM]
 ·simp[aa.cat,aa,au.same]
 intro i hi
 by_cases h:i<s.2.2.length
 ·have f:=b.h _ (jh h (0,0));have m:=qk (s.2.2.take i) λx j=>b.h x (gH j)
  have a:s.2.2.getD (i:Int).toNat cH.bl=s.2.2.getD i (0,0):=by rw[aF];rfl
  have n:=Bb h;refine aq [(25,true)] 200 rfl ?_ ?_
  ·simp only[aa,a,aJ,av,af,ae];and_intros <;> omega
  rw[a];refine AK.law (Hb (oM (s.2.2.take (i+1))) rfl rfl rfl n.symm (by simp only[aJ];omega)) rfl rfl ?_
  refine cE rfl ?_ (AK.ay (i+1) rfl ?_ rfl rfl rfl ?_ rfl ?_ ?_)
  ·simp only[aa,aJ];omega
  ·simp[aa.cat,aa]
  ·simp[aa.cat,aa,au.same]
  ·show i+1<=_;omega
  ·omega
 obtain rfl:i=s.2.2.length:=by omega
 rw[cm];refine aq [(25,false)] 200 rfl (by simp[aa]) (AK.leaveD rfl rfl ?_)
 have m:=qk s.2.2 b.h
 by_cases h:s.2.1.length=0
 ·refine aq [(40,false)] 200 rfl (by simp only[aa,aZ];omega) (AK.aK rfl ?_)
  simp[aa.cat,aa,gO,h]
 ·have f:=b.s _ (jh (show s.2.1.length-1<s.2.1.length by omega) (0,[]))
  have a:s.2.1.getD ((s.2.1.length:Int)-1).toNat cT.bl=s.2.1.getD (s.2.1.length-1) (0,[]):=by rw[show ((s.2.1.length:Int)-1).toNat=s.2.1.length-1 by omega];rfl
  refine aq [(40,true)] 200 rfl ?_ ?_
  ·simp only[aa,a,aJ,av,af,ae];and_intros <;> omega
  rw[a];refine AK.law (Hb (gO s) rfl rfl rfl (by rw[gO,ak h]) (by rw[gO,ak h];simp only[aJ];omega)) rfl rfl ?_
  refine cE rfl ab (AK.aK rfl ?_);simp[aa.cat,aa]
theorem _root_.Go.AM.gN.Dz{α:Type}(c:gN α)(l:List α){n:Nat}{es:Nat->List C}(a:au n es (c.fn l))(b:n<=l.length):c.list n es=l.take n:=by
 apply sv
 ·simp[gN.list];omega
 ·intro i h1 h2;have hi:i<n:=by simpa[gN.list] using h1
  simp[gN.list,a i hi,gN.fn,qT,List.getD_eq_getElem?_getD,ai (show i<l.length by omega),c.inv]
theorem _root_.Go.AM.gN.JF{α:Type}(c:gN α)(l:List α){n:Nat}{es:Nat->List C}(a:au n es (c.fn l)):c.fits n es:=λi hi=>by
 rw[a i hi];exact c.bu l i (Nat.lt_succ_self i)
theorem GQ(a b:Nat):min (a:Int) (b:Int)=((min a b:Nat):Int):=by
 rcases Nat.le_total a b with h|h
 ·rw[Nat.min_eq_left h,Int.min_eq_left (by omega)]
 ·rw[Nat.min_eq_right h,Int.min_eq_right (by omega)]
def fZ(k:Int):Nat->Int->List Bs->List a9
 |0,_,_=>[]
 |f+1,no,ps=>if 0<ps.length then iH no k (ps.take 4)::fZ k f (no+1) (ps.drop 4) else []
def vV(k:Int)(s:az)(t:List aH):List a9:=fZ k (iI k t (indexOf s.1)).length (fw s) (iI k t (indexOf s.1))
def jX(k:Int)(s:az)(t:List aH):Bool:=decide (20<s.1.length+(vV k s t).length)||(decide (99<fw s+(vV k s t).length-1)||(decide (20<gO s)||decide (9<=s.2.2.length)))
def m8(k:Int)(s:az) (a:Int)(t:List aH):az:=(s.1++vV k s t,s.2.1++[ga (gO s) k t],s.2.2++[(a,gO s)])
theorem uA(k:Int):∀ f no ps,(fZ k f no ps).length<=f
 |0,_,_=>ar _
 |f+1,no,ps=>by
  simp only[fZ];split
  ·have:=uA k f (no+1) (ps.drop 4);simp;omega
  ·simp
abbrev GR:c7:=El aI aI (aL cS) (λno k ps=>AE (iH no k ps)) λ_ k ps=>[b5 k=true,∀ p∈ps,aR p=true,ps.length<=1000000]
theorem MN:dw X 63 GR:=.Mn λno k ps h=>GS no k ps h.1 h.2.1 h.2.2
abbrev KU:c7:=El aI aI (aL cF) (λno k t=>Cd (ga no k t)) λ_ k t=>[b5 k=true,uB t]
theorem Pt:dw X 64 KU:=.Mn λno k t h=>JG no k t h.1 h.2
abbrev GU:c7:=El aI (aL cF) (aL m6) (λk t l=>cS.sl (iI k t l)) λk t l=>[b5 k=true,uB t,l.length<=1000000]
theorem MO:dw X 61 GU:=.Mn λk t l h=>GV k t l h.1 h.2.1 h.2.2
theorem uC{k:Int}{t:List aH}{l:List cq}(e:uB t):(∀ p∈iI k t l,aR p=true)/\(iI k t l).length<=100000:=by
 constructor
 ·have:∀ (ps a:List Bs),(∀ p∈ps,aR p=true)->(∀ p∈a,aR p=true)->∀ p∈ps.foldl (l0 k l) a,aR p=true:=by
   intro ps
   induction ps with
   |nil=>intro a _ h;exact h
   |cons q r i =>
    intro a d c;refine i _ (λp b=>d p (im _ b)) λp b=>?_
    unfold l0 at b;split at b
    ·rcases dF.1 b with b|b
     ·exact c p b
     ·rw[fV] at b;subst b;exact d _ lz
    ·exact c p b
  refine this _ [] (λp b=>?_) (by simp)
  obtain⟨f,g,b⟩:=List.mem_flatMap.1 b;exact qU (e.r7 f g).1 p b
 ·have:=vW k l (iJ t) [];have c:=e.all;unfold iI;simp only[ef] at this;exact er this (by omega)
theorem zb{l:List a9}(h:(eb l).length<=100000):(indexOf l).length<=100000:=by
 unfold indexOf;split
 ·have:=vX (eb l) [];simp only[ef] at this;omega
 ·simp
abbrev SW(k a no:Int)(s:az)(t:List aH)(rest:List Bs):Fr:=[(0,dI k),(2,dI a),(3,cF.sl t),(5,.e (.one (.ptr 0 0))),(8,.e (.one (.ptr 1 0))),(10,.e (.one (.ptr 5 0))),(11,dI no),(12,dI (gO s)),(13,cS.sl rest)]
abbrev Pu(s:az)(ps:List a9):List aj:=[mS s,.cells 27 [dk,dk,dk],.vec 56 2 ps.length (cP.fn ps),.vec 39 2 s.2.1.length (cT.fn s.2.1),.vec 64 2 s.2.2.length (cH.fn s.2.2),.cells 27 [.vec 2 2 ps.length (cP.fn ps),.vec 3 2 s.2.1.length (cT.fn s.2.1),.vec 4 2 s.2.2.length (cH.fn s.2.2)]]
abbrev QF(s:az)(b:Bool):D:=.dH [.agg [.c (.sl false 2 s.1.length (cP.fn s.1)),.c (.sl false 2 s.2.1.length (cT.fn s.2.1)),.c (.sl false 2 s.2.2.length (cH.fn s.2.2))],.one (.c (.bool b))]
set_option maxHeartbeats 8000000 in
theorem DC(k:Int)(s:az) (g:Int)(t:List aH)(w:b5 k=true)(a:fb s)(m:MP s)(j:uB t)(n:(eb s.1).length<=100000) :
  Ev X 30 [dI k,eH s,dI g,cF.sl t] [] (QF (if jX k s t=true then s else m8 k s g t) (!jX k s t)) []:=by
 refine Ev.jz Tryz.func30 rfl rfl rfl λQ=>?_
 have c:aY X [(62,GW),(61,GU),(63,GR),(64,KU)]:=.cons MQ (.cons MO (.cons MN (.cons Pt .nil)));have R:=a.p;have S:=a.sn;have P:=a.h;have K:=zb n;refine ah c [] 200 rfl ab ?_;refine AK.aC (e9 s a.p a.p2 a.sn a.s2 a.h) [] rfl rfl rfl rfl rfl rfl rfl rfl rfl rfl rfl ?_;refine ah c [] 200 rfl ab ?_;refine AK.aC (DD s a m) [] rfl rfl rfl rfl rfl rfl rfl rfl rfl rfl rfl ?_;refine ah c [] 200 rfl ?_ ?_
 ·simp only[aa,cP.list_fn,m6.list_fn,cF.list_fn,w,j]
  and_intros <;> first|exact cP.bu _|exact m6.bu _|exact cF.bu _|trivial|exact j|omega
 simp only[cP.list_fn,m6.list_fn,cF.list_fn];obtain⟨v,q⟩:=uC (k:=k) (l:=indexOf s.1) j;have z:vV k s t=fZ k (iI k t (indexOf s.1)).length (fw s) (iI k t (indexOf s.1)):=rfl;generalize iI k t (indexOf s.1)=pc at *;generalize C:vV k s t=np at *;have N:-1000000<=fw s/\fw s<=1000001:=by
  unfold fw;split
  ·omega
  ·rename_i h
   have:=m.p _ (jh (show s.1.length-1<s.1.length by omega) (0,[]))
   omega
 have E:np.length<=100000:=by rw[z];exact er (uA k _ _ _) q
 refine AK.jU (S2:=Unit) 0 rfl rfl (λ_=>True) (λ_=>[(0,dI k),(2,dI g),(3,cF.sl t),(5,.e (.one (.ptr 0 0))),(8,.e (.one (.ptr 1 0))),(10,.e (.one (.ptr 5 0))),(11,dI (fw s+np.length)),(12,dI (gO s))]) (λ_=>Pu s (s.1++np)) 6
  (λx:List Bs×List a9=>(∀ p∈x.1,aR p=true)/\x.2.length+x.1.length<=1200000/\s.1.length<=x.2.length/\∃ f,x.1.length<=f/\s.1++np=x.2++fZ k f (fw s+(x.2.length-s.1.length:Nat)) x.1) (λx=>SW k g (fw s+(x.2.length-s.1.length:Nat)) s t x.1) (λx=>Pu s x.2) (λx=>x.1.length) (pc,s.1) rfl ?_ rfl ?_ rfl ⟨v,by simp only;omega,ar _,pc.length,ar _,by simp[z]⟩ ?_ ?_
 ·simp[aa.cat,aa,au.same]
 ·simp[aa.cat,aa,au.same]
 ·rintro out ⟨rest,ps⟩ ⟨u,g2,g3,f,g4,g5⟩;simp only at u g2 g3 g4 g5
  by_cases h:0<rest.length
  ·obtain⟨f,rfl⟩:∃ G,f=G+1:=⟨f-1,by omega⟩
   simp only[fZ,an h] at g5;have D:aJ .i64 ((min rest.length 4:Nat):Int):=by simp only[aJ];omega
   refine ah c [(30,true)] 200 rfl (by simp only[aa,av];omega) ?_
   refine AK.law (xB ((min rest.length 4:Nat):Int) rfl rfl rfl (GQ rest.length 4) D) rfl rfl ?_;have A:cS.list (bT rest.length (some ((min rest.length 4:Nat):Int))-bT 0 none) (j7 (bT 0 none) (cS.fn rest))=rest.take 4:=by
    have o:bT rest.length (some ((min rest.length 4:Nat):Int))-bT 0 none=min rest.length 4:=by simp[bT]
    rw[o,cS.Dz rest (λi hi=>by simp[j7,bT]) (by omega)]
    rcases Nat.le_total rest.length 4 with h|h
    ·rw[Nat.min_eq_left h,cm,wF h]
    ·rw[Nat.min_eq_right h]
   have L:cS.fits (bT rest.length (some ((min rest.length 4:Nat):Int))-bT 0 none) (j7 (bT 0 none) (cS.fn rest)):=cS.JF rest (λi hi=>by simp[j7,bT])
   have F:au (rest.length-min rest.length 4) (j7 (min rest.length 4) (cS.fn rest)) (cS.fn (rest.drop 4)):=by
    intro i hi;have H:min rest.length 4=4:=by omega
    rw[H];simp only[j7,gN.fn,qT,List.getD_eq_getElem?_getD,l9]
   have y:∀ p∈rest.take 4,aR p=true:=λp r=>u p (gH r)
   have I:=cP.b9 ps (iH (fw s+(ps.length-s.1.length:Nat)) k (rest.take 4));refine ah c [] 200 rfl ?_ (AK.ay (rest.drop 4,ps++[iH (fw s+(ps.length-s.1.length:Nat)) k (rest.take 4)]) rfl ?_ rfl rfl rfl ?_ rfl ?_ ?_)
   ·simp only[aa,aJ,A,w,L,List.length_take,show i56.bytes=32 from rfl,af,ae]
    and_intros <;> first|exact y|omega
   ·simp only[aa.cat,aa,ba,cM,ef,gj,bT,aF,af,ae]
    and_intros <;> first|rfl|omega|exactλ_ _=>rfl|exact F
   ·simp only[aa.cat,aa,A,ba,cM,ef,af,ae]
    and_intros <;> first|rfl|exactλ_ _=>rfl|exact I|omega
   ·refine⟨λp r=>u p (si r),by simp only[ba,cM,ef,gj];omega,by simp only[ba,cM,ef];omega,f,by simp only[gj];omega,?_⟩
    simp only[ba,cM,ef];rw[g5,di,wI];rw[show fw s+((ps.length-s.1.length:Nat):Int)+1=fw s+((ps.length+(0+1)-s.1.length:Nat):Int) by omega]
   ·simp only[gj];omega
  ·have e:ps=s.1++np:=by
    rw[g5];cases f <;> simp[fZ,h]
   refine ah c [(30,false)] 200 rfl (by simp only[aa,aZ];omega) (AK.leaveD rfl rfl ?_)
   refine out () ab rfl ?_ rfl ?_
   ·simp only[aa.cat,aa,e,ba,af,ae]
    and_intros <;> first|rfl|omega|exactλ_ _=>rfl
   ·simp[aa.cat,aa,au.same,e]
 rintro⟨⟩ -;have d:jX k s t=(decide (20<s.1.length+np.length)||(decide (99<fw s+np.length-1)||(decide (20<gO s)||decide (9<=s.2.2.length)))):=by unfold jX;rw[C]
 have J:-1000000<=gO s/\gO s<=1000001:=by
  have:=qk s.2.2 m.h;unfold gO;split
  ·omega
  ·rename_i h
   have:=m.s _ (jh (show s.2.1.length-1<s.2.1.length by omega) (0,[]))
   omega
 have O:(s.1++np).length=s.1.length+np.length:=ba
 by_cases B:20<s.1.length+np.length
 ·have b:jX k s t=true:=by rw[d];simp[B]
  rw[b];refine ah c [(53,true)] 200 rfl ?_ ?_
  ·simp only[aa,ba,aJ,av,aZ,af,ae];and_intros <;> omega
  refine AK.aC (e9 s a.p a.p2 a.sn a.s2 a.h) [] rfl rfl rfl rfl rfl rfl rfl rfl rfl rfl rfl ?_;refine ah c [] 200 rfl ab ?_;refine AK.freeze 8 1 rfl rfl rfl ?_;refine AK.zV tok [] rfl ?_ rfl rfl rfl mP;simp[aa.cat,aa,au.same]
 by_cases c2:99<fw s+np.length-1
 ·have b:jX k s t=true:=by rw[d];simp[c2]
  rw[b];refine ah c [(53,false),(57,true)] 200 rfl ?_ ?_
  ·simp only[aa,ba,aJ,av,aZ,af,ae];and_intros <;> omega
  refine AK.aC (e9 s a.p a.p2 a.sn a.s2 a.h) [] rfl rfl rfl rfl rfl rfl rfl rfl rfl rfl rfl ?_;refine ah c [] 200 rfl ab ?_;refine AK.freeze 8 1 rfl rfl rfl ?_;refine AK.zV tok [] rfl ?_ rfl rfl rfl mP;simp[aa.cat,aa,au.same]
 by_cases c3:20<gO s
 ·have b:jX k s t=true:=by rw[d];simp[c3]
  rw[b];refine ah c [(53,false),(57,false),(61,true)] 200 rfl ?_ ?_
  ·simp only[aa,ba,aJ,av,aZ,af,ae];and_intros <;> omega
  refine AK.aC (e9 s a.p a.p2 a.sn a.s2 a.h) [] rfl rfl rfl rfl rfl rfl rfl rfl rfl rfl rfl ?_;refine ah c [] 200 rfl ab ?_;refine AK.freeze 8 1 rfl rfl rfl ?_;refine AK.zV tok [] rfl ?_ rfl rfl rfl mP;simp[aa.cat,aa,au.same]
 by_cases c4:9<=s.2.2.length
 ·have b:jX k s t=true:=by rw[d];simp[c4]
  rw[b];refine ah c [(53,false),(57,false),(61,false),(67,true)] 200 rfl ?_ ?_
  ·simp only[aa,ba,aJ,av,aZ,af,ae];and_intros <;> omega
  refine AK.aC (e9 s a.p a.p2 a.sn a.s2 a.h) [] rfl rfl rfl rfl rfl rfl rfl rfl rfl rfl rfl ?_;refine ah c [] 200 rfl ab ?_;refine AK.freeze 8 1 rfl rfl rfl ?_;refine AK.zV tok [] rfl ?_ rfl rfl rfl mP;simp[aa.cat,aa,au.same]
 have b:jX k s t=false:=by rw[d,fh B,fh c2,fh c3,fh c4];rfl
 rw[b];have o:=cT.b9 s.2.1 (ga (gO s) k t);have M:=cH.b9 s.2.2 (g,gO s);refine ah c [(53,false),(57,false),(61,false),(67,false)] 200 rfl ?_ ?_
 ·simp only[aa,w,cF.list_fn,ba,aJ,show i39.bytes=32 from rfl,show i64.bytes=16 from rfl,av,aZ,af,ae]
  and_intros <;> first|exact j|exact cF.bu _|rfl|omega
 refine AK.freeze 8 1 rfl rfl rfl ?_;refine AK.zV tok [] rfl ?_ rfl rfl rfl mP;simp only[aa.cat,aa,cF.list_fn,m8,C,ba,cM,ef,af,ae]
 and_intros <;> first|rfl|exactλ_ _=>rfl|exact o|exact M|simp
end Go.AM.R1
namespace Go.AM.R1
structure JS (x:a9):Prop where
 ex:∃ no ps,1<=no/\no<=99/\0<ps.length/\ps.length<=4/\(∀ q∈ps,aR q=true)/\x=iH no 7 ps
structure MZ (x:cB):Prop where
 ex:∃ no t,1<=no/\no<=20/\cr t=true/\x=ga no 7 t
structure D7 (st:az):Prop where
 p:∀ x∈st.1,JS x
 pl:st.1.length<=20
 s:∀ x∈st.2.1,MZ x
 QG:st.2.1.Pairwise λa b=>a.1<b.1
 h:∀ x∈st.2.2,(1<=x.1/\x.1<=2)/\1<=x.2/\x.2<=20
 hl:st.2.2.length<=9
 JQ:st.1.Pairwise λa b=>a.1<b.1
theorem jG{t:List aH}(h:cr t=true):uB t:=by
 obtain⟨m,_,_,n⟩:=nW.1 h;have e:∀ f∈t,bj f.2=true/\f.2.length<=40:=λf d=>by
  have:=(m f d).2;simp only[dG,bq,av] at this;exact⟨this.2,this.1⟩
 refine⟨by omega,λf d=>⟨(e f d).1,by have:=(e f d).2;omega⟩,?_⟩
 have:∀ l:List aH,(∀ f∈l,f.2.length<=40)->(iJ l).length<=40*l.length:=by
  intro l
  induction l with
  |nil=>intro _;simp[iJ]
  |cons f r j =>
   intro i;have a:=j λg k=>i g (im _ k)
   have b:=i f lz;have c:=pj f.2;simp only[iJ,ss,ba,cM] at a ⊢;omega
 have:=this t λf d=>(e f d).2
 omega
theorem Hk(no k:Int)(ps:List Bs):(iH no k ps).2.length=ps.length:=Cp k ps
theorem JS.len{x:a9}(h:JS x):1<=x.2.length/\x.2.length<=4:=by
 obtain⟨no,ps,_,_,a,b,_,rfl⟩:=h.ex;rw[Hk];omega
theorem JS.no{x:a9}(h:JS x):1<=x.1/\x.1<=99:=by
 obtain⟨no,ps,h1,h2,_,_,_,rfl⟩:=h.ex;exact⟨h1,h2⟩
theorem MZ.no{x:cB}(h:MZ x):1<=x.1/\x.1<=20:=by
 obtain⟨no,t,h1,h2,_,rfl⟩:=h.ex;exact⟨h1,h2⟩
theorem MZ.len{x:cB}(h:MZ x):x.2.length<=6/\∀ y∈x.2,y.2.length<=1000000:=by
 obtain⟨no,t,_,_,a,rfl⟩:=h.ex;have d:=mT a;refine⟨by simpa[ga] using d,λy b=>?_⟩
 simp only[ga,k7] at b;obtain⟨f,c,rfl⟩:=b;have:=((jG a).r7 f c).2;have:=pj f.2;simp only[lp,ku];omega
theorem JV{l:List cB}:∀ (a:Int),l.Pairwise (λa b=>a.1<b.1)->(∀ x∈l,a<=x.1/\x.1<=20)->(l.length:Int)<=max 0 (21-a):=by
 induction l with
 |nil=>intro a _ _;simp;omega
 |cons x r e =>
  intro a f d;obtain⟨g,h⟩:=List.pairwise_cons.1 f;have i:=d x lz;have:=e (x.1+1) h λy c=>⟨by have:=g y c;omega,(d y (im _ c)).2⟩
  simp only[cM];omega
theorem D7.sl{s:az}(h:D7 s):s.2.1.length<=20:=by
 have:=JV 1 h.QG λx a=>(h.s x a).no
 omega
theorem D7.size{s:az}(h:D7 s):fb s:=by
 have h1:=h.pl;have h2:=h.sl;have c:=h.hl;refine⟨by omega,λp b=>by have:=(h.p p b).len;omega,by omega,λx a=>?_,by omega⟩
 have:=(h.s x a).len;exact⟨by omega,this.2⟩
theorem D7.num{s:az}(h:D7 s):MP s :=
 ⟨λx a=>by have:=(h.p x a).no;omega,λx a=>by have:=(h.s x a).no;omega,λx a=>by have:=(h.h x a).2;omega⟩
theorem D7.eb{s:az}(h:D7 s):(eb s.1).length<=100000:=by
 have:∀ l:List a9,(∀ x∈l,x.2.length<=4)->(R1.eb l).length<=4*l.length:=by
  intro l
  induction l with
  |nil=>intro _;simp[R1.eb]
  |cons f r c =>
   intro hl;have a:=c λg e=>hl g (im _ e)
   have b:=hl f lz;simp only[R1.eb,ss,ba,ku,cM] at a ⊢;omega
 have:=this s.1 λx d=>(h.p x d).len.2
 have:=h.pl;omega
theorem D7.nil:D7 ([],[],[]):=⟨by simp,by simp,by simp,by simp,by simp,by simp,by simp⟩
theorem wv(k:Int):∀ (f:Nat) (no:Int)(ps:List Bs),(∀ q∈ps,aR q=true)->∀ x∈fZ k f no ps,∃ a c,no<=a/\a<no+(fZ k f no ps).length/\0<c.length/\c.length<=4/\(∀ q∈c,aR q=true)/\x=iH a k c
 |0,_,_,_,x,b=>by simp[fZ] at b
 |f+1,no,ps,e,x,b=>by
  simp only[fZ] at b ⊢;split at b
  ·rename_i h
   rw[an h];rcases dr.1 b with rfl|b
   ·refine⟨no,ps.take 4,pI _,by simp;omega,by simp;omega,by simp;omega,λq d=>e q (gH d),rfl⟩
   ·obtain⟨a,c,i,j,g⟩:=wv k f (no+1) (ps.drop 4) (λq d=>e q (si d)) x b
    exact⟨a,c,by omega,by simp only[cM];omega,g⟩
  ·simp at b
theorem D4{α:Type}{l:List α}(h:l.length≠0)(d:α):l.getD (l.length-1) d∈l:=jh (by omega) d
theorem D7.fw{s:az}(h:D7 s):1<=fw s:=by
 unfold R1.fw;split
 ·omega
 ·rename_i a
  have:=(h.p _ (D4 a (0,[]))).no;omega
theorem qX(k:Int):∀ (f:Nat) (no:Int)(ps:List Bs),∀ x∈fZ k f no ps,no<=x.1
 |0,_,_,x,a=>by simp[fZ] at a
 |f+1,no,ps,x,a=>by
  simp only[fZ] at a;split at a
  ·rcases dr.1 a with rfl|a
   ·exact pI _
   ·have:=qX k f (no+1) (ps.drop 4) x a;omega
  ·simp at a
theorem uN(k:Int):∀ (f:Nat) (no:Int)(ps:List Bs),(fZ k f no ps).Pairwise λa b=>a.1<b.1
 |0,_,_=>by simp[fZ]
 |f+1,no,ps=>by
  simp only[fZ];split
  ·refine List.pairwise_cons.2 ⟨λx c=>?_,uN k f (no+1) (ps.drop 4)⟩
   have:=qX k f (no+1) (ps.drop 4) x c;show no<x.1;omega
  ·simp
theorem D7.Hl{s:az}(h:D7 s):∀ x∈s.1,x.1<R1.fw s:=by
 unfold R1.fw;split
 ·rename_i c
  have:=dq c;rw[this];simp
 ·rename_i c
  intro x d;obtain⟨i,hi,rfl⟩:=cJ d;have a:s.1.getD (s.1.length-1) (0,[])=s.1[s.1.length-1]:=by
   rw[List.getD_eq_getElem?_getD,ai (by omega)];rfl
  rw[a];rcases bz i (s.1.length-1) with b|e
  ·have:=nq.1 h.JQ i (s.1.length-1) hi (by omega) b
   omega
  ·have:i=s.1.length-1:=by omega
   subst this;omega
theorem D7.Hm{s:az}(h:D7 s):1<=gO s/\∀ x∈s.2.1,x.1<gO s:=by
 have f:=qk s.2.2 h.num.h;unfold gO;split
 ·rename_i c
  have:=dq c;rw[this];exact⟨f.1,by simp⟩
 ·rename_i c
  refine⟨by omega,λx d=>?_⟩
  obtain⟨i,hi,rfl⟩:=cJ d;have a:s.2.1.getD (s.2.1.length-1) (0,[])=s.2.1[s.2.1.length-1]:=by
   rw[List.getD_eq_getElem?_getD,ai (by omega)];rfl
  rw[a];rcases bz i (s.2.1.length-1) with b|e
  ·have:=nq.1 h.QG i (s.2.1.length-1) hi (by omega) b
   omega
  ·have:i=s.2.1.length-1:=by omega
   subst this;omega
theorem D7.save{s:az}{t:List aH}{d:Int}(h:D7 s)(m:cr t=true)(e:1<=d/\d<=2)(n:jX 7 s t=false):D7 (m8 7 s d t):=by
 simp only[jX,Bool.or_eq_false_iff,aZ] at n;obtain⟨B,y,C,A⟩:=n;have z:=h.fw;obtain⟨f,j⟩:=h.Hm;refine⟨λx c=>?_,by simp only[m8,ba];omega,λx c=>?_,?_,λx c=>?_,by simp only[m8,ba,md];omega,?_⟩
 ·simp only[m8] at c;rcases dF.1 c with c|c
  ·exact h.p x c
  ·obtain⟨g,r,D,o,v,w,q,u⟩:=wv 7 _ _ _ (uC (k:=7) (l:=indexOf s.1) (jG m)).1 x c;have o:g<R1.fw s+(vV 7 s t).length:=o;exact⟨g,r,by omega,by omega,v,w,q,u⟩
 ·simp only[m8] at c;rcases dF.1 c with c|c
  ·exact h.s x c
  ·rw[fV] at c;exact⟨gO s,t,f,by omega,m,c⟩
 ·simp only[m8];rw[List.pairwise_append];refine⟨h.QG,by simp,λa i b e=>?_⟩
  rw[fV] at e;subst e;exact j a i
 ·simp only[m8] at c;rcases dF.1 c with c|c
  ·exact h.h x c
  ·rw[fV] at c;subst c;exact⟨e,f,by omega⟩
 ·simp only[m8];rw[List.pairwise_append];refine⟨h.JQ,uN _ _ _ _,λa i b e=>?_⟩
  have h1:=h.Hl a i;have h2:=qX _ _ _ _ b e;omega
end Go.AM.R1
namespace Go.AM.R1
open Go.Proofs
variable {X:Cx Tryz.prog}
theorem M3{s:az}(d:D7 s)(l:cQ):(∃ i0 m,PH s l i0 m)∨uI s l:=by
 by_cases h:uI s l
 ·exact .inr h
 ·refine .inl ?_;simp only[uI,Classical.not_forall,Classical.not_not] at h;obtain⟨i0,hi,c,o,n⟩:=h;refine⟨i0,l.2.2.1.toNat,hi,c,λj a k f=>?_,by omega,by omega⟩
  have g:s.1.getD i0 (0,[])=s.1[i0]:=by rw[List.getD_eq_getElem?_getD,ai hi];rfl
  have e:s.1.getD j (0,[])=s.1[j]:=by rw[List.getD_eq_getElem?_getD,ai a];rfl
  rw[g] at c;rw[e] at f;rcases bz j i0 with b|i
  ·have:=nq.1 d.JQ j i0 a hi b;omega
  ·have:=nq.1 d.JQ i0 j hi a (by omega)
   omega
structure PL (X:Cx Tryz.prog)(s:az)(l:cQ)(s':az):Prop where
 z:fb s'
 a:Ev X 5 [eH s,fX l] [] (eH s') []
 b:Ev X 7 [eH s,fX l] [] (eH s') []
theorem Hd{s:az}(n:D7 s)(l:cQ):∃ s',PL X s l s':=by
 have a:=n.size;have u:=a.h
 by_cases k:l.1=1
 ·refine⟨(s.1.filter λx=>!(x.1==l.2.1),s.2.1,s.2.2),⟨er (ik _ _) a.p,λp g=>a.p2 p (mm.1 g).1,a.sn,a.s2,a.h⟩,y8 s l a k,DK s l a k⟩
 by_cases e:l.1=2
 ·by_cases b:l.2.1<0∨l.2.1>s.2.2.length
  ·exact⟨s,a,xQ (vh s l a e b),wc s l s a e (A5 s l.2.1 a.h b)⟩
  ·have j:l.2.1=(l.2.1.toNat:Nat):=by omega
   have o:=A6 (X:=X) s l.2.1.toNat (by omega) a.sn n.num.s a.h
   rw[<-j] at o;refine⟨(s.1,s.2.1.filter λx=>!fY l.2.1.toNat s.2.2 x,s.2.2.take l.2.1.toNat),⟨a.p,a.p2,er (ik _ _) a.sn,λx r=>a.s2 x (mm.1 r).1,?_⟩,y9 s l a e l.2.1.toNat j (by omega),wc s l _ a e o⟩
   simp;omega
 by_cases b:l.1=3
 ·rcases M3 n l with⟨i0,m,c⟩|j
  ·refine⟨gG s l i0 m,⟨by simpa using a.p,λp g=>?_,a.sn,a.s2,a.h⟩,zi s l a b i0 m c,DW s l a b i0 m c⟩
   rcases oQ g with g|rfl
   ·exact a.p2 p g
   ·simpa[cN] using a.p2 _ (l3 c.i)
  ·exact⟨s,a,xX s l a b j,DX s l a b j⟩
 by_cases f:l.1=4
 ·by_cases d:0<=l.2.1/\l.2.1<s.2.2.length
  ·have t:(s.2.2.getD (0+l.2.1.toNat) cH.bl)∈s.2.2:=by
    rw[List.getD_eq_getElem?_getD,ai (by omega)];exact bJ _
   have o:=n.h _ t;have q:aJ .i64 (3-Dr s l):=by
    show -9223372036854775808<=_/\_<=9223372036854775807;unfold Dr;omega
   exact⟨(s.1,s.2.1,s.2.2.set (0+l.2.1.toNat) (3-Dr s l,(s.2.2.getD (0+l.2.1.toNat) cH.bl).2)),⟨a.p,a.p2,a.sn,a.s2,by simpa using a.h⟩,xI s l a f d.1 d.2 q,DM s l a f d.1 d.2 q⟩
  ·exact⟨s,a,xJ s l a f d,A8 s l a f d⟩
 ·exact⟨s,a,xQ (xP s l a k e b f),DJ s l a k e b f⟩
end Go.AM.R1
namespace Go.AM.R1
theorem Hf{l:List bD}{x y:bD}(h:y∈nk l x):y=x∨y∈l:=by
 induction l with
 |nil=>simp[nk] at h;exact .inl h
 |cons z r a =>
  simp only[nk] at h;split at h
  ·rcases dr.1 h with h|h
   ·exact .inl h
   ·exact .inr h
  ·rcases dr.1 h with h|h
   ·exact .inr (by rw[h];exact lz)
   ·rcases a h with h|h
    ·exact .inl h
    ·exact .inr (im _ h)
theorem JR{k:Int}{ps:List Bs}{y:bD}(h:y∈K1 k ps):∃ p∈ps,y=(eB k p,gF p):=by
 have key:∀ (ps:List Bs) (acc:List bD),y∈ps.foldl (λl p=>nk l (eB k p,gF p)) acc->y∈acc∨∃ p∈ps,y=(eB k p,gF p):=by
  intro ps
  induction ps with
  |nil=>intro acc h;exact .inl h
  |cons p r a =>
   intro acc h;rcases a _ h with h|⟨q,b,h⟩
   ·rcases Hf h with h|h
    ·exact .inr ⟨p,lz,h⟩
    ·exact .inl h
   ·exact .inr ⟨q,im _ b,h⟩
 rcases key ps [] h with h|h
 ·cases h
 ·exact h
theorem JS.item{x:a9}(h:JS x){y:bD}(b:y∈x.2):∃ p,aR p=true/\y=(eB 7 p,gF p):=by
 obtain⟨no,ps,_,_,_,_,a,rfl⟩:=h.ex;obtain⟨p,h1,h2⟩:=JR (k:=7) (ps:=ps) b;exact⟨p,a p h1,h2⟩
theorem PM:b5 7=true:=by decide
theorem D2{x:a9}(h:JS x){j:Int}(i:b5 j=true)(b:j≠7):jf j x=false:=by
 cases e:jf j x with
 |false=>rfl
 |true =>
  simp only[jf,bq] at e;have a:=e.1.2;have k:=h.len;have c:x.2[0]'(by omega)∈x.2:=bJ _
  obtain⟨p,f,g⟩:=h.item c;have d:=eR.1 a _ c;rw[g,Hg PM i (fJ b) f] at d;cases d
theorem DY{s:az}(h:D7 s){j:Int}(b:b5 j=true)(a:j≠7):(dg j s.1).length=s.1.length:=by
 unfold dg;rw[ku,pw.2];intro x c;rw[D2 (h.p x c) b a];rfl
theorem Hh{x:a9}(h:JS x){y:bD}(d:y∈x.2){j:Int}(c:b5 j=true)(a:j≠7):chunk j y=none:=by
 obtain⟨p,b,rfl⟩:=h.item d;simp only[chunk,rI b,c,j1];rw[ak];intro e;exact zn c PM a b (eU.1 e)
theorem Hi{s:az}(h:D7 s){j:Int}(b:b5 j=true)(a:j≠7) (n:Int):dx j s.1 n=none:=by
 unfold dx;rw[List.findSome?_eq_none_iff];intro x c;unfold eL;split
 ·rename_i y d
  exact Hh (h.p x c) (nZ d) b a
 ·rfl
theorem Hj{l:List cB}(h:l.Pairwise λa b=>a.1<b.1){x:cB}(c:x∈l):l.find? (λy=>y.1==x.1)=some x:=by
 induction l with
 |nil=>cases c
 |cons y r d =>
  obtain⟨f,e⟩:=List.pairwise_cons.1 h;rcases dr.1 c with rfl|c
  ·simp
  ·have:=f x c;rw[List.find?_cons_of_neg (by simp;omega)]
   exact d e c
theorem zo{s:az}(h:D7 s){x:cB}(B:x∈s.2.1){j:Int}(u:b5 j=true)(p:j≠7):(eN j x s.1).isSome=decide ((fN x).length=0):=by
 obtain⟨no,t,_,_,v,rfl⟩:=(h.s x B).ex;have D:=jG v
 by_cases l:(fN (ga no 7 t)).length=0
 ·have d:=(oN _).1 l;have d:=dq d;have e:∀ f∈t,pieces f.2=[]:=λf a=>by
   simp only[bU,ga,List.flatMap_eq_nil_iff,k7] at d;have:=d (lp 7 f) ⟨f,a,rfl⟩;simpa[lp] using this
  have k:∀ f∈t,f.2=[]:=λf a=>by
   have:=e f a;cases m:f.2 with
   |nil=>rfl
   |cons b r =>
    rw[m] at this;simp[pieces,fg] at this
  have c:∀ f∈t,fileOf j s.1 (lp 7 f)=some f:=λf a=>by
   have z:(lp 7 f).2=[]:=by simp[lp,e f a]
   unfold fileOf;rw[z];have C:du j s.1 []=some []:=by simp[du]
   rw[C];have A:ll []=some []:=by decide
   show (match ll [] with|none=>none|some t=>some ((lp 7 f).1,t))=some f
   rw[A];show some (f.1,[])=some f;rw[<-k f a]
  have q:db j s.1 (ga no 7 t).2=t:=by
   simp only[db,ga,List.map_map]
   conv=>rhs;rw[<-List.map_id t]
   refine List.map_congr_left λf a=>?_
   simp[c f a]
  rw[bx l];unfold eN;rw[q,an]
  ·rfl
  ·simp only[u,v,j1,Bool.and_true];rw[eR];intro y i;simp only[ga,k7] at i;obtain⟨f,a,rfl⟩:=i;rw[c f a];rfl
 ·rw[fh l];have d:(bU (ga no 7 t).2).length≠0:=λd=>l ((oN _).2 d)
  have:∃ y∈(ga no 7 t).2,y.2≠[]:=by
   refine Classical.byContradiction λg=>d ?_
   have:bU (ga no 7 t).2=[]:=by
    simp only[bU,List.flatMap_eq_nil_iff];intro y i;exact Classical.byContradiction λm=>g ⟨y,i,m⟩
   rw[this];rfl
  obtain⟨y,i,o⟩:=this;have a:fileOf j s.1 y=none:=by
   unfold fileOf;have:du j s.1 y.2=none:=by
    unfold du;rw[ak];intro g;cases w:y.2 with
    |nil=>exact o w
    |cons n r =>
     rw[w] at g;have:=eR.1 g n lz;rw[Hi h u p] at this;cases this
   rw[this]
  unfold eN;rw[ak]
  ·rfl
  ·intro g;simp only[bq] at g;have:=eR.1 g.1.2 y i;rw[a] at this;cases this
theorem xY{s:az}(h:D7 s){x:cB}(b:x∈s.2.1){j:Int}(c:b5 j=true)(a:j≠7):(eJ j s x.1).isSome=decide ((fN x).length=0):=by
 unfold eJ;rw[Hj h.QG b];exact zo h b c a
end Go.AM.R1
namespace Go.AM.R1
open Go.Proofs
variable {X:Cx Tryz.prog}
theorem vi:∀ j,j<1->([0]:List Nat)[j]?=some j:=λj a=>by
 have:j=0:=by omega
 subst this;rfl
set_option maxRecDepth 20000 in
theorem Hp(m:Nat)(b:Nat->Int)(h:Bytes b)(k:Nat)(f:k<=1000000)(d:m<=1048576)(l:List Bs)(i:1<=l.length/\l.length<=1000) :
  cf (ι:={ p:Bs // p∈l }) X 35 [.e (.one (.ptr 0 0)),cS.sl l] [jY m b k] (λp=>dS p.1) (λ_=>[jY m b (k+1)]):=by
 refine cf.m7 Tryz.func35 rfl rfl rfl λg=>?_
 refine aA rfl ab ?_;refine AK.bZ (gY m b h k l.length f d (by omega)) [0] rfl rfl rfl rfl rfl rfl rfl (λ_=>rfl) rfl (λ_=>rfl) rfl ?_
 rintro⟨v,v0,v1⟩;refine aA rfl ?_ ?_
 ·simp[aa];omega
 have c:l.getD v.toNat cS.bl∈l:=by
  have a:v.toNat<l.length:=by omega
  rw[List.getD_eq_getElem?_getD,ai a];exact bJ a
 refine AK.jF ⟨l.getD v.toNat cS.bl,c⟩ (AK.cZ [0] rfl ?_ rfl rfl rfl vi);simp[aa]
def Hq:List Bs:=[[],[102],[97,47],[97,98],[97,47,98,47,99],[47,97]]
def Hr:List Bs:=[[97],[98],[99,47,97],[99,47,98],[100,47,97],[101],[97,47,98],[100]]
set_option maxRecDepth 20000 in
theorem sZ(m:Nat)(b:Nat->Int)(d:Bytes b)(k:Nat)(g:k<=100000)(c:m<=1048576) :
  cf (ι:={ p:Bs // p.length<=8 }) X 32 [.e (.one (.ptr 0 0))] [jY m b k] (λp=>dS p.1) (λ_=>[jY m b (k+1+1)]):=by
 refine cf.m7 Tryz.func32 rfl rfl rfl λf=>?_
 refine aA rfl ab ?_;refine AK.bZ (gY m b d k 40 (by omega) c (by omega)) [0] rfl rfl rfl rfl rfl rfl rfl (λ_=>rfl) rfl (λ_=>rfl) rfl ?_
 rintro⟨v,v0,v1⟩
 by_cases h:v=0
 ·refine aq [(5,true)] 100 rfl ?_ ?_
  ·simp[aa,h]
  have:=Hp (X:=X) m b d (k+1) (by omega) c Hq (by decide)
  refine AK.pV this [0] rfl rfl rfl rfl ?_ rfl rfl rfl (λ_=>rfl) rfl (λ_=>rfl) rfl ?_
  ·refine⟨rfl,λi hi=>?_⟩
   rcases i with _|_|_|_|_|_|i <;> first|rfl|omega
  rintro⟨p,a⟩;refine aA rfl ab (AK.jF ⟨p,(by decide:∀ p∈Hq,p.length<=8) p a⟩ (AK.cZ [0] rfl ?_ rfl rfl rfl vi))
  simp[aa]
 ·refine aq [(5,false)] 100 rfl ?_ ?_
  ·simp[aa,h]
  have:=Hp (X:=X) m b d (k+1) (by omega) c Hr (by decide)
  refine AK.pV this [0] rfl rfl rfl rfl ?_ rfl rfl rfl (λ_=>rfl) rfl (λ_=>rfl) rfl ?_
  ·refine⟨rfl,λi hi=>?_⟩
   rcases i with _|_|_|_|_|_|_|_|i <;> first|rfl|omega
  rintro⟨p,a⟩;refine aA rfl ab (AK.jF ⟨p,(by decide:∀ p∈Hr,p.length<=8) p a⟩ (AK.cZ [0] rfl ?_ rfl rfl rfl vi))
  simp[aa]
end Go.AM.R1
