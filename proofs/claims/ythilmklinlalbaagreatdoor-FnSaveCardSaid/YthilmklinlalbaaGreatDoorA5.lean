/- Part 5. No condition. -/
import Derived.Test.YthilmklinlalbaaGreatDoorA4
import Derived.Sort.Walk13a
import Derived.RowKit
set_option linter.all false
set_option maxHeartbeats 8000000
open Go.Proofs
open Go renaming Value → ah, Program → ar, TypeId → aj, Oper → au, Operand → aq, undef → ai, execOp → aw, World → aA, Goroutine → av, stepG → aH, FuncId → aJ
open Option renaming some → aa, none → af
open Bool renaming true → ab, false → ae
open Go.World renaming cell? → aV
open List renaming getD_eq_getElem?_getD → ak, range → bh, all_eq_true → bC
open Go.Sem renaming events_bind → aM
open Go.Result renaming evThen_ok → aP
open Nat renaming beq → aB, ble → bA
open Go.Op renaming equalIn → aZ, bytesLess → bm
open Go.Proofs.Tryz renaming prog → ag
namespace Go.AM.R1
section
open Go.Sort (swp bitsLen xorNextN xorNextN_lt xorNext xorNext_toNat breakStep breakPatterns)
variable {X:Cx ag}
abbrev bQ(r:Nat):aR:=.cells 290 [.c (.int .u64 r)]
def P4(r:Nat):Ev X 219 [.e (.one (.ptr 0 0))] [bQ r] (dQ (xorNextN r)) [bQ (xorNextN r)]:=by
 refine Ev.bQ Tryz.func219 rfl λd=>?_;have b:(2:Nat) ^ Int.toNat 13=8192:=by decide
 have c:(2:Nat) ^ Int.toNat 7=128:=by decide
 have a:(2:Nat) ^ Int.toNat 17=131072:=by decide
 refine dm rfl ?_ ?_
 .simp only[az];omega
 refine AK.norm [bQ (xorNextN r)] rfl ?_ (AK.dk [0] rfl ?_ rfl rfl rfl iz)
 .simp only[az,az.cat,xorNextN,cf,b,c,a,aE]
 .simp only[az,az.cat,xorNextN,cf,b,c,a]
theorem P5(n:Nat)(a:n<=4000000):Ev X 218 [dI n] [] (dQ ((1 <<< bitsLen n:Nat):Int)) []:=by
 refine Ev.bQ Tryz.func218 rfl λb=>?_;have l:=kR (x:=n) (k:=22) (by grind);refine dm rfl (by simp only[az,bD];and_intros<;>omega) ?_;refine AK.cQ (MQ n a) [] rfl ?_;refine dm rfl ?_ (AK.bz rfl ?_)
 .simp only[az];omega
 .have c:2 ^ bitsLen n<=2 ^ 22:=Nat.pow_le_pow_right (by omega) l;simp only[az,az.cat,Nat.shiftLeft_eq,cf];grind
def DQ{L:Nat}(h:0<L):1 <<< bitsLen L<=2*L:=by rw[Nat.shiftLeft_eq,Nat.one_mul];unfold bitsLen;rw[aY (by omega),Nat.pow_succ];grind[Nat.log2_self_le]
def MW(L:Nat):1<=1 <<< bitsLen L:=by rw[Nat.shiftLeft_eq,Nat.one_mul];grind
def UF(a L M:Nat):Nat->Nat->UInt64×Array Int->UInt64×Array Int
 |0,_,st=>st
 |k+1,idx,st=>UF a L M k (idx+1) (breakStep a L M st idx)
def uF{d:Array Int}{a L:Nat}(h:8<=L):breakPatterns d a (a+L)=(UF a L (1 <<< bitsLen L) 3 (a+L / 4*2-1) (UInt64.ofNat L,d)).2:=by unfold breakPatterns;simp only[zX];rw[bl h];rfl
def BC{a L M idx:Nat}{r:UInt64}{d:Array Int}:breakStep a L M (r,d) idx=(xorNext r,swp d idx (a+if(xorNextN r.toNat &&& (M-1))≥L then(xorNextN r.toNat &&& (M-1))-L else(xorNextN r.toNat &&& (M-1)))):=by unfold breakStep;simp only[xorNext_toNat]
abbrev aag(n a L M:Nat)(k:Nat):Fr:=[(0,kX n),(1,dI a),(6,dI L),(7,.e (.one (.ptr 1 0))),(8,dQ M),(9,dI ((a+L / 4*2-1+(3-k):Nat):Int))]
def MO(n:Nat)(d:Array Int)(a b:Nat)(q:d.size=n)(v:a<=b)(y:b<=n)(z:n<=4000000):
  Ev X 193 [kX n,dI a,dI b] [bI n d] (.fa []) [bI n (breakPatterns d a b)]:=by
 refine Ev.bQ Tryz.func193 rfl λw=>?_;obtain⟨L,rfl⟩:∃L,b=a+L:=⟨b-a,by omega⟩
 by_cases t:8<=L
 .rw[uF t];have B:=DQ (L:=L) (by omega);have u:=MW L;have m:(UInt64.ofNat L).toNat=L:=by grind[UInt64.toNat_ofNat']
  refine bO [(15,ab)] rfl ?_ ?_
  .simp only[az,bD,a9,aG,aE];and_intros<;>omega
  have key:∀x:Int,x=(L:Int)->Ev X 218 [dI x] [] (dQ ((1 <<< bitsLen L:Nat):Int)) []:=by grind[P5]
  refine AK.cQ (key _ (by omega)) [] rfl ?_;refine dm rfl ?_ ?_
  .simp only[az,bD,a9,aG,aE];and_intros<;>omega
  generalize p:1 <<< bitsLen L=M at *;refine AK.cE 2 (λs:Nat×UInt64×Array Int=>s.2.2.size=n/\s.1<=3/\(UF a L M s.1 (a+L / 4*2-1+(3-s.1)) s.2).2=(UF a L M 3 (a+L / 4*2-1) (UInt64.ofNat L,d)).2) (λs=>aag n a L M s.1) (λs=>[bI n s.2.2,bQ s.2.1.toNat]) (λs=>s.1) (3,UInt64.ofNat L,d) rfl ?_ rfl ?_ rfl ⟨q,bc _,rfl⟩ ?_
  .simp only[az.cat,az,aG,aE];and_intros<;>omega
  .simp only[az.cat,az,cA,m,aG,aE];grind
  rintro⟨k,r,d1⟩ ⟨l,hk,c⟩;simp only at l hk c;cases k with
  |zero =>
   rw[<-c];refine bO [(33,ae)] rfl ?_ (AK.leaveD rfl rfl ?_)
   .simp only[az,bD,bS,aG,aE];and_intros<;>omega
   exact cw.pO [0] rfl ay rfl rfl rfl iz
  |succ k =>
   have A:xorNextN r.toNat<18446744073709551616:=xorNextN_lt _ (UInt64.toNat_lt r);have o:xorNextN r.toNat &&& (M-1)<=M-1:=Nat.and_le_right;have i:((M:Int)-1).toNat=M-1:=by omega
   refine bO [(33,ab)] rfl ?_ ?_
   .simp only[az,bD,a9,aG,aE];and_intros<;>omega
   refine AK.cQ (P4 r.toNat) [1] rfl ?_;have f:=BC (a:=a) (L:=L) (M:=M) (idx:=a+L / 4*2-1+(3-(k+1))) (r:=r) (d:=d1);generalize j:xorNextN r.toNat &&& (M-1)=O at *;by_cases g:L<=O
   .rw[bl g]at f;have h:((a:Int)+((O:Int)-(L:Int))).toNat=a+(O-L):=by omega
    refine bO [(43,ab)] rfl ?_ (AK.aQ (k,xorNext r,swp d1 (a+L / 4*2-1+(3-(k+1))) (a+(O-L))) rfl ?_ ?_ ?_ ?_)
    .simp only[az,bF,cf,i,j,h,bD,a9,aG,aE];and_intros<;>omega
    .simp only[az.cat,az,aG,aE];omega
    .simp only[az.cat,az,bF,cf,i,j,h,xorNext_toNat,aE,aG];exact iq l (by omega) (by omega) (λ_ _=>rfl)
    .refine⟨by grind[size_swp],by grind,?_⟩;rw[<-c,UF,f,show a+L / 4*2-1+(3-(k+1))+1=a+L / 4*2-1+(3-k) by omega]
    .simp
   .rw[aY g]at f;have h:((a:Int)+(O:Int)).toNat=a+O:=by omega
    refine bO [(43,ae)] rfl ?_ (AK.aQ (k,xorNext r,swp d1 (a+L / 4*2-1+(3-(k+1))) (a+O)) rfl ?_ ?_ ?_ ?_)
    .simp only[az,bF,cf,i,j,h,bD,bS,aG,aE];and_intros<;>omega
    .simp only[az.cat,az,aG,aE];omega
    .simp only[az.cat,az,bF,cf,i,j,h,xorNext_toNat,aE,aG];exact iq l (by omega) (by omega) (λ_ _=>rfl)
    .refine⟨by grind[size_swp],by grind,?_⟩;rw[<-c,UF,f,show a+L / 4*2-1+(3-(k+1))+1=a+L / 4*2-1+(3-k) by omega]
    .simp
 .have e:breakPatterns d a (a+L)=d:=by unfold breakPatterns;grind
  rw[e];refine bO [(15,ae)] rfl ?_ ?_
  .simp only[az,bD,bS,aG,aE];and_intros<;>omega
  exact cw.pO [0] rfl ay rfl rfl rfl iz
end
section
open Go.Sort (swp scanUp scanDown partLoop partEqLoop partition partitionEqual ltInt)
variable {X:Cx ag}
theorem nb{p:Int->Bool}{d:Array Int}{j i:Nat}(h:i<=j)(a:p d[i]! = ab):scanUp p d j i=scanUp p d j (i+1):=by rw[scanUp.eq_1 p d j i,bl (by grind)]
theorem g7{p:Int->Bool}{d:Array Int}{j i:Nat}(h:i<=j->p d[i]! = ae):scanUp p d j i=i:=by rw[scanUp,aY];grind
theorem k6{p:Int->Bool}{d:Array Int}{j i:Nat}(b:1<=j)(h:i<=j)(c:p d[j]! = ab):scanDown p d i j=scanDown p d i (j-1):=by
 obtain⟨j,rfl⟩:∃a,j=a+1:=⟨j-1,by omega⟩
 rw[scanDown,bl (by grind),qi]
theorem fK{p:Int->Bool}{d:Array Int}{j i:Nat}(h:i<=j->p d[j]! = ae):scanDown p d i j=j:=by
 cases j with
 |zero=>rfl
 |succ j =>
  rw[scanDown,aY];grind
def oe{p:Int->Bool}{d:Array Int}{j:Nat}:∀(m i:Nat),j+1-i<=m->i<=scanUp p d j i/\(scanUp p d j i<=j+1∨scanUp p d j i=i):=by
 intro m;induction m with
 |zero=>intro i h;rw[g7 (λa=>by omega)];omega
 |succ m b =>
  intro i h;by_cases c:i<=j
  .cases a:p d[i]! with
   |true=>grind[nb]
   |false=>grind[g7]
  grind
def lz{p:Int->Bool}{d:Array Int}{i:Nat}:∀j:Nat,scanDown p d i j<=j/\(i<=scanDown p d i j+1∨scanDown p d i j=j):=by
 intro j;induction j with
 |zero=>rw[show scanDown p d i 0=0 from rfl];omega
 |succ j a =>
  by_cases c:i<=j+1
  .cases b:p d[j+1]! with
   |true=>grind[k6]
   |false=>grind[fK]
  grind[fK]
def partLoop_eq{a i j:Nat}{d:Array Int}{i2 j2:Nat}(f:1<=i)(hi:i2=scanUp (λx=>ltInt x d[a]!) d j i)(b:j2=scanDown (λx=>!ltInt x d[a]!) d i2 j):
  partLoop ltInt a i j d=if i2>j2 then(j2,d)else partLoop ltInt a (i2+1) (j2-1) (swp d i2 j2):=by have e:=oe (p:=λx=>ltInt x d[a]!) (d:=d) (j:=j) (j+1-i) i (bc _);have c:=lz (p:=λx=>!ltInt x d[a]!) (d:=d) (i:=i2) j;rw[<-hi]at e;rw[<-b]at c;rw[partLoop.eq_1,<-hi,<-b];grind
def DR{d c:Array Int}{a b v i j:Nat}(f:c=swp d a v)(hi:i=scanUp (λx=>ltInt x c[a]!) c (b-1) (a+1))(e:j=scanDown (λx=>!ltInt x c[a]!) c i (b-1))(h:i>j):partition ltInt d a b v=(j,ab,swp c j a):=by unfold partition;grind
def DS{d c:Array Int}{a b v i j:Nat}(g:c=swp d a v)(hi:i=scanUp (λx=>ltInt x c[a]!) c (b-1) (a+1))(f:j=scanDown (λx=>!ltInt x c[a]!) c i (b-1))(h:¬i>j){r:Nat×Array Int}(e:partLoop ltInt a (i+1) (j-1) (swp c i j)=r):partition ltInt d a b v=(r.1,ae,swp r.2 r.1 a):=by subst e;unfold partition;grind
def P0(n:Nat)(d:Array Int)(a b v:Nat)(Q:d.size=n)(U:a<b)(Y:b<=n)(V:v<n)(Z:n<=4000000):
  Ev X 199 [kX n,dI a,dI b,dI v] [bI n d] (.fa [.one (.c (.int .i64 (partition ltInt d a b v).1)),.one (.c (.bool (partition ltInt d a b v).2.1))]) [bI n (partition ltInt d a b v).2.2]:=by
 have h:bL X [(197,vb)]:=.cons ye .nil;refine Ev.bQ Tryz.func199 rfl λW=>?_;refine bn h [(1000002,ab)] rfl ?_ ?_
 .simp only[az,bF,cf,bD,aG,aE];and_intros<;>omega
 refine AK.norm [bI n (swp d a v)] rfl ?_ ?_
 .simp only[az.cat,az,bF,cf,aE,aG];exact iq Q (by omega) (by omega) (λ_ _=>rfl)
 have y:(swp d a v).size=n:=by grind[size_swp]
 obtain⟨f,P⟩:∃f,f=swp d a v:=⟨_,rfl⟩;rw[<-P]at y⊢;refine cG h rfl ?_ ?_
 .simp only[az,bD];and_intros<;>omega
 refine AK.lj (S2:=Unit) 0 rfl rfl (λ_=>True) (λ_=>[(0,kX n),(1,dI a),(10,dI ((scanUp (λx=>ltInt x f[a]!) f (b-1) (a+1)):Nat)),(11,dI (b-1:Nat))]) (λ_=>[bI n f]) 1 (λk:Nat=>a+1<=k/\k<=n+1/\scanUp (λx=>ltInt x f[a]!) f (b-1) k=scanUp (λx=>ltInt x f[a]!) f (b-1) (a+1)) (λk=>[(0,kX n),(1,dI a),(10,dI (k:Nat)),(11,dI (b-1:Nat))]) (λ_=>[bI n f]) (λk=>b-1+1-k) (a+1) rfl ?_ rfl ?_ rfl ⟨bc _,by omega,rfl⟩ ?_ ?_
 .simp[cA]<;>omega
 .simp[cA]
 .rintro out k ⟨t,u,o⟩;by_cases w:k<=b-1
  .by_cases K:(λx=>ltInt x f[a]!) f[k]! = ab
   .have g:ltInt f[k]! f[a]! = ab:=by grind
    refine bn h [(32,ab),(42,ab)] rfl ?_ (AK.aQ (k+1) rfl ?_ ?_ ?_ ?_)
    .simp only[az,bF,cf,g,bD,a9,aG,aE];and_intros<;>omega
    .simp only[az.cat,az,aG,aE];omega
    .simp[cA]
    .grind [nb]
    .omega
   .have g:ltInt f[k]! f[a]! = ae:=by grind
    refine bn h [(32,ab),(42,ae)] rfl ?_ (AK.leaveD rfl rfl ?_)
    .simp only[az,bF,cf,g,bD,a9,aG,aE];and_intros<;>omega
    have e:scanUp (λx=>ltInt x f[a]!) f (b-1) (a+1)=k:=by grind[g7]
    exact out () ay rfl (by simp only[az.cat,az,e,aG,aE]) rfl (by simp[cA])
  .refine bn h [(32,ae)] rfl ?_ (AK.leaveD rfl rfl ?_)
   .simp only[az,bD,bS,aG,aE];omega
   have e:scanUp (λx=>ltInt x f[a]!) f (b-1) (a+1)=k:=by grind[g7]
   exact out () ay rfl (by simp only[az.cat,az,e,aG,aE]) rfl (by simp[cA])
 rintro⟨⟩ -;have S:=oe (p:=λx=>ltInt x f[a]!) (d:=f) (j:=b-1) (b-1+1-(a+1)) (a+1) (bc _);obtain⟨i,hi⟩:∃i,i=scanUp (λx=>ltInt x f[a]!) f (b-1) (a+1):=⟨_,rfl⟩
 rw[<-hi]at S⊢;refine cG h rfl ay ?_;refine AK.lj (S2:=Unit) 2 rfl rfl (λ_=>True) (λ_=>[(0,kX n),(1,dI a),(10,dI (i:Nat)),(11,dI ((scanDown (λx=>!ltInt x f[a]!) f (i) (b-1)):Nat))]) (λ_=>[bI n f]) 1 (λk:Nat=>k<=b-1/\k<=n/\scanDown (λx=>!ltInt x f[a]!) f (i) k=scanDown (λx=>!ltInt x f[a]!) f (i) (b-1)) (λk=>[(0,kX n),(1,dI a),(10,dI (i:Nat)),(11,dI (k:Nat))]) (λ_=>[bI n f]) (λk=>k) (b-1) rfl ?_ rfl ?_ rfl ⟨bc _,by omega,rfl⟩ ?_ ?_
 .simp[cA]<;>omega
 .simp[cA]
 .rintro out k ⟨t,u,o⟩;by_cases w:i<=k
  .by_cases K:(λx=>!ltInt x f[a]!) f[k]! = ab
   .have g:ltInt f[k]! f[a]! = ae:=by grind
    refine bn h [(48,ab),(58,ae)] rfl ?_ (AK.aQ (k-1) rfl ?_ ?_ ?_ ?_)
    .simp only[az,bF,cf,g,bD,a9,aG,aE];and_intros<;>omega
    .simp only[az.cat,az,aG,aE];omega
    .simp[cA]
    .exact⟨by omega,by omega,by grind[k6]⟩
    .omega
   .have g:ltInt f[k]! f[a]! = ab:=by grind
    refine bn h [(48,ab),(58,ab)] rfl ?_ (AK.leaveD rfl rfl ?_)
    .simp only[az,bF,cf,g,bD,a9,aG,aE];and_intros<;>omega
    have e:scanDown (λx=>!ltInt x f[a]!) f (i) (b-1)=k:=by grind[fK]
    exact out () ay rfl (by simp only[az.cat,az,e,aG,aE]) rfl (by simp[cA])
  .refine bn h [(48,ae)] rfl ?_ (AK.leaveD rfl rfl ?_)
   .simp only[az,bD,bS,aG,aE];omega
   have e:scanDown (λx=>!ltInt x f[a]!) f (i) (b-1)=k:=by grind[fK]
   exact out () ay rfl (by simp only[az.cat,az,e,aG,aE]) rfl (by simp[cA])
 rintro⟨⟩ -;have T:=lz (p:=λx=>!ltInt x f[a]!) (d:=f) (i:=i) (b-1);obtain⟨j,J⟩:∃j,j=scanDown (λx=>!ltInt x f[a]!) f i (b-1):=⟨_,rfl⟩
 rw[<-J]at T⊢;by_cases H:j<i
 .rw[DR P hi J H];refine bn h [(65,ab),(1000009,ab)] rfl ?_ ?_
  .simp only[az,bF,cf,bD,a9,aG,aE];and_intros<;>omega
  refine AK.norm [bI n (swp f j a)] rfl ?_ ?_
  .simp only[az.cat,az,bF,cf,aE,aG];exact iq y (by omega) (by omega) (λ_ _=>rfl)
  refine cG h rfl ay (AK.dk [0] rfl ?_ rfl rfl rfl iz);simp
 refine bn h [(65,ae),(1000011,ab)] rfl ?_ ?_
 .simp only[az,bF,cf,bD,bS,aG,aE];and_intros<;>omega
 refine AK.norm [bI n (swp f i j)] rfl ?_ ?_
 .simp only[az.cat,az,bF,cf,aE,aG];exact iq y (by omega) (by omega) (λ_ _=>rfl)
 refine cG h rfl ?_ ?_
 .simp only[az,bD];and_intros<;>omega
 have D:(swp f i j).size=n:=by grind[size_swp]
 obtain⟨r,M⟩:∃r,partLoop ltInt a (i+1) (j-1) (swp f i j)=r:=⟨_,rfl⟩;rw[DS P hi J (by omega) M]
 obtain⟨d1,I⟩:∃d1,d1=swp f i j:=⟨_,rfl⟩;rw[<-I]at D M⊢;refine AK.lj (S2:=Unit) 4 rfl rfl (λ_=>r.1<n/\r.2.size=n) (λ_=>[(0,kX n),(1,dI a),(11,dI r.1)]) (λ_=>[bI n r.2]) 1 (λs:Nat×Nat×Array Int=>s.2.2.size=n/\a+1<=s.1/\s.1<=n+1/\s.2.1<n/\partLoop ltInt a s.1 s.2.1 s.2.2=r) (λs=>[(0,kX n),(1,dI a),(10,dI s.1),(11,dI s.2.1)]) (λs=>[bI n s.2.2]) (λs=>s.2.1+1-s.1) (i+1,j-1,d1) rfl ?_ rfl ?_ rfl ⟨D,by grind,by grind,by grind,M⟩ ?_ ?_
 .simp only[az.cat,az,aG,aE];and_intros<;>omega
 .simp[cA]
 .rintro F ⟨i3,l,d2⟩ ⟨E,O,C,N,m⟩;simp only at E O C N m;refine cG h rfl ay ?_;refine AK.lj (S2:=Unit) 6 rfl rfl (λ_=>True) (λ_=>[(0,kX n),(1,dI a),(10,dI ((scanUp (λx=>ltInt x d2[a]!) d2 (l) (i3)):Nat)),(11,dI (l:Nat))]) (λ_=>[bI n d2]) 1 (λk:Nat=>i3<=k/\k<=n+1/\scanUp (λx=>ltInt x d2[a]!) d2 (l) k=scanUp (λx=>ltInt x d2[a]!) d2 (l) (i3)) (λk=>[(0,kX n),(1,dI a),(10,dI (k:Nat)),(11,dI (l:Nat))]) (λ_=>[bI n d2]) (λk=>l+1-k) (i3) rfl ?_ rfl ?_ rfl ⟨bc _,by omega,rfl⟩ ?_ ?_
  .simp[cA]<;>omega
  .simp[cA]
  .rintro out k ⟨t,u,o⟩;by_cases w:k<=l
   .by_cases K:(λx=>ltInt x d2[a]!) d2[k]! = ab
    .have g:ltInt d2[k]! d2[a]! = ab:=by grind
     refine bn h [(101,ab),(111,ab)] rfl ?_ (AK.aQ (k+1) rfl ?_ ?_ ?_ ?_)
     .simp only[az,bF,cf,g,bD,a9,aG,aE];and_intros<;>omega
     .simp only[az.cat,az,aG,aE];omega
     .simp[cA]
     .grind [nb]
     .omega
    .have g:ltInt d2[k]! d2[a]! = ae:=by grind
     refine bn h [(101,ab),(111,ae)] rfl ?_ (AK.leaveD rfl rfl ?_)
     .simp only[az,bF,cf,g,bD,a9,aG,aE];and_intros<;>omega
     have e:scanUp (λx=>ltInt x d2[a]!) d2 (l) (i3)=k:=by grind[g7]
     exact out () ay rfl (by simp only[az.cat,az,e,aG,aE]) rfl (by simp[cA])
   .refine bn h [(101,ae)] rfl ?_ (AK.leaveD rfl rfl ?_)
    .simp only[az,bD,bS,aG,aE];omega
    have e:scanUp (λx=>ltInt x d2[a]!) d2 (l) (i3)=k:=by grind[g7]
    exact out () ay rfl (by simp only[az.cat,az,e,aG,aE]) rfl (by simp[cA])
  rintro⟨⟩ -;have c1:=oe (p:=λx=>ltInt x d2[a]!) (d:=d2) (j:=l) (l+1-i3) i3 (bc _);obtain⟨i4,A⟩:∃i4,i4=scanUp (λx=>ltInt x d2[a]!) d2 l i3:=⟨_,rfl⟩
  rw[<-A]at c1⊢;refine cG h rfl ay ?_;refine AK.lj (S2:=Unit) 8 rfl rfl (λ_=>True) (λ_=>[(0,kX n),(1,dI a),(10,dI (i4:Nat)),(11,dI ((scanDown (λx=>!ltInt x d2[a]!) d2 (i4) (l)):Nat))]) (λ_=>[bI n d2]) 1 (λk:Nat=>k<=l/\k<=n/\scanDown (λx=>!ltInt x d2[a]!) d2 (i4) k=scanDown (λx=>!ltInt x d2[a]!) d2 (i4) (l)) (λk=>[(0,kX n),(1,dI a),(10,dI (i4:Nat)),(11,dI (k:Nat))]) (λ_=>[bI n d2]) (λk=>k) (l) rfl ?_ rfl ?_ rfl ⟨bc _,by omega,rfl⟩ ?_ ?_
  .simp[cA]<;>omega
  .simp[cA]
  .rintro out k ⟨t,u,o⟩;by_cases w:i4<=k
   .by_cases K:(λx=>!ltInt x d2[a]!) d2[k]! = ab
    .have g:ltInt d2[k]! d2[a]! = ae:=by grind
     refine bn h [(117,ab),(127,ae)] rfl ?_ (AK.aQ (k-1) rfl ?_ ?_ ?_ ?_)
     .simp only[az,bF,cf,g,bD,a9,aG,aE];and_intros<;>omega
     .simp only[az.cat,az,aG,aE];omega
     .simp[cA]
     .exact⟨by omega,by omega,by grind[k6]⟩
     .omega
    .have g:ltInt d2[k]! d2[a]! = ab:=by grind
     refine bn h [(117,ab),(127,ab)] rfl ?_ (AK.leaveD rfl rfl ?_)
     .simp only[az,bF,cf,g,bD,a9,aG,aE];and_intros<;>omega
     have e:scanDown (λx=>!ltInt x d2[a]!) d2 (i4) (l)=k:=by grind[fK]
     exact out () ay rfl (by simp only[az.cat,az,e,aG,aE]) rfl (by simp[cA])
   .refine bn h [(117,ae)] rfl ?_ (AK.leaveD rfl rfl ?_)
    .simp only[az,bD,bS,aG,aE];omega
    have e:scanDown (λx=>!ltInt x d2[a]!) d2 (i4) (l)=k:=by grind[fK]
    exact out () ay rfl (by simp only[az.cat,az,e,aG,aE]) rfl (by simp[cA])
  rintro⟨⟩ -;have c2:=lz (p:=λx=>!ltInt x d2[a]!) (d:=d2) (i:=i4) l;obtain⟨z,B⟩:∃z,z=scanDown (λx=>!ltInt x d2[a]!) d2 i4 l:=⟨_,rfl⟩
  rw[<-B]at c2⊢;have q:=partLoop_eq (by omega) A B;by_cases G:z<i4
  .have e:=q;rw[m,bl G]at e;refine bn h [(134,ab)] rfl ?_ (AK.leaveD rfl rfl ?_)
   .simp only[az,bD,a9];omega
   exact F () (by grind) rfl (by simp only[az.cat,az,e,aG,aE]) rfl (by simp[cA,e])
  .have e:=q;rw[m,aY (by omega)]at e;refine bn h [(134,ae),(1000019,ab)] rfl ?_ ?_
   .simp only[az,bF,cf,bD,bS,aG,aE];and_intros<;>omega
   refine AK.norm [bI n (swp d2 i4 z)] rfl ?_ ?_
   .simp only[az.cat,az,bF,cf,aE,aG];exact iq E (by omega) (by omega) (λ_ _=>rfl)
   refine cG h rfl ?_ (AK.aQ (i4+1,z-1,swp d2 i4 z) rfl ?_ ?_ ?_ ?_)
   .simp only[az,bD];and_intros<;>omega
   .simp only[az.cat,az,aG,aE];and_intros<;>omega
   .simp[cA]
   .grind [size_swp]
   grind
 rintro⟨⟩ ⟨R,L⟩;refine bn h [(1000022,ab)] rfl ?_ ?_
 .simp only[az,bF,cf,bD,aG,aE];and_intros<;>omega
 refine AK.norm [bI n (swp r.2 r.1 a)] rfl ?_ ?_
 .simp only[az.cat,az,bF,cf,aE,aG];exact iq L (by omega) (by omega) (λ_ _=>rfl)
 refine cG h rfl ay (AK.dk [0] rfl ?_ rfl rfl rfl iz);simp
def partEqLoop_eq{a i j:Nat}{d:Array Int}{i2 j2:Nat}(f:1<=i)(hi:i2=scanUp (λx=>!ltInt d[a]! x) d j i)(b:j2=scanDown (λx=>ltInt d[a]! x) d i2 j):
  partEqLoop ltInt a i j d=if i2>j2 then(i2,d)else partEqLoop ltInt a (i2+1) (j2-1) (swp d i2 j2):=by have e:=oe (p:=λx=>!ltInt d[a]! x) (d:=d) (j:=j) (j+1-i) i (bc _);have c:=lz (p:=λx=>ltInt d[a]! x) (d:=d) (i:=i2) j;rw[<-hi]at e;rw[<-b]at c;rw[partEqLoop.eq_1,<-hi,<-b];grind
def Ja(n:Nat)(d:Array Int)(a b v:Nat)(J:d.size=n)(L:a<b)(O:b<=n)(M:v<n)(P:n<=4000000):
  Ev X 198 [kX n,dI a,dI b,dI v] [bI n d] (dI (partitionEqual ltInt d a b v).1) [bI n (partitionEqual ltInt d a b v).2]:=by
 have g:bL X [(197,vb)]:=.cons ye .nil;refine Ev.bQ Tryz.func198 rfl λN=>?_;refine bn g [(1000002,ab)] rfl ?_ ?_
 .simp only[az,bF,cf,bD,aG,aE];and_intros<;>omega
 refine AK.norm [bI n (swp d a v)] rfl ?_ ?_
 .simp only[az.cat,az,bF,cf,aE,aG];exact iq J (by omega) (by omega) (λ_ _=>rfl)
 have A:(swp d a v).size=n:=by grind[size_swp]
 unfold partitionEqual;generalize swp d a v=d1 at *;obtain⟨r,G⟩:∃r,partEqLoop ltInt a (a+1) (b-1) d1=r:=⟨_,rfl⟩;rw[G];refine cG g rfl ?_ ?_
 .simp only[az,bD];and_intros<;>omega
 refine AK.lj (S2:=Unit) 0 rfl rfl (λ_=>r.1<=n+1/\r.2.size=n) (λ_=>[(0,kX n),(1,dI a),(9,dI r.1)]) (λ_=>[bI n r.2]) 1 (λs:Nat×Nat×Array Int=>s.2.2.size=n/\a+1<=s.1/\s.1<=n+1/\s.2.1<n/\partEqLoop ltInt a s.1 s.2.1 s.2.2=r) (λs=>[(0,kX n),(1,dI a),(9,dI s.1),(10,dI s.2.1)]) (λs=>[bI n s.2.2]) (λs=>s.2.1+1-s.1) (a+1,b-1,d1) rfl ?_ rfl ?_ rfl ⟨A,by grind,by grind,by grind,G⟩ ?_ ?_
 .simp only[az.cat,az,aG,aE];and_intros<;>omega
 .simp[cA]
 .rintro w ⟨i3,c,d2⟩ ⟨u,F,t,C,h⟩;simp only at u F t C h;refine cG g rfl ay ?_;refine AK.lj (S2:=Unit) 2 rfl rfl (λ_=>True) (λ_=>[(0,kX n),(1,dI a),(9,dI ((scanUp (λx=>!ltInt d2[a]! x) d2 (c) (i3)):Nat)),(10,dI (c:Nat))]) (λ_=>[bI n d2]) 1 (λk:Nat=>i3<=k/\k<=n+1/\scanUp (λx=>!ltInt d2[a]! x) d2 (c) k=scanUp (λx=>!ltInt d2[a]! x) d2 (c) (i3)) (λk=>[(0,kX n),(1,dI a),(9,dI (k:Nat)),(10,dI (c:Nat))]) (λ_=>[bI n d2]) (λk=>c+1-k) (i3) rfl ?_ rfl ?_ rfl ⟨bc _,by omega,rfl⟩ ?_ ?_
  .simp[cA]<;>omega
  .simp[cA]
  .rintro out k ⟨B,D,z⟩;by_cases E:k<=c
   .by_cases H:(λx=>!ltInt d2[a]! x) d2[k]! = ab
    .have f:ltInt d2[a]! d2[k]! = ae:=by grind
     refine bn g [(31,ab),(41,ae)] rfl ?_ (AK.aQ (k+1) rfl ?_ ?_ ?_ ?_)
     .simp only[az,bF,cf,f,bD,a9,aG,aE];and_intros<;>omega
     .simp only[az.cat,az,aG,aE];omega
     .simp[cA]
     .grind [nb]
     .omega
    .have f:ltInt d2[a]! d2[k]! = ab:=by grind
     refine bn g [(31,ab),(41,ab)] rfl ?_ (AK.leaveD rfl rfl ?_)
     .simp only[az,bF,cf,f,bD,a9,aG,aE];and_intros<;>omega
     have e:scanUp (λx=>!ltInt d2[a]! x) d2 (c) (i3)=k:=by grind[g7]
     exact out () ay rfl (by simp only[az.cat,az,e,aG,aE]) rfl (by simp[cA])
   .refine bn g [(31,ae)] rfl ?_ (AK.leaveD rfl rfl ?_)
    .simp only[az,bD,bS,aG,aE];omega
    have e:scanUp (λx=>!ltInt d2[a]! x) d2 (c) (i3)=k:=by grind[g7]
    exact out () ay rfl (by simp only[az.cat,az,e,aG,aE]) rfl (by simp[cA])
  rintro⟨⟩ -;have c1:=oe (p:=λx=>!ltInt d2[a]! x) (d:=d2) (j:=c) (c+1-i3) i3 (bc _);obtain⟨i4,m⟩:∃i4,i4=scanUp (λx=>!ltInt d2[a]! x) d2 c i3:=⟨_,rfl⟩
  rw[<-m]at c1⊢;refine cG g rfl ay ?_;refine AK.lj (S2:=Unit) 4 rfl rfl (λ_=>True) (λ_=>[(0,kX n),(1,dI a),(9,dI (i4:Nat)),(10,dI ((scanDown (λx=>ltInt d2[a]! x) d2 (i4) (c)):Nat))]) (λ_=>[bI n d2]) 1 (λk:Nat=>k<=c/\k<=n/\scanDown (λx=>ltInt d2[a]! x) d2 (i4) k=scanDown (λx=>ltInt d2[a]! x) d2 (i4) (c)) (λk=>[(0,kX n),(1,dI a),(9,dI (i4:Nat)),(10,dI (k:Nat))]) (λ_=>[bI n d2]) (λk=>k) (c) rfl ?_ rfl ?_ rfl ⟨bc _,by omega,rfl⟩ ?_ ?_
  .simp[cA]<;>omega
  .simp[cA]
  .rintro out k ⟨B,D,z⟩;by_cases E:i4<=k
   .by_cases H:(λx=>ltInt d2[a]! x) d2[k]! = ab
    .have f:ltInt d2[a]! d2[k]! = ab:=by grind
     refine bn g [(48,ab),(58,ab)] rfl ?_ (AK.aQ (k-1) rfl ?_ ?_ ?_ ?_)
     .simp only[az,bF,cf,f,bD,a9,aG,aE];and_intros<;>omega
     .simp only[az.cat,az,aG,aE];omega
     .simp[cA]
     .exact⟨by omega,by omega,by grind[k6]⟩
     .omega
    .have f:ltInt d2[a]! d2[k]! = ae:=by grind
     refine bn g [(48,ab),(58,ae)] rfl ?_ (AK.leaveD rfl rfl ?_)
     .simp only[az,bF,cf,f,bD,a9,aG,aE];and_intros<;>omega
     have e:scanDown (λx=>ltInt d2[a]! x) d2 (i4) (c)=k:=by grind[fK]
     exact out () ay rfl (by simp only[az.cat,az,e,aG,aE]) rfl (by simp[cA])
   .refine bn g [(48,ae)] rfl ?_ (AK.leaveD rfl rfl ?_)
    .simp only[az,bD,bS,aG,aE];omega
    have e:scanDown (λx=>ltInt d2[a]! x) d2 (i4) (c)=k:=by grind[fK]
    exact out () ay rfl (by simp only[az.cat,az,e,aG,aE]) rfl (by simp[cA])
  rintro⟨⟩ -;have c2:=lz (p:=λx=>ltInt d2[a]! x) (d:=d2) (i:=i4) c;obtain⟨l,o⟩:∃l,l=scanDown (λx=>ltInt d2[a]! x) d2 i4 c:=⟨_,rfl⟩
  rw[<-o]at c2⊢;have q:=partEqLoop_eq (by omega) m o;by_cases y:l<i4
  .have e:=q;rw[h,bl y]at e;refine bn g [(64,ab)] rfl ?_ (AK.leaveD rfl rfl ?_)
   .simp only[az,bD,a9];omega
   exact w () (by grind) rfl (by simp only[az.cat,az,e,aG,aE]) rfl (by simp[cA,e])
  .have e:=q;rw[h,aY (by omega)]at e;refine bn g [(64,ae),(1000009,ab)] rfl ?_ ?_
   .simp only[az,bF,cf,bD,bS,aG,aE];and_intros<;>omega
   refine AK.norm [bI n (swp d2 i4 l)] rfl ?_ ?_
   .simp only[az.cat,az,bF,cf,aE,aG];exact iq u (by omega) (by omega) (λ_ _=>rfl)
   refine cG g rfl ?_ (AK.aQ (i4+1,l-1,swp d2 i4 l) rfl ?_ ?_ ?_ ?_)
   .simp only[az,bD];and_intros<;>omega
   .simp only[az.cat,az,aG,aE];and_intros<;>omega
   .simp[cA]
   .grind [size_swp]
   grind
 rintro⟨⟩ ⟨K,I⟩;refine cG g rfl ay (AK.dk [0] rfl ?_ rfl rfl rfl iz);simp
end
section
open Go.Sort (swp scanSorted shiftDown shiftUp partialIns partialInsertionSort ltInt)
variable {X:Cx ag}
theorem yf{d:Array Int}{b i:Nat}(h:i<b)(a:ltInt d[i]! d[i-1]! = ae):scanSorted ltInt d b i=scanSorted ltInt d b (i+1):=by rw[scanSorted.eq_1 ltInt d b i,bl (by grind)]
theorem oP{d:Array Int}{b i:Nat}(h:i<b->ltInt d[i]! d[i-1]! = ab):scanSorted ltInt d b i=i:=by rw[scanSorted,aY];grind
def MK{d:Array Int}{b:Nat}:∀(m i:Nat),b-i<=m->i<=b->i<=scanSorted ltInt d b i/\scanSorted ltInt d b i<=b:=by
 intro m;induction m with
 |zero=>grind[oP]
 |succ m a =>
  intro i h e;by_cases f:i<b
  .cases c:ltInt d[i]! d[i-1]! with
   |false=>grind[yf]
   |true=>grind[oP]
  grind
theorem ML{d:Array Int}{j:Nat}(b:1<=j)(h:ltInt d[j]! d[j-1]! = ab):shiftDown ltInt j d=shiftDown ltInt (j-1) (swp d j (j-1)):=by
 obtain⟨j,rfl⟩:∃a,j=a+1:=⟨j-1,by omega⟩
 simp only[qi]at h⊢;rw[shiftDown,aY (by simp[h])]
theorem DM{d:Array Int}{j:Nat}(h:1<=j->ltInt d[j]! d[j-1]! = ae):shiftDown ltInt j d=d:=by
 cases j with
 |zero=>rfl
 |succ j =>
  have:=h (by omega);simp only[qi]at this;rw[shiftDown,bl (by grind)]
theorem MM{d:Array Int}{b j:Nat}(a:j<b)(h:ltInt d[j]! d[j-1]! = ab):shiftUp ltInt b j d=shiftUp ltInt b (j+1) (swp d j (j-1)):=by rw[shiftUp.eq_1 ltInt b j d,bl a,aY (by simp[h])]
theorem DN{d:Array Int}{b j:Nat}(h:j<b->ltInt d[j]! d[j-1]! = ae):shiftUp ltInt b j d=d:=by rw[shiftUp];grind
abbrev Rw(n a b i s:Nat):Fr:=[(0,kX n),(1,dI a),(2,dI b),(7,dI i),(8,dI (5-(s:Int)))]
def PX{a b s i:Nat}{d:Array Int}:partialIns ltInt a b (s+1) i d=(if scanSorted ltInt d b i=b then(d,ab)else if b-a<50 then(d,ae)else
  partialIns ltInt a b s (scanSorted ltInt d b i) (if b-scanSorted ltInt d b i≥2 then shiftUp ltInt b (scanSorted ltInt d b i+1) (if scanSorted ltInt d b i-a≥2 then shiftDown ltInt (scanSorted ltInt d b i-1) (swp d (scanSorted ltInt d b i) (scanSorted ltInt d b i-1))else swp d (scanSorted ltInt d b i) (scanSorted ltInt d b i-1))else(if scanSorted ltInt d b i-a≥2 then shiftDown ltInt (scanSorted ltInt d b i-1) (swp d (scanSorted ltInt d b i) (scanSorted ltInt d b i-1))else swp d (scanSorted ltInt d b i) (scanSorted ltInt d b i-1)))):=rfl
def yg(n:Nat)(d:Array Int)(a b:Nat)(N:d.size=n)(S:a<b)(W:b<=n)(Y:n<=4000000):
  Ev X 196 [kX n,dI a,dI b] [bI n d] (dB (partialInsertionSort ltInt d a b).2) [bI n (partialInsertionSort ltInt d a b).1]:=by
 have g:bL X [(197,vb)]:=.cons ye .nil;refine Ev.bQ Tryz.func196 rfl λU=>?_;obtain⟨r,L⟩:∃r,partialIns ltInt a b 5 (a+1) d=r:=⟨_,rfl⟩;have C:partialInsertionSort ltInt d a b=r:=L;rw[C];refine cG g rfl (by simp only[az,bD];omega) ?_
 refine AK.lj (S2:=Unit) 0 rfl rfl (λ_=>r.2=ae) (λ_=>[(0,kX n)]) (λ_=>[bI n r.1]) 1 (λs:Nat×Nat×Array Int=>s.2.2.size=n/\s.1<=5/\a+1<=s.2.1/\s.2.1<=b/\partialIns ltInt a b s.1 s.2.1 s.2.2=r) (λs=>Rw n a b s.2.1 s.1) (λs=>[bI n s.2.2]) (λs=>s.1) (5,a+1,d) rfl ?_ rfl ?_ rfl ⟨N,by grind,by grind,by grind,L⟩ ?_ ?_
 .simp
 .simp[cA]
 .rintro z ⟨s,i,d1⟩ ⟨I,v,hi,t,f⟩;simp only at I v hi t f;cases s with
  |zero =>
   rw[partialIns]at f;refine bn g [(14,ae)] rfl ?_ (AK.leaveD rfl rfl ?_)
   .simp
   exact z () (by grind) rfl (by simp) rfl (by simp[cA,<-f])
  |succ s =>
   rw[PX]at f;refine bn g [(14,ab)] rfl (by simp only[az,a9];omega) ?_;refine AK.lj (S2:=Unit) 2 rfl rfl (λ_=>True) (λ_=>Rw n a b (scanSorted ltInt d1 b i) (s+1)) (λ_=>[bI n d1]) 1 (λk:Nat=>i<=k/\k<=b/\scanSorted ltInt d1 b k=scanSorted ltInt d1 b i) (λk=>Rw n a b k (s+1)) (λ_=>[bI n d1]) (λk=>b-k) i rfl ?_ rfl ?_ rfl ⟨bc _,t,rfl⟩ ?_ ?_
   .simp
   .simp[cA]
   .rintro out k ⟨O,P,M⟩;by_cases Q:k<b
    .have A:((k:Int)-1).toNat=k-1:=by omega
     cases p:ltInt d1[k]! d1[k-1]! with
     |false =>
      refine bn g [(19,ab),(30,ae)] rfl ?_ (AK.aQ (k+1) rfl ?_ ?_ ?_ ?_)
      .simp only[az,bF,cf,A,p,bD,a9,aG,aE];and_intros<;>omega
      .simp only[az.cat,az,aG,aE];omega
      .simp[cA]
      .grind [yf]
      .omega
     |true =>
      refine bn g [(19,ab),(30,ab)] rfl ?_ (AK.leaveD rfl rfl ?_)
      .simp only[az,bF,cf,A,p,bD,a9,aG,aE];and_intros<;>omega
      have e:scanSorted ltInt d1 b i=k:=by grind[oP]
      exact out () ay rfl (by simp only[az.cat,az,e,aG,aE]) rfl (by simp[cA])
    .refine bn g [(19,ae)] rfl ?_ (AK.leaveD rfl rfl ?_)
     .simp only[az,bD,bS,aG,aE];omega
     have e:scanSorted ltInt d1 b i=k:=by grind[oP]
     exact out () ay rfl (by simp only[az.cat,az,e,aG,aE]) rfl (by simp[cA])
   rintro⟨⟩ -;have c:=MK (d:=d1) (b:=b) (b-i) i (bc _) t;obtain⟨i2,H⟩:∃i2,i2=scanSorted ltInt d1 b i:=⟨_,rfl⟩;rw[<-H]at c f⊢
   by_cases q:i2=b
   .rw[bl q]at f;rw[<-f];refine bn g [(37,ab)] rfl ?_ (AK.fQ (cw.mk [0] rfl ?_ rfl rfl rfl iz))
    .simp[q]
    .simp
   rw[aY q]at f;by_cases w:b-a<50
   .rw[bl w]at f;rw[<-f];refine bn g [(37,ae),(41,ab)] rfl ?_ (AK.fQ (cw.mk [0] rfl ?_ rfl rfl rfl iz))
    .simp[bD];omega
    .simp
   rw[aY w]at f;have A:((i2:Int)-1).toNat=i2-1:=by omega
   refine bn g [(37,ae),(41,ae),(1000012,ab)] rfl ?_ ?_
   .simp only[az,bF,cf,A,bD,bS,eD,dy,aG,aE];and_intros<;>omega
   refine AK.norm [bI n (swp d1 i2 (i2-1))] rfl ?_ ?_
   .simp only[az.cat,az,bF,cf,A,aE,aG];exact iq I (by omega) (by omega) (λ_ _=>rfl)
   have y:(swp d1 i2 (i2-1)).size=n:=by grind[size_swp]
   obtain⟨d2,D⟩:∃d2,d2=swp d1 i2 (i2-1):=⟨_,rfl⟩;rw[<-D]at y f⊢;obtain⟨d3,m⟩:∃d3,d3=if i2-a≥2 then shiftDown ltInt (i2-1) d2 else d2:=⟨_,rfl⟩
   rw[<-m]at f;have T:∀(j:Nat) (d:Array Int),(shiftDown ltInt j d).size=d.size:=by
    intro j;induction j with
    |zero=>intro d;rfl
    |succ j V =>
     intro d;rw[shiftDown];grind[size_swp]
   have F:d3.size=n:=by grind
   apply AK.join (Rw n a b i2 (s+1)) [bI n d3]
   .intro out;by_cases K:i2-a≥2
    .rw[bl K]at m;refine bn g [(61,ab)] rfl ?_ ?_
     .simp only[az,bD,a9,aG,aE];and_intros<;>omega
     refine AK.lj (S2:=Unit) 4 rfl rfl (λ_=>True) (λ_=>Rw n a b i2 (s+1)) (λ_=>[bI n d3]) 1 (λs:Nat×Array Int=>s.2.size=n/\s.1<b/\shiftDown ltInt s.1 s.2=d3) (λs2=>Rw n a b i2 (s+1)++[(9,dI s2.1)]) (λs=>[bI n s.2]) (λs=>s.1) (i2-1,d2) rfl ?_ rfl ?_ rfl ⟨y,by grind,m.symm⟩ ?_ ?_
     .simp only[az.cat,az,aG,aE];omega
     .simp[cA]
     .rintro h ⟨j,d4⟩ ⟨o,E,l⟩;simp only at o E l;by_cases x:1<=j
      .have u:((j:Int)-1).toNat=j-1:=by omega
       cases p:ltInt d4[j]! d4[j-1]! with
       |true =>
        refine bn g [(65,ab),(77,ab)] rfl ?_ (AK.aQ (j-1,swp d4 j (j-1)) rfl ?_ ?_ ?_ ?_)
        .simp only[az,bF,cf,u,p,bD,a9,aG,aE];and_intros<;>omega
        .simp only[az.cat,az,aG,aE];omega
        .simp only[az.cat,az,bF,cf,u,aE,aG];exact iq o (by omega) (by omega) (λ_ _=>rfl)
        .grind [ML]
        grind
       |false =>
        refine bn g [(65,ab),(77,ae)] rfl ?_ (AK.leaveD rfl rfl ?_)
        .simp only[az,bF,cf,u,p,bD,a9,aG,aE];and_intros<;>omega
        have e:d3=d4:=by grind[DM]
        exact h () ay rfl (by simp) rfl (by simp[cA,e])
      .refine bn g [(65,ae)] rfl ?_ (AK.leaveD rfl rfl ?_)
       .simp only[az,bS];omega
       have e:d3=d4:=by grind[DM]
       exact h () ay rfl (by simp) rfl (by simp[cA,e])
     rintro⟨⟩ -;refine bn g [(1000018,ab)] rfl ay ?_;exact out _ _ rfl (by simp)
    .rw[aY K]at m;rw[<-m];refine bn g [(61,ae),(1000018,ab)] rfl ?_ ?_
     .simp only[az,bD,bS,aG,aE];and_intros<;>omega
     exact out _ _ rfl (by simp)
   by_cases J:b-i2≥2
   .rw[bl J]at f;obtain⟨d5,B⟩:∃d5,shiftUp ltInt b (i2+1) d3=d5:=⟨_,rfl⟩;rw[B]at f;refine bn g [(98,ab)] rfl ?_ ?_
    .simp only[az,bD,a9,aG,aE];and_intros<;>omega
    refine AK.lj (S2:=Unit) 6 rfl rfl (λ_=>d5.size=n) (λ_=>Rw n a b i2 (s+1)) (λ_=>[bI n d5]) 1 (λs:Nat×Array Int=>s.2.size=n/\1<=s.1/\s.1<=b/\shiftUp ltInt b s.1 s.2=d5) (λs2=>Rw n a b i2 (s+1)++[(10,dI s2.1)]) (λs=>[bI n s.2]) (λs=>b-s.1) (i2+1,d3) rfl ?_ rfl ?_ rfl ⟨F,by grind,by grind,B⟩ ?_ ?_
    .simp only[az.cat,az,aG,aE];omega
    .simp[cA]
    .rintro h ⟨j,d4⟩ ⟨o,x,E,l⟩;simp only at o x E l;by_cases R:j<b
     .have u:((j:Int)-1).toNat=j-1:=by omega
      cases p:ltInt d4[j]! d4[j-1]! with
      |true =>
       refine bn g [(103,ab),(115,ab)] rfl ?_ (AK.aQ (j+1,swp d4 j (j-1)) rfl ?_ ?_ ?_ ?_)
       .simp only[az,bF,cf,u,p,bD,a9,aG,aE];and_intros<;>omega
       .simp only[az.cat,az,aG,aE];omega
       .simp only[az.cat,az,bF,cf,u,aE,aG];exact iq o (by omega) (by omega) (λ_ _=>rfl)
       .grind [size_swp,MM]
       grind
      |false =>
       refine bn g [(103,ab),(115,ae)] rfl ?_ (AK.leaveD rfl rfl ?_)
       .simp only[az,bF,cf,u,p,bD,a9,aG,aE];and_intros<;>omega
       have e:d5=d4:=by grind[DN]
       exact h () (by grind) rfl (by simp) rfl (by simp[cA,e])
     .refine bn g [(103,ae)] rfl ?_ (AK.leaveD rfl rfl ?_)
      .simp only[az,bS];omega
      have e:d5=d4:=by grind[DN]
      exact h () (by grind) rfl (by simp) rfl (by simp[cA,e])
    rintro⟨⟩ v;refine cG g rfl ?_ (AK.aQ (s,i2,d5) rfl ?_ ?_ ?_ ?_)
    .simp only[az,bD];omega
    .simp only[az.cat,az,aG,aE];omega
    .simp[cA]
    .grind
    grind
   .rw[aY J]at f;refine bn g [(98,ae)] rfl ?_ (AK.aQ (s,i2,d3) rfl ?_ ?_ ?_ ?_)
    .simp only[az,bD,bS,aG,aE];and_intros<;>omega
    .simp only[az.cat,az,aG,aE];omega
    .simp[cA]
    .grind
    grind
 rintro⟨⟩ G;refine cG g rfl ay (AK.dk [0] rfl ?_ rfl rfl rfl iz);simp[G]
end
section
open Go.Sort (swp pdq rd Rd Below SWO insertionSort heapSort breakPatterns choosePivot reverseRange partialInsertionSort partition partitionEqual Hint ltInt PermIn SortedIn)
variable {X:Cx ag}
abbrev W3(n a b c:Nat)(wb wp:Bool):Fr:=[(0,kX n),(1,dI a),(2,dI b),(3,dI c),(8,dB wb),(9,dB wp)]
def zH{h:Hint}:oc h=2↔h=.decreasing:=by cases h<;>simp[oc]
def uD{h:Hint}:oc h=1↔h=.increasing:=by cases h<;>simp[oc]
structure PqS where
 a:Nat
 b:Nat
 lim:Nat
 wb:Bool
 wp:Bool
 d:Array Int
def PY(n:Nat)(d:Array Int){a b:Nat}(e:d.size=n)(h:b<=n)(f:a<=n)(g:n<=4000000){r:Array Int}(c:r=insertionSort ltInt d a b):Ev X 191 [kX n,dI a,dI b] [bI n d] (.fa []) [bI n r]:=by grind[T6]
def MN(n:Nat)(d:Array Int){a b:Nat}(g:d.size=n)(c:a<=b)(f:1<=b-a)(i:b<=n)(h:n<=4000000){r:Array Int}(e:r=heapSort ltInt d a b):Ev X 192 [kX n,dI a,dI b] [bI n d] (.fa []) [bI n r]:=by grind[PZ]
def T7(n:Nat)(G:n<=4000000):∀(m:Nat)(d:Array Int)(a b lim:Nat),b-a<=m->d.size=n->a<=b->b<=n->lim<=100->Below ltInt a b d ->
  ∀{x y z:Int},x=a->y=b->z=lim->∀{R:Array Int},R=pdq ltInt d a b lim ab ab->Ev X 152 [kX n,dI x,dI y,dI z] [bI n d] (.fa []) [bI n R]:=by
 have i:bL X [(197,vb)]:=.cons ye .nil;have C:SWO ltInt:=Go.Sort.swo_ltInt;have hpi:=Go.Sort.partialInsertionSort_holds (lt:=ltInt);have hpt:=Go.Sort.partition_holds ltInt;have hpe:=Go.Sort.partitionEqual_holds ltInt;have Q:=Go.Sort.reverseRange_holds (α:=Int);have S:=Go.Sort.pdq_sorts ltInt;intro m;induction m using Nat.strongRecOn with
 |_ m ih =>
 intro d a b lim hm hd hab hb hl hB x y z hx hy hz R hR;subst hx hy hz;refine Ev.bQ Tryz.func152 rfl λhf=>?_;refine cG i rfl ay ?_;refine AK.cE 1 (λs:PqS=>s.d.size=n/\s.a<=s.b/\s.b<=n/\s.lim<=100/\s.b-s.a<=b-a/\Below ltInt s.a s.b s.d/\pdq ltInt s.d s.a s.b s.lim s.wb s.wp=R) (λs=>W3 n s.a s.b s.lim s.wb s.wp) (λs=>[bI n s.d]) (λs=>s.b-s.a) ⟨a,b,lim,ab,ab,d⟩ rfl ?_ rfl ?_ rfl ⟨hd,hab,hb,hl,bc _,hB,hR.symm⟩ ?_
 .simp
 .simp[cA]
 clear hf hB hd hR;rintro⟨f,h,q,wb,wp,d1⟩ ⟨O,w,j,Y,Zl,hB,k⟩;simp only at O w j Y Zl hB k;by_cases B:h-f<=12
 .rw[Go.Sort.pdq_small B]at k;refine bn i [(23,ab)] rfl ?_ ?_
  .simp only[az,bD,a9];and_intros<;>omega
  refine AK.cQ (PY n d1 (a:=f) (b:=h) O j (by omega) G k.symm) [0] rfl ?_;refine cG i rfl ay (AK.fQ (cw.mk [0] rfl ay rfl rfl rfl iz))
 by_cases T:q=0
 .rw[Go.Sort.pdq_heap B T]at k;refine bn i [(23,ae),(29,ab)] rfl ?_ ?_
  .simp only[az,bD,bS,gp];and_intros<;>omega
  refine AK.cQ (MN n d1 (a:=f) (b:=h) O w (by omega) j G k.symm) [0] rfl ?_;refine cG i rfl ay (AK.fQ (cw.mk [0] rfl ay rfl rfl rfl iz))
 have l:f<h:=by omega
 obtain⟨f1,f2,f3,f4,f5,W,V,f8⟩:=Go.Sort.rd_facts (limit:=q) (wb:=wb) (wp:=wp) C hpi Q l (by grind) hB;have fl:=Go.Sort.rd_lim_le (lt:=ltInt) (d:=d1) (a:=f) (b:=h) (limit:=q) (wb:=wb) (wp:=wp);have U:=Go.Sort.rd_dec (lt:=ltInt) (d:=d1) (a:=f) (b:=h) (limit:=q) (wb:=wb) (wp:=wp);have M:=Go.Sort.rd_not (lt:=ltInt) (d:=d1) (a:=f) (b:=h) (limit:=q) (wb:=wb) (wp:=wp);have H:=Go.Sort.rd_pi_yes (lt:=ltInt) (d:=d1) (a:=f) (b:=h) (limit:=q) (wb:=wb) (wp:=wp);have fno:=Go.Sort.rd_pi_no (lt:=ltInt) (d:=d1) (a:=f) (b:=h) (limit:=q) (wb:=wb) (wp:=wp);have fc:=Go.Sort.rd_c (lt:=ltInt) (d:=d1) (a:=f) (b:=h) (limit:=q) (wb:=wb) (wp:=wp);have Z:wb=ae->(rd ltInt d1 f h q wb wp).d1=breakPatterns d1 f h/\(rd ltInt d1 f h q wb wp).lim=q-1:=by grind[Go.Sort.rd_false]
 have fd2:wb=ab->(rd ltInt d1 f h q wb wp).d1=d1/\(rd ltInt d1 f h q wb wp).lim=q:=by grind[Go.Sort.rd_true]
 have F:=Go.Sort.pdq_done (lt:=ltInt) (d:=d1) (wb:=wb) (wp:=wp) B T;have geq:=Go.Sort.pdq_eq (lt:=ltInt) (d:=d1) (wb:=wb) (wp:=wp) B T;have E:=Go.Sort.pdq_left (lt:=ltInt) (d:=d1) (wb:=wb) (wp:=wp) B T;have A:=Go.Sort.pdq_right (lt:=ltInt) (d:=d1) (wb:=wb) (wp:=wp) B T;rw[O]at f1 f4 V;rw[k]at F geq E A;generalize rd ltInt d1 f h q wb wp=r at *;apply AK.join (W3 n f h r.lim wb wp++[(10,dI ((h-f:Nat):Int))]) [bI n r.d1]
 .intro out;cases wb with
  |false =>
   obtain⟨J,I⟩:=Z rfl;refine bn i [(23,ae),(29,ae)] rfl ?_ ?_
   .simp only[az,bD,bS,eD,dy];and_intros<;>omega
   refine AK.cQ (MO n d1 f h O w j G) [0] rfl ?_;rw[<-J];refine bn i [(1000010,ab)] rfl ?_ ?_
   .simp only[az,bD];and_intros<;>omega
   exact out _ _ rfl (by simp only[az.cat,az,I,aG,aE];and_intros<;>omega)
  |true =>
   obtain⟨J,I⟩:=fd2 rfl;subst J;refine bn i [(23,ae),(29,ae),(1000010,ab)] rfl ?_ ?_
   .simp only[az,bD,bS,eD,dy];and_intros<;>omega
   exact out _ _ rfl (by simp only[az.cat,az,I,aG,aE];and_intros<;>omega)
 refine cG i rfl ay ?_;refine AK.cQ (I9 n r.d1 f h w j (by omega) G) [0] rfl ?_;rw[<-fc];apply AK.join (W3 n f h r.lim wb wp++[(10,dI ((h-f:Nat):Int)),(11,dI r.pivot),(12,dI (oc r.hint))]) [bI n r.d2]
 .intro out;by_cases v:r.c.2=.decreasing
  .obtain⟨J,I,e3⟩:=U v;refine bn i [(50,ab)] rfl ?_ ?_
   .simp only[az,gp,zH];exact v
   refine AK.cQ (T8 n r.d1 f h f1 (by omega) (by omega) j G) [0] rfl ?_;rw[<-J];refine bn i [(1000015,ab)] rfl ?_ ?_
   .simp only[az,bD];and_intros<;>omega
   exact out _ _ rfl (by simp only[az.cat,az,I,e3,oc,aG,aE];and_intros<;>omega)
  .obtain⟨J,I,e3⟩:=M v;rw[<-J];refine bn i [(50,ae),(1000015,ab)] rfl ?_ ?_
   .simp only[az,eD,dy,zH];exact v
   exact out _ _ rfl (by simp only[az.cat,az,I,e3,aG,aE])
 by_cases p:r.pi.2=ab
 ·
  have t:(wb&&wp&&decide (r.hint=.increasing))=ab:=by grind
  have e:=H t;simp only[bR,a9]at t;obtain⟨⟨rfl,rfl⟩,D⟩:=t;refine bn i [(67,ab)] rfl ?_ ?_
  .simp only[az,gp,uD];exact D
  refine AK.cQ (yg n r.d2 f h f4 l j G) [0] rfl ?_;rw[<-e,p,<-F p];refine cG i rfl ay (AK.fQ (cw.mk [0] rfl ay rfl rfl rfl iz))
 rw[ou]at p;apply AK.join (W3 n f h r.lim wb wp++[(10,dI ((h-f:Nat):Int)),(11,dI r.pivot)]) [bI n r.pi.1]
 .intro out;cases o:(wb&&wp&&decide (r.hint=.increasing))with
  |true =>
   have e:=H o;simp only[bR,a9]at o;obtain⟨⟨rfl,rfl⟩,D⟩:=o;refine bn i [(67,ab)] rfl ?_ ?_
   .simp only[az,gp,uD];exact D
   refine AK.cQ (yg n r.d2 f h f4 l j G) [0] rfl ?_;rw[<-e,p];refine bn i [(1000017,ab)] rfl ay ?_;exact out _ _ rfl (by simp)
  |false =>
   have e:r.d2=r.pi.1:=by grind
   rw[e];cases wb with
   |false =>
    refine bn i [(1000017,ab)] rfl ay ?_;exact out _ _ rfl (by simp)
   |true =>
    cases wp with
    |false =>
     refine bn i [(1000017,ab)] rfl ay ?_;exact out _ _ rfl (by simp)
    |true =>
     refine bn i [(67,ae),(1000017,ab)] rfl ?_ ?_
     .simp only[az,eD,dy,uD];grind
     exact out _ _ rfl (by simp)
 have ep:((f:Int)-1).toNat=f-1:=by omega
 cases o:(decide (f>0)&&!ltInt r.pi.1[f-1]! r.pi.1[r.pivot]!)with
 |true =>
  have u:=o;simp only[bR,a9,jQ]at u;obtain⟨L,q2,K,q4,_⟩:=Go.Sort.round_eq (mid:=(partitionEqual ltInt r.pi.1 f h r.pivot).1) (d4:=(partitionEqual ltInt r.pi.1 f h r.pivot).2) C hpe u.1 W.1 W.2 (by grind) f8 u.2 rfl;have g:=geq p o ⟨L,q2⟩;refine bn i [(74,ab),(85,ae)] rfl ?_ ?_
  .simp only[az,bF,cf,ep,u.2,bD,a9,aG,aE];and_intros<;>omega
  refine AK.cQ (Ja n r.pi.1 f h r.pivot V l j (by omega) G) [0] rfl ?_;refine cG i rfl ay (AK.aQ ⟨(partitionEqual ltInt r.pi.1 f h r.pivot).1,h,r.lim,wb,wp,(partitionEqual ltInt r.pi.1 f h r.pivot).2⟩ rfl ?_ ?_ ?_ ?_)
  .simp
  .simp[cA]
  .grind
  grind
 |false =>
  obtain⟨L,q2,K,q4,q5,q6,q7⟩:=Go.Sort.round_part (mid:=(partition ltInt r.pi.1 f h r.pivot).1) (ap:=(partition ltInt r.pi.1 f h r.pivot).2.1) (d4:=(partition ltInt r.pi.1 f h r.pivot).2.2) C hpt W.1 W.2 (by grind) f8 rfl;apply AK.join (W3 n f h r.lim wb wp++[(10,dI ((h-f:Nat):Int)),(11,dI r.pivot)]) [bI n r.pi.1]
  .intro out;by_cases ha0:0<f
   .have tN:ltInt r.pi.1[f-1]! r.pi.1[r.pivot]! = ab:=by grind
    refine bn i [(74,ab),(85,ab),(1000020,ab)] rfl ?_ ?_
    .simp only[az,bF,cf,ep,tN,bD,a9,aG,aE];and_intros<;>omega
    exact out _ _ rfl (by simp)
   .refine bn i [(74,ae),(1000020,ab)] rfl ?_ ?_
    .simp only[az,bS];omega
    exact out _ _ rfl (by simp)
  refine cG i rfl ay ?_;refine AK.cQ (P0 n r.pi.1 f h r.pivot V l j (by omega) G) [0] rfl ?_;have gl:=E p o ⟨L,q2⟩;have gr:=A p o ⟨L,q2⟩;generalize partition ltInt r.pi.1 f h r.pivot=P at *;rw[V]at K;by_cases N:P.1-f<h-P.1
  .have g:=gl N;obtain⟨w1,w2⟩:=S C P.2.2 f P.1 r.lim ab ab L (by grind) q4;obtain⟨w3,_⟩:=q6 _ w1 w2;refine bn i [(113,ab)] rfl ?_ ?_
   .simp only[az,bD,a9,aG,aE];and_intros<;>omega
   refine AK.cQ (ih (P.1-f) (by omega) P.2.2 f P.1 r.lim (bc _) K L (by omega) (by omega) q4 rfl rfl rfl rfl) [0] rfl ?_;refine cG i rfl ?_ (AK.aQ ⟨P.1+1,h,r.lim,decide (P.1-f≥(h-f) / 8),P.2.1,pdq ltInt P.2.2 f P.1 r.lim ab ab⟩ rfl ?_ ?_ ?_ ?_)
   .simp only[az,bD,aG,aE];and_intros<;>omega
   .simp only[az.cat,az,aG,aE];grind
   .simp[cA]
   .exact⟨by simp only;rw[w1.1,K],by grind,j,by grind,by grind,w3,g.symm⟩
   grind
  .have g:=gr N;obtain⟨w1,w2⟩:=S C P.2.2 (P.1+1) h r.lim ab ab (by omega) (by grind) q5;obtain⟨w3,_⟩:=q7 _ w1 w2;refine bn i [(113,ae)] rfl ?_ ?_
   .simp only[az,bD,bS,aG,aE];and_intros<;>omega
   refine AK.cQ (ih (h-(P.1+1)) (by omega) P.2.2 (P.1+1) h r.lim (bc _) K (by omega) j (by omega) q5 (x:=(P.1:Int)+1) (by omega) rfl rfl rfl) [0] rfl ?_;refine cG i rfl ?_ (AK.aQ ⟨f,P.1,r.lim,decide (h-P.1≥(h-f) / 8),P.2.1,pdq ltInt P.2.2 (P.1+1) h r.lim ab ab⟩ rfl ?_ ?_ ?_ ?_)
   .trivial
   .simp only[az.cat,az,aG,aE];grind
   .simp[cA]
   .exact⟨by simp only;rw[w1.1,K],by grind,by grind,by grind,by grind,w3,g.symm⟩
   grind
end
section
variable {X:Cx ag}[X.hU]
def TS(t:List bw):∀i,i<t.length->(cF.fn t i).length=2/\∀c∈cF.fn t i,vk c=ab:=by intro i _;refine⟨rfl,λc a=>?_⟩;simp only[mI.fn,Bd,cF,eB,ot,mO]at a;rcases a with rfl|rfl<;>rfl
abbrev Mx(t:List bw)(xs:List ah):Prop:=gy 2 t.length (cF.fn t) xs
abbrev bK(bf:nD)(n:Nat)(xs:List ah):aR:=.cm (gf 82 2 bf n xs)
abbrev tKB(bf:nD)(n:Nat)(b:Bool):D:=.fa [.one (.v (lA bf n)),.one (.c (.bool b))]
def DG(t:List bw)(p x:Bs):ef (ι:={q:nD×List ah // Mx (ez t p x).1 q.2}) X 59 [cF.sl t,dS p,dS x] [] (λq=>tKB q.1.1 (ez t p x).1.length (ez t p x).2) (λq=>[bK q.1.1 (ez t p x).1.length q.1.2]) :=
 (va t p x).thaw Tryz.func59 rfl (by simp[vW,pR,qL,m0,wy,vk]) (TS _)
def gy.nil{k:Nat}{es:Nat->List C}:gy k 0 es []:=⟨by simp,λi hi=>by omega,λi hi=>by omega⟩
def I5{t:List bw}{p x:Bs}(h:(ez t p x).2=ab):(ez t p x).1.length<=6:=by
 unfold ez at h⊢;split at h
 .rename_i b;rw[bl b];split at h
  .rename_i a;rw[bl a];exact mE a
  grind
 grind
def WQ{o:au}{x y:aq}(h:o.op=.call {callee:=.builtin .append,args:=#[x,y],argTypes:=#[28,28]}):lL ag o x y 82 i82 :=
 ⟨⟨28,28,i28,i28,h,(tok _ _ rfl),rfl,(tok _ _ rfl),rfl⟩,(tok _ _ rfl),by decide,by decide⟩
def My{M:Mem}{p:Bs}(h:p.length<=9223372036854775807):Rd M (BW p) (.str p):=Rd.str rfl h
def Mx.snoc{t:List bw}{xs:List ah}(h:Mx t xs)(p x:Bs)(b:p.length<=9223372036854775807)(d:x.length<=9223372036854775807):Mx (t++[(p,x)]) (xs++[BW p,BW x]):=by
 unfold Mx;rw[cX];refine gy.snoc h (λi hi=>?_) rfl rfl λq c a=>?_
 .simp[mI.fn,Bd,ak,jy hi]
 .have e:cF.fn (t++[(p,x)]) t.length=[.str p,.str x]:=by simp[mI.fn,Bd,cF]
  rw[e]at a;rcases q with _|_|q
  .simp at a;subst a;exact⟨BW p,rfl,λM=>My b⟩
  .simp at a;subst a;exact⟨BW x,rfl,λM=>My d⟩
  grind
def Mx.PO{t:List bw}{xs vs:List ah}(h:Mx t xs)(i:Nat)(hi:i<t.length)(x:Bs)(d:nq vs [.c (.str x)]):Mx (t.set i ((t.getD i cF.cd).1,x)) (xs.take (i*2+1)++vs++xs.drop (i*2+1+vs.length)):=by
 unfold Mx;rw[List.length_set];refine gy.fH h i 1 hi d (bc _) (λg f b=>?_) rfl λq c a=>?_
 .simp[mI.fn,Bd,ak,Ne.symm b]
 .have e:cF.fn (t.set i ((t.getD i cF.cd).1,x)) i=[.str (t.getD i cF.cd).1,.str x]:=by simp[mI.fn,Bd,cF,ak,hi]
  rw[e]at a;rcases q with _|_|q
  .right;simp at a;subst a;exact⟨by omega,rfl⟩
  .grind
  grind
structure DH(k c:Nat) where
 t:List bw
 bf:nD
 xs:List ah
 k1:Nat
 fl:Mx t xs
 hl:t.length<=7
 h1:k<=k1
 h2:k1<=k+c
set_option maxRecDepth 20000 in
def Hh(m:Nat)(b:Nat->Int)(o:Bytes b)(k:Nat)(hk:k<=50000)(w:m<=1048576):
  ef (ι:=DH k 400) X 22 [.e (.one (.ptr 0 0))] [lu m b k] (λq=>.e (.one (.v (lA q.bf q.t.length)))) (λq=>[lu m b q.k1,bK q.bf q.t.length q.xs]):=by
 refine ef.rn Tryz.func22 rfl rfl rfl λK=>?_;refine oK [] 9 rfl ay ?_;refine AK.Oa 3 82 2 rfl λB=>?_;refine bt rfl ay ?_;refine AK.cP (gF m b o k 6 (by omega) w (by omega)) [0] rfl (λ_=>rfl) ?_;rintro⟨v,v0,v1⟩;refine bt rfl ay ?_;refine AK.cE 2 (λs:Nat×List bw×nD×List ah×Nat=>s.1<=5/\Mx s.2.1 s.2.2.2.1/\s.2.1.length<=6/\k<=s.2.2.2.2/\s.2.2.2.2+70*s.1<=k+351) (λs=>[(0,.e (.one (.ptr 0 0))),(4,dI s.1),(3,.e (.one (.v (lA s.2.2.1 s.2.1.length))))]) (λs=>[lu m b s.2.2.2.2,bK s.2.2.1 s.2.1.length s.2.2.2.1]) (λs=>s.1) (v.toNat,[],B,[],k+1) rfl ?_ rfl ?_ rfl ⟨by omega,gy.nil,by simp,by simp,by grind⟩ ?_
 .simp;omega
 .simp
 rintro⟨n,t,bf,xs,k1⟩ ⟨P,f,L,Q,O⟩;simp only at P f L Q O;by_cases N:0<n
 .refine aX [(11,ab)] rfl (by simp[N]) ?_;refine AK.cP (wi m b o k1 (by omega) w) [0] rfl (λ_=>rfl) ?_;rintro⟨p,G⟩;refine bt rfl ay ?_;refine AK.cP (Hu m b o (k1+1+1) (by omega) w) [0] rfl (λ_=>rfl) ?_;rintro⟨⟨x,E⟩,I,C,i⟩;simp only at I C i;refine bt rfl ay ?_;refine AK.KC (DG t p x) 1 0 rfl rfl rfl rfl (gf.Ce rfl (cF.fn t) f.rd) rfl ?_ rfl (λ_=>rfl) (λ_=>rfl) rfl ?_
  .simp
  rintro⟨⟨d,xs'⟩,g⟩;simp only at g⊢;cases D:(ez t p x).2 with
  |true =>
   have z:=I5 D;generalize(ez t p x).1=t' at g z⊢;refine oK [] 6 rfl ay ?_;refine AK.swap 1 2 (by decide) rfl rfl (λv H h=>h.1) (λv H h=>h.1) ?_;refine aX [(23,ab)] rfl ?_ (AK.aQ (n-1,t',d,xs',E) rfl ?_ ?_ ?_ ?_)
   .simp[bD];omega
   .simp;omega
   .simp
   .grind
   grind
  |false =>
   refine aX [(23,ae)] rfl ?_ (AK.aQ (n-1,t,bf,xs,E) rfl ?_ ?_ ?_ ?_)
   .simp[bD];omega
   .simp;omega
   .simp
   .grind
   grind
 .obtain rfl:n=0:=by omega
  refine aX [(11,ae)] rfl (by simp) (AK.leaveD rfl rfl ?_);refine bt rfl ay ?_;refine AK.cP (gF m b o k1 40 (by omega) w (by omega)) [0] rfl (λ_=>rfl) ?_;rintro⟨u,T,U⟩;by_cases F:u=0
  .refine aX [(27,ab)] rfl (by simp[F]) ?_;refine AK.cP (wi m b o (k1+1) (by omega) w) [0] rfl (λ_=>rfl) ?_;rintro⟨p,G⟩;refine bt rfl ay ?_;refine AK.oA (l:=1) (bf:=bf) (xs:=xs) (n:=t.length) (xv:=[BW p,BW [97]]) (WQ rfl) rfl rfl rfl rfl rfl rfl rfl rfl (λM v j c S R=>?_) (by show _*32<=_;omega) λd=>?_
   .grind [str_val]
   refine bt rfl ay (AK.n7 ⟨t++[(p,[97])],d,xs++[BW p,BW [97]],k1+1+1+1,f.snoc p [97] (by omega) (by decide),by grind,by omega,by omega⟩ (AK.dk [0,1] rfl ?_ ?_ rfl rfl ?_))
   .simp
   .simp;rfl
   grind
  by_cases a:u=1
  .by_cases y:0<t.length
   .refine AK.JO (gf.len (l:=1) rfl) λA=>?_;obtain⟨J,cap,rfl⟩:=A.2.2.1 y;refine aX [(27,ae),(35,ab),(39,ab)] rfl ?_ ?_
    .simp[y,a];omega
    refine AK.Ah tok 1 rfl rfl rfl rfl rfl rfl rfl ?_ rfl rfl λvs Us=>?_
    .grind
    have r:=f.PO 0 y [65] Us;refine bt rfl ay (AK.n7 ⟨t.set 0 ((t.getD 0 cF.cd).1,[65]),.row J cap,_,k1+1,r,by grind,by omega,by omega⟩ (AK.dk [0,1] rfl ?_ ?_ rfl rfl ?_))
    .simp
    .simp;rfl
    grind
   .cases bf;all_goals
     refine aX [(27,ae),(35,ab),(39,ae)] rfl ?_ (AK.n7 ⟨t,_,xs,k1+1,f,by omega,by omega,by omega⟩ (AK.dk [0,1] rfl ?_ rfl rfl rfl ?_))
     .simp[y,a]<;>omega
     .simp
     grind
  .refine aX [(27,ae),(35,ae)] rfl (by simp[F,a]) (AK.n7 ⟨t,bf,xs,k1+1,f,by omega,by omega,by omega⟩ (AK.dk [0,1] rfl ?_ rfl rfl rfl ?_))
   .simp
   grind
def Nv(m:Nat)(b:Nat->Int)(c:Bytes b)(k:Nat)(hk:k<=50000)(a:m<=1048576):
  ef (ι:=DH k 400) X 22 [.e (.one (.ptr 0 0))] [lu m b k] (λq=>cF.sl q.t) (λq=>[lu m b q.k1]) :=
 ef.Cl (σ1:=λq:DH k 400=>[lu m b q.k1]) (k:=2) (n:=λq:DH k 400=>q.t.length) (es:=λq:DH k 400=>cF.fn q.t) (Hh m b c k hk a) (λq=>q.fl) (λ_=>rfl) (λ_=>bc _)
end
section
open Go.Proofs Go.Extern
abbrev r7:aj:=62
abbrev lK:aj:=60
abbrev Qb:aj:=186
abbrev hT(t:aj):ah:=.pointer (aa ⟨6,t,af⟩)
abbrev rT(t:aj):ah:=.iface Qb (.agg #[hT t])
abbrev vV(t:aj)(g:Nat)(a:Int):ah:=.agg #[hT t,.pointer (aa ⟨g,0,af⟩),.int .u64 a]
def DY:lg ag 77 λargs=>ReflectliteValue.unpack (args.getD 0 (.tuple #[])):=⟨_,Tryz.func77,by kernel_rfl,by kernel_rfl,by kernel_rfl,by kernel_rfl⟩
def F0(p:Addr)(w:aA):(ReflectliteValue.unpack (.iface r7 (.pointer (aa p)))).run ag w=.ok (vV r7 w.heap.size 150) (w.alloc (.cells #[.pointer (aa p)] r7)):=by kernel_rfl
def F1(p:Addr)(w:aA)(es:Array Event):(ReflectliteValue.unpack (.iface r7 (.pointer (aa p)))).events ag w es=es:=by kernel_rfl
def F2(p:Addr)(w:aA):(ReflectliteValue.unpack (.iface lK (.pointer (aa p)))).run ag w=.ok (vV lK w.heap.size 150) (w.alloc (.cells #[.pointer (aa p)] lK)):=by kernel_rfl
def F3(p:Addr)(w:aA)(es:Array Event):(ReflectliteValue.unpack (.iface lK (.pointer (aa p)))).events ag w es=es:=by kernel_rfl
def Xb:lg ag 78 (ReflectliteValue.methodAny (ReflectliteValue.valueError "reflectlite.Value.Type" 0) λt _ _ _=>ReflectliteType.toType t):=⟨_,Tryz.func78,by kernel_rfl,by kernel_rfl,by kernel_rfl,by kernel_rfl⟩
def Xc(g:Nat)(w:aA):(ReflectliteValue.methodAny (ReflectliteValue.valueError "reflectlite.Value.Type" 0) (λt _ _ _=>ReflectliteType.toType t) #[vV r7 g 150]).run ag w=.ok (rT r7) w:=by kernel_rfl
def Xd(g:Nat)(w:aA)(es:Array Event):(ReflectliteValue.methodAny (ReflectliteValue.valueError "reflectlite.Value.Type" 0) (λt _ _ _=>ReflectliteType.toType t) #[vV r7 g 150]).events ag w es=es:=by kernel_rfl
def Rz(h:ah)(w:aA):(Go.method (Tryz.prog.types.size+Made.depth) Qb (.agg #[h]) "Kind").run ag w=.ok (262,h) w/\∀es,(Go.method (Tryz.prog.types.size+Made.depth) Qb (.agg #[h]) "Kind").events ag w es=es:=⟨by kernel_rfl,λes=>by kernel_rfl⟩
def RA:lg ag 262 (ReflectliteType.abiMethod λt=>do pure (.int .u8 (<-Rtype.kind t))):=⟨_,Tryz.func262,by kernel_rfl,by kernel_rfl,by kernel_rfl,by kernel_rfl⟩
def Qc(w:aA):((ReflectliteType.abiMethod λt=>do pure (.int .u8 (<-Rtype.kind t))) #[hT r7]).run ag w=.ok (.int .u8 22) w:=by kernel_rfl
def Qd(w:aA)(es:Array Event):((ReflectliteType.abiMethod λt=>do pure (.int .u8 (<-Rtype.kind t))) #[hT r7]).events ag w es=es:=by kernel_rfl
def Qe(w:aA):((ReflectliteType.abiMethod λt=>do pure (.int .u8 (<-Rtype.kind t))) #[hT lK]).run ag w=.ok (.int .u8 22) w:=by kernel_rfl
def Qg(w:aA)(es:Array Event):((ReflectliteType.abiMethod λt=>do pure (.int .u8 (<-Rtype.kind t))) #[hT lK]).events ag w es=es:=by kernel_rfl
def Uf:lg ag 79 (ReflectliteValue.method (ReflectliteValue.valueError "reflectlite.Value.IsNil" 0) ReflectliteValue.isNil):=⟨_,Tryz.func79,by kernel_rfl,by kernel_rfl,by kernel_rfl,by kernel_rfl⟩
def rlm(z:Sem ah)(f:aj->Addr->Nat->Nat->Sem ah)(v:ah):ReflectliteValue.method z f #[v]=(do match<-ReflectliteValue.parts v with|none=>z|some (t,a,b)=>f t a b (b % 32)):=rfl
def uL(g:Nat)(w:aA):(ReflectliteValue.parts (vV r7 g 150)).run ag w=.ok (aa (r7,⟨g,0,af⟩,150)) w/\∀es,(ReflectliteValue.parts (vV r7 g 150)).events ag w es=es:=⟨by kernel_rfl,λes=>by kernel_rfl⟩
def Ug(g:Nat)(p:Addr)(w:aA)(d:w.cell? ⟨g,0,af⟩=aa (.pointer (aa p))):(ReflectliteValue.method (ReflectliteValue.valueError "reflectlite.Value.IsNil" 0) ReflectliteValue.isNil #[vV r7 g 150]).run ag w=.ok (.bool ae) w /\
  ∀es,∀b∈(ReflectliteValue.method (ReflectliteValue.valueError "reflectlite.Value.IsNil" 0) ReflectliteValue.isNil #[vV r7 g 150]).events ag w es,b∈es∨b=⟨.cell ⟨g,0,af⟩,ae,ae⟩:=by
 have c:=Tryz.underlying62;rw[rlm];constructor
 .simp only[bT,(uL g w).1,b5];simp[ReflectliteValue.isNil,loadVar,isAgg,underlying,c,d]
 .intro es b a;simp only[aM,bT,(uL g w).1,(uL g w).2,b5,aP]at a;simpa[ReflectliteValue.isNil,loadVar,isAgg,underlying,c,d,show(Mode.plain==Mode.atomic)=ae from rfl]using a
def Xe(h:ah)(w:aA):(Go.method (Tryz.prog.types.size+Made.depth) Qb (.agg #[h]) "Elem").run ag w=.ok (279,.agg #[h]) w/\∀es,(Go.method (Tryz.prog.types.size+Made.depth) Qb (.agg #[h]) "Elem").events ag w es=es:=⟨by kernel_rfl,λes=>by kernel_rfl⟩
def Uh:lg ag 279 (ReflectliteType.method ReflectliteType.elem):=⟨_,Tryz.func279,by kernel_rfl,by kernel_rfl,by kernel_rfl,by kernel_rfl⟩
def Ui(w:aA):(ReflectliteType.method ReflectliteType.elem #[.agg #[hT r7]]).run ag w=.ok (rT lK) w:=by kernel_rfl
def Uj(w:aA)(es:Array Event):(ReflectliteType.method ReflectliteType.elem #[.agg #[hT r7]]).events ag w es=es:=by kernel_rfl
def Xf(h:ah)(w:aA):(Go.method (Tryz.prog.types.size+Made.depth) Qb (.agg #[h]) "Implements").run ag w=.ok (280,.agg #[h]) w/\∀es,(Go.method (Tryz.prog.types.size+Made.depth) Qb (.agg #[h]) "Implements").events ag w es=es:=⟨by kernel_rfl,λes=>by kernel_rfl⟩
def Xg:lg ag 280 (ReflectliteType.relation "Implements" ReflectliteType.implements_):=⟨_,Tryz.func280,by kernel_rfl,by kernel_rfl,by kernel_rfl,by kernel_rfl⟩
def Xh(w:aA):(ReflectliteType.relation "Implements" ReflectliteType.implements_ #[.agg #[hT lK],rT 57]).run ag w=.ok (.bool ab) w:=by kernel_rfl
def Xi(w:aA)(es:Array Event):(ReflectliteType.relation "Implements" ReflectliteType.implements_ #[.agg #[hT lK],rT 57]).events ag w es=es:=by kernel_rfl
def aak(h:ah)(w:aA):(Go.method (Tryz.prog.types.size+Made.depth) Qb (.agg #[h]) "AssignableTo").run ag w=.ok (277,.agg #[h]) w/\∀es,(Go.method (Tryz.prog.types.size+Made.depth) Qb (.agg #[h]) "AssignableTo").events ag w es=es:=⟨by kernel_rfl,λes=>by kernel_rfl⟩
def aal:lg ag 277 (ReflectliteType.relation "AssignableTo" ReflectliteType.assignableTo):=⟨_,Tryz.func277,by kernel_rfl,by kernel_rfl,by kernel_rfl,by kernel_rfl⟩
def aam(w:aA):(ReflectliteType.relation "AssignableTo" ReflectliteType.assignableTo #[.agg #[hT lK],rT lK]).run ag w=.ok (.bool ab) w:=by kernel_rfl
def aan(w:aA)(es:Array Event):(ReflectliteType.relation "AssignableTo" ReflectliteType.assignableTo #[.agg #[hT lK],rT lK]).events ag w es=es:=by kernel_rfl
def Qh:lg ag 129 ReflectliteType.typeOf:=⟨_,Tryz.func129,by kernel_rfl,by kernel_rfl,by kernel_rfl,by kernel_rfl⟩
def Qi(v:ah)(w:aA):(ReflectliteType.typeOf #[.iface lK v]).run ag w=.ok (rT lK) w:=by kernel_rfl
def Qj(v:ah)(w:aA)(es:Array Event):(ReflectliteType.typeOf #[.iface lK v]).events ag w es=es:=by kernel_rfl
def Uk:lg ag 130 (ReflectliteValue.method (ReflectliteValue.valueError "reflectlite.Value.Elem" 0) ReflectliteValue.elem):=⟨_,Tryz.func130,by kernel_rfl,by kernel_rfl,by kernel_rfl,by kernel_rfl⟩
def HE(w:aA):(Rtype.elem? r7).run ag w=.ok (aa lK) w/\∀es,(Rtype.elem? r7).events ag w es=es:=⟨by kernel_rfl,λes=>by kernel_rfl⟩
def rMk(p:Addr)(w:aA):(ReflectliteValue.mk lK p ReflectliteValue.flagAddr).run ag w=.ok (.agg #[hT lK,.pointer (aa p),.int .u64 406]) w/\∀es,(ReflectliteValue.mk lK p ReflectliteValue.flagAddr).events ag w es=es:=⟨by kernel_rfl,λes=>by kernel_rfl⟩
def Ul(g:Nat)(p:Addr)(w:aA)(d:w.cell? ⟨g,0,af⟩=aa (.pointer (aa p))):(ReflectliteValue.method (ReflectliteValue.valueError "reflectlite.Value.Elem" 0) ReflectliteValue.elem #[vV r7 g 150]).run ag w=.ok (.agg #[hT lK,.pointer (aa p),.int .u64 406]) w /\
  ∀es,∀b∈(ReflectliteValue.method (ReflectliteValue.valueError "reflectlite.Value.Elem" 0) ReflectliteValue.elem #[vV r7 g 150]).events ag w es,b∈es∨b=⟨.cell ⟨g,0,af⟩,ae,ae⟩:=by
 have c:=Tryz.underlying62;rw[rlm];constructor
 .simp only[bT,(uL g w).1,b5];simp[ReflectliteValue.elem,loadVar,isAgg,underlying,c,d,HE,rMk]
 .intro es b a;simp only[aM,bT,(uL g w).1,(uL g w).2,b5,aP]at a;simpa[ReflectliteValue.elem,loadVar,isAgg,underlying,c,d,HE,rMk,show(Mode.plain==Mode.atomic)=ae from rfl]using a
def aao:lg ag 131 ReflectliteValue.set:=⟨_,Tryz.func131,by kernel_rfl,by kernel_rfl,by kernel_rfl,by kernel_rfl⟩
def rls(v x:ah):ReflectliteValue.set #[v,x]=(do
  let (aa (d,a,e),aa (c,b,_)):=(<-ReflectliteValue.parts v,<-ReflectliteValue.parts x)
   |unsupported (.noEntry "extern/(internal/reflectlite.Value).Set.zeroValue")
  if e / ReflectliteValue.flagAddr % 2==0 then unsupported (.noEntry "extern/(internal/reflectlite.Value).Set.unaddressable")
  let val<-loadVar c b
  if<-Rtype.directlyAssignable d c then storeVar d a val
  else if<-Rtype.implements d c then
   if(<-Rtype.kind c)==20 then
    match val with
    |.nilIface=>unsupported (.noEntry "extern/reflectlite: a nil value of one interface type handed on as a value of another")
    |_=>storeVar d a val
   else storeVar d a (.iface c val)
  else panicString ("reflectlite.Set: value of type "++(<-Rtype.spelt c)++ " is not assignable to type "++(<-Rtype.spelt d))
  pure (.tuple #[])):=rfl
def BJ(p:Addr)(w:aA):(ReflectliteValue.parts (.agg #[hT lK,.pointer (aa p),.int .u64 406])).run ag w=.ok (aa (lK,p,406)) w/\∀es,(ReflectliteValue.parts (.agg #[hT lK,.pointer (aa p),.int .u64 406])).events ag w es=es:=⟨by kernel_rfl,λes=>by kernel_rfl⟩
def BK(g:Nat)(w:aA):(ReflectliteValue.parts (vV lK g 150)).run ag w=.ok (aa (lK,⟨g,0,af⟩,150)) w/\∀es,(ReflectliteValue.parts (vV lK g 150)).events ag w es=es:=⟨by kernel_rfl,λes=>by kernel_rfl⟩
def HF(w:aA):(Rtype.directlyAssignable lK lK).run ag w=.ok ab w/\∀es,(Rtype.directlyAssignable lK lK).events ag w es=es:=⟨by kernel_rfl,λes=>by kernel_rfl⟩
def RB(w:aA):(sizeOf lK).run ag w=.ok 1 w/\∀es,(sizeOf lK).events ag w es=es:=⟨by kernel_rfl,λes=>by kernel_rfl⟩
def aap(g b:Nat)(E:aj)(w0:ah)(e:Addr)(w:aA)(l:w.heap[g]?=aa (.cells #[w0] E (0,0)))(n:w.cell? ⟨b,0,af⟩=aa (.pointer (aa e))):
  (ReflectliteValue.set #[.agg #[hT lK,.pointer (aa ⟨g,0,af⟩),.int .u64 406],vV lK b 150]).run ag w=.ok (.tuple #[]) (w.setRow g #[.pointer (aa e)]) /\
  ∀es,∀c∈(ReflectliteValue.set #[.agg #[hT lK,.pointer (aa ⟨g,0,af⟩),.int .u64 406],vV lK b 150]).events ag w es,c∈es∨c=⟨.cell ⟨b,0,af⟩,ae,ae⟩∨c=⟨.cell ⟨g,0,af⟩,ab,ae⟩:=by
 have o:=Tryz.underlying60;have i:∀w∈[Value.pointer (aa e)],w.oneCell'=ab:=λw m=>by simp at m;subst m;rfl
 have k:=run_storeCells_at ag g 0 E [.pointer (aa e)] 0 #[w0] w l (by simp) i;have a:(storeCells ⟨g,0,af⟩ [.pointer (aa e)] 0).run ag w=.ok () (w.setRow g #[.pointer (aa e)]):=k;rw[rls];constructor
 .simp only[bT,(BJ ⟨g,0,af⟩ w).1,(BK b w).1,b5];simp[ReflectliteValue.flagAddr,loadVar,isAgg,underlying,o,n,HF,storeVar,Value.cells,RB,a]
 .intro es c d;simp only[aM,bT,(BJ ⟨g,0,af⟩ w).1,(BJ ⟨g,0,af⟩ w).2,(BK b w).1,(BK b w).2,b5,aP]at d;have f:c∈(storeCells ⟨g,0,af⟩ [.pointer (aa e)] 0).events ag w (es.push ⟨.cell ⟨b,0,af⟩,ae,ae⟩):=by simpa[ReflectliteValue.flagAddr,loadVar,isAgg,underlying,o,n,HF,storeVar,Value.cells,RB,a,show(Mode.plain==Mode.atomic)=ae from rfl]using d
  rcases dN [.pointer (aa e)] 0 #[w0] w _ l (by simp) i c f with h|⟨j,p,q,rfl⟩
  .grind
  .obtain rfl:j=0:=by grind
   exact .inr (.inr rfl)
end
section
open Go.Proofs Go.Extern
variable {X:Cx ag}
abbrev GBE:aR:=.cm (dX 0 129 (rT 57))
abbrev NS(v:ah):D:=.e (.one (.c (.val v)))
abbrev Qk(t:aj)(g:Nat)(a:Int):D:=.e (.agg [.c (.val (hT t)),.c (.val (.pointer (aa ⟨g,0,af⟩))),.c (.val (.int .u64 a))])
abbrev asB(p:Addr)(g a:Nat):List aR:=[.cm (dX a r7 (.pointer (aa ⟨g,0,af⟩))),.cm (dX g lK (.pointer af))]
def RD:∀j,j<2->([0,1]:List Nat)[j]?=aa j:=by decide
def Nd(p:Addr)(g b:Nat):Ev X 80 [NS (.iface lK (.pointer (aa p))),NS (.iface r7 (.pointer (aa ⟨g,0,af⟩))),Qk r7 b 150,NS (rT lK)] (asB p g b) (dB ab) [.cm (dX b r7 (.pointer (aa ⟨g,0,af⟩))),.cm (dX g lK (.pointer (aa p)))]:=by
 refine Ev.bQ Tryz.func80 rfl λh=>?_;refine bt rfl ay ?_;refine AK.sY 3 [0,1,3,6] (λ_:Unit=>True) (λ_=>[]) (λ_=>asB p g b++[.cells 126 [.c (.val (hT r7)),.c (.val (.pointer (aa ⟨b,0,af⟩))),.c (.val (.int .u64 150))]]) (λ_=>0) () rfl ?_ rfl ?_ rfl ay λ_ _=>?_
 .simp
 .simp
 refine bt rfl ay ?_;refine AK.oY rfl rfl (ee.ED (gw.direct rfl rfl) Qh (Qi _) (Qj _) (x:=NS (rT lK)) λ_=>Rd.val rfl) λ_=>?_;refine bt rfl ay ?_;refine AK.oY rfl rfl (ee.ED (gw.invoke rfl rfl rfl (aak _)) aal aam aan (x:=dB ab) λ_=>Rd.bool) λ_=>?_;refine aX [(19,ab)] rfl (by simp) ?_;refine AK.oY rfl rfl (ee.QH 0 (u:=.pointer (aa ⟨g,0,af⟩)) rfl (gw.direct rfl rfl) Uk (λw f=>Ul b ⟨g,0,af⟩ w f) (x:=Qk lK g 406) λ_=>⟨_,rfl,Rd.val rfl,Rd.val rfl,Rd.val rfl,ay⟩) λ_=>?_;refine bt rfl ay ?_;refine AK.oY rfl rfl (ee.Kh (E:=lK) (u:=.pointer (aa p)) (v:=λa=>vV lK a 150) (x:=λa=>Qk lK a 150) (gw.direct rfl rfl) DY (F2 p) (F3 p) λa _ _=>⟨_,rfl,Rd.val rfl,Rd.val rfl,Rd.val rfl,ay⟩) λa=>?_;refine bt rfl ay ?_;refine AK.oY rfl rfl (ee.Sg 1 3 (w0:=.pointer af) (u:=.pointer (aa p)) rfl rfl (gw.direct rfl rfl) aao (λw d e=>aap g a lK _ p w d e) (x:=.fa []) λ_ _=>⟨[],rfl,ay⟩) λ_=>?_;refine bt rfl ay (AK.fQ (cw.mk [0,1] rfl ?_ rfl rfl rfl RD));simp
def HG{P:ar}{o:au}{l:aq->D}{σ:List aR}{op:BinOp}{t ty T:aj}{v:ah}{x y:aq}(h:o.op=.binOp op t x y ty){c:Bool}{u:Array (String×aj)}(q:P.underlying t=aa (.interface u))(r:l x=.e (.one (.c (.val (.iface T v)))))(z:l y=.e (.one (.c .iI)))(b:∀w,(eqGuard op t x y (.iface T v) .nilIface).run P w=.ok () w)(f:∀w es,(eqGuard op t x y (.iface T v) .nilIface).events P w es=es)(m:jm op ae=aa c):bM P o l σ (.e (.one (.c (.bool c)))) σ:=by
 refine .quiet λs p A n=>?_;have i:=n x;have j:=n y;rw[r]at i;rw[z]at j;replace i:=e9 i;replace j:=e9 j;generalize d:p x=vx at i;generalize a:p y=vy at j;cases i;cases j;have k:(Op.equal t (.iface T v) .nilIface).run P s.w=.ok ae s.w:=by show(aZ (9999+1) t _ _).run P s.w=_;unfold aZ;simp[underlying,q]
 have g:∀es,(Op.equal t (.iface T v) .nilIface).events P s.w es=es:=λes=>by show(aZ (9999+1) t _ _).events P s.w es=es;unfold aZ;simp[underlying,q]
 cases op<;>simp only[jm,reduceCtorEq,dw]at m
 .subst m;exact⟨.bool ae,by simp[aw,h,d,a,b,binOp,k],Rd.bool,by simp[aw,h,d,a,b,f,binOp,k,g]⟩
 .subst m;exact⟨.bool ab,by simp[aw,h,d,a,b,binOp,k],Rd.bool,by simp[aw,h,d,a,b,f,binOp,k,g]⟩
def Nf(p:Addr)(g:Nat):Ev X 27 [NS (.iface lK (.pointer (aa p))),NS (.iface r7 (.pointer (aa ⟨g,0,af⟩)))] [GBE,.cm (dX g lK (.pointer af))] (dB ab) [GBE,.cm (dX g lK (.pointer (aa p)))]:=by refine Ev.bQ Tryz.func27 rfl λf=>?_;refine bt rfl ay ?_;refine AK.law (HG rfl Tryz.underlying57 rfl rfl (λ_=>rfl) (λ_ _=>rfl) rfl) rfl rfl ?_;refine aX [(9,ae)] rfl (by simp) ?_;refine AK.law (HG rfl Tryz.underlying20 rfl rfl (λ_=>rfl) (λ_ _=>rfl) rfl) rfl rfl ?_;refine aX [(11,ae)] rfl (by simp) ?_;refine AK.oY rfl rfl (ee.Kh (E:=r7) (u:=.pointer (aa ⟨g,0,af⟩)) (v:=λb=>vV r7 b 150) (x:=λb=>Qk r7 b 150) (gw.direct rfl rfl) DY (F0 _) (F1 _) λb _ _=>⟨_,rfl,Rd.val rfl,Rd.val rfl,Rd.val rfl,ay⟩) λa=>?_;refine bt rfl ay ?_;refine AK.oY rfl rfl (ee.ED (gw.direct rfl rfl) Xb (Xc a) (Xd a) (x:=NS (rT r7)) λ_=>Rd.val rfl) λ_=>?_;refine bt rfl ay ?_;refine AK.oY rfl rfl (ee.ED (gw.invoke rfl rfl rfl (Rz _)) RA Qc Qd (x:=.e (.one (.c (.int .u8 22)))) λ_=>Rd.int (by simp[bD])) λ_=>?_;refine aX [(20,ae)] rfl (by simp) ?_;refine AK.oY rfl rfl (ee.QH 2 (u:=.pointer (aa ⟨g,0,af⟩)) rfl (gw.direct rfl rfl) Uf (λw d=>Ug a ⟨g,0,af⟩ w d) (x:=dB ae) λ_=>Rd.bool) λ_=>?_;refine aX [(23,ae)] rfl (by simp) ?_;refine AK.oY rfl rfl (ee.ED (gw.invoke rfl rfl rfl (Xe _)) Uh Ui Uj (x:=NS (rT lK)) λ_=>Rd.val rfl) λ_=>?_;refine bt rfl ay ?_;refine AK.oY rfl rfl (ee.ED (gw.invoke rfl rfl rfl (Rz _)) RA Qe Qg (x:=.e (.one (.c (.int .u8 22)))) λ_=>Rd.int (by simp[bD])) λ_=>?_;refine aX [(30,ab)] rfl (by simp) ?_;refine AK.one (OA.Kw tok 0 rfl rfl rfl rfl rfl rfl) rfl ?_;refine AK.oY rfl rfl (ee.ED (gw.invoke rfl rfl rfl (Xf _)) Xg Xh Xi (x:=dB ab) λ_=>Rd.bool) λ_=>?_;refine aX [(35,ae)] rfl (by simp) ?_;refine AK.cQ (Nd p g a) [2,1] rfl ?_;refine bt rfl ay (AK.dk [0,1] rfl ?_ rfl rfl rfl RD);simp
end
end Go.AM.R1
namespace Go.AM
abbrev PS(a b:Bs)(c:Bool):D:=.fa [.one (.c (.str a)),.one (.c (.str b)),.one (.c (.bool c))]
namespace R1
variable {X:Cx ag}
def yM(s:Bs)(c:Int)(h:0<=c/\c<=255):Ev X 224 [dS s,dU c] [] (dI (Lib.indexByte s (UInt8.ofNat (Int.toNat c)))) []:=by
 have e:c=((UInt8.ofNat c.toNat).toNat:Int):=by grind[UInt8.toNat_ofNat']
 grind[Bx]
def TV:dv:=λargs σ=>match args,σ with
 |[.e (.one (.c (.str a))),.e (.one (.c (.int .u8 b)))],[]=>aa (dI (Lib.indexByte a (UInt8.ofNat (Int.toNat b))),[],[0<=b/\b<=255])
 |_,_=>af
def t224:er X 224 TV:=by
 intro args σ res σ' obs h a;unfold TV at h;split at h
 .cases h;exact(yM _ _ (a)).args (λ_ _ r=>r)
 .cases h
def WR:List (Nat×dv):=(224,TV)::ct7
def MA:bL X WR:=bL.cons t224 (Z8)
def iO(s:Bs):Int:=Lib.indexByte s 47
theorem MB(s:Bs):Ev X 203 [dS s,dS [47]] [] (dI (iO s)) []:=by
 refine Ev.bQ Tryz.func203 rfl λa=>?_;by_cases h:s=[47]
 .subst h;refine aW MA [(18,ae),(22,ab)] rfl ?_ (AK.bz rfl ?_)
  .simp
  .simp[iO,Lib.indexByte.eq_def]
 .refine aW MA [(18,ae),(22,ae),(26,ab)] rfl ?_ (AK.bz rfl ?_)
  .simp[cU,cT];grind
  .simp[iO,jb]
def TX:dv:=λargs σ=>match args,σ with
 |[.e (.one (.c (.str a))),.e (.one (.c (.str [47])))],[]=>aa (dI (iO a),[],[])
 |_,_=>af
def t203:er X 203 TX:=by intro args σ res σ' obs h a;unfold TX at h;grind[MB]
def WT:List (Nat×dv):=(203,TX)::WR
def MC:bL X WT:=bL.cons t203 (MA)
def jL(s:Bs):Bs:=if 0<=iO s then s.take (iO s).toNat else s
def m9(s:Bs):Bs:=if 0<=iO s then s.drop ((iO s).toNat+1)else[]
def kz(s:Bs):Bool:=decide (0<=iO s)
theorem MD(s:Bs):Ev X 157 [dS s,dS [47]] [] (PS (jL s) (m9 s) (kz s)) []:=by
 refine Ev.bQ Tryz.func157 rfl λb=>?_;have d:=b.str 0 rfl;have a:=l3 s 47;change iO s<s.length∨iO s=-1 at a;by_cases h:0<=iO s
 .have c:(iO s+1).toNat=(iO s).toNat+1:=by omega
  refine aW MC [(12,ab)] rfl ?_ (AK.bz rfl ?_)
  .simp[h,bD];omega
  .simp[jL,m9,kz,h,sS,c]
 .refine aW MC [(12,ae)] rfl ?_ (AK.bz rfl ?_)
  .simp;omega
  .simp[jL,m9,kz,h]
def TY:dv:=λargs σ=>match args,σ with
 |[.e (.one (.c (.str a))),.e (.one (.c (.str [47])))],[]=>aa (PS (jL a) (m9 a) (kz a),[],[])
 |_,_=>af
def t157:er X 157 TY:=by intro args σ res σ' obs h a;unfold TY at h;grind[MD]
def WU:List (Nat×dv):=(157,TY)::WT
def Rs:bL X WU:=bL.cons t157 (MC)
theorem TZ(s:Bs):Ev X 119 [dS s,dS [47]] [] (PS (jL s) (m9 s) (kz s)) []:=by refine Ev.bQ Tryz.func119 rfl λa=>?_;exact b8 Rs rfl ay (AK.bz rfl)
def T1:dv:=λargs σ=>match args,σ with
 |[.e (.one (.c (.str a))),.e (.one (.c (.str [47])))],[]=>aa (PS (jL a) (m9 a) (kz a),[],[])
 |_,_=>af
def t119:er X 119 T1:=by intro args σ res σ' obs h a;unfold T1 at h;grind[TZ]
def cJ(s:Bs):Bool:=decide (s.length=1)&&decide (97<=cT s 0)&&decide (cT s 0<=101)
theorem vu(s:Bs):Ev X 120 [dS s] [] (dB (cJ s)) []:=by
 refine Ev.bQ Tryz.func120 rfl λc=>?_;by_cases b:s.length=1
 .by_cases a:97<=cT s 0
  .refine aX [(5,ab),(9,ab)] rfl ?_ (AK.bz rfl ?_)
   .simp only[az,a9];grind[cU]
   .show decide (cT s 0<=101)=cJ s;simp[cJ,b,a]
  .refine aX [(5,ab),(9,ae)] rfl ?_ (AK.bz rfl ?_)
   .simp only[az,bS];grind[cU]
   .simp[cJ,a]
 .refine aX [(5,ae)] rfl ?_ (AK.bz rfl ?_)
  .simp;omega
  .simp[cJ,b]
def T2:dv:=λargs σ=>match args,σ with
 |[.e (.one (.c (.str a)))],[]=>aa (dB (cJ a),[],[])
 |_,_=>af
def t120:er X 120 T2:=by intro args σ res σ' obs h a;unfold T2 at h;grind[vu]
def WV:List (Nat×dv):=(119,T1)::(120,T2)::WU
def Hw:bL X WV:=bL.cons t119 (bL.cons t120 (Rs))
def fp(s:Bs):Bool:=cJ (jL s)&&(!kz s||cJ (m9 s))
theorem FT(s:Bs):Ev X 68 [dS s] [] (dB (fp s)) []:=by
 refine Ev.bQ Tryz.func68 rfl λc=>?_;cases a:cJ (jL s)with
 |false =>
  refine aW Hw [(13,ae)] rfl ?_ (AK.bz rfl ?_)
  .simp[a]
  .simp[fp,a]
 |true =>
  cases b:kz s with
  |false =>
   refine aW Hw [(13,ab),(15,ae)] rfl ?_ (AK.bz rfl ?_)
   .simp[a,b]
   .simp[fp,a,b]
  |true =>
   refine aW Hw [(13,ab),(15,ab)] rfl ?_ (AK.bz rfl ?_)
   .simp[a,b]
   .simp[fp,a,b]
def Z9:dv:=λargs σ=>match args,σ with
 |[.e (.one (.c (.str a)))],[]=>aa (dB (fp a),[],[])
 |_,_=>af
def t68:er X 68 Z9:=by intro args σ res σ' obs h a;unfold Z9 at h;grind[FT]
theorem DK(s:Bs):Ev X 121 [dS s] [] (dB (cj s)) []:=by
 refine Ev.bQ Tryz.func121 rfl λe=>?_;have f:=e.str 0 rfl;refine bt rfl ay ?_;refine AK.kg (λi=>i<=s.length/\∀j,j<i->eZ (s.getD j 0)=ab) (λi:Nat=>[(0,dS s),(5,dI s.length),(6,dI i)]) (λ_=>[]) (λi=>s.length-i) 0 rfl ?_ rfl ay ⟨by omega,by omega⟩ ?_
 .simp
 rintro i ⟨hi,c⟩;by_cases h:i<s.length
 .generalize a:s.getD i 0=b;by_cases g:b.toNat<97
  .refine aX [(7,ab),(12,ab)] rfl ?_ (AK.ir (cw.zero rfl ?_))
   .simp only[az,kQ,a9,a];omega
   .rw[az,kY h (by rw[a];simp only[eZ,qc,bS];omega)]
  .by_cases k:b.toNat>122
   .refine aX [(7,ab),(12,ae),(17,ab)] rfl ?_ (AK.ir (cw.zero rfl ?_))
    .simp only[az,kQ,a9,bS,a];omega
    .rw[az,kY h (by rw[a];simp only[eZ,qc,bS];omega)]
   .refine aX [(7,ab),(12,ae),(17,ae)] rfl ?_ (AK.gb (i+1) rfl ?_ rfl ay ?_ ?_)
    .simp only[az,kQ,a9,bS,a,bD];omega
    .simp
    .refine⟨by omega,λj d=>?_⟩;rcases vC.1 d with d|rfl
     .grind
     .rw[a];simp only[eZ,bR,a9];omega
    .omega
 .refine aX [(7,ae)] rfl (by simp;omega) (AK.leave rfl rfl ?_);refine bt rfl ay (AK.bz rfl ?_);rw[az,tz (λj d=>c j (by omega))]
def T3:dv:=λargs σ=>match args,σ with
 |[.e (.one (.c (.str a)))],[]=>aa (dB (cj a),[],[])
 |_,_=>af
def t121:er X 121 T3:=by intro args σ res σ' obs h a;unfold T3 at h;grind[DK]
def WW:List (Nat×dv):=(68,Z9)::(121,T3)::WV
def ME:bL X WW:=bL.cons t68 (bL.cons t121 (Hw))
theorem xK(s:Bs):Ev X 69 [dS s] [] (dB (et s)) []:=by
 refine Ev.bQ Tryz.func69 rfl λb=>?_;by_cases a:s.length<=40
 .refine aW ME [(5,ab)] rfl ?_ (AK.bz rfl ?_)
  .simp;omega
  .simp[et,a]
 .refine aW ME [(5,ae)] rfl ?_ (AK.bz rfl ?_)
  .simp;omega
  .simp[et,a]
def c69:dv:=λargs σ=>match args,σ with
 |[.e (.one (.c (.str a)))],[]=>aa (dB (et a),[],[])
 |_,_=>af
def t69:er X 69 c69:=by intro args σ res σ' obs h a;unfold c69 at h;grind[xK]
def lG(s p:Bs):Bool:=decide (p.length<=s.length)&&(s.take p.length==p)
theorem DL(s p:Bs):Ev X 123 [dS s,dS p] [] (dB (lG s p)) []:=by
 refine Ev.bQ Tryz.func123 rfl λb=>?_;by_cases a:p.length<=s.length
 .refine aX [(9,ab)] rfl ?_ (AK.bz rfl ?_)
  .simp[a]
  .simp[lG,a,sS]
 .refine aX [(9,ae)] rfl ?_ (AK.bz rfl ?_)
  .simp;omega
  .simp[lG,a]
def T4:dv:=λargs σ=>match args,σ with
 |[.e (.one (.c (.str a))),.e (.one (.c (.str b)))],[]=>aa (dB (lG a b),[],[])
 |_,_=>af
def t123:er X 123 T4:=by intro args σ res σ' obs h a;unfold T4 at h;grind[DL]
def WX:List (Nat×dv):=(69,c69)::(123,T4)::WW
def Rt:bL X WX:=bL.cons t69 (bL.cons t123 (ME))
theorem I8(s p:Bs):Ev X 72 [dS s,dS p] [] (dB (lG s p)) []:=by refine Ev.bQ Tryz.func72 rfl λa=>?_;exact b8 Rt rfl ay (AK.bz rfl)
def c72:dv:=λargs σ=>match args,σ with
 |[.e (.one (.c (.str a))),.e (.one (.c (.str b)))],[]=>aa (dB (lG a b),[],[])
 |_,_=>af
def t72:er X 72 c72:=by intro args σ res σ' obs h a;unfold c72 at h;grind[I8]
def WY:List (Nat×dv):=(72,c72)::WX
def Ru:bL X WY:=bL.cons t72 (Rt)
end R1
def mI.MF{α:Type}(c:mI α)(l:List α)(k n:Nat)(h:k+n<=l.length):c.list n (mf k (c.fn l))=(l.drop k).take n:=by
 apply sk
 .simp[mI.list];omega
 .intro i h1 h2;have hi:i<n:=by grind
  simp[mI.list,mf,mI.fn,Bd,ak,br (by omega:k+i<l.length),c.inv]
def mI.MG{α:Type}(c:mI α)(l:List α){k n:Nat}:c.fits n (mf k (c.fn l)):=λi _=>by simp[mf,mI.fn,Bd,c.inv]
abbrev dR(p x:Bs):D:=.e (.one (.c (.rp [.str p,.str x])))
namespace R1
variable {X:Cx ag}
def under(p q:Bs):Bool:=lG p (q++[47])
def MH(a:bw)(p x:Bs)(h:a.1.length<=4000000):Ev X 71 [dP a,dR p x] [] (dB (under p a.1)) []:=by
 refine Ev.bQ Tryz.func71 rfl λb=>?_;refine b8 Ru rfl ?_ (AK.bz rfl ?_)
 .simp;omega
 .simp[under]
def c71:dv:=λargs σ=>match args,σ with
 |[.e (.agg [.c (.str a0),.c (.str a1)]),.e (.one (.c (.rp [.str p,.str x])))],[]=>aa (dB (under p a0),[],[a0.length<=4000000/\a1=a1/\x=x])
 |_,_=>af
def t71:er X 71 c71:=by
 intro args σ res σ' obs h b;unfold c71 at h;split at h
 .rename_i c a p x;cases h;exact MH (c,a) p x b.1
 grind
def WZ:List (Nat×dv):=(71,c71)::WY
def zF:bL X WZ:=bL.cons t71 (Ru)
abbrev MI(p x:Bs):D:=.e (.one (.c (.fn (.func 71) [] [.rp [.str p,.str x]])))
def vv(t:List bw)(p:Bs):Int:=match t.findIdx? (λf=>under p f.1)with|some i=>i|none=>-1
def PT{t:List bw}{p:Bs}{i:Nat}(hi:i<t.length)(h:under p (fE t i)=ab)(a:∀j,j<i->under p (fE t j)=ae):vv t p=i:=by
 have:t.findIdx? (λf=>under p f.1)=aa i:=by grind[List.findIdx?_eq_some_iff_getElem,fileAt]
 rw[vv,this]
theorem zG{t:List bw}{p:Bs}(a:∀j,j<t.length->under p (fE t j)=ae):vv t p=-1:=by
 have:t.findIdx? (λf=>under p f.1)=af:=by grind[List.getElem_of_mem,fileAt]
 rw[vv,this]
def PU(t:List bw)(p x:Bs)(f:∀j,j<t.length->(fE t j).length<=4000000):Ev X 122 [cF.sl t,MI p x] [] (dI (vv t p)) []:=by
 refine Ev.bQ Tryz.func122 rfl λd=>?_;have c:=d.sl 0 rfl;refine b8 zF rfl ay ?_;refine AK.kg (λi=>i<=t.length/\∀j,j<i->under p (fE t j)=ae) (λi:Nat=>[(0,cF.sl t),(1,MI p x),(7,dI t.length),(8,dI i)]) (λ_=>[]) (λi=>t.length-i) 0 rfl ?_ rfl ay ⟨by omega,by omega⟩ ?_
 .simp
 rintro i ⟨hi,a⟩;by_cases h:i<t.length
 .have e:=f i h;cases b:under p (fE t i)with
  |true =>
   refine aW zF [(9,ab),(16,ab)] rfl ?_ (AK.ir (cw.zero rfl ?_))
   .simp[-ak,h,gT,b];omega
   .simp[PT h b a]
  |false =>
   refine aW zF [(9,ab),(16,ae)] rfl ?_ (AK.gb (i+1) rfl ?_ rfl ay ?_ ?_)
   .simp[-ak,h,gT,b,bD];omega
   .simp
   .grind
   .omega
 .refine aW zF [(9,ae)] rfl (by simp;omega) (AK.leave rfl rfl ?_);refine b8 zF rfl ay (AK.bz rfl ?_);simp[zG (λj g=>a j (by omega))]
def By(t:List bw):Prop:=∀j,j<t.length->(fE t j).length<=4000000
def T5:dv:=λargs σ=>match args,σ with
 |[d,.e (.one (.c (.fn (.func 71) [] [.rp [.str p,.str x]])))],[]=>match ky 2 d with
  |none=>af
  |some (n,es)=>aa (dI (vv (cF.list n es) p),[],[cF.fits n es,By (cF.list n es),x=x])
 |_,_=>af
def t122:er X 122 T5:=by
 intro args σ res σ' obs h a;unfold T5 at h;split at h
 .rename_i d p x;split at h
  .cases h
  rename_i n es hd;cases h;exact(PU _ p x a.2.1).args (λ_ vs=>cp.imp (λ_=>cF.jH hd a.1) (cp.imp (λ_ r=>r) (λ_ r=>r)) vs)
 grind
def W0:List (Nat×dv):=(122,T5)::WZ
def Rv:bL X W0:=bL.cons t122 (zF)
def PV(t:List bw)(p x:Bs)(a:By t):Ev X 70 [cF.sl t,MI p x] [] (dB (decide (0<=vv t p))) []:=by
 refine Ev.bQ Tryz.func70 rfl λb=>?_;refine b8 Rv rfl ?_ (AK.bz rfl ?_)
 .simp[cF.aO,cF.list_fn,a]
 .simp[cF.list_fn]
def c70:dv:=λargs σ=>match args,σ with
 |[d,.e (.one (.c (.fn (.func 71) [] [.rp [.str p,.str x]])))],[]=>match ky 2 d with
  |none=>af
  |some (n,es)=>aa (dB (decide (0<=vv (cF.list n es) p)),[],[cF.fits n es,By (cF.list n es),x=x])
 |_,_=>af
def t70:er X 70 c70:=by
 intro args σ res σ' obs h a;unfold c70 at h;split at h
 .rename_i d p x;split at h
  .cases h
  rename_i n es hd;cases h;exact(PV _ p x a.2.1).args (λ_ vs=>cp.imp (λ_=>cF.jH hd a.1) (cp.imp (λ_ r=>r) (λ_ r=>r)) vs)
 grind
def aae:List (Nat×dv):=(70,c70)::W0
def rr:bL X aae:=bL.cons t70 (Rv)
def ju(t:List bw)(i:Nat):Bool :=
 fp (fE t i)&&et (tK t i)&&(i==0||!(bm (fE t i) (fE t (i-1))||fE t i==fE t (i-1)))&&(bh i).all λj=>!under (fE t i) (fE t j)
def na(t:List bw):Bool:=(bh t.length).all (ju t)&&decide (t.length<=6)
def kZ{t:List bw}{i:Nat}(hi:i<t.length)(h:ju t i=ae):na t=ae:=by
 cases a:na t with
 |false=>rfl
 |true =>
  simp only[na,bR]at a;grind
theorem u4{s:Bs}(h:fp s=ab):s.length<=3:=by
 simp only[fp,cJ,bR,jU,a9,jQ]at h;obtain⟨⟨⟨d,_⟩,_⟩,a⟩:=h;have c:=l3 s 47;change iO s<s.length∨iO s=-1 at c;by_cases b:0<=iO s
 .simp only[jL,b,cq,List.length_take]at d;rcases a with a|a
  .simp[kz,b]at a
  .have:=a.1.1;simp only[m9,b,cq,si]at this;omega
 .simp only[jL,b,ck]at d;omega
def FU{t:List bw}{p:Bs}{i:Nat}(hi:i<=t.length):decide (0<=vv (t.take i) p)=!(bh i).all λj=>!under p (fE t j):=by
 have e:∀j,j<i->fE (t.take i) j=fE t j:=by intro j c;simp[fE,ak,c]
 cases g:(bh i).all λj=>!under p (fE t j)with
 |true =>
  grind[zG]
 |false =>
  have b:∃j,j<i/\under p (fE t j)=ab:=by grind
  have:∃k:Nat,vv (t.take i) p=k:=by
   unfold vv;cases d:(t.take i).findIdx? (λf=>under p f.1)with
   |some k=>grind
   |none =>
    obtain⟨j,c,h⟩:=b;rw[zW]at d;have a:j<(t.take i).length:=by grind
    have:=d _ (sj a);grind[fileAt]
  grind
def xL(t:List bw):Ev X 25 [cF.sl t] [] (dB (na t)) []:=by
 refine Ev.bQ Tryz.func25 rfl λw=>?_;have q:=w.sl 0 rfl;refine b8 rr rfl ay ?_;refine AK.cE 0 (λi=>i<=t.length/\∀j,j<i->ju t j=ab) (λi:Nat=>[(0,cF.sl t),(5,cF.sl t),(6,dI t.length),(7,dI i)]) (λ_=>[]) (λi=>t.length-i) 0 rfl ?_ rfl ay rfl ⟨by omega,by omega⟩ ?_
 .simp
 rintro i ⟨hi,k⟩;by_cases h:i<t.length
 .cases d:fp (fE t i)with
  |false =>
   refine bn rr [(8,ab),(14,ae)] rfl ?_ (AK.fQ (cw.zero rfl ?_))
   .simp[-ak,h,gT,d]
   .simp[az,kZ h (by simp[ju,d])]
  |true =>
   cases f:et (tK t i)with
   |false =>
    refine bn rr [(8,ab),(14,ab),(19,ae)] rfl ?_ (AK.fQ (cw.zero rfl ?_))
    .simp[-ak,h,gT,pZ,d,f]
    .simp[az,kZ h (by simp[ju,f])]
   |true =>
    have x:By (t.take i):=by
     intro j v;simp only[List.length_take]at v;have e:fE (t.take i) j=fE t j:=by simp[fE,ak,(by omega:j<i)]
     rw[e];have:=k j (by omega);simp only[ju,bR]at this;grind[u4]
    have y:cF.list ((i:Int).toNat-0) (mf 0 (cF.fn t))=t.take i:=by rw[cF.MF t 0 _ (by grind)];simp
    cases u:(i==0||!(bm (fE t i) (fE t (i-1))||fE t i==fE t (i-1)))with
    |false =>
     have a:ju t i=ae:=by simp only[ju,u];simp
     have n:i≠0:=by grind
     have o:(bm (fE t i) (fE t (i-1))||fE t i==fE t (i-1))=ab:=by grind
     have b:bD .i64 ((i:Int)-1):=by simp only[bD];omega
     have m:((i:Int)-1).toNat=i-1:=by omega
     refine bn rr [(8,ab),(14,ab),(19,ab),(24,ab),(34,ab)] rfl ?_ (AK.fQ (cw.zero rfl ?_))
     .simp only[az,gT,pZ,cf,m,o,d,f,a9,b];grind
     .simp[kZ h a]
    |true =>
     have a:ju t i=(bh i).all λj=>!under (fE t i) (fE t j):=by simp only[ju,u,d,f];simp
     apply AK.join [(0,cF.sl t),(3,dI i),(5,cF.sl t),(6,dI t.length),(7,dI i),(4,.e (.one (.ptr 0 0)))] [.cells 82 [.c (.str (fE t i)),.c (.str (tK t i))]]
     .intro hk;by_cases n:i=0
      .refine bn rr [(8,ab),(14,ab),(19,ab),(24,ae),(1000006,ab)] rfl ?_ (hk _ _ rfl ?_)
       .simp only[az,gT,pZ,cf,d,f,a9,bS];grind
       .simp
      .have o:(bm (fE t i) (fE t (i-1))||fE t i==fE t (i-1))=ae:=by grind
       have b:bD .i64 ((i:Int)-1):=by simp only[bD];omega
       have m:((i:Int)-1).toNat=i-1:=by omega
       refine bn rr [(8,ab),(14,ab),(19,ab),(24,ab),(34,ae),(1000006,ab)] rfl ?_ (hk _ _ rfl ?_)
       .simp only[az,gT,pZ,cf,m,o,d,f,a9,b];grind
       .simp
     .refine AK.freeze 4 0 rfl rfl rfl ?_;have r:=FU (t:=t) (p:=fE t i) (i:=i) hi;have g:cF.fits ((i:Int).toNat-0) (mf 0 (cF.fn t)):=cF.MG t;cases s:(bh i).all λj=>!under (fE t i) (fE t j)with
      |false =>
       rw[s]at r a;refine bn rr [(41,ab)] rfl ?_ (AK.fQ (cw.zero rfl ?_))
       .simp only[az,dj];grind
       .simp[kZ h a]
      |true =>
       rw[s]at r a;refine bn rr [(41,ae)] rfl ?_ (AK.aQ (i+1) rfl ?_ ?_ ?_ ?_)
       .simp only[az,dj];have l:decide (0<=vv (cF.list ((i:Int).toNat-0) (mf 0 (cF.fn t))) (fE t i))=ae:=by grind
        exact⟨by simp only[bD];omega,g,by grind,ay,l,by omega,by omega⟩
       .simp
       .trivial
       .grind
       .omega
 .have:i=t.length:=by omega
  subst this;refine aW rr [(8,ae)] rfl (by simp) (AK.leaveD rfl rfl ?_);refine b8 rr rfl ay (AK.bz rfl ?_);simp only[az,na];grind
def W1:dv:=λargs σ=>match args,σ with
 |[c],[]=>match ky 2 c with
  |none=>af
  |some (a,b)=>aa (dB (na (cF.list a b)),[],[cF.fits a b])
 |_,_=>af
def t25:er X 25 W1:=by
 intro args σ res σ' obs h b;unfold W1 at h;split at h
 .split at h
  .cases h
  rename_i c d a;cases h;exact(xL _ ).args (λ_ vs=>cp.imp (λ_=>cF.jH a b) (λ_ r=>r) vs)
 grind
end R1
def cp.bs{σ σ':List aR}{s:St}(h:∀(v:ah)(d:D),dt σ s v d->dt σ' s v d):∀{vs:List ah}{ds:List D},cp σ s vs ds->cp σ' s vs ds
 |[],[],_=>trivial
 |[],_::_,r=>r.elim
 |_::_,[],r=>r.elim
 |_::_,_::_,r=>⟨h _ _ r.1,cp.bs h r.2⟩
def Ev.more{P:ar}{X:Cx P}{f:aJ}{args Dz:List D}{σ σ0 σ':List aR}{res:D}(h:Ev X f args σ res σ')(g:∀s vs,cp σ s vs Dz->cp σ s vs args){ps:List Prop}(e:ph σ0 σ=aa ps)(i:az ps):Ev X f Dz σ0 res σ' :=
 ⟨h.1,λs vs hr hh S cs hS=>by obtain⟨h1,h2,j⟩:=gD e i s hh;exact h.2 s vs (g s vs (hr.bs j)) h1 S cs λfr v s' a b c d=>hS fr v s' a b c ((h2.nF hh).trans d)⟩
def OA.UG{P:ar}{X:Cx P}{N:Nat}{all:List au}{o:au}{φ:Fr}{σ σ':List aR}{x:D}(h:mW (ι:=Unit) X N all o φ σ (λ_=>x) (λ_=>σ')):OA X N all o φ σ x σ' :=
 λs a f hh b k cs S i rest hb hi hK=>h s a f hh b k cs S i rest hb hi λ_=>hK
namespace R1
variable {X:Cx ag}
abbrev BX(l:List (Int×Int)):aR:=.vec 91 2 l.length (cH.fn l)
abbrev JB(l:List (Int×Int)):D:=.e (.one (.vec 0 2 l.length (cH.fn l)))
def lsS(L:List (Int×Int))(B M R:aR)(a b c _:Bool):List aR:=match c with
 |true=>[R]
 |false=>match b with
  |true=>[M]
  |false=>match a with
   |true=>[B]
   |false=>[BX L]
def BM:∀(t:Tr)(l:List (Int×Int)),l.length+t.list.length<=4000000->Ev X 48 [.e (.one (.c (tC t))),JB l] [BX l] (JB (l++t.list)) [BX (l++t.list)]
 |.nil,l,_=>by refine Ev.bQ Tryz.func48 rfl λg=>?_;refine bt rfl ay ?_;refine AK.law (rP rfl Tryz.underlying85 rfl rfl rfl) rfl rfl ?_;refine bt rfl ay ?_;rw[show l++Tr.nil.list=l from iD l];exact AK.dk [0] rfl ⟨rfl,cA.same⟩ rfl rfl rfl kq
 |.nd lt x y rt,l,h=>by
  have j:(Tr.nd lt x y rt).list=lt.list++(x,y)::rt.list:=rfl;have n:l.length+lt.list.length+(rt.list.length+1)<=4000000:=by grind
  have f:=BM lt l (by omega);have i2:=BM rt (l++lt.list++[(x,y)]) (by grind);have d:=cH.cy (l++lt.list) (x,y);have i3:Ev X 48 [.e (.one (.c (tC rt))),.e (.one (.vec 0 2 ((l++lt.list).length+1) (cK (l++lt.list).length (cH.fn (l++lt.list)) λi=>([[.int .i64 x,.int .i64 y]]:List (List C)).getD i [])))] [.vec 91 2 ((l++lt.list).length+1) (cK (l++lt.list).length (cH.fn (l++lt.list)) λi=>([[.int .i64 x,.int .i64 y]]:List (List C)).getD i [])] (JB (l++(Tr.nd lt x y rt).list)) [BX (l++(Tr.nd lt x y rt).list)]:=by
   rw[j,show l++(lt.list++(x,y)::rt.list)=l++lt.list++[(x,y)]++rt.list by simp];refine i2.more (λs vs r=>?_) rfl (az.cat.2 ⟨⟨by grind,d⟩,ay⟩)
   match vs,r with
   |[_,_],⟨k,o,m⟩=>exact⟨k,oE rfl (show az [_,_]from⟨by grind,d⟩) o,m⟩
  have NH:((l++lt.list).length+1)*i91.bytes<=140737488355328:=by rw[show i91.bytes=16 from rfl,cX];omega
  clear i2 d n h;generalize l++(Tr.nd lt x y rt).list=R at *;generalize l++lt.list=B at *;have a:bL X []:=bL.nil;refine Ev.bQ Tryz.func48 rfl λg=>?_;refine bt rfl ay ?_;refine AK.law (zg rfl Tryz.underlying85 rfl rfl rfl) rfl rfl ?_;refine aX [(1000003,ab)] rfl ay ?_;let xs:Nat->D:=λi=>([.e (.one (.c (tC (.nd lt x y rt)))),.e (.one (.c (tC (.nd lt x y rt)))),.e (.one (.c (.rp [tC rt]))),.e (.one (.c (tC rt))),.e (.one (.c (tC (.nd lt x y rt)))),.e (.one (.c (tC (.nd lt x y rt)))),.e (.one (.c (.rp [tC lt,tC rt]))),.e (.one (.c (tC lt))),JB l,JB B,.e (.one (.c (tC (.nd lt x y rt)))),.e (.one (.c (tC (.nd lt x y rt)))),.e (.one (.c (tC (.nd lt x y rt)))),P6 x y,.e (.one (.c (.sl ab 2 1 λi=>([[.int .i64 x,.int .i64 y]]:List (List C)).getD i []))),.e (.one (.vec 0 2 (B.length+1) (cK B.length (cH.fn B) λi=>([[.int .i64 x,.int .i64 y]]:List (List C)).getD i []))),JB R,JB R]:List D).getD i .any
  cases lt<;>cases rt<;>(
   refine AK.flags jk xs (pJ (lsS l (BX B) (.vec 91 2 (B.length+1) (cK B.length (cH.fn B) λi=>([[.int .i64 x,.int .i64 y]]:List (List C)).getD i [])) (BX R)) 9 15 16 17) rfl rfl rfl rfl ⟨
   .qX tok a,
   .qX tok a,
   .qX tok a,
   .qX tok a,
   .qX tok a,
   .qX tok a,
   .qX tok a,
   .qX tok a,
   .qX tok a,
   eh.c1 rfl rfl rfl rfl rfl rfl (OA.UG (mW.j4 f.tQ [0] rfl rfl rfl rfl (by simp) rfl rfl rfl (λ_=>rfl) rfl (λ_=>rfl))),
   .qX tok a,
   .qX tok a,
   .qX tok a,
   .qX tok a,
   .qX tok a,
   eh.c2 rfl rfl rfl rfl rfl rfl (gL (ds:=[]) tok a (σ':=aa _) rfl ⟨rfl,rfl,NH⟩),
   eh.c3 rfl rfl rfl rfl rfl rfl (OA.UG (mW.j4 i3.tQ [0] rfl rfl rfl rfl (by simp) rfl rfl rfl (λ_=>rfl) rfl (λ_=>rfl))),
   eh.c4 rfl rfl rfl rfl rfl rfl (OA.cZ tok a rfl),ay⟩ ?_
   intro D b;show AK X _ _ _ _ _ (lsS l (BX B) _ (BX R) (D 9) (D 15) (D 16) (D 17));rw[b 9 (by decide),b 15 (by decide),b 16 (by decide),b 17 (by decide)]
   exact AK.dk [0] rfl ⟨rfl,cA.same⟩ rfl rfl rfl kq)
abbrev Xk:D:=.e (.one (.c (.sl ab 2 0 λ_=>[])))
def lsN(B M R:aR)(a b c _:Bool):List aR:=match c with
 |true=>[R]
 |false=>match b with
  |true=>[M]
  |false=>match a with
   |true=>[B]
   |false=>[]
def DZ:∀(t:Tr),t.list.length<=4000000->Ev X 48 [.e (.one (.c (tC t))),Xk] [] (JB t.list) [BX t.list]
 |.nil,_=>by refine Ev.bQ Tryz.func48 rfl λj=>?_;refine bt rfl ay ?_;refine AK.law (rP rfl Tryz.underlying85 rfl rfl rfl) rfl rfl ?_;refine bt rfl ay ?_;refine AK.iM 4 91 2 rfl rfl ?_;refine AK.norm [BX []] rfl (by simp) ?_;exact AK.dk [0] rfl (by simp;rfl) rfl rfl rfl (MX _)
 |.nd lt x y rt,h=>by
  have f:(Tr.nd lt x y rt).list=lt.list++(x,y)::rt.list:=rfl;have m:lt.list.length+(rt.list.length+1)<=4000000:=by grind
  have g:=DZ lt (by omega);have i2:=BM (X:=X) rt (lt.list++[(x,y)]) (by grind);have d:=cH.cy lt.list (x,y);have i3:Ev X 48 [.e (.one (.c (tC rt))),.e (.one (.vec 0 2 (lt.list.length+1) (cK lt.list.length (cH.fn lt.list) λi=>([[.int .i64 x,.int .i64 y]]:List (List C)).getD i [])))] [.vec 91 2 (lt.list.length+1) (cK lt.list.length (cH.fn lt.list) λi=>([[.int .i64 x,.int .i64 y]]:List (List C)).getD i [])] (JB (Tr.nd lt x y rt).list) [BX (Tr.nd lt x y rt).list]:=by
   rw[f,show lt.list++(x,y)::rt.list=lt.list++[(x,y)]++rt.list by simp];refine i2.more (λs vs r=>?_) rfl (az.cat.2 ⟨⟨by simp,d⟩,ay⟩)
   match vs,r with
   |[_,_],⟨k,n,l⟩=>exact⟨k,oE rfl (show az [_,_]from⟨by simp,d⟩) n,l⟩
  have NH:(lt.list.length+1)*i91.bytes<=140737488355328:=by rw[show i91.bytes=16 from rfl];omega
  clear i2 d m h;clear f;generalize(Tr.nd lt x y rt).list=R at *;generalize lt.list=B at *;have a:bL X []:=bL.nil;refine Ev.bQ Tryz.func48 rfl λj=>?_;refine bt rfl ay ?_;refine AK.law (zg rfl Tryz.underlying85 rfl rfl rfl) rfl rfl ?_;refine aX [(1000003,ab)] rfl ay ?_;let xs:Nat->D:=λi=>([.e (.one (.c (tC (.nd lt x y rt)))),.e (.one (.c (tC (.nd lt x y rt)))),.e (.one (.c (.rp [tC rt]))),.e (.one (.c (tC rt))),.e (.one (.c (tC (.nd lt x y rt)))),.e (.one (.c (tC (.nd lt x y rt)))),.e (.one (.c (.rp [tC lt,tC rt]))),.e (.one (.c (tC lt))),Xk,JB B,.e (.one (.c (tC (.nd lt x y rt)))),.e (.one (.c (tC (.nd lt x y rt)))),.e (.one (.c (tC (.nd lt x y rt)))),P6 x y,.e (.one (.c (.sl ab 2 1 λi=>([[.int .i64 x,.int .i64 y]]:List (List C)).getD i []))),.e (.one (.vec 0 2 (B.length+1) (cK B.length (cH.fn B) λi=>([[.int .i64 x,.int .i64 y]]:List (List C)).getD i []))),JB R,JB R]:List D).getD i .any
  cases lt<;>cases rt<;>(
   refine AK.flags jk xs (pJ (lsN (BX B) (.vec 91 2 (B.length+1) (cK B.length (cH.fn B) λi=>([[.int .i64 x,.int .i64 y]]:List (List C)).getD i [])) (BX R)) 9 15 16 17) rfl rfl rfl rfl ⟨
   .qX tok a,
   .qX tok a,
   .qX tok a,
   .qX tok a,
   .qX tok a,
   .qX tok a,
   .qX tok a,
   .qX tok a,
   .qX tok a,
   eh.c1 rfl rfl rfl rfl rfl rfl (OA.UG (mW.j4 g.tQ [] rfl rfl rfl rfl (by simp) rfl rfl rfl (λ_=>rfl) rfl (λ_=>rfl))),
   .qX tok a,
   .qX tok a,
   .qX tok a,
   .qX tok a,
   .qX tok a,
   eh.c2 rfl rfl rfl rfl rfl rfl (gL (ds:=[]) tok a (σ':=aa _) rfl ⟨rfl,rfl,NH⟩),
   eh.c3 rfl rfl rfl rfl rfl rfl (OA.UG (mW.j4 i3.tQ [0] rfl rfl rfl rfl (by simp) rfl rfl rfl (λ_=>rfl) rfl (λ_=>rfl))),
   eh.c4 rfl rfl rfl rfl rfl rfl (OA.cZ tok a rfl),ay⟩ ?_
   intro D b;show AK X _ _ _ _ _ (lsN (BX B) _ (BX R) (D 9) (D 15) (D 16) (D 17));rw[b 9 (by decide),b 15 (by decide),b 16 (by decide),b 17 (by decide)]
   exact AK.dk [0] rfl ⟨rfl,cA.same⟩ rfl rfl rfl (MX _))
end R1
section
open Go.Conc
def aF.V7{σ:List aR}{s:St}(hh:aF σ s){l:Nat}{B:aR}{L:Loc}(hB:σ[l]?=aa B)(k:s.β[l]?=aa L)(hk:(∃E cs,B=.cells E cs)∨∃H,B=.cm H):
  aF (σ.set l .dead) {s with β:=s.β.set l ⟨L.v,[]⟩}/\Step σ s (σ.set l .dead) {s with β:=s.β.set l ⟨L.v,[]⟩}:=by
 have j:l<σ.length:=(b6.1 hB).1;have f:l<s.β.length:=(b6.1 k).1;have d:∀l',(s.β.set l ⟨L.v,[]⟩)[l']?=if l=l' then aa ⟨L.v,[]⟩else s.β[l']?:=by grind
 have a:∀L'∈s.β.set l ⟨L.v,[]⟩,∀b∈L'.bs,L'∈s.β:=by grind
 have st:Step σ s (σ.set l .dead) {s with β:=s.β.set l ⟨L.v,[]⟩}:=by
  refine⟨bc _,λ_ _ _=>rfl,λ_ _ _ h=>h,λ_ _ _ _=>rfl,λL' fA b c=>.inr ⟨L',a L' fA b c,c⟩,?_,rfl,rfl,rfl,rfl⟩;intro l' B' L' kv fA;by_cases e:l=l'
  .subst e;rw[hB]at kv;cases kv;rw[k]at fA;cases fA;refine⟨.dead,⟨L.v,[]⟩,by grind,by grind,?_⟩;rcases hk with⟨E,cs,rfl⟩|⟨H,rfl⟩<;>rfl
  .exact⟨B',L',by grind,by grind,.refl _ _⟩
 refine⟨⟨hh.mem,by simp[hh.len],?_,?_,λL' fA b c=>hh.lt L' (a L' fA b c) b c,λb c=>⟨(hh.own b c).1,λL' fA B8=>(hh.own b c).2 L' (a L' fA b B8) B8⟩⟩,st⟩
 .intro l' B' L' kv fA;by_cases e:l=l'
  .subst e;rw[gn j]at kv;cases kv;trivial
  .rw[kC e]at kv;rw[d,aY e]at fA;exact(hh.box l' B' L' kv fA).carry st.ext hh.len λb c=>⟨rfl,λo=>rfl⟩
 .intro m n L1 L2 h1 h2 b i g;rw[d]at h1 h2;split at h1
  .grind
  .split at h2
   .grind
   .exact hh.eO m n L1 L2 h1 h2 b i g
def dt.closed{σ σ':List aR}{s s':St}(c:s'.M=s.M){v:ah}{d:D}(h:dt σ s v d)(a:wD 0 d=ab):dt σ' s' v d:=by have h1:=dt.drop (σ1:=[]) (rest:=σ) h a;refine dt.mono (σ:=[]) (s:=s.cut 0) ⟨λb o v e=>by rw[c];exact e,λl B L hB _=>by grind⟩ (by simp[St.cut]) h1
end
end Go.AM
namespace Go.AM.R1
section
variable {X:Cx ag}
def g9(t:Bs):List Bs:=if et t then pieces t else[]
def Q5(t:Bs)(f:Nat)(acc:List Bs):Prop:=∃k,eT t t.length 0=acc++eT t k f/\t.length<=f+k/\acc.length<=f
def G7:er X 69 (kL aS (λs=>dB (et s)) λ_=>[]):=.pS λs _=>xK s
def Lq:dv:=λargs σ=>match args,σ with
 |[.e (.one (.c (.str t)))],[]=>aa (.e (.one (.c (Q4 t))),[],[])
 |_,_=>af
def S4:er X 91 Lq:=by intro args σ res σ' obs h a;unfold Lq at h;grind[Pa]
def Iu(t:Bs):Ev X 43 [dS t] [] (cS.sl (g9 t)) []:=by
 refine(ef.AH (ι:=Unit) (σ':=λ_=>[]) (res:=λ_=>cS.sl (g9 t)) Tryz.func43 rfl rfl rfl λq=>?_).Cg;have m:bL X [(69,kL aS (λs=>dB (et s)) λ_=>[])]:=.cons G7 .nil;refine jO.seq (AW.top (AK.of_code ?_));refine b8 m rfl ay ?_;refine jO.seq (AW.top (AK.of_code ?_));cases g:et t with
 |false =>
  refine aW m [(8,ab)] rfl ?_ (AK.ret ⟨(),cw.zero rfl ?_⟩)
  .simp[g]
  .simp[g9,g]
 |true =>
  have d:=g;simp only[et,bR,a9]at d;refine aW m [(8,ae)] rfl ?_ ?_
  .simp[g]
  refine jO.seq (AW.top (AK.of_code ?_));refine b8 m rfl ay ?_;refine jO.seq (jO.seq (AW.top (AK.of_code (AK.hZ 1 0 9 1 (cS.fn []) rfl rfl ?_))));refine b8 (.cons S4 .nil) rfl ay ?_;refine jO.block ?_;refine jO.rangeFunc (capD:=fP [.rp [.str t]]) (cu.callee rfl) (Is (T:=List Bs) t d.2 (by omega) (λ_=>.cells 9 [.c (.str t)]) (λacc=>.cells 36 [.vec 2 1 acc.length (cS.fn acc)]) (λacc=>.vec 9 1 acc.length (cS.fn acc)) (Q5 t) [] ?_ (λt=>⟨by simp,by simp,by simp⟩) ?_) (λi=>⟨rfl,by simp⟩) λi=>⟨.normal,rfl,?_⟩
  .exact⟨t.length,by simp,by omega,by simp⟩
  .rintro f acc hf hR;have h:=mv t f hf;refine Yields.intro (j:=af) rfl rfl rfl rfl (AK.of_code ?_);refine bt rfl ay ?_;refine⟨rfl,rfl,AK.of_code ?_⟩;refine bt rfl ?_ ?_
   .obtain⟨k,_,_,p⟩:=hR;have r:=h.1;have q2:=h.2.1;refine⟨rfl,rfl,?_,Int.natCast_nonneg _,Int.ofNat_le.2 (Nat.le_of_lt r),Int.ofNat_le.2 q2⟩;show(acc.length+1)*16<=_;omega
   have n:Q5 t (cutAt t f) (acc++[(t.drop f).take (cutAt t f-f)]):=by
    obtain⟨k,l,u,p⟩:=hR;obtain⟨k',rfl⟩:∃k',k=k'+1:=⟨k-1,by omega⟩
    refine⟨k',?_,by omega,by grind⟩;rw[l];simp only[eT];grind
   refine⟨rfl,rfl,⟨_,n⟩,gD rfl ?_⟩;have e:sS t (aa (f:Int)) (aa (cutAt t f:Int))=(t.drop f).take (cutAt t f-f):=by simp[sS,List.drop_take]
   have o:cA (acc.length+1) (cK acc.length (cS.fn acc) λi=>[[C.str (sS t (aa (f:Int)) (aa (cutAt t f:Int)))]].getD i []) (cS.fn (acc++[(t.drop f).take (cutAt t f-f)])):=by rw[e];exact mI.cy cS acc _
   have a:acc.length+1=(acc++[(t.drop f).take (cutAt t f-f)]).length:=by simp
   refine az.cat.2 ⟨by simp,az.cat.2 ⟨az.cat.2 ⟨⟨a,o⟩,ay⟩,az.cat.2 ⟨⟨a,o⟩,az.cat.2 ⟨rfl,ay⟩⟩⟩⟩
  .obtain⟨acc,k,l,u,p⟩:=i;have b:eT t k t.length=[]:=by cases k<;>simp[eT]
   rw[b,iD]at l;have e:g9 t=acc:=by simp only[g9,g,cq,pieces,l]
   rw[e];show jO X _ _ _ _ _;refine AW.top (AK.of_code ?_);refine bt rfl ay ?_;refine AK.ret ⟨(),cw.zero rfl ?_⟩;exact⟨rfl,cA.same⟩
def A3:er X 43 (kL aS (λs=>cS.sl (g9 s)) λ_=>[]):=.pS λs _=>Iu s
def VY:er X 146 (pj (aL cS) aS (λl _=>dS l.flatten) λl s=>[s=[],l.flatten.length<=140737488355328]):=.tf λl s h=>by obtain⟨rfl,h⟩:=h;exact O3 l h
def Pb:dv:=pj (aL cS) (aL cS) (λa b=>dB (a==b)) λ_ _=>[]
def Zx:er X 147 Pb:=.tf λa b _=>SU a b
def Fo(l:List Bs)(h:l.flatten.length<=140737488355328):Ev X 97 [cS.sl l] [] (A1 (fT l)) []:=by
 refine Ev.bQ Tryz.func97 rfl λd=>?_;have c:bL X [(146,pj (aL cS) aS (λl _=>dS l.flatten) λl s=>[s=[],l.flatten.length<=140737488355328]),(69,kL aS (λs=>dB (et s)) λ_=>[]),(147,Pb),(43,kL aS (λs=>cS.sl (g9 s)) λ_=>[])]:=.cons VY (.cons G7 (.cons Zx (.cons A3 .nil)));have el:cS.list l.length (cS.fn l)=l:=cS.list_fn l;cases a:et l.flatten with
 |false =>
  refine aW c [(8,ae),(9,ab),(16,ab)] rfl ?_ (AK.bz rfl ?_)
  .simp only[az,el,a,cS.aO,eq_self,aG,aE];grind
  .simp[fT,a]
 |true =>
  cases b:(pieces l.flatten==l)with
  |false =>
   refine aW c [(8,ab),(9,ae),(14,ae),(16,ab)] rfl ?_ (AK.bz rfl ?_)
   .simp only[az,el,cS.list_fn,a,cS.aO];simp[h,g9,a,b,-List.length_flatten]
   .simp[fT,b]
  |true =>
   refine aW c [(8,ab),(9,ae),(14,ab),(16,ae)] rfl ?_ (AK.bz rfl ?_)
   .simp only[az,el,cS.list_fn,a,cS.aO];simp[h,g9,a,b,-List.length_flatten]
   .simp[fT,a,b,el]
def HH{l:List (Int×Int)}{i:Nat}(h:i<l.length):l.getD i (0,0)∈l:=by grind
def oS(l:List (Int×Int)):Tr:=l.foldl (λt x=>t.put x.1 x.2) .nil
theorem Jg(l:List (Int×Int))(x:Int×Int):oS (l++[x])=(oS l).put x.1 x.2:=by unfold oS;grind
def tG{l:List (Int×Int)}{j:Nat}(h:j<l.length):oS (l.take (j+1))=(oS (l.take j)).put (l.getD j (0,0)).1 (l.getD j (0,0)).2:=by grind[List.take_add_one,Jg]
abbrev Rx(l:List (Int×Int)):D:=.e (.one (.c (.sl ae 1 1 λi=>([[.sl ae 2 l.length (cH.fn l)]]:List (List C)).getD i [])))
abbrev spX(x:Int×Int):aR:=.cells 91 [.c (.int .i64 x.1),.c (.int .i64 x.2)]
def frJ(l:List (Int×Int)):Nat->Fr
 |0=>[(3,.e (.one (.c .fz))),(8,Rx l),(9,dI 1),(10,dI 0),(14,cH.sl l),(15,dI l.length),(16,dI 0)]
 |j+1=>[(3,.e (.one (.ref 1))),(8,Rx l),(9,dI 1),(10,dI 0),(14,cH.sl l),(15,dI l.length),(16,dI (j+1:Nat))]
def stJ(l:List (Int×Int)):Nat->List aR
 |0=>[]
 |j+1=>[spX (l.getD 0 (0,0)),.cm (nH JA (oS (l.take (j+1))))]
def aav(l:List (Int×Int)):Nat->Fr
 |0=>[(3,.e (.one (.c .fz))),(8,Rx l),(9,dI 1),(10,dI 0)]
 |j+1=>match l with
  |[]=>[(3,.e (.one (.c .fz))),(8,Rx l),(9,dI 1),(10,dI (j+1:Nat))]
  |_::_=>[(3,.e (.one (.ref 1))),(8,Rx l),(9,dI 1),(10,dI (j+1:Nat))]
def aaw(l:List (Int×Int)):Nat->List aR
 |0=>[]
 |_+1=>match l with
  |[]=>[]
  |x::r=>[spX x,.cm (nH JA (oS (x::r)))]
def zM(l:List (Int×Int))(t:l.length<=4000000)(o:∀x∈l,bD .i64 x.1/\bD .i64 x.2):Ev X 42 [Rx l] [] (.e (.one (.c (tC (oS l))))) []:=by
 refine Ev.bQ Tryz.func42 rfl λs=>?_;refine bt rfl ay ?_;refine AK.QV 0 (λx=>x<=1) (aav l) (aaw l) (λx=>1-x) 0 rfl (by simp) rfl ay rfl (by omega) ?_;intro x g;rcases x with _|x
 .refine aX [(11,ab)] rfl ?_ ?_
  .simp only[az,aG,aE];and_intros<;>first|rfl|omega
  refine AK.QV 0 (λj=>j<=l.length) (frJ l) (stJ l) (λj=>l.length-j) 0 rfl (by simp) rfl ay rfl (by omega) ?_;intro j q;rcases j with _|j
  .by_cases h:0<l.length
   .have g:=o _ (HH h);have e:=tG h;have c1:bL X [(90,zh [.e (.one (.c .fz)),P6 (l.getD 0 (0,0)).1 (l.getD 0 (0,0)).2] [] (.e (.one (.ref 0))) [.cm (nH JA (.nd .nil (l.getD 0 (0,0)).1 (l.getD 0 (0,0)).2 .nil))])]:=.cons (C3 (BE _ _ g.1 g.2 .nil)) .nil;refine bn c1 [(17,ab)] rfl ?_ (AK.AL 2 1 (by omega) rfl ?_ rfl rfl rfl ?_ rfl h (by grind))
    .simp only[az,bD,a9,aG,aE];and_intros<;>first|rfl|omega
    .simp
    .simp only[az.cat,az,aG,aE];rw[e];and_intros<;>rfl
   .obtain rfl:l=[]:=jv (by omega);refine bO [(17,ae)] rfl (by simp) (AK.AN rfl rfl ?_);refine dm rfl (by simp[bD]) (AK.AL 0 1 (by omega) rfl ?_ rfl rfl rfl ay rfl (by omega) (by decide));simp
  .obtain⟨i,k,n,m,e⟩:∃a b c d,oS (l.take (j+1))=.nd a b c d:=by rw[tG (by omega)];exact BD _ _ _
   show AK X _ _ _ _ (frJ l (j+1)) [spX (l.getD 0 (0,0)),.cm (nH JA (oS (l.take (j+1))))];by_cases h:j+1<l.length
   .have g:=o _ (HH h);have p:=tG h;rw[e]at p⊢;have c1:bL X [(90,zh [.e (.one (.ref 0)),P6 (l.getD (j+1) (0,0)).1 (l.getD (j+1) (0,0)).2] [.cm (nH JA (.nd i k n m))] (.e (.one (.ref 0))) [.cm (nH JA ((Tr.nd i k n m).put (l.getD (j+1) (0,0)).1 (l.getD (j+1) (0,0)).2))])]:=.cons (C3 (BE _ _ g.1 g.2 (.nd i k n m))) .nil;refine bn c1 [(17,ab)] rfl ?_ (AK.AL 2 (j+2) (by omega) rfl ?_ rfl rfl rfl ?_ rfl h (by grind))
    .simp only[az,bD,a9,aG,aE];and_intros<;>first|rfl|omega
    .simp only[az.cat,az,aG,aE];and_intros<;>first|exact cA.same|rfl|omega
    .simp only[az.cat,az,aG,aE];rw[p]
   .have f:j+1=l.length:=by omega
    rw[f,dq]at e
    match l,f,e with
    |x::r,f,e =>
     rw[f,dq,e];refine bO [(17,ae)] rfl (by simp[f]) (AK.AN rfl rfl ?_);refine dm rfl (by simp[bD]) (AK.AL 2 1 (by omega) rfl ?_ rfl rfl rfl ?_ rfl (by omega) (by decide))
     .simp
     .simp only[az.cat,az,aG,aE];grind
 .cases l with
  |nil =>
   refine bO [(11,ae)] rfl (by simp only[az,bS,aE];omega) (AK.AN rfl rfl ?_);exact dm rfl ay (AK.bz rfl (by simp;rfl))
  |cons y r =>
   refine bO [(11,ae)] rfl (by simp only[az,bS,aE];omega) (AK.AN rfl rfl ?_);refine dm rfl ay ?_;refine AK.AT 2 1 rfl rfl ?_;obtain⟨i,k,n,m,e⟩:∃a b c d,oS (y::r)=.nd a b c d:=by have:=tG (l:=y::r) (j:=r.length) (by simp);rw[List.take_of_length_le (by simp)]at this;rw[this];exact BD _ _ _
   rw[e];exact AK.bz rfl
end
section
open Go.Proofs Go.Conc Go.Conc.Lib
open Go.ConcN (WgLive PayAt Has RW AtR0)
open Go.ConcR (KK WgAt stA smA rd wr mk Payload DC0)
noncomputable def V8:Code:=xO (lp (lp (lp Fq)))
noncomputable def cR3:Code:=xO V8
noncomputable def ZB:Code:=lp (lp (lp Fq))
def Tb:ZB=.seq (.seq cR3 (.block 0 (.loop iN))) nZ:=by kernel_rfl
section
variable {σ0:List aR}{s0:St}{φ:Fr}{σ:List aR}{a:Act}{s:St}{S:av->St->Prop}
def At.goes{Wg:Nat}{j:av}:∀(m:Nat)(g:av)(s:St),At σ0 s0 φ σ a s->WgLive 215 Wg s.w->Goes ag ab (fJ 215 Wg) DC0 (λg _=>g=j) m g s.w ->
  (∀b,At σ0 s0 φ σ a b->fL (Cx.beside ag) S j b)->fL (Cx.beside ag) S g s
 |0,g,s,h,_,f,K=>by obtain rfl:g=j:=f s.w (.refl _);grind
 |m+1,g,s,h,hl,f,K=>by
  rcases f with f|⟨l,f⟩
  .obtain rfl:g=j:=f s.w (.refl _);grind
  .refine .next l λb c=>?_;have h1:=h.rely c.1;obtain⟨d,n⟩:=c.2;have i:WgLive 215 Wg b.w:=by rw[n];exact hl
   have h2:=f b.w (λ_=>i);cases e:aH ag ab g b.w with
   |go g' w' es =>
    rw[e,goes_go]at h2;obtain⟨⟨rfl,rfl⟩,o⟩:=h2;exact⟨g',b,#[],e,.quiet h1.hh,At.goes m g' b h1 i o K⟩
   |_=>rw[e]at h2;exact h2.elim
def lW{σ:List aR}{s:St}(b:∀B∈σ,B=.dead){ds:List Deferred}{ls:List Nat}(h:pe σ s ds ls):ds=[]:=by
 cases ds with
 |nil=>rfl
 |cons d ds =>
  cases ls with
  |nil=>exact h.elim
  |cons l ls =>
   have:=b _ (bP h.1.1);cases this
end
section
variable {k:Int}{ps:List bJ}{ns:List Int}{C:Nat}{xs:List ah}
variable (k ps ns C)in
def Ph:Fr:=[(2,cI.sl ns),(3,.e (.one (.ptr 0 0))),(4,.e (.one (.ptr 1 0))),(8,.e (.one (.ptr 3 0))),(9,.e (.one (.ptr 4 0)))]
variable (k ps ns C xs)in
def A8:List aR:=[.cells 3 [.c (.int .i64 k)],.cells 23 [.c (.sl ae 2 ps.length (cP.fn ps))],.cm (gf 218 2 (.row C ns.length) ns.length xs),.cells 205 [.c (.val (.slice (aa ⟨C,0,af⟩) ns.length ns.length))],.cells 215 [.c (.int .u64 0),.c (.int .u32 0)]]
variable (k ps ns)in
def N8(x i:Nat):ah:=if i=0 then .string ⟨((de k ps (ns.getD x 0)).getD []).toArray⟩else .bool (de k ps (ns.getD x 0)).isSome
variable (k ps ns)in
def mx:List ah:=ns.flatMap λn=>[.string ⟨((de k ps n).getD []).toArray⟩,.bool (de k ps n).isSome]
variable (k ps ns C)in
def Ft:List aR:=[.dead,.dead,.cm (gf 218 2 (.row C ns.length) ns.length (mx k ps ns)),.dead,.dead]
def pR3{X:Cx ag}:AW X 45 cR3 (NQ ((18,cI.sl ns)::(19,dI ns.length)::(20,dI 0)::Ph ns) (A8 k ps ns C xs)) (Ph ns) (A8 k ps ns C xs):=by refine AK.of_code ?_;refine bt rfl ay ⟨rfl,cD rfl ?_,rfl⟩;simp
theorem C9:(mx k ps ns).length=ns.length*2:=by
 unfold mx;induction ns with
 |nil=>rfl
 |cons n r b=>grind
def A9:∀{ns:List Int}{x i:Nat},x<ns.length->i<2->(mx k ps ns)[2*x+i]?=aa (N8 k ps ns x i)
 |[],x,i,h,_=>by grind
 |n::r,0,i,_,hi=>by
  match i,hi with
  |0,_=>rfl
  |1,_=>rfl
 |n::r,x+1,i,h,hi=>by have:=A9 (ns:=r) (x:=x) (i:=i) (by grind) hi;unfold mx at this⊢;rw[sh,gk (by grind)];rw[show 2*(x+1)+i - [Value.string ⟨((de k ps n).getD []).toArray⟩,Value.bool (de k ps n).isSome].length=2*x+i by grind];rw[this];simp[N8]
def _root_.Go.AM.cu.seen{N b:Nat}{d:D}{σ:List aR}{s:St}{φ:Fr}{a:Act}(f:cu N σ s φ a)(h:dt σ s (a.tmps.getD b ai) d):cu N σ s ((b,d)::φ) a:=by
 refine⟨f.size,f.defers,λt=>?_⟩;simp only[look];cases c:aB b t with
 |false=>exact f.slot t
 |true=>grind[Nat.eq_of_beq_eq_true]
abbrev Ly(n C:Nat):Fr:=[(8,.e (.one (.c (.rp [.val (.slice (aa ⟨C,0,af⟩) n n)]))))]
variable (k ps ns C)in
abbrev V9:Fr:=(8,.e (.one (.c (.rp [.val (.slice (aa ⟨C,0,af⟩) ns.length ns.length)]))))::(4,.e (.one (.c (.rp [.sl ae 2 ps.length (cP.fn ps)]))))::(3,.e (.one (.c (.rp [.int .i64 k]))))::(18,cI.sl ns)::(19,dI ns.length)::(20,dI 0)::[(9,.e (.one (.ptr 4 0)))]
def Wa(hfe:er (Cx.work ag) 144 (mr k)){Q:Post}(hn:ns.length<=4000000)(Z:jO (Cx.beside ag) 45 rm Q (Ly ns.length C) (Ft k ps ns C)):jO (Cx.beside ag) 45 ZB Q (Ph ns) (A8 k ps ns C xs):=by
 intro so ao hf hho b kk cs S hb OI hQ;have h:At (A8 k ps ns C xs) so (Ph ns) (A8 k ps ns C xs) ao so:=⟨hf,hho,.refl _ _⟩;refine h.ctl rfl (λw=>wa Tb) λs h=>?_
 refine h.ctl rfl (λw=>oy) λs h=>?_;refine h.code hb pR3 λa s h=>?_;obtain⟨s1,w1,f1,A,R0⟩:=cu.freeze 3 0 (E:=3) (cs:=[.c (.int .i64 k)]) (cc:=[.int .i64 k]) rfl rfl rfl h.fr h.hh;refine .ghost (.of h.hh A w1 (R0.nF h.hh)) ?_;obtain⟨s2,w2,f2,z,mR⟩:=cu.freeze 4 1 (E:=23) (cs:=[.c (.sl ae 2 ps.length (cP.fn ps))]) (cc:=[.sl ae 2 ps.length (cP.fn ps)]) rfl rfl rfl f1 A;refine .ghost (.of A z w2 (mR.nF A)) ?_;obtain⟨s3,w3,f3,Uz,SF⟩:=cu.freeze 8 3 (E:=205) (cs:=[.c (.val (.slice (aa ⟨C,0,af⟩) ns.length ns.length))]) (cc:=[.val (.slice (aa ⟨C,0,af⟩) ns.length ns.length)]) rfl rfl rfl f2 z;refine .ghost (.of z Uz w3 (SF.nF z)) ?_;have h:At (A8 k ps ns C xs) so (V9 k ps ns C)
   [.dead,.dead,.cm (gf 218 2 (.row C ns.length) ns.length xs),.dead,.cells 215 [.c (.int .u64 0),.c (.int .u32 0)]] a s3 :=
  ⟨f3.le (cD rfl (by simp)),Uz,h.st.trans ((R0.nF h.hh).trans ((mR.nF A).trans (SF.nF z)))⟩
 clear R0 mR SF f1 f2 f3 A z Uz;refine h.ctl rfl (λw=>sD) λs h=>?_;refine h.ctl rfl (λw=>Gk) λs h=>?_;have hlen:=h.hh.len;simp only[fb,gG]at hlen;obtain⟨D,u⟩:∃L,s.β[2]?=aa L:=⟨_,br (by omega)⟩
 obtain⟨V,K⟩:∃L,s.β[4]?=aa L:=⟨_,br (by omega)⟩
 obtain⟨ch,hH,Wb,RJ,Zk⟩:=h.hh.box 2 _ D rfl u;obtain⟨zs,XB,RO,RP⟩:=gf.lookup hH;obtain⟨hv2,_,hxl,_,_,_⟩:=hH;have U:C∈D.bs:=(RJ C).2 (by grind);have Wc:=Wb C _ RO;obtain⟨Wg,vs,aen,H,Us,hM4⟩:=h.hh.box 4 _ V rfl K;have ZC:vs=[.int .u64 0,.int .u32 0]:=by
  match vs,Us with
  |[],r=>exact r.elim
  |[_],r=>exact r.2.elim
  |_::_::_::_,r=>exact r.2.2.elim
  |[u0,u1],r =>
   have r0:Rd s.M u0 (.int .u64 0):=r.1;have r1:Rd s.M u1 (.int .u32 0):=r.2.1;cases r0;cases r1;rfl
 subst ZC;have B6:C≠Wg:=by grind
 have hv9:a.tmps.getD 9 ai=.pointer (aa ⟨Wg,0,af⟩):=by obtain⟨_,L,bb,q1,q2,q3⟩:=h.fr.slot 9;grind
 obtain⟨g1,t1⟩:=h.hh.V7 (l:=2) rfl u (.inr ⟨_,rfl⟩);have ZD:(s.β.set 2 ⟨D.v,[]⟩)[4]?=aa V:=by grind
 obtain⟨g2,t2⟩:=g1.V7 (l:=4) (B:=.cells 215 [.c (.int .u64 0),.c (.int .u32 0)]) rfl ZD (.inl ⟨_,_,rfl⟩);generalize hsB:({s with β:=(s.β.set 2 ⟨D.v,[]⟩).set 4 ⟨V.v,[]⟩}:St)=sB at g2 t2;have eβ:sB.β=(s.β.set 2 ⟨D.v,[]⟩).set 4 ⟨V.v,[]⟩:=by grind
 have eM:sB.M=s.M:=by grind
 have ew:sB.w=s.w:=by grind
 have eo:sB.own=s.own:=by grind
 have hhB:aF d5 sB:=g2;have Q9:=(t1.nF h.hh).trans (t2.nF g1);have ZE:sB.β[2]?=aa ⟨D.v,[]⟩:=by grind
 have p:∀L∈sB.β,∀x∈L.bs,∃l,l≠2/\l≠4/\s.β[l]?=aa L:=by grind[List.mem_iff_getElem?]
 have Eg:C<s.w.heap.size:=h.hh.lt D (bP u) C U;have BT:Wg<s.w.heap.size:=h.hh.lt V (bP K) Wg (by grind)
 have X:NP C sB:=⟨by rw[eo];exactλho=>(h.hh.own C ho).2 D (bP u) U,λL d f=>by obtain⟨l,n2,n4,hl⟩:=p L d C f;exact n2 (h.hh.eO l 2 L D hl u C f U),λo=>by rw[eM];grind,by grind⟩
 have J:NP Wg sB:=⟨by rw[eo];exactλho=>(h.hh.own Wg ho).2 V (bP K) (by grind),λL d f=>by obtain⟨l,n2,n4,hl⟩:=p L d Wg f;exact n4 (h.hh.eO l 4 L V hl K Wg f (by grind)),λo=>by rw[eM];grind,by grind⟩
 have fB:cu 45 d5 sB (nv k ps ns C Wg 0) a:=by have q:=h.fr.mono Q9 h.hh.len;have q9:cu 45 d5 sB ((9,.e (.one (.v (.pointer (aa ⟨Wg,0,af⟩)))))::V9 k ps ns C) a:=q.seen (by rw[hv9];exact Rd.val rfl);exact q9.le (cD rfl (by simp))
 have P:(xs++zs).toArray.size=2*ns.length:=by grind
 have OF:∀x,(s.own x∨∃L∈s.β,x∈L.bs)->x<s.w.heap.size:=λx f=>f.elim (λq=>(h.hh.own x q).1) λ⟨L,d,q⟩=>h.hh.lt L d x q;refine .yv (T:=λg' s'=>∃a4 m,At (A8 k ps ns C xs) so (Ly ns.length C) (Ft k ps ns C) a4 s'/\WgLive 215 Wg s'.w/\Goes ag ab (fJ 215 Wg) DC0 (λg _=>g=G (b.aT (a4.put (aa 28) (.tuple #[])) (.inRegion yJ []::.code rm::kk)) cs) m g' s'.w)
  (UR.fork (n:=ns.length) (ty:=215) (val:=N8 k ps ns) (N:=2*ns.length) (s0:=sB) 2 (by omega) Wg C (by omega) B6 (.of h.hh hhB ew Q9) rfl ⟨D,bP u,U⟩ ⟨V,bP K,by grind⟩ OF ?_ H ⟨_,Wc,P⟩ ?_) ?_
 .rintro x (rfl|rfl)
  .exact⟨X.own,X.β,X.M⟩
  .exact⟨J.own,J.β,J.M⟩
 .intro Y hYW hYC hYk;subst hYW hYC;refine⟨TF k ps ns Y d5 sB b kk cs,XZ k ps ns Y d5 sB b kk cs,λg s f=>anF J OI f,?_,?_⟩
  .refine Pg hfe hYk J OI hb (by decide) hn (λi hi=>rfl) (λi hi=>rfl) ns.length (bc _) a sB ⟨by grind,hhB,.refl _ _⟩ ⟨_,_,by rw[ew];exact H⟩
  .rintro g' s' ⟨a4,⟨j,Lv⟩,m,hgo⟩ hm' Wd Tc aes GC;obtain⟨o1,o2,o3⟩:=GC Y.C (.inl rfl);obtain⟨nG,O,aet⟩:=Wd;have hcs:nG=(mx k ps ns).toArray:=by
    apply Array.ext_getElem?;intro o;have eo':(mx k ps ns).toArray[o]?=(mx k ps ns)[o]?:=by simp
    rw[eo'];rcases cM o (2*ns.length)with ho|ho
    .have q1:=Tc (o / 2) (by omega) (o % 2) (by omega);have q2:=A9 (k:=k) (ps:=ps) (ns:=ns) (x:=o / 2) (i:=o % 2) (by omega) (by omega);rw[show 2*(o / 2)+o % 2=o by omega]at q1 q2;rw[q2];simpa[aV,O]using q1
    grind[C9]
   subst hcs;have Ed:s'.β.length=5:=j.hh.len;obtain⟨B2',L2',p1,p2,p3⟩:=j.st.box 2 .dead ⟨D.v,[]⟩ rfl ZE;have aev:L2'.v=.nilFunc:=by cases p1;exact(show L2'.v=D.v from p3).trans hv2
   have I:∀(l:Nat) (B:aR),d5[l]?=aa B->B=.dead:=by
    intro l B hB
    match l,hB with
    |0,hB|1,hB|2,hB|3,hB|4,hB=>cases hB;rfl
   have W:∀l,(s'.β.set 2 ⟨.nilFunc,[Y.C]⟩)[l]?=if l=2 then aa ⟨.nilFunc,[Y.C]⟩else s'.β[l]?:=by grind
   have y:∀L∈s'.β.set 2 ⟨.nilFunc,[Y.C]⟩,L=⟨.nilFunc,[Y.C]⟩∨L∈s'.β:=λL d=>by grind
   have XT:aF (Ft k ps ns Y.C) {s' with β:=s'.β.set 2 ⟨.nilFunc,[Y.C]⟩}:=by
    refine⟨j.hh.mem,by simp[Ed,Ft],?_,?_,?_,λx f=>⟨(j.hh.own x f).1,λL d F=>?_⟩⟩
    .intro l B L hB d;rw[W]at d;by_cases e:l=2
     .subst e;rw[bl rfl]at d;cases d;cases hB;refine⟨λb'=>if b'=Y.C then aa (.cells (mx k ps ns++[]).toArray 218 (0,0))else af,⟨rfl,?_,C9,bc _,by omega,[],by grind,rfl⟩,λb' ob B8=>?_,λb'=>?_,λb' B8 o=>?_⟩
      .intro x f;simp only[mx,qn]at f;obtain⟨_,_,f⟩:=f;simp only[eB,ot,mO]at f;rcases f with rfl|rfl<;>rfl
      .by_cases e:b'=Y.C
       .subst e;simp only[cq]at B8;cases B8;rw[iD];exact O
       grind
      .by_cases e:b'=Y.C<;>simp[e]
      grind
     .match l,hB,e with
      |0,hB,_|1,hB,_|3,hB,_|4,hB,_=>cases hB;trivial
      |2,_,e=>grind
    .intro l l' L L' d fA x f QN;rw[W]at d fA;by_cases e:l=2
     .grind
     .rw[aY e]at d;by_cases e':l'=2
      .grind
      .rw[aY e']at fA;exact j.hh.eO l l' L L' d fA x f QN
    .intro L d x f;rcases y L d with rfl|d
     .grind
     .exact j.hh.lt L d x f
    .rcases y L d with rfl|d
     .grind
     .exact(j.hh.own x f).2 L d F
   have ZF:cY [.dead,.dead,.cm (gf 218 2 (.row Y.C ns.length) ns.length xs),.dead,.cells 215 [.c (.int .u64 0),.c (.int .u32 0)]] s (Ft k ps ns Y.C) {s' with β:=s'.β.set 2 ⟨.nilFunc,[Y.C]⟩}:=by
    have q:=j.st;refine⟨by have:=q.size;grind,λx f=>by have:=q.fy x (by grind);grind,λx o v f=>q.mem x o v (by grind),λx f hnx o=>?_,λL d x f=>?_,?_,by rw[q.os,ew],by rw[q.tape,ew],by rw[q.output,ew],by rw[q.own,eo]⟩
    .rw[q.je x (by grind) (λL d F=>by
      obtain⟨l,_,_,hl⟩:=p L d x F
      grind) o,eM]
    .rcases y L d with rfl|d
     .grind
     .rcases q.vK L d x f with r1|⟨L0,r1,r2⟩
      .grind
      .obtain⟨l,_,_,hl⟩:=p L0 r1 x r2;grind
    .intro l B L hB d;obtain⟨B1,L1,r1,r2,r3⟩:=Q9.box l B L hB d;obtain⟨B3,L3,u1,u2,u3⟩:=q.box l B1 L1 r1 r2;have eB1:=I l B1 r1;have eB3:=I l B3 u1;subst eB1 eB3;by_cases e:l=2
     .subst e;cases hB;rw[u]at d;cases d;exact⟨_,⟨.nilFunc,[Y.C]⟩,rfl,by grind,hv2.symm⟩
     .refine⟨.dead,L3,?_,by grind,r3.trans u3⟩
      match l,u1,e with
      |0,_,_|1,_,_|3,_,_|4,_,_=>rfl
      |2,_,e=>grind
   refine⟨{s' with β:=s'.β.set 2 ⟨.nilFunc,[Y.C]⟩},⟨a4,m,⟨⟨j.fr.size,⟨[],?_⟩,λt=>?_⟩,XT,h.st.trans ZF⟩,Lv,hgo⟩,rfl,hm',λSh R hnC=>⟨R.own,λx f L d F=>?_,R.M,R.lt⟩⟩
   .obtain⟨ls,XX⟩:=j.fr.defers;rw[lW (λB hB=>by grind) XX];trivial
   .have fq:cu 45 d5 s' (Ly ns.length Y.C) a4:=j.fr.le (cD rfl (by simp));exact dt.closed (s:=s') (s':={s' with β:=s'.β.set 2 ⟨.nilFunc,[Y.C]⟩}) rfl (fq.slot t) (nW rfl)
   .rcases y L d with rfl|d
    .grind
    .exact R.β x f L d F
 .rintro g' s' ⟨a4,m,h4,hl4,hgo⟩;refine At.goes m g' s' h4 hl4 hgo λs1 h1=>?_;have h2:At (A8 k ps ns C xs) so ((28,.any)::Ly ns.length C) (Ft k ps ns C) (a4.put (aa 28) (.tuple #[])) s1:=⟨h1.fr.put (by decide) ay,h1.hh,h1.st⟩
  refine h2.ctl rfl (λw=>jg) λs2 h3=>?_;refine Z s2 _ (h3.fr.le (cD rfl (by simp))) h3.hh b kk cs S hb OI λe φ' σ' s' a' q f' h' qW=>hQ e φ' σ' s' a' q f' h' (h3.st.trans qW)
end
end
abbrev ZG(a:List Bs)(b:Bool):D:=.fa [.one (.c (.sl ae 1 a.length (cS.fn a))),.one (.c (.bool b))]
def dL(k:Int)(ps:List bJ)(ns:List Int):Option (List Bs):=if ns.all (λn=>(de k ps n).isSome)then aa (ns.map λn=>(de k ps n).getD [])else af
noncomputable def cR0:Code:=xO Fq
noncomputable def cR1:Code:=xO (lp Fq)
noncomputable def cR2:Code:=xO (lp (lp Fq))
def Pj:Tryz.f96.body=aa (.seq cR0 (.seq cR1 (.seq cR2 ZB))):=by kernel_rfl
def Td(k:Int)(ps:List bJ)(ns:List Int)(i:Nat):List AM.C:=[.str ((de k ps (ns.getD i 0)).getD []),.bool (de k ps (ns.getD i 0)).isSome]
def vr(k:Int)(ps:List bJ)(ns:List Int):List Bs:=ns.map λn=>(de k ps n).getD []
theorem Da{b p:Bs}(h:eH b=aa p):p.length<=8:=by
 unfold eH at h;split at h
 .rename_i a;cases h;simp only[bR,bx,a9]at a;omega
 grind
theorem Iy{k:Int}{x:bo}{p:Bs}(h:chunk k x=aa p):p.length<=8:=by unfold chunk at h;grind[Da]
theorem zi{k:Int}{ps:List bJ}{n:Int}:((de k ps n).getD []).length<=8:=by
 cases h:de k ps n with
 |none=>simp
 |some p =>
  obtain⟨q,_,a⟩:=List.exists_of_findSome?_eq_some h;unfold dY at a;grind[Iy]
theorem Te{k:Int}{ps:List bJ}{ns:List Int}{i:Nat}(hi:i<ns.length){M:Mem}{j:Nat}{c:AM.C}{x:ah}(a:(Td k ps ns i)[j]?=aa c)(d:(mx k ps ns)[i*2+j]?=aa x):Rd M x c:=by
 have b:j<2:=(b6.1 a).1;have:=A9 (k:=k) (ps:=ps) hi b;rw[Nat.mul_comm,this]at d;cases d
 match j,b with
 |0,_ =>
  cases a;have:=zi (k:=k) (ps:=ps) (n:=ns.getD i 0);exact .str rfl (by omega)
 |1,_=>cases a;exact .bool
def _root_.Go.AM.jO.le{P:ar}{X:Cx P}{N:Nat}{Q:Post}{φ φ':Fr}{σ:List aR}{c:Code}(h:jO X N c Q φ' σ)(hl:oB φ φ'):jO X N c Q φ σ:=λs a f hh=>h s a (f.le hl) hh
def C6{k:Int}(f:er (Cx.work ag) 144 (mr k))(ps:List bJ)(ns:List Int)(p:ns.length<=4000000):
  Ev (Cx.beside ag) 96 [dI k,cP.sl ps,cI.sl ns] [] (ZG ((dL k ps ns).getD []) (dL k ps ns).isSome) []:=by
 refine ef.Cg (ef.AH (ι:=Unit) Tryz.func96 rfl Pj rfl λt=>?_);show jO _ 45 _ _ _ _;refine jO.seq (AW.top (AK.of_code ?_));refine bt rfl ay ?_;show jO _ 45 _ _ _ _;refine jO.seq (AW.top (AK.of_code ?_));refine bt rfl ay ?_;refine AK.JP (E:=218) (n:=ns.length) tok rfl rfl rfl rfl rfl rfl (by show _*24<=_;omega) (by omega) rfl rfl λC xs=>?_;refine bt rfl ay ?_;show jO _ 45 _ _ _ _;refine jO.seq (AW.top (AK.of_code ?_));refine bt rfl ay ?_;show jO _ 45 _ _ _ _;have a:jO (Cx.beside ag) 45 rm (λe φ σ1=>∃_:Unit,cw Tryz.f96 0 (ZG ((dL k ps ns).getD []) (dL k ps ns).isSome) [] e φ σ1) (Ly ns.length C) (Ft k ps ns C):=by
  refine AW.top (AW.mono (Q:=cw Tryz.f96 0 (ZG ((dL k ps ns).getD []) (dL k ps ns).isSome) []) (AK.of_code ?_) λ_ _ _ q=>⟨(),q⟩);refine bt rfl (show _<=_ by omega) ?_;refine AK.wz 29 2 (bf:=.row C ns.length) (n:=ns.length) (k:=2) (Td k ps ns) rfl rfl (λi hi=>⟨rfl,λM j c x u s=>?_⟩) ?_
  .grind [Te]
  refine AK.iM 12 9 1 rfl rfl ?_;refine AK.cE 6 (λi=>i<=ns.length/\∀j,j<i->(de k ps (ns.getD j 0)).isSome=ab) (λi:Nat=>[(29,.e (.one (.c (.sl ae 2 ns.length (Td k ps ns))))),(30,dI ns.length),(31,dI i),(12,.e (.one (.vec 5 1 (vr k ps (ns.take i)).length (cS.fn (vr k ps (ns.take i))))))]) (λi=>[.dead,.dead,.dead,.dead,.dead,.vec 9 1 (vr k ps (ns.take i)).length (cS.fn (vr k ps (ns.take i)))]) (λi=>ns.length-i) 0 rfl ?_ rfl ?_ rfl ⟨by omega,by omega⟩ ?_
  .simp[cA,vr]
  .simp[cA,vr]
  rintro i ⟨hi,m⟩;by_cases h:i<ns.length
  .cases o:(de k ps (ns.getD i 0)).isSome with
   |true =>
    have d:vr k ps (ns.take (i+1))=vr k ps (ns.take i)++[(de k ps (ns.getD i 0)).getD []]:=by unfold vr;grind[List.take_add_one]
    have r:(vr k ps (ns.take i)).length<=4000000:=by simp[vr];omega
    refine bO [(32,ab),(37,ae)] rfl ?_ (AK.aQ (i+1) rfl ?_ ?_ ?_ ?_)
    .simp[-ak,h,Td,o,bD];have:i9.bytes=16:=rfl;grind
    .rw[d];simp[-ak,Td];exact cS.cy _ _
    .rw[d];simp[-ak,Td];exact cS.cy _ _
    .grind
    .omega
   |false =>
    refine bO [(32,ab),(37,ab)] rfl ?_ (AK.fQ (cw.zero rfl ?_))
    .simp[-ak,h,Td,o]
    .have l:dL k ps ns=af:=by unfold dL;rw[aY];grind
     simp[l]
  .have g:i=ns.length:=by omega
   subst g;refine bO [(32,ae)] rfl (by simp) (AK.leaveD rfl rfl ?_);refine dm rfl ay (AK.bz rfl ?_);have b:dL k ps ns=aa (vr k ps ns):=by
    unfold dL;rw[bl]
    .rfl
    grind[List.mem_iff_getElem]
   simp[b]
 exact jO.le (σ:=A8 k ps ns C xs) (Wa (xs:=xs) f p a) (cD rfl (by simp))
end Go.AM.R1
namespace Go.AM.R1
def km(a:UInt8)(s:Bs):iO (a::s)=if a=47 then 0 else if iO s=-1 then -1 else iO s+1:=by unfold iO;grind[Lib.indexByte.eq_def]
def wc:iO []=-1:=by unfold iO;rw[Lib.indexByte.eq_def]
def IK(s:Bs):fp s=dM s:=by
 by_cases i:s.length<=3
 .match s,i with
  |[],_=>simp[fp,dM,cJ,jL,wc]
  |[a],_ =>
   by_cases d:a=47
   .subst d;simp[fp,dM,cJ,jL,m9,kz,km,my,cT]
   .simp[fp,dM,cJ,jL,kz,km,wc,d,my,cT]
  |[a,b],_ =>
   by_cases d:a=47
   .subst d;simp[fp,dM,cJ,jL,m9,kz,km]
   .by_cases e:b=47
    .subst e;simp[fp,dM,cJ,jL,m9,kz,km,d]
    .simp[fp,dM,cJ,jL,kz,km,wc,d,e]
  |[a,b,c],_ =>
   by_cases d:a=47
   .subst d;simp[fp,dM,cJ,jL,m9,kz,km,my,cT]
   .by_cases e:b=47
    .subst e;simp[fp,dM,cJ,jL,m9,kz,km,d,my,cT]
    .have f:¬(b.toNat:Int)=47:=by intro h;apply e;apply ov.1;grind
     by_cases g:c=47
     .subst g;simp[fp,dM,cJ,jL,m9,kz,km,d,e,my,cT]
     .simp[fp,dM,cJ,jL,kz,km,wc,d,e,g,f,my,cT]
  |_::_::_::_::_,h=>grind
 .have j:dM s=ae:=by unfold dM;grind
  grind[u4]
end Go.AM.R1
namespace Go.AM
theorem tn(a:Bs):bm a []=ae:=by rw[Op.bytesLess.eq_def]
def xZ(b:UInt8)(l:Bs):bm [] (b::l)=ab:=by rw[Op.bytesLess.eq_def]
theorem tp(a b:UInt8)(x y:Bs):bm (a::x) (b::y)=(decide (a<b)||a==b&&bm x y):=by rw[Op.bytesLess.eq_def]
theorem qO:∀a:Bs,bm a a=ae
 |[]=>tn []
 |a::l=>by rw[tp,qO l];simp
def Dh:∀a b:Bs,bm a b=ab∨a=b∨bm b a=ab
 |[],[]=>.inr (.inl rfl)
 |[],b::y=>.inl (xZ b y)
 |a::x,[]=>.inr (.inr (xZ a x))
 |a::x,b::y=>by
  rw[tp,tp];rcases Dh x y with h|h|h
  .grind
  .grind
  grind
theorem x0:∀{a b c:Bs},bm a b=ab->bm b c=ab->bm a c=ab
 |a,b,[],_,d=>by grind[tn]
 |a,[],c::z,e,_=>by grind[tn]
 |[],b::y,c::z,_,_=>xZ c z
 |a::x,b::y,c::z,e,d=>by
  rw[tp,jU,bR,a9,gp]at e d⊢;rcases e with e|⟨rfl,e⟩
  .grind
  .rcases d with d|⟨rfl,d⟩
   .grind
   .exact .inr ⟨rfl,x0 e d⟩
theorem Di{a b:Bs}(h:bm a b=ab):bm b a=ae:=by grind[x0,qO]
def TD{a b:Bs}:(!(bm b a||b==a))=bm a b:=by
 rcases Dh a b with h|h|h
 .have c:(b==a)=ae:=by simp only[eD,dy];grind[qO]
  grind[Di]
 .grind [qO]
 grind[Di]
namespace R1
def WI{t:List bw}{i:Nat}(h:∀k,0<k->k<=i->bm (fE t (k-1)) (fE t k)=ab):∀j,j<i->bm (fE t j) (fE t i)=ab:=by
 intro j f;induction i with
 |zero=>omega
 |succ i d =>
  have c:=h (i+1) (by omega) (bc _);simp only[qi]at c;by_cases e:j=i
  .grind
  .exact x0 (d (λk a b=>h k a (by omega)) (by omega)) c
def u5{s:Bs}(h:dM s=ab):(∃a,s=[a])∨∃a b,s=[a,47,b]:=by
 unfold dM at h;split at h
 .rename_i d
  match s,d with
  |[a],_=>grind
 .split at h
  .rename_i d
   match s,d with
   |[a,b,c],_ =>
    right;simp[my,cT]at h;have e:b=47:=by apply ov.1;grind
    grind
  grind
theorem Dj{p q:Bs}(f:dM p=ab)(i:dM q=ab)(g:bm p q=ab):clash p q=under q p:=by
 rcases u5 f with⟨a,rfl⟩|⟨a,b,rfl⟩<;>rcases u5 i with⟨c,rfl⟩|⟨c,d,rfl⟩
 .simp[clash,under,lG]
 .by_cases e:a=c
  .subst e;simp[clash,under,lG,cT]
  .have:¬(a.toNat:Int)=c.toNat:=λh=>e (ov.1 (by omega));have j:((a.toNat:Int)==(c.toNat:Int))=ae:=by grind
   have k:(c==a)=ae:=by grind
   simp[clash,under,lG,cT];grind
 .have:¬(a.toNat:Int)=c.toNat:=by grind[UInt8.toNat_inj,tp,tn]
  simp[clash,under,lG,cT,this]
 .simp[clash,under,lG]
theorem zx{t:List bw}{i:Nat}(a:∀j,j<i->gQ t j=ab):ju t i=gQ t i:=by
 unfold ju gQ;rw[IK,TD];cases f:dM (fE t i)with
 |false=>simp
 |true =>
  cases l:et (tK t i)with
  |false=>simp
  |true =>
   cases h:(i==0||bm (fE t (i-1)) (fE t i))with
   |false=>simp
   |true =>
    simp only[fO];have d:∀j,j<i->bm (fE t j) (fE t i)=ab:=by
     apply WI;intro k hk hki;by_cases e:k=i
     .grind
     .have:=a k (by omega);simp only[gQ,bR,jU,gp]at this;grind
    rw[qt,dE,dE];have g:∀j,j<i->clash (fE t j) (fE t i)=under (fE t i) (fE t j):=by
     intro j b;have c:dM (fE t j)=ab:=by have:=a j b;simp only[gQ,bR]at this;exact this.1.1.1
     grind[Dj]
    grind
def ib(t:List bw):na t=cC t:=by
 unfold na cC;congr 1;rw[qt,dE,dE];constructor
 .intro h i;induction i using Nat.strongRecOn with
  |_ i a=>grind[zx]
 grind[zx]
end R1
end Go.AM
namespace Go.AM.R1
section
variable {X:Cx ag}
def fileOf(k:Int)(ps:List bJ)(x:js):Option bw:=match dL k ps x.2 with
 |none=>af
 |some l=>match fT l with
  |none=>af
  |some t=>aa (x.1,t)
def c8(k:Int)(ps:List bJ)(l:List js):List bw:=l.map λx=>(fileOf k ps x).getD ([],[])
def cg(k:Int)(s:fe)(ps:List bJ):Option (List bw) :=
 if b7 k&&s.2.all (λx=>(fileOf k ps x).isSome)&&cC (c8 k ps s.2)then aa (c8 k ps s.2)else af
abbrev Pc(a:List bw)(b:Bool):D:=.fa [.one (.c (.sl ae 2 a.length (cF.fn a))),.one (.c (.bool b))]
abbrev NN(s:fe):D:=.e (.agg [.c (.int .i64 s.1),.c (.sl ae 2 s.2.length (cL.fn s.2))])
theorem pV{k:Int}{ps:List bJ}{l:List js}{i:Nat}(h:i<l.length):c8 k ps (l.take (i+1))=c8 k ps (l.take i)++[(fileOf k ps (l.getD i ([],[]))).getD ([],[])]:=by unfold c8;grind[List.take_add_one]
def pW{k:Int}{ps:List bJ}{s:fe}{i:Nat}(h:i<s.2.length)(a:fileOf k ps (s.2.getD i ([],[]))=af):cg k s ps=af:=by unfold cg;rw[aY];grind
def yH{k:Int}{ps:List bJ}{ns:List Int}{l:List Bs}(h:dL k ps ns=aa l)(b:ns.length<=4000000):l.flatten.length<=140737488355328/\l.length<=4000000:=by
 unfold dL at h;split at h
 .rename_i a;cases h;refine⟨?_,by grind⟩;have key:∀ns:List Int,(ns.all λn=>(de k ps n).isSome)=ab->(ns.map λn=>(de k ps n).getD []).flatten.length<=8*ns.length:=by
   intro ns;induction ns with
   |nil=>grind
   |cons n ns ih =>
    intro h;simp only[List.all_cons,bR]at h;grind[zi]
  grind
 grind
def C5(k:Int)(s:fe)(ps:List bJ)(I:s.2.length<=4000000)(G:∀x∈s.2,x.2.length<=4000000):
  Ev (Cx.beside ag) 53 [dI k,NN s,cP.sl ps] [] (Pc ((cg k s ps).getD []) (cg k s ps).isSome) []:=by
 refine Ev.bQ Tryz.func53 rfl λB=>?_;have u:=B.sl 2 rfl;have b:bL (Cx.beside ag) [(40,kL aI (λk=>dB (b7 k)) λ_=>[])]:=.cons t40 .nil;cases hk:b7 k with
 |false =>
  refine aW b [(15,ae),(16,ab)] rfl ?_ (AK.bz rfl ?_)
  .simp[hk]
  .simp[cg,hk]
 |true =>
  have q:er (Cx.work ag) 144 (mr k):=SZ O1 hk;refine aW b [(15,ab),(16,ae),(1000004,ab)] rfl ?_ ?_
  .simp[hk]
  refine AK.iM 8 82 2 rfl rfl ?_;refine b8 b rfl ay ?_;refine AK.cE 2 (λi=>i<=s.2.length/\∀j,j<i->(fileOf k ps (s.2.getD j ([],[]))).isSome=ab) (λi:Nat=>[(0,dI k),(2,cP.sl ps),(4,.e (.one (.ptr 0 0))),(8,.e (.one (.vec 1 2 (c8 k ps (s.2.take i)).length (cF.fn (c8 k ps (s.2.take i)))))),(18,cL.sl s.2),(19,dI s.2.length),(20,dI i)]) (λi=>[.cells 71 [.c (.int .i64 s.1),.c (.sl ae 2 s.2.length (cL.fn s.2))],.vec 82 2 (c8 k ps (s.2.take i)).length (cF.fn (c8 k ps (s.2.take i)))]) (λi=>s.2.length-i) 0 rfl ?_ rfl ?_ rfl ⟨by omega,by omega⟩ ?_
  .simp[c8]
  .simp[c8]
  rintro i ⟨hi,z⟩;by_cases h:i<s.2.length
  .have p:s.2.getD i ([],[])∈s.2:=by grind
   generalize f:s.2.getD i ([],[])=x at p;have m:=G x p;have d:=C6 q ps x.2 m;cases a:dL k ps x.2 with
   |none =>
    rw[a]at d;refine aW b [(21,ab)] rfl ?_ ?_
    .exact⟨by omega,by omega,dc (by omega)⟩
    refine AK.cQ (f▸d) [] rfl ?_;refine aW b [(33,ab)] rfl ?_ (AK.fQ (cw.zero rfl ?_))
    .simp
    .have e:fileOf k ps x=af:=by simp[fileOf,a]
     rw[pW h (by grind)];simp
   |some l =>
    obtain⟨n,H⟩:=yH a m;rw[a]at d;have o:=Fo (X:=Cx.beside ag) l n;refine aW b [(21,ab)] rfl ?_ ?_
    .exact⟨by omega,by omega,dc (by omega)⟩
    refine AK.cQ (f▸d) [] rfl ?_;refine aW b [(33,ae)] rfl ?_ ?_
    .simp
    refine AK.cQ o [] rfl ?_;cases A:fT l with
    |none =>
     refine aW b [(40,ab)] rfl ?_ (AK.fQ (cw.zero rfl ?_))
     .simp
     .have e:fileOf k ps x=af:=by simp[fileOf,a,A]
      rw[pW h (by grind)];simp
    |some t =>
     have e:fileOf k ps x=aa (x.1,t):=by simp[fileOf,a,A]
     have E:s.2.getD (i:Int).toNat cL.cd=x:=f;have D:(c8 k ps (s.2.take i)).length<=4000000:=by simp[c8];omega
     have w:cA ((c8 k ps (s.2.take i)).length+1) (cK (c8 k ps (s.2.take i)).length (cF.fn (c8 k ps (s.2.take i))) λr=>[[C.str (s.2.getD (i:Int).toNat cL.cd).1,C.str ((aa t).getD [])]].getD r []) (cF.fn (c8 k ps (s.2.take (i+1)))):=by rw[pV h,f,e,E];exact cF.cy (c8 k ps (s.2.take i)) (x.1,t)
     have v:(c8 k ps (s.2.take i)).length+1=(c8 k ps (s.2.take (i+1))).length:=by grind[pV]
     refine aW b [(40,ae)] rfl ?_ (AK.aQ (i+1) rfl ?_ ?_ ?_ ?_)
     .refine⟨by simp only[bD];omega,rfl,rfl,?_,rfl⟩;show _*32<=_;omega
     .refine az.cat.2 ⟨rfl,az.cat.2 ⟨⟨rfl,cA.same⟩,az.cat.2 ⟨ay,az.cat.2 ⟨⟨v,w⟩,az.cat.2 ⟨⟨rfl,cA.same⟩,az.cat.2 ⟨rfl,az.cat.2 ⟨?_,ay⟩⟩⟩⟩⟩⟩⟩;simp
     .exact az.cat.2 ⟨az.cat.2 ⟨rfl,az.cat.2 ⟨⟨rfl,cA.same⟩,ay⟩⟩,az.cat.2 ⟨⟨v,w⟩,ay⟩⟩
     .grind
     .omega
  .have e:i=s.2.length:=by omega
   subst e;refine aW b [(21,ae)] rfl (by simp) (AK.leaveD rfl rfl ?_);rw[dq];have g:=xL (X:=Cx.beside ag) (c8 k ps s.2);rw[ib]at g;refine b8 b rfl ay ?_;refine AK.cQ g [] rfl ?_;have F:s.2.all (λx=>(fileOf k ps x).isSome)=ab:=bC.2 λx p=>by grind[List.mem_iff_getElem]
   cases y:cC (c8 k ps s.2)with
   |false =>
    refine aW b [(51,ab)] rfl ?_ (AK.bz rfl ?_)
    .simp
    .simp[cg,y]
   |true =>
    refine aW b [(51,ae)] rfl ?_ (AK.bz rfl ?_)
    .simp
    .simp[cg,y,hk,F]
abbrev bk:=List bJ×List fe×List (Int×Int)
def kM(s:bk):Prop:=∀x∈s.2.1,x.2.length<=4000000/\∀y∈x.2,y.2.length<=4000000
abbrev po(s:bk):D:=.e (.agg [.c (.sl ae 2 s.1.length (cP.fn s.1)),.c (.sl ae 2 s.2.1.length (fi.fn s.2.1)),.c (.sl ae 2 s.2.2.length (cH.fn s.2.2))])
def eN(k:Int)(s:bk)(no:Int):Option (List bw):=match s.2.1.find? (λx=>x.1==no)with
 |none=>af
 |some x=>cg k x s.1
def uk:dv:=Fc aI (Fh cL) (aL cP) (λk s ps=>Pc ((cg k s ps).getD []) (cg k s ps).isSome) λ_ s _=>[s.2.length<=4000000,∀x∈s.2,x.2.length<=4000000]
def zj:er (Cx.beside ag) 53 uk:=.Lf λk s ps h=>C5 k s ps h.1 h.2
def A4(k:Int)(s:bk)(no:Int)(g:kM s):
  Ev (Cx.beside ag) 14 [dI k,po s,dI no] [] (Pc ((eN k s no).getD []) (eN k s no).isSome) []:=by
 refine Ev.bQ Tryz.func14 rfl λl=>?_;have b:bL (Cx.beside ag) [(51,Zu),(53,uk)]:=.cons t51 (.cons zj .nil);have d:fi.list s.2.1.length (fi.fn s.2.1)=s.2.1:=fi.list_fn _;refine aW b [(1000001,ab)] rfl ay ?_;refine AK.freeze 5 1 rfl rfl rfl ?_;rcases C1 s.2.1 no with⟨a,c⟩|⟨i,hi,a,c⟩
 .refine aW b [(14,ab)] rfl ?_ (AK.bz rfl ?_)
  .simp only[az,d,a];exact⟨rfl,fi.aO _⟩
  .simp[eN,c]
 .have h:s.2.1.getD i (0,[])∈s.2.1:=by grind
  obtain⟨j,q2⟩:=g _ h;have e:eN k s no=cg k (s.2.1.getD i (0,[])) s.1:=by simp only[eN,c]
  have f:s.2.1.getD (rl (fi.list s.2.1.length (fi.fn s.2.1)) no).toNat fi.cd=s.2.1.getD i (0,[]):=by grind
  refine aW b [(14,ae)] rfl ?_ (AK.bz rfl ?_)
  .simp only[az,f,cL.list_fn,d,a];exact⟨cL.aO _,cP.aO _,j,q2,by omega,by omega,iC (by omega),fi.aO _⟩
  .simp only[f,cL.list_fn,cP.list_fn,e];exact az.cat.2 ⟨⟨ay,cA.same⟩,az.cat.2 ⟨ay,ay⟩⟩
def S5:Arg bk:=⟨po,λd=>match d with
 |.e (.agg [.c a,.c b,.c c])=>match ky 2 (.e (.one (.c a)))with
  |some (g,l)=>match ky 2 (.e (.one (.c b)))with
   |some (k,m)=>match ky 2 (.e (.one (.c c)))with
    |some (j,n)=>aa ((cP.list g l,fi.list k m,cH.list j n),[cP.fits g l,fi.fits k m,cH.fits j n])
    |none=>af
   |none=>af
  |none=>af
 |_=>af,λ{d a o} h i σ s v r=>by
 split at h
 .split at h
  .rename_i g l u;split at h
   .rename_i k m y;split at h
    .rename_i j n x;cases h;obtain⟨vs,p,f⟩:=r
     match vs,f with
     |[],f=>exact f.elim
     |[_],f=>exact f.2.elim
     |[_,_],f=>exact f.2.2.elim
     |_::_::_::_::_,f=>exact f.2.2.2.elim
     |[t,w,q],f =>
      exact⟨_,p,cP.jH (σ:=[]) (s:=s) (v:=t) u i.1 f.1,fi.jH (σ:=[]) (s:=s) (v:=w) y i.2.1 f.2.1,cH.jH (σ:=[]) (s:=s) (v:=q) x i.2.2 f.2.2.1,ay⟩
    grind
   grind
  grind
 grind⟩
def rS:dv:=Fc aI S5 aI (λk s n=>Pc ((eN k s n).getD []) (eN k s n).isSome) λ_ s _=>[kM s]
def xM:er (Cx.beside ag) 14 rS:=.Lf λk s n h=>A4 k s n h
abbrev hI(p:bJ)(i:Nat):bo:=p.2.getD i (0,[])
def iV(k:Int)(p:bJ)(i:Nat):Bool:=right k (hI p i)&&(i==0||decide ((hI p (i-1)).1<(hI p i).1))
theorem um(k:Int)(p:bJ):gx k p=((bh p.2.length).all (iV k p)&&(b7 k&&decide (1<=p.1)&&decide (p.1<=99)&&decide (1<=p.2.length)&&decide (p.2.length<=4))):=by
 have e:(p.2.all (right k)&&A5 (p.2.map (·.1)))=(bh p.2.length).all (iV k p):=by
  rw[qt,bR,bC,bC];unfold A5;rw[bC];have c:∀i,i<p.2.length->(p.2.map (·.1)).getD i 0=(hI p i).1:=λi hi=>by grind
  constructor
  .rintro⟨b,d⟩ i hi;have hi:=mM.1 hi;have q:=d i (by grind);rw[c i hi]at q;unfold iV;rw[b (hI p i) (by grind),fO];rcases nj i with rfl|f
   .rfl
   grind
  .intro h;refine⟨λx a=>?_,λi hi=>?_⟩
   .obtain⟨i,hi,rfl⟩:=oi.1 a;have:=h i (mM.2 hi);simp only[iV,bR]at this;grind
   .have hi:i<p.2.length:=by grind
    have:=h i (mM.2 hi);simp only[iV,bR]at this;grind
 rw[<-e];unfold gx;cases b7 k<;>cases decide (1<=p.1)<;>cases decide (p.1<=99)<;>cases decide (1<=p.2.length)<;>cases decide (p.2.length<=4)<;>simp
def zk{k:Int}{p:bJ}{i:Nat}(hi:i<p.2.length)(h:iV k p i=ae):gx k p=ae:=by grind[um]
theorem rU{k:Int}{x:bo}(hk:b7 k=ab):(chunk k x).isSome=right k x:=by unfold chunk right;grind
def Iv(k:Int)(p:bJ)(hk:b7 k=ab)(t:p.2.length<=4000000):Ev X 102 [dI k,Lk p] [] (dB (gx k p)) []:=by
 refine Ev.bQ Tryz.func102 rfl λw=>?_;have a:bL X [(40,kL aI (λk=>dB (b7 k)) λ_=>[]),(150,pj UA aI (λx k=>A1 (chunk k x)) λ_ k=>[b7 k=ab])]:=.cons t40 (.cons (Lh O1) .nil);refine b8 a rfl ay ?_;refine AK.cE 1 (λi=>i<=p.2.length/\∀j,j<i->iV k p j=ab) (λi:Nat=>[(0,dI k),(3,.e (.one (.ptr 0 0))),(10,eg.sl p.2),(11,dI p.2.length),(12,dI i)]) (λ_=>[.cells 67 [.c (.int .i64 p.1),.c (sP p)]]) (λi=>p.2.length-i) 0 rfl ?_ rfl ?_ rfl ⟨by omega,by omega⟩ ?_
 .simp
 .simp
 rintro i ⟨hi,g⟩;by_cases h:i<p.2.length
 .cases l:right k (hI p i)with
  |false =>
   have o:(chunk k (hI p i)).isSome=ae:=by grind[rU]
   refine aW a [(13,ab),(24,ab),(40,ab)] rfl ?_ (AK.fQ (cw.zero rfl ?_))
   .refine⟨rfl,?_,hk,by omega,by omega,dc (by omega)⟩;grind
   .rw[zk h (by simp only[iV,l,ss])];simp
  |true =>
   have o:(!(chunk k (hI p i)).isSome)=ae:=by grind[rU]
   by_cases v:i=0
   .subst v;refine aW a [(13,ab),(24,ae),(27,ae),(40,ae)] rfl ?_ (AK.aQ 1 rfl ?_ ?_ ⟨by omega,λj f=>?_⟩ (by omega))
    .simp only[az,bD];grind
    .simp
    .simp
    .have:j=0:=by omega
     subst this;simp only[iV,l,fO];rfl
   .have r:((i:Int)-1).toNat=i-1:=by omega
    cases s:decide ((hI p (i-1)).1<(hI p i).1)with
    |false =>
     refine aW a [(13,ab),(24,ae),(27,ab),(38,ab),(40,ab)] rfl ?_ (AK.fQ (cw.zero rfl ?_))
     .have m:(p.2.getD ((i:Int)-1).toNat eg.cd).1=(hI p (i-1)).1:=by rw[r];rfl
      refine⟨rfl,dc ?_,by omega,by omega,by simp only[bD];omega,dc (by omega),o,hk,by omega,by omega,dc (by omega)⟩;rw[m];show(hI p i).1<=_;grind
     .rw[zk h (by simp only[iV,l,s,fO,Bool.or_false];grind)];simp
    |true =>
     refine aW a [(13,ab),(24,ae),(27,ab),(38,ae),(40,ae)] rfl ?_ (AK.aQ (i+1) rfl ?_ ?_ ⟨by omega,λj f=>?_⟩ (by omega))
     .have m:(p.2.getD ((i:Int)-1).toNat eg.cd).1=(hI p (i-1)).1:=by rw[r];rfl
      refine⟨by simp only[bD];omega,rfl,iC ?_,by omega,by omega,by simp only[bD];omega,dc (by omega),o,hk,by omega,by omega,dc (by omega)⟩;rw[m];show¬(hI p i).1<=_;grind
     .simp
     .simp
     .rcases vC.1 f with f|rfl
      .grind
      .simp only[iV,l,s,fO,Bool.or_true]
 .have e:i=p.2.length:=by omega
  subst e;refine aW a [(13,ae)] rfl (by simp) (AK.leaveD rfl rfl ?_);have u:(bh p.2.length).all (iV k p)=ab:=bC.2 λj f=>g j (mM.1 f);rw[um,u,hk];by_cases b:1<=p.1
  .by_cases d:p.1<=99
   .by_cases n:1<=p.2.length
    .by_cases q:p.2.length<=4
     .refine aW a [(43,ab),(47,ab),(52,ab),(58,ab),(64,ab)] rfl ?_ (AK.bz rfl ?_)
      .exact⟨dc (by omega),dc (by omega),dc d,dc b,hk⟩
      .simp[b,d,n,q]
     .refine aW a [(43,ab),(47,ab),(52,ab),(58,ab),(64,ae)] rfl ?_ (AK.bz rfl ?_)
      .exact⟨iC (by omega),dc (by omega),dc d,dc b,hk⟩
      .simp[b,d,n,q]
    .refine aW a [(43,ab),(47,ab),(52,ab),(58,ae)] rfl ?_ (AK.bz rfl ?_)
     .exact⟨iC (by omega),dc d,dc b,hk⟩
     .simp[b,d,n]
   .refine aW a [(43,ab),(47,ab),(52,ae)] rfl ?_ (AK.bz rfl ?_)
    .exact⟨iC d,dc b,hk⟩
    .simp[b,d]
  .refine aW a [(43,ab),(47,ae)] rfl ?_ (AK.bz rfl ?_)
   .exact⟨iC b,hk⟩
   .simp[b]
def A6:dv:=pj aI (Fh eg) (λk p=>dB (gx k p)) λk p=>[b7 k=ab,p.2.length<=4000000]
def G8:er X 102 A6:=.tf λk p h=>Iv k p h.1 h.2
def zl(l:List (Int×Int))(f:l.length<=4000000):Ev X 83 [cH.sl l] [] (.e (.one (.bp 0 (.sl l.length 2 0 l.length)))) [.buf 48 2 l.length (cH.fn l)]:=by
 refine Ev.bQ Tryz.func83 rfl λd=>?_;refine bt rfl ay ?_;refine AK.GQ tok rfl rfl rfl rfl rfl rfl λb c=>?_;cases b with
 |true =>
  obtain rfl:=jv (c rfl);refine bt rfl ay ?_;refine AK.VP 2 48 2 (cH.fn []) rfl ?_;refine AK.dk [0] rfl ?_ rfl rfl rfl (λj a=>absurd a (by simp));simp
 |false =>
  refine oK [] 7 rfl ay ?_;refine AK.GP 5 48 2 (cH.fn []) rfl ?_;refine bt rfl ⟨rfl,rfl,show(0+l.length)*16<=_ by omega⟩ ?_;refine AK.norm [.buf 48 2 l.length (cH.fn l)] rfl ?_ ?_
  .simp[cA,cK]
  refine AK.dk [0] rfl ?_ rfl rfl rfl (λj a=>absurd a (by simp));simp;rfl
def Fu(l:List (Int×Int))(d:l.length<=4000000):Ev X 83 [cH.sl l] [] (cH.sl l) []:=by
 refine Ev.bQ Tryz.func83 rfl λc=>?_;refine bt rfl ay ?_;refine AK.GQ tok rfl rfl rfl rfl rfl rfl λb a=>?_;cases b with
 |true =>
  obtain rfl:=jv (a rfl);refine bt rfl ay ?_;refine AK.bz rfl ?_;simp[cA]
 |false =>
  refine bt rfl ⟨show(0+l.length)*16<=_ by omega,.inl rfl⟩ ?_;refine AK.bz rfl ?_;simp[cA,cK]
def Fv(l:List bo)(d:l.length<=4000000):Ev X 132 [eg.sl l] [] (eg.sl l) []:=by
 refine Ev.bQ Tryz.func132 rfl λc=>?_;refine bt rfl ay ?_;refine AK.GQ tok rfl rfl rfl rfl rfl rfl λb a=>?_;cases b with
 |true =>
  obtain rfl:=jv (a rfl);refine bt rfl ay ?_;refine AK.bz rfl ?_;simp[cA]
 |false =>
  refine bt rfl ⟨show(0+l.length)*24<=_ by omega,.inl rfl⟩ ?_;refine AK.bz rfl ?_;simp[cA,cK]
def Fw(l:List Int)(d:l.length<=4000000):Ev X 133 [cI.sl l] [] (cI.sl l) []:=by
 refine Ev.bQ Tryz.func133 rfl λc=>?_;refine bt rfl ay ?_;refine AK.GQ tok rfl rfl rfl rfl rfl rfl λb a=>?_;cases b with
 |true =>
  obtain rfl:=jv (a rfl);refine bt rfl ay ?_;refine AK.bz rfl ?_;simp[cA]
 |false =>
  refine bt rfl ⟨show(0+l.length)*8<=_ by omega,.inl rfl⟩ ?_;refine AK.bz rfl ?_;simp[cA,cK]
def _root_.Go.AM.mI.kW{α:Type}(c:mI α)(l:List α){i:Nat}(h:i<l.length)(d:α):cA (i+1) (cK i (c.fn (l.take i)) (λq=>[c.enc (l.getD i d)].getD q [])) (c.fn (l.take (i+1))):=by
 have e:l.take (i+1)=l.take i++[l.getD i d]:=by grind[List.take_add_one]
 have:=c.cy (l.take i) (l.getD i d);grind
abbrev We:dv:=kL (aL eg) (λl=>eg.sl l) λl=>[l.length<=4000000]
def ZH:er X 132 We:=.pS λl h=>Fv l h
abbrev Wf:dv:=kL (aL cI) (λl=>cI.sl l) λl=>[l.length<=4000000]
def ZI:er X 133 Wf:=.pS λl h=>Fw l h
def Ba(p:bJ)(b:p.2.length<=4000000):Ev X 81 [Lk p] [] (Lk p) []:=by
 refine Ev.rj tok Tryz.func81 rfl rfl rfl λd=>?_;have a:bL X [(132,We)]:=.cons ZH .nil;refine b8 a rfl ?_ ?_
 .simp only[az,eg.list_fn];exact⟨eg.aO _,b⟩
 refine AK.mZ () [] rfl rfl rfl rfl rfl rfl rfl rfl ?_ rfl rfl rfl rfl (λj c=>absurd c (by simp));simp[eg.list_fn]
abbrev Lz:dv:=kL (Fh eg) (λp=>Lk p) λp=>[p.2.length<=4000000]
def Ra:er X 81 Lz:=.pS λp h=>Ba p h
def Bb(x:fe)(l:x.2.length<=4000000)(g:∀y∈x.2,y.2.length<=4000000):Ev X 82 [NN x] [] (NN x) []:=by
 refine Ev.rj tok Tryz.func82 rfl rfl rfl λk=>?_;have a:bL X [(133,Wf)]:=.cons ZI .nil;refine aW a [(1000002,ab)] rfl ay ?_;refine AK.hZ 2 1 140 2 (cL.fn []) rfl rfl ?_;refine b8 a rfl ay ?_;refine AK.cE 4 (λi=>i<=x.2.length) (λi:Nat=>[(2,.e (.one (.ptr 1 0))),(3,.e (.one (.ptr 2 0))),(10,cL.sl x.2),(11,dI x.2.length),(12,dI i)])
  (λi=>[.cells 71 [.c (.int .i64 x.1),.c (.sl ae 2 x.2.length (cL.fn x.2))],.cells 71 [.c (.int .i64 0),.c (.sl ab 0 0 λ_=>[])],.cells 71 [.c (.int .i64 x.1),.vec 3 2 i (cL.fn (x.2.take i))],.vec 140 2 i (cL.fn (x.2.take i))]) (λi=>x.2.length-i) 0 rfl ?_ rfl ?_ rfl (by omega) ?_
 .simp
 .simp[cA]
 intro i hi;by_cases h:i<x.2.length
 .have f:x.2.getD i ([],[])∈x.2:=by grind
  refine aW a [(13,ab)] rfl ?_ (AK.aQ (i+1) rfl ?_ ?_ ?_ ?_)
  .have q:=g _ f;have b:x.2.getD (i:Int).toNat cL.cd=x.2.getD i ([],[]):=by grind
   simp only[az,b,cI.list_fn,bD];exact⟨by omega,ay,ay,show(i+1)*40<=_ by omega,cI.aO _,q,by omega,by omega,dc (by omega)⟩
  .simp
  .have b:x.2.getD (i:Int).toNat cL.cd=x.2.getD i ([],[]):=by grind
   have e:=cL.kW x.2 h ([],[]);simp only[az.cat,az,b,cI.list_fn,aE,aG];exact⟨cA.same,cA.same,e,e⟩
  .grind
  .omega
 .obtain rfl:i=x.2.length:=by omega
  refine aW a [(13,ae)] rfl (by simp) (AK.leaveD rfl rfl ?_);refine b8 a rfl ay ?_;refine AK.mZ () [] rfl rfl rfl rfl rfl rfl rfl rfl ?_ rfl rfl rfl rfl (λj d=>absurd d (by simp));simp[cA]
abbrev LA:dv:=kL (Fh cL) (λx=>NN x) λx=>[x.2.length<=4000000,∀y∈x.2,y.2.length<=4000000]
def Rb:er X 82 LA:=.pS λx h=>Bb x h.1 h.2
abbrev gU:A:=.c (.sl ab 0 0 λ_=>[])
def xQ(s:bk)(n:s.1.length<=4000000)(f:∀p∈s.1,p.2.length<=4000000)(m:s.2.1.length<=4000000)(g:kM s)(l:s.2.2.length<=4000000):
  Ev X 28 [po s] [] (.e (.agg [.bp 0 (.sl s.1.length 2 0 s.1.length),.bp 1 (.sl s.2.1.length 2 0 s.2.1.length),.c (.sl ae 2 s.2.2.length (cH.fn s.2.2))])) [.buf 67 2 s.1.length (cP.fn s.1),.buf 71 2 s.2.1.length (fi.fn s.2.1)]:=by
 refine Ev.rj tok Tryz.func28 rfl rfl rfl λo=>?_;have a:bL X [(81,Lz),(82,LA)]:=.cons Ra (.cons Rb .nil);refine aW a [(1000002,ab)] rfl ay ?_;refine AK.te 2 0 67 2 (cP.fn []) rfl rfl ?_;refine AK.te 2 1 71 2 (fi.fn []) rfl rfl ?_;refine b8 a rfl ay ?_;refine AK.cE 5 (λi=>i<=s.1.length) (λi:Nat=>[(1,.e (.one (.ptr 0 0))),(2,.e (.one (.ptr 1 0))),(3,.e (.one (.ptr 2 0))),(9,cP.sl s.1),(10,dI s.1.length),(11,dI i)])
  (λi=>[.cells 27 [.c (.sl ae 2 s.1.length (cP.fn s.1)),.c (.sl ae 2 s.2.1.length (fi.fn s.2.1)),.c (.sl ae 2 s.2.2.length (cH.fn s.2.2))],.cells 27 [gU,gU,gU],.cells 27 [.bp 3 (.sl i 2 0 i),.bp 4 (.sl 0 2 0 0),gU],.buf 67 2 i (cP.fn (s.1.take i)),.buf 71 2 0 (fi.fn [])]) (λi=>s.1.length-i) 0 rfl ?_ rfl ?_ rfl (by omega) ?_
 .simp
 .simp[cA]
 intro i hi;by_cases h:i<s.1.length
 .have d:s.1.getD i (0,[])∈s.1:=by grind
  have b:s.1.getD (i:Int).toNat cP.cd=s.1.getD i (0,[]):=by grind
  refine aW a [(12,ab)] rfl ?_ (AK.aQ (i+1) rfl ?_ ?_ ?_ ?_)
  .have q:=f _ d;simp only[az,b,eg.list_fn,bD];exact⟨by omega,ay,ay,show(i+1)*32<=_ by omega,eg.aO _,q,by omega,by omega,dc (by omega)⟩
  .simp
  .have e:=cP.kW s.1 h (0,[]);simp only[az.cat,az,b,eg.list_fn,aE,aG];exact⟨⟨cA.same,cA.same,cA.same⟩,⟨cA.same,cA.same,cA.same⟩,⟨rfl,cA.same⟩,e,cA.same⟩
  .grind
  .omega
 obtain rfl:i=s.1.length:=by omega
 rw[dq];refine aW a [(12,ae)] rfl (by simp) (AK.leaveD rfl rfl ?_);refine b8 a rfl ay ?_;refine AK.cE 5 (λi=>i<=s.2.1.length) (λi:Nat=>[(1,.e (.one (.ptr 0 0))),(2,.e (.one (.ptr 1 0))),(3,.e (.one (.ptr 2 0))),(24,fi.sl s.2.1),(25,dI s.2.1.length),(26,dI i)])
  (λi=>[.cells 27 [.c (.sl ae 2 s.1.length (cP.fn s.1)),.c (.sl ae 2 s.2.1.length (fi.fn s.2.1)),.c (.sl ae 2 s.2.2.length (cH.fn s.2.2))],.cells 27 [gU,gU,gU],.cells 27 [.bp 3 (.sl s.1.length 2 0 s.1.length),.bp 4 (.sl i 2 0 i),gU],.buf 67 2 s.1.length (cP.fn s.1),.buf 71 2 i (fi.fn (s.2.1.take i))]) (λi=>s.2.1.length-i) 0 rfl ?_ rfl ?_ rfl (by omega) ?_
 .simp
 .simp[cA]
 intro i hi;by_cases h:i<s.2.1.length
 .have d:s.2.1.getD i (0,[])∈s.2.1:=by grind
  have b:s.2.1.getD (i:Int).toNat fi.cd=s.2.1.getD i (0,[]):=by grind
  refine aW a [(27,ab)] rfl ?_ (AK.aQ (i+1) rfl ?_ ?_ ?_ ?_)
  .have q:=g _ d;simp only[az,b,cL.list_fn,bD];exact⟨by omega,ay,ay,show(i+1)*32<=_ by omega,cL.aO _,q.1,q.2,by omega,by omega,dc (by omega)⟩
  .simp
  .have e:=fi.kW s.2.1 h (0,[]);simp only[az.cat,az,b,cL.list_fn,aE,aG];exact⟨⟨cA.same,cA.same,cA.same⟩,⟨cA.same,cA.same,cA.same⟩,⟨rfl,cA.same⟩,cA.same,e⟩
  .grind
  .omega
 obtain rfl:i=s.2.1.length:=by omega
 rw[dq];refine aW a [(27,ae)] rfl (by simp) (AK.leaveD rfl rfl ?_);refine b8 a rfl ay ?_;refine AK.cQ (Fu s.2.2 l) [] rfl ?_;refine b8 a rfl ay ?_;refine AK.mZ () [3,4] rfl rfl rfl rfl rfl rfl rfl rfl ?_ rfl rfl rfl rfl (λj k=>absurd k (by simp))
 .simp
def xR(s:bk)(n:s.1.length<=4000000)(f:∀p∈s.1,p.2.length<=4000000)(m:s.2.1.length<=4000000)(g:kM s)(l:s.2.2.length<=4000000):
  Ev X 28 [po s] [] (.e (.agg [.bp 0 (.sl s.1.length 2 0 s.1.length),.bp 1 (.sl s.2.1.length 2 0 s.2.1.length),.bp 2 (.sl s.2.2.length 2 0 s.2.2.length)])) [.buf 67 2 s.1.length (cP.fn s.1),.buf 71 2 s.2.1.length (fi.fn s.2.1),.buf 48 2 s.2.2.length (cH.fn s.2.2)]:=by
 refine Ev.rj tok Tryz.func28 rfl rfl rfl λo=>?_;have a:bL X [(81,Lz),(82,LA)]:=.cons Ra (.cons Rb .nil);refine aW a [(1000002,ab)] rfl ay ?_;refine AK.te 2 0 67 2 (cP.fn []) rfl rfl ?_;refine AK.te 2 1 71 2 (fi.fn []) rfl rfl ?_;refine b8 a rfl ay ?_;refine AK.cE 5 (λi=>i<=s.1.length) (λi:Nat=>[(1,.e (.one (.ptr 0 0))),(2,.e (.one (.ptr 1 0))),(3,.e (.one (.ptr 2 0))),(9,cP.sl s.1),(10,dI s.1.length),(11,dI i)])
  (λi=>[.cells 27 [.c (.sl ae 2 s.1.length (cP.fn s.1)),.c (.sl ae 2 s.2.1.length (fi.fn s.2.1)),.c (.sl ae 2 s.2.2.length (cH.fn s.2.2))],.cells 27 [gU,gU,gU],.cells 27 [.bp 3 (.sl i 2 0 i),.bp 4 (.sl 0 2 0 0),gU],.buf 67 2 i (cP.fn (s.1.take i)),.buf 71 2 0 (fi.fn [])]) (λi=>s.1.length-i) 0 rfl ?_ rfl ?_ rfl (by omega) ?_
 .simp
 .simp[cA]
 intro i hi;by_cases h:i<s.1.length
 .have d:s.1.getD i (0,[])∈s.1:=by grind
  have b:s.1.getD (i:Int).toNat cP.cd=s.1.getD i (0,[]):=by grind
  refine aW a [(12,ab)] rfl ?_ (AK.aQ (i+1) rfl ?_ ?_ ?_ ?_)
  .have q:=f _ d;simp only[az,b,eg.list_fn,bD];exact⟨by omega,ay,ay,show(i+1)*32<=_ by omega,eg.aO _,q,by omega,by omega,dc (by omega)⟩
  .simp
  .have e:=cP.kW s.1 h (0,[]);simp only[az.cat,az,b,eg.list_fn,aE,aG];exact⟨⟨cA.same,cA.same,cA.same⟩,⟨cA.same,cA.same,cA.same⟩,⟨rfl,cA.same⟩,e,cA.same⟩
  .grind
  .omega
 obtain rfl:i=s.1.length:=by omega
 rw[dq];refine aW a [(12,ae)] rfl (by simp) (AK.leaveD rfl rfl ?_);refine b8 a rfl ay ?_;refine AK.cE 5 (λi=>i<=s.2.1.length) (λi:Nat=>[(1,.e (.one (.ptr 0 0))),(2,.e (.one (.ptr 1 0))),(3,.e (.one (.ptr 2 0))),(24,fi.sl s.2.1),(25,dI s.2.1.length),(26,dI i)])
  (λi=>[.cells 27 [.c (.sl ae 2 s.1.length (cP.fn s.1)),.c (.sl ae 2 s.2.1.length (fi.fn s.2.1)),.c (.sl ae 2 s.2.2.length (cH.fn s.2.2))],.cells 27 [gU,gU,gU],.cells 27 [.bp 3 (.sl s.1.length 2 0 s.1.length),.bp 4 (.sl i 2 0 i),gU],.buf 67 2 s.1.length (cP.fn s.1),.buf 71 2 i (fi.fn (s.2.1.take i))]) (λi=>s.2.1.length-i) 0 rfl ?_ rfl ?_ rfl (by omega) ?_
 .simp
 .simp[cA]
 intro i hi;by_cases h:i<s.2.1.length
 .have d:s.2.1.getD i (0,[])∈s.2.1:=by grind
  have b:s.2.1.getD (i:Int).toNat fi.cd=s.2.1.getD i (0,[]):=by grind
  refine aW a [(27,ab)] rfl ?_ (AK.aQ (i+1) rfl ?_ ?_ ?_ ?_)
  .have q:=g _ d;simp only[az,b,cL.list_fn,bD];exact⟨by omega,ay,ay,show(i+1)*32<=_ by omega,cL.aO _,q.1,q.2,by omega,by omega,dc (by omega)⟩
  .simp
  .have e:=fi.kW s.2.1 h (0,[]);simp only[az.cat,az,b,cL.list_fn,aE,aG];exact⟨⟨cA.same,cA.same,cA.same⟩,⟨cA.same,cA.same,cA.same⟩,⟨rfl,cA.same⟩,cA.same,e⟩
  .grind
  .omega
 obtain rfl:i=s.2.1.length:=by omega
 rw[dq];refine aW a [(27,ae)] rfl (by simp) (AK.leaveD rfl rfl ?_);refine b8 a rfl ay ?_;refine AK.cQ (zl s.2.2 l) [] rfl ?_;refine b8 a rfl ay ?_;refine AK.mZ () [3,4,5] rfl rfl rfl rfl rfl rfl rfl rfl ?_ rfl rfl rfl rfl (λj k=>absurd k (by simp))
 .simp
def Wt{o:au}{x y:aq}(h:o.op=.call {callee:=.builtin .append,args:=#[x,y],argTypes:=#[65,65]}):lL ag o x y 76 i76 :=
 ⟨⟨65,65,i65,i65,h,(tok _ _ rfl),rfl,(tok _ _ rfl),rfl⟩,(tok _ _ rfl),by decide,by decide⟩
def Hk(l:List bo)(n:Nat):∀i,i<n->∀c∈eg.fn l i,vk c=ab:=by
 intro i _ c a;have:eg.fn l i=[.int .i64 (l.getD i eg.cd).1,.str (l.getD i eg.cd).2]:=rfl;rw[this]at a;rcases eB.1 a with rfl|a
 .rfl
 .rcases eB.1 a with rfl|a
  .rfl
  grind
abbrev Own(l:List bo):Type:={q:nD×List ah // gy 2 l.length (eg.fn l) q.2}
abbrev IG(l:List bo)(q:Own l):aR:=.cm (gf 76 2 q.1.1 l.length q.1.2)
abbrev Bh(l:List bo)(q:Own l):C:=.val (lA q.1.1 l.length)
abbrev S3:Type:=Nat×nD×Nat×List ah
abbrev u3(x:S3):ah:=lA x.2.1 x.2.2.1
def Bc{α:Type}(q:α->Bool)(l:List α):Int:=match l.findIdx? q with|some i=>i|none=>-1
def Pk{α:Type}{q:α->Bool}{t:List α}{i:Nat}{d:α}(hi:i<t.length)(h:q (t.getD i d)=ab)(a:∀j,j<i->q (t.getD j d)=ae):Bc q t=i:=by
 have:t.findIdx? q=aa i:=by grind[List.findIdx?_eq_some_iff_getElem]
 rw[Bc,this]
def Iz{α:Type}{q:α->Bool}{t:List α}{d:α}(a:∀j,j<t.length->q (t.getD j d)=ae):Bc q t=-1:=by
 have:t.findIdx? q=af:=by grind[List.getElem_of_mem]
 rw[Bc,this]
def Fx{lo hi j:Nat}{z:List C}{es:Nat->List C}(h:¬(lo<=j/\j<hi)):tU lo hi z es j=es j:=aY h
theorem bY{α:Type}{l:List α}{i:Nat}(h:i<l.length)(d:α):l.take (i+1)=l.take i++[l.getD i d]:=by grind[List.take_add_one]
def _root_.Go.AM.mI.Tf{α:Type}(c:mI α)(l:List α)(i:Nat)(x:α)(n:Nat)(a:n<=l.length):cA n (pH i (c.enc x) (c.fn l)) (c.fn (l.set i x)):=by intro q b;simp only[pH,mI.fn,Bd];grind
abbrev ZJ:=Int×Int×Int×Bs
abbrev UD(cs:List C):D:=.e (.one (.c (.rp cs)))
abbrev Hc(ps:List bJ):C:=.sl ae 2 ps.length (cP.fn ps)
abbrev Fy(a:List fe):C:=.sl ae 2 a.length (fi.fn a)
abbrev Db(a:List (Int×Int)):C:=.sl ae 2 a.length (cH.fn a)
def NH(s:bk)(l:ZJ)(n:Nat)(a:l.2.1=n)(h:n<=s.2.2.length):az (fY s.2.2.length (aa l.2.1) af):=by show 0<=l.2.1/\l.2.1<=(s.2.2.length:Int);omega
def Tg(n lo hi:Int):Ev X 23 [dI n,dI lo,dI hi] [] (dB (decide (lo<=n/\n<=hi))) []:=by
 refine Ev.bQ Tryz.func23 rfl λc=>?_;by_cases b:lo<=n
 .by_cases a:n<=hi
  .refine aX [(10,ab),(14,ab)] rfl (by simp;omega) (AK.bz rfl ?_);simp[b,a]
  .refine aX [(10,ab),(14,ae)] rfl (by simp;omega) (AK.bz rfl ?_);simp;omega
 .refine aX [(10,ae),(14,ae)] rfl (by simp;omega) (AK.bz rfl ?_);simp;omega
abbrev Dc:dv:=Fc aI aI aI (λn lo hi=>dB (decide (lo<=n/\n<=hi))) λ_ _ _=>[]
def Fz:er X 23 Dc:=.Lf λn lo hi _=>Tg n lo hi
def IA(n:Nat)(f:n<=4000000):Ev X 156 [dI n] [] (dI (cO n)) []:=by
 refine Ev.bQ Tryz.func156 rfl λe=>?_;by_cases c:n<1
 .refine aX [(6,ab),(9,ab)] rfl (by simp;omega) (AK.bz rfl ?_);have:cO n=0:=by simp[cO,c]
  simp[this]
 by_cases d:8<n
 .refine aX [(6,ae),(9,ab)] rfl (by simp;omega) (AK.bz rfl ?_);have:cO n=0:=by simp[cO,d]
  simp[this]
 by_cases a:n<=2
 .refine aX [(6,ae),(9,ae),(10,ab)] rfl (by simp;omega) (AK.bz rfl ?_);have:cO n=2:=by simp only[cO,aY (show¬(n<1∨8<n) by omega),bl a]
  simp[this]
 by_cases b:n<=4
 .refine aX [(6,ae),(9,ae),(10,ae),(13,ab)] rfl (by simp;omega) (AK.bz rfl ?_);have:cO n=4:=by simp only[cO,aY (show¬(n<1∨8<n) by omega),aY a,bl b]
  simp[this]
 .refine aX [(6,ae),(9,ae),(10,ae),(13,ae)] rfl (by simp;omega) (AK.bz rfl ?_);have:cO n=8:=by simp only[cO,aY (show¬(n<1∨8<n) by omega),aY a,aY b]
  simp[this]
def Pl(l:List Bs)(p:Bs)(d:l.length<=4000000):Ev X 114 [cS.sl l,dS p] [] (dB (l.contains p)) []:=by
 refine Ev.bQ Tryz.func114 rfl λc=>?_;refine bt rfl ay ?_;refine AK.cE 0 (λi=>i<=l.length/\∀j,j<i->l.getD j []≠p) (λi:Nat=>[(0,cS.sl l),(1,dS p),(5,dI i)]) (λ_=>[]) (λi=>l.length-i) 0 rfl ?_ rfl ?_ rfl ⟨by omega,by omega⟩ ?_
 .simp
 .simp
 rintro i ⟨hi,a⟩;by_cases h:i<l.length
 .have b:l.getD (i:Int).toNat cS.cd=l.getD i []:=by grind
  by_cases e:l.getD i []=p
  .refine aX [(9,ab),(17,ab)] rfl ?_ (AK.fQ (cw.zero rfl ?_))
   .simp only[az,b];grind
   .have:p∈l:=by grind
    simp[this]
  .refine aX [(9,ab),(17,ae)] rfl ?_ (AK.aQ (i+1) rfl ?_ ?_ ?_ ?_)
   .simp only[az,b,bD];grind
   .simp
   .simp
   .grind
   .omega
 .refine aX [(9,ae)] rfl (by simp;omega) (AK.leaveD rfl rfl ?_);refine bt rfl ay (AK.bz rfl ?_);have:¬p∈l:=λf=>by grind[List.getElem_of_mem]
  simp[this]
def LB(p:Bs)(b:bx p=ab):Ev X 155 [dS p] [] (dI (codeOf p)) []:=by
 refine Ev.bQ Tryz.func155 rfl λj=>?_;have a:=b;simp only[bx,bR,a9]at a;refine bt rfl ay ?_;refine AK.cE 0 (λi=>i<=p.length) (λi:Nat=>[(0,dS p),(3,dI (codeOf (p.take i))),(4,dI i)]) (λ_=>[]) (λi=>p.length-i) 0 rfl (by simp[codeOf]) rfl (by simp) rfl (by omega) ?_;intro i hi;by_cases h:i<p.length
 .have k:=ki b hi;have g:=ki b (i:=i+1) (by omega);have e:=uX h;have f:=gZ a.2 (p.getD i 0) (xE h);have c:97<=cT p i/\cT p i<=122:=by unfold cT;omega
  refine aX [(8,ab)] rfl ?_ (AK.aQ (i+1) rfl ?_ ?_ ?_ ?_)
  .simp only[az,cU,bD];grind
  .have d:(cT p i-97) % 256=cT p i-97:=Int.emod_eq_of_lt (by omega) (by omega);rw[d]at e;simp[-ak,cU,e]
  .simp
  .grind
  grind
 .obtain rfl:i=p.length:=by omega
  refine aX [(8,ae)] rfl (by simp) (AK.leaveD rfl rfl ?_);exact bt rfl ay (AK.bz rfl)
def Th:er X 155 (kL aS (λp=>dI (codeOf p)) λp=>[bx p=ab]):=.pS λp h=>LB p h
def LC(k:Int)(p:Bs)(hk:b7 k=ab)(b:bx p=ab):Ev X 113 [dI k,dS p] [] (dI (dA k p)) []:=by
 refine Ev.bQ Tryz.func113 rfl λg=>?_;have f:bL X [(155,kL aS (λp=>dI (codeOf p)) λp=>[bx p=ab])]:=.cons Th .nil;have a:=hk;simp only[b7,bR,a9]at a;have d:=qM b;refine b8 f rfl ?_ (AK.bz rfl ?_)
 .have e:0<=codeOf p*(2*k+1):=Int.mul_nonneg d.1 (by omega);have c:codeOf p*(2*k+1)<=282429536481*199:=Int.mul_le_mul (by omega) (by omega) (by omega) (by omega);generalize codeOf p*(2*k+1)=m at e c;simp only[az,bD];grind
 .show (_:Int)=_;rfl
def xS:er X 113 (pj aI aS (λk p=>dI (dA k p)) λk p=>[b7 k=ab,bx p=ab]):=.tf λk p h=>LC k p h.1 h.2
def LD(l:List cn)(n:Int)(d:l.length<=4000000):Ev X 112 [pn.sl l,dI n] [] (dI (kl l n)) []:=by
 refine Ev.bQ Tryz.func112 rfl λc=>?_;refine bt rfl ay ?_;refine AK.cE 0 (λi=>i<=l.length/\∀j,j<i->(l.getD j (0,0)).1≠n) (λi:Nat=>[(0,pn.sl l),(1,dI n),(5,dI i)]) (λ_=>[]) (λi=>l.length-i) 0 rfl ?_ rfl ?_ rfl ⟨by omega,by omega⟩ ?_
 .simp
 .simp
 rintro i ⟨hi,b⟩;by_cases h:i<l.length
 .have a:l.getD (i:Int).toNat pn.cd=l.getD i (0,0):=by grind
  by_cases e:(l.getD i (0,0)).1=n
  .refine aX [(9,ab),(18,ab)] rfl ?_ (AK.fQ (cw.zero rfl ?_))
   .simp only[az,a];grind
   .have:kl l n=(l.getD i (0,0)).2:=by
     have:l.find? (λs=>s.1==n)=aa (l.getD i (0,0)):=by grind[List.find?_eq_some_iff_getElem]
     rw[kl,this]
    simp only[az,a];grind
  .refine aX [(9,ab),(18,ae)] rfl ?_ (AK.aQ (i+1) rfl ?_ ?_ ?_ ?_)
   .simp only[az,a,bD];grind
   .simp
   .simp
   .grind
   .omega
 .refine aX [(9,ae)] rfl (by simp;omega) (AK.leaveD rfl rfl ?_);refine bt rfl ay (AK.bz rfl ?_);have:kl l n=0:=by
   have:l.find? (λs=>s.1==n)=af:=by grind[List.getElem_of_mem]
   rw[kl,this]
  simp[this]
theorem xT{n:Nat}(b:1<=n)(a:n<=8):n<=cO n/\cO n<=8:=by unfold cO;grind
abbrev Hd:dv:=kL aI (λn=>dI (cO n.toNat)) λn=>[0<=n/\n<=4000000]
def Pm:er X 156 Hd:=.pS λn h=>by
 obtain⟨m,rfl⟩:∃m:Nat,n=m:=⟨n.toNat,by have:=h.1;omega⟩
 exact IA m (by have:=h.2;omega)
def Pn(p:Bs)(c:bx p=ab):Ev X 118 [dS p] [] (dS (eY p)) []:=by
 refine Ev.bQ Tryz.func118 rfl λf=>?_;have b:bL X [(156,Hd)]:=.cons Pm .nil;have a:=c;simp only[bx,bR,a9]at a;have g:=xT a.1.1 a.1.2;refine b8 b rfl ?_ ?_
 .simp only[az];omega
 refine AK.cE 0 (λj=>p.length+j<=cO p.length) (λj:Nat=>[(0,dS (p++List.replicate j 46)),(3,dI (cO p.length))]) (λ_=>[]) (λj=>cO p.length-j) 0 rfl (by simp) rfl (by simp) rfl (by omega) ?_;intro j d;by_cases h:p.length+j<cO p.length
 .refine aW b [(10,ab)] rfl ?_ (AK.aQ (j+1) rfl ?_ ?_ ?_ ?_)
  .simp;omega
  .simp[List.replicate_succ']
  .simp
  .grind
  grind
 .have e:cO p.length-p.length=j:=by omega
  refine aW b [(10,ae)] rfl (by simp;omega) (AK.leaveD rfl rfl ?_);refine b8 b rfl ay (AK.bz rfl ?_);simp[eY,c,e]
def LF(s:cn):Ev X 115 [.e (.agg [.c (.int .i64 s.1),.c (.int .i64 s.2)])] [] (dB (eu s)) []:=by
 refine Ev.bQ Tryz.func115 rfl λf=>?_;have b:bL X [(23,Dc)]:=.cons Fz .nil;by_cases a:0<=s.1/\s.1<=999999999988
 .by_cases d:1<=s.2/\s.2<=99
  .refine aW b [(6,ab),(10,ab)] rfl (by simp[a,d]) (AK.bz rfl ?_);have:eu s=ab:=by simp[eu,a,d];omega
   simp[this]
  .refine aW b [(6,ab),(10,ae)] rfl (by simp[a,d]<;>omega) (AK.bz rfl ?_);have:eu s=ae:=by simp[eu,a];omega
   simp[this]
 .refine aW b [(6,ae),(10,ae)] rfl (by simp;omega) (AK.bz rfl ?_);have:eu s=ae:=by simp[eu];omega
  simp[this]
abbrev LG:dv:=kL UB (λs=>dB (eu s)) λ_=>[]
def Ti:er X 115 LG:=.pS λs _=>LF s
def L9{α:Type}{q:α->Bool}{l:List α}(h:l.any q=ab):0<=Bc q l:=by unfold Bc;grind
theorem Ma{α:Type}{q:α->Bool}{l:List α}(h:l.any q=ae):Bc q l=-1:=by unfold Bc;grind
def Mb(l:List (Int×Int))(b:Nat)(q:Int×Int->Bool)(n:∀x,x∈l->Ev X b [.e (.agg [.c (.int .i64 x.1),.c (.int .i64 x.2)])] [] (dB (q x)) []):
  Ev X 148 [cH.sl l,.e (.one (.c (.fn (.func b) [] [])))] [] (dI (Bc q l)) []:=by
 refine Ev.bQ Tryz.func148 rfl λg=>?_;have d:=g.sl 0 rfl;refine bt rfl ay ?_;refine AK.kg (λi=>i<=l.length/\∀j,j<i->q (l.getD j (0,0))=ae) (λi:Nat=>[(0,cH.sl l),(1,.e (.one (.c (.fn (.func b) [] [])))),(7,dI l.length),(8,dI i)]) (λ_=>[]) (λi=>l.length-i) 0 rfl ?_ rfl ay ⟨by omega,by omega⟩ ?_
 .simp
 rintro i ⟨hi,a⟩;by_cases h:i<l.length
 .have f:l.getD i (0,0)∈l:=by grind
  have m:l.getD (i:Int).toNat cH.cd=l.getD i (0,0):=by grind
  refine aX [(9,ab)] rfl ?_ ?_
  .simp only[az];grind
  rw[m];refine AK.cQ (n _ f) [] rfl ?_;cases k:q (l.getD i (0,0))with
  |true =>
   refine aX [(16,ab)] rfl ?_ (AK.ir (cw.zero rfl ?_))
   .simp
   .simp[Pk h k a]
  |false =>
   refine aX [(16,ae)] rfl ?_ (AK.gb (i+1) rfl ?_ rfl ay ?_ ?_)
   .simp[bD];omega
   .simp
   .grind
   .omega
 .refine aX [(9,ae)] rfl (by simp;omega) (AK.leave rfl rfl ?_);refine bt rfl ay (AK.bz rfl ?_);simp[Iz (λj o=>a j (by omega))]
def Mc(l:List (Int×Int))(a:Nat)(q:Int×Int->Bool)(b:∀x,x∈l->Ev X a [.e (.agg [.c (.int .i64 x.1),.c (.int .i64 x.2)])] [] (dB (q x)) []):
  Ev X 98 [cH.sl l,.e (.one (.c (.fn (.func a) [] [])))] [] (dB (l.any q)) []:=by
 refine Ev.bQ Tryz.func98 rfl λd=>?_;refine bt rfl ay ?_;refine AK.cQ (Mb l a q b) [] rfl ?_;cases h:l.any q with
 |true =>
  exact aX [(8,ab)] rfl (dc (L9 h)) (AK.bz rfl)
 |false =>
  exact aX [(8,ae)] rfl (iC (by grind[Ma])) (AK.bz rfl)
end
abbrev Br(l:List bw):Prop:=l.Pairwise λa b=>bm a.1 b.1=ab
def x7{t:List bw}(h:cC t=ab):Br t:=by simp only[cC,bR]at h;have a:=dE.1 h.1;rw[Br,jw];intro i j hi hj ZV;rw[fileAt hi,fileAt hj];refine WI (t:=t) (i:=j) (λk hk hkj=>?_) i ZV;have:=a k (by omega);simp only[gQ,bR,jU,gp]at this;grind
theorem ly{t:List bw}:cC t=ab↔(∀f∈t,dM f.1=ab/\et f.2=ab)/\Br t/\t.Pairwise (λa b=>clash a.1 b.1=ae)/\t.length<=6:=by
 constructor
 .intro h;have d:=x7 h;simp only[cC,bR,a9]at h;have c:=dE.1 h.1;refine⟨λf e=>?_,d,?_,h.2⟩
  .obtain⟨i,hi,rfl⟩:=dG e;have:=c i hi;simp only[gQ,bR]at this;grind[fileAt]
  .rw[jw];intro i j hi hj ZV;have:=c j hj;simp only[gQ,bR]at this;grind[fileAt]
 .rintro⟨k,n,m,l⟩;simp only[cC,bR,a9];refine⟨dE.2 λi hi=>?_,l⟩;have g:=k _ (sj hi);rw[fileAt hi]at g;simp only[gQ,bR,jU,gp];grind[List.pairwise_iff_getElem,fileAt]
def x8{t:List bw}(q:bw->Bool)(h:cC t=ab):cC (t.filter q)=ab:=by grind[ly]
theorem Mo{t:List bw}(p:Bs)(h:cC t=ab):cC (mD t p)=ab:=x8 _ h
def FN{t:List bw}{p x:Bs}(h:(ez t p x).2=ab):cC (ez t p x).1=ab:=by unfold ez at h⊢;grind
end Go.AM.R1
namespace Go.AM
def ef.le{P:ar}{ι:Type}{X:Cx P}{f:aJ}{args:List D}{σ:List aR}{res ud:ι->D}{σ1:ι->List aR}(h:ef X f args σ res σ1){ps:ι->List Prop}(a:∀i,Ee (res i) (ud i)=aa (ps i))(b:∀i,az (ps i)):ef X f args σ ud σ1 :=
 ⟨h.1,λs vs hr hh S cs hS=>h.2 s vs hr hh S cs λi fr v s' hl mJ jh st=>hS i fr v s' hl (oE (a i) (b i) mJ) jh st⟩
namespace R1
variable {X:Cx ag}
structure lq(s:bk):Prop where
 p:s.1.length<=4000000
 p2:∀p∈s.1,p.2.length<=4000000
 sn:s.2.1.length<=4000000
 s2:kM s
 h:s.2.2.length<=4000000
end R1
def Tr.sz:Tr->Nat
 |.nil=>0
 |.nd l _ _ r=>l.sz+r.sz+1
namespace R1
variable {X:Cx ag}
def P7(t:Tr)(n:Int):Ev X 44 [.e (.one (.c (tC t))),dI n] [] (dI (t.find n)) []:=by
 refine Ev.bQ Tryz.func44 rfl λg=>?_;refine bt rfl ay ?_;refine AK.loop (λu:Tr=>u.find n=t.find n) (λu=>[(0,.e (.one (.c (tC u)))),(1,dI n)]) (λ_=>[]) (λu=>u.sz) t rfl (.cons rfl (cD rfl (by simp))) rfl ?_;intro u d;cases u with
 |nil =>
  refine bt rfl ay ?_;refine AK.law (rP rfl Tryz.underlying85 rfl rfl rfl) rfl rfl ?_;refine aX [(7,ae),(15,ae)] rfl (by simp) (AK.leave rfl rfl ?_);refine bt rfl ay ?_;refine AK.law (rP rfl Tryz.underlying85 rfl rfl rfl) rfl rfl ?_;refine bt rfl ay (AK.bz rfl ?_);rw[<-d];simp[Tr.find]
 |nd l a b r =>
  have e:(Tr.nd l a b r).find n=if n=a then b else if n<a then l.find n else r.find n:=rfl;rw[e]at d;refine bt rfl ay ?_;refine AK.law (zg rfl Tryz.underlying85 rfl rfl rfl) rfl rfl ?_;by_cases h:n=a
  .subst h;rw[bl rfl]at d;refine aX [(7,ab),(15,ae)] rfl (by simp) (AK.leave rfl rfl ?_);refine bt rfl ay ?_;refine AK.law (zg rfl Tryz.underlying85 rfl rfl rfl) rfl rfl ?_;refine bt rfl ay (AK.bz rfl ?_);rw[<-d];simp
  rw[aY h]at d;by_cases f:n<a
  .rw[bl f]at d;cases l<;>exact aX [(7,ab),(15,ab),(22,ab)] rfl (by simp only[az,lV,a9,aG,aE];and_intros<;>first|rfl|grind|exact f) ⟨_,d,by simp only[Tr.sz];omega,.cons rfl (cD rfl (by simp)),rfl⟩
  .rw[aY f]at d;cases r<;>exact aX [(7,ab),(15,ab),(22,ae)] rfl (by simp only[az,lV,bS,aG,aE];and_intros<;>first|rfl|grind|exact f) ⟨_,d,by simp only[Tr.sz];omega,.cons rfl (cD rfl (by simp)),rfl⟩
end R1
end Go.AM
namespace Go.AM.R1
section
open Go.Sort (pdq bitsLen ltInt Below)
variable {X:Cx ag}
def o8(l:List Int):List Int:=l.mergeSort λx y=>decide (x<=y)
def lZ(l:List Int):(o8 l).length=l.length:=List.length_mergeSort _
def MP(l:List Int):pdq ltInt l.toArray 0 l.length (bitsLen l.length) ab ab=(o8 l).toArray:=by have h:=Go.Sort.sortInt l;unfold Go.Sort.sort at h;rw[List.size_toArray]at h;exact Array.ext' (by rw[h];rfl)
theorem W4(l:List Int):eI l.toArray=cI.fn l:=by funext j;simp only[eI,mI.fn,Bd,cI,ak];simp
abbrev Jz(n:Nat)(l:List Int):aR:=.buf 3 1 n (cI.fn l)
def Mn(l:List Int)(a:l.length<=4000000):Ev X 104 [kX l.length] [Jz l.length l] (.fa []) [Jz l.length (o8 l)]:=by
 refine Ev.bQ Tryz.func104 rfl λb=>?_;refine dm rfl (by simp only[az,bD];and_intros<;>omega) ?_;refine AK.cQ (MQ l.length a) [] rfl ?_;refine dm rfl ay ?_;have c:=kR (x:=l.length) (k:=22) (by grind);have key:Ev X 152 [kX l.length,dI 0,dI l.length,dI (bitsLen l.length)] [Jz l.length l] (.fa []) [Jz l.length (o8 l)]:=by have:=T7 (X:=X) l.length a l.length l.toArray 0 l.length (bitsLen l.length) (by omega) (by simp) (by omega) (bc _) (by omega) (.inl rfl) (x:=0) rfl rfl rfl (MP l).symm;grind[W4]
 refine AK.cQ key [0] rfl ?_;refine dm rfl ay ?_;exact cw.pO [0] rfl ay rfl rfl rfl iz
def lH(l:List Int):Nat->List Int
 |0=>[]
 |j+1=>if j≠0/\l.getD j 0=l.getD (j-1) 0 then lH l j else lH l j++[l.getD j 0]
def eK(l:List Int):List Int:=lH l l.length
def tw(l:List Int):∀j,(lH l j).length<=j
 |0=>bc _
 |j+1=>by have:=tw l j;simp only[lH];grind
def oa{l:List Int}:∀{k:Nat},k<=l.length->(∀i,1<=i->i<k->l.getD i 0≠l.getD (i-1) 0)->lH l k=l.take k
 |0,_,_=>by simp[lH]
 |k+1,hk,h=>by rw[lH,aY,oa (by omega) λi a b=>h i a (by omega),bY (by omega) 0];grind
structure CoP(l:List Int)(k0:Nat)(k2:Nat)(ys:List Int):Prop where
 h1:1<=k2
 hj:k0+k2<=l.length
 len:ys.length=l.length
 lt:(lH l (k0+k2)).length<k0+k2
 done:ys.take (lH l (k0+k2)).length=lH l (k0+k2)
 rest:∀i,k0+k2<=i+1->ys.getD i 0=l.getD i 0
abbrev W5(a:List Int):Type:={es:Nat->List C // ∀i,i<a.length->es i=cI.fn a i}
def FK(l:List Int)(I:l.length<=4000000):ef (ι:=W5 (eK l)) X 105 [kX l.length] [Jz l.length l] (λ_=>.e (.one (.bp 0 (.sl l.length 1 0 (eK l).length)))) (λes=>[.buf 3 1 l.length es.1]):=by
 refine ef.rn Tryz.func105 rfl rfl rfl λH=>?_;by_cases A:l.length<2
 .have g:eK l=l:=by unfold eK;rw[oa (bc _) λi _ _=>by omega,dq]
  refine bO [(8,ab)] rfl (by simp only[az,a9];omega) (AK.n7 ⟨cI.fn l,λi _=>by rw[g]⟩ (AK.dk [0] rfl ?_ rfl rfl rfl iz));simp[g]
 refine bO [(8,ae)] rfl (by simp only[az,bS];omega) ?_;refine AK.lj (S2:=Unit) 0 rfl rfl (λ_=>eK l=l) (λ_=>[(0,kX l.length)]) (λ_=>[Jz l.length l]) 1 (λk:Nat=>1<=k/\k<=l.length/\∀i,1<=i->i<k->l.getD i 0≠l.getD (i-1) 0) (λk=>[(0,kX l.length),(3,dI k)]) (λ_=>[Jz l.length l]) (λk=>l.length-k) 1 rfl ?_ rfl ?_ rfl ⟨bc _,by omega,λi J A=>by omega⟩ ?_ ?_
 .simp
 .simp
 .rintro out k ⟨B,hk,d⟩;by_cases z:k<l.length
  .have x:((k:Int)-1).toNat=k-1:=by omega
   have u:∀j,l.getD j cI.cd=l.getD j 0:=λ_=>rfl;by_cases h:l.getD k 0=l.getD (k-1) 0
   .refine bO [(13,ab),(25,ab)] rfl ?_ ?_
    .simp only[az,bF,cf,x,u,h,bD,a9,jR,aG,aE];and_intros<;>omega
    have hT:=oa (l:=l) (by omega) d;have F:lH l (k+1)=l.take k:=by rw[lH,bl ⟨by omega,h⟩,hT]
    refine AK.lj (S2:=List Int) 2 rfl rfl (λc=>c.length=l.length/\c.take (eK l).length=eK l) (λ_=>[(0,kX l.length),(3,dI (eK l).length)]) (λc=>[Jz l.length c]) 1 (λs:Nat×List Int=>CoP l k s.1 s.2) (λs=>[(0,kX l.length),(3,dI (lH l (k+s.1)).length),(4,.e (.one (.bp 0 (.sl l.length 1 k (l.length-k))))),(5,dI s.1)]) (λs=>[Jz l.length s.2]) (λs=>l.length-s.1) (1,l) rfl ?_ rfl ?_ rfl ?_ ?_ ?_
    .simp only[az.cat,az,F,List.length_take,dj,bF,cf,aG,aE];exact⟨by omega,rfl,rfl⟩
    .simp
    .exact⟨bc _,by omega,rfl,by grind,by grind,λ_ _=>rfl⟩
    .rintro f ⟨b,c⟩ ⟨c1,c2,c3,c4,o,m⟩;simp only at c1 c2 c3 c4 o m;by_cases D:k+b<l.length
     .have v:((b:Int)-1).toNat=b-1:=by omega
      have r:∀j,c.getD j cI.cd=c.getD j 0:=λ_=>rfl;have q:c.getD (k+b) 0=l.getD (k+b) 0:=m _ (by omega);have w:c.getD (k+(b-1)) 0=l.getD (k+(b-1)) 0:=m _ (by omega);by_cases p:l.getD (k+b) 0=l.getD (k+(b-1)) 0
      .have n:lH l (k+(b+1))=lH l (k+b):=by rw[show k+(b+1)=k+b+1 by omega,lH,bl ⟨by omega,by rw[p,show k+b-1=k+(b-1) by omega]⟩]
       refine bO [(32,ab),(44,ae)] rfl ?_ (AK.aQ (b+1,c) rfl ?_ ?_ ?_ ?_)
       .simp only[az,bF,cf,v,r,q,w,p,bD,a9,oo,jD,jR,aG,aE];and_intros<;>first|trivial|omega
       .simp only[az.cat,az,n,aG,aE];omega
       .simp
       .exact⟨by grind,by grind,c3,by grind,by grind,λi hi=>m i (by grind)⟩
       .simp only;omega
      .have n:lH l (k+(b+1))=lH l (k+b)++[l.getD (k+b) 0]:=by rw[show k+(b+1)=k+b+1 by omega,lH,aY];rintro⟨_,h⟩;exact p (by rw[h,show k+b-1=k+(b-1) by omega])
       refine bO [(32,ab),(44,ab)] rfl ?_ (AK.aQ (b+1,c.set (lH l (k+b)).length (l.getD (k+b) 0)) rfl ?_ ?_ ?_ ?_)
       .simp only[az,bF,cf,v,r,q,w,bD,a9,jQ,eD,lV,dy,aG,aE];and_intros<;>first|exact p|omega
       .simp only[az.cat,az,n,cX,fb,gG,aG,aE];and_intros<;>omega
       .have e:=cI.Tf c (lH l (k+b)).length (l.getD (k+b) 0) l.length (by omega);simp only[az.cat,az,bF,cf,r,q,aE,aG];exact e
       .refine⟨by grind,by grind,by grind,by grind,?_,λi hi=>?_⟩
        .simp only;rw[n,cX,show ∀a:Int,[a].length=1 fromλ_=>rfl,lC,List.take_set,List.set_eq_of_length_le (by grind),o,gn (by omega)];rfl
        .simp only at hi⊢;rw[ak,kC (by omega),<-ak];grind
       .simp only;omega
     .have C:k+b=l.length:=by omega
      have t:lH l (k+b)=eK l:=by rw[C];rfl
      refine bO [(32,ae)] rfl ?_ (AK.leaveD rfl rfl ?_)
      .simp only[az,bS];omega
      rw[t]at o;exact f c ⟨c3,o⟩ rfl (by simp[t]) rfl (by simp)
    rintro c ⟨G,y⟩;have E:(eK l).length<=l.length:=tw l _;refine dm rfl ?_ ?_
    .simp only[az];grind
    refine AK.law (bM.RV tok rfl rfl rfl rfl rfl rfl ?_) rfl rfl ?_
    .simp only[dj,cf];omega
    refine bt rfl ?_ (AK.fQ ⟨⟨tU (0+dj 0 (aa ((eK l).length:Int))) (0+dj 0 (aa ((eK l).length:Int))+(dj l.length af-dj 0 (aa ((eK l).length:Int)))) i3.zero (cI.fn c),λi hi=>?_⟩,cw.mk [0] rfl ?_ rfl rfl rfl iz⟩)
    .simp only[az];grind
    .have e:c[i]?=(eK l)[i]?:=by grind
     refine(Fx (by simp only[dj,cf];omega)).trans ?_;simp only[mI.fn,Bd,ak,e]
    .simp[dj];rfl
   .refine bO [(13,ab),(25,ae)] rfl ?_ (AK.aQ (k+1) rfl ?_ ?_ ?_ ?_)
    .simp only[az,bF,cf,x,u,bD,a9,eD,dy,aG,aE];and_intros<;>first|exact h|omega
    .simp
    .simp
    .grind
    .omega
  .obtain rfl:k=l.length:=by omega
   refine bO [(13,ae)] rfl (by simp) (AK.leaveD rfl rfl ?_);exact out () (by unfold eK;rw[oa (bc _) d,dq]) rfl (by simp) rfl (by simp)
 rintro⟨⟩ g;refine dm rfl ay (AK.n7 ⟨cI.fn l,λi _=>by rw[g]⟩ (AK.dk [0] rfl ?_ rfl rfl rfl iz));simp[g]
end
section
variable {X:Cx ag}
def we(l:List js):List Int:=l.flatMap (·.2)
def _root_.Go.AM.mI.TK{α:Type}(c:mI α)(a b:List α)(n:Nat)(d:n=(a++b).length):cA n (cK a.length (c.fn a) (c.fn b)) (c.fn (a++b)):=by intro i hi;simp only[cK,mI.fn,Bd,ak];grind
def Bq(l:List Int):(eK l).length<=l.length:=tw l _
def LJ(s:Bs)(i:Nat)(a:cj s=ab)(k:3<=i)(hi:i<=s.length)(g:s.length<=4000000):Ev X 223 [dS s,dI i] [] (dB (jM s i)) []:=by
 refine Ev.bQ Tryz.func223 rfl λf=>?_;have e:=Ip a (i-1) (by omega);have h:=Ip a (i-2) (by omega);have j:=Ip a (i-3) (by omega);have b:((jb s ((i:Int)-1)).toNat:Int)=cT s (i-1):=by grind[cU]
 have c:((jb s ((i:Int)-2)).toNat:Int)=cT s (i-2):=by grind[cU]
 have d:((jb s ((i:Int)-3)).toNat:Int)=cT s (i-3):=by grind[cU]
 refine bt rfl ?_ (AK.bz rfl ?_)
 .simp only[az,bD,b,c,d];omega
 .simp only[az,az.cat,b,c,d,jM,dl,aE];grind
abbrev LK:dv:=pj aS aI (λs i=>dB (jM s i.toNat)) λs i=>[cj s=ab,3<=i,i<=s.length,s.length<=4000000]
def Tj:er X 223 LK:=.tf λs i h=>by
 obtain⟨b,d,c,a⟩:=h;obtain⟨m,rfl⟩:∃m:Nat,i=m:=⟨i.toNat,by omega⟩
 exact LJ s m b (by omega) (by omega) a
def Tk(t:Bs)(f:Nat)(g:cj t=ab)(m:f<=t.length)(p:t.length<=4000000):Ev X 202 [dS t,dI f] [] (dI (cutAt t f)) []:=by
 refine Ev.bQ Tryz.func202 rfl λo=>?_;have b:bL X [(223,LK)]:=.cons Tj .nil;refine b8 b rfl ay ?_;refine AK.kg (λj=>j<=5/\uj t f (5-j)=cutAt t f) (λj:Nat=>[(0,dS t),(1,dI f),(5,dI (3+j))]) (λ_=>[]) (λj=>5-j) 0 rfl ?_ rfl ay ⟨by omega,rfl⟩ ?_
 .simp
 rintro j ⟨n,a⟩;by_cases h:j<5
 .obtain⟨k,hk⟩:∃k,5-j=k+1:=⟨4-j,by omega⟩
  have d:f+(7-k)=f+3+j:=by omega
  rw[hk]at a;simp only[uj,d]at a;by_cases i:t.length<=f+3+j
  .rw[bl i]at a;refine aW b [(7,ab),(15,ab)] rfl ?_ (AK.ir (cw.zero rfl ?_))
   .simp only[az,bD,a9,aG,aE];omega
   .simp[<-a]
  rw[aY i]at a;have e:((f:Int)+(3+(j:Int))).toNat=f+3+j:=by omega
  cases c:jM t (f+3+j)with
  |true =>
   rw[c,bl rfl]at a;refine aW b [(7,ab),(15,ae),(22,ab)] rfl ?_ (AK.ir (cw.zero rfl ?_))
   .simp only[az,bD,e,c,g,a9,bS,aG,aE];omega
   .simp[<-a];omega
  |false =>
   rw[c,aY (by simp)]at a;refine aW b [(7,ab),(15,ae),(22,ae)] rfl ?_ (AK.gb (j+1) rfl ?_ rfl ay ⟨by omega,by grind⟩ (by omega))
   .simp only[az,bD,e,c,g,a9,bS,aG,aE];omega
   .simp;omega
 .have e:cutAt t f=min (f+8) t.length:=by rw[<-a,show 5-j=0 by omega];rfl
  have l:bD .i64 ((min (f+8) t.length:Nat):Int):=by simp only[bD];omega
  refine aW b [(7,ae)] rfl ?_ (AK.leave rfl rfl ?_)
  .simp only[az,bD,a9,bS];omega
  refine b8 b rfl ?_ ?_
  .simp only[az,bD];omega
  refine AK.law (xJ ((min (f+8) t.length:Nat):Int) rfl rfl rfl (by omega) l) rfl rfl ?_;refine b8 b rfl ay (AK.bz rfl ?_);simp[e]
abbrev Wj:dv:=pj aS aI (λs i=>dI (cutAt s i.toNat)) λs i=>[cj s=ab,0<=i,i<=s.length,s.length<=4000000]
def ZK:er X 202 Wj:=.tf λs i h=>by
 obtain⟨b,d,c,a⟩:=h;obtain⟨m,rfl⟩:∃m:Nat,i=m:=⟨i.toNat,by omega⟩
 exact Tk s m b (by omega) a
abbrev m7(t:Bs):List Int:=(Be t).map λn:Nat=>(n:Int)
def LL(t:Bs)(j:cj t=ab)(o:t.length<=4000000):Ev X 154 [dS t] [] (cI.sl (m7 t)) []:=by
 refine Ev.bQ Tryz.func154 rfl λm=>?_;have a:bL X [(202,Wj)]:=.cons ZK .nil;refine aW a [(1000003,ab)] rfl ay ?_;refine AK.iM 3 3 1 rfl rfl ?_;refine b8 a rfl ay ?_;refine AK.cE 1 (λs:Nat×List Int=>s.1<=t.length/\s.2.length<=s.1/\∃k,t.length<=s.1+k/\m7 t=s.2++(m8 t k s.1).map λn:Nat=>(n:Int)) (λs=>[(0,dS t),(3,.e (.one (.vec 0 1 s.2.length (cI.fn s.2)))),(4,dI s.1)]) (λs=>[.vec 3 1 s.2.length (cI.fn s.2)]) (λs=>t.length-s.1) (0,[]) rfl ?_ rfl ?_ rfl ⟨by simp,by simp,t.length,by simp,by simp[m7,Be]⟩ ?_
 .simp
 .simp
 rintro⟨f,acc⟩ ⟨c,b,k,hk,i⟩;simp only at c b hk i;by_cases h:f<t.length
 .obtain⟨k,rfl⟩:∃k',k=k'+1:=⟨k-1,by omega⟩
  have l:=mv t f h;have d:=cI.cy acc (cutAt t f:Int);have g:acc.length+1=(acc++[(cutAt t f:Int)]).length:=by simp
  refine aW a [(9,ab)] rfl ?_ (AK.aQ (cutAt t f,acc++[(cutAt t f:Int)]) rfl ?_ ?_ ?_ ?_)
  .simp only[az,j,show i3.bytes=8 from rfl,a9,aG,aE];and_intros<;>omega
  .exact az.cat.2 ⟨rfl,az.cat.2 ⟨⟨g,d⟩,az.cat.2 ⟨rfl,ay⟩⟩⟩
  .exact az.cat.2 ⟨⟨g,d⟩,ay⟩
  .refine⟨l.2.1,by grind,k,by grind,?_⟩;rw[i];simp only[m8,bl h];simp
  grind
 .have e:m7 t=acc:=by
   have:m8 t k f=[]:=by cases k<;>simp[m8,h]
   grind
  refine aW a [(9,ae)] rfl (by simp only[az,bS];omega) (AK.leaveD rfl rfl ?_);refine b8 a rfl ay (AK.bz rfl ?_);rw[e];simp
abbrev LM:dv:=kL aS (λt=>cI.sl (m7 t)) λt=>[cj t=ab,t.length<=4000000]
def Tl:er X 154 LM:=.pS λt h=>LL t h.1 h.2
def drop_cons{α:Type}{l r:List α}{i:Nat}{x:α}(h:l.drop i=x::r)(d:α):i<l.length/\l.getD i d=x/\l.drop (i+1)=r:=by grind[List.drop_eq_nil_of_le,List.drop_eq_getElem_cons]
def zo(t:Bs):∀k f,(m8 t k f).length<=k
 |0,_=>bc _
 |k+1,f=>by
  simp only[m8];split
  .have:=zo t k (cutAt t f);grind
  .simp
def Pp(t:Bs)(u:cj t=ab)(A:t.length<=4000000):Ev X 111 [dS t] [] (cS.sl (pieces t)) []:=by
 refine Ev.bQ Tryz.func111 rfl λz=>?_;have c:bL X [(154,LM)]:=.cons Tl .nil;have B:(m7 t).length<=t.length:=by simp only[m7,jT];exact zo t _ _
 refine aW c [(1000002,ab)] rfl ay ?_;refine AK.iM 3 9 1 rfl rfl ?_;refine b8 c rfl (by simp only[az,u];grind) ?_;refine AK.cE 1 (λs:Nat×Nat×List Bs=>s.1<=(m7 t).length/\s.2.1<=t.length/\s.2.2.length<=s.1/\∃k,t.length<=s.2.1+k/\(m7 t).drop s.1=((m8 t k s.2.1).map λn:Nat=>(n:Int))/\pieces t=s.2.2++eT t k s.2.1) (λs=>[(0,dS t),(3,.e (.one (.vec 0 1 s.2.2.length (cS.fn s.2.2)))),(4,dI s.2.1),(5,cI.sl (m7 t)),(6,dI s.1)]) (λs=>[.vec 9 1 s.2.2.length (cS.fn s.2.2)]) (λs=>(m7 t).length-s.1) (0,0,[]) rfl ?_ rfl ?_ rfl ⟨by simp,by simp,by simp,t.length,by simp,by simp[m7,Be],by simp[pieces]⟩ ?_
 .simp
 .simp
 rintro⟨i,f,acc⟩ ⟨hi,l,d,k,hk,m,j⟩;simp only at hi l d hk m j;by_cases h:i<(m7 t).length
 .have g:m8 t k f≠[]:=by grind[List.length_drop]
  obtain⟨k,rfl⟩:∃k',k=k'+1:=by
   cases k with
   |zero=>exact absurd rfl g
   |succ k=>grind
  have a:f<t.length:=by
   rcases cM f t.length with h|h
   .exact h
   .exact absurd (by simp only[m8,aY (show¬f<t.length by omega)]) g
  simp only[m8,bl a,qu]at m;obtain⟨_,y,w⟩:=drop_cons m 0;have v:=mv t f a;have o:(m7 t).getD (i:Int).toNat cI.cd=(cutAt t f:Int):=by grind
  have b:sS t (aa (f:Int)) (aa (cutAt t f:Int))=(t.drop f).take (cutAt t f-f):=by simp[sS,List.drop_take]
  have q:=cS.cy acc ((t.drop f).take (cutAt t f-f));have p:acc.length+1=(acc++[(t.drop f).take (cutAt t f-f)]).length:=by simp
  refine aW c [(13,ab)] rfl ?_ (AK.aQ (i+1,cutAt t f,acc++[(t.drop f).take (cutAt t f-f)]) rfl ?_ ?_ ?_ ?_)
  .simp only[az,o,bD,fY,show i9.bytes=16 from rfl,a9,aG,aE];and_intros<;>omega
  .simp only[az.cat,az,o,b,aG,aE];and_intros<;>first|exact p|exact q|exactλ_ _=>rfl|omega
  .simp only[az.cat,az,o,b,aG,aE];and_intros<;>first|exact p|exact q
  .refine⟨by grind,v.2.1,by grind,k,by grind,w,?_⟩;rw[j];simp only[eT,bl a];simp
  grind
 .have e:pieces t=acc:=by
   have r:m8 t k f=[]:=by grind[List.map_eq_nil_iff]
   have a:¬f<t.length:=by
    intro x;cases k with
    |zero=>omega
    |succ k=>simp only[m8,bl x]at r;cases r
   rw[j];cases k<;>simp[eT,a]
  refine aW c [(13,ae)] rfl (by simp only[az,bS];omega) (AK.leaveD rfl rfl ?_);refine b8 c rfl ay (AK.bz rfl ?_);rw[e];simp
abbrev Hg:dv:=kL aS (λt=>cS.sl (pieces t)) λt=>[cj t=ab,t.length<=4000000]
def LN:er X 111 Hg:=.pS λt h=>Pp t h.1 h.2
def _root_.Go.AM.mI.pX{α:Type}(c:mI α)(l:List α)(x y:α):cA (l.length+1+1) (cK (l.length+1) (cK l.length (c.fn l) λq=>[c.enc x].getD q []) λq=>[c.enc y].getD q []) (c.fn (l++[x,y])):=by
 have h1:=c.cy l x;have h2:=c.cy (l++[x]) y;rw[show(l++[x]).length=l.length+1 by simp,show l++[x]++[y]=l++[x,y] by simp]at h2;intro q a;rw[<-h2 q a];simp only[cK];by_cases e:q<l.length+1
 .rw[bl e,bl e];exact h1 q e
 grind
abbrev Tn(x:bo):D:=.e (.agg [.c (.int .i64 x.1),.c (.str x.2)])
def iW(x:bo)(acc:List bo×Bool)(y:bo):List bo×Bool:=if acc.2=ab then(acc.1++[y],ab)else if x.1<y.1 then(acc.1++[x,y],ab)else(acc.1++[y],ae)
def zq(x:bo):∀(l:List bo)(a:List bo),(l.foldl (iW x) (a,ab))=(a++l,ab)
 |[],a=>by simp
 |y::r,a=>by rw[jC,show iW x (a,ab) y=(a++[y],ab)from rfl,zq x r];simp
def uv(x:bo):∀(l:List bo)(a:List bo),(if(l.foldl (iW x) (a,ae)).2=ab then(l.foldl (iW x) (a,ae)).1 else(l.foldl (iW x) (a,ae)).1++[x])=a++gC l x
 |[],a=>by simp[gC]
 |y::r,a=>by
  rw[jC];by_cases h:x.1<y.1
  .rw[show iW x (a,ae) y=(a++[x,y],ab) by simp[iW,h],zq];simp[gC,h]
  .rw[show iW x (a,ae) y=(a++[y],ae) by simp[iW,h],uv x r];simp[gC,h]
theorem zr(x:bo):∀(l:List bo)(a:List bo×Bool),(l.foldl (iW x) a).1.length<=a.1.length+l.length+1-(if a.2=ab then 1 else 0)
 |[],a=>by grind
 |y::r,a=>by rw[jC];have:=zr x r (iW x a y);unfold iW at this⊢;grind
abbrev nw(x:bo)(l:List bo)(i:Nat):List bo×Bool:=(l.take i).foldl (iW x) ([],ae)
def zt{x:bo}{l:List bo}{i:Nat}(h:i<l.length):nw x l (i+1)=iW x (nw x l i) (l.getD i (0,[])):=by grind[bY]
def th(x:bo)(l:List bo)(i:Nat):(nw x l i).1.length<=l.length+1:=by grind[zr]
abbrev p3F(l:List bo)(x:bo)(i:Nat)(a:List bo×Bool):Fr:=[(0,eg.sl l),(3,.e (.one (.ptr 0 0))),(5,.e (.one (.vec 1 2 a.1.length (eg.fn a.1)))),(6,dB a.2),(7,dI i)]
abbrev ZQ(x:bo)(a:List bo):List aR:=[.cells 76 [.c (.int .i64 x.1),.c (.str x.2)],.vec 76 2 a.length (eg.fn a)]
def Pt(l:List bo)(x:bo)(q:l.length<=4000000):Ev X 117 [eg.sl l,Tn x] [] (eg.sl (gC l x)) []:=by
 refine Ev.bQ Tryz.func117 rfl λp=>?_;refine bO [(1000002,ab)] rfl ay ?_;refine AK.iM 5 76 2 rfl rfl ?_;refine dm rfl ay ?_;refine AK.cE 2 (λi=>i<=l.length) (λi:Nat=>p3F l x i (nw x l i)) (λi=>ZQ x (nw x l i).1) (λi=>l.length-i) 0 rfl ?_ rfl ?_ rfl (by omega) ?_
 .simp[nw]
 .simp[nw]
 intro i hi;by_cases h:i<l.length
 .have n:=zt (x:=x) h;have e:=th x l i;have g:l.getD (i:Int).toNat eg.cd=l.getD i (0,[]):=by grind
  generalize nw x l i=a at n e;obtain⟨a,b⟩:=a;simp only at e;have k:=eg.cy a (l.getD i (0,[]));have m:=eg.pX a x (l.getD i (0,[]));cases b with
  |true =>
   have d:nw x l (i+1)=(a++[l.getD i (0,[])],ab):=n;have j:a.length+1=(a++[l.getD i (0,[])]).length:=by simp
   refine bO [(12,ab)] rfl ?_ (AK.aQ (i+1) rfl ?_ ?_ ?_ ?_)
   .simp only[az,g,bD,show i76.bytes=24 from rfl,a9,aG,aE];and_intros<;>omega
   .rw[d];simp only[az.cat,az,g,aG,aE];and_intros<;>first|exact j|exact k|exactλ_ _=>rfl|rfl|omega
   .rw[d];simp only[az.cat,az,g,aG,aE];and_intros<;>first|exact j|exact k|exactλ_ _=>rfl|rfl|omega
   .grind
   .omega
  |false =>
   by_cases f:x.1<(l.getD i (0,[])).1
   .have d:nw x l (i+1)=(a++[x,l.getD i (0,[])],ab):=by rw[n];simp only[iW,bl f];rfl
    have j:a.length+1+1=(a++[x,l.getD i (0,[])]).length:=by simp
    refine bO [(12,ab),(25,ab)] rfl ?_ (AK.aQ (i+1) rfl ?_ ?_ ?_ ?_)
    .simp only[az,g,bD,show i76.bytes=24 from rfl,f,jV,a9,aG,aE];and_intros<;>omega
    .rw[d];simp only[az.cat,az,g,aG,aE];and_intros<;>first|exact j|exact m|exactλ_ _=>rfl|rfl|omega
    .rw[d];simp only[az.cat,az,g,aG,aE];and_intros<;>first|exact j|exact m|exactλ_ _=>rfl|rfl|omega
    .grind
    .omega
   .have d:nw x l (i+1)=(a++[l.getD i (0,[])],ae):=by rw[n];simp only[iW,aY f];rfl
    have j:a.length+1=(a++[l.getD i (0,[])]).length:=by simp
    refine bO [(12,ab),(25,ae)] rfl ?_ (AK.aQ (i+1) rfl ?_ ?_ ?_ ?_)
    .simp only[az,g,bD,show i76.bytes=24 from rfl,a9,f,kS,om,bS,aG,aE];and_intros<;>omega
    .rw[d];simp only[az.cat,az,g,aG,aE];and_intros<;>first|exact j|exact k|exactλ_ _=>rfl|rfl|omega
    .rw[d];simp only[az.cat,az,g,aG,aE];and_intros<;>first|exact j|exact k|exactλ_ _=>rfl|rfl|omega
    .grind
    .omega
 .obtain rfl:i=l.length:=by omega
  have c:=uv x l [];have e:=th x l l.length;refine bO [(12,ae)] rfl (by simp) (AK.leaveD rfl rfl ?_);have o:nw x l l.length=l.foldl (iW x) ([],ae):=by grind
  rw[o]at e⊢;generalize l.foldl (iW x) ([],ae)=a at *;obtain⟨a,b⟩:=a;simp only[mL]at c e;cases b with
  |true =>
   simp only[cq]at c;subst c;exact dm rfl ay (AK.bz rfl)
  |false =>
   simp only[jP,ck]at c;have k:=eg.cy a x;refine dm rfl ?_ (AK.bz rfl ?_)
   .simp only[az,show i76.bytes=24 from rfl,aG,aE];grind
   .rw[<-c];simp only[az.cat,az,aG,aE];and_intros<;>first|exact k|simp
abbrev Rj:dv:=pj (aL eg) UA (λl x=>eg.sl (gC l x)) λl _=>[l.length<=4000000]
def Wq:er X 117 Rj:=.tf λl x h=>Pt l x h
abbrev ZR(x:cn):D:=.e (.agg [.c (.int .i64 x.1),.c (.int .i64 x.2)])
def ff(x:cn)(acc:List cn×Bool)(y:cn):List cn×Bool :=
 if acc.2=ab then(if y.1=x.1 then acc else(acc.1++[y],ab))else if x.1<=y.1 then(if y.1=x.1 then(acc.1++[x],ab)else(acc.1++[x,y],ab))else(acc.1++[y],ae)
def qN(x:cn):∀(l:List cn)(a:List cn),(l.foldl (ff x) (a,ab))=(a++l.filter λz=>!(z.1==x.1),ab)
 |[],a=>by simp
 |y::r,a=>by
  rw[jC];by_cases h:y.1=x.1
  .rw[show ff x (a,ab) y=(a,ab) by simp[ff,h],qN x r];simp[h]
  .rw[show ff x (a,ab) y=(a++[y],ab) by simp[ff,h],qN x r];simp[h]
def zu(x:cn):∀(l:List cn)(a:List cn),(if(l.foldl (ff x) (a,ae)).2=ab then(l.foldl (ff x) (a,ae)).1 else(l.foldl (ff x) (a,ae)).1++[x])=a++fS l x
 |[],a=>by simp[fS]
 |y::r,a=>by
  rw[jC];by_cases h:x.1<=y.1
  .have c:¬y.1<x.1:=by omega
   by_cases b:y.1=x.1
   .rw[show ff x (a,ae) y=(a++[x],ab) by simp[ff,b],qN];simp[fS,b]
   .rw[show ff x (a,ae) y=(a++[x,y],ab) by simp[ff,h,b],qN];simp[fS,c,b]
  .have c:y.1<x.1:=by omega
   rw[show ff x (a,ae) y=(a++[y],ae) by simp[ff,h],zu x r];simp[fS,c]
theorem zv(x:cn):∀(l:List cn)(a:List cn×Bool),(l.foldl (ff x) a).1.length<=a.1.length+l.length+1-(if a.2=ab then 1 else 0)
 |[],a=>by grind
 |y::r,a=>by
  rw[jC];have c:=zv x r (ff x a y);obtain⟨a,b⟩:=a;simp only[fb];cases b with
  |true =>
   by_cases d:y.1=x.1
   .rw[show ff x (a,ab) y=(a,ab) by simp[ff,d]]at c⊢;grind
   .rw[show ff x (a,ab) y=(a++[y],ab) by simp[ff,d]]at c⊢;grind
  |false =>
   by_cases h:x.1<=y.1
   .by_cases d:y.1=x.1
    .rw[show ff x (a,ae) y=(a++[x],ab) by simp[ff,d]]at c⊢;grind
    .rw[show ff x (a,ae) y=(a++[x,y],ab) by simp[ff,h,d]]at c⊢;grind
   .rw[show ff x (a,ae) y=(a++[y],ae) by simp[ff,h]]at c⊢;grind
abbrev tj(x:cn)(l:List cn)(i:Nat):List cn×Bool:=(l.take i).foldl (ff x) ([],ae)
def IE{x:cn}{l:List cn}{i:Nat}(h:i<l.length):tj x l (i+1)=ff x (tj x l i) (l.getD i (0,0)):=by grind[bY]
def De(x:cn)(l:List cn)(i:Nat):(tj x l i).1.length<=l.length+1:=by grind[zv]
abbrev p4F(l:List cn)(x:cn)(i:Nat)(a:List cn×Bool):Fr:=[(0,pn.sl l),(3,.e (.one (.ptr 0 0))),(5,.e (.one (.vec 1 2 a.1.length (pn.fn a.1)))),(6,dB a.2),(7,dI i)]
abbrev p4B(x:cn)(a:List cn):List aR:=[.cells 91 [.c (.int .i64 x.1),.c (.int .i64 x.2)],.vec 91 2 a.length (pn.fn a)]
def Pu(l:List cn)(x:cn)(q:l.length<=4000000):Ev X 116 [pn.sl l,ZR x] [] (pn.sl (fS l x)) []:=by
 refine Ev.bQ Tryz.func116 rfl λp=>?_;refine bO [(1000002,ab)] rfl ay ?_;refine AK.iM 5 91 2 rfl rfl ?_;refine dm rfl ay ?_;refine AK.cE 2 (λi=>i<=l.length) (λi:Nat=>p4F l x i (tj x l i)) (λi=>p4B x (tj x l i).1) (λi=>l.length-i) 0 rfl ?_ rfl ?_ rfl (by omega) ?_
 .simp[tj]
 .simp[tj]
 intro i hi;by_cases h:i<l.length
 .have n:=IE (x:=x) h;have k:=De x l i;have f:l.getD (i:Int).toNat pn.cd=l.getD i (0,0):=by grind
  generalize tj x l i=a at n k;obtain⟨a,b⟩:=a;simp only at k;have j:=pn.cy a (l.getD i (0,0));have m:=pn.cy a x;have d:=pn.pX a x (l.getD i (0,0));cases b with
  |true =>
   by_cases heq:(l.getD i (0,0)).1=x.1
   .have c:tj x l (i+1)=(a,ab):=by rw[n];simp only[ff,cq,bl heq]
    refine bO [(12,ab),(38,ae)] rfl ?_ (AK.aQ (i+1) rfl ?_ ?_ ?_ ?_)
    .simp only[az,f,bD,show i91.bytes=16 from rfl,a9,bS,jQ,ql,gp,eD,lV,dy,heq,ft,om,jR,jD,oo,jV,kS,aG,aE];and_intros<;>omega
    .rw[c];simp only[az.cat,az,f,aG,aE];and_intros<;>first|exact j|exact m|exact d|exactλ_ _=>rfl|rfl|omega|simp
    .rw[c];simp only[az.cat,az,f,aG,aE];and_intros<;>first|exact j|exact m|exact d|exactλ_ _=>rfl|rfl|omega|simp
    .grind
    .omega
   .have c:tj x l (i+1)=(a++[l.getD i (0,0)],ab):=by rw[n];simp only[ff,cq,aY heq]
    refine bO [(12,ab),(38,ab)] rfl ?_ (AK.aQ (i+1) rfl ?_ ?_ ?_ ?_)
    .simp only[az,f,bD,show i91.bytes=16 from rfl,a9,bS,jQ,ql,gp,eD,lV,dy,heq,ft,om,jR,jD,oo,jV,kS,aG,aE];and_intros<;>omega
    .rw[c];simp only[az.cat,az,f,aG,aE];and_intros<;>first|exact j|exact m|exact d|exactλ_ _=>rfl|rfl|omega|simp
    .rw[c];simp only[az.cat,az,f,aG,aE];and_intros<;>first|exact j|exact m|exact d|grind|rfl|omega|simp
    .grind
    .omega
  |false =>
   by_cases g:x.1<=(l.getD i (0,0)).1
   .by_cases heq:(l.getD i (0,0)).1=x.1
    .have c:tj x l (i+1)=(a++[x],ab):=by rw[n];simp only[ff,bl g,bl heq];rfl
     refine bO [(12,ab),(25,ab),(38,ae)] rfl ?_ (AK.aQ (i+1) rfl ?_ ?_ ?_ ?_)
     .simp only[az,f,bD,show i91.bytes=16 from rfl,a9,bS,jQ,ql,gp,eD,lV,dy,g,heq,ft,om,jR,jD,oo,jV,kS,aG,aE];and_intros<;>omega
     .rw[c];simp only[az.cat,az,f,aG,aE];and_intros<;>first|exact j|exact m|exact d|exactλ_ _=>rfl|rfl|omega|simp
     .rw[c];simp only[az.cat,az,f,aG,aE];and_intros<;>first|exact j|exact m|exact d|grind|rfl|omega|simp
     .grind
     .omega
    .have c:tj x l (i+1)=(a++[x,l.getD i (0,0)],ab):=by rw[n];simp only[ff,bl g,aY heq];rfl
     refine bO [(12,ab),(25,ab),(38,ab)] rfl ?_ (AK.aQ (i+1) rfl ?_ ?_ ?_ ?_)
     .simp only[az,f,bD,show i91.bytes=16 from rfl,a9,bS,jQ,ql,gp,eD,lV,dy,g,heq,ft,om,jR,jD,oo,jV,kS,aG,aE];and_intros<;>omega
     .rw[c];simp only[az.cat,az,f,aG,aE];and_intros<;>first|exact j|exact m|exact d|exactλ_ _=>rfl|rfl|omega|simp
     .rw[c];simp only[az.cat,az,f,aG,aE];and_intros<;>first|exact j|exact m|exact d|grind|rfl|omega|simp
     .grind
     .omega
   .have heq:¬(l.getD i (0,0)).1=x.1:=by omega
    have c:tj x l (i+1)=(a++[l.getD i (0,0)],ae):=by rw[n];simp only[ff,aY g];rfl
    refine bO [(12,ab),(25,ae),(38,ab)] rfl ?_ (AK.aQ (i+1) rfl ?_ ?_ ?_ ?_)
    .simp only[az,f,bD,show i91.bytes=16 from rfl,a9,bS,jQ,ql,gp,eD,lV,dy,g,heq,ft,om,jR,jD,oo,jV,kS,aG,aE];and_intros<;>omega
    .rw[c];simp only[az.cat,az,f,aG,aE];and_intros<;>first|exact j|exact m|exact d|exactλ_ _=>rfl|rfl|omega|simp
    .rw[c];simp only[az.cat,az,f,aG,aE];and_intros<;>first|exact j|exact m|exact d|grind|rfl|omega|simp
    .grind
    .omega
 .obtain rfl:i=l.length:=by omega
  have e:=zu x l [];have k:=De x l l.length;refine bO [(12,ae)] rfl (by simp) (AK.leaveD rfl rfl ?_);have o:tj x l l.length=l.foldl (ff x) ([],ae):=by grind
  rw[o]at k⊢;generalize l.foldl (ff x) ([],ae)=a at *;obtain⟨a,b⟩:=a;simp only[mL]at e k;cases b with
  |true =>
   simp only[cq]at e;subst e;exact dm rfl ay (AK.bz rfl)
  |false =>
   simp only[jP,ck]at e;have j:=pn.cy a x;refine dm rfl ?_ (AK.bz rfl ?_)
   .simp only[az,show i91.bytes=16 from rfl,aG,aE];grind
   .rw[<-e];simp only[az.cat,az,aG,aE];and_intros<;>first|exact j|simp
abbrev Rl:dv:=pj (aL pn) UB (λl x=>pn.sl (fS l x)) λl _=>[l.length<=4000000]
def Wr:er X 116 Rl:=.tf λl x h=>Pu l x h
abbrev Bf(p:bJ):List cn:=p.2.map λx=>(x.1,p.1)
def kO(l:List bJ)(i j:Nat):List cn:=cV (l.take i)++(Bf (l.getD i (0,[]))).take j
def rW{l:List bJ}{i:Nat}(h:i<l.length):cV (l.take (i+1))=cV (l.take i)++Bf (l.getD i (0,[])):=by rw[bY h (0,[])];simp[cV]
theorem Df(l:List bJ)(i:Nat):(cV (l.take i)).length<=(cV l).length:=by
 have h:cV l=cV (l.take i)++cV (l.drop i):=by unfold cV;grind[List.take_append_drop]
 grind
def tk{l:List bJ}{i j:Nat}(h:i<l.length):∃r,cV l=kO l i j++r:=by
 have a:cV l=cV (l.take (i+1))++cV (l.drop (i+1)):=by unfold cV;grind[List.take_append_drop]
 refine⟨(Bf (l.getD i (0,[]))).drop j++cV (l.drop (i+1)),?_⟩;rw[a,rW h,kO,l8,l8];grind[List.take_append_drop]
theorem LU(l:List cn)(x:cn):(fS l x).length<=l.length+1:=by
 induction l with
 |nil=>simp[fS]
 |cons y r a =>
  simp only[fS];grind
theorem uu(l:List cn):∀a:List cn,(l.foldl fS a).length<=a.length+l.length:=by
 induction l with
 |nil=>grind
 |cons y r b=>grind[LU]
def FB(l:List bJ)(y:l.length<=4000000)(x:(cV l).length<=100000):Ev X 65 [cP.sl l] [] (pn.sl (indexOf l)) []:=by
 refine Ev.bQ Tryz.func65 rfl λv=>?_;have a:bL X [(115,LG),(116,Rl)]:=.cons Ti (.cons Wr .nil);refine cG a rfl ay ?_;refine AK.cE 0 (λi=>i<=l.length/\(cV (l.take i)).all eu=ab) (λi:Nat=>[(0,cP.sl l),(3,pn.sl ((cV (l.take i)).foldl fS [])),(4,dI i)]) (λ_=>[]) (λi=>l.length-i) 0 rfl ?_ rfl ?_ rfl ⟨by omega,rfl⟩ ?_
 .simp[cV]
 .simp
 rintro i ⟨hi,c⟩;by_cases h:i<l.length
 .have e:l.getD (i:Int).toNat cP.cd=l.getD i (0,[]):=by grind
  have k:=rW h;refine bn a [(11,ab)] rfl (by simp only[az,a9];omega) ?_;refine AK.cE 0 (λj=>j<=(l.getD i (0,[])).2.length/\(kO l i j).all eu=ab) (λj:Nat=>[(0,cP.sl l),(3,pn.sl ((kO l i j).foldl fS [])),(4,dI i),(5,dI j)]) (λ_=>[]) (λj=>(l.getD i (0,[])).2.length-j) 0 rfl ?_ rfl ?_ rfl ⟨by omega,by simpa[kO]using c⟩ ?_
  .simp[kO]
  .simp
  rintro j ⟨u,o⟩;obtain⟨r,t⟩:=tk (l:=l) (j:=j) h;have n:(kO l i j).length<=100000:=by grind
  have f:=uu (kO l i j) [];simp only[gG]at f;have p:(l.getD i (0,[])).2.length<=100000:=by grind[Df]
  by_cases w:j<(l.getD i (0,[])).2.length
  .have b:(l.getD i (0,[])).2.getD (j:Int).toNat eg.cd=(l.getD i (0,[])).2.getD j (0,[]):=by grind
   have g:kO l i (j+1)=kO l i j++[(((l.getD i (0,[])).2.getD j (0,[])).1,(l.getD i (0,[])).1)]:=by unfold kO;rw[l8];congr 1;rw[bY (by grind) (0,0)];grind
   cases d:eu (((l.getD i (0,[])).2.getD j (0,[])).1,(l.getD i (0,[])).1)with
   |false =>
    have s:indexOf l=[]:=by obtain⟨r,t⟩:=tk (l:=l) (j:=j+1) h;unfold indexOf;rw[aY];grind
    refine bn a [(21,ab),(40,ae)] rfl ?_ (AK.fQ (cw.zero rfl ?_))
    .simp only[az,e,b,d,a9,aG,aE];and_intros<;>omega
    .rw[s];simp
   |true =>
    refine bn a [(21,ab),(40,ab)] rfl ?_ (AK.aQ (j+1) rfl ?_ ?_ ?_ ?_)
    .simp only[az,e,b,d,bD,pn.list_fn,a9,aG,aE];and_intros<;>first|exact pn.aO _|omega
    .rw[g];simp only[List.foldl_append,jC,List.foldl_nil,az.cat,az,e,b,pn.list_fn,aG,aE];and_intros<;>first|exactλ_ _=>rfl|rfl|omega
    .simp
    .grind
    .omega
  .have q:j=(l.getD i (0,[])).2.length:=by omega
   have m:kO l i j=cV (l.take (i+1)):=by rw[k,kO];grind[List.length_map]
   refine bn a [(21,ae)] rfl ?_ (AK.leaveD rfl rfl ?_)
   .simp only[az,e,bS];and_intros<;>omega
   refine cG a rfl ?_ (AK.aQ (i+1) rfl ?_ ?_ ?_ ?_)
   .simp only[az,bD];omega
   .rw[m];simp
   .simp
   .grind
   .omega
 .obtain rfl:i=l.length:=by omega
  rw[dq]at c⊢;refine bn a [(11,ae)] rfl (by simp) (AK.leaveD rfl rfl ?_);refine cG a rfl ay (AK.bz rfl ?_);simp[indexOf,c]
abbrev LV:dv:=kL (aL cP) (λl=>pn.sl (indexOf l)) λl=>[l.length<=4000000,(cV l).length<=100000]
def To:er X 65 LV:=.pS λl h=>FB l h.1 h.2
abbrev xV:dv:=pj aI aS (λk p=>dI (dA k p)) λk p=>[b7 k=ab,bx p=ab]
abbrev Hi:dv:=kL aS (λp=>dS (eY p)) λp=>[bx p=ab]
def LW:er X 118 Hi:=.pS λp h=>Pn p h
theorem LX(l:List bo)(x:bo):(gC l x).length=l.length+1:=by
 induction l with
 |nil=>simp[gC]
 |cons y r a=>simp only[gC];split<;>simp[a]
def o0(k:Int)(ps:List Bs):List bo:=ps.foldl (λl p=>gC l (dA k p,eY p)) []
theorem tm(k:Int)(ps:List Bs):(o0 k ps).length=ps.length:=by
 have h:∀(ps:List Bs) (a:List bo),(ps.foldl (λl p=>gC l (dA k p,eY p)) a).length=a.length+ps.length:=by
  intro ps;induction ps with
  |nil=>grind
  |cons p r b=>grind[LX]
 have:=h ps [];rw[gG,bF]at this;exact this
def LY{k:Int}{ps:List Bs}{i:Nat}(h:i<ps.length):o0 k (ps.take (i+1))=gC (o0 k (ps.take i)) (dA k (ps.getD i []),eY (ps.getD i [])):=by unfold o0;grind[bY]
abbrev pkB(no:Int)(l:List bo):aR:=.cells 67 [.c (.int .i64 no),.c (.sl ae 2 l.length (eg.fn l))]
theorem Dg{s r:Bs}(h:cj s=ab)(a:∀b∈r,b∈s):cj r=ab:=by unfold cj at h⊢;grind
def xX{t:Bs}(b:cj t=ab):∀k f,∀p∈eT t k f,bx p=ab
 |0,_,p,a=>by simp[eT]at a
 |k+1,f,p,a=>by
  simp only[eT]at a;split at a
  .rename_i h;have d:=mv t f h;rcases eB.1 a with rfl|a
   .have c:((t.drop f).take (cutAt t f-f)).length=cutAt t f-f:=by grind
    simp only[bx,bR,a9];grind[Dg]
   .exact xX b k _ p a
  grind
def n6{t:Bs}(a:cj t=ab):∀p∈pieces t,bx p=ab:=xX a _ _
def uZ(t:Bs):∀k f,(eT t k f).length<=k
 |0,_=>bc _
 |k+1,f=>by
  simp only[eT];split
  .have:=uZ t k (cutAt t f);grind
  .simp
def kP(t:Bs):(pieces t).length<=t.length:=uZ t _ _
def gV(t:List bw):List Bs:=t.flatMap λf=>pieces f.2
def zw{t:List bw}{i:Nat}(h:i<t.length):gV (t.take (i+1))=gV (t.take i)++pieces (t.getD i ([],[])).2:=by rw[bY h ([],[])];simp[gV]
def Hj(t:List bw)(i:Nat):(gV (t.take i)).length<=(gV t).length:=by
 have h:gV t=gV (t.take i)++gV (t.drop i):=by unfold gV;grind[List.take_append_drop]
 grind
def ur(k:Int)(l:List cn)(ps:List Bs):∀a:List Bs,(ps.foldl (im k l) a).length<=a.length+ps.length:=by
 induction ps with
 |nil=>grind
 |cons p r b =>
  intro a;have d:=b (im k l a p);have c:(im k l a p).length<=a.length+1:=by unfold im;split<;>simp
  grind
abbrev LZ:dv:=pj (aL pn) aI (λl n=>dI (kl l n)) λl _=>[l.length<=4000000]
def Tq:er X 112 LZ:=.tf λl n h=>LD l n h
abbrev Rm:dv:=pj (aL cS) aS (λl p=>dB (l.contains p)) λl _=>[l.length<=4000000]
def Ws:er X 114 Rm:=.tf λl p h=>Pl l p h
abbrev dV0(a:List Bs):D:=.e (.one (.vec 0 1 a.length (cS.fn a)))
structure tg(t:List bw):Prop where
 len:t.length<=4000000
 tK:∀f∈t,cj f.2=ab/\f.2.length<=4000000
 all:(gV t).length<=100000
def LQ(k:Int)(t:List bw)(l:List cn)(hk:b7 k=ab)(r:tg t)(C:l.length<=4000000):Ev X 64 [dI k,cF.sl t,pn.sl l] [] (cS.sl (dz k t l)) []:=by
 refine Ev.bQ Tryz.func64 rfl λB=>?_;have c:bL X [(111,Hg),(113,xV),(112,LZ),(114,Rm)]:=.cons LN (.cons xS (.cons Tq (.cons Ws .nil)));refine bn c [(1000002,ab)] rfl ay ?_;refine AK.iM 7 9 1 rfl rfl ?_;refine cG c rfl ay ?_;refine AK.cE 1 (λi=>i<=t.length) (λi:Nat=>[(0,dI k),(1,cF.sl t),(2,pn.sl l),(7,dV0 ((gV (t.take i)).foldl (im k l) [])),(8,dI i)]) (λi=>[.vec 9 1 ((gV (t.take i)).foldl (im k l) []).length (cS.fn ((gV (t.take i)).foldl (im k l) []))]) (λi=>t.length-i) 0 rfl ?_ rfl ?_ rfl (by omega) ?_
 .simp[gV]
 .simp[gV]
 intro i hi;by_cases h:i<t.length
 .have w:t.getD (i:Int).toNat cF.cd=t.getD i ([],[]):=by grind
  have m:t.getD i ([],[])∈t:=by grind
  obtain⟨y,q2⟩:=r.tK _ m;have d:=zw h;have s:=Hj t (i+1);have v:=r.all;have z:=r.len;have q:=n6 y;generalize t.getD i ([],[])=f at *;rw[d,cX]at s;refine bn c [(15,ab)] rfl ?_ ?_
  .simp only[az,w,y,a9,aG,aE];and_intros<;>omega
  rw[w];refine AK.cE 1 (λj=>j<=(pieces f.2).length) (λj:Nat=>[(0,dI k),(1,cF.sl t),(2,pn.sl l),(7,dV0 ((gV (t.take i)++(pieces f.2).take j).foldl (im k l) [])),(8,dI i),(9,cS.sl (pieces f.2)),(10,dI j)]) (λj=>[.vec 9 1 ((gV (t.take i)++(pieces f.2).take j).foldl (im k l) []).length (cS.fn ((gV (t.take i)++(pieces f.2).take j).foldl (im k l) []))]) (λj=>(pieces f.2).length-j) 0 rfl ?_ rfl ?_ rfl (by omega) ?_
  .simp
  .simp
  intro j A;have o:=ur k l (gV (t.take i)++(pieces f.2).take j) [];simp only[gG,cX,List.length_take]at o;by_cases D:j<(pieces f.2).length
  .have b:(pieces f.2).getD (j:Int).toNat cS.cd=(pieces f.2).getD j []:=by grind
   have g:bx ((pieces f.2).getD j [])=ab:=q _ (by grind);have a:(gV (t.take i)++(pieces f.2).take (j+1)).foldl (im k l) []=im k l ((gV (t.take i)++(pieces f.2).take j).foldl (im k l) []) ((pieces f.2).getD j []):=by grind[bY]
   generalize(gV (t.take i)++(pieces f.2).take j).foldl (im k l) []=out at *;generalize(pieces f.2).getD j []=p at *;have u:=cS.cy out p;by_cases e:kl l (dA k p)=0
   .cases x:out.contains p with
    |true =>
     rw[im,aY (by grind)]at a;refine bn c [(27,ab),(38,ab),(45,ab)] rfl ?_ (AK.aQ (j+1) rfl ?_ ?_ ?_ ?_)
     .simp only[az,b,hk,g,e,x,bD,cS.list_fn,pn.list_fn,jR,a9,aG,aE];and_intros<;>first|exact cS.aO _|exact pn.aO _|omega
     .rw[a];simp
     .rw[a];simp
     .grind
     .omega
    |false =>
     rw[im,bl (by grind)]at a;refine bn c [(27,ab),(38,ab),(45,ae)] rfl ?_ (AK.aQ (j+1) rfl ?_ ?_ ?_ ?_)
     .simp only[az,b,hk,g,e,x,bD,show i9.bytes=16 from rfl,cS.list_fn,pn.list_fn,jR,a9,aG,aE];and_intros<;>first|exact cS.aO _|exact pn.aO _|omega
     .rw[a];simp only[az.cat,az,b,cX,fb,gG,aG,aE];and_intros<;>first|exactλ_ _=>rfl|exact u|rfl|omega
     .rw[a];simp only[az.cat,az,b,cX,fb,gG,aG,aE];and_intros<;>first|exact u|rfl|omega
     .grind
     .omega
   .rw[im,aY (by grind)]at a;refine bn c [(27,ab),(38,ae)] rfl ?_ (AK.aQ (j+1) rfl ?_ ?_ ?_ ?_)
    .simp only[az,b,hk,g,bD,pn.list_fn,eD,dy,e,om,a9,aG,aE];and_intros<;>first|exact pn.aO _|omega
    .rw[a];simp
    .rw[a];simp
    .grind
    .omega
  .have n:j=(pieces f.2).length:=by omega
   refine bn c [(27,ae)] rfl (by simp only[az,bS];omega) (AK.leaveD rfl rfl ?_);refine cG c rfl ?_ (AK.aQ (i+1) rfl ?_ ?_ ?_ ?_)
   .simp only[az,bD];omega
   .rw[d,n,dq];simp
   .rw[d,n,dq];simp
   .grind
   .omega
 .obtain rfl:i=t.length:=by omega
  rw[dq];refine bn c [(15,ae)] rfl (by simp) (AK.leaveD rfl rfl ?_);refine cG c rfl ay (AK.bz rfl ?_);simp[dz,gV]
abbrev lR(k:Int)(ps:List Bs):List Int:=ps.map (dA k)
abbrev ny(k:Int)(t:List bw):List js:=t.map (lx k)
abbrev Rn(no:Int)(ls:List js):List aR:=[.cells 71 [.c (.int .i64 0),.c (.sl ab 0 0 λ_=>[])],.cells 71 [.c (.int .i64 no),.vec 2 2 ls.length (cL.fn ls)],.vec 140 2 ls.length (cL.fn ls)]
def Pq(no k:Int)(t:List bw)(hk:b7 k=ab)(r:tg t):Ev X 67 [dI no,dI k,cF.sl t] [] (NN (eJ no k t)) []:=by
 refine Ev.rj tok Tryz.func67 rfl rfl rfl λy=>?_;have a:bL X [(111,Hg),(113,xV)]:=.cons LN (.cons xS .nil);refine bn a [(1000002,ab)] rfl ay ?_;refine AK.hZ 1 1 140 2 (cL.fn []) rfl rfl ?_;refine cG a rfl ay ?_;refine AK.cE 3 (λi=>i<=t.length) (λi:Nat=>[(1,dI k),(2,cF.sl t),(6,.e (.one (.ptr 0 0))),(7,.e (.one (.ptr 1 0))),(8,dI i)]) (λi=>Rn no (ny k (t.take i))) (λi=>t.length-i) 0 rfl ?_ rfl ?_ rfl (by omega) ?_
 .simp
 .simp
 intro i hi;by_cases h:i<t.length
 .have m:t.getD (i:Int).toNat cF.cd=t.getD i ([],[]):=by grind
  have d:t.getD i ([],[])∈t:=by grind
  obtain⟨s,q2⟩:=r.tK _ d;have x:=r.len;have l:=n6 s;have v:=kP (t.getD i ([],[])).2;have g:ny k (t.take (i+1))=ny k (t.take i)++[lx k (t.getD i ([],[]))]:=by grind[bY]
  have u:(ny k (t.take i)).length=i:=by grind
  generalize t.getD i ([],[])=f at *;generalize ny k (t.take i)=ls at *;refine bn a [(18,ab),(1000007,ab)] rfl ?_ ?_
  .simp only[az,m,s,a9,aG,aE];and_intros<;>omega
  rw[m];refine AK.iM 10 3 1 rfl rfl ?_;refine cG a rfl ay ?_;refine AK.cE 4 (λj=>j<=(pieces f.2).length) (λj:Nat=>[(1,dI k),(2,cF.sl t),(6,.e (.one (.ptr 0 0))),(7,.e (.one (.ptr 1 0))),(8,dI i),(9,cS.sl (pieces f.2)),(10,.e (.one (.vec 3 1 j (cI.fn (lR k ((pieces f.2).take j)))))),(11,dI j)]) (λj=>Rn no ls++[.vec 3 1 j (cI.fn (lR k ((pieces f.2).take j)))]) (λj=>(pieces f.2).length-j) 0 rfl ?_ rfl ?_ rfl (by omega) ?_
  .simp
  .simp
  intro j q;by_cases z:j<(pieces f.2).length
  .have b:(pieces f.2).getD (j:Int).toNat cS.cd=(pieces f.2).getD j []:=by grind
   have o:bx ((pieces f.2).getD j [])=ab:=l _ (by grind);have c:=cI.cy (lR k ((pieces f.2).take j)) (dA k ((pieces f.2).getD j []));rw[show(lR k ((pieces f.2).take j)).length=j by grind,show lR k ((pieces f.2).take j)++[dA k ((pieces f.2).getD j [])]=lR k ((pieces f.2).take (j+1)) by grind[bY]]at c;refine bn a [(31,ab)] rfl ?_ (AK.aQ (j+1) rfl ?_ ?_ ?_ ?_)
   .simp only[az,b,hk,o,bD,show i3.bytes=8 from rfl,a9,aG,aE];and_intros<;>omega
   .simp only[az.cat,az,b,aG,aE];and_intros<;>first|exactλ_ _=>rfl|exact c|rfl|omega
   .simp only[az.cat,az,b,aG,aE];and_intros<;>first|exactλ_ _=>rfl|exact c|rfl|omega
   .grind
   .omega
  .have n:j=(pieces f.2).length:=by omega
   rw[n,dq];have c:=cL.cy ls (lx k f);have p:ls.length+1=(ls++[lx k f]).length:=by simp
   have w:cL.enc (lx k f)=[C.str f.1,C.sl ae 1 (pieces f.2).length (cI.fn (lR k (pieces f.2)))]:=by show[C.str f.1,C.sl ae 1 (lR k (pieces f.2)).length (cI.fn (lR k (pieces f.2)))]=_;grind
   rw[w,<-g]at c;rw[<-g]at p;refine bn a [(31,ae)] rfl (by simp only[az,bS];omega) (AK.leaveD rfl rfl ?_);refine cG a rfl ?_ (AK.aQ (i+1) rfl ?_ ?_ ?_ ?_)
   .simp only[az,bD,show i140.bytes=40 from rfl,aG,aE];and_intros<;>omega
   .simp
   .simp only[az.cat,az,m,aG,aE];and_intros<;>first|exact cA.same|exact c|exact p|rfl
   .grind
   .omega
 .obtain rfl:i=t.length:=by omega
  rw[dq];refine bn a [(18,ae)] rfl (by simp) (AK.leaveD rfl rfl ?_);refine cG a rfl ay ?_;refine AK.mZ () [] rfl rfl rfl rfl rfl rfl rfl rfl ?_ rfl rfl rfl rfl (λj q=>absurd q (by simp));simp[eJ]
def n8(f g:Nat->List C):cK 0 f g=g:=by funext i;simp[cK]
abbrev xY(s:bk):aR:=.cells 27 [.c (.sl ae 2 s.1.length (cP.fn s.1)),.c (.sl ae 2 s.2.1.length (fi.fn s.2.1)),.c (.sl ae 2 s.2.2.length (cH.fn s.2.2))]
def Eh(ps:List bJ)(q:Nat->ah)(j:Nat):List C:=[.int .i64 (ps.getD j (0,[])).1,.val (q j)]
def BY(ps:List bJ)(q:Nat->ah)(i:Nat):Mem->Prop:=λM=>∀j,j<i->Rd M (q j) (.sl ae 2 (ps.getD j (0,[])).2.length (eg.fn (ps.getD j (0,[])).2))
def JC(q:Nat->ah)(i:Nat)(v:ah)(j:Nat):ah:=if j=i then v else q j
def Nl{ps:List bJ}{q:Nat->ah}{i:Nat}{v:ah}:cA (i+1) (cK i (Eh ps q) (λj=>([[.int .i64 (ps.getD i (0,[])).1,.val v]]:List (List C)).getD j [])) (Eh ps (JC q i v)):=by
 intro j a;by_cases h:j<i
 .simp[cK,h,Eh,JC,show j≠i by omega]
 .obtain rfl:j=i:=by omega
  simp[cK,Eh,JC]
def BY.up{ps:List bJ}{q:Nat->ah}{i:Nat}{bf:nD}{xs:List ah}(o:0<(ps.getD i (0,[])).2.length)(g:gy 2 (ps.getD i (0,[])).2.length (eg.fn (ps.getD i (0,[])).2) xs)(n:∃b cap,bf=.row b cap/\(ps.getD i (0,[])).2.length<=cap/\cap<=9223372036854775807):
  ∀M M',xq M M'->BY ps q i M->(∀b cap,bf=.row b cap->∀j v,xs[j]?=aa v->M' b j=aa v)->BY ps (JC q i (lA bf (ps.getD i (0,[])).2.length)) (i+1) M':=by
 intro M M' hle hK hx j hj;by_cases h:j<i
 .have:=(hK j h).mono hle;simpa[JC,show j≠i by omega]using this
 .obtain rfl:j=i:=by omega
  obtain⟨b,cap,rfl,k,f⟩:=n;rw[JC,bl rfl];have hx:=hx b cap rfl;refine .sl b 0 (λd e=>xs.getD (d*2+e) ai) k f (λh=>by cases h) (λd a=>g.wid d a) (λ_=>rfl) (λd a e c l=>?_) λd a e c l=>?_
  .obtain⟨v,v1,m⟩:=g.at' d a e c l;grind
  .obtain⟨v,v1,m⟩:=g.at' d a e c l;grind
abbrev Qo(s:bk)(i:Nat)(es:Nat->List C)(j:Nat)(l:List fe)(K:Mem->Prop):List aR:=[xY s,.cells 27 [gU,gU,gU],.buf 67 2 i es,.buf 71 2 j (fi.fn l),.buf 48 2 s.2.2.length (cH.fn s.2.2),.cells 27 [.bp 2 (.sl i 2 0 i),.bp 3 (.sl j 2 0 j),.bp 4 (.sl s.2.2.length 2 0 s.2.2.length)],.cm (PM K)]
def F8(s:bk)(A:∀p∈s.1,0<p.2.length)(C:s.1.length<=4000000)(t:∀p∈s.1,p.2.length<=4000000)(B:s.2.1.length<=4000000)(o:kM s)(E:s.2.2.length<=4000000):
  ef (ι:=Nat->ah) X 62 [po s] [] (λ_=>.e (.agg [.bp 0 (.sl s.1.length 2 0 s.1.length),.bp 1 (.sl s.2.1.length 2 0 s.2.1.length),.bp 2 (.sl s.2.2.length 2 0 s.2.2.length)]))
   (λq=>[.buf 67 2 s.1.length (Eh s.1 q),.buf 71 2 s.2.1.length (fi.fn s.2.1),.buf 48 2 s.2.2.length (cH.fn s.2.2),.cm (PM (BY s.1 q s.1.length))]):=by
 refine ef.sI tok Tryz.func62 rfl rfl rfl λD=>?_;refine bO [(1000001,ab)] rfl ay ?_;refine AK.region ?_;refine oK [] 5 rfl ay ?_;refine AK.GP 9 67 2 (cP.fn []) rfl ?_;refine AK.GP 10 71 2 (fi.fn []) rfl ?_;refine AK.GP 11 48 2 (cH.fn []) rfl ?_;refine bO [(1000002,ab)] rfl ?_ ?_
 .simp only[az,show i48.bytes=16 from rfl,aG,aE];grind
 refine AK.spare 76 2 ?_;refine AK.N9 (ι:=Unit) 6 (λ_=>PM (BY s.1 (λ_=>ai) 0)) rfl (λv w h=>⟨(),PM.start (λ_ _ h=>absurd h (fX _)) v w h⟩) λ_=>?_;refine dm rfl ay ?_;refine AK.cE 7 (λx:Nat×(Nat->ah)=>x.1<=s.1.length) (λx=>[(1,.e (.one (.ptr 0 0))),(2,.e (.one (.ptr 1 0))),(3,.e (.one (.ptr 5 0))),(4,dI x.1)]) (λx=>Qo s x.1 (Eh s.1 x.2) 0 [] (BY s.1 x.2 x.1)) (λx=>s.1.length-x.1) (0,λ_=>ai) rfl ?_ rfl ?_ rfl (kD _) ?_
 .simp
 .simp[cA,n8];rfl
 rintro⟨i,d⟩ hi;simp only at hi;by_cases h:i<s.1.length
 .have g:s.1.getD i (0,[])∈s.1:=by grind
  have a:s.1.getD (i:Int).toNat cP.cd=s.1.getD i (0,[]):=by grind
  have q:=t _ g;have b:=A _ g;rw[<-a]at b q;refine aX [(20,ab),(1000005,ab)] rfl ?_ ?_
  .simp only[az,bD,a9,aG,aE];omega
  refine AK.KI (ι:=Own (s.1.getD (i:Int).toNat cP.cd).2) jk 15 18 8 (λk=>bA k 14)
   (λk=>[.e (.one (.ptr 5 0)),.e (.one (.bp 2 (.sl i 2 0 i))),.e (.one (.ptr 0 0)),cP.sl s.1,dI i,UD [.int .i64 (s.1.getD (i:Int).toNat cP.cd).1,sP (s.1.getD (i:Int).toNat cP.cd)],UD [.int .i64 (s.1.getD (i:Int).toNat cP.cd).1,sP (s.1.getD (i:Int).toNat cP.cd)],dI (s.1.getD (i:Int).toNat cP.cd).1,
    .e (.one (.c (.sl ab 2 0 (λj=>[].getD j [])))),.e (.one (.ptr 0 0)),cP.sl s.1,dI i,UD [.int .i64 (s.1.getD (i:Int).toNat cP.cd).1,sP (s.1.getD (i:Int).toNat cP.cd)],UD [sP (s.1.getD (i:Int).toNat cP.cd)],.e (.one (.c (sP (s.1.getD (i:Int).toNat cP.cd))))].getD k .any)
   (λq k=>[.e (.one (.c (Bh _ q))),.e (.agg [.c (.int .i64 (s.1.getD (i:Int).toNat cP.cd).1),.c (Bh _ q)]),.e (.one (.c (.sl ab 2 1 (λj=>[[.int .i64 (s.1.getD (i:Int).toNat cP.cd).1,Bh _ q]].getD j []))))].getD (k-15) .any)
   (λq=>Qo s i (Eh s.1 d) 0 [] (BY s.1 d i)++[IG _ q])
   rfl rfl rfl rfl rfl rfl rfl (λk h=>by have:=db h;omega) rfl
   ⟨OA.cZ tok bL.nil rfl,OA.cZ tok bL.nil rfl,OA.cZ tok bL.nil rfl,OA.cZ tok bL.nil rfl,OA.cZ tok bL.nil rfl,OA.eval (ds:=[]) tok bL.nil rfl ?_,OA.cZ tok bL.nil rfl,OA.cZ tok bL.nil rfl,OA.cZ tok bL.nil rfl,OA.cZ tok bL.nil rfl,OA.cZ tok bL.nil rfl,OA.cZ tok bL.nil rfl,OA.eval (ds:=[]) tok bL.nil rfl ?_,OA.cZ tok bL.nil rfl,OA.cZ tok bL.nil rfl,ay,ay,ay,ay,ay,ay,ay⟩
   (λq=>⟨OA.cZ tok bL.nil rfl,OA.cZ tok bL.nil rfl,OA.cZ tok bL.nil rfl,OA.cZ tok bL.nil rfl,OA.cZ tok bL.nil rfl,OA.eval (ds:=[]) tok bL.nil rfl ?_,OA.cZ tok bL.nil rfl,OA.cZ tok bL.nil rfl,OA.cZ tok bL.nil rfl,OA.cZ tok bL.nil rfl,OA.cZ tok bL.nil rfl,OA.cZ tok bL.nil rfl,OA.eval (ds:=[]) tok bL.nil rfl ?_,OA.cZ tok bL.nil rfl,OA.cZ tok bL.nil rfl,ay,OA.cZ tok bL.nil rfl,OA.cZ tok bL.nil rfl,ay⟩)
   (mW.xb rfl (ee.fresh (Wt rfl) rfl rfl rfl b (by show _*24<=_;omega) (Hk _ _))) ?_
  .simp only[az,aE];omega
  .simp only[az,aE];omega
  .simp only[az,aE];omega
  .simp only[az,aE];omega
  rw[a];rw[a]at b q;generalize m:s.1.getD i (0,[])=p at *;intro r;refine aX [(1000004,ab)] rfl ?_ ?_
  .simp only[az,show i67.bytes=32 from rfl,aG,aE];grind
  refine AK.fact (gf.VE (l:=7) (n:=p.2.length) (bf:=r.1.1) (xs:=r.1.2) rfl b) λF=>?_;refine AK.merge 6 7 (by decide) rfl rfl (λ_ _ h=>h.1) (PM.add (BY.up (by grind) (by grind) (by grind))) ?_;have e:=Nl (ps:=s.1) (q:=d) (i:=i) (v:=lA r.1.1 (s.1.getD i (0,[])).2.length);rw[m]at *;refine bt rfl ?_ (AK.aQ (i+1,JC d i (lA r.1.1 p.2.length)) rfl ?_ ?_ ?_ ?_)
  .simp only[az,bD,aE];omega
  .simp
  .simp only[az.cat,az,aE,aG];and_intros<;>first|exactλ_ _=>rfl|exact e|rfl
  .grind
  grind
 obtain rfl:i=s.1.length:=by omega
 refine bO [(20,ae)] rfl (by simp) (AK.leaveD rfl rfl ?_);refine dm rfl ay ?_;refine AK.cE 7 (λi=>i<=s.2.1.length) (λi:Nat=>[(1,.e (.one (.ptr 0 0))),(2,.e (.one (.ptr 1 0))),(3,.e (.one (.ptr 5 0))),(5,dI i)]) (λi=>Qo s s.1.length (Eh s.1 d) i (s.2.1.take i) (BY s.1 d s.1.length)) (λi=>s.2.1.length-i) 0 rfl ?_ rfl ?_ rfl (by omega) ?_
 .simp
 .simp[cA]
 intro i hi;by_cases h:i<s.2.1.length
 .have g:s.2.1.getD i (0,[])∈s.2.1:=by grind
  have a:s.2.1.getD (i:Int).toNat fi.cd=s.2.1.getD i (0,[]):=by grind
  have q:=o _ g;have e:=fi.kW s.2.1 h (0,[]);generalize s.2.1.getD i (0,[])=x at *;refine bO [(47,ab),(1000010,ab)] rfl ?_ ?_
  .simp only[az,a,a9,true_or,aG,aE];and_intros<;>omega
  rw[a];refine AK.hZ 7 1 140 2 (cL.fn []) rfl rfl ?_;refine dm rfl ay ?_;refine AK.cE 9 (λj=>j<=x.2.length) (λj:Nat=>[(1,.e (.one (.ptr 0 0))),(2,.e (.one (.ptr 1 0))),(3,.e (.one (.ptr 5 0))),(5,dI i),(6,.e (.one (.ptr 7 0))),(7,dI j)]) (λj=>Qo s s.1.length (Eh s.1 d) i (s.2.1.take i) (BY s.1 d s.1.length)++[.cells 71 [.c (.int .i64 x.1),.vec 8 2 j (cL.fn (x.2.take j))],.vec 140 2 j (cL.fn (x.2.take j))]) (λj=>x.2.length-j) 0 rfl ?_ rfl ?_ rfl (by omega) ?_
  .simp
  .simp[cA]
  intro j u;by_cases z:j<x.2.length
  .have f:x.2.getD (j:Int).toNat cL.cd=x.2.getD j ([],[]):=by grind
   have G:=q.2 (x.2.getD j ([],[])) (by grind);have y:=cL.kW x.2 z ([],[]);refine bO [(66,ab),(2000085,ab)] rfl ?_ (AK.aQ (j+1) rfl ?_ ?_ ?_ ?_)
   .simp only[az,a,f,bD,show i140.bytes=40 from rfl,show i3.bytes=8 from rfl,a9,true_or,aG,aE];and_intros<;>omega
   .simp
   .simp only[az.cat,az,a,f,n8,bF,aE,aG];and_intros<;>first|exactλ_ _=>rfl|exact y|rfl
   .grind
   .omega
  obtain rfl:j=x.2.length:=by omega
  rw[dq];refine bO [(66,ae)] rfl ?_ (AK.leaveD rfl rfl ?_)
  .simp only[az,a,bS];and_intros<;>omega
  refine dm rfl ?_ (AK.aQ (i+1) rfl ?_ ?_ ?_ ?_)
  .simp only[az,a,bD,show i71.bytes=32 from rfl,aG,aE];and_intros<;>omega
  .simp
  .simp only[az.cat,az,aE,aG];and_intros<;>first|exactλ_ _=>rfl|exact e|rfl
  .grind
  .omega
 obtain rfl:i=s.2.1.length:=by omega
 rw[dq];refine bO [(47,ae)] rfl (by simp) (AK.leaveD rfl rfl ?_);refine dm rfl ay ?_;refine AK.mZ d [2,3,4,6] rfl rfl rfl rfl rfl rfl rfl rfl ?_ rfl rfl rfl rfl (λj u=>absurd u (by simp))
 .simp
def Nm(l:List bo)(x:bo)(s:l.length<=4000000):Ev X 117 [eg.sl l,Tn x] [] (.e (.one (.vec 0 2 (gC l x).length (eg.fn (gC l x))))) [.vec 76 2 (gC l x).length (eg.fn (gC l x))]:=by
 refine Ev.bQ Tryz.func117 rfl λr=>?_;refine bO [(1000002,ab)] rfl ay ?_;refine AK.iM 5 76 2 rfl rfl ?_;refine dm rfl ay ?_;refine AK.cE 2 (λi=>i<=l.length) (λi:Nat=>p3F l x i (nw x l i)) (λi=>ZQ x (nw x l i).1) (λi=>l.length-i) 0 rfl ?_ rfl ?_ rfl (by omega) ?_
 .simp[nw]
 .simp[nw]
 intro i hi;by_cases h:i<l.length
 .have p:=zt (x:=x) h;have f:=th x l i;have j:l.getD (i:Int).toNat eg.cd=l.getD i (0,[]):=by grind
  generalize nw x l i=a at p f;obtain⟨a,b⟩:=a;simp only at f;have m:=eg.cy a (l.getD i (0,[]));have n:=eg.pX a x (l.getD i (0,[]));cases b with
  |true =>
   have d:nw x l (i+1)=(a++[l.getD i (0,[])],ab):=p;have k:a.length+1=(a++[l.getD i (0,[])]).length:=by simp
   refine bO [(12,ab)] rfl ?_ (AK.aQ (i+1) rfl ?_ ?_ ?_ ?_)
   .simp only[az,j,bD,show i76.bytes=24 from rfl,a9,aG,aE];and_intros<;>omega
   .rw[d];simp only[az.cat,az,j,aG,aE];and_intros<;>first|exact k|exact m|exactλ_ _=>rfl|rfl|omega
   .rw[d];simp only[az.cat,az,j,aG,aE];and_intros<;>first|exact k|exact m|exactλ_ _=>rfl|rfl|omega
   .grind
   .omega
  |false =>
   by_cases g:x.1<(l.getD i (0,[])).1
   .have d:nw x l (i+1)=(a++[x,l.getD i (0,[])],ab):=by rw[p];simp only[iW,bl g];rfl
    have k:a.length+1+1=(a++[x,l.getD i (0,[])]).length:=by simp
    refine bO [(12,ab),(25,ab)] rfl ?_ (AK.aQ (i+1) rfl ?_ ?_ ?_ ?_)
    .simp only[az,j,bD,show i76.bytes=24 from rfl,g,jV,a9,aG,aE];and_intros<;>omega
    .rw[d];simp only[az.cat,az,j,aG,aE];and_intros<;>first|exact k|exact n|exactλ_ _=>rfl|rfl|omega
    .rw[d];simp only[az.cat,az,j,aG,aE];and_intros<;>first|exact k|exact n|exactλ_ _=>rfl|rfl|omega
    .grind
    .omega
   .have d:nw x l (i+1)=(a++[l.getD i (0,[])],ae):=by rw[p];simp only[iW,aY g];rfl
    have k:a.length+1=(a++[l.getD i (0,[])]).length:=by simp
    refine bO [(12,ab),(25,ae)] rfl ?_ (AK.aQ (i+1) rfl ?_ ?_ ?_ ?_)
    .simp only[az,j,bD,show i76.bytes=24 from rfl,a9,g,kS,om,bS,aG,aE];and_intros<;>omega
    .rw[d];simp only[az.cat,az,j,aG,aE];and_intros<;>first|exact k|exact m|exactλ_ _=>rfl|rfl|omega
    .rw[d];simp only[az.cat,az,j,aG,aE];and_intros<;>first|exact k|exact m|exactλ_ _=>rfl|rfl|omega
    .grind
    .omega
 .obtain rfl:i=l.length:=by omega
  have c:=uv x l [];have f:=th x l l.length;refine bO [(12,ae)] rfl (by simp) (AK.leaveD rfl rfl ?_);have q:nw x l l.length=l.foldl (iW x) ([],ae):=by grind
  rw[q]at f⊢;generalize l.foldl (iW x) ([],ae)=a at *;obtain⟨a,b⟩:=a;simp only[mL]at c f;cases b with
  |true =>
   simp only[cq]at c;subst c;refine dm rfl ay (AK.dk [1] rfl ?_ ?_ rfl rfl xG)
   .simp
   .rfl
  |false =>
   simp only[jP,ck]at c;have m:=eg.cy a x;refine bO [(1000012,ab)] rfl ?_ ?_
   .simp only[az,show i76.bytes=24 from rfl,aG,aE];grind
   have o:(a++[x]).length=a.length+1:=by simp
   refine AK.CI (φ':=[(5,.e (.one (.vec 1 2 (a++[x]).length (eg.fn (a++[x])))))]) (σ':=ZQ x (a++[x])) ?_ rfl ?_ rfl ?_
   .rw[<-c];refine dm rfl ay (AK.dk [1] rfl ?_ ?_ rfl rfl xG)
    .simp
    .rfl
   .simp only[az.cat,az,o,aG,aE];and_intros<;>first|exact m|rfl
   .simp only[az.cat,az,o,aG,aE];and_intros<;>first|exact m|rfl
def Nn[X.hU](l:List bo)(x:bo)(a:l.length<=4000000):ef (ι:=Own (gC l x)) X 117 [eg.sl l,Tn x] [] (λq=>.e (.one (.c (Bh (gC l x) q)))) (λq=>[IG (gC l x) q]) :=
 Ev.thaw (Nm l x a) Tryz.func117 rfl (by simp[vW,qL,m0]) λi hi=>⟨rfl,Hk _ _ i hi⟩
def mkB(no:Int)(L:List bo):Option (Own L)->List bo->List aR
 |none,l=>[.cells 67 [.c (.int .i64 0),.c (.sl ab 0 0 λ_=>[])],pkB no l,.cm (gf 76 2 (.nil af) 0 [])]
 |some q,_=>[.cells 67 [.c (.int .i64 0),.c (.sl ab 0 0 λ_=>[])],.cells 67 [.c (.int .i64 no),.c (Bh L q)],IG L q]
def Jf[X.hU](no k:Int)(ps:List Bs)(hk:b7 k=ab)(u:∀p∈ps,bx p=ab)(z:ps.length<=4000000)(B:0<ps.length):
  ef (ι:=Own (o0 k ps)) X 66 [dI no,dI k,cS.sl ps] [] (λq=>.e (.agg [.c (.int .i64 no),.c (Bh (o0 k ps) q)])) (λq=>[IG (o0 k ps) q]):=by
 refine ef.sI tok Tryz.func66 rfl rfl rfl λy=>?_;have f:bL X [(113,xV),(118,Hi),(117,Rj)]:=.cons xS (.cons LW (.cons Wq .nil));refine bn f [(1000002,ab)] rfl ay ?_;refine AK.spare 76 2 ?_;refine cG f rfl ay ?_;refine AK.cE 3 (λx:Option (Own (o0 k ps))×Nat=>x.2<=ps.length/\(x.1.isSome=ab↔x.2=ps.length)) (λx=>[(1,dI k),(2,cS.sl ps),(6,.e (.one (.ptr 0 0))),(7,.e (.one (.ptr 1 0))),(8,dI x.2)]) (λx=>mkB no (o0 k ps) x.1 (o0 k (ps.take x.2))) (λx=>ps.length-x.2) (af,0) rfl ?_ rfl ?_ rfl ⟨kD _,by grind⟩ ?_
 .simp
 .simp[o0]
 rintro⟨q,i⟩ ⟨hi,s⟩;simp only at hi s;cases q with
 |some q =>
  obtain rfl:i=ps.length:=s.1 rfl;refine bn f [(15,ae)] rfl (by simp) (AK.leaveD rfl rfl ?_);refine cG f rfl ay ?_;refine AK.mZ q [2] rfl rfl rfl rfl rfl rfl rfl rfl ?_ rfl rfl rfl rfl (λj t=>absurd t (by simp));simp
 |none =>
  have h:i<ps.length:=by grind
  have m:ps.getD (i:Int).toNat cS.cd=ps.getD i []:=by grind
  have b:bx (ps.getD i [])=ab:=u _ (by grind);have v:=LY (k:=k) h;have n:=tm k (ps.take i);rw[List.length_take]at n;by_cases A:i+1<ps.length
  .refine bn f [(15,ab)] rfl ?_ (AK.aQ (af,i+1) rfl ?_ ?_ ?_ ?_)
   .simp only[az,m,hk,b,bD,eg.list_fn,a9,aG,aE];and_intros<;>first|exact eg.aO _|omega
   .simp
   .show az _;rw[v];simp only[az.cat,az,m,eg.list_fn,aG,aE];and_intros<;>first|exactλ_ _=>rfl|rfl|omega
   .grind
   grind
  .have w:i+1=ps.length:=by omega
   have d:o0 k ps=gC (o0 k (ps.take i)) (dA k (ps.getD i []),eY (ps.getD i [])):=by grind
   refine bn f [(15,ab),(1000005,ab)] rfl ?_ ?_
   .simp only[az,a9];omega
   have g:=Nn (X:=X) (o0 k (ps.take i)) (dA k (ps.getD i []),eY (ps.getD i [])) (by omega);rw[<-d]at g;have a:bL X [(113,xV),(118,Hi)]:=.cons xS (.cons LW .nil);generalize o:ps.getD i []=p at *;generalize o0 k (ps.take i)=l at *;refine AK.KI (ι:=Own (o0 k ps)) jk 14 15 16 (λj=>bA j 13)
    (λj=>([.e (.one (.ptr 1 1)),eg.sl l,dI k,cS.sl ps,dI i,UD [.str (ps.getD (i:Int).toNat cS.cd)],dS (ps.getD (i:Int).toNat cS.cd),dI (dA k (ps.getD (i:Int).toNat cS.cd)),cS.sl ps,dI i,UD [.str (ps.getD (i:Int).toNat cS.cd)],dS (ps.getD (i:Int).toNat cS.cd),dS (eY (ps.getD (i:Int).toNat cS.cd)),.e (.agg [.c (.int .i64 (dA k (ps.getD (i:Int).toNat cS.cd))),.c (.str (eY (ps.getD (i:Int).toNat cS.cd)))])]:List D).getD j .any)
    (λq _=>.e (.one (.c (Bh (o0 k ps) q)))) (λq=>mkB no (o0 k ps) af l++[IG (o0 k ps) q])
    rfl rfl rfl rfl rfl rfl rfl (λj h=>by have:=db h;omega) rfl
    ⟨OA.cZ tok a rfl,OA.cZ tok a rfl,OA.cZ tok a rfl,OA.cZ tok a rfl,OA.cZ tok a rfl,OA.eval (ds:=[]) tok a rfl ?_,OA.cZ tok a rfl,OA.eval (ds:=[]) tok a rfl ?_,OA.cZ tok a rfl,OA.cZ tok a rfl,OA.eval (ds:=[]) tok a rfl ?_,OA.cZ tok a rfl,OA.eval (ds:=[]) tok a rfl ?_,OA.cZ tok a rfl,ay,ay,ay,ay⟩
    (λq=>⟨OA.cZ tok a rfl,OA.cZ tok a rfl,OA.cZ tok a rfl,OA.cZ tok a rfl,OA.cZ tok a rfl,OA.eval (ds:=[]) tok a rfl ?_,OA.cZ tok a rfl,OA.eval (ds:=[]) tok a rfl ?_,OA.cZ tok a rfl,OA.cZ tok a rfl,OA.eval (ds:=[]) tok a rfl ?_,OA.cZ tok a rfl,OA.eval (ds:=[]) tok a rfl ?_,OA.cZ tok a rfl,ay,ay⟩)
    (mW.qA (o▸g) [] rfl rfl rfl rfl rfl rfl rfl (λ_=>rfl) rfl (λ_=>rfl)) ?_
   all_goals first|(simp only[az,m,hk,b,aE,aG];omega)|(simp only[az.cat,az,m,hk,b,and_self];done)|skip
   intro r;refine bn a [(1000004,ab)] rfl ay ?_;refine AK.swap 2 3 (by decide) rfl rfl (λ_ _ h=>h.1) (λ_ _ h=>h.1) ?_;refine cG a rfl ?_ (AK.aQ (aa r,i+1) rfl ?_ ?_ ?_ ?_)
   .simp only[az,bD];omega
   .simp
   .simp
   .grind
   grind
def Bg{o:au}{k:aq->D}{σ:List aR}{x y:aq}{j:Array aj}{a b:Int}(m:Int)(h:o.op=.call {callee:=.builtin .max,args:=#[x,y],argTypes:=j})(n:k x=dI a)(q:k y=dI b)(r:max a b=m)(p:bD .i64 m):bM ag o k σ (dI m) σ:=by
 refine .quiet λs l t f=>?_;have d:=f x;have g:=f y;rw[n]at d;rw[q]at g;replace d:=e9 d;replace g:=e9 g;generalize i:l x=vx at d;generalize c:l y=vy at g;cases d;cases g;have e:(if a<b then b else a)=m:=by grind
 exact⟨.int .i64 m,by simp[aw,h,resolve,invoke,builtin,i,c,Builtin.max_,Builtin.max2,e],.int p,by simp[aw,h,resolve,invoke,builtin,i,c,Builtin.max_,Builtin.max2]⟩
def cz(s:bk):Int:=if s.1.length=0 then 1 else(s.1.getD (s.1.length-1) (0,[])).1+1
def o7(l:List (Int×Int)):Int:=l.foldl (λm h=>max m (h.2+1)) 1
def c6(s:bk):Int:=if s.2.1.length=0 then o7 s.2.2 else max (o7 s.2.2) ((s.2.1.getD (s.2.1.length-1) (0,[])).1+1)
structure rX(st:bk):Prop where
 p:∀x∈st.1,-4000000<=x.1/\x.1<=4000000
 s:∀x∈st.2.1,-4000000<=x.1/\x.1<=4000000
 h:∀x∈st.2.2,-4000000<=x.2/\x.2<=4000000
def n9(l:List (Int×Int))(h:∀x∈l,-4000000<=x.2/\x.2<=4000000):1<=o7 l/\o7 l<=4000001:=by
 have:∀(l:List (Int×Int)) (m:Int),(∀x∈l,-4000000<=x.2/\x.2<=4000000)->1<=m->m<=4000001->1<=l.foldl (λm h=>max m (h.2+1)) m/\l.foldl (λm h=>max m (h.2+1)) m<=4000001:=by
  intro l;induction l with
  |nil=>grind
  |cons x r a =>
   grind
 exact this l 1 h (by omega) (by omega)
def FD{l:List (Int×Int)}{i:Nat}(h:i<l.length):o7 (l.take (i+1))=max (o7 (l.take i)) ((l.getD i (0,0)).2+1):=by unfold o7;grind[bY]
def fj{α:Type}{l:List α}{i:Nat}(h:i<l.length)(d:α):l.getD i d∈l:=by grind
def IF(s:bk)(d:lq s)(b:rX s):Ev X 63 [po s] [] (.fa [.one (.c (.int .i64 (cz s))),.one (.c (.int .i64 (c6 s)))]) []:=by
 refine Ev.bQ Tryz.func63 rfl λo=>?_;have j:=d.p;have n:=d.sn;have l:=d.h;apply AK.join [(1,.e (.one (.ptr 0 0))),(4,dI (cz s)),(5,dI 1)] [xY s]
 .intro out;by_cases h:s.1.length=0
  .refine bO [(10,ae),(1000005,ab)] rfl (by simp only[az,bS];omega) ?_;exact out _ _ rfl (by simp[cz,h])
  .have f:=b.p _ (fj (show s.1.length-1<s.1.length by omega) (0,[]));have a:s.1.getD ((s.1.length:Int)-1).toNat cP.cd=s.1.getD (s.1.length-1) (0,[]):=by rw[show((s.1.length:Int)-1).toNat=s.1.length-1 by omega];rfl
   refine bO [(10,ab),(1000005,ab)] rfl ?_ ?_
   .simp only[az,a,bD,a9,aG,aE];and_intros<;>omega
   exact out _ _ rfl (by simp only[az.cat,az,cz,aY h,a,aG,aE])
 refine dm rfl ay ?_;refine AK.cE 1 (λi=>i<=s.2.2.length) (λi:Nat=>[(1,.e (.one (.ptr 0 0))),(4,dI (cz s)),(5,dI (o7 (s.2.2.take i))),(6,dI i)]) (λi=>[xY s]) (λi=>s.2.2.length-i) 0 rfl ?_ rfl ?_ rfl (by omega) ?_
 .simp[o7]
 .simp
 intro i hi;by_cases h:i<s.2.2.length
 .have f:=b.h _ (fj h (0,0));have m:=n9 (s.2.2.take i) λx g=>b.h x (fM g);have a:s.2.2.getD (i:Int).toNat cH.cd=s.2.2.getD i (0,0):=by grind
  have k:=FD h;refine bO [(25,ab)] rfl ?_ ?_
  .simp only[az,a,bD,a9,aG,aE];and_intros<;>omega
  rw[a];refine AK.law (Bg (o7 (s.2.2.take (i+1))) rfl rfl rfl k.symm (by simp only[bD];omega)) rfl rfl ?_;refine dm rfl ?_ (AK.aQ (i+1) rfl ?_ ?_ ?_ ?_)
  .simp only[az,bD];omega
  .simp
  .simp
  .grind
  .omega
 obtain rfl:i=s.2.2.length:=by omega
 rw[dq];refine bO [(25,ae)] rfl (by simp) (AK.leaveD rfl rfl ?_);have m:=n9 s.2.2 b.h;by_cases h:s.2.1.length=0
 .refine bO [(40,ae)] rfl (by simp only[az,bS];omega) (AK.bz rfl ?_);simp[c6,h]
 .have f:=b.s _ (fj (show s.2.1.length-1<s.2.1.length by omega) (0,[]));have a:s.2.1.getD ((s.2.1.length:Int)-1).toNat fi.cd=s.2.1.getD (s.2.1.length-1) (0,[]):=by rw[show((s.2.1.length:Int)-1).toNat=s.2.1.length-1 by omega];rfl
  refine bO [(40,ab)] rfl ?_ ?_
  .simp only[az,a,bD,a9,aG,aE];and_intros<;>omega
  rw[a];refine AK.law (Bg (c6 s) rfl rfl rfl (by rw[c6,aY h]) (by rw[c6,aY h];simp only[bD];omega)) rfl rfl ?_;exact dm rfl ay (AK.bz rfl)
abbrev Ts(s:bk)(i:Nat)(p:List bJ)(j:Nat)(q:List fe):List aR:=[xY s,.cells 27 [gU,gU,gU],.vec 48 2 s.2.2.length (cH.fn s.2.2),.cells 27 [.vec 4 2 i (cP.fn p),.vec 5 2 j (fi.fn q),.vec 2 2 s.2.2.length (cH.fn s.2.2)],.vec 67 2 i (cP.fn p),.vec 71 2 j (fi.fn q)]
def FC(s:bk)(o:s.1.length<=4000000)(f:∀p∈s.1,p.2.length<=4000000)(n:s.2.1.length<=4000000)(g:kM s)(t:s.2.2.length<=4000000):
  Ev X 62 [po s] [] (.e (.agg [.vec 0 2 s.1.length (cP.fn s.1),.vec 1 2 s.2.1.length (fi.fn s.2.1),.vec 2 2 s.2.2.length (cH.fn s.2.2)])) [.vec 67 2 s.1.length (cP.fn s.1),.vec 71 2 s.2.1.length (fi.fn s.2.1),.vec 48 2 s.2.2.length (cH.fn s.2.2)]:=by
 refine Ev.rj tok Tryz.func62 rfl rfl rfl λr=>?_;refine bO [(1000002,ab)] rfl ?_ ?_
 .simp only[az,show i48.bytes=16 from rfl,aG,aE,true_or];grind
 refine AK.hZ 3 0 67 2 (cP.fn []) rfl rfl ?_;refine AK.hZ 3 1 71 2 (fi.fn []) rfl rfl ?_;refine dm rfl ay ?_;refine AK.cE 6 (λi=>i<=s.1.length) (λi:Nat=>[(1,.e (.one (.ptr 0 0))),(2,.e (.one (.ptr 1 0))),(3,.e (.one (.ptr 3 0))),(4,dI i)]) (λi=>Ts s i (s.1.take i) 0 []) (λi=>s.1.length-i) 0 rfl ?_ rfl ?_ rfl (by omega) ?_
 .simp
 .simp[cA,n8]
 intro i hi;by_cases h:i<s.1.length
 .have d:s.1.getD i (0,[])∈s.1:=by grind
  have a:s.1.getD (i:Int).toNat cP.cd=s.1.getD i (0,[]):=by grind
  have q:=f _ d;refine bO [(20,ab),(2000038,ab)] rfl ?_ (AK.aQ (i+1) rfl ?_ ?_ ?_ ?_)
  .simp only[az,a,bD,show i67.bytes=32 from rfl,show i76.bytes=24 from rfl,a9,true_or,aG,aE];and_intros<;>omega
  .simp
  .have e:=cP.kW s.1 h (0,[]);simp only[az.cat,az,a,n8,bF,aE,aG];and_intros<;>first|exactλ_ _=>rfl|exact e|rfl|omega
  .grind
  .omega
 obtain rfl:i=s.1.length:=by omega
 rw[dq];refine bO [(20,ae)] rfl (by simp) (AK.leaveD rfl rfl ?_);refine dm rfl ay ?_;refine AK.cE 6 (λi=>i<=s.2.1.length) (λi:Nat=>[(1,.e (.one (.ptr 0 0))),(2,.e (.one (.ptr 1 0))),(3,.e (.one (.ptr 3 0))),(5,dI i)]) (λi=>Ts s s.1.length s.1 i (s.2.1.take i)) (λi=>s.2.1.length-i) 0 rfl ?_ rfl ?_ rfl (by omega) ?_
 .simp
 .simp[cA]
 intro i hi;by_cases h:i<s.2.1.length
 .have d:s.2.1.getD i (0,[])∈s.2.1:=by grind
  have a:s.2.1.getD (i:Int).toNat fi.cd=s.2.1.getD i (0,[]):=by grind
  have q:=g _ d;have e:=fi.kW s.2.1 h (0,[]);generalize s.2.1.getD i (0,[])=x at *;refine bO [(47,ab),(1000010,ab)] rfl ?_ ?_
  .simp only[az,a,a9,true_or,aG,aE];and_intros<;>omega
  rw[a];refine AK.hZ 6 1 140 2 (cL.fn []) rfl rfl ?_;refine dm rfl ay ?_;refine AK.cE 8 (λj=>j<=x.2.length) (λj:Nat=>[(1,.e (.one (.ptr 0 0))),(2,.e (.one (.ptr 1 0))),(3,.e (.one (.ptr 3 0))),(5,dI i),(6,.e (.one (.ptr 6 0))),(7,dI j)]) (λj=>Ts s s.1.length s.1 i (s.2.1.take i)++[.cells 71 [.c (.int .i64 x.1),.vec 7 2 j (cL.fn (x.2.take j))],.vec 140 2 j (cL.fn (x.2.take j))]) (λj=>x.2.length-j) 0 rfl ?_ rfl ?_ rfl (by omega) ?_
  .simp
  .simp[cA]
  intro j k;by_cases l:j<x.2.length
  .have b:x.2.getD (j:Int).toNat cL.cd=x.2.getD j ([],[]):=by grind
   have u:=q.2 (x.2.getD j ([],[])) (by grind);have m:=cL.kW x.2 l ([],[]);refine bO [(66,ab),(2000085,ab)] rfl ?_ (AK.aQ (j+1) rfl ?_ ?_ ?_ ?_)
   .simp only[az,a,b,bD,show i140.bytes=40 from rfl,show i3.bytes=8 from rfl,a9,true_or,aG,aE];and_intros<;>omega
   .simp
   .simp only[az.cat,az,a,b,n8,bF,aE,aG];and_intros<;>first|exactλ_ _=>rfl|exact m|rfl
   .grind
   .omega
  obtain rfl:j=x.2.length:=by omega
  rw[dq];refine bO [(66,ae)] rfl ?_ (AK.leaveD rfl rfl ?_)
  .simp only[az,a,bS];and_intros<;>omega
  refine dm rfl ?_ (AK.aQ (i+1) rfl ?_ ?_ ?_ ?_)
  .simp only[az,a,bD,show i71.bytes=32 from rfl,aG,aE];and_intros<;>omega
  .simp
  .simp only[az.cat,az,aE,aG];and_intros<;>first|exactλ_ _=>rfl|exact e|rfl|omega
  .grind
  .omega
 obtain rfl:i=s.2.1.length:=by omega
 rw[dq];refine bO [(47,ae)] rfl (by simp) (AK.leaveD rfl rfl ?_);refine dm rfl ay ?_;refine AK.mZ () [4,5,2] rfl rfl rfl rfl rfl rfl rfl rfl ?_ rfl rfl rfl rfl (λj k=>absurd k (by simp))
 .simp
def LO(a b:Nat):min (a:Int) (b:Int)=((min a b:Nat):Int):=by grind
def eb(k:Int):Nat->Int->List Bs->List bJ
 |0,_,_=>[]
 |f+1,no,ps=>if 0<ps.length then gj no k (ps.take 4)::eb k f (no+1) (ps.drop 4)else[]
def lQ(k:Int)(s:bk)(t:List bw):List bJ:=eb k (dz k t (indexOf s.1)).length (cz s) (dz k t (indexOf s.1))
def fW(k:Int)(s:bk)(t:List bw):Bool:=decide (20<s.1.length+(lQ k s t).length)||(decide (99<cz s+(lQ k s t).length-1)||(decide (20<c6 s)||decide (9<=s.2.2.length)))
def c9(k:Int)(s:bk)(by_:Int)(t:List bw):bk:=(s.1++lQ k s t,s.2.1++[eJ (c6 s) k t],s.2.2++[(by_,c6 s)])
theorem xU(k:Int):∀f no ps,(eb k f no ps).length<=f
 |0,_,_=>bc _
 |f+1,no,ps=>by
  simp only[eb];split
  .have:=xU k f (no+1) (ps.drop 4);grind
  .simp
abbrev Rh:dv:=Fc aI aI (aL cF) (λno k t=>NN (eJ no k t)) λ_ k t=>[b7 k=ab,tg t]
def Wk:er X 67 Rh:=.Lf λno k t h=>Pq no k t h.1 h.2
abbrev LP:dv:=Fc aI (aL cF) (aL pn) (λk t l=>cS.sl (dz k t l)) λk t l=>[b7 k=ab,tg t,l.length<=4000000]
def Tm:er X 64 LP:=.Lf λk t l h=>LQ k t l h.1 h.2.1 h.2.2
def hO{k:Int}{t:List bw}{l:List cn}(c:tg t):(∀p∈dz k t l,bx p=ab)/\(dz k t l).length<=100000:=by
 constructor
 .have:∀(ps a:List Bs),(∀p∈ps,bx p=ab)->(∀p∈a,bx p=ab)->∀p∈ps.foldl (im k l) a,bx p=ab:=by
   intro ps;induction ps with
   |nil=>grind
   |cons q r g =>
    intro a e h;refine g _ (λp b=>e p (pq _ b)) λp b=>?_;unfold im at b;grind
  refine this _ [] (λp b=>?_) (by simp);obtain⟨f,d,b⟩:=qn.1 b;exact n6 (c.tK f d).1 p b
 .have:=ur k l (gV t) [];have h:=c.all;unfold dz;simp only[gG]at this;exact iZ this (by omega)
theorem uY{l:List bJ}(h:(cV l).length<=100000):(indexOf l).length<=100000:=by unfold indexOf;grind[uu]
abbrev ZL(s:bk)(b:Bool):D:=.fa [.agg [.c (.sl ae 2 s.1.length (cP.fn s.1)),.c (.sl ae 2 s.2.1.length (fi.fn s.2.1)),.c (.sl ae 2 s.2.2.length (cH.fn s.2.2))],.one (.c (.bool b))]
def BY.snoc{ps:List bJ}{x:bJ}{q:Nat->ah}{bf:nD}{xs:List ah}(d:0<x.2.length)(a:gy 2 x.2.length (eg.fn x.2) xs)(c:∃b cap,bf=.row b cap/\x.2.length<=cap/\cap<=9223372036854775807):
  ∀M M',xq M M'->BY ps q ps.length M->(∀b cap,bf=.row b cap->∀j v,xs[j]?=aa v->M' b j=aa v)->BY (ps++[x]) (JC q ps.length (lA bf x.2.length)) (ps++[x]).length M':=by
 intro M M' hle hK hx;have e:(ps++[x]).getD ps.length (0,[])=x:=by simp
 have h:=BY.up (ps:=ps++[x]) (q:=q) (i:=ps.length) (bf:=bf) (xs:=xs) (by grind) (by grind) (by grind) M M' hle (λj hj=>by
  have e2:(ps++[x]).getD j (0,[])=ps.getD j (0,[]):=by grind
  rw[e2];exact hK j hj) hx
 grind
def No{ps:List bJ}{x:bJ}{q:Nat->ah}{v:ah}:cA (ps.length+1) (cK ps.length (Eh ps q) (λj=>([[.int .i64 x.1,.val v]]:List (List C)).getD j [])) (Eh (ps++[x]) (JC q ps.length v)):=by
 intro j b;by_cases h:j<ps.length
 .have a:(ps++[x]).getD j (0,[])=ps.getD j (0,[]):=by grind
  simp only[cK,h,cq,Eh,JC,a,aY (show j≠ps.length by omega)]
 .obtain rfl:j=ps.length:=by omega
  have e:(ps++[x]).getD ps.length (0,[])=x:=by simp
  simp only[cK,Eh,JC,e,cq];simp
abbrev aas(k by_ no:Int)(s:bk)(t:List bw)(rest:List Bs):Fr:=[(0,dI k),(2,dI by_),(3,cF.sl t),(5,.e (.one (.ptr 0 0))),(8,.e (.one (.ptr 1 0))),(10,.e (.one (.ptr 6 0))),(11,dI no),(12,dI (c6 s)),(13,cS.sl rest)]
abbrev Qp(s:bk)(ps:List bJ)(q:Nat->ah):List aR:=[xY s,.cells 27 [gU,gU,gU],.buf 67 2 ps.length (Eh ps q),.buf 71 2 s.2.1.length (fi.fn s.2.1),.buf 48 2 s.2.2.length (cH.fn s.2.2),.cm (PM (BY ps q ps.length)),.cells 27 [.bp 2 (.sl ps.length 2 0 ps.length),.bp 3 (.sl s.2.1.length 2 0 s.2.1.length),.bp 4 (.sl s.2.2.length 2 0 s.2.2.length)]]
def r5[X.hU](k:Int)(s:bk)(by_:Int)(t:List bw)(hk:b7 k=ab)(b:lq s)(A:rX s)(z:tg t)(H:(cV s.1).length<=100000)(h0:∀p∈s.1,0<p.2.length){y:Bool}(B:fW k s t=y):
  ef (ι:=Nat->ah) X 24 [dI k,po s,dI by_,cF.sl t] [] (λ_=>cond y (ZL s ae) (.fa [.agg [.bp 0 (.sl (c9 k s by_ t).1.length 2 0 (c9 k s by_ t).1.length),.c (Fy (c9 k s by_ t).2.1),.c (Db (c9 k s by_ t).2.2)],.one (.c (.bool ab))]))
   (λq=>cond y [] [.buf 67 2 (c9 k s by_ t).1.length (Eh (c9 k s by_ t).1 q),.cm (PM (BY (c9 k s by_ t).1 q (c9 k s by_ t).1.length))]):=by
 refine ef.sI tok Tryz.func24 rfl rfl rfl λhf=>?_;have a:bL X [(65,LV),(64,LP),(67,Rh)]:=.cons To (.cons Tm (.cons Wk .nil));have h1:=b.p;have h2:=b.sn;have h3:=b.h;have R:=uY H;refine cG a rfl ay ?_;refine AK.cP (F8 s h0 b.p b.p2 b.sn b.s2 b.h) [] rfl (λ_=>rfl) λq0=>?_;refine cG a rfl ay ?_;refine AK.cQ (IF s b A) [] rfl ?_;refine cG a rfl ?_ ?_
 .simp only[az,cP.list_fn,pn.list_fn,cF.list_fn,hk,z];and_intros<;>first|exact cP.aO _|exact pn.aO _|exact cF.aO _|trivial|exact z|omega
 simp only[cP.list_fn,pn.list_fn,cF.list_fn];obtain⟨M,S⟩:=hO (k:=k) (l:=indexOf s.1) z;have hN:lQ k s t=eb k (dz k t (indexOf s.1)).length (cz s) (dz k t (indexOf s.1)):=rfl;generalize dz k t (indexOf s.1)=pc at *;generalize N:lQ k s t=np at *;have hpn:-4000000<=cz s/\cz s<=4000001:=by
  unfold cz;split
  .omega
  .rename_i h;have:=A.p _ (fj (show s.1.length-1<s.1.length by omega) (0,[]));omega
 have Uq:np.length<=100000:=by grind[xU]
 refine AK.lj (S2:=Nat->ah) 0 rfl rfl (λ_=>True) (λ_=>[(0,dI k),(2,dI by_),(3,cF.sl t),(5,.e (.one (.ptr 0 0))),(8,.e (.one (.ptr 1 0))),(10,.e (.one (.ptr 6 0))),(11,dI (cz s+np.length)),(12,dI (c6 s))]) (λq=>Qp s (s.1++np) q) 7
  (λx:List Bs×List bJ×(Nat->ah)=>(∀p∈x.1,bx p=ab)/\x.2.1.length+x.1.length<=5000000/\s.1.length<=x.2.1.length/\∃f,x.1.length<=f/\s.1++np=x.2.1++eb k f (cz s+(x.2.1.length-s.1.length:Nat)) x.1) (λx=>aas k by_ (cz s+(x.2.1.length-s.1.length:Nat)) s t x.1) (λx=>Qp s x.2.1 x.2.2) (λx=>x.1.length) (pc,s.1,q0) rfl ?_ rfl ?_ rfl ⟨M,by grind,bc _,pc.length,bc _,by grind⟩ ?_ ?_
 .simp
 .simp
 .rintro out ⟨rest,ps,q⟩ ⟨F,g2,g3,f,g4,K⟩;simp only at F g2 g3 g4 K;by_cases h:0<rest.length
  .obtain⟨f,rfl⟩:∃f',f=f'+1:=⟨f-1,by omega⟩
   simp only[eb,bl h]at K;have Z:bD .i64 ((min rest.length 4:Nat):Int):=by simp only[bD];omega
   refine bn a [(30,ab)] rfl (by simp only[az,a9];omega) ?_;refine AK.law (xJ ((min rest.length 4:Nat):Int) rfl rfl rfl (LO rest.length 4) Z) rfl rfl ?_;have J:dj rest.length (aa ((min rest.length 4:Nat):Int))-dj 0 af=min rest.length 4:=by simp[dj]
   have hD:cA (rest.length-min rest.length 4) (mf (min rest.length 4) (cS.fn rest)) (cS.fn (rest.drop 4)):=by
    intro i hi;have h4:min rest.length 4=4:=by omega
    rw[h4];simp only[mf,mI.fn,Bd,ak,pt]
   have hT:cA (dj rest.length (aa ((min rest.length 4:Nat):Int))-dj 0 af) (mf (dj 0 af) (cS.fn rest)) (cS.fn (rest.take 4)):=by intro i hi;rw[J]at hi;simp only[mf,dj,mI.fn,Bd,ak,bF];grind
   have hTl:(rest.take 4).length=min rest.length 4:=by grind
   have I:∀p∈rest.take 4,bx p=ab:=λp E=>F p (fM E);have G:=Jf (X:=X) (cz s+(ps.length-s.1.length:Nat)) k (rest.take 4) hk I (by omega) (by omega);have hx0:gj (cz s+(ps.length-s.1.length:Nat)) k (rest.take 4)=(cz s+(ps.length-s.1.length:Nat),o0 k (rest.take 4)):=rfl;have w:0<(o0 k (rest.take 4)).length:=by grind[tm]
   generalize Q:cz s+(ps.length-s.1.length:Nat)=no at *;have O:-5000000<=no/\no<=10000000:=by omega
   generalize hit:o0 k (rest.take 4)=Np at *;refine bn a [(1000006,ab)] rfl ay ?_;refine AK.KI (ι:=Own Np) jk 7 9 12 (λj=>bA j 6)
    (λj=>([.e (.one (.ptr 6 0)),.e (.one (.bp 2 (.sl ps.length 2 0 ps.length))),dI no,dI k,cS.sl rest,dI (min rest.length 4:Nat),.e (.one (.c (.sl ae 1 (dj rest.length (aa ((min rest.length 4:Nat):Int))-dj 0 af) (mf (dj 0 af) (cS.fn rest)))))]:List D).getD j .any)
    (λr j=>match j with|7=>.e (.agg [.c (.int .i64 no),.c (Bh Np r)])|_=>.e (.one (.c (.sl ab 2 1 (λj=>([[.int .i64 no,Bh Np r]]:List (List C)).getD j []))))) (λr=>Qp s ps q++[IG Np r])
    rfl rfl rfl rfl rfl rfl rfl (λj h=>by have:=db h;omega) rfl
    ⟨OA.cZ tok a rfl,OA.cZ tok a rfl,OA.cZ tok a rfl,OA.cZ tok a rfl,OA.cZ tok a rfl,OA.cZ tok a rfl,OA.eval (ds:=[]) tok a rfl ?_,ay,ay,ay,ay,ay,ay⟩
    (λr=>⟨OA.cZ tok a rfl,OA.cZ tok a rfl,OA.cZ tok a rfl,OA.cZ tok a rfl,OA.cZ tok a rfl,OA.cZ tok a rfl,OA.eval (ds:=[]) tok a rfl ?_,ay,OA.cZ tok a rfl,ay⟩)
    (mW.j4 G [] rfl rfl rfl rfl ?_ rfl rfl rfl (λ_=>rfl) rfl (λ_=>rfl)) ?_
   .simp only[fY,az];omega
   .simp only[fY,az];omega
   .simp only[az.cat,az,aG,aE];grind
   intro r;refine bn a [(1000007,ab)] rfl ?_ ?_
   .simp only[az,show i67.bytes=32 from rfl,aG];omega
   refine AK.fact (gf.VE (l:=7) (n:=Np.length) (bf:=r.1.1) (xs:=r.1.2) rfl w) λY=>?_;refine AK.merge 5 7 (by decide) rfl rfl (λ_ _ h=>h.1) (PM.add (BY.snoc (x:=(no,Np)) w r.2 Y)) ?_;have e:=No (ps:=ps) (x:=(no,Np)) (q:=q) (v:=lA r.1.1 Np.length);have o:(ps++[(no,Np)]).length=ps.length+1:=by simp
   refine cG a rfl ?_ (AK.aQ (rest.drop 4,ps++[(no,Np)],JC q ps.length (lA r.1.1 Np.length)) rfl ?_ ?_ ?_ ?_)
   .simp only[az,bD,fY];omega
   .simp only[az.cat,az,o,si,dj,cf,aG,aE];and_intros<;>first|rfl|omega|exactλ_ _=>rfl|exact hD
   .simp only[az.cat,az,o,aG,aE];and_intros<;>first|rfl|exactλ_ _=>rfl|exact e|omega
   .refine⟨λp E=>F p (rA E),by grind,by grind,f,by grind,?_⟩;grind
   grind
  .have e:ps=s.1++np:=by rw[K];cases f<;>simp[eb,h]
   refine bn a [(30,ae)] rfl (by simp only[az,bS];omega) (AK.leaveD rfl rfl ?_);refine out q ay rfl ?_ rfl ?_
   .simp only[az.cat,az,e,cX,aG,aE];and_intros<;>first|rfl|omega|exactλ_ _=>rfl
   .simp[e]
 rintro q -;have d:fW k s t=(decide (20<s.1.length+np.length)||(decide (99<cz s+np.length-1)||(decide (20<c6 s)||decide (9<=s.2.2.length)))):=by unfold fW;rw[N]
 rw[B]at d;have g:(s.1++np).length=s.1.length+np.length:=cX;have V:-4000000<=c6 s/\c6 s<=4000001:=by
  have:=n9 s.2.2 A.h;unfold c6;split
  .omega
  .have:=A.s _ (fj (show s.2.1.length-1<s.2.1.length by omega) (0,[]));omega
 cases y with
 |true =>
  apply AK.join [(5,.e (.one (.ptr 0 0))),(8,.e (.one (.ptr 1 0)))] (Qp s (s.1++np) q)
  .intro out;by_cases c1:20<s.1.length+np.length
   .refine bn a [(53,ab),(1000010,ab)] rfl ?_ (out _ _ rfl (by simp));simp[g];omega
   by_cases c2:99<cz s+np.length-1
   .refine bn a [(53,ae),(57,ab),(1000010,ab)] rfl ?_ (out _ _ rfl (by simp));simp[g,bD];omega
   by_cases c3:20<c6 s
   .refine bn a [(53,ae),(57,ae),(61,ab),(1000010,ab)] rfl ?_ (out _ _ rfl (by simp));simp[g,bD];omega
   refine bn a [(53,ae),(57,ae),(61,ae),(67,ab),(1000010,ab)] rfl ?_ (out _ _ rfl (by simp));simp[g,bD];grind
  refine cG a rfl ay ?_;refine AK.cQ (FC s b.p b.p2 b.sn b.s2 b.h) [] rfl ?_;refine cG a rfl ay ?_;refine AK.lO q [] rfl rfl rfl rfl rfl rfl rfl rfl rfl ?_ rfl rfl rfl rfl xG;simp
 |false =>
 have d:=d.symm;simp only[qg,bS]at d;obtain⟨c1,c2,c3,c4⟩:=d;have J:=fi.cy s.2.1 (eJ (c6 s) k t);have W:=cH.cy s.2.2 (by_,c6 s);have L:c9 k s by_ t=(s.1++np,s.2.1++[eJ (c6 s) k t],s.2.2++[(by_,c6 s)]):=by unfold c9;rw[N]
 rw[L];refine bn a [(53,ae),(57,ae),(61,ae),(67,ae),(1000013,ab)] rfl ?_ ?_
 .simp only[az,hk,cF.list_fn,g,bD,show i71.bytes=32 from rfl,show i48.bytes=16 from rfl,a9,bS,aG,aE];and_intros<;>first|exact z|exact cF.aO _|rfl|omega
 generalize s.1++np=ps at *;generalize P:s.2.1++[eJ (c6 s) k t]=sw at *;generalize U:s.2.2++[(by_,c6 s)]=hw at *;have m:sw.length=s.2.1.length+1:=by grind
 have u:hw.length=s.2.2.length+1:=by grind
 refine AK.CI (φ':=[(8,.e (.one (.ptr 1 0))),(10,.e (.one (.ptr 6 0)))]) (σ':=[xY s,.cells 27 [gU,gU,gU],.buf 67 2 ps.length (Eh ps q),.buf 71 2 sw.length (fi.fn sw),.buf 48 2 hw.length (cH.fn hw),.cm (PM (BY ps q ps.length)),.cells 27 [.bp 2 (.sl ps.length 2 0 ps.length),.bp 3 (.sl sw.length 2 0 sw.length),.bp 4 (.sl hw.length 2 0 hw.length)]]) ?_ rfl ?_ rfl ?_
 .refine AK.oX 3 rfl rfl rfl (by simp) (by simp) ?_;refine AK.oX 4 rfl rfl rfl (by simp) (by simp) ?_;refine bt rfl ay ?_;refine AK.lO q [2,5] rfl rfl rfl rfl rfl rfl rfl rfl rfl ?_ rfl rfl rfl rfl (λj T=>absurd T (by simp));simp[rF]
 .simp
 .simp only[az.cat,az,m,u,cF.list_fn,aG,aE];and_intros<;>first|exact cA.same|exact J|exact W|rfl
abbrev Un(v:ah)(ps:List bJ):Mem->Prop:=λM=>Rd M v (.sl ae 2 ps.length (cP.fn ps))
def yo[X.hU](k:Int)(s:bk)(by_:Int)(t:List bw)(hk:b7 k=ab)(g:lq s)(m:rX s)(i:tg t)(d:(cV s.1).length<=100000)(n:∀p∈s.1,0<p.2.length)(f:fW k s t=ae):
  ef (ι:=ah) X 24 [dI k,po s,dI by_,cF.sl t] [.cm (gf 67 2 (.nil af) 0 [])] (λv=>.fa [.agg [.c (.val v),.c (Fy (c9 k s by_ t).2.1),.c (Db (c9 k s by_ t).2.2)],.one (.c (.bool ab))])
   (λv=>[.cm (PM (Un v (c9 k s by_ t).1))]):=by
 refine ef.VF (ef.BU (cP.fn (c9 k s by_ t).1) (r5 k s by_ t hk g m i d n f) (λq M M' hle hK j b=>(hK j b).mono hle) λq M hK j b=>?_) (λ_ _ _ h=>h.1) (λ_=>rfl) (λ_=>rfl) rfl rfl;have hK:=hK j b;generalize(c9 k s by_ t).1=ps at *;have e:cP.fn ps j=[.int .i64 (ps.getD j (0,[])).1,sP (ps.getD j (0,[]))]:=rfl;rw[e];refine⟨rfl,λp c a=>?_⟩
 match p,a with
 |0,a=>cases a;exact⟨_,rfl,λv l h=>by cases h with|int h=>exact .int h⟩
 |1,a=>cases a;exact⟨_,rfl,λv l h=>by grind[Rd.en]⟩
def IL(p:Bs):Ev X 206 [dS p] [] (dB (bx p)) []:=by
 refine Ev.bQ Tryz.func206 rfl λb=>?_;have a:bL X [(23,Dc),(89,X0)]:=.cons Fz (.cons t89 .nil);by_cases h:1<=p.length/\p.length<=8
 .refine aW a [(6,ab)] rfl ?_ (AK.bz rfl ?_)
  .simp;omega
  .simp[bx,h.1,h.2]
 .refine aW a [(6,ae)] rfl ?_ (AK.bz rfl ?_)
  .simp;omega
  .have:bx p=ae:=by simp only[bx,<-Bool.decide_and,iC h,ss]
   simp[this]
abbrev Hm:dv:=kL aS (λp=>dB (bx p)) λ_=>[]
def Px:er X 206 Hm:=.pS λp _=>IL p
def IM(p:Bs):Ev X 162 [dS p] [] (dS (eY p)) []:=by
 refine Ev.bQ Tryz.func162 rfl λb=>?_;have a:bL X [(206,Hm),(118,Hi)]:=.cons Px (.cons LW .nil);cases h:bx p with
 |true=>exact aW a [(5,ae)] rfl (by simp[h]) (AK.bz rfl)
 |false=>exact aW a [(5,ab)] rfl (by simp[h]) (AK.bz rfl (by simp[eY,h]))
abbrev Hn:dv:=kL aS (λp=>dS (eY p)) λ_=>[]
def Py:er X 162 Hn:=.pS λp _=>IM p
def IN(p:Bs):(eY p).length<=8:=by
 unfold eY;split
 .rename_i h;simp only[bx,bR,a9]at h;grind[xT]
 .simp
def Dk(b:Bs):Ev X 134 [dS b] [] (A1 (eH b)) []:=by
 refine Ev.bQ Tryz.func134 rfl λr=>?_;have p:=r.str 0 rfl;have k:bL X [(162,Hn)]:=.cons Py .nil;refine bt rfl ay ?_;have fin:∀n,n<=b.length->strip (b.take n)=strip b->(n=0∨strip (b.take n)=b.take n)->b.take n=strip b:=λn a h f=>by
  rcases f with rfl|f
  .simpa[strip]using h
  grind
 have rest:∀n,n<=b.length->b.take n=strip b->eH b=if b.length<=8/\eY (strip b)=b/\n≠0 then aa (b.take n)else af:=λn a h=>by
  have t:=IN (strip b);have o:n=0↔strip b=[]:=by grind[List.take_eq_nil_iff]
  unfold eH;rw[h];by_cases g:eY (strip b)=b
  .by_cases m:bx (strip b)=ab
   .have:n≠0:=λq=>by rw[o.1 q]at m;cases m
    grind
   .have q:n=0:=o.2 (by rw[eY,aY m]at g;grind);grind
  grind
 refine AK.lj (S2:=Nat) 0 rfl rfl (λn=>n<=b.length/\b.take n=strip b) (λn=>[(0,dS b),(4,dI n)]) (λ_=>[]) 0 (λn=>n<=b.length/\strip (b.take n)=strip b) (λn:Nat=>[(0,dS b),(4,dI n)]) (λ_=>[]) (λn=>n) b.length rfl (by simp) rfl ay rfl ⟨by omega,by simp⟩ ?_ ?_
 .rintro out n ⟨a,c⟩;rcases n with _|n
  .refine aX [(9,ae),(15,ae)] rfl (by simp) (AK.leaveD rfl rfl ?_);exact out 0 ⟨a,fin 0 a c (.inl rfl)⟩ rfl (by simp) rfl ay
  have o:=xB (s:=b) (n:=n) (by omega);have d:((n:Int)+1-1).toNat=n:=by omega
  by_cases f:b.getD n 0=46
  .refine aX [(9,ab),(15,ab)] rfl ?_ (AK.aQ n rfl ?_ ay ⟨by omega,?_⟩ (by omega))
   .have g:cT b n=46:=by unfold cT;rw[f];rfl
    simp[-ak,cU,d,g,bD];omega
   .simp
   grind
  .refine aX [(9,ab),(15,ae)] rfl ?_ (AK.leaveD rfl rfl ?_)
   .have g:cT b n≠46:=by unfold cT;intro e;exact f (ov.1 (by grind))
    simp[-ak,cU,d,g,bD];omega
   .exact out (n+1) ⟨a,fin _ a c (.inr (by grind))⟩ rfl (by simp) rfl ay
 rintro n ⟨a,l⟩;have i:=rest n a l;have j:sS b af (aa (n:Int))=strip b:=l▸rfl;have hi:((b.length:Int)<=8)↔b.length<=8:=by omega
 by_cases c1:b.length<=8
 .by_cases c2:eY (strip b)=b
  .by_cases c3:n=0
   .refine aW k [(21,ae),(29,ae),(32,ab)] rfl ?_ (AK.bz rfl ?_)
    .subst c3;simp only[az,j,c2];grind
    .simp[i,c3]
   .refine aW k [(21,ae),(29,ae),(32,ae)] rfl ?_ (AK.bz rfl ?_)
    .simp[j,hi,c1,c2,c3,a]
    .simp[i,j,l,c1,c2,c3]
  .refine aW k [(21,ae),(29,ab),(32,ab)] rfl ?_ (AK.bz rfl ?_)
   .simp[j,hi,c1,c2,a]
   .simp[i,c2]
 .refine aW k [(21,ab),(29,ab),(32,ab)] rfl ?_ (AK.bz rfl ?_)
  .simp;omega
  .simp[i,c1]
abbrev uw:dv:=kL aS (λb=>A1 (eH b)) λ_=>[]
def zy:er X 134 uw:=.pS λb _=>Dk b
def IP(k:Int)(x:bo)(hk:b7 k=ab):Ev X 85 [dI k,Zw x] [] (dB (right k x)) []:=by
 refine Ev.bQ Tryz.func85 rfl λc=>?_;have b:bL X [(134,uw),(113,xV)]:=.cons zy (.cons xS .nil);cases a:eH x.2 with
 |none=>exact aW b [(14,ae)] rfl (by simp[a]) (AK.bz rfl (by simp[right,a]))
 |some p=>exact aW b [(14,ab)] rfl (by simp[a,hk,xF a]) (AK.bz rfl (by simp[right,a]))
abbrev Bj:dv:=pj aI UA (λk x=>dB (right k x)) λk _=>[b7 k=ab]
def Ho:er X 85 Bj:=.tf λk x h=>IP k x h
def Pz(k:Int):Ev X 35 [dI k] [] (dB (b7 k)) []:=by refine Ev.bQ Tryz.func35 rfl λb=>?_;have a:bL X [(23,Dc)]:=.cons Fz .nil;exact b8 a rfl ay (AK.bz rfl (by simp[b7]))
abbrev Dl:dv:=kL aI (λk=>dB (b7 k)) λ_=>[]
def Hp:er X 35 Dl:=.pS λk _=>Pz k
abbrev TE(p:bJ):aR:=.cells 67 [.c (.int .i64 p.1),.c (sP p)]
def Dm(k:Int)(p:bJ)(n:Int):Ev X 163 [dI k,Lk p,dI n] [] (A1 (dY k p n)) []:=by
 refine Ev.bQ Tryz.func163 rfl λm=>?_;have c:bL X [(35,Dl),(85,Bj),(134,uw)]:=.cons Hp (.cons Ho (.cons zy .nil));cases hk:b7 k with
 |false =>
  refine aW c [(11,ab)] rfl (by simp[hk]) (AK.bz rfl ?_);have:dY k p n=af:=by unfold dY chunk;grind
  simp[this]
 |true =>
 have l:=m.Rq 1 rfl 1 rfl;refine aW c [(11,ae)] rfl (by simp[hk]) ?_;refine AK.cE 1 (λi=>i<=p.2.length/\p.2.find? (λx=>x.1==n)=(p.2.drop i).find? (λx=>x.1==n)) (λi:Nat=>[(0,dI k),(4,.e (.one (.ptr 0 0))),(2,dI n),(8,dI i)]) (λ_=>[TE p]) (λi=>p.2.length-i) 0 rfl (by simp) rfl (by simp) rfl ⟨by omega,rfl⟩ ?_;rintro i ⟨hi,a⟩;by_cases h:i<p.2.length
 .have g:p.2.getD i eg.cd=hI p i:=rfl;have j:p.2.drop i=hI p i::p.2.drop (i+1):=by grind[List.drop_eq_getElem_cons]
  rw[j,List.find?_cons]at a;by_cases d:(hI p i).1=n
  .rw[show((hI p i).1==n)=ab by grind]at a;cases f:right k (hI p i)with
   |false =>
    have b:right k (n,(hI p i).2)=ae:=d▸f;refine aW c [(16,ab),(26,ab),(34,ab)] rfl ?_ (AK.fQ (cw.zero rfl ?_))
    .simp[-ak,g,d,b,hk,h]
    .have e:dY k p n=af:=by have:=rU (k:=k) (x:=hI p i) hk;rw[f]at this;simp only[dY,a];simpa using this
     simp[e]
   |true =>
    have b:right k (n,(hI p i).2)=ab:=d▸f;refine aW c [(16,ab),(26,ab),(34,ae)] rfl ?_ (AK.fQ (cw.zero rfl ?_))
    .simp[-ak,g,d,b,hk,h]
    .have e:dY k p n=eH (hI p i).2:=by simp only[dY,a,chunk];unfold right at f;grind
     simp[-ak,e,g]
  .rw[show((hI p i).1==n)=ae by grind]at a;refine aW c [(16,ab),(26,ae)] rfl ?_ (AK.aQ (i+1) rfl (by simp) (by simp) ⟨h,a⟩ (by omega));simp[-ak,g,d,bD,h];omega
 .obtain rfl:i=p.2.length:=by omega
  refine aW c [(16,ae)] rfl (by simp) (AK.leaveD rfl rfl ?_);refine b8 c rfl ay (AK.bz rfl ?_);simp[dY,a]
abbrev Hq:dv:=Fc aI (Fh eg) aI (λk p n=>A1 (dY k p n)) λ_ _ _=>[]
def PC:er X 163 Hq:=.Lf λk p n _=>Dm k p n
theorem pY(k:Int)(p:bJ):gx k p=(decide (1<=p.1/\p.1<=99)&&b7 k&&decide (1<=p.2.length/\p.2.length<=4)&&(bh p.2.length).all (iV k p)):=by grind[um]
def IQ{k:Int}{p:bJ}{i:Nat}(a:i≠0):iV k p i=(right k (hI p i)&&decide ((hI p (i-1)).1<(hI p i).1)):=by unfold iV;grind
def FF(k:Int)(p:bJ):Ev X 32 [dI k,Lk p] [] (dB (gx k p)) []:=by
 refine Ev.bQ Tryz.func32 rfl λm=>?_;have b:bL X [(23,Dc),(35,Dl),(85,Bj)]:=.cons Fz (.cons Hp (.cons Ho .nil));have g:=m.Rq 1 rfl 1 rfl;rw[pY];by_cases c1:1<=p.1/\p.1<=99
 rotate_left
 .exact aW b [(10,ab),(14,ab),(21,ab)] rfl (by simp;omega) (AK.bz rfl (by simp[iC c1]))
 cases hk:b7 k
 .exact aW b [(10,ae),(14,ab),(21,ab)] rfl (by simp[hk,c1]) (AK.bz rfl)
 by_cases c3:1<=p.2.length/\p.2.length<=4
 rotate_left
 .exact aW b [(10,ae),(14,ae),(21,ab)] rfl (by simp[hk,c1];omega) (AK.bz rfl (by simp[iC c3]))
 refine aW b [(10,ae),(14,ae),(21,ae)] rfl (by simp[hk,c1];omega) ?_;rw[dc c1,dc c3,fO,fO,fO];refine AK.cE 1 (λi=>i<=p.2.length/\∀j,j<i->iV k p j=ab) (λi:Nat=>[(0,dI k),(3,.e (.one (.ptr 0 0))),(5,dI i)]) (λ_=>[TE p]) (λi=>p.2.length-i) 0 rfl (by simp) rfl (by simp) rfl ⟨by omega,by omega⟩ ?_;rintro i ⟨hi,a⟩;by_cases h:i<p.2.length
 .have f:p.2.getD i eg.cd=hI p i:=rfl;cases c:right k (hI p i)with
  |false =>
   refine aW b [(26,ab),(37,ab),(56,ab)] rfl ?_ (AK.fQ (cw.zero rfl ?_))
   .simp[-ak,f,c,hk,h]
   .rw[iP h (by simp only[iV,c,ss])];simp
  |true =>
   by_cases l:i=0
   .subst l;refine aW b [(26,ab),(37,ae),(40,ae),(56,ae)] rfl ?_ (AK.aQ 1 rfl (by simp) (by simp) ⟨h,kn a (by simp only[iV,c,fO];rfl)⟩ (by omega));simp[-ak,f,c,hk,h,bD]
   have d:p.2.getD (i-1) eg.cd=hI p (i-1):=rfl;have o:=IQ (k:=k) (p:=p) l;by_cases n:(hI p (i-1)).1<(hI p i).1
   .refine aW b [(26,ab),(37,ae),(40,ab),(54,ae),(56,ae)] rfl ?_ (AK.aQ (i+1) rfl (by simp) (by simp) ⟨h,kn a (by grind)⟩ (by omega));simp[-ak,f,d,c,hk,h,n,bD];omega
   .refine aW b [(26,ab),(37,ae),(40,ab),(54,ab),(56,ab)] rfl ?_ (AK.fQ (cw.zero rfl ?_))
    .simp[-ak,f,d,c,hk,h,bD];omega
    .rw[iP h (by grind)];simp
 .obtain rfl:i=p.2.length:=by omega
  refine aW b [(26,ae)] rfl (by simp) (AK.leaveD rfl rfl ?_);exact b8 b rfl ay (AK.bz rfl (by simp[dE.2 a]))
abbrev Dn:dv:=pj aI (Fh eg) (λk p=>dB (gx k p)) λ_ _=>[]
def Md:er X 32 Dn:=.tf λk p _=>FF k p
def l7{α:Type}{l:List α}{i:Nat}{d:α}(h:i<l.length):l.getD i d∈l:=by grind
def PD{l:List Int}{n:Int}:l.contains n=!(bh l.length).all λi=>!(l.getD i 0==n):=by rw[qt,jQ,<-ou,dE,List.contains_iff_mem];grind[List.mem_iff_getElem]
def PE(l:List Int)(n:Int):Ev X 33 [cI.sl l,dI n] [] (dB (l.contains n)) []:=by
 refine Ev.bQ Tryz.func33 rfl λe=>?_;have b:=e.sl 0 rfl;refine bt rfl ay ?_;rw[PD];refine AK.kg (λi=>i<=l.length/\∀j,j<i->(!(l.getD j 0==n))=ab) (λi:Nat=>[(0,cI.sl l),(1,dI n),(5,dI i)]) (λ_=>[]) (λi=>l.length-i) 0 rfl (by simp) rfl ay ⟨by omega,by omega⟩ ?_;rintro i ⟨hi,a⟩;by_cases h:i<l.length
 .have d:l.getD i cI.cd=l.getD i 0:=rfl;by_cases c:l.getD i 0=n
  .refine aX [(9,ab),(17,ab)] rfl ?_ (AK.ir (cw.zero rfl ?_))
   .simp[-ak,d,c,h]
   .rw[iP h (by grind)];simp
  .refine aX [(9,ab),(17,ae)] rfl ?_ (AK.gb (i+1) rfl (by simp) rfl ay ⟨h,kn a (by grind)⟩ (by omega));simp[-ak,d,c,h,bD];omega
 .obtain rfl:i=l.length:=by omega
  refine aX [(9,ae)] rfl (by simp) (AK.leave rfl rfl ?_);exact bt rfl ay (AK.bz rfl (by rw[dE.2 a];simp))
abbrev Rr:dv:=pj (aL cI) aI (λl n=>dB (l.contains n)) λ_ _=>[]
def WJ:er X 33 Rr:=.tf λl n _=>PE l n
def FG(k:Int)(ps:List bJ)(n:Int):Ev X 135 [dI k,cP.sl ps,dI n] [] (A1 (de k ps n)) []:=by
 refine Ev.bQ Tryz.func135 rfl λg=>?_;have f:=g.sl 1 rfl;have e:bL X [(163,Hq)]:=.cons PC .nil;refine b8 e rfl ay ?_;refine AK.kg (λi=>i<=ps.length/\de k ps n=de k (ps.drop i) n) (λi:Nat=>[(0,dI k),(1,cP.sl ps),(2,dI n),(8,dI i)]) (λ_=>[]) (λi=>ps.length-i) 0 rfl (by simp) rfl ay ⟨by omega,rfl⟩ ?_;rintro i ⟨hi,a⟩;by_cases h:i<ps.length
 .have c:ps.drop i=ps.getD i (0,[])::ps.drop (i+1):=by grind[List.drop_eq_getElem_cons]
  have d:((ps.getD i cP.cd).1,eg.list (ps.getD i cP.cd).2.length (eg.fn (ps.getD i cP.cd).2))=ps.getD i (0,[]):=by rw[eg.list_fn];rfl
  rw[c,show de k (ps.getD i (0,[])::ps.drop (i+1)) n=_ from List.findSome?_cons]at a;cases b:dY k (ps.getD i (0,[])) n with
  |some q =>
   rw[b]at a;refine aW e [(14,ab),(27,ab)] rfl ?_ (AK.ir (cw.zero rfl ?_))
   .simp[-ak,d,b,h,eg.aO]
   .simp[-ak,d,b,a]
  |none =>
   rw[b]at a;refine aW e [(14,ab),(27,ae)] rfl ?_ (AK.gb (i+1) rfl (by simp) rfl ay ⟨h,a⟩ (by omega));simp[-ak,d,b,h,bD,eg.aO];omega
 .obtain rfl:i=ps.length:=by omega
  refine aX [(14,ae)] rfl (by simp) (AK.leave rfl rfl ?_);exact bt rfl ay (AK.bz rfl (by rw[a,qp];simp[de]))
abbrev Dp:dv:=Fc aI (aL cP) aI (λk ps n=>A1 (de k ps n)) λ_ _ _=>[]
def Me:er X 135 Dp:=.Lf λk ps n _=>FG k ps n
def Mf(a b:List Bs):Ev X 164 [cS.sl a,cS.sl b] [] (dB (a==b)) []:=by
 refine Ev.bQ Tryz.func164 rfl λg=>?_;have d:=g.sl 0 rfl;by_cases k:a.length=b.length
 rotate_left
 .have:(a==b)=ae:=eD.2 (by grind);exact aX [(10,ab)] rfl (by simp;omega) (AK.bz rfl (by simp[this]))
 refine aX [(10,ae)] rfl (by simp;omega) ?_;refine AK.kg (λi=>i<=a.length/\∀j,j<i->a.getD j []=b.getD j []) (λi:Nat=>[(0,cS.sl a),(1,cS.sl b),(5,dI i)]) (λ_=>[]) (λi=>a.length-i) 0 rfl (by simp) rfl ay ⟨by omega,by omega⟩ ?_;rintro i ⟨hi,e⟩;by_cases h:i<a.length
 .have f:∀l:List Bs,l.getD i cS.cd=l.getD i []:=λ_=>rfl;by_cases c:a.getD i []=b.getD i []
  .refine aX [(14,ab),(25,ae)] rfl ?_ (AK.gb (i+1) rfl (by simp) rfl ay ⟨h,λj m=>?_⟩ (by omega))
   .simp[-ak,f,c,bD];omega
   grind
  .refine aX [(14,ab),(25,ab)] rfl ?_ (AK.ir (cw.zero rfl ?_))
   .simp[-ak,f,c];omega
   .have:(a==b)=ae:=eD.2 (by grind);simp[this]
 .obtain rfl:i=a.length:=by omega
  have:a=b:=sk k λj c n=>by grind
  refine aX [(14,ae)] rfl (by simp) (AK.leave rfl rfl ?_);exact bt rfl ay (AK.bz rfl (by simp[this]))
def TG:er X 164 Pb:=.tf λa b _=>Mf a b
def u6(t:Bs):∀k f p,p∈eT t k f->p.length<=8
 |0,_,p,h=>by simp[eT]at h
 |k+1,f,p,h=>by
  simp only[eT]at h;split at h
  .rename_i a;rcases eB.1 h with rfl|h
   .grind [mv]
   .exact u6 t k _ p h
  grind
def Bl{l:List Bs}{p:Bs}(h:p∈l)(b:8<p.length):fT l=af:=by unfold fT;rw[aY];intro a;simp only[bR,gp]at a;have:=u6 l.flatten l.flatten.length 0 p (by rw[show eT l.flatten l.flatten.length 0=l from a.2];exact h);omega
def vt(l:List Bs)(i:Nat):(l.take i).flatten.length<=l.flatten.length:=by grind[List.take_append_drop]
def FH{l:List Bs}{i:Nat}(h:40<(l.take i).flatten.length):fT l=af:=by have:=vt l i;unfold fT;rw[aY];intro a;simp only[bR,et,a9]at a;omega
def Mg(l:List Bs):Ev X 136 [cS.sl l] [] (A1 (fT l)) []:=by
 refine Ev.bQ Tryz.func136 rfl λk=>?_;have g:=k.sl 0 rfl;have b:bL X [(38,X1),(111,Hg),(164,Pb)]:=.cons t38 (.cons LN (.cons TG .nil));refine b8 b rfl ay ?_;refine AK.kg (λi=>i<=l.length/\(l.take i).flatten.length<=48) (λi:Nat=>[(0,cS.sl l),(4,dS (l.take i).flatten),(5,dI i)]) (λ_=>[]) (λi=>l.length-i) 0 rfl (by simp) rfl ay ⟨by omega,by simp⟩ ?_;rintro i ⟨hi,f⟩;by_cases h:i<l.length
 .have e:l.getD i cS.cd=l.getD i []:=rfl;have m:(l.take (i+1)).flatten=(l.take i).flatten++l.getD i []:=by grind[bY]
  by_cases a:(l.getD i []).length<=8
  .by_cases c:(l.take i).flatten.length<=40
   .refine aW b [(9,ab),(18,ae),(22,ae)] rfl ?_ (AK.gb (i+1) rfl ?_ rfl ay ⟨h,by grind⟩ (by omega))
    .simp[-ak,-List.length_flatten,e,bD];omega
    .simp only[az.cat,az,m,aG,aE];grind[cA.same]
   .refine aW b [(9,ab),(18,ae),(22,ab)] rfl ?_ (AK.ir (cw.zero rfl ?_))
    .simp[-ak,-List.length_flatten,e];omega
    .simp[FH (l:=l) (i:=i) (by omega)]
  .refine aW b [(9,ab),(18,ab),(22,ab)] rfl ?_ (AK.ir (cw.zero rfl ?_))
   .simp[-ak,e];omega
   .simp[az,az.cat,Bl (l7 (d:=[]) h) (by omega)]
 .obtain rfl:i=l.length:=by omega
  rw[dq]at f⊢;refine aW b [(9,ae)] rfl (by simp) (AK.leave rfl rfl ?_);have el:=cS.list_fn l;cases a:et l.flatten with
  |false=>exact aW b [(32,ab),(38,ab)] rfl (by simp[a]) (AK.bz rfl (by simp[fT,a]))
  |true =>
   have j:cj l.flatten=ab:=by simp only[et,bR]at a;exact a.2
   cases c:(pieces l.flatten==l)with
   |false =>
    refine aW b [(32,ae),(38,ab)] rfl ?_ (AK.bz rfl (by simp[fT,c]));simp[-List.length_flatten,a,j,el,cS.list_fn,cS.aO,by simpa using c];omega
   |true =>
    refine aW b [(32,ae),(38,ae)] rfl ?_ (AK.bz rfl (by simp[fT,a,c]));simp[-List.length_flatten,a,j,el,cS.list_fn,cS.aO,by simpa using c];omega
abbrev Mh:dv:=kL (aL cS) (λl=>A1 (fT l)) λ_=>[]
def TH:er X 136 Mh:=.pS λl _=>Mg l
end
end Go.AM.R1
