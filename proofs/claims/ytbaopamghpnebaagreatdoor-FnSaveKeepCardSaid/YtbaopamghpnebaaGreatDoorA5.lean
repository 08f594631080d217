/- Part 5. No condition. -/
import Derived.Test.YtbaopamghpnebaaGreatDoorA4
import Derived.Sort.Walk13a
import Derived.RowKit
set_option linter.all false
set_option maxHeartbeats 8000000
open Go.Proofs
open Go renaming Value → ah, Program → aq, TypeId → aj, Oper → au, Operand → ak, undef → ai, execOp → aw, World → aA, Goroutine → av, stepG → aH, FuncId → aJ
open Option renaming some → aa, none → ae
open Bool renaming true → ab, false → af
open Go.World renaming cell? → aV
open List renaming getD_eq_getElem?_getD → ar, range → bg
open Go.Sem renaming events_bind → aM
open Go.Result renaming evThen_ok → aO
open Nat renaming beq → aB, ble → bu
open Go.Op renaming equalIn → aY, bytesLess → bk
open Go.Proofs.Tryz renaming prog → ag
namespace Go.AM.R1
section
open Go.Sort (swp scanUp scanDown partLoop partEqLoop partition partitionEqual ltInt)
variable {X:Cx ag}
theorem mP{p:Int->Bool}{d:Array Int}{j i:Nat}(h:i<=j)(a:p d[i]! = ab):scanUp p d j i=scanUp p d j (i+1):=by rw[scanUp.eq_1 p d j i,bm (by grind)]
theorem gQ{p:Int->Bool}{d:Array Int}{j i:Nat}(h:i<=j->p d[i]! = af):scanUp p d j i=i:=by rw[scanUp,aZ];grind
theorem kI{p:Int->Bool}{d:Array Int}{j i:Nat}(c:1<=j)(h:i<=j)(b:p d[j]! = ab):scanDown p d i j=scanDown p d i (j-1):=by
 obtain⟨j,rfl⟩:∃a,j=a+1:=⟨j-1,by omega⟩
 rw[scanDown,bm (by grind),pM]
theorem fz{p:Int->Bool}{d:Array Int}{j i:Nat}(h:i<=j->p d[j]! = af):scanDown p d i j=j:=by
 cases j with
 |zero=>rfl
 |succ j =>
  rw[scanDown,aZ];grind
def nR{p:Int->Bool}{d:Array Int}{j:Nat}:∀(m i:Nat),j+1-i<=m->i<=scanUp p d j i/\(scanUp p d j i<=j+1∨scanUp p d j i=i):=by
 intro m;induction m with
 |zero=>intro i h;rw[gQ (λa=>by omega)];omega
 |succ m b =>
  intro i h;by_cases c:i<=j
  .cases a:p d[i]! with
   |true=>grind[mP]
   |false=>grind[gQ]
  grind
def k7{p:Int->Bool}{d:Array Int}{i:Nat}:∀j:Nat,scanDown p d i j<=j/\(i<=scanDown p d i j+1∨scanDown p d i j=j):=by
 intro j;induction j with
 |zero=>rw[show scanDown p d i 0=0 from rfl];omega
 |succ j b =>
  by_cases c:i<=j+1
  .cases a:p d[j+1]! with
   |true=>grind[kI]
   |false=>grind[fz]
  grind[fz]
def partLoop_eq{a i j:Nat}{d:Array Int}{i2 j2:Nat}(f:1<=i)(hi:i2=scanUp (λx=>ltInt x d[a]!) d j i)(b:j2=scanDown (λx=>!ltInt x d[a]!) d i2 j):
  partLoop ltInt a i j d=if i2>j2 then(j2,d)else partLoop ltInt a (i2+1) (j2-1) (swp d i2 j2):=by have e:=nR (p:=λx=>ltInt x d[a]!) (d:=d) (j:=j) (j+1-i) i (bh _);have c:=k7 (p:=λx=>!ltInt x d[a]!) (d:=d) (i:=i2) j;rw[<-hi]at e;rw[<-b]at c;rw[partLoop.eq_1,<-hi,<-b];grind
def Da{d c:Array Int}{a b v i j:Nat}(f:c=swp d a v)(hi:i=scanUp (λx=>ltInt x c[a]!) c (b-1) (a+1))(e:j=scanDown (λx=>!ltInt x c[a]!) c i (b-1))(h:i>j):partition ltInt d a b v=(j,ab,swp c j a):=by unfold partition;grind
def Db{d c:Array Int}{a b v i j:Nat}(g:c=swp d a v)(hi:i=scanUp (λx=>ltInt x c[a]!) c (b-1) (a+1))(f:j=scanDown (λx=>!ltInt x c[a]!) c i (b-1))(h:¬i>j){r:Nat×Array Int}(e:partLoop ltInt a (i+1) (j-1) (swp c i j)=r):partition ltInt d a b v=(r.1,af,swp r.2 r.1 a):=by subst e;unfold partition;grind
def Pd(n:Nat)(d:Array Int)(a b v:Nat)(S:d.size=n)(T:a<b)(Y:b<=n)(W:v<n)(Z:n<=4000000):
  Ev X 163 [kF n,dI a,dI b,dI v] [bI n d] (.eX [.one (.c (.int .i64 (partition ltInt d a b v).1)),.one (.c (.bool (partition ltInt d a b v).2.1))]) [bI n (partition ltInt d a b v).2.2]:=by
 have h:bE X [(161,uB)]:=.cons xK .nil;refine Ev.bQ Tryz.func163 rfl λV=>?_;refine bl h [(1000002,ab)] rfl ?_ ?_
 .simp only[az,bC,b9,bA,aG,aE];and_intros<;>omega
 refine AK.norm [bI n (swp d a v)] rfl ?_ ?_
 .simp only[az.cat,az,bC,b9,aE,aG];exact hU S (by omega) (by omega) (λ_ _=>rfl)
 have o:(swp d a v).size=n:=by grind[size_swp]
 obtain⟨f,J⟩:∃f,f=swp d a v:=⟨_,rfl⟩;rw[<-J]at o⊢;refine cw h rfl ?_ ?_
 .simp only[az,bA];and_intros<;>omega
 refine AK.kU (S2:=Unit) 0 rfl rfl (λ_=>True) (λ_=>[(0,kF n),(1,dI a),(10,dI ((scanUp (λx=>ltInt x f[a]!) f (b-1) (a+1)):Nat)),(11,dI (b-1:Nat))]) (λ_=>[bI n f]) 1 (λk:Nat=>a+1<=k/\k<=n+1/\scanUp (λx=>ltInt x f[a]!) f (b-1) k=scanUp (λx=>ltInt x f[a]!) f (b-1) (a+1)) (λk=>[(0,kF n),(1,dI a),(10,dI (k:Nat)),(11,dI (b-1:Nat))]) (λ_=>[bI n f]) (λk=>b-1+1-k) (a+1) rfl ?_ rfl ?_ rfl ⟨bh _,by omega,rfl⟩ ?_ ?_
 .simp[cv]<;>omega
 .simp[cv]
 .rintro out k ⟨w,t,u⟩;by_cases y:k<=b-1
  .by_cases L:(λx=>ltInt x f[a]!) f[k]! = ab
   .have g:ltInt f[k]! f[a]! = ab:=by grind
    refine bl h [(32,ab),(42,ab)] rfl ?_ (AK.aQ (k+1) rfl ?_ ?_ ?_ ?_)
    .simp only[az,bC,b9,g,bA,ba,aG,aE];and_intros<;>omega
    .simp only[az.cat,az,aG,aE];omega
    .simp[cv]
    .grind [mP]
    .omega
   .have g:ltInt f[k]! f[a]! = af:=by grind
    refine bl h [(32,ab),(42,af)] rfl ?_ (AK.leaveD rfl rfl ?_)
    .simp only[az,bC,b9,g,bA,ba,aG,aE];and_intros<;>omega
    have e:scanUp (λx=>ltInt x f[a]!) f (b-1) (a+1)=k:=by grind[gQ]
    exact out () ay rfl (by simp only[az.cat,az,e,aG,aE]) rfl (by simp[cv])
  .refine bl h [(32,af)] rfl ?_ (AK.leaveD rfl rfl ?_)
   .simp only[az,bA,bO,aG,aE];omega
   have e:scanUp (λx=>ltInt x f[a]!) f (b-1) (a+1)=k:=by grind[gQ]
   exact out () ay rfl (by simp only[az.cat,az,e,aG,aE]) rfl (by simp[cv])
 rintro⟨⟩ -;have R:=nR (p:=λx=>ltInt x f[a]!) (d:=f) (j:=b-1) (b-1+1-(a+1)) (a+1) (bh _);obtain⟨i,hi⟩:∃i,i=scanUp (λx=>ltInt x f[a]!) f (b-1) (a+1):=⟨_,rfl⟩
 rw[<-hi]at R⊢;refine cw h rfl ay ?_;refine AK.kU (S2:=Unit) 2 rfl rfl (λ_=>True) (λ_=>[(0,kF n),(1,dI a),(10,dI (i:Nat)),(11,dI ((scanDown (λx=>!ltInt x f[a]!) f (i) (b-1)):Nat))]) (λ_=>[bI n f]) 1 (λk:Nat=>k<=b-1/\k<=n/\scanDown (λx=>!ltInt x f[a]!) f (i) k=scanDown (λx=>!ltInt x f[a]!) f (i) (b-1)) (λk=>[(0,kF n),(1,dI a),(10,dI (i:Nat)),(11,dI (k:Nat))]) (λ_=>[bI n f]) (λk=>k) (b-1) rfl ?_ rfl ?_ rfl ⟨bh _,by omega,rfl⟩ ?_ ?_
 .simp[cv]<;>omega
 .simp[cv]
 .rintro out k ⟨w,t,u⟩;by_cases y:i<=k
  .by_cases L:(λx=>!ltInt x f[a]!) f[k]! = ab
   .have g:ltInt f[k]! f[a]! = af:=by grind
    refine bl h [(48,ab),(58,af)] rfl ?_ (AK.aQ (k-1) rfl ?_ ?_ ?_ ?_)
    .simp only[az,bC,b9,g,bA,ba,aG,aE];and_intros<;>omega
    .simp only[az.cat,az,aG,aE];omega
    .simp[cv]
    .exact⟨by omega,by omega,by grind[kI]⟩
    .omega
   .have g:ltInt f[k]! f[a]! = ab:=by grind
    refine bl h [(48,ab),(58,ab)] rfl ?_ (AK.leaveD rfl rfl ?_)
    .simp only[az,bC,b9,g,bA,ba,aG,aE];and_intros<;>omega
    have e:scanDown (λx=>!ltInt x f[a]!) f (i) (b-1)=k:=by grind[fz]
    exact out () ay rfl (by simp only[az.cat,az,e,aG,aE]) rfl (by simp[cv])
  .refine bl h [(48,af)] rfl ?_ (AK.leaveD rfl rfl ?_)
   .simp only[az,bA,bO,aG,aE];omega
   have e:scanDown (λx=>!ltInt x f[a]!) f (i) (b-1)=k:=by grind[fz]
   exact out () ay rfl (by simp only[az.cat,az,e,aG,aE]) rfl (by simp[cv])
 rintro⟨⟩ -;have U:=k7 (p:=λx=>!ltInt x f[a]!) (d:=f) (i:=i) (b-1);obtain⟨j,P⟩:∃j,j=scanDown (λx=>!ltInt x f[a]!) f i (b-1):=⟨_,rfl⟩
 rw[<-P]at U⊢;by_cases N:j<i
 .rw[Da J hi P N];refine bl h [(65,ab),(1000009,ab)] rfl ?_ ?_
  .simp only[az,bC,b9,bA,ba,aG,aE];and_intros<;>omega
  refine AK.norm [bI n (swp f j a)] rfl ?_ ?_
  .simp only[az.cat,az,bC,b9,aE,aG];exact hU o (by omega) (by omega) (λ_ _=>rfl)
  refine cw h rfl ay (AK.db [0] rfl ?_ rfl rfl rfl ig);simp
 refine bl h [(65,af),(1000011,ab)] rfl ?_ ?_
 .simp only[az,bC,b9,bA,bO,aG,aE];and_intros<;>omega
 refine AK.norm [bI n (swp f i j)] rfl ?_ ?_
 .simp only[az.cat,az,bC,b9,aE,aG];exact hU o (by omega) (by omega) (λ_ _=>rfl)
 refine cw h rfl ?_ ?_
 .simp only[az,bA];and_intros<;>omega
 have A:(swp f i j).size=n:=by grind[size_swp]
 obtain⟨r,H⟩:∃r,partLoop ltInt a (i+1) (j-1) (swp f i j)=r:=⟨_,rfl⟩;rw[Db J hi P (by omega) H]
 obtain⟨d1,I⟩:∃d1,d1=swp f i j:=⟨_,rfl⟩;rw[<-I]at A H⊢;refine AK.kU (S2:=Unit) 4 rfl rfl (λ_=>r.1<n/\r.2.size=n) (λ_=>[(0,kF n),(1,dI a),(11,dI r.1)]) (λ_=>[bI n r.2]) 1 (λs:Nat×Nat×Array Int=>s.2.2.size=n/\a+1<=s.1/\s.1<=n+1/\s.2.1<n/\partLoop ltInt a s.1 s.2.1 s.2.2=r) (λs=>[(0,kF n),(1,dI a),(10,dI s.1),(11,dI s.2.1)]) (λs=>[bI n s.2.2]) (λs=>s.2.1+1-s.1) (i+1,j-1,d1) rfl ?_ rfl ?_ rfl ⟨A,by grind,by grind,by grind,H⟩ ?_ ?_
 .simp only[az.cat,az,aG,aE];and_intros<;>omega
 .simp[cv]
 .rintro C ⟨i3,l,d2⟩ ⟨F,K,G,M,m⟩;simp only at F K G M m;refine cw h rfl ay ?_;refine AK.kU (S2:=Unit) 6 rfl rfl (λ_=>True) (λ_=>[(0,kF n),(1,dI a),(10,dI ((scanUp (λx=>ltInt x d2[a]!) d2 (l) (i3)):Nat)),(11,dI (l:Nat))]) (λ_=>[bI n d2]) 1 (λk:Nat=>i3<=k/\k<=n+1/\scanUp (λx=>ltInt x d2[a]!) d2 (l) k=scanUp (λx=>ltInt x d2[a]!) d2 (l) (i3)) (λk=>[(0,kF n),(1,dI a),(10,dI (k:Nat)),(11,dI (l:Nat))]) (λ_=>[bI n d2]) (λk=>l+1-k) (i3) rfl ?_ rfl ?_ rfl ⟨bh _,by omega,rfl⟩ ?_ ?_
  .simp[cv]<;>omega
  .simp[cv]
  .rintro out k ⟨w,t,u⟩;by_cases y:k<=l
   .by_cases L:(λx=>ltInt x d2[a]!) d2[k]! = ab
    .have g:ltInt d2[k]! d2[a]! = ab:=by grind
     refine bl h [(101,ab),(111,ab)] rfl ?_ (AK.aQ (k+1) rfl ?_ ?_ ?_ ?_)
     .simp only[az,bC,b9,g,bA,ba,aG,aE];and_intros<;>omega
     .simp only[az.cat,az,aG,aE];omega
     .simp[cv]
     .grind [mP]
     .omega
    .have g:ltInt d2[k]! d2[a]! = af:=by grind
     refine bl h [(101,ab),(111,af)] rfl ?_ (AK.leaveD rfl rfl ?_)
     .simp only[az,bC,b9,g,bA,ba,aG,aE];and_intros<;>omega
     have e:scanUp (λx=>ltInt x d2[a]!) d2 (l) (i3)=k:=by grind[gQ]
     exact out () ay rfl (by simp only[az.cat,az,e,aG,aE]) rfl (by simp[cv])
   .refine bl h [(101,af)] rfl ?_ (AK.leaveD rfl rfl ?_)
    .simp only[az,bA,bO,aG,aE];omega
    have e:scanUp (λx=>ltInt x d2[a]!) d2 (l) (i3)=k:=by grind[gQ]
    exact out () ay rfl (by simp only[az.cat,az,e,aG,aE]) rfl (by simp[cv])
  rintro⟨⟩ -;have c1:=nR (p:=λx=>ltInt x d2[a]!) (d:=d2) (j:=l) (l+1-i3) i3 (bh _);obtain⟨i4,E⟩:∃i4,i4=scanUp (λx=>ltInt x d2[a]!) d2 l i3:=⟨_,rfl⟩
  rw[<-E]at c1⊢;refine cw h rfl ay ?_;refine AK.kU (S2:=Unit) 8 rfl rfl (λ_=>True) (λ_=>[(0,kF n),(1,dI a),(10,dI (i4:Nat)),(11,dI ((scanDown (λx=>!ltInt x d2[a]!) d2 (i4) (l)):Nat))]) (λ_=>[bI n d2]) 1 (λk:Nat=>k<=l/\k<=n/\scanDown (λx=>!ltInt x d2[a]!) d2 (i4) k=scanDown (λx=>!ltInt x d2[a]!) d2 (i4) (l)) (λk=>[(0,kF n),(1,dI a),(10,dI (i4:Nat)),(11,dI (k:Nat))]) (λ_=>[bI n d2]) (λk=>k) (l) rfl ?_ rfl ?_ rfl ⟨bh _,by omega,rfl⟩ ?_ ?_
  .simp[cv]<;>omega
  .simp[cv]
  .rintro out k ⟨w,t,u⟩;by_cases y:i4<=k
   .by_cases L:(λx=>!ltInt x d2[a]!) d2[k]! = ab
    .have g:ltInt d2[k]! d2[a]! = af:=by grind
     refine bl h [(117,ab),(127,af)] rfl ?_ (AK.aQ (k-1) rfl ?_ ?_ ?_ ?_)
     .simp only[az,bC,b9,g,bA,ba,aG,aE];and_intros<;>omega
     .simp only[az.cat,az,aG,aE];omega
     .simp[cv]
     .exact⟨by omega,by omega,by grind[kI]⟩
     .omega
    .have g:ltInt d2[k]! d2[a]! = ab:=by grind
     refine bl h [(117,ab),(127,ab)] rfl ?_ (AK.leaveD rfl rfl ?_)
     .simp only[az,bC,b9,g,bA,ba,aG,aE];and_intros<;>omega
     have e:scanDown (λx=>!ltInt x d2[a]!) d2 (i4) (l)=k:=by grind[fz]
     exact out () ay rfl (by simp only[az.cat,az,e,aG,aE]) rfl (by simp[cv])
   .refine bl h [(117,af)] rfl ?_ (AK.leaveD rfl rfl ?_)
    .simp only[az,bA,bO,aG,aE];omega
    have e:scanDown (λx=>!ltInt x d2[a]!) d2 (i4) (l)=k:=by grind[fz]
    exact out () ay rfl (by simp only[az.cat,az,e,aG,aE]) rfl (by simp[cv])
  rintro⟨⟩ -;have c2:=k7 (p:=λx=>!ltInt x d2[a]!) (d:=d2) (i:=i4) l;obtain⟨z,D⟩:∃z,z=scanDown (λx=>!ltInt x d2[a]!) d2 i4 l:=⟨_,rfl⟩
  rw[<-D]at c2⊢;have q:=partLoop_eq (by omega) E D;by_cases B:z<i4
  .have e:=q;rw[m,bm B]at e;refine bl h [(134,ab)] rfl ?_ (AK.leaveD rfl rfl ?_)
   .simp only[az,bA,ba];omega
   exact C () (by grind) rfl (by simp only[az.cat,az,e,aG,aE]) rfl (by simp[cv,e])
  .have e:=q;rw[m,aZ (by omega)]at e;refine bl h [(134,af),(1000019,ab)] rfl ?_ ?_
   .simp only[az,bC,b9,bA,bO,aG,aE];and_intros<;>omega
   refine AK.norm [bI n (swp d2 i4 z)] rfl ?_ ?_
   .simp only[az.cat,az,bC,b9,aE,aG];exact hU F (by omega) (by omega) (λ_ _=>rfl)
   refine cw h rfl ?_ (AK.aQ (i4+1,z-1,swp d2 i4 z) rfl ?_ ?_ ?_ ?_)
   .simp only[az,bA];and_intros<;>omega
   .simp only[az.cat,az,aG,aE];and_intros<;>omega
   .simp[cv]
   .grind [size_swp]
   grind
 rintro⟨⟩ ⟨Q,O⟩;refine bl h [(1000022,ab)] rfl ?_ ?_
 .simp only[az,bC,b9,bA,aG,aE];and_intros<;>omega
 refine AK.norm [bI n (swp r.2 r.1 a)] rfl ?_ ?_
 .simp only[az.cat,az,bC,b9,aE,aG];exact hU O (by omega) (by omega) (λ_ _=>rfl)
 refine cw h rfl ay (AK.db [0] rfl ?_ rfl rfl rfl ig);simp
def partEqLoop_eq{a i j:Nat}{d:Array Int}{i2 j2:Nat}(f:1<=i)(hi:i2=scanUp (λx=>!ltInt d[a]! x) d j i)(b:j2=scanDown (λx=>ltInt d[a]! x) d i2 j):
  partEqLoop ltInt a i j d=if i2>j2 then(i2,d)else partEqLoop ltInt a (i2+1) (j2-1) (swp d i2 j2):=by have e:=nR (p:=λx=>!ltInt d[a]! x) (d:=d) (j:=j) (j+1-i) i (bh _);have c:=k7 (p:=λx=>ltInt d[a]! x) (d:=d) (i:=i2) j;rw[<-hi]at e;rw[<-b]at c;rw[partEqLoop.eq_1,<-hi,<-b];grind
def Ix(n:Nat)(d:Array Int)(a b v:Nat)(J:d.size=n)(L:a<b)(O:b<=n)(N:v<n)(P:n<=4000000):
  Ev X 162 [kF n,dI a,dI b,dI v] [bI n d] (dI (partitionEqual ltInt d a b v).1) [bI n (partitionEqual ltInt d a b v).2]:=by
 have g:bE X [(161,uB)]:=.cons xK .nil;refine Ev.bQ Tryz.func162 rfl λM=>?_;refine bl g [(1000002,ab)] rfl ?_ ?_
 .simp only[az,bC,b9,bA,aG,aE];and_intros<;>omega
 refine AK.norm [bI n (swp d a v)] rfl ?_ ?_
 .simp only[az.cat,az,bC,b9,aE,aG];exact hU J (by omega) (by omega) (λ_ _=>rfl)
 have z:(swp d a v).size=n:=by grind[size_swp]
 unfold partitionEqual;generalize swp d a v=d1 at *;obtain⟨r,G⟩:∃r,partEqLoop ltInt a (a+1) (b-1) d1=r:=⟨_,rfl⟩;rw[G];refine cw g rfl ?_ ?_
 .simp only[az,bA];and_intros<;>omega
 refine AK.kU (S2:=Unit) 0 rfl rfl (λ_=>r.1<=n+1/\r.2.size=n) (λ_=>[(0,kF n),(1,dI a),(9,dI r.1)]) (λ_=>[bI n r.2]) 1 (λs:Nat×Nat×Array Int=>s.2.2.size=n/\a+1<=s.1/\s.1<=n+1/\s.2.1<n/\partEqLoop ltInt a s.1 s.2.1 s.2.2=r) (λs=>[(0,kF n),(1,dI a),(9,dI s.1),(10,dI s.2.1)]) (λs=>[bI n s.2.2]) (λs=>s.2.1+1-s.1) (a+1,b-1,d1) rfl ?_ rfl ?_ rfl ⟨z,by grind,by grind,by grind,G⟩ ?_ ?_
 .simp only[az.cat,az,aG,aE];and_intros<;>omega
 .simp[cv]
 .rintro o ⟨i3,c,d2⟩ ⟨w,A,y,F,h⟩;simp only at w A y F h;refine cw g rfl ay ?_;refine AK.kU (S2:=Unit) 2 rfl rfl (λ_=>True) (λ_=>[(0,kF n),(1,dI a),(9,dI ((scanUp (λx=>!ltInt d2[a]! x) d2 (c) (i3)):Nat)),(10,dI (c:Nat))]) (λ_=>[bI n d2]) 1 (λk:Nat=>i3<=k/\k<=n+1/\scanUp (λx=>!ltInt d2[a]! x) d2 (c) k=scanUp (λx=>!ltInt d2[a]! x) d2 (c) (i3)) (λk=>[(0,kF n),(1,dI a),(9,dI (k:Nat)),(10,dI (c:Nat))]) (λ_=>[bI n d2]) (λk=>c+1-k) (i3) rfl ?_ rfl ?_ rfl ⟨bh _,by omega,rfl⟩ ?_ ?_
  .simp[cv]<;>omega
  .simp[cv]
  .rintro out k ⟨D,B,C⟩;by_cases E:k<=c
   .by_cases I:(λx=>!ltInt d2[a]! x) d2[k]! = ab
    .have f:ltInt d2[a]! d2[k]! = af:=by grind
     refine bl g [(31,ab),(41,af)] rfl ?_ (AK.aQ (k+1) rfl ?_ ?_ ?_ ?_)
     .simp only[az,bC,b9,f,bA,ba,aG,aE];and_intros<;>omega
     .simp only[az.cat,az,aG,aE];omega
     .simp[cv]
     .grind [mP]
     .omega
    .have f:ltInt d2[a]! d2[k]! = ab:=by grind
     refine bl g [(31,ab),(41,ab)] rfl ?_ (AK.leaveD rfl rfl ?_)
     .simp only[az,bC,b9,f,bA,ba,aG,aE];and_intros<;>omega
     have e:scanUp (λx=>!ltInt d2[a]! x) d2 (c) (i3)=k:=by grind[gQ]
     exact out () ay rfl (by simp only[az.cat,az,e,aG,aE]) rfl (by simp[cv])
   .refine bl g [(31,af)] rfl ?_ (AK.leaveD rfl rfl ?_)
    .simp only[az,bA,bO,aG,aE];omega
    have e:scanUp (λx=>!ltInt d2[a]! x) d2 (c) (i3)=k:=by grind[gQ]
    exact out () ay rfl (by simp only[az.cat,az,e,aG,aE]) rfl (by simp[cv])
  rintro⟨⟩ -;have c1:=nR (p:=λx=>!ltInt d2[a]! x) (d:=d2) (j:=c) (c+1-i3) i3 (bh _);obtain⟨i4,u⟩:∃i4,i4=scanUp (λx=>!ltInt d2[a]! x) d2 c i3:=⟨_,rfl⟩
  rw[<-u]at c1⊢;refine cw g rfl ay ?_;refine AK.kU (S2:=Unit) 4 rfl rfl (λ_=>True) (λ_=>[(0,kF n),(1,dI a),(9,dI (i4:Nat)),(10,dI ((scanDown (λx=>ltInt d2[a]! x) d2 (i4) (c)):Nat))]) (λ_=>[bI n d2]) 1 (λk:Nat=>k<=c/\k<=n/\scanDown (λx=>ltInt d2[a]! x) d2 (i4) k=scanDown (λx=>ltInt d2[a]! x) d2 (i4) (c)) (λk=>[(0,kF n),(1,dI a),(9,dI (i4:Nat)),(10,dI (k:Nat))]) (λ_=>[bI n d2]) (λk=>k) (c) rfl ?_ rfl ?_ rfl ⟨bh _,by omega,rfl⟩ ?_ ?_
  .simp[cv]<;>omega
  .simp[cv]
  .rintro out k ⟨D,B,C⟩;by_cases E:i4<=k
   .by_cases I:(λx=>ltInt d2[a]! x) d2[k]! = ab
    .have f:ltInt d2[a]! d2[k]! = ab:=by grind
     refine bl g [(48,ab),(58,ab)] rfl ?_ (AK.aQ (k-1) rfl ?_ ?_ ?_ ?_)
     .simp only[az,bC,b9,f,bA,ba,aG,aE];and_intros<;>omega
     .simp only[az.cat,az,aG,aE];omega
     .simp[cv]
     .exact⟨by omega,by omega,by grind[kI]⟩
     .omega
    .have f:ltInt d2[a]! d2[k]! = af:=by grind
     refine bl g [(48,ab),(58,af)] rfl ?_ (AK.leaveD rfl rfl ?_)
     .simp only[az,bC,b9,f,bA,ba,aG,aE];and_intros<;>omega
     have e:scanDown (λx=>ltInt d2[a]! x) d2 (i4) (c)=k:=by grind[fz]
     exact out () ay rfl (by simp only[az.cat,az,e,aG,aE]) rfl (by simp[cv])
   .refine bl g [(48,af)] rfl ?_ (AK.leaveD rfl rfl ?_)
    .simp only[az,bA,bO,aG,aE];omega
    have e:scanDown (λx=>ltInt d2[a]! x) d2 (i4) (c)=k:=by grind[fz]
    exact out () ay rfl (by simp only[az.cat,az,e,aG,aE]) rfl (by simp[cv])
  rintro⟨⟩ -;have c2:=k7 (p:=λx=>ltInt d2[a]! x) (d:=d2) (i:=i4) c;obtain⟨l,t⟩:∃l,l=scanDown (λx=>ltInt d2[a]! x) d2 i4 c:=⟨_,rfl⟩
  rw[<-t]at c2⊢;have q:=partEqLoop_eq (by omega) u t;by_cases m:l<i4
  .have e:=q;rw[h,bm m]at e;refine bl g [(64,ab)] rfl ?_ (AK.leaveD rfl rfl ?_)
   .simp only[az,bA,ba];omega
   exact o () (by grind) rfl (by simp only[az.cat,az,e,aG,aE]) rfl (by simp[cv,e])
  .have e:=q;rw[h,aZ (by omega)]at e;refine bl g [(64,af),(1000009,ab)] rfl ?_ ?_
   .simp only[az,bC,b9,bA,bO,aG,aE];and_intros<;>omega
   refine AK.norm [bI n (swp d2 i4 l)] rfl ?_ ?_
   .simp only[az.cat,az,bC,b9,aE,aG];exact hU w (by omega) (by omega) (λ_ _=>rfl)
   refine cw g rfl ?_ (AK.aQ (i4+1,l-1,swp d2 i4 l) rfl ?_ ?_ ?_ ?_)
   .simp only[az,bA];and_intros<;>omega
   .simp only[az.cat,az,aG,aE];and_intros<;>omega
   .simp[cv]
   .grind [size_swp]
   grind
 rintro⟨⟩ ⟨H,K⟩;refine cw g rfl ay (AK.db [0] rfl ?_ rfl rfl rfl ig);simp
end
section
open Go.Sort (swp scanSorted shiftDown shiftUp partialIns partialInsertionSort ltInt)
variable {X:Cx ag}
theorem xL{d:Array Int}{b i:Nat}(h:i<b)(a:ltInt d[i]! d[i-1]! = af):scanSorted ltInt d b i=scanSorted ltInt d b (i+1):=by rw[scanSorted.eq_1 ltInt d b i,bm (by grind)]
theorem oz{d:Array Int}{b i:Nat}(h:i<b->ltInt d[i]! d[i-1]! = ab):scanSorted ltInt d b i=i:=by rw[scanSorted,aZ];grind
def L6{d:Array Int}{b:Nat}:∀(m i:Nat),b-i<=m->i<=b->i<=scanSorted ltInt d b i/\scanSorted ltInt d b i<=b:=by
 intro m;induction m with
 |zero=>grind[oz]
 |succ m c =>
  intro i h a;by_cases f:i<b
  .cases e:ltInt d[i]! d[i-1]! with
   |false=>grind[xL]
   |true=>grind[oz]
  grind
theorem L8{d:Array Int}{j:Nat}(b:1<=j)(h:ltInt d[j]! d[j-1]! = ab):shiftDown ltInt j d=shiftDown ltInt (j-1) (swp d j (j-1)):=by
 obtain⟨j,rfl⟩:∃a,j=a+1:=⟨j-1,by omega⟩
 simp only[pM]at h⊢;rw[shiftDown,aZ (by simp[h])]
theorem C6{d:Array Int}{j:Nat}(h:1<=j->ltInt d[j]! d[j-1]! = af):shiftDown ltInt j d=d:=by
 cases j with
 |zero=>rfl
 |succ j =>
  have:=h (by omega);simp only[pM]at this;rw[shiftDown,bm (by grind)]
theorem L9{d:Array Int}{b j:Nat}(a:j<b)(h:ltInt d[j]! d[j-1]! = ab):shiftUp ltInt b j d=shiftUp ltInt b (j+1) (swp d j (j-1)):=by rw[shiftUp.eq_1 ltInt b j d,bm a,aZ (by simp[h])]
theorem C7{d:Array Int}{b j:Nat}(h:j<b->ltInt d[j]! d[j-1]! = af):shiftUp ltInt b j d=d:=by rw[shiftUp];grind
abbrev QJ(n a b i s:Nat):Fr:=[(0,kF n),(1,dI a),(2,dI b),(7,dI i),(8,dI (5-(s:Int)))]
def Pa{a b s i:Nat}{d:Array Int}:partialIns ltInt a b (s+1) i d=(if scanSorted ltInt d b i=b then(d,ab)else if b-a<50 then(d,af)else
  partialIns ltInt a b s (scanSorted ltInt d b i) (if b-scanSorted ltInt d b i≥2 then shiftUp ltInt b (scanSorted ltInt d b i+1) (if scanSorted ltInt d b i-a≥2 then shiftDown ltInt (scanSorted ltInt d b i-1) (swp d (scanSorted ltInt d b i) (scanSorted ltInt d b i-1))else swp d (scanSorted ltInt d b i) (scanSorted ltInt d b i-1))else(if scanSorted ltInt d b i-a≥2 then shiftDown ltInt (scanSorted ltInt d b i-1) (swp d (scanSorted ltInt d b i) (scanSorted ltInt d b i-1))else swp d (scanSorted ltInt d b i) (scanSorted ltInt d b i-1)))):=rfl
def xM(n:Nat)(d:Array Int)(a b:Nat)(O:d.size=n)(R:a<b)(V:b<=n)(W:n<=4000000):
  Ev X 160 [kF n,dI a,dI b] [bI n d] (dB (partialInsertionSort ltInt d a b).2) [bI n (partialInsertionSort ltInt d a b).1]:=by
 have g:bE X [(161,uB)]:=.cons xK .nil;refine Ev.bQ Tryz.func160 rfl λU=>?_;obtain⟨r,I⟩:∃r,partialIns ltInt a b 5 (a+1) d=r:=⟨_,rfl⟩;have G:partialInsertionSort ltInt d a b=r:=I;rw[G];refine cw g rfl (by simp only[az,bA];omega) ?_
 refine AK.kU (S2:=Unit) 0 rfl rfl (λ_=>r.2=af) (λ_=>[(0,kF n)]) (λ_=>[bI n r.1]) 1 (λs:Nat×Nat×Array Int=>s.2.2.size=n/\s.1<=5/\a+1<=s.2.1/\s.2.1<=b/\partialIns ltInt a b s.1 s.2.1 s.2.2=r) (λs=>QJ n a b s.2.1 s.1) (λs=>[bI n s.2.2]) (λs=>s.1) (5,a+1,d) rfl ?_ rfl ?_ rfl ⟨O,by grind,by grind,by grind,I⟩ ?_ ?_
 .simp
 .simp[cv]
 .rintro x ⟨s,i,d1⟩ ⟨K,y,hi,u,f⟩;simp only at K y hi u f;cases s with
  |zero =>
   rw[partialIns]at f;refine bl g [(14,af)] rfl ?_ (AK.leaveD rfl rfl ?_)
   .simp
   exact x () (by grind) rfl (by simp) rfl (by simp[cv,<-f])
  |succ s =>
   rw[Pa]at f;refine bl g [(14,ab)] rfl (by simp only[az,ba];omega) ?_;refine AK.kU (S2:=Unit) 2 rfl rfl (λ_=>True) (λ_=>QJ n a b (scanSorted ltInt d1 b i) (s+1)) (λ_=>[bI n d1]) 1 (λk:Nat=>i<=k/\k<=b/\scanSorted ltInt d1 b k=scanSorted ltInt d1 b i) (λk=>QJ n a b k (s+1)) (λ_=>[bI n d1]) (λk=>b-k) i rfl ?_ rfl ?_ rfl ⟨bh _,u,rfl⟩ ?_ ?_
   .simp
   .simp[cv]
   .rintro out k ⟨Q,N,P⟩;by_cases S:k<b
    .have z:((k:Int)-1).toNat=k-1:=by omega
     cases p:ltInt d1[k]! d1[k-1]! with
     |false =>
      refine bl g [(19,ab),(30,af)] rfl ?_ (AK.aQ (k+1) rfl ?_ ?_ ?_ ?_)
      .simp only[az,bC,b9,z,p,bA,ba,aG,aE];and_intros<;>omega
      .simp only[az.cat,az,aG,aE];omega
      .simp[cv]
      .grind [xL]
      .omega
     |true =>
      refine bl g [(19,ab),(30,ab)] rfl ?_ (AK.leaveD rfl rfl ?_)
      .simp only[az,bC,b9,z,p,bA,ba,aG,aE];and_intros<;>omega
      have e:scanSorted ltInt d1 b i=k:=by grind[oz]
      exact out () ay rfl (by simp only[az.cat,az,e,aG,aE]) rfl (by simp[cv])
    .refine bl g [(19,af)] rfl ?_ (AK.leaveD rfl rfl ?_)
     .simp only[az,bA,bO,aG,aE];omega
     have e:scanSorted ltInt d1 b i=k:=by grind[oz]
     exact out () ay rfl (by simp only[az.cat,az,e,aG,aE]) rfl (by simp[cv])
   rintro⟨⟩ -;have c:=L6 (d:=d1) (b:=b) (b-i) i (bh _) u;obtain⟨i2,E⟩:∃i2,i2=scanSorted ltInt d1 b i:=⟨_,rfl⟩;rw[<-E]at c f⊢
   by_cases t:i2=b
   .rw[bm t]at f;rw[<-f];refine bl g [(37,ab)] rfl ?_ (AK.fE (cp.mk [0] rfl ?_ rfl rfl rfl ig))
    .simp[t]
    .simp
   rw[aZ t]at f;by_cases B:b-a<50
   .rw[bm B]at f;rw[<-f];refine bl g [(37,af),(41,ab)] rfl ?_ (AK.fE (cp.mk [0] rfl ?_ rfl rfl rfl ig))
    .simp[bA];omega
    .simp
   rw[aZ B]at f;have z:((i2:Int)-1).toNat=i2-1:=by omega
   refine bl g [(37,af),(41,af),(1000012,ab)] rfl ?_ ?_
   .simp only[az,bC,b9,z,bA,bO,eD,dq,aG,aE];and_intros<;>omega
   refine AK.norm [bI n (swp d1 i2 (i2-1))] rfl ?_ ?_
   .simp only[az.cat,az,bC,b9,z,aE,aG];exact hU K (by omega) (by omega) (λ_ _=>rfl)
   have v:(swp d1 i2 (i2-1)).size=n:=by grind[size_swp]
   obtain⟨d2,D⟩:∃d2,d2=swp d1 i2 (i2-1):=⟨_,rfl⟩;rw[<-D]at v f⊢;obtain⟨d3,m⟩:∃d3,d3=if i2-a≥2 then shiftDown ltInt (i2-1) d2 else d2:=⟨_,rfl⟩
   rw[<-m]at f;have Y:∀(j:Nat) (d:Array Int),(shiftDown ltInt j d).size=d.size:=by
    intro j;induction j with
    |zero=>intro d;rfl
    |succ j T =>
     intro d;rw[shiftDown];grind[size_swp]
   have C:d3.size=n:=by grind
   apply AK.join (QJ n a b i2 (s+1)) [bI n d3]
   .intro out;by_cases J:i2-a≥2
    .rw[bm J]at m;refine bl g [(61,ab)] rfl ?_ ?_
     .simp only[az,bA,ba,aG,aE];and_intros<;>omega
     refine AK.kU (S2:=Unit) 4 rfl rfl (λ_=>True) (λ_=>QJ n a b i2 (s+1)) (λ_=>[bI n d3]) 1 (λs:Nat×Array Int=>s.2.size=n/\s.1<b/\shiftDown ltInt s.1 s.2=d3) (λs2=>QJ n a b i2 (s+1)++[(9,dI s2.1)]) (λs=>[bI n s.2]) (λs=>s.1) (i2-1,d2) rfl ?_ rfl ?_ rfl ⟨v,by grind,m.symm⟩ ?_ ?_
     .simp only[az.cat,az,aG,aE];omega
     .simp[cv]
     .rintro h ⟨j,d4⟩ ⟨o,H,l⟩;simp only at o H l;by_cases A:1<=j
      .have q:((j:Int)-1).toNat=j-1:=by omega
       cases p:ltInt d4[j]! d4[j-1]! with
       |true =>
        refine bl g [(65,ab),(77,ab)] rfl ?_ (AK.aQ (j-1,swp d4 j (j-1)) rfl ?_ ?_ ?_ ?_)
        .simp only[az,bC,b9,q,p,bA,ba,aG,aE];and_intros<;>omega
        .simp only[az.cat,az,aG,aE];omega
        .simp only[az.cat,az,bC,b9,q,aE,aG];exact hU o (by omega) (by omega) (λ_ _=>rfl)
        .grind [L8]
        grind
       |false =>
        refine bl g [(65,ab),(77,af)] rfl ?_ (AK.leaveD rfl rfl ?_)
        .simp only[az,bC,b9,q,p,bA,ba,aG,aE];and_intros<;>omega
        have e:d3=d4:=by grind[C6]
        exact h () ay rfl (by simp) rfl (by simp[cv,e])
      .refine bl g [(65,af)] rfl ?_ (AK.leaveD rfl rfl ?_)
       .simp only[az,bO];omega
       have e:d3=d4:=by grind[C6]
       exact h () ay rfl (by simp) rfl (by simp[cv,e])
     rintro⟨⟩ -;refine bl g [(1000018,ab)] rfl ay ?_;exact out _ _ rfl (by simp)
    .rw[aZ J]at m;rw[<-m];refine bl g [(61,af),(1000018,ab)] rfl ?_ ?_
     .simp only[az,bA,bO,aG,aE];and_intros<;>omega
     exact out _ _ rfl (by simp)
   by_cases L:b-i2≥2
   .rw[bm L]at f;obtain⟨d5,w⟩:∃d5,shiftUp ltInt b (i2+1) d3=d5:=⟨_,rfl⟩;rw[w]at f;refine bl g [(98,ab)] rfl ?_ ?_
    .simp only[az,bA,ba,aG,aE];and_intros<;>omega
    refine AK.kU (S2:=Unit) 6 rfl rfl (λ_=>d5.size=n) (λ_=>QJ n a b i2 (s+1)) (λ_=>[bI n d5]) 1 (λs:Nat×Array Int=>s.2.size=n/\1<=s.1/\s.1<=b/\shiftUp ltInt b s.1 s.2=d5) (λs2=>QJ n a b i2 (s+1)++[(10,dI s2.1)]) (λs=>[bI n s.2]) (λs=>b-s.1) (i2+1,d3) rfl ?_ rfl ?_ rfl ⟨C,by grind,by grind,w⟩ ?_ ?_
    .simp only[az.cat,az,aG,aE];omega
    .simp[cv]
    .rintro h ⟨j,d4⟩ ⟨o,A,H,l⟩;simp only at o A H l;by_cases M:j<b
     .have q:((j:Int)-1).toNat=j-1:=by omega
      cases p:ltInt d4[j]! d4[j-1]! with
      |true =>
       refine bl g [(103,ab),(115,ab)] rfl ?_ (AK.aQ (j+1,swp d4 j (j-1)) rfl ?_ ?_ ?_ ?_)
       .simp only[az,bC,b9,q,p,bA,ba,aG,aE];and_intros<;>omega
       .simp only[az.cat,az,aG,aE];omega
       .simp only[az.cat,az,bC,b9,q,aE,aG];exact hU o (by omega) (by omega) (λ_ _=>rfl)
       .grind [size_swp,L9]
       grind
      |false =>
       refine bl g [(103,ab),(115,af)] rfl ?_ (AK.leaveD rfl rfl ?_)
       .simp only[az,bC,b9,q,p,bA,ba,aG,aE];and_intros<;>omega
       have e:d5=d4:=by grind[C7]
       exact h () (by grind) rfl (by simp) rfl (by simp[cv,e])
     .refine bl g [(103,af)] rfl ?_ (AK.leaveD rfl rfl ?_)
      .simp only[az,bO];omega
      have e:d5=d4:=by grind[C7]
      exact h () (by grind) rfl (by simp) rfl (by simp[cv,e])
    rintro⟨⟩ y;refine cw g rfl ?_ (AK.aQ (s,i2,d5) rfl ?_ ?_ ?_ ?_)
    .simp only[az,bA];omega
    .simp only[az.cat,az,aG,aE];omega
    .simp[cv]
    .grind
    grind
   .rw[aZ L]at f;refine bl g [(98,af)] rfl ?_ (AK.aQ (s,i2,d3) rfl ?_ ?_ ?_ ?_)
    .simp only[az,bA,bO,aG,aE];and_intros<;>omega
    .simp only[az.cat,az,aG,aE];omega
    .simp[cv]
    .grind
    grind
 rintro⟨⟩ F;refine cw g rfl ay (AK.db [0] rfl ?_ rfl rfl rfl ig);simp[F]
end
section
open Go.Sort (swp pdq rd Rd Below SWO insertionSort heapSort breakPatterns choosePivot reverseRange partialInsertionSort partition partitionEqual Hint ltInt PermIn SortedIn)
variable {X:Cx ag}
abbrev Wr(n a b c:Nat)(wb wp:Bool):Fr:=[(0,kF n),(1,dI a),(2,dI b),(3,dI c),(8,dB wb),(9,dB wp)]
def za{h:Hint}:nO h=2↔h=.decreasing:=by cases h<;>simp[nO]
def tU{h:Hint}:nO h=1↔h=.increasing:=by cases h<;>simp[nO]
structure PqS where
 a:Nat
 b:Nat
 lim:Nat
 wb:Bool
 wp:Bool
 d:Array Int
def Pb(n:Nat)(d:Array Int){a b:Nat}(e:d.size=n)(f:b<=n)(g:a<=n)(h:n<=4000000){r:Array Int}(c:r=insertionSort ltInt d a b):Ev X 155 [kF n,dI a,dI b] [bI n d] (.eX []) [bI n r]:=by grind[Th]
def Ma(n:Nat)(d:Array Int){a b:Nat}(f:d.size=n)(c:a<=b)(i:1<=b-a)(g:b<=n)(h:n<=4000000){r:Array Int}(e:r=heapSort ltInt d a b):Ev X 156 [kF n,dI a,dI b] [bI n d] (.eX []) [bI n r]:=by grind[Pc]
def Ti(n:Nat)(G:n<=4000000):∀(m:Nat)(d:Array Int)(a b lim:Nat),b-a<=m->d.size=n->a<=b->b<=n->lim<=100->Below ltInt a b d ->
  ∀{x y z:Int},x=a->y=b->z=lim->∀{R:Array Int},R=pdq ltInt d a b lim ab ab->Ev X 138 [kF n,dI x,dI y,dI z] [bI n d] (.eX []) [bI n R]:=by
 have i:bE X [(161,uB)]:=.cons xK .nil;have C:SWO ltInt:=Go.Sort.swo_ltInt;have Y:=Go.Sort.partialInsertionSort_holds (lt:=ltInt);have hpt:=Go.Sort.partition_holds ltInt;have hpe:=Go.Sort.partitionEqual_holds ltInt;have T:=Go.Sort.reverseRange_holds (α:=Int);have S:=Go.Sort.pdq_sorts ltInt;intro m;induction m using Nat.strongRecOn with
 |_ m ih =>
 intro d a b lim hm hd hab hb hl hB x y z hx hy hz R hR;subst hx hy hz;refine Ev.bQ Tryz.func138 rfl λhf=>?_;refine cw i rfl ay ?_;refine AK.cz 1 (λs:PqS=>s.d.size=n/\s.a<=s.b/\s.b<=n/\s.lim<=100/\s.b-s.a<=b-a/\Below ltInt s.a s.b s.d/\pdq ltInt s.d s.a s.b s.lim s.wb s.wp=R) (λs=>Wr n s.a s.b s.lim s.wb s.wp) (λs=>[bI n s.d]) (λs=>s.b-s.a) ⟨a,b,lim,ab,ab,d⟩ rfl ?_ rfl ?_ rfl ⟨hd,hab,hb,hl,bh _,hB,hR.symm⟩ ?_
 .simp
 .simp[cv]
 clear hf hB hd hR;rintro⟨f,h,t,wb,wp,d1⟩ ⟨N,u,j,RB,Z,hB,k⟩;simp only at N u j RB Z hB k;by_cases B:h-f<=12
 .rw[Go.Sort.pdq_small B]at k;refine bl i [(23,ab)] rfl ?_ ?_
  .simp only[az,bA,ba];and_intros<;>omega
  refine AK.cQ (Pb n d1 (a:=f) (b:=h) N j (by omega) G k.symm) [0] rfl ?_;refine cw i rfl ay (AK.fE (cp.mk [0] rfl ay rfl rfl rfl ig))
 by_cases O:t=0
 .rw[Go.Sort.pdq_heap B O]at k;refine bl i [(23,af),(29,ab)] rfl ?_ ?_
  .simp only[az,bA,bO,hI];and_intros<;>omega
  refine AK.cQ (Ma n d1 (a:=f) (b:=h) N u (by omega) j G k.symm) [0] rfl ?_;refine cw i rfl ay (AK.fE (cp.mk [0] rfl ay rfl rfl rfl ig))
 have o:f<h:=by omega
 obtain⟨f1,f2,f3,f4,f5,W,V,f8⟩:=Go.Sort.rd_facts (limit:=t) (wb:=wb) (wp:=wp) C Y T o (by grind) hB;have fl:=Go.Sort.rd_lim_le (lt:=ltInt) (d:=d1) (a:=f) (b:=h) (limit:=t) (wb:=wb) (wp:=wp);have M:=Go.Sort.rd_dec (lt:=ltInt) (d:=d1) (a:=f) (b:=h) (limit:=t) (wb:=wb) (wp:=wp);have U:=Go.Sort.rd_not (lt:=ltInt) (d:=d1) (a:=f) (b:=h) (limit:=t) (wb:=wb) (wp:=wp);have H:=Go.Sort.rd_pi_yes (lt:=ltInt) (d:=d1) (a:=f) (b:=h) (limit:=t) (wb:=wb) (wp:=wp);have fno:=Go.Sort.rd_pi_no (lt:=ltInt) (d:=d1) (a:=f) (b:=h) (limit:=t) (wb:=wb) (wp:=wp);have fc:=Go.Sort.rd_c (lt:=ltInt) (d:=d1) (a:=f) (b:=h) (limit:=t) (wb:=wb) (wp:=wp);have fd1:wb=af->(rd ltInt d1 f h t wb wp).d1=breakPatterns d1 f h/\(rd ltInt d1 f h t wb wp).lim=t-1:=by grind[Go.Sort.rd_false]
 have fd2:wb=ab->(rd ltInt d1 f h t wb wp).d1=d1/\(rd ltInt d1 f h t wb wp).lim=t:=by grind[Go.Sort.rd_true]
 have E:=Go.Sort.pdq_done (lt:=ltInt) (d:=d1) (wb:=wb) (wp:=wp) B O;have geq:=Go.Sort.pdq_eq (lt:=ltInt) (d:=d1) (wb:=wb) (wp:=wp) B O;have F:=Go.Sort.pdq_left (lt:=ltInt) (d:=d1) (wb:=wb) (wp:=wp) B O;have w:=Go.Sort.pdq_right (lt:=ltInt) (d:=d1) (wb:=wb) (wp:=wp) B O;rw[N]at f1 f4 V;rw[k]at E geq F w;generalize rd ltInt d1 f h t wb wp=r at *;apply AK.join (Wr n f h r.lim wb wp++[(10,dI ((h-f:Nat):Int))]) [bI n r.d1]
 .intro out;cases wb with
  |false =>
   obtain⟨J,I⟩:=fd1 rfl;refine bl i [(23,af),(29,af)] rfl ?_ ?_
   .simp only[az,bA,bO,eD,dq];and_intros<;>omega
   refine AK.cQ (Mb n d1 f h N u j G) [0] rfl ?_;rw[<-J];refine bl i [(1000010,ab)] rfl ?_ ?_
   .simp only[az,bA];and_intros<;>omega
   exact out _ _ rfl (by simp only[az.cat,az,I,aG,aE];and_intros<;>omega)
  |true =>
   obtain⟨J,I⟩:=fd2 rfl;subst J;refine bl i [(23,af),(29,af),(1000010,ab)] rfl ?_ ?_
   .simp only[az,bA,bO,eD,dq];and_intros<;>omega
   exact out _ _ rfl (by simp only[az.cat,az,I,aG,aE];and_intros<;>omega)
 refine cw i rfl ay ?_;refine AK.cQ (Iw n r.d1 f h u j (by omega) G) [0] rfl ?_;rw[<-fc];apply AK.join (Wr n f h r.lim wb wp++[(10,dI ((h-f:Nat):Int)),(11,dI r.pivot),(12,dI (nO r.hint))]) [bI n r.d2]
 .intro out;by_cases A:r.c.2=.decreasing
  .obtain⟨J,I,e3⟩:=M A;refine bl i [(50,ab)] rfl ?_ ?_
   .simp only[az,hI,za];exact A
   refine AK.cQ (Tj n r.d1 f h f1 (by omega) (by omega) j G) [0] rfl ?_;rw[<-J];refine bl i [(1000015,ab)] rfl ?_ ?_
   .simp only[az,bA];and_intros<;>omega
   exact out _ _ rfl (by simp only[az.cat,az,I,e3,nO,aG,aE];and_intros<;>omega)
  .obtain⟨J,I,e3⟩:=U A;rw[<-J];refine bl i [(50,af),(1000015,ab)] rfl ?_ ?_
   .simp only[az,eD,dq,za];exact A
   exact out _ _ rfl (by simp only[az.cat,az,I,e3,aG,aE])
 by_cases p:r.pi.2=ab
 ·
  have q:(wb&&wp&&decide (r.hint=.increasing))=ab:=by grind
  have e:=H q;simp only[bR,ba]at q;obtain⟨⟨rfl,rfl⟩,D⟩:=q;refine bl i [(67,ab)] rfl ?_ ?_
  .simp only[az,hI,tU];exact D
  refine AK.cQ (xM n r.d2 f h f4 o j G) [0] rfl ?_;rw[<-e,p,<-E p];refine cw i rfl ay (AK.fE (cp.mk [0] rfl ay rfl rfl rfl ig))
 rw[n6]at p;apply AK.join (Wr n f h r.lim wb wp++[(10,dI ((h-f:Nat):Int)),(11,dI r.pivot)]) [bI n r.pi.1]
 .intro out;cases l:(wb&&wp&&decide (r.hint=.increasing))with
  |true =>
   have e:=H l;simp only[bR,ba]at l;obtain⟨⟨rfl,rfl⟩,D⟩:=l;refine bl i [(67,ab)] rfl ?_ ?_
   .simp only[az,hI,tU];exact D
   refine AK.cQ (xM n r.d2 f h f4 o j G) [0] rfl ?_;rw[<-e,p];refine bl i [(1000017,ab)] rfl ay ?_;exact out _ _ rfl (by simp)
  |false =>
   have e:r.d2=r.pi.1:=by grind
   rw[e];cases wb with
   |false =>
    refine bl i [(1000017,ab)] rfl ay ?_;exact out _ _ rfl (by simp)
   |true =>
    cases wp with
    |false =>
     refine bl i [(1000017,ab)] rfl ay ?_;exact out _ _ rfl (by simp)
    |true =>
     refine bl i [(67,af),(1000017,ab)] rfl ?_ ?_
     .simp only[az,eD,dq,tU];grind
     exact out _ _ rfl (by simp)
 have ep:((f:Int)-1).toNat=f-1:=by omega
 cases l:(decide (f>0)&&!ltInt r.pi.1[f-1]! r.pi.1[r.pivot]!)with
 |true =>
  have v:=l;simp only[bR,ba,j7]at v;obtain⟨L,q2,K,q4,_⟩:=Go.Sort.round_eq (mid:=(partitionEqual ltInt r.pi.1 f h r.pivot).1) (d4:=(partitionEqual ltInt r.pi.1 f h r.pivot).2) C hpe v.1 W.1 W.2 (by grind) f8 v.2 rfl;have g:=geq p l ⟨L,q2⟩;refine bl i [(74,ab),(85,af)] rfl ?_ ?_
  .simp only[az,bC,b9,ep,v.2,bA,ba,aG,aE];and_intros<;>omega
  refine AK.cQ (Ix n r.pi.1 f h r.pivot V o j (by omega) G) [0] rfl ?_;refine cw i rfl ay (AK.aQ ⟨(partitionEqual ltInt r.pi.1 f h r.pivot).1,h,r.lim,wb,wp,(partitionEqual ltInt r.pi.1 f h r.pivot).2⟩ rfl ?_ ?_ ?_ ?_)
  .simp
  .simp[cv]
  .grind
  grind
 |false =>
  obtain⟨L,q2,K,q4,q5,q6,q7⟩:=Go.Sort.round_part (mid:=(partition ltInt r.pi.1 f h r.pivot).1) (ap:=(partition ltInt r.pi.1 f h r.pivot).2.1) (d4:=(partition ltInt r.pi.1 f h r.pivot).2.2) C hpt W.1 W.2 (by grind) f8 rfl;apply AK.join (Wr n f h r.lim wb wp++[(10,dI ((h-f:Nat):Int)),(11,dI r.pivot)]) [bI n r.pi.1]
  .intro out;by_cases ha0:0<f
   .have s9:ltInt r.pi.1[f-1]! r.pi.1[r.pivot]! = ab:=by grind
    refine bl i [(74,ab),(85,ab),(1000020,ab)] rfl ?_ ?_
    .simp only[az,bC,b9,ep,s9,bA,ba,aG,aE];and_intros<;>omega
    exact out _ _ rfl (by simp)
   .refine bl i [(74,af),(1000020,ab)] rfl ?_ ?_
    .simp only[az,bO];omega
    exact out _ _ rfl (by simp)
  refine cw i rfl ay ?_;refine AK.cQ (Pd n r.pi.1 f h r.pivot V o j (by omega) G) [0] rfl ?_;have gl:=F p l ⟨L,q2⟩;have gr:=w p l ⟨L,q2⟩;generalize partition ltInt r.pi.1 f h r.pivot=P at *;rw[V]at K;by_cases Q:P.1-f<h-P.1
  .have g:=gl Q;obtain⟨w1,w2⟩:=S C P.2.2 f P.1 r.lim ab ab L (by grind) q4;obtain⟨w3,_⟩:=q6 _ w1 w2;refine bl i [(113,ab)] rfl ?_ ?_
   .simp only[az,bA,ba,aG,aE];and_intros<;>omega
   refine AK.cQ (ih (P.1-f) (by omega) P.2.2 f P.1 r.lim (bh _) K L (by omega) (by omega) q4 rfl rfl rfl rfl) [0] rfl ?_;refine cw i rfl ?_ (AK.aQ ⟨P.1+1,h,r.lim,decide (P.1-f≥(h-f) / 8),P.2.1,pdq ltInt P.2.2 f P.1 r.lim ab ab⟩ rfl ?_ ?_ ?_ ?_)
   .simp only[az,bA,aG,aE];and_intros<;>omega
   .simp only[az.cat,az,aG,aE];grind
   .simp[cv]
   .exact⟨by simp only;rw[w1.1,K],by grind,j,by grind,by grind,w3,g.symm⟩
   grind
  .have g:=gr Q;obtain⟨w1,w2⟩:=S C P.2.2 (P.1+1) h r.lim ab ab (by omega) (by grind) q5;obtain⟨w3,_⟩:=q7 _ w1 w2;refine bl i [(113,af)] rfl ?_ ?_
   .simp only[az,bA,bO,aG,aE];and_intros<;>omega
   refine AK.cQ (ih (h-(P.1+1)) (by omega) P.2.2 (P.1+1) h r.lim (bh _) K (by omega) j (by omega) q5 (x:=(P.1:Int)+1) (by omega) rfl rfl rfl) [0] rfl ?_;refine cw i rfl ?_ (AK.aQ ⟨f,P.1,r.lim,decide (h-P.1≥(h-f) / 8),P.2.1,pdq ltInt P.2.2 (P.1+1) h r.lim ab ab⟩ rfl ?_ ?_ ?_ ?_)
   .trivial
   .simp only[az.cat,az,aG,aE];grind
   .simp[cv]
   .exact⟨by simp only;rw[w1.1,K],by grind,by grind,by grind,by grind,w3,g.symm⟩
   grind
end
section
variable {X:Cx ag}[X.gY]
def S7(t:List bz):∀i,i<t.length->(cF.fn t i).length=2/\∀c∈cF.fn t i,uK c=ab:=by intro i _;refine⟨rfl,λc a=>?_⟩;simp only[mg.fn,AE,cF,eE,n5,mo]at a;rcases a with rfl|rfl<;>rfl
abbrev LN(t:List bz)(xs:List ah):Prop:=gi 2 t.length (cF.fn t) xs
abbrev bK(bf:m8)(n:Nat)(xs:List ah):aP:=.b8 (fQ 76 2 bf n xs)
abbrev tKB(bf:m8)(n:Nat)(b:Bool):D:=.eX [.one (.v (k9 bf n)),.one (.c (.bool b))]
def C0(t:List bz)(p x:Bs):eb (ι:={q:m8×List ah // LN (ek t p x).1 q.2}) X 42 [cF.sl t,dS p,dS x] [] (λq=>tKB q.1.1 (ek t p x).1.length (ek t p x).2) (λq=>[bK q.1.1 (ek t p x).1.length q.1.2]) :=
 (uA t p x).thaw Tryz.func42 rfl (by simp[vo,pw,ql,mH,vK,uK]) (S7 _)
def gi.nil{k:Nat}{es:Nat->List C}:gi k 0 es []:=⟨by simp,λi hi=>by omega,λi hi=>by omega⟩
def Ir{t:List bz}{p x:Bs}(h:(ek t p x).2=ab):(ek t p x).1.length<=6:=by
 unfold ek at h⊢;split at h
 .rename_i b;rw[bm b];split at h
  .rename_i a;rw[bm a];exact mc a
  grind
 grind
def We{o:au}{x y:ak}(h:o.op=.call {callee:=.builtin .append,args:=#[x,y],argTypes:=#[28,28]}):lz ag o x y 76 i76 :=
 ⟨⟨28,28,i28,i28,h,(tok _ _ rfl),rfl,(tok _ _ rfl),rfl⟩,(tok _ _ rfl),by decide,by decide⟩
def LO{M:Mem}{p:Bs}(h:p.length<=9223372036854775807):Rd M (Bi p) (.str p):=Rd.str rfl h
def LN.snoc{t:List bz}{xs:List ah}(h:LN t xs)(p x:Bs)(d:p.length<=9223372036854775807)(b:x.length<=9223372036854775807):LN (t++[(p,x)]) (xs++[Bi p,Bi x]):=by
 unfold LN;rw[c7];refine gi.snoc h (λi hi=>?_) rfl rfl λq c a=>?_
 .simp[mg.fn,AE,ar,jy hi]
 .have e:cF.fn (t++[(p,x)]) t.length=[.str p,.str x]:=by simp[mg.fn,AE,cF]
  rw[e]at a;rcases q with _|_|q
  .simp at a;subst a;exact⟨Bi p,rfl,λM=>LO d⟩
  .simp at a;subst a;exact⟨Bi x,rfl,λM=>LO b⟩
  grind
def LN.O2{t:List bz}{xs vs:List ah}(h:LN t xs)(i:Nat)(hi:i<t.length)(x:Bs)(f:mW vs [.c (.str x)]):LN (t.set i ((t.getD i cF.bZ).1,x)) (xs.take (i*2+1)++vs++xs.drop (i*2+1+vs.length)):=by
 unfold LN;rw[List.length_set];refine gi.fj h i 1 hi f (bh _) (λg d a=>?_) rfl λq c b=>?_
 .simp[mg.fn,AE,ar,Ne.symm a]
 .have e:cF.fn (t.set i ((t.getD i cF.bZ).1,x)) i=[.str (t.getD i cF.bZ).1,.str x]:=by simp[mg.fn,AE,cF,ar,hi]
  rw[e]at b;rcases q with _|_|q
  .right;simp at b;subst b;exact⟨by omega,rfl⟩
  .grind
  grind
structure C1(k c:Nat) where
 t:List bz
 bf:m8
 xs:List ah
 k1:Nat
 fl:LN t xs
 hl:t.length<=7
 h1:k<=k1
 h2:k1<=k+c
set_option maxRecDepth 20000 in
def Gv(m:Nat)(b:Nat->Int)(o:Bytes b)(k:Nat)(hk:k<=50000)(r:m<=1048576):
  eb (ι:=C1 k 400) X 18 [.e (.one (.ptr 0 0))] [kZ m b k] (λq=>.e (.one (.v (k9 q.bf q.t.length)))) (λq=>[kZ m b q.k1,bK q.bf q.t.length q.xs]):=by
 refine eb.qI Tryz.func18 rfl rfl rfl λP=>?_;refine qz [] 9 rfl ay ?_;refine AK.Nt 3 76 2 rfl λC=>?_;refine bt rfl ay ?_;refine AK.cP (gv m b o k 6 (by omega) r (by omega)) [0] rfl (λ_=>rfl) ?_;rintro⟨v,v0,v1⟩;refine bt rfl ay ?_;refine AK.cz 2 (λs:Nat×List bz×m8×List ah×Nat=>s.1<=5/\LN s.2.1 s.2.2.2.1/\s.2.1.length<=6/\k<=s.2.2.2.2/\s.2.2.2.2+70*s.1<=k+351) (λs=>[(0,.e (.one (.ptr 0 0))),(4,dI s.1),(3,.e (.one (.v (k9 s.2.2.1 s.2.1.length))))]) (λs=>[kZ m b s.2.2.2.2,bK s.2.2.1 s.2.1.length s.2.2.2.1]) (λs=>s.1) (v.toNat,[],C,[],k+1) rfl ?_ rfl ?_ rfl ⟨by omega,gi.nil,by simp,by simp,by grind⟩ ?_
 .simp;omega
 .simp
 rintro⟨n,t,bf,xs,k1⟩ ⟨Q,f,O,L,G⟩;simp only at Q f O L G;by_cases N:0<n
 .refine aX [(11,ab)] rfl (by simp[N]) ?_;refine AK.cP (vC m b o k1 (by omega) r) [0] rfl (λ_=>rfl) ?_;rintro⟨p,J⟩;refine bt rfl ay ?_;refine AK.cP (GN m b o (k1+1+1) (by omega) r) [0] rfl (λ_=>rfl) ?_;rintro⟨⟨x,F⟩,H,B,g⟩;simp only at H B g;refine bt rfl ay ?_;refine AK.J1 (C0 t p x) 1 0 rfl rfl rfl rfl (fQ.Bw rfl (cF.fn t) f.rd) rfl ?_ rfl (λ_=>rfl) (λ_=>rfl) rfl ?_
  .simp
  rintro⟨⟨d,xs'⟩,w⟩;simp only at w⊢;cases A:(ek t p x).2 with
  |true =>
   have z:=Ir A;generalize(ek t p x).1=t' at w z⊢;refine qz [] 6 rfl ay ?_;refine AK.swap 1 2 (by decide) rfl rfl (λv K h=>h.1) (λv K h=>h.1) ?_;refine aX [(23,ab)] rfl ?_ (AK.aQ (n-1,t',d,xs',F) rfl ?_ ?_ ?_ ?_)
   .simp[bA];omega
   .simp;omega
   .simp
   .grind
   grind
  |false =>
   refine aX [(23,af)] rfl ?_ (AK.aQ (n-1,t,bf,xs,F) rfl ?_ ?_ ?_ ?_)
   .simp[bA];omega
   .simp;omega
   .simp
   .grind
   grind
 .obtain rfl:n=0:=by omega
  refine aX [(11,af)] rfl (by simp) (AK.leaveD rfl rfl ?_);refine bt rfl ay ?_;refine AK.cP (gv m b o k1 40 (by omega) r (by omega)) [0] rfl (λ_=>rfl) ?_;rintro⟨u,S,T⟩;by_cases E:u=0
  .refine aX [(27,ab)] rfl (by simp[E]) ?_;refine AK.cP (vC m b o (k1+1) (by omega) r) [0] rfl (λ_=>rfl) ?_;rintro⟨p,J⟩;refine bt rfl ay ?_;refine AK.oe (l:=1) (bf:=bf) (xs:=xs) (n:=t.length) (xv:=[Bi p,Bi [97]]) (We rfl) rfl rfl rfl rfl rfl rfl rfl rfl (λM v j c U R=>?_) (by show _*32<=_;omega) λd=>?_
   .grind [str_val]
   refine bt rfl ay (AK.nI ⟨t++[(p,[97])],d,xs++[Bi p,Bi [97]],k1+1+1+1,f.snoc p [97] (by omega) (by decide),by grind,by omega,by omega⟩ (AK.db [0,1] rfl ?_ ?_ rfl rfl ?_))
   .simp
   .simp;rfl
   grind
  by_cases a:u=1
  .by_cases y:0<t.length
   .refine AK.Je (fQ.len (l:=1) rfl) λD=>?_;obtain⟨I,cap,rfl⟩:=D.2.2.1 y;refine aX [(27,af),(35,ab),(39,ab)] rfl ?_ ?_
    .simp[y,a];omega
    refine AK.zA tok 1 rfl rfl rfl rfl rfl rfl rfl ?_ rfl rfl λvs TE=>?_
    .grind
    have i:=f.O2 0 y [65] TE;refine bt rfl ay (AK.nI ⟨t.set 0 ((t.getD 0 cF.bZ).1,[65]),.row I cap,_,k1+1,i,by grind,by omega,by omega⟩ (AK.db [0,1] rfl ?_ ?_ rfl rfl ?_))
    .simp
    .simp;rfl
    grind
   .cases bf;all_goals
     refine aX [(27,af),(35,ab),(39,af)] rfl ?_ (AK.nI ⟨t,_,xs,k1+1,f,by omega,by omega,by omega⟩ (AK.db [0,1] rfl ?_ rfl rfl rfl ?_))
     .simp[y,a]<;>omega
     .simp
     grind
  .refine aX [(27,af),(35,af)] rfl (by simp[E,a]) (AK.nI ⟨t,bf,xs,k1+1,f,by omega,by omega,by omega⟩ (AK.db [0,1] rfl ?_ rfl rfl rfl ?_))
   .simp
   grind
def MQ(m:Nat)(b:Nat->Int)(a:Bytes b)(k:Nat)(hk:k<=50000)(c:m<=1048576):
  eb (ι:=C1 k 400) X 18 [.e (.one (.ptr 0 0))] [kZ m b k] (λq=>cF.sl q.t) (λq=>[kZ m b q.k1]) :=
 eb.BD (σ1:=λq:C1 k 400=>[kZ m b q.k1]) (k:=2) (n:=λq:C1 k 400=>q.t.length) (es:=λq:C1 k 400=>cF.fn q.t) (Gv m b a k hk c) (λq=>q.fl) (λ_=>rfl) (λ_=>bh _)
end
section
open Go.Proofs Go.Extern
abbrev rB:aj:=62
abbrev ly:aj:=60
abbrev Pp:aj:=174
abbrev hT(t:aj):ah:=.pointer (aa ⟨6,t,ae⟩)
abbrev rT(t:aj):ah:=.iface Pp (.agg #[hT t])
abbrev vV(t:aj)(g:Nat)(a:Int):ah:=.agg #[hT t,.pointer (aa ⟨g,0,ae⟩),.int .u64 a]
def Dg:kR ag 72 λargs=>ReflectliteValue.unpack (args.getD 0 (.tuple #[])):=⟨_,Tryz.func72,by kernel_rfl,by kernel_rfl,by kernel_rfl,by kernel_rfl⟩
def Fg(p:Addr)(w:aA):(ReflectliteValue.unpack (.iface rB (.pointer (aa p)))).run ag w=.ok (vV rB w.heap.size 150) (w.alloc (.cells #[.pointer (aa p)] rB)):=by kernel_rfl
def Fh(p:Addr)(w:aA)(es:Array Event):(ReflectliteValue.unpack (.iface rB (.pointer (aa p)))).events ag w es=es:=by kernel_rfl
def Fi(p:Addr)(w:aA):(ReflectliteValue.unpack (.iface ly (.pointer (aa p)))).run ag w=.ok (vV ly w.heap.size 150) (w.alloc (.cells #[.pointer (aa p)] ly)):=by kernel_rfl
def Fj(p:Addr)(w:aA)(es:Array Event):(ReflectliteValue.unpack (.iface ly (.pointer (aa p)))).events ag w es=es:=by kernel_rfl
def Wz:kR ag 73 (ReflectliteValue.methodAny (ReflectliteValue.valueError "reflectlite.Value.Type" 0) λt _ _ _=>ReflectliteType.toType t):=⟨_,Tryz.func73,by kernel_rfl,by kernel_rfl,by kernel_rfl,by kernel_rfl⟩
def WA(g:Nat)(w:aA):(ReflectliteValue.methodAny (ReflectliteValue.valueError "reflectlite.Value.Type" 0) (λt _ _ _=>ReflectliteType.toType t) #[vV rB g 150]).run ag w=.ok (rT rB) w:=by kernel_rfl
def WB(g:Nat)(w:aA)(es:Array Event):(ReflectliteValue.methodAny (ReflectliteValue.valueError "reflectlite.Value.Type" 0) (λt _ _ _=>ReflectliteType.toType t) #[vV rB g 150]).events ag w es=es:=by kernel_rfl
def QM(h:ah)(w:aA):(Go.method (Tryz.prog.types.size+Made.depth) Pp (.agg #[h]) "Kind").run ag w=.ok (254,h) w/\∀es,(Go.method (Tryz.prog.types.size+Made.depth) Pp (.agg #[h]) "Kind").events ag w es=es:=⟨by kernel_rfl,λes=>by kernel_rfl⟩
def QN:kR ag 254 (ReflectliteType.abiMethod λt=>do pure (.int .u8 (<-Rtype.kind t))):=⟨_,Tryz.func254,by kernel_rfl,by kernel_rfl,by kernel_rfl,by kernel_rfl⟩
def Pq(w:aA):((ReflectliteType.abiMethod λt=>do pure (.int .u8 (<-Rtype.kind t))) #[hT rB]).run ag w=.ok (.int .u8 22) w:=by kernel_rfl
def Pr(w:aA)(es:Array Event):((ReflectliteType.abiMethod λt=>do pure (.int .u8 (<-Rtype.kind t))) #[hT rB]).events ag w es=es:=by kernel_rfl
def Ps(w:aA):((ReflectliteType.abiMethod λt=>do pure (.int .u8 (<-Rtype.kind t))) #[hT ly]).run ag w=.ok (.int .u8 22) w:=by kernel_rfl
def Pt(w:aA)(es:Array Event):((ReflectliteType.abiMethod λt=>do pure (.int .u8 (<-Rtype.kind t))) #[hT ly]).events ag w es=es:=by kernel_rfl
def Tq:kR ag 74 (ReflectliteValue.method (ReflectliteValue.valueError "reflectlite.Value.IsNil" 0) ReflectliteValue.isNil):=⟨_,Tryz.func74,by kernel_rfl,by kernel_rfl,by kernel_rfl,by kernel_rfl⟩
def rlm(z:Sem ah)(f:aj->Addr->Nat->Nat->Sem ah)(v:ah):ReflectliteValue.method z f #[v]=(do match<-ReflectliteValue.parts v with|none=>z|some (t,a,b)=>f t a b (b % 32)):=rfl
def ud(g:Nat)(w:aA):(ReflectliteValue.parts (vV rB g 150)).run ag w=.ok (aa (rB,⟨g,0,ae⟩,150)) w/\∀es,(ReflectliteValue.parts (vV rB g 150)).events ag w es=es:=⟨by kernel_rfl,λes=>by kernel_rfl⟩
def Ts(g:Nat)(p:Addr)(w:aA)(d:w.cell? ⟨g,0,ae⟩=aa (.pointer (aa p))):(ReflectliteValue.method (ReflectliteValue.valueError "reflectlite.Value.IsNil" 0) ReflectliteValue.isNil #[vV rB g 150]).run ag w=.ok (.bool af) w /\
  ∀es,∀b∈(ReflectliteValue.method (ReflectliteValue.valueError "reflectlite.Value.IsNil" 0) ReflectliteValue.isNil #[vV rB g 150]).events ag w es,b∈es∨b=⟨.cell ⟨g,0,ae⟩,af,af⟩:=by
 have c:=Tryz.underlying62;rw[rlm];constructor
 .simp only[bL,(ud g w).1,bU];simp[ReflectliteValue.isNil,loadVar,isAgg,underlying,c,d]
 .intro es b a;simp only[aM,bL,(ud g w).1,(ud g w).2,bU,aO]at a;simpa[ReflectliteValue.isNil,loadVar,isAgg,underlying,c,d,show(Mode.plain==Mode.atomic)=af from rfl]using a
def WC(h:ah)(w:aA):(Go.method (Tryz.prog.types.size+Made.depth) Pp (.agg #[h]) "Elem").run ag w=.ok (270,.agg #[h]) w/\∀es,(Go.method (Tryz.prog.types.size+Made.depth) Pp (.agg #[h]) "Elem").events ag w es=es:=⟨by kernel_rfl,λes=>by kernel_rfl⟩
def Tt:kR ag 270 (ReflectliteType.method ReflectliteType.elem):=⟨_,Tryz.func270,by kernel_rfl,by kernel_rfl,by kernel_rfl,by kernel_rfl⟩
def Tu(w:aA):(ReflectliteType.method ReflectliteType.elem #[.agg #[hT rB]]).run ag w=.ok (rT ly) w:=by kernel_rfl
def Tv(w:aA)(es:Array Event):(ReflectliteType.method ReflectliteType.elem #[.agg #[hT rB]]).events ag w es=es:=by kernel_rfl
def WE(h:ah)(w:aA):(Go.method (Tryz.prog.types.size+Made.depth) Pp (.agg #[h]) "Implements").run ag w=.ok (271,.agg #[h]) w/\∀es,(Go.method (Tryz.prog.types.size+Made.depth) Pp (.agg #[h]) "Implements").events ag w es=es:=⟨by kernel_rfl,λes=>by kernel_rfl⟩
def WG:kR ag 271 (ReflectliteType.relation "Implements" ReflectliteType.implements_):=⟨_,Tryz.func271,by kernel_rfl,by kernel_rfl,by kernel_rfl,by kernel_rfl⟩
def WH(w:aA):(ReflectliteType.relation "Implements" ReflectliteType.implements_ #[.agg #[hT ly],rT 57]).run ag w=.ok (.bool ab) w:=by kernel_rfl
def WI(w:aA)(es:Array Event):(ReflectliteType.relation "Implements" ReflectliteType.implements_ #[.agg #[hT ly],rT 57]).events ag w es=es:=by kernel_rfl
def ZJ(h:ah)(w:aA):(Go.method (Tryz.prog.types.size+Made.depth) Pp (.agg #[h]) "AssignableTo").run ag w=.ok (268,.agg #[h]) w/\∀es,(Go.method (Tryz.prog.types.size+Made.depth) Pp (.agg #[h]) "AssignableTo").events ag w es=es:=⟨by kernel_rfl,λes=>by kernel_rfl⟩
def ZK:kR ag 268 (ReflectliteType.relation "AssignableTo" ReflectliteType.assignableTo):=⟨_,Tryz.func268,by kernel_rfl,by kernel_rfl,by kernel_rfl,by kernel_rfl⟩
def ZL(w:aA):(ReflectliteType.relation "AssignableTo" ReflectliteType.assignableTo #[.agg #[hT ly],rT ly]).run ag w=.ok (.bool ab) w:=by kernel_rfl
def ZM(w:aA)(es:Array Event):(ReflectliteType.relation "AssignableTo" ReflectliteType.assignableTo #[.agg #[hT ly],rT ly]).events ag w es=es:=by kernel_rfl
def Pu:kR ag 122 ReflectliteType.typeOf:=⟨_,Tryz.func122,by kernel_rfl,by kernel_rfl,by kernel_rfl,by kernel_rfl⟩
def Pv(v:ah)(w:aA):(ReflectliteType.typeOf #[.iface ly v]).run ag w=.ok (rT ly) w:=by kernel_rfl
def Pw(v:ah)(w:aA)(es:Array Event):(ReflectliteType.typeOf #[.iface ly v]).events ag w es=es:=by kernel_rfl
def Tw:kR ag 123 (ReflectliteValue.method (ReflectliteValue.valueError "reflectlite.Value.Elem" 0) ReflectliteValue.elem):=⟨_,Tryz.func123,by kernel_rfl,by kernel_rfl,by kernel_rfl,by kernel_rfl⟩
def GY(w:aA):(Rtype.elem? rB).run ag w=.ok (aa ly) w/\∀es,(Rtype.elem? rB).events ag w es=es:=⟨by kernel_rfl,λes=>by kernel_rfl⟩
def rMk(p:Addr)(w:aA):(ReflectliteValue.mk ly p ReflectliteValue.flagAddr).run ag w=.ok (.agg #[hT ly,.pointer (aa p),.int .u64 406]) w/\∀es,(ReflectliteValue.mk ly p ReflectliteValue.flagAddr).events ag w es=es:=⟨by kernel_rfl,λes=>by kernel_rfl⟩
def Tx(g:Nat)(p:Addr)(w:aA)(d:w.cell? ⟨g,0,ae⟩=aa (.pointer (aa p))):(ReflectliteValue.method (ReflectliteValue.valueError "reflectlite.Value.Elem" 0) ReflectliteValue.elem #[vV rB g 150]).run ag w=.ok (.agg #[hT ly,.pointer (aa p),.int .u64 406]) w /\
  ∀es,∀b∈(ReflectliteValue.method (ReflectliteValue.valueError "reflectlite.Value.Elem" 0) ReflectliteValue.elem #[vV rB g 150]).events ag w es,b∈es∨b=⟨.cell ⟨g,0,ae⟩,af,af⟩:=by
 have c:=Tryz.underlying62;rw[rlm];constructor
 .simp only[bL,(ud g w).1,bU];simp[ReflectliteValue.elem,loadVar,isAgg,underlying,c,d,GY,rMk]
 .intro es b a;simp only[aM,bL,(ud g w).1,(ud g w).2,bU,aO]at a;simpa[ReflectliteValue.elem,loadVar,isAgg,underlying,c,d,GY,rMk,show(Mode.plain==Mode.atomic)=af from rfl]using a
def ZN:kR ag 124 ReflectliteValue.set:=⟨_,Tryz.func124,by kernel_rfl,by kernel_rfl,by kernel_rfl,by kernel_rfl⟩
def rls(v x:ah):ReflectliteValue.set #[v,x]=(do
  let (aa (d,a,e),aa (c,b,_)):=(<-ReflectliteValue.parts v,<-ReflectliteValue.parts x)
   |unsupported (.noEntry "extern/(internal/reflectlite.Value).Set.zeroValue")
  if e / ReflectliteValue.flagAddr % 2==0 then unsupported (.noEntry "extern/(internal/reflectlite.Value).Set.unaddressable")
  let val<-loadVar c b
  if<-Rtype.directlyAssignable d c then storeVar d a val
  else if<-Rtype.implements d c then
   if(<-Rtype.kind c)==20 then
    match val with
    |.nilIface=>unsupported (.noEntry "extern/reflectlite: a nil value of one interface type handed on as a value of another")
    |_=>storeVar d a val
   else storeVar d a (.iface c val)
  else panicString ("reflectlite.Set: value of type "++(<-Rtype.spelt c)++ " is not assignable to type "++(<-Rtype.spelt d))
  pure (.tuple #[])):=rfl
def Ba(p:Addr)(w:aA):(ReflectliteValue.parts (.agg #[hT ly,.pointer (aa p),.int .u64 406])).run ag w=.ok (aa (ly,p,406)) w/\∀es,(ReflectliteValue.parts (.agg #[hT ly,.pointer (aa p),.int .u64 406])).events ag w es=es:=⟨by kernel_rfl,λes=>by kernel_rfl⟩
def Bb(g:Nat)(w:aA):(ReflectliteValue.parts (vV ly g 150)).run ag w=.ok (aa (ly,⟨g,0,ae⟩,150)) w/\∀es,(ReflectliteValue.parts (vV ly g 150)).events ag w es=es:=⟨by kernel_rfl,λes=>by kernel_rfl⟩
def GZ(w:aA):(Rtype.directlyAssignable ly ly).run ag w=.ok ab w/\∀es,(Rtype.directlyAssignable ly ly).events ag w es=es:=⟨by kernel_rfl,λes=>by kernel_rfl⟩
def QO(w:aA):(sizeOf ly).run ag w=.ok 1 w/\∀es,(sizeOf ly).events ag w es=es:=⟨by kernel_rfl,λes=>by kernel_rfl⟩
def ZO(g b:Nat)(E:aj)(w0:ah)(e:Addr)(w:aA)(o:w.heap[g]?=aa (.cells #[w0] E (0,0)))(l:w.cell? ⟨b,0,ae⟩=aa (.pointer (aa e))):
  (ReflectliteValue.set #[.agg #[hT ly,.pointer (aa ⟨g,0,ae⟩),.int .u64 406],vV ly b 150]).run ag w=.ok (.tuple #[]) (w.setRow g #[.pointer (aa e)]) /\
  ∀es,∀c∈(ReflectliteValue.set #[.agg #[hT ly,.pointer (aa ⟨g,0,ae⟩),.int .u64 406],vV ly b 150]).events ag w es,c∈es∨c=⟨.cell ⟨b,0,ae⟩,af,af⟩∨c=⟨.cell ⟨g,0,ae⟩,ab,af⟩:=by
 have n:=Tryz.underlying60;have d:∀w∈[Value.pointer (aa e)],w.oneCell'=ab:=λw m=>by simp at m;subst m;rfl
 have k:=run_storeCells_at ag g 0 E [.pointer (aa e)] 0 #[w0] w o (by simp) d;have a:(storeCells ⟨g,0,ae⟩ [.pointer (aa e)] 0).run ag w=.ok () (w.setRow g #[.pointer (aa e)]):=k;rw[rls];constructor
 .simp only[bL,(Ba ⟨g,0,ae⟩ w).1,(Bb b w).1,bU];simp[ReflectliteValue.flagAddr,loadVar,isAgg,underlying,n,l,GZ,storeVar,Value.cells,QO,a]
 .intro es c i;simp only[aM,bL,(Ba ⟨g,0,ae⟩ w).1,(Ba ⟨g,0,ae⟩ w).2,(Bb b w).1,(Bb b w).2,bU,aO]at i;have f:c∈(storeCells ⟨g,0,ae⟩ [.pointer (aa e)] 0).events ag w (es.push ⟨.cell ⟨b,0,ae⟩,af,af⟩):=by simpa[ReflectliteValue.flagAddr,loadVar,isAgg,underlying,n,l,GZ,storeVar,Value.cells,QO,a,show(Mode.plain==Mode.atomic)=af from rfl]using i
  rcases dE [.pointer (aa e)] 0 #[w0] w _ o (by simp) d c f with h|⟨j,q,p,rfl⟩
  .grind
  .obtain rfl:j=0:=by grind
   exact .inr (.inr rfl)
end
section
open Go.Proofs Go.Extern
variable {X:Cx ag}
abbrev ZP:aP:=.b8 (dJ 0 126 (rT 57))
abbrev Na(v:ah):D:=.e (.one (.c (.val v)))
abbrev Px(t:aj)(g:Nat)(a:Int):D:=.e (.agg [.c (.val (hT t)),.c (.val (.pointer (aa ⟨g,0,ae⟩))),.c (.val (.int .u64 a))])
abbrev asB(p:Addr)(g a:Nat):List aP:=[.b8 (dJ a rB (.pointer (aa ⟨g,0,ae⟩))),.b8 (dJ g ly (.pointer ae))]
def QP:∀j,j<2->([0,1]:List Nat)[j]?=aa j:=by decide
def Mz(p:Addr)(g b:Nat):Ev X 75 [Na (.iface ly (.pointer (aa p))),Na (.iface rB (.pointer (aa ⟨g,0,ae⟩))),Px rB b 150,Na (rT ly)] (asB p g b) (dB ab) [.b8 (dJ b rB (.pointer (aa ⟨g,0,ae⟩))),.b8 (dJ g ly (.pointer (aa p)))]:=by
 refine Ev.bQ Tryz.func75 rfl λh=>?_;refine bt rfl ay ?_;refine AK.si 3 [0,1,3,6] (λ_:Unit=>True) (λ_=>[]) (λ_=>asB p g b++[.cells 123 [.c (.val (hT rB)),.c (.val (.pointer (aa ⟨b,0,ae⟩))),.c (.val (.int .u64 150))]]) (λ_=>0) () rfl ?_ rfl ?_ rfl ay λ_ _=>?_
 .simp
 .simp
 refine bt rfl ay ?_;refine AK.oF rfl rfl (dT.DX (gb.direct rfl rfl) Pu (Pv _) (Pw _) (x:=Na (rT ly)) λ_=>Rd.val rfl) λ_=>?_;refine bt rfl ay ?_;refine AK.oF rfl rfl (dT.DX (gb.invoke rfl rfl rfl (ZJ _)) ZK ZL ZM (x:=dB ab) λ_=>Rd.bool) λ_=>?_;refine aX [(19,ab)] rfl (by simp) ?_;refine AK.oF rfl rfl (dT.PW 0 (u:=.pointer (aa ⟨g,0,ae⟩)) rfl (gb.direct rfl rfl) Tw (λw d=>Tx b ⟨g,0,ae⟩ w d) (x:=Px ly g 406) λ_=>⟨_,rfl,Rd.val rfl,Rd.val rfl,Rd.val rfl,ay⟩) λ_=>?_;refine bt rfl ay ?_;refine AK.oF rfl rfl (dT.JG (E:=ly) (u:=.pointer (aa p)) (v:=λa=>vV ly a 150) (x:=λa=>Px ly a 150) (gb.direct rfl rfl) Dg (Fi p) (Fj p) λa _ _=>⟨_,rfl,Rd.val rfl,Rd.val rfl,Rd.val rfl,ay⟩) λa=>?_;refine bt rfl ay ?_;refine AK.oF rfl rfl (dT.Rr 1 3 (w0:=.pointer ae) (u:=.pointer (aa p)) rfl rfl (gb.direct rfl rfl) ZN (λw f e=>ZO g a ly _ p w f e) (x:=.eX []) λ_ _=>⟨[],rfl,ay⟩) λ_=>?_;refine bt rfl ay (AK.fE (cp.mk [0,1] rfl ?_ rfl rfl rfl QP));simp
def G0{P:aq}{o:au}{m:ak->D}{σ:List aP}{op:BinOp}{t ty T:aj}{v:ah}{x y:ak}(h:o.op=.binOp op t x y ty){c:Bool}{u:Array (String×aj)}(p:P.underlying t=aa (.interface u))(r:m x=.e (.one (.c (.val (.iface T v)))))(z:m y=.e (.one (.c .iw)))(a:∀w,(eqGuard op t x y (.iface T v) .nilIface).run P w=.ok () w)(g:∀w es,(eqGuard op t x y (.iface T v) .nilIface).events P w es=es)(l:ja op af=aa c):bF P o m σ (.e (.one (.c (.bool c)))) σ:=by
 refine .quiet λs q A n=>?_;have j:=n x;have i:=n y;rw[r]at j;rw[z]at i;replace j:=eT j;replace i:=eT i;generalize b:q x=vx at j;generalize d:q y=vy at i;cases j;cases i;have k:(Op.equal t (.iface T v) .nilIface).run P s.w=.ok af s.w:=by show(aY (9999+1) t _ _).run P s.w=_;unfold aY;simp[underlying,p]
 have f:∀es,(Op.equal t (.iface T v) .nilIface).events P s.w es=es:=λes=>by show(aY (9999+1) t _ _).events P s.w es=es;unfold aY;simp[underlying,p]
 cases op<;>simp only[ja,reduceCtorEq,dm]at l
 .subst l;exact⟨.bool af,by simp[aw,h,b,d,a,binOp,k],Rd.bool,by simp[aw,h,b,d,a,g,binOp,k,f]⟩
 .subst l;exact⟨.bool ab,by simp[aw,h,b,d,a,binOp,k],Rd.bool,by simp[aw,h,b,d,a,g,binOp,k,f]⟩
def MA(p:Addr)(g:Nat):Ev X 26 [Na (.iface ly (.pointer (aa p))),Na (.iface rB (.pointer (aa ⟨g,0,ae⟩)))] [ZP,.b8 (dJ g ly (.pointer ae))] (dB ab) [ZP,.b8 (dJ g ly (.pointer (aa p)))]:=by refine Ev.bQ Tryz.func26 rfl λf=>?_;refine bt rfl ay ?_;refine AK.law (G0 rfl Tryz.underlying57 rfl rfl (λ_=>rfl) (λ_ _=>rfl) rfl) rfl rfl ?_;refine aX [(9,af)] rfl (by simp) ?_;refine AK.law (G0 rfl Tryz.underlying20 rfl rfl (λ_=>rfl) (λ_ _=>rfl) rfl) rfl rfl ?_;refine aX [(11,af)] rfl (by simp) ?_;refine AK.oF rfl rfl (dT.JG (E:=rB) (u:=.pointer (aa ⟨g,0,ae⟩)) (v:=λb=>vV rB b 150) (x:=λb=>Px rB b 150) (gb.direct rfl rfl) Dg (Fg _) (Fh _) λb _ _=>⟨_,rfl,Rd.val rfl,Rd.val rfl,Rd.val rfl,ay⟩) λa=>?_;refine bt rfl ay ?_;refine AK.oF rfl rfl (dT.DX (gb.direct rfl rfl) Wz (WA a) (WB a) (x:=Na (rT rB)) λ_=>Rd.val rfl) λ_=>?_;refine bt rfl ay ?_;refine AK.oF rfl rfl (dT.DX (gb.invoke rfl rfl rfl (QM _)) QN Pq Pr (x:=.e (.one (.c (.int .u8 22)))) λ_=>Rd.int (by simp[bA])) λ_=>?_;refine aX [(20,af)] rfl (by simp) ?_;refine AK.oF rfl rfl (dT.PW 2 (u:=.pointer (aa ⟨g,0,ae⟩)) rfl (gb.direct rfl rfl) Tq (λw d=>Ts a ⟨g,0,ae⟩ w d) (x:=dB af) λ_=>Rd.bool) λ_=>?_;refine aX [(23,af)] rfl (by simp) ?_;refine AK.oF rfl rfl (dT.DX (gb.invoke rfl rfl rfl (WC _)) Tt Tu Tv (x:=Na (rT ly)) λ_=>Rd.val rfl) λ_=>?_;refine bt rfl ay ?_;refine AK.oF rfl rfl (dT.DX (gb.invoke rfl rfl rfl (QM _)) QN Ps Pt (x:=.e (.one (.c (.int .u8 22)))) λ_=>Rd.int (by simp[bA])) λ_=>?_;refine aX [(30,ab)] rfl (by simp) ?_;refine AK.one (OA.JU tok 0 rfl rfl rfl rfl rfl rfl) rfl ?_;refine AK.oF rfl rfl (dT.DX (gb.invoke rfl rfl rfl (WE _)) WG WH WI (x:=dB ab) λ_=>Rd.bool) λ_=>?_;refine aX [(35,af)] rfl (by simp) ?_;refine AK.cQ (Mz p g a) [2,1] rfl ?_;refine bt rfl ay (AK.db [0,1] rfl ?_ rfl rfl rfl QP);simp
end
end Go.AM.R1
namespace Go.AM
abbrev O5(a b:Bs)(c:Bool):D:=.eX [.one (.c (.str a)),.one (.c (.str b)),.one (.c (.bool c))]
namespace R1
variable {X:Cx ag}
def yg(s:Bs)(c:Int)(h:0<=c/\c<=255):Ev X 207 [dS s,dU c] [] (dI (Lib.indexByte s (UInt8.ofNat (Int.toNat c)))) []:=by
 have e:c=((UInt8.ofNat c.toNat).toNat:Int):=by grind[UInt8.toNat_ofNat']
 grind[AZ]
def S8:dr:=λargs σ=>match args,σ with
 |[.e (.one (.c (.str a))),.e (.one (.c (.int .u8 b)))],[]=>aa (dI (Lib.indexByte a (UInt8.ofNat (Int.toNat b))),[],[0<=b/\b<=255])
 |_,_=>ae
def t207:ee X 207 S8:=by
 intro args σ res σ' obs h a;unfold S8 at h;split at h
 .cases h;exact(yg _ _ (a)).args (λ_ _ r=>r)
 .cases h
def Wf:List (Nat×dr):=(207,S8)::ct7
def LQ:bE X Wf:=bE.cons t207 (Zx)
def iF(s:Bs):Int:=Lib.indexByte s 47
theorem LR(s:Bs):Ev X 173 [dS s,dS [47]] [] (dI (iF s)) []:=by
 refine Ev.bQ Tryz.func173 rfl λa=>?_;by_cases h:s=[47]
 .subst h;refine aW LQ [(18,af),(22,ab)] rfl ?_ (AK.bw rfl ?_)
  .simp
  .simp[iF,Lib.indexByte.eq_def]
 .refine aW LQ [(18,af),(22,af),(26,ab)] rfl ?_ (AK.bw rfl ?_)
  .simp[cM,cK];grind
  .simp[iF,iR]
def S9:dr:=λargs σ=>match args,σ with
 |[.e (.one (.c (.str a))),.e (.one (.c (.str [47])))],[]=>aa (dI (iF a),[],[])
 |_,_=>ae
def t173:ee X 173 S9:=by intro args σ res σ' obs h a;unfold S9 at h;grind[LR]
def Wh:List (Nat×dr):=(173,S9)::Wf
def LS:bE X Wh:=bE.cons t173 (LQ)
def js(s:Bs):Bs:=if 0<=iF s then s.take (iF s).toNat else s
def mM(s:Bs):Bs:=if 0<=iF s then s.drop ((iF s).toNat+1)else[]
def j3(s:Bs):Bool:=decide (0<=iF s)
theorem LU(s:Bs):Ev X 143 [dS s,dS [47]] [] (O5 (js s) (mM s) (j3 s)) []:=by
 refine Ev.bQ Tryz.func143 rfl λb=>?_;have d:=b.str 0 rfl;have a:=lN s 47;change iF s<s.length∨iF s=-1 at a;by_cases h:0<=iF s
 .have c:(iF s+1).toNat=(iF s).toNat+1:=by omega
  refine aW LS [(12,ab)] rfl ?_ (AK.bw rfl ?_)
  .simp[h,bA];omega
  .simp[js,mM,j3,h,r7,c]
 .refine aW LS [(12,af)] rfl ?_ (AK.bw rfl ?_)
  .simp;omega
  .simp[js,mM,j3,h]
def Ta:dr:=λargs σ=>match args,σ with
 |[.e (.one (.c (.str a))),.e (.one (.c (.str [47])))],[]=>aa (O5 (js a) (mM a) (j3 a),[],[])
 |_,_=>ae
def t143:ee X 143 Ta:=by intro args σ res σ' obs h a;unfold Ta at h;grind[LU]
def Wi:List (Nat×dr):=(143,Ta)::Wh
def QF:bE X Wi:=bE.cons t143 (LS)
theorem Tb(s:Bs):Ev X 111 [dS s,dS [47]] [] (O5 (js s) (mM s) (j3 s)) []:=by refine Ev.bQ Tryz.func111 rfl λa=>?_;exact cf QF rfl ay (AK.bw rfl)
def Tc:dr:=λargs σ=>match args,σ with
 |[.e (.one (.c (.str a))),.e (.one (.c (.str [47])))],[]=>aa (O5 (js a) (mM a) (j3 a),[],[])
 |_,_=>ae
def t111:ee X 111 Tc:=by intro args σ res σ' obs h a;unfold Tc at h;grind[Tb]
def cy(s:Bs):Bool:=decide (s.length=1)&&decide (97<=cK s 0)&&decide (cK s 0<=101)
theorem uT(s:Bs):Ev X 112 [dS s] [] (dB (cy s)) []:=by
 refine Ev.bQ Tryz.func112 rfl λc=>?_;by_cases b:s.length=1
 .by_cases a:97<=cK s 0
  .refine aX [(5,ab),(9,ab)] rfl ?_ (AK.bw rfl ?_)
   .simp only[az,ba];grind[cM]
   .show decide (cK s 0<=101)=cy s;simp[cy,b,a]
  .refine aX [(5,ab),(9,af)] rfl ?_ (AK.bw rfl ?_)
   .simp only[az,bO];grind[cM]
   .simp[cy,a]
 .refine aX [(5,af)] rfl ?_ (AK.bw rfl ?_)
  .simp;omega
  .simp[cy,b]
def Td:dr:=λargs σ=>match args,σ with
 |[.e (.one (.c (.str a)))],[]=>aa (dB (cy a),[],[])
 |_,_=>ae
def t112:ee X 112 Td:=by intro args σ res σ' obs h a;unfold Td at h;grind[uT]
def Wj:List (Nat×dr):=(111,Tc)::(112,Td)::Wi
def GP:bE X Wj:=bE.cons t111 (bE.cons t112 (QF))
def fa(s:Bs):Bool:=cy (js s)&&(!j3 s||cy (mM s))
theorem E8(s:Bs):Ev X 62 [dS s] [] (dB (fa s)) []:=by
 refine Ev.bQ Tryz.func62 rfl λc=>?_;cases a:cy (js s)with
 |false =>
  refine aW GP [(13,af)] rfl ?_ (AK.bw rfl ?_)
  .simp[a]
  .simp[fa,a]
 |true =>
  cases b:j3 s with
  |false =>
   refine aW GP [(13,ab),(15,af)] rfl ?_ (AK.bw rfl ?_)
   .simp[a,b]
   .simp[fa,a,b]
  |true =>
   refine aW GP [(13,ab),(15,ab)] rfl ?_ (AK.bw rfl ?_)
   .simp[a,b]
   .simp[fa,a,b]
def Zy:dr:=λargs σ=>match args,σ with
 |[.e (.one (.c (.str a)))],[]=>aa (dB (fa a),[],[])
 |_,_=>ae
def t62:ee X 62 Zy:=by intro args σ res σ' obs h a;unfold Zy at h;grind[E8]
theorem C4(s:Bs):Ev X 113 [dS s] [] (dB (b6 s)) []:=by
 refine Ev.bQ Tryz.func113 rfl λe=>?_;have g:=e.str 0 rfl;refine bt rfl ay ?_;refine AK.j1 (λi=>i<=s.length/\∀j,j<i->eP (s.getD j 0)=ab) (λi:Nat=>[(0,dS s),(5,dI s.length),(6,dI i)]) (λ_=>[]) (λi=>s.length-i) 0 rfl ?_ rfl ay ⟨by omega,by omega⟩ ?_
 .simp
 rintro i ⟨hi,c⟩;by_cases h:i<s.length
 .generalize a:s.getD i 0=b;by_cases k:b.toNat<97
  .refine aX [(7,ab),(12,ab)] rfl ?_ (AK.iC (cp.zero rfl ?_))
   .simp only[az,ky,ba,a];omega
   .rw[az,kG h (by rw[a];simp only[eP,pK,bO];omega)]
  .by_cases f:b.toNat>122
   .refine aX [(7,ab),(12,af),(17,ab)] rfl ?_ (AK.iC (cp.zero rfl ?_))
    .simp only[az,ky,ba,bO,a];omega
    .rw[az,kG h (by rw[a];simp only[eP,pK,bO];omega)]
   .refine aX [(7,ab),(12,af),(17,af)] rfl ?_ (AK.gd (i+1) rfl ?_ rfl ay ?_ ?_)
    .simp only[az,ky,ba,bO,a,bA];omega
    .simp
    .refine⟨by omega,λj d=>?_⟩;rcases zl.1 d with d|rfl
     .grind
     .rw[a];simp only[eP,bR,ba];omega
    .omega
 .refine aX [(7,af)] rfl (by simp;omega) (AK.leave rfl rfl ?_);refine bt rfl ay (AK.bw rfl ?_);rw[az,sO (λj d=>c j (by omega))]
def Te:dr:=λargs σ=>match args,σ with
 |[.e (.one (.c (.str a)))],[]=>aa (dB (b6 a),[],[])
 |_,_=>ae
def t113:ee X 113 Te:=by intro args σ res σ' obs h a;unfold Te at h;grind[C4]
def Wk:List (Nat×dr):=(62,Zy)::(113,Te)::Wj
def LV:bE X Wk:=bE.cons t62 (bE.cons t113 (GP))
theorem xg(s:Bs):Ev X 63 [dS s] [] (dB (ef s)) []:=by
 refine Ev.bQ Tryz.func63 rfl λb=>?_;by_cases a:s.length<=40
 .refine aW LV [(5,ab)] rfl ?_ (AK.bw rfl ?_)
  .simp;omega
  .simp[ef,a]
 .refine aW LV [(5,af)] rfl ?_ (AK.bw rfl ?_)
  .simp;omega
  .simp[ef,a]
def Zz:dr:=λargs σ=>match args,σ with
 |[.e (.one (.c (.str a)))],[]=>aa (dB (ef a),[],[])
 |_,_=>ae
def t63:ee X 63 Zz:=by intro args σ res σ' obs h a;unfold Zz at h;grind[xg]
def lp(s p:Bs):Bool:=decide (p.length<=s.length)&&(s.take p.length==p)
theorem C5(s p:Bs):Ev X 115 [dS s,dS p] [] (dB (lp s p)) []:=by
 refine Ev.bQ Tryz.func115 rfl λb=>?_;by_cases a:p.length<=s.length
 .refine aX [(9,ab)] rfl ?_ (AK.bw rfl ?_)
  .simp[a]
  .simp[lp,a,r7]
 .refine aX [(9,af)] rfl ?_ (AK.bw rfl ?_)
  .simp;omega
  .simp[lp,a]
def Tf:dr:=λargs σ=>match args,σ with
 |[.e (.one (.c (.str a))),.e (.one (.c (.str b)))],[]=>aa (dB (lp a b),[],[])
 |_,_=>ae
def t115:ee X 115 Tf:=by intro args σ res σ' obs h a;unfold Tf at h;grind[C5]
def Wl:List (Nat×dr):=(63,Zz)::(115,Tf)::Wk
def QG:bE X Wl:=bE.cons t63 (bE.cons t115 (LV))
theorem Iv(s p:Bs):Ev X 66 [dS s,dS p] [] (dB (lp s p)) []:=by refine Ev.bQ Tryz.func66 rfl λa=>?_;exact cf QG rfl ay (AK.bw rfl)
def ZA:dr:=λargs σ=>match args,σ with
 |[.e (.one (.c (.str a))),.e (.one (.c (.str b)))],[]=>aa (dB (lp a b),[],[])
 |_,_=>ae
def t66:ee X 66 ZA:=by intro args σ res σ' obs h a;unfold ZA at h;grind[Iv]
def Wm:List (Nat×dr):=(66,ZA)::Wl
def QH:bE X Wm:=bE.cons t66 (QG)
end R1
def mg.LW{α:Type}(c:mg α)(l:List α)(k n:Nat)(h:k+n<=l.length):c.list n (lZ k (c.fn l))=(l.drop k).take n:=by
 apply rI
 .simp[mg.list];omega
 .intro i h1 h2;have hi:i<n:=by grind
  simp[mg.list,lZ,mg.fn,AE,ar,br (by omega:k+i<l.length),c.inv]
def mg.LX{α:Type}(c:mg α)(l:List α){k n:Nat}:c.fits n (lZ k (c.fn l)):=λi _=>by simp[lZ,mg.fn,AE,c.inv]
abbrev dR(p x:Bs):D:=.e (.one (.c (.rp [.str p,.str x])))
namespace R1
variable {X:Cx ag}
def under(p q:Bs):Bool:=lp p (q++[47])
def LY(a:bz)(p x:Bs)(h:a.1.length<=4000000):Ev X 65 [dP a,dR p x] [] (dB (under p a.1)) []:=by
 refine Ev.bQ Tryz.func65 rfl λb=>?_;refine cf QH rfl ?_ (AK.bw rfl ?_)
 .simp;omega
 .simp[under]
def ZB:dr:=λargs σ=>match args,σ with
 |[.e (.agg [.c (.str a0),.c (.str a1)]),.e (.one (.c (.rp [.str p,.str x])))],[]=>aa (dB (under p a0),[],[a0.length<=4000000/\a1=a1/\x=x])
 |_,_=>ae
def t65:ee X 65 ZB:=by
 intro args σ res σ' obs h c;unfold ZB at h;split at h
 .rename_i b a p x;cases h;exact LY (b,a) p x c.1
 grind
def Wn:List (Nat×dr):=(65,ZB)::Wm
def y8:bE X Wn:=bE.cons t65 (QH)
abbrev LZ(p x:Bs):D:=.e (.one (.c (.fn (.func 65) [] [.rp [.str p,.str x]])))
def uU(t:List bz)(p:Bs):Int:=match t.findIdx? (λf=>under p f.1)with|some i=>i|none=>-1
def O6{t:List bz}{p:Bs}{i:Nat}(hi:i<t.length)(h:under p (fh t i)=ab)(a:∀j,j<i->under p (fh t j)=af):uU t p=i:=by
 have:t.findIdx? (λf=>under p f.1)=aa i:=by grind[List.findIdx?_eq_some_iff_getElem,fileAt]
 rw[uU,this]
theorem y9{t:List bz}{p:Bs}(a:∀j,j<t.length->under p (fh t j)=af):uU t p=-1:=by
 have:t.findIdx? (λf=>under p f.1)=ae:=by grind[List.getElem_of_mem,fileAt]
 rw[uU,this]
def O7(t:List bz)(p x:Bs)(d:∀j,j<t.length->(fh t j).length<=4000000):Ev X 114 [cF.sl t,LZ p x] [] (dI (uU t p)) []:=by
 refine Ev.bQ Tryz.func114 rfl λe=>?_;have c:=e.sl 0 rfl;refine cf y8 rfl ay ?_;refine AK.j1 (λi=>i<=t.length/\∀j,j<i->under p (fh t j)=af) (λi:Nat=>[(0,cF.sl t),(1,LZ p x),(7,dI t.length),(8,dI i)]) (λ_=>[]) (λi=>t.length-i) 0 rfl ?_ rfl ay ⟨by omega,by omega⟩ ?_
 .simp
 rintro i ⟨hi,a⟩;by_cases h:i<t.length
 .have f:=d i h;cases b:under p (fh t i)with
  |true =>
   refine aW y8 [(9,ab),(16,ab)] rfl ?_ (AK.iC (cp.zero rfl ?_))
   .simp[-ar,h,gI,b];omega
   .simp[O6 h b a]
  |false =>
   refine aW y8 [(9,ab),(16,af)] rfl ?_ (AK.gd (i+1) rfl ?_ rfl ay ?_ ?_)
   .simp[-ar,h,gI,b,bA];omega
   .simp
   .grind
   .omega
 .refine aW y8 [(9,af)] rfl (by simp;omega) (AK.leave rfl rfl ?_);refine cf y8 rfl ay (AK.bw rfl ?_);simp[y9 (λj g=>a j (by omega))]
def A0(t:List bz):Prop:=∀j,j<t.length->(fh t j).length<=4000000
def Tg:dr:=λargs σ=>match args,σ with
 |[d,.e (.one (.c (.fn (.func 65) [] [.rp [.str p,.str x]])))],[]=>match kX 2 d with
  |none=>ae
  |some (n,es)=>aa (dI (uU (cF.list n es) p),[],[cF.fits n es,A0 (cF.list n es),x=x])
 |_,_=>ae
def t114:ee X 114 Tg:=by
 intro args σ res σ' obs h a;unfold Tg at h;split at h
 .rename_i d p x;split at h
  .cases h
  rename_i n es hd;cases h;exact(O7 _ p x a.2.1).args (λ_ vs=>cg.imp (λ_=>cF.jS hd a.1) (cg.imp (λ_ r=>r) (λ_ r=>r)) vs)
 grind
def Wo:List (Nat×dr):=(114,Tg)::Wn
def QI:bE X Wo:=bE.cons t114 (y8)
def O8(t:List bz)(p x:Bs)(a:A0 t):Ev X 64 [cF.sl t,LZ p x] [] (dB (decide (0<=uU t p))) []:=by
 refine Ev.bQ Tryz.func64 rfl λb=>?_;refine cf QI rfl ?_ (AK.bw rfl ?_)
 .simp[cF.aU,cF.list_fn,a]
 .simp[cF.list_fn]
def ZC:dr:=λargs σ=>match args,σ with
 |[d,.e (.one (.c (.fn (.func 65) [] [.rp [.str p,.str x]])))],[]=>match kX 2 d with
  |none=>ae
  |some (n,es)=>aa (dB (decide (0<=uU (cF.list n es) p)),[],[cF.fits n es,A0 (cF.list n es),x=x])
 |_,_=>ae
def t64:ee X 64 ZC:=by
 intro args σ res σ' obs h a;unfold ZC at h;split at h
 .rename_i d p x;split at h
  .cases h
  rename_i n es hd;cases h;exact(O8 _ p x a.2.1).args (λ_ vs=>cg.imp (λ_=>cF.jS hd a.1) (cg.imp (λ_ r=>r) (λ_ r=>r)) vs)
 grind
def ZD:List (Nat×dr):=(64,ZC)::Wo
def qJ:bE X ZD:=bE.cons t64 (QI)
def je(t:List bz)(i:Nat):Bool :=
 fa (fh t i)&&ef (sY t i)&&(i==0||!(bk (fh t i) (fh t (i-1))||fh t i==fh t (i-1)))&&(bg i).all λj=>!under (fh t i) (fh t j)
def mN(t:List bz):Bool:=(bg t.length).all (je t)&&decide (t.length<=6)
def kH{t:List bz}{i:Nat}(hi:i<t.length)(h:je t i=af):mN t=af:=by
 cases a:mN t with
 |false=>rfl
 |true =>
  simp only[mN,bR]at a;grind
theorem uw{s:Bs}(h:fa s=ab):s.length<=3:=by
 simp only[fa,cy,bR,jB,ba,j7]at h;obtain⟨⟨⟨d,_⟩,_⟩,a⟩:=h;have c:=lN s 47;change iF s<s.length∨iF s=-1 at c;by_cases b:0<=iF s
 .simp only[js,b,cj,List.length_take]at d;rcases a with a|a
  .simp[j3,b]at a
  .have:=a.1.1;simp only[mM,b,cj,rG]at this;omega
 .simp only[js,b,b7]at d;omega
def E9{t:List bz}{p:Bs}{i:Nat}(hi:i<=t.length):decide (0<=uU (t.take i) p)=!(bg i).all λj=>!under p (fh t j):=by
 have e:∀j,j<i->fh (t.take i) j=fh t j:=by intro j d;simp[fh,ar,d]
 cases g:(bg i).all λj=>!under p (fh t j)with
 |true =>
  grind[y9]
 |false =>
  have b:∃j,j<i/\under p (fh t j)=ab:=by grind
  have:∃k:Nat,uU (t.take i) p=k:=by
   unfold uU;cases c:(t.take i).findIdx? (λf=>under p f.1)with
   |some k=>grind
   |none =>
    obtain⟨j,d,h⟩:=b;rw[List.findIdx?_eq_none_iff]at c;have a:j<(t.take i).length:=by grind
    have:=c _ (rH a);grind[fileAt]
  grind
def xh(t:List bz):Ev X 24 [cF.sl t] [] (dB (mN t)) []:=by
 refine Ev.bQ Tryz.func24 rfl λy=>?_;have u:=y.sl 0 rfl;refine cf qJ rfl ay ?_;refine AK.cz 0 (λi=>i<=t.length/\∀j,j<i->je t j=ab) (λi:Nat=>[(0,cF.sl t),(5,cF.sl t),(6,dI t.length),(7,dI i)]) (λ_=>[]) (λi=>t.length-i) 0 rfl ?_ rfl ay rfl ⟨by omega,by omega⟩ ?_
 .simp
 rintro i ⟨hi,g⟩;by_cases h:i<t.length
 .cases d:fa (fh t i)with
  |false =>
   refine bl qJ [(8,ab),(14,af)] rfl ?_ (AK.fE (cp.zero rfl ?_))
   .simp[-ar,h,gI,d]
   .simp[az,kH h (by simp[je,d])]
  |true =>
   cases f:ef (sY t i)with
   |false =>
    refine bl qJ [(8,ab),(14,ab),(19,af)] rfl ?_ (AK.fE (cp.zero rfl ?_))
    .simp[-ar,h,gI,pF,d,f]
    .simp[az,kH h (by simp[je,f])]
   |true =>
    have v:A0 (t.take i):=by
     intro j x;simp only[List.length_take]at x;have e:fh (t.take i) j=fh t j:=by simp[fh,ar,(by omega:j<i)]
     rw[e];have:=g j (by omega);simp only[je,bR]at this;grind[uw]
    have w:cF.list ((i:Int).toNat-0) (lZ 0 (cF.fn t))=t.take i:=by rw[cF.LW t 0 _ (by grind)];simp
    cases r:(i==0||!(bk (fh t i) (fh t (i-1))||fh t i==fh t (i-1)))with
    |false =>
     have a:je t i=af:=by simp only[je,r];simp
     have m:i≠0:=by grind
     have n:(bk (fh t i) (fh t (i-1))||fh t i==fh t (i-1))=ab:=by grind
     have b:bA .i64 ((i:Int)-1):=by simp only[bA];omega
     have o:((i:Int)-1).toNat=i-1:=by omega
     refine bl qJ [(8,ab),(14,ab),(19,ab),(24,ab),(34,ab)] rfl ?_ (AK.fE (cp.zero rfl ?_))
     .simp only[az,gI,pF,b9,o,n,d,f,ba,b];grind
     .simp[kH h a]
    |true =>
     have a:je t i=(bg i).all λj=>!under (fh t i) (fh t j):=by simp only[je,r,d,f];simp
     apply AK.join [(0,cF.sl t),(3,dI i),(5,cF.sl t),(6,dI t.length),(7,dI i),(4,.e (.one (.ptr 0 0)))] [.cells 76 [.c (.str (fh t i)),.c (.str (sY t i))]]
     .intro hk;by_cases m:i=0
      .refine bl qJ [(8,ab),(14,ab),(19,ab),(24,af),(1000006,ab)] rfl ?_ (hk _ _ rfl ?_)
       .simp only[az,gI,pF,b9,d,f,ba,bO];grind
       .simp
      .have n:(bk (fh t i) (fh t (i-1))||fh t i==fh t (i-1))=af:=by grind
       have b:bA .i64 ((i:Int)-1):=by simp only[bA];omega
       have o:((i:Int)-1).toNat=i-1:=by omega
       refine bl qJ [(8,ab),(14,ab),(19,ab),(24,ab),(34,af),(1000006,ab)] rfl ?_ (hk _ _ rfl ?_)
       .simp only[az,gI,pF,b9,o,n,d,f,ba,b];grind
       .simp
     .refine AK.freeze 4 0 rfl rfl rfl ?_;have q:=E9 (t:=t) (p:=fh t i) (i:=i) hi;have k:cF.fits ((i:Int).toNat-0) (lZ 0 (cF.fn t)):=cF.LX t;cases s:(bg i).all λj=>!under (fh t i) (fh t j)with
      |false =>
       rw[s]at q a;refine bl qJ [(41,ab)] rfl ?_ (AK.fE (cp.zero rfl ?_))
       .simp only[az,c9];grind
       .simp[kH h a]
      |true =>
       rw[s]at q a;refine bl qJ [(41,af)] rfl ?_ (AK.aQ (i+1) rfl ?_ ?_ ?_ ?_)
       .simp only[az,c9];have l:decide (0<=uU (cF.list ((i:Int).toNat-0) (lZ 0 (cF.fn t))) (fh t i))=af:=by grind
        exact⟨by simp only[bA];omega,k,by grind,ay,l,by omega,by omega⟩
       .simp
       .trivial
       .grind
       .omega
 .have:i=t.length:=by omega
  subst this;refine aW qJ [(8,af)] rfl (by simp) (AK.leaveD rfl rfl ?_);refine cf qJ rfl ay (AK.bw rfl ?_);simp only[az,mN];grind
def Wp:dr:=λargs σ=>match args,σ with
 |[c],[]=>match kX 2 c with
  |none=>ae
  |some (a,b)=>aa (dB (mN (cF.list a b)),[],[cF.fits a b])
 |_,_=>ae
def t24:ee X 24 Wp:=by
 intro args σ res σ' obs h b;unfold Wp at h;split at h
 .split at h
  .cases h
  rename_i c d a;cases h;exact(xh _ ).args (λ_ vs=>cg.imp (λ_=>cF.jS a b) (λ_ r=>r) vs)
 grind
end R1
def cg.bs{σ σ':List aP}{s:St}(h:∀(v:ah)(d:D),dj σ s v d->dj σ' s v d):∀{vs:List ah}{ds:List D},cg σ s vs ds->cg σ' s vs ds
 |[],[],_=>trivial
 |[],_::_,r=>r.elim
 |_::_,[],r=>r.elim
 |_::_,_::_,r=>⟨h _ _ r.1,cg.bs h r.2⟩
def Ev.more{P:aq}{X:Cx P}{f:aJ}{args CW:List D}{σ σ0 σ':List aP}{res:D}(h:Ev X f args σ res σ')(i:∀s vs,cg σ s vs CW->cg σ s vs args){ps:List Prop}(e:oP σ0 σ=aa ps)(g:az ps):Ev X f CW σ0 res σ' :=
 ⟨h.1,λs vs hr hh S cs hS=>by obtain⟨h1,h2,j⟩:=gT e g s hh;exact h.2 s vs (i s vs (hr.bs j)) h1 S cs λfr v s' a b c d=>hS fr v s' a b c ((h2.m9 hh).trans d)⟩
def OA.TX{P:aq}{X:Cx P}{N:Nat}{all:List au}{o:au}{φ:Fr}{σ σ':List aP}{x:D}(h:mD (ι:=Unit) X N all o φ σ (λ_=>x) (λ_=>σ')):OA X N all o φ σ x σ' :=
 λs a f hh b k cs S i rest hb hi hK=>h s a f hh b k cs S i rest hb hi λ_=>hK
namespace R1
variable {X:Cx ag}
abbrev Bj(l:List (Int×Int)):aP:=.vec 81 2 l.length (cH.fn l)
abbrev I2(l:List (Int×Int)):D:=.e (.one (.vec 0 2 l.length (cH.fn l)))
def lsS(L:List (Int×Int))(B M R:aP)(a b c _:Bool):List aP:=match c with
 |true=>[R]
 |false=>match b with
  |true=>[M]
  |false=>match a with
   |true=>[B]
   |false=>[Bj L]
def Bd:∀(t:Tr)(l:List (Int×Int)),l.length+t.list.length<=4000000->Ev X 38 [.e (.one (.c (tC t))),I2 l] [Bj l] (I2 (l++t.list)) [Bj (l++t.list)]
 |.nil,l,_=>by refine Ev.bQ Tryz.func38 rfl λj=>?_;refine bt rfl ay ?_;refine AK.law (tF rfl Tryz.underlying73 rfl rfl rfl) rfl rfl ?_;refine bt rfl ay ?_;rw[show l++Tr.nil.list=l from iO l];exact AK.db [0] rfl ⟨rfl,cv.same⟩ rfl rfl rfl jX
 |.nd lt x y rt,l,h=>by
  have f:(Tr.nd lt x y rt).list=lt.list++(x,y)::rt.list:=rfl;have n:l.length+lt.list.length+(rt.list.length+1)<=4000000:=by grind
  have o:=Bd lt l (by omega);have i2:=Bd rt (l++lt.list++[(x,y)]) (by grind);have d:=cH.cu (l++lt.list) (x,y);have i3:Ev X 38 [.e (.one (.c (tC rt))),.e (.one (.vec 0 2 ((l++lt.list).length+1) (cC (l++lt.list).length (cH.fn (l++lt.list)) λi=>([[.int .i64 x,.int .i64 y]]:List (List C)).getD i [])))] [.vec 81 2 ((l++lt.list).length+1) (cC (l++lt.list).length (cH.fn (l++lt.list)) λi=>([[.int .i64 x,.int .i64 y]]:List (List C)).getD i [])] (I2 (l++(Tr.nd lt x y rt).list)) [Bj (l++(Tr.nd lt x y rt).list)]:=by
   rw[f,show l++(lt.list++(x,y)::rt.list)=l++lt.list++[(x,y)]++rt.list by simp];refine i2.more (λs vs r=>?_) rfl (az.cat.2 ⟨⟨by grind,d⟩,ay⟩)
   match vs,r with
   |[_,_],⟨g,m,k⟩=>exact⟨g,oi rfl (show az [_,_]from⟨by grind,d⟩) m,k⟩
  have MX:((l++lt.list).length+1)*i81.bytes<=140737488355328:=by rw[show i81.bytes=16 from rfl,c7];omega
  clear i2 d n h;generalize l++(Tr.nd lt x y rt).list=R at *;generalize l++lt.list=B at *;have a:bE X []:=bE.nil;refine Ev.bQ Tryz.func38 rfl λj=>?_;refine bt rfl ay ?_;refine AK.law (Gi rfl Tryz.underlying73 rfl rfl rfl) rfl rfl ?_;refine aX [(1000003,ab)] rfl ay ?_;let xs:Nat->D:=λi=>([.e (.one (.c (tC (.nd lt x y rt)))),.e (.one (.c (tC (.nd lt x y rt)))),.e (.one (.c (.rp [tC rt]))),.e (.one (.c (tC rt))),.e (.one (.c (tC (.nd lt x y rt)))),.e (.one (.c (tC (.nd lt x y rt)))),.e (.one (.c (.rp [tC lt,tC rt]))),.e (.one (.c (tC lt))),I2 l,I2 B,.e (.one (.c (tC (.nd lt x y rt)))),.e (.one (.c (tC (.nd lt x y rt)))),.e (.one (.c (tC (.nd lt x y rt)))),Pk x y,.e (.one (.c (.sl ab 2 1 λi=>([[.int .i64 x,.int .i64 y]]:List (List C)).getD i []))),.e (.one (.vec 0 2 (B.length+1) (cC B.length (cH.fn B) λi=>([[.int .i64 x,.int .i64 y]]:List (List C)).getD i []))),I2 R,I2 R]:List D).getD i .any
  cases lt<;>cases rt<;>(
   refine AK.flags iZ xs (pj (lsS l (Bj B) (.vec 81 2 (B.length+1) (cC B.length (cH.fn B) λi=>([[.int .i64 x,.int .i64 y]]:List (List C)).getD i [])) (Bj R)) 9 15 16 17) rfl rfl rfl rfl ⟨
   .qy tok a,
   .qy tok a,
   .qy tok a,
   .qy tok a,
   .qy tok a,
   .qy tok a,
   .qy tok a,
   .qy tok a,
   .qy tok a,
   dW.c1 rfl rfl rfl rfl rfl rfl (OA.TX (mD.jK o.tc [0] rfl rfl rfl rfl (by simp) rfl rfl rfl (λ_=>rfl) rfl (λ_=>rfl))),
   .qy tok a,
   .qy tok a,
   .qy tok a,
   .qy tok a,
   .qy tok a,
   dW.c2 rfl rfl rfl rfl rfl rfl (gB (ds:=[]) tok a (σ':=aa _) rfl ⟨rfl,rfl,MX⟩),
   dW.c3 rfl rfl rfl rfl rfl rfl (OA.TX (mD.jK i3.tc [0] rfl rfl rfl rfl (by simp) rfl rfl rfl (λ_=>rfl) rfl (λ_=>rfl))),
   dW.c4 rfl rfl rfl rfl rfl rfl (OA.cT tok a rfl),ay⟩ ?_
   intro D b;show AK X _ _ _ _ _ (lsS l (Bj B) _ (Bj R) (D 9) (D 15) (D 16) (D 17));rw[b 9 (by decide),b 15 (by decide),b 16 (by decide),b 17 (by decide)]
   exact AK.db [0] rfl ⟨rfl,cv.same⟩ rfl rfl rfl jX)
abbrev WJ:D:=.e (.one (.c (.sl ab 2 0 λ_=>[])))
def lsN(B M R:aP)(a b c _:Bool):List aP:=match c with
 |true=>[R]
 |false=>match b with
  |true=>[M]
  |false=>match a with
   |true=>[B]
   |false=>[]
def Dh:∀(t:Tr),t.list.length<=4000000->Ev X 38 [.e (.one (.c (tC t))),WJ] [] (I2 t.list) [Bj t.list]
 |.nil,_=>by refine Ev.bQ Tryz.func38 rfl λj=>?_;refine bt rfl ay ?_;refine AK.law (tF rfl Tryz.underlying73 rfl rfl rfl) rfl rfl ?_;refine bt rfl ay ?_;refine AK.iB 4 81 2 rfl rfl ?_;refine AK.norm [Bj []] rfl (by simp) ?_;exact AK.db [0] rfl (by simp;rfl) rfl rfl rfl (Mk _)
 |.nd lt x y rt,h=>by
  have f:(Tr.nd lt x y rt).list=lt.list++(x,y)::rt.list:=rfl;have m:lt.list.length+(rt.list.length+1)<=4000000:=by grind
  have n:=Dh lt (by omega);have i2:=Bd (X:=X) rt (lt.list++[(x,y)]) (by grind);have d:=cH.cu lt.list (x,y);have i3:Ev X 38 [.e (.one (.c (tC rt))),.e (.one (.vec 0 2 (lt.list.length+1) (cC lt.list.length (cH.fn lt.list) λi=>([[.int .i64 x,.int .i64 y]]:List (List C)).getD i [])))] [.vec 81 2 (lt.list.length+1) (cC lt.list.length (cH.fn lt.list) λi=>([[.int .i64 x,.int .i64 y]]:List (List C)).getD i [])] (I2 (Tr.nd lt x y rt).list) [Bj (Tr.nd lt x y rt).list]:=by
   rw[f,show lt.list++(x,y)::rt.list=lt.list++[(x,y)]++rt.list by simp];refine i2.more (λs vs r=>?_) rfl (az.cat.2 ⟨⟨by simp,d⟩,ay⟩)
   match vs,r with
   |[_,_],⟨g,l,k⟩=>exact⟨g,oi rfl (show az [_,_]from⟨by simp,d⟩) l,k⟩
  have MX:(lt.list.length+1)*i81.bytes<=140737488355328:=by rw[show i81.bytes=16 from rfl];omega
  clear i2 d m h;clear f;generalize(Tr.nd lt x y rt).list=R at *;generalize lt.list=B at *;have a:bE X []:=bE.nil;refine Ev.bQ Tryz.func38 rfl λj=>?_;refine bt rfl ay ?_;refine AK.law (Gi rfl Tryz.underlying73 rfl rfl rfl) rfl rfl ?_;refine aX [(1000003,ab)] rfl ay ?_;let xs:Nat->D:=λi=>([.e (.one (.c (tC (.nd lt x y rt)))),.e (.one (.c (tC (.nd lt x y rt)))),.e (.one (.c (.rp [tC rt]))),.e (.one (.c (tC rt))),.e (.one (.c (tC (.nd lt x y rt)))),.e (.one (.c (tC (.nd lt x y rt)))),.e (.one (.c (.rp [tC lt,tC rt]))),.e (.one (.c (tC lt))),WJ,I2 B,.e (.one (.c (tC (.nd lt x y rt)))),.e (.one (.c (tC (.nd lt x y rt)))),.e (.one (.c (tC (.nd lt x y rt)))),Pk x y,.e (.one (.c (.sl ab 2 1 λi=>([[.int .i64 x,.int .i64 y]]:List (List C)).getD i []))),.e (.one (.vec 0 2 (B.length+1) (cC B.length (cH.fn B) λi=>([[.int .i64 x,.int .i64 y]]:List (List C)).getD i []))),I2 R,I2 R]:List D).getD i .any
  cases lt<;>cases rt<;>(
   refine AK.flags iZ xs (pj (lsN (Bj B) (.vec 81 2 (B.length+1) (cC B.length (cH.fn B) λi=>([[.int .i64 x,.int .i64 y]]:List (List C)).getD i [])) (Bj R)) 9 15 16 17) rfl rfl rfl rfl ⟨
   .qy tok a,
   .qy tok a,
   .qy tok a,
   .qy tok a,
   .qy tok a,
   .qy tok a,
   .qy tok a,
   .qy tok a,
   .qy tok a,
   dW.c1 rfl rfl rfl rfl rfl rfl (OA.TX (mD.jK n.tc [] rfl rfl rfl rfl (by simp) rfl rfl rfl (λ_=>rfl) rfl (λ_=>rfl))),
   .qy tok a,
   .qy tok a,
   .qy tok a,
   .qy tok a,
   .qy tok a,
   dW.c2 rfl rfl rfl rfl rfl rfl (gB (ds:=[]) tok a (σ':=aa _) rfl ⟨rfl,rfl,MX⟩),
   dW.c3 rfl rfl rfl rfl rfl rfl (OA.TX (mD.jK i3.tc [0] rfl rfl rfl rfl (by simp) rfl rfl rfl (λ_=>rfl) rfl (λ_=>rfl))),
   dW.c4 rfl rfl rfl rfl rfl rfl (OA.cT tok a rfl),ay⟩ ?_
   intro D b;show AK X _ _ _ _ _ (lsN (Bj B) _ (Bj R) (D 9) (D 15) (D 16) (D 17));rw[b 9 (by decide),b 15 (by decide),b 16 (by decide),b 17 (by decide)]
   exact AK.db [0] rfl ⟨rfl,cv.same⟩ rfl rfl rfl (Mk _))
end R1
section
open Go.Conc
def aF.Vy{σ:List aP}{s:St}(hh:aF σ s){l:Nat}{B:aP}{L:Loc}(hB:σ[l]?=aa B)(k:s.β[l]?=aa L)(hk:(∃E cs,B=.cells E cs)∨∃H,B=.b8 H):
  aF (σ.set l .dead) {s with β:=s.β.set l ⟨L.v,[]⟩}/\Step σ s (σ.set l .dead) {s with β:=s.β.set l ⟨L.v,[]⟩}:=by
 have g:l<σ.length:=(bY.1 hB).1;have i:l<s.β.length:=(bY.1 k).1;have d:∀l',(s.β.set l ⟨L.v,[]⟩)[l']?=if l=l' then aa ⟨L.v,[]⟩else s.β[l']?:=by grind
 have a:∀L'∈s.β.set l ⟨L.v,[]⟩,∀b∈L'.bs,L'∈s.β:=by grind
 have st:Step σ s (σ.set l .dead) {s with β:=s.β.set l ⟨L.v,[]⟩}:=by
  refine⟨bh _,λ_ _ _=>rfl,λ_ _ _ h=>h,λ_ _ _ _=>rfl,λL' ff b c=>.inr ⟨L',a L' ff b c,c⟩,?_,rfl,rfl,rfl,rfl⟩;intro l' B' L' j0 ff;by_cases e:l=l'
  .subst e;rw[hB]at j0;cases j0;rw[k]at ff;cases ff;refine⟨.dead,⟨L.v,[]⟩,by grind,by grind,?_⟩;rcases hk with⟨E,cs,rfl⟩|⟨H,rfl⟩<;>rfl
  .exact⟨B',L',by grind,by grind,.refl _ _⟩
 refine⟨⟨hh.mem,by simp[hh.len],?_,?_,λL' ff b c=>hh.lt L' (a L' ff b c) b c,λb c=>⟨(hh.own b c).1,λL' ff Dt=>(hh.own b c).2 L' (a L' ff b Dt) Dt⟩⟩,st⟩
 .intro l' B' L' j0 ff;by_cases e:l=l'
  .subst e;rw[fU g]at j0;cases j0;trivial
  .rw[j6 e]at j0;rw[d,aZ e]at ff;exact(hh.box l' B' L' j0 ff).carry st.ext hh.len λb c=>⟨rfl,λo=>rfl⟩
 .intro m n L1 L2 h1 h2 b f j;rw[d]at h1 h2;split at h1
  .grind
  .split at h2
   .grind
   .exact hh.eB m n L1 L2 h1 h2 b f j
def dj.closed{σ σ':List aP}{s s':St}(a:s'.M=s.M){v:ah}{d:D}(h:dj σ s v d)(c:vP 0 d=ab):dj σ' s' v d:=by have h1:=dj.drop (σ1:=[]) (rest:=σ) h c;refine dj.mono (σ:=[]) (s:=s.cut 0) ⟨λb o v e=>by rw[a];exact e,λl B L hB _=>by grind⟩ (by simp[St.cut]) h1
end
end Go.AM
namespace Go.AM.R1
section
variable {X:Cx ag}
def gU(t:Bs):List Bs:=if ef t then pieces t else[]
def Qj(t:Bs)(f:Nat)(acc:List Bs):Prop:=∃k,fp t t.length 0=acc++fp t k f/\t.length<=f+k/\acc.length<=f
def Gj:ee X 63 (kq aS (λs=>dB (ef s)) λ_=>[]):=.px λs _=>xg s
def KL:dr:=λargs σ=>match args,σ with
 |[.e (.one (.c (.str t)))],[]=>aa (.e (.one (.c (Qi t))),[],[])
 |_,_=>ae
def Se:ee X 80 KL:=by intro args σ res σ' obs h a;unfold KL at h;grind[Oq]
def HK(t:Bs):Ev X 33 [dS t] [] (cS.sl (gU t)) []:=by
 refine(eb.D6 (ι:=Unit) (σ':=λ_=>[]) (res:=λ_=>cS.sl (gU t)) Tryz.func33 rfl rfl rfl λq=>?_).DL;have l:bE X [(63,kq aS (λs=>dB (ef s)) λ_=>[])]:=.cons Gj .nil;refine kT.seq (AW.top (AK.of_code ?_));refine cf l rfl ay ?_;refine kT.seq (AW.top (AK.of_code ?_));cases g:ef t with
 |false =>
  refine aW l [(8,ab)] rfl ?_ (AK.ret ⟨(),cp.zero rfl ?_⟩)
  .simp[g]
  .simp[gU,g]
 |true =>
  have b:=g;simp only[ef,bR,ba]at b;refine aW l [(8,af)] rfl ?_ ?_
  .simp[g]
  refine kT.seq (AW.top (AK.of_code ?_));refine cf l rfl ay ?_;refine kT.seq (kT.seq (AW.top (AK.of_code (AK.g7 1 0 9 1 (cS.fn []) rfl rfl ?_))));refine cf (.cons Se .nil) rfl ay ?_;refine kT.block ?_;refine kT.rangeFunc (capD:=fJ [.rp [.str t]]) (cm.callee rfl) (HJ (T:=List Bs) t b.2 (by omega) (λ_=>.cells 9 [.c (.str t)]) (λacc=>.cells 43 [.vec 2 1 acc.length (cS.fn acc)]) (λacc=>.vec 9 1 acc.length (cS.fn acc)) (Qj t) [] ?_ (λt=>⟨by simp,by simp,by simp⟩) ?_) (λi=>⟨rfl,by simp⟩) λi=>⟨.normal,rfl,?_⟩
  .exact⟨t.length,by simp,by omega,by simp⟩
  .rintro f acc hf hR;have d:=nC t f hf;refine Yields.intro (j:=ae) rfl rfl rfl rfl (AK.of_code ?_);refine bt rfl ay ?_;refine⟨rfl,rfl,AK.of_code ?_⟩;refine bt rfl ?_ ?_
   .obtain⟨k,_,_,p⟩:=hR;have r:=d.1;have q2:=d.2.1;refine⟨rfl,rfl,?_,Int.natCast_nonneg _,Int.ofNat_le.2 (Nat.le_of_lt r),Int.ofNat_le.2 q2⟩;show(acc.length+1)*16<=_;omega
   have n:Qj t (cutAt t f) (acc++[(t.drop f).take (cutAt t f-f)]):=by
    obtain⟨k,m,u,p⟩:=hR;obtain⟨k',rfl⟩:∃k',k=k'+1:=⟨k-1,by omega⟩
    refine⟨k',?_,by omega,by grind⟩;rw[m];simp only[fp];grind
   refine⟨rfl,rfl,⟨_,n⟩,gT rfl ?_⟩;have e:r7 t (aa (f:Int)) (aa (cutAt t f:Int))=(t.drop f).take (cutAt t f-f):=by simp[r7,List.drop_take]
   have o:cv (acc.length+1) (cC acc.length (cS.fn acc) λi=>[[C.str (r7 t (aa (f:Int)) (aa (cutAt t f:Int)))]].getD i []) (cS.fn (acc++[(t.drop f).take (cutAt t f-f)])):=by rw[e];exact mg.cu cS acc _
   have a:acc.length+1=(acc++[(t.drop f).take (cutAt t f-f)]).length:=by simp
   refine az.cat.2 ⟨by simp,az.cat.2 ⟨az.cat.2 ⟨⟨a,o⟩,ay⟩,az.cat.2 ⟨⟨a,o⟩,az.cat.2 ⟨rfl,ay⟩⟩⟩⟩
  .obtain⟨acc,k,m,u,p⟩:=i;have h:fp t k t.length=[]:=by cases k<;>simp[fp]
   rw[h,iO]at m;have e:gU t=acc:=by simp only[gU,g,cj,pieces,m]
   rw[e];show kT X _ _ _ _ _;refine AW.top (AK.of_code ?_);refine bt rfl ay ?_;refine AK.ret ⟨(),cp.zero rfl ?_⟩;exact⟨rfl,cv.same⟩
def Au:ee X 33 (kq aS (λs=>cS.sl (gU s)) λ_=>[]):=.px λs _=>HK s
def Vp:ee X 171 (oQ (aL cS) aS (λl _=>dS l.flatten) λl s=>[s=[],l.flatten.length<=140737488355328]):=.sv λl s h=>by obtain⟨rfl,h⟩:=h;exact Oi l h
def Ot:dr:=oQ (aL cS) (aL cS) (λa b=>dB (a==b)) λ_ _=>[]
def YU:ee X 172 Ot:=.sv λa b _=>R6 a b
def EB(l:List Bs)(h:l.flatten.length<=140737488355328):Ev X 141 [cS.sl l] [] (Aq (gu l)) []:=by
 refine Ev.bQ Tryz.func141 rfl λd=>?_;have c:bE X [(171,oQ (aL cS) aS (λl _=>dS l.flatten) λl s=>[s=[],l.flatten.length<=140737488355328]),(63,kq aS (λs=>dB (ef s)) λ_=>[]),(172,Ot),(33,kq aS (λs=>cS.sl (gU s)) λ_=>[])]:=.cons Vp (.cons Gj (.cons YU (.cons Au .nil)));have el:cS.list l.length (cS.fn l)=l:=cS.list_fn l;cases a:ef l.flatten with
 |false =>
  refine aW c [(8,af),(9,ab),(16,ab)] rfl ?_ (AK.bw rfl ?_)
  .simp only[az,el,a,cS.aU,eq_self,aG,aE];grind
  .simp[gu,a]
 |true =>
  cases b:(pieces l.flatten==l)with
  |false =>
   refine aW c [(8,ab),(9,af),(14,af),(16,ab)] rfl ?_ (AK.bw rfl ?_)
   .simp only[az,el,cS.list_fn,a,cS.aU];simp[h,gU,a,b,-List.length_flatten]
   .simp[gu,b]
  |true =>
   refine aW c [(8,ab),(9,af),(14,ab),(16,af)] rfl ?_ (AK.bw rfl ?_)
   .simp only[az,el,cS.list_fn,a,cS.aU];simp[h,gU,a,b,-List.length_flatten]
   .simp[gu,a,b,el]
def G3{l:List (Int×Int)}{i:Nat}(h:i<l.length):l.getD i (0,0)∈l:=by grind
def oB(l:List (Int×Int)):Tr:=l.foldl (λt x=>t.put x.1 x.2) .nil
theorem IE(l:List (Int×Int))(x:Int×Int):oB (l++[x])=(oB l).put x.1 x.2:=by unfold oB;grind
def sV{l:List (Int×Int)}{j:Nat}(h:j<l.length):oB (l.take (j+1))=(oB (l.take j)).put (l.getD j (0,0)).1 (l.getD j (0,0)).2:=by grind[List.take_add_one,IE]
abbrev QK(l:List (Int×Int)):D:=.e (.one (.c (.sl af 1 1 λi=>([[.sl af 2 l.length (cH.fn l)]]:List (List C)).getD i [])))
abbrev ZR(x:Int×Int):aP:=.cells 81 [.c (.int .i64 x.1),.c (.int .i64 x.2)]
def frJ(l:List (Int×Int)):Nat->Fr
 |0=>[(3,.e (.one (.c .hY))),(8,QK l),(9,dI 1),(10,dI 0),(14,cH.sl l),(15,dI l.length),(16,dI 0)]
 |j+1=>[(3,.e (.one (.ref 1))),(8,QK l),(9,dI 1),(10,dI 0),(14,cH.sl l),(15,dI l.length),(16,dI (j+1:Nat))]
def stJ(l:List (Int×Int)):Nat->List aP
 |0=>[]
 |j+1=>[ZR (l.getD 0 (0,0)),.b8 (nb I1 (oB (l.take (j+1))))]
def ZS(l:List (Int×Int)):Nat->Fr
 |0=>[(3,.e (.one (.c .hY))),(8,QK l),(9,dI 1),(10,dI 0)]
 |j+1=>match l with
  |[]=>[(3,.e (.one (.c .hY))),(8,QK l),(9,dI 1),(10,dI (j+1:Nat))]
  |_::_=>[(3,.e (.one (.ref 1))),(8,QK l),(9,dI 1),(10,dI (j+1:Nat))]
def ZT(l:List (Int×Int)):Nat->List aP
 |0=>[]
 |_+1=>match l with
  |[]=>[]
  |x::r=>[ZR x,.b8 (nb I1 (oB (x::r)))]
def ze(l:List (Int×Int))(q:l.length<=4000000)(o:∀x∈l,bA .i64 x.1/\bA .i64 x.2):Ev X 32 [QK l] [] (.e (.one (.c (tC (oB l))))) []:=by
 refine Ev.bQ Tryz.func32 rfl λs=>?_;refine bt rfl ay ?_;refine AK.P9 0 (λx=>x<=1) (ZS l) (ZT l) (λx=>1-x) 0 rfl (by simp) rfl ay rfl (by omega) ?_;intro x g;rcases x with _|x
 .refine aX [(11,ab)] rfl ?_ ?_
  .simp only[az,aG,aE];and_intros<;>first|rfl|omega
  refine AK.P9 0 (λj=>j<=l.length) (frJ l) (stJ l) (λj=>l.length-j) 0 rfl (by simp) rfl ay rfl (by omega) ?_;intro j t;rcases j with _|j
  .by_cases h:0<l.length
   .have g:=o _ (G3 h);have e:=sV h;have c1:bE X [(79,yI [.e (.one (.c .hY)),Pk (l.getD 0 (0,0)).1 (l.getD 0 (0,0)).2] [] (.e (.one (.ref 0))) [.b8 (nb I1 (.nd .nil (l.getD 0 (0,0)).1 (l.getD 0 (0,0)).2 .nil))])]:=.cons (Cl (A5 _ _ g.1 g.2 .nil)) .nil;refine bl c1 [(17,ab)] rfl ?_ (AK.Ab 2 1 (by omega) rfl ?_ rfl rfl rfl ?_ rfl h (by grind))
    .simp only[az,bA,ba,aG,aE];and_intros<;>first|rfl|omega
    .simp
    .simp only[az.cat,az,aG,aE];rw[e];and_intros<;>rfl
   .obtain rfl:l=[]:=jf (by omega);refine bJ [(17,af)] rfl (by simp) (AK.Ac rfl rfl ?_);refine dc rfl (by simp[bA]) (AK.Ab 0 1 (by omega) rfl ?_ rfl rfl rfl ay rfl (by omega) (by decide));simp
  .obtain⟨i,m,n,k,e⟩:∃a b c d,oB (l.take (j+1))=.nd a b c d:=by rw[sV (by omega)];exact A4 _ _ _
   show AK X _ _ _ _ (frJ l (j+1)) [ZR (l.getD 0 (0,0)),.b8 (nb I1 (oB (l.take (j+1))))];by_cases h:j+1<l.length
   .have g:=o _ (G3 h);have p:=sV h;rw[e]at p⊢;have c1:bE X [(79,yI [.e (.one (.ref 0)),Pk (l.getD (j+1) (0,0)).1 (l.getD (j+1) (0,0)).2] [.b8 (nb I1 (.nd i m n k))] (.e (.one (.ref 0))) [.b8 (nb I1 ((Tr.nd i m n k).put (l.getD (j+1) (0,0)).1 (l.getD (j+1) (0,0)).2))])]:=.cons (Cl (A5 _ _ g.1 g.2 (.nd i m n k))) .nil;refine bl c1 [(17,ab)] rfl ?_ (AK.Ab 2 (j+2) (by omega) rfl ?_ rfl rfl rfl ?_ rfl h (by grind))
    .simp only[az,bA,ba,aG,aE];and_intros<;>first|rfl|omega
    .simp only[az.cat,az,aG,aE];and_intros<;>first|exact cv.same|rfl|omega
    .simp only[az.cat,az,aG,aE];rw[p]
   .have f:j+1=l.length:=by omega
    rw[f,dh]at e
    match l,f,e with
    |x::r,f,e =>
     rw[f,dh,e];refine bJ [(17,af)] rfl (by simp[f]) (AK.Ac rfl rfl ?_);refine dc rfl (by simp[bA]) (AK.Ab 2 1 (by omega) rfl ?_ rfl rfl rfl ?_ rfl (by omega) (by decide))
     .simp
     .simp only[az.cat,az,aG,aE];grind
 .cases l with
  |nil =>
   refine bJ [(11,af)] rfl (by simp only[az,bO,aE];omega) (AK.Ac rfl rfl ?_);exact dc rfl ay (AK.bw rfl (by simp;rfl))
  |cons y r =>
   refine bJ [(11,af)] rfl (by simp only[az,bO,aE];omega) (AK.Ac rfl rfl ?_);refine dc rfl ay ?_;refine AK.Aj 2 1 rfl rfl ?_;obtain⟨i,m,n,k,e⟩:∃a b c d,oB (y::r)=.nd a b c d:=by have:=sV (l:=y::r) (j:=r.length) (by simp);rw[List.take_of_length_le (by simp)]at this;rw[this];exact A4 _ _ _
   rw[e];exact AK.bw rfl
end
section
open Go.Proofs Go.Conc Go.Conc.Lib
open Go.ConcN (WgLive PayAt Has RW AtR0)
open Go.ConcR (KK WgAt stA smA rd wr mk Payload DC0)
noncomputable def Vz:Code:=xj (kY (kY (kY ED)))
noncomputable def cR3:Code:=xj Vz
noncomputable def YY:Code:=kY (kY (kY ED))
def Sm:YY=.seq (.seq cR3 (.block 0 (.loop iD))) nD:=by kernel_rfl
section
variable {σ0:List aP}{s0:St}{φ:Fr}{σ:List aP}{a:Act}{s:St}{S:av->St->Prop}
def At.goes{Wg:Nat}{j:av}:∀(m:Nat)(g:av)(s:St),At σ0 s0 φ σ a s->WgLive 238 Wg s.w->Goes ag ab (fy 238 Wg) DC0 (λg _=>g=j) m g s.w ->
  (∀b,At σ0 s0 φ σ a b->fA (Cx.beside ag) S j b)->fA (Cx.beside ag) S g s
 |0,g,s,h,_,e,K=>by obtain rfl:g=j:=e s.w (.refl _);grind
 |m+1,g,s,h,hl,e,K=>by
  rcases e with e|⟨l,e⟩
  .obtain rfl:g=j:=e s.w (.refl _);grind
  .refine .next l λb c=>?_;have h1:=h.rely c.1;obtain⟨d,n⟩:=c.2;have i:WgLive 238 Wg b.w:=by rw[n];exact hl
   have h2:=e b.w (λ_=>i);cases f:aH ag ab g b.w with
   |go g' w' es =>
    rw[f,goes_go]at h2;obtain⟨⟨rfl,rfl⟩,o⟩:=h2;exact⟨g',b,#[],f,.quiet h1.hh,At.goes m g' b h1 i o K⟩
   |_=>rw[f]at h2;exact h2.elim
def lI{σ:List aP}{s:St}(b:∀B∈σ,B=.dead){ds:List Deferred}{ls:List Nat}(h:oM σ s ds ls):ds=[]:=by
 cases ds with
 |nil=>rfl
 |cons d ds =>
  cases ls with
  |nil=>exact h.elim
  |cons l ls =>
   have:=b _ (bH h.1.1);cases this
end
section
variable {k:Int}{ps:List bG}{ns:List Int}{C:Nat}{xs:List ah}
variable (k ps ns C)in
def Oy:Fr:=[(2,cI.sl ns),(3,.e (.one (.ptr 0 0))),(4,.e (.one (.ptr 1 0))),(8,.e (.one (.ptr 3 0))),(9,.e (.one (.ptr 4 0)))]
variable (k ps ns C xs)in
def Ay:List aP:=[.cells 3 [.c (.int .i64 k)],.cells 23 [.c (.sl af 2 ps.length (cP.fn ps))],.b8 (fQ 241 2 (.row C ns.length) ns.length xs),.cells 230 [.c (.val (.slice (aa ⟨C,0,ae⟩) ns.length ns.length))],.cells 238 [.c (.int .u64 0),.c (.int .u32 0)]]
variable (k ps ns)in
def Nr(x i:Nat):ah:=if i=0 then .string ⟨((dK k ps (ns.getD x 0)).getD []).toArray⟩else .bool (dK k ps (ns.getD x 0)).isSome
variable (k ps ns)in
def l8:List ah:=ns.flatMap λn=>[.string ⟨((dK k ps n).getD []).toArray⟩,.bool (dK k ps n).isSome]
variable (k ps ns C)in
def EF:List aP:=[.dead,.dead,.b8 (fQ 241 2 (.row C ns.length) ns.length (l8 k ps ns)),.dead,.dead]
def pR3{X:Cx ag}:AW X 45 cR3 (NQ ((18,cI.sl ns)::(19,dI ns.length)::(20,dI 0)::Oy ns) (Ay k ps ns C xs)) (Oy ns) (Ay k ps ns C xs):=by refine AK.of_code ?_;refine bt rfl ay ⟨rfl,cA rfl ?_,rfl⟩;simp
theorem Cr:(l8 k ps ns).length=ns.length*2:=by
 unfold l8;induction ns with
 |nil=>rfl
 |cons n r b=>grind
def Az:∀{ns:List Int}{x i:Nat},x<ns.length->i<2->(l8 k ps ns)[2*x+i]?=aa (Nr k ps ns x i)
 |[],x,i,h,_=>by grind
 |n::r,0,i,_,hi=>by
  match i,hi with
  |0,_=>rfl
  |1,_=>rfl
 |n::r,x+1,i,h,hi=>by have:=Az (ns:=r) (x:=x) (i:=i) (by grind) hi;unfold l8 at this⊢;rw[u6,gw (by grind)];rw[show 2*(x+1)+i - [Value.string ⟨((dK k ps n).getD []).toArray⟩,Value.bool (dK k ps n).isSome].length=2*x+i by grind];rw[this];simp[Nr]
def _root_.Go.AM.cm.seen{N b:Nat}{d:D}{σ:List aP}{s:St}{φ:Fr}{a:Act}(f:cm N σ s φ a)(h:dj σ s (a.tmps.getD b ai) d):cm N σ s ((b,d)::φ) a:=by
 refine⟨f.size,f.defers,λt=>?_⟩;simp only[look];cases c:aB b t with
 |false=>exact f.slot t
 |true=>grind[Nat.eq_of_beq_eq_true]
abbrev KT(n C:Nat):Fr:=[(8,.e (.one (.c (.rp [.val (.slice (aa ⟨C,0,ae⟩) n n)]))))]
variable (k ps ns C)in
abbrev VA:Fr:=(8,.e (.one (.c (.rp [.val (.slice (aa ⟨C,0,ae⟩) ns.length ns.length)]))))::(4,.e (.one (.c (.rp [.sl af 2 ps.length (cP.fn ps)]))))::(3,.e (.one (.c (.rp [.int .i64 k]))))::(18,cI.sl ns)::(19,dI ns.length)::(20,dI 0)::[(9,.e (.one (.ptr 4 0)))]
def VB(hfe:ee (Cx.work ag) 169 (l7 k)){Q:Post}(hn:ns.length<=4000000)(VC:kT (Cx.beside ag) 45 qH Q (KT ns.length C) (EF k ps ns C)):kT (Cx.beside ag) 45 YY Q (Oy ns) (Ay k ps ns C xs):=by
 intro so ao hf hho b kk cs S hb X hQ;have h:At (Ay k ps ns C xs) so (Oy ns) (Ay k ps ns C xs) ao so:=⟨hf,hho,.refl _ _⟩;refine h.ctl rfl (λw=>vu Sm) λs h=>?_
 refine h.ctl rfl (λw=>oc) λs h=>?_;refine h.code hb pR3 λa s h=>?_;obtain⟨s1,w1,f1,z,Z⟩:=cm.freeze 3 0 (E:=3) (cs:=[.c (.int .i64 k)]) (cc:=[.int .i64 k]) rfl rfl rfl h.fr h.hh;refine .ghost (.of h.hh z w1 (Z.m9 h.hh)) ?_;obtain⟨s2,w2,f2,A,mf⟩:=cm.freeze 4 1 (E:=23) (cs:=[.c (.sl af 2 ps.length (cP.fn ps))]) (cc:=[.sl af 2 ps.length (cP.fn ps)]) rfl rfl rfl f1 z;refine .ghost (.of z A w2 (mf.m9 z)) ?_;obtain⟨s3,w3,f3,TO,U9⟩:=cm.freeze 8 3 (E:=230) (cs:=[.c (.val (.slice (aa ⟨C,0,ae⟩) ns.length ns.length))]) (cc:=[.val (.slice (aa ⟨C,0,ae⟩) ns.length ns.length)]) rfl rfl rfl f2 A;refine .ghost (.of A TO w3 (U9.m9 A)) ?_;have h:At (Ay k ps ns C xs) so (VA k ps ns C)
   [.dead,.dead,.b8 (fQ 241 2 (.row C ns.length) ns.length xs),.dead,.cells 238 [.c (.int .u64 0),.c (.int .u32 0)]] a s3 :=
  ⟨f3.le (cA rfl (by simp)),TO,h.st.trans ((Z.m9 h.hh).trans ((mf.m9 z).trans (U9.m9 A)))⟩
 clear Z mf U9 f1 f2 f3 z A TO;refine h.ctl rfl (λw=>rQ) λs h=>?_;refine h.ctl rfl (λw=>Fz) λs h=>?_;have hlen:=h.hh.len;simp only[eU,gx]at hlen;obtain⟨D,u⟩:∃L,s.β[2]?=aa L:=⟨_,br (by omega)⟩
 obtain⟨V,H⟩:∃L,s.β[4]?=aa L:=⟨_,br (by omega)⟩
 obtain⟨ch,hH,VD,T8,YK⟩:=h.hh.box 2 _ D rfl u;obtain⟨zs,W2,Q1,Q2⟩:=fQ.lookup hH;obtain⟨hv2,_,hxl,_,_,_⟩:=hH;have R:C∈D.bs:=(T8 C).2 (by grind);have VE:=VD C _ Q1;obtain⟨Wg,vs,adK,O,TE,hM4⟩:=h.hh.box 4 _ V rfl H;have YZ:vs=[.int .u64 0,.int .u32 0]:=by
  match vs,TE with
  |[],r=>exact r.elim
  |[_],r=>exact r.2.elim
  |_::_::_::_,r=>exact r.2.2.elim
  |[u0,u1],r =>
   have r0:Rd s.M u0 (.int .u64 0):=r.1;have r1:Rd s.M u1 (.int .u32 0):=r.2.1;cases r0;cases r1;rfl
 subst YZ;have Bo:C≠Wg:=by grind
 have hv9:a.tmps.getD 9 ai=.pointer (aa ⟨Wg,0,ae⟩):=by obtain⟨_,L,bb,q1,q2,q3⟩:=h.fr.slot 9;grind
 obtain⟨g1,t1⟩:=h.hh.Vy (l:=2) rfl u (.inr ⟨_,rfl⟩);have Y0:(s.β.set 2 ⟨D.v,[]⟩)[4]?=aa V:=by grind
 obtain⟨g2,t2⟩:=g1.Vy (l:=4) (B:=.cells 238 [.c (.int .u64 0),.c (.int .u32 0)]) rfl Y0 (.inl ⟨_,_,rfl⟩);generalize hsB:({s with β:=(s.β.set 2 ⟨D.v,[]⟩).set 4 ⟨V.v,[]⟩}:St)=sB at g2 t2;have eβ:sB.β=(s.β.set 2 ⟨D.v,[]⟩).set 4 ⟨V.v,[]⟩:=by grind
 have eM:sB.M=s.M:=by grind
 have ew:sB.w=s.w:=by grind
 have eo:sB.own=s.own:=by grind
 have hhB:aF d5 sB:=g2;have Qn:=(t1.m9 h.hh).trans (t2.m9 g1);have Y1:sB.β[2]?=aa ⟨D.v,[]⟩:=by grind
 have p:∀L∈sB.β,∀x∈L.bs,∃l,l≠2/\l≠4/\s.β[l]?=aa L:=by grind[List.mem_iff_getElem?]
 have Dx:C<s.w.heap.size:=h.hh.lt D (bH u) C R;have Bf:Wg<s.w.heap.size:=h.hh.lt V (bH H) Wg (by grind)
 have Y2:M9 C sB:=⟨by rw[eo];exactλho=>(h.hh.own C ho).2 D (bH u) R,λL d f=>by obtain⟨l,n2,n4,hl⟩:=p L d C f;exact n2 (h.hh.eB l 2 L D hl u C f R),λo=>by rw[eM];grind,by grind⟩
 have J:M9 Wg sB:=⟨by rw[eo];exactλho=>(h.hh.own Wg ho).2 V (bH H) (by grind),λL d f=>by obtain⟨l,n2,n4,hl⟩:=p L d Wg f;exact n4 (h.hh.eB l 4 L V hl H Wg f (by grind)),λo=>by rw[eM];grind,by grind⟩
 have fB:cm 45 d5 sB (mY k ps ns C Wg 0) a:=by have q:=h.fr.mono Qn h.hh.len;have q9:cm 45 d5 sB ((9,.e (.one (.v (.pointer (aa ⟨Wg,0,ae⟩)))))::VA k ps ns C) a:=q.seen (by rw[hv9];exact Rd.val rfl);exact q9.le (cA rfl (by simp))
 have U:(xs++zs).toArray.size=2*ns.length:=by grind
 have NV:∀x,(s.own x∨∃L∈s.β,x∈L.bs)->x<s.w.heap.size:=λx f=>f.elim (λq=>(h.hh.own x q).1) λ⟨L,d,q⟩=>h.hh.lt L d x q;refine .xY (T:=λg' s'=>∃a4 m,At (Ay k ps ns C xs) so (KT ns.length C) (EF k ps ns C) a4 s'/\WgLive 238 Wg s'.w/\Goes ag ab (fy 238 Wg) DC0 (λg _=>g=G (b.aT (a4.put (aa 28) (.tuple #[])) (.inRegion ye []::.code qH::kk)) cs) m g' s'.w)
  (Ua.fork (n:=ns.length) (ty:=238) (val:=Nr k ps ns) (N:=2*ns.length) (s0:=sB) 2 (by omega) Wg C (by omega) Bo (.of h.hh hhB ew Qn) rfl ⟨D,bH u,R⟩ ⟨V,bH H,by grind⟩ NV ?_ O ⟨_,VE,U⟩ ?_) ?_
 .rintro x (rfl|rfl)
  .exact⟨Y2.own,Y2.β,Y2.M⟩
  .exact⟨J.own,J.β,J.M⟩
 .intro Y hYW hYC hYk;subst hYW hYC;refine⟨TF k ps ns Y d5 sB b kk cs,Xp k ps ns Y d5 sB b kk cs,λg s f=>anF J X f,?_,?_⟩
  .refine Ox hfe hYk J X hb (by decide) hn (λi hi=>rfl) (λi hi=>rfl) ns.length (bh _) a sB ⟨by grind,hhB,.refl _ _⟩ ⟨_,_,by rw[ew];exact O⟩
  .rintro g' s' ⟨a4,⟨j,KQ⟩,m,hgo⟩ hm' VF Sn UO BF;obtain⟨o1,o2,o3⟩:=BF Y.C (.inl rfl);obtain⟨na,I,adP⟩:=VF;have UP:na=(l8 k ps ns).toArray:=by
    apply Array.ext_getElem?;intro o;have eo':(l8 k ps ns).toArray[o]?=(l8 k ps ns)[o]?:=by simp
    rw[eo'];rcases cD o (2*ns.length)with ho|ho
    .have q1:=Sn (o / 2) (by omega) (o % 2) (by omega);have q2:=Az (k:=k) (ps:=ps) (ns:=ns) (x:=o / 2) (i:=o % 2) (by omega) (by omega);rw[show 2*(o / 2)+o % 2=o by omega]at q1 q2;rw[q2];simpa[aV,I]using q1
    grind[Cr]
   subst UP;have Ds:s'.β.length=5:=j.hh.len;obtain⟨B2',L2',p1,p2,p3⟩:=j.st.box 2 .dead ⟨D.v,[]⟩ rfl Y1;have adR:L2'.v=.nilFunc:=by cases p1;exact(show L2'.v=D.v from p3).trans hv2
   have F:∀(l:Nat) (B:aP),d5[l]?=aa B->B=.dead:=by
    intro l B hB
    match l,hB with
    |0,hB|1,hB|2,hB|3,hB|4,hB=>cases hB;rfl
   have W:∀l,(s'.β.set 2 ⟨.nilFunc,[Y.C]⟩)[l]?=if l=2 then aa ⟨.nilFunc,[Y.C]⟩else s'.β[l]?:=by grind
   have y:∀L∈s'.β.set 2 ⟨.nilFunc,[Y.C]⟩,L=⟨.nilFunc,[Y.C]⟩∨L∈s'.β:=λL d=>by grind
   have hh4:aF (EF k ps ns Y.C) {s' with β:=s'.β.set 2 ⟨.nilFunc,[Y.C]⟩}:=by
    refine⟨j.hh.mem,by simp[Ds,EF],?_,?_,?_,λx f=>⟨(j.hh.own x f).1,λL d K=>?_⟩⟩
    .intro l B L hB d;rw[W]at d;by_cases e:l=2
     .subst e;rw[bm rfl]at d;cases d;cases hB;refine⟨λb'=>if b'=Y.C then aa (.cells (l8 k ps ns++[]).toArray 241 (0,0))else ae,⟨rfl,?_,Cr,bh _,by omega,[],by grind,rfl⟩,λb' ob Dt=>?_,λb'=>?_,λb' Dt o=>?_⟩
      .intro x f;simp only[l8,List.mem_flatMap]at f;obtain⟨_,_,f⟩:=f;simp only[eE,n5,mo]at f;rcases f with rfl|rfl<;>rfl
      .by_cases e:b'=Y.C
       .subst e;simp only[cj]at Dt;cases Dt;rw[iO];exact I
       grind
      .by_cases e:b'=Y.C<;>simp[e]
      grind
     .match l,hB,e with
      |0,hB,_|1,hB,_|3,hB,_|4,hB,_=>cases hB;trivial
      |2,_,e=>grind
    .intro l l' L L' d ff x f P2;rw[W]at d ff;by_cases e:l=2
     .grind
     .rw[aZ e]at d;by_cases e':l'=2
      .grind
      .rw[aZ e']at ff;exact j.hh.eB l l' L L' d ff x f P2
    .intro L d x f;rcases y L d with rfl|d
     .grind
     .exact j.hh.lt L d x f
    .rcases y L d with rfl|d
     .grind
     .exact(j.hh.own x f).2 L d K
   have Y3:cR [.dead,.dead,.b8 (fQ 241 2 (.row Y.C ns.length) ns.length xs),.dead,.cells 238 [.c (.int .u64 0),.c (.int .u32 0)]] s (EF k ps ns Y.C) {s' with β:=s'.β.set 2 ⟨.nilFunc,[Y.C]⟩}:=by
    have q:=j.st;refine⟨by have:=q.size;grind,λx f=>by have:=q.fe x (by grind);grind,λx o v f=>q.mem x o v (by grind),λx f hnx o=>?_,λL d x f=>?_,?_,by rw[q.os,ew],by rw[q.tape,ew],by rw[q.output,ew],by rw[q.own,eo]⟩
    .rw[q.iU x (by grind) (λL d K=>by
      obtain⟨l,_,_,hl⟩:=p L d x K
      grind) o,eM]
    .rcases y L d with rfl|d
     .grind
     .rcases q.vb L d x f with r1|⟨L0,r1,r2⟩
      .grind
      .obtain⟨l,_,_,hl⟩:=p L0 r1 x r2;grind
    .intro l B L hB d;obtain⟨B1,L1,r1,r2,r3⟩:=Qn.box l B L hB d;obtain⟨B3,L3,u1,u2,u3⟩:=q.box l B1 L1 r1 r2;have eB1:=F l B1 r1;have eB3:=F l B3 u1;subst eB1 eB3;by_cases e:l=2
     .subst e;cases hB;rw[u]at d;cases d;exact⟨_,⟨.nilFunc,[Y.C]⟩,rfl,by grind,hv2.symm⟩
     .refine⟨.dead,L3,?_,by grind,r3.trans u3⟩
      match l,u1,e with
      |0,_,_|1,_,_|3,_,_|4,_,_=>rfl
      |2,_,e=>grind
   refine⟨{s' with β:=s'.β.set 2 ⟨.nilFunc,[Y.C]⟩},⟨a4,m,⟨⟨j.fr.size,⟨[],?_⟩,λt=>?_⟩,hh4,h.st.trans Y3⟩,KQ,hgo⟩,rfl,hm',λSh P hnC=>⟨P.own,λx f L d K=>?_,P.M,P.lt⟩⟩
   .obtain⟨ls,RF⟩:=j.fr.defers;rw[lI (λB hB=>by grind) RF];trivial
   .have fq:cm 45 d5 s' (KT ns.length Y.C) a4:=j.fr.le (cA rfl (by simp));exact dj.closed (s:=s') (s':={s' with β:=s'.β.set 2 ⟨.nilFunc,[Y.C]⟩}) rfl (fq.slot t) (nA rfl)
   .rcases y L d with rfl|d
    .grind
    .exact P.β x f L d K
 .rintro g' s' ⟨a4,m,h4,hl4,hgo⟩;refine At.goes m g' s' h4 hl4 hgo λs1 h1=>?_;have h2:At (Ay k ps ns C xs) so ((28,.any)::KT ns.length C) (EF k ps ns C) (a4.put (aa 28) (.tuple #[])) s1:=⟨h1.fr.put (by decide) ay,h1.hh,h1.st⟩
  refine h2.ctl rfl (λw=>iW) λs2 h3=>?_;refine VC s2 _ (h3.fr.le (cA rfl (by simp))) h3.hh b kk cs S hb X λe φ' σ' s' a' q f' h' qx=>hQ e φ' σ' s' a' q f' h' (h3.st.trans qx)
end
end
abbrev Y4(a:List Bs)(b:Bool):D:=.eX [.one (.c (.sl af 1 a.length (cS.fn a))),.one (.c (.bool b))]
def eK(k:Int)(ps:List bG)(ns:List Int):Option (List Bs):=if ns.all (λn=>(dK k ps n).isSome)then aa (ns.map λn=>(dK k ps n).getD [])else ae
noncomputable def cR0:Code:=xj ED
noncomputable def cR1:Code:=xj (kY ED)
noncomputable def cR2:Code:=xj (kY (kY ED))
def Oz:Tryz.f140.body=aa (.seq cR0 (.seq cR1 (.seq cR2 YY))):=by kernel_rfl
def So(k:Int)(ps:List bG)(ns:List Int)(i:Nat):List AM.C:=[.str ((dK k ps (ns.getD i 0)).getD []),.bool (dK k ps (ns.getD i 0)).isSome]
def uQ(k:Int)(ps:List bG)(ns:List Int):List Bs:=ns.map λn=>(dK k ps n).getD []
theorem Cs{b p:Bs}(h:eQ b=aa p):p.length<=8:=by
 unfold eQ at h;split at h
 .rename_i a;cases h;simp only[bR,bx,ba]at a;omega
 grind
theorem HP{k:Int}{x:bo}{p:Bs}(h:chunk k x=aa p):p.length<=8:=by unfold chunk at h;grind[Cs]
theorem yJ{k:Int}{ps:List bG}{n:Int}:((dK k ps n).getD []).length<=8:=by
 cases h:dK k ps n with
 |none=>simp
 |some p =>
  obtain⟨q,_,a⟩:=List.exists_of_findSome?_eq_some h;unfold ei at a;grind[HP]
theorem Sp{k:Int}{ps:List bG}{ns:List Int}{i:Nat}(hi:i<ns.length){M:Mem}{j:Nat}{c:AM.C}{x:ah}(a:(So k ps ns i)[j]?=aa c)(b:(l8 k ps ns)[i*2+j]?=aa x):Rd M x c:=by
 have d:j<2:=(bY.1 a).1;have:=Az (k:=k) (ps:=ps) hi d;rw[Nat.mul_comm,this]at b;cases b
 match j,d with
 |0,_ =>
  cases a;have:=yJ (k:=k) (ps:=ps) (n:=ns.getD i 0);exact .str rfl (by omega)
 |1,_=>cases a;exact .bool
def _root_.Go.AM.kT.le{P:aq}{X:Cx P}{N:Nat}{Q:Post}{φ φ':Fr}{σ:List aP}{c:Code}(h:kT X N c Q φ' σ)(hl:og φ φ'):kT X N c Q φ σ:=λs a f hh=>h s a (f.le hl) hh
def Co{k:Int}(f:ee (Cx.work ag) 169 (l7 k))(ps:List bG)(ns:List Int)(r:ns.length<=4000000):
  Ev (Cx.beside ag) 140 [dI k,cP.sl ps,cI.sl ns] [] (Y4 ((eK k ps ns).getD []) (eK k ps ns).isSome) []:=by
 refine eb.DL (eb.D6 (ι:=Unit) Tryz.func140 rfl Oz rfl λu=>?_);show kT _ 45 _ _ _ _;refine kT.seq (AW.top (AK.of_code ?_));refine bt rfl ay ?_;show kT _ 45 _ _ _ _;refine kT.seq (AW.top (AK.of_code ?_));refine bt rfl ay ?_;refine AK.Jf (E:=241) (n:=ns.length) tok rfl rfl rfl rfl rfl rfl (by show _*24<=_;omega) (by omega) rfl rfl λC xs=>?_;refine bt rfl ay ?_;show kT _ 45 _ _ _ _;refine kT.seq (AW.top (AK.of_code ?_));refine bt rfl ay ?_;show kT _ 45 _ _ _ _;have a:kT (Cx.beside ag) 45 qH (λe φ σ1=>∃_:Unit,cp Tryz.f140 0 (Y4 ((eK k ps ns).getD []) (eK k ps ns).isSome) [] e φ σ1) (KT ns.length C) (EF k ps ns C):=by
  refine AW.top (AW.mono (Q:=cp Tryz.f140 0 (Y4 ((eK k ps ns).getD []) (eK k ps ns).isSome) []) (AK.of_code ?_) λ_ _ _ q=>⟨(),q⟩);refine bt rfl (show _<=_ by omega) ?_;refine AK.vL 29 2 (bf:=.row C ns.length) (n:=ns.length) (k:=2) (So k ps ns) rfl rfl (λi hi=>⟨rfl,λM j c x t s=>?_⟩) ?_
  .grind [Sp]
  refine AK.iB 12 9 1 rfl rfl ?_;refine AK.cz 6 (λi=>i<=ns.length/\∀j,j<i->(dK k ps (ns.getD j 0)).isSome=ab) (λi:Nat=>[(29,.e (.one (.c (.sl af 2 ns.length (So k ps ns))))),(30,dI ns.length),(31,dI i),(12,.e (.one (.vec 5 1 (uQ k ps (ns.take i)).length (cS.fn (uQ k ps (ns.take i))))))]) (λi=>[.dead,.dead,.dead,.dead,.dead,.vec 9 1 (uQ k ps (ns.take i)).length (cS.fn (uQ k ps (ns.take i)))]) (λi=>ns.length-i) 0 rfl ?_ rfl ?_ rfl ⟨by omega,by omega⟩ ?_
  .simp[cv,uQ]
  .simp[cv,uQ]
  rintro i ⟨hi,m⟩;by_cases h:i<ns.length
  .cases o:(dK k ps (ns.getD i 0)).isSome with
   |true =>
    have b:uQ k ps (ns.take (i+1))=uQ k ps (ns.take i)++[(dK k ps (ns.getD i 0)).getD []]:=by unfold uQ;grind[List.take_add_one]
    have p:(uQ k ps (ns.take i)).length<=4000000:=by simp[uQ];omega
    refine bJ [(32,ab),(37,af)] rfl ?_ (AK.aQ (i+1) rfl ?_ ?_ ?_ ?_)
    .simp[-ar,h,So,o,bA];have:i9.bytes=16:=rfl;grind
    .rw[b];simp[-ar,So];exact cS.cu _ _
    .rw[b];simp[-ar,So];exact cS.cu _ _
    .grind
    .omega
   |false =>
    refine bJ [(32,ab),(37,ab)] rfl ?_ (AK.fE (cp.zero rfl ?_))
    .simp[-ar,h,So,o]
    .have l:eK k ps ns=ae:=by unfold eK;rw[aZ];grind
     simp[l]
  .have g:i=ns.length:=by omega
   subst g;refine bJ [(32,af)] rfl (by simp) (AK.leaveD rfl rfl ?_);refine dc rfl ay (AK.bw rfl ?_);have d:eK k ps ns=aa (uQ k ps ns):=by
    unfold eK;rw[bm]
    .rfl
    grind[List.mem_iff_getElem]
   simp[d]
 exact kT.le (σ:=Ay k ps ns C xs) (VB (xs:=xs) f r a) (cA rfl (by simp))
end Go.AM.R1
namespace Go.AM.R1
def jU(a:UInt8)(s:Bs):iF (a::s)=if a=47 then 0 else if iF s=-1 then -1 else iF s+1:=by unfold iF;grind[Lib.indexByte.eq_def]
def vv:iF []=-1:=by unfold iF;rw[Lib.indexByte.eq_def]
def H3(s:Bs):fa s=dD s:=by
 by_cases i:s.length<=3
 .match s,i with
  |[],_=>simp[fa,dD,cy,js,vv]
  |[a],_ =>
   by_cases d:a=47
   .subst d;simp[fa,dD,cy,js,mM,j3,jU,l9,cK]
   .simp[fa,dD,cy,js,j3,jU,vv,d,l9,cK]
  |[a,b],_ =>
   by_cases d:a=47
   .subst d;simp[fa,dD,cy,js,mM,j3,jU]
   .by_cases e:b=47
    .subst e;simp[fa,dD,cy,js,mM,j3,jU,d]
    .simp[fa,dD,cy,js,j3,jU,vv,d,e]
  |[a,b,c],_ =>
   by_cases d:a=47
   .subst d;simp[fa,dD,cy,js,mM,j3,jU,l9,cK]
   .by_cases e:b=47
    .subst e;simp[fa,dD,cy,js,mM,j3,jU,d,l9,cK]
    .have f:¬(b.toNat:Int)=47:=by intro h;apply e;apply n7.1;grind
     by_cases g:c=47
     .subst g;simp[fa,dD,cy,js,mM,j3,jU,d,e,l9,cK]
     .simp[fa,dD,cy,js,j3,jU,vv,d,e,g,f,l9,cK]
  |_::_::_::_::_,h=>grind
 .have j:dD s=af:=by unfold dD;grind
  grind[uw]
end Go.AM.R1
namespace Go.AM
theorem sH(a:Bs):bk a []=af:=by rw[Op.bytesLess.eq_def]
def xx(b:UInt8)(l:Bs):bk [] (b::l)=ab:=by rw[Op.bytesLess.eq_def]
theorem sI(a b:UInt8)(x y:Bs):bk (a::x) (b::y)=(decide (a<b)||a==b&&bk x y):=by rw[Op.bytesLess.eq_def]
theorem qp:∀a:Bs,bk a a=af
 |[]=>sH []
 |a::l=>by rw[sI,qp l];simp
def CB:∀a b:Bs,bk a b=ab∨a=b∨bk b a=ab
 |[],[]=>.inr (.inl rfl)
 |[],b::y=>.inl (xx b y)
 |a::x,[]=>.inr (.inr (xx a x))
 |a::x,b::y=>by
  rw[sI,sI];rcases CB x y with h|h|h
  .grind
  .grind
  grind
theorem xy:∀{a b c:Bs},bk a b=ab->bk b c=ab->bk a c=ab
 |a,b,[],_,d=>by grind[sH]
 |a,[],c::z,e,_=>by grind[sH]
 |[],b::y,c::z,_,_=>xx c z
 |a::x,b::y,c::z,e,d=>by
  rw[sI,jB,bR,ba,hI]at e d⊢;rcases e with e|⟨rfl,e⟩
  .grind
  .rcases d with d|⟨rfl,d⟩
   .grind
   .exact .inr ⟨rfl,xy e d⟩
theorem CC{a b:Bs}(h:bk a b=ab):bk b a=af:=by grind[xy,qp]
def SR{a b:Bs}:(!(bk b a||b==a))=bk a b:=by
 rcases CB a b with h|h|h
 .have c:(b==a)=af:=by simp only[eD,dq];grind[qp]
  grind[CC]
 .grind [qp]
 grind[CC]
namespace R1
def V7{t:List bz}{i:Nat}(h:∀k,0<k->k<=i->bk (fh t (k-1)) (fh t k)=ab):∀j,j<i->bk (fh t j) (fh t i)=ab:=by
 intro j f;induction i with
 |zero=>omega
 |succ i d =>
  have c:=h (i+1) (by omega) (bh _);simp only[pM]at c;by_cases e:j=i
  .grind
  .exact xy (d (λk a b=>h k a (by omega)) (by omega)) c
def ux{s:Bs}(h:dD s=ab):(∃a,s=[a])∨∃a b,s=[a,47,b]:=by
 unfold dD at h;split at h
 .rename_i d
  match s,d with
  |[a],_=>grind
 .split at h
  .rename_i d
   match s,d with
   |[a,b,c],_ =>
    right;simp[l9,cK]at h;have e:b=47:=by apply n7.1;grind
    grind
  grind
theorem CE{p q:Bs}(g:dD p=ab)(f:dD q=ab)(i:bk p q=ab):clash p q=under q p:=by
 rcases ux g with⟨a,rfl⟩|⟨a,b,rfl⟩<;>rcases ux f with⟨c,rfl⟩|⟨c,d,rfl⟩
 .simp[clash,under,lp]
 .by_cases e:a=c
  .subst e;simp[clash,under,lp,cK]
  .have:¬(a.toNat:Int)=c.toNat:=λh=>e (n7.1 (by omega));have k:((a.toNat:Int)==(c.toNat:Int))=af:=by grind
   have j:(c==a)=af:=by grind
   simp[clash,under,lp,cK];grind
 .have:¬(a.toNat:Int)=c.toNat:=by grind[UInt8.toNat_inj,sI,sH]
  simp[clash,under,lp,cK,this]
 .simp[clash,under,lp]
theorem yZ{t:List bz}{i:Nat}(a:∀j,j<i->gH t j=ab):je t i=gH t i:=by
 unfold je gH;rw[H3,SR];cases l:dD (fh t i)with
 |false=>simp
 |true =>
  cases h:ef (sY t i)with
  |false=>simp
  |true =>
   cases f:(i==0||bk (fh t (i-1)) (fh t i))with
   |false=>simp
   |true =>
    simp only[fC];have d:∀j,j<i->bk (fh t j) (fh t i)=ab:=by
     apply V7;intro k hk hki;by_cases e:k=i
     .grind
     .have:=a k (by omega);simp only[gH,bR,jB,hI]at this;grind
    rw[pT,dy,dy];have g:∀j,j<i->clash (fh t j) (fh t i)=under (fh t i) (fh t j):=by
     intro j c;have b:dD (fh t j)=ab:=by have:=a j c;simp only[gH,bR]at this;exact this.1.1.1
     grind[CE]
    grind
def g9(t:List bz):mN t=cx t:=by
 unfold mN cx;congr 1;rw[pT,dy,dy];constructor
 .intro h i;induction i using Nat.strongRecOn with
  |_ i a=>grind[yZ]
 grind[yZ]
end R1
end Go.AM
namespace Go.AM.R1
section
variable {X:Cx ag}
def fileOf(k:Int)(ps:List bG)(x:jT):Option bz:=match eK k ps x.2 with
 |none=>ae
 |some l=>match gu l with
  |none=>ae
  |some t=>aa (x.1,t)
def dg(k:Int)(ps:List bG)(l:List jT):List bz:=l.map λx=>(fileOf k ps x).getD ([],[])
def c6(k:Int)(s:gE)(ps:List bG):Option (List bz) :=
 if cd k&&s.2.all (λx=>(fileOf k ps x).isSome)&&cx (dg k ps s.2)then aa (dg k ps s.2)else ae
abbrev Sf(a:List bz)(b:Bool):D:=.eX [.one (.c (.sl af 2 a.length (cF.fn a))),.one (.c (.bool b))]
abbrev M7(s:gE):D:=.e (.agg [.c (.int .i64 s.1),.c (.sl af 2 s.2.length (cL.fn s.2))])
theorem pz{k:Int}{ps:List bG}{l:List jT}{i:Nat}(h:i<l.length):dg k ps (l.take (i+1))=dg k ps (l.take i)++[(fileOf k ps (l.getD i ([],[]))).getD ([],[])]:=by unfold dg;grind[List.take_add_one]
def pA{k:Int}{ps:List bG}{s:gE}{i:Nat}(h:i<s.2.length)(a:fileOf k ps (s.2.getD i ([],[]))=ae):c6 k s ps=ae:=by unfold c6;rw[aZ];grind
def yc{k:Int}{ps:List bG}{ns:List Int}{l:List Bs}(h:eK k ps ns=aa l)(b:ns.length<=4000000):l.flatten.length<=140737488355328/\l.length<=4000000:=by
 unfold eK at h;split at h
 .rename_i a;cases h;refine⟨?_,by grind⟩;have key:∀ns:List Int,(ns.all λn=>(dK k ps n).isSome)=ab->(ns.map λn=>(dK k ps n).getD []).flatten.length<=8*ns.length:=by
   intro ns;induction ns with
   |nil=>grind
   |cons n ns ih =>
    intro h;simp only[List.all_cons,bR]at h;grind[yJ]
  grind
 grind
def Cn(k:Int)(s:gE)(ps:List bG)(I:s.2.length<=4000000)(F:∀x∈s.2,x.2.length<=4000000):
  Ev (Cx.beside ag) 107 [dI k,M7 s,cP.sl ps] [] (Sf ((c6 k s ps).getD []) (c6 k s ps).isSome) []:=by
 refine Ev.bQ Tryz.func107 rfl λD=>?_;have y:=D.sl 2 rfl;have a:bE (Cx.beside ag) [(30,kq aI (λk=>dB (cd k)) λ_=>[])]:=.cons t30 .nil;cases hk:cd k with
 |false =>
  refine aW a [(15,af),(16,ab)] rfl ?_ (AK.bw rfl ?_)
  .simp[hk]
  .simp[c6,hk]
 |true =>
  have p:ee (Cx.work ag) 169 (l7 k):=Sb Og hk;refine aW a [(15,ab),(16,af),(1000004,ab)] rfl ?_ ?_
  .simp[hk]
  refine AK.iB 8 76 2 rfl rfl ?_;refine cf a rfl ay ?_;refine AK.cz 2 (λi=>i<=s.2.length/\∀j,j<i->(fileOf k ps (s.2.getD j ([],[]))).isSome=ab) (λi:Nat=>[(0,dI k),(2,cP.sl ps),(4,.e (.one (.ptr 0 0))),(8,.e (.one (.vec 1 2 (dg k ps (s.2.take i)).length (cF.fn (dg k ps (s.2.take i)))))),(18,cL.sl s.2),(19,dI s.2.length),(20,dI i)]) (λi=>[.cells 41 [.c (.int .i64 s.1),.c (.sl af 2 s.2.length (cL.fn s.2))],.vec 76 2 (dg k ps (s.2.take i)).length (cF.fn (dg k ps (s.2.take i)))]) (λi=>s.2.length-i) 0 rfl ?_ rfl ?_ rfl ⟨by omega,by omega⟩ ?_
  .simp[dg]
  .simp[dg]
  rintro i ⟨hi,v⟩;by_cases h:i<s.2.length
  .have n:s.2.getD i ([],[])∈s.2:=by grind
   generalize f:s.2.getD i ([],[])=x at n;have m:=F x n;have d:=Co p ps x.2 m;cases b:eK k ps x.2 with
   |none =>
    rw[b]at d;refine aW a [(21,ab)] rfl ?_ ?_
    .exact⟨by omega,by omega,c8 (by omega)⟩
    refine AK.cQ (f▸d) [] rfl ?_;refine aW a [(33,ab)] rfl ?_ (AK.fE (cp.zero rfl ?_))
    .simp
    .have e:fileOf k ps x=ae:=by simp[fileOf,b]
     rw[pA h (by grind)];simp
   |some l =>
    obtain⟨q,G⟩:=yc b m;rw[b]at d;have o:=EB (X:=Cx.beside ag) l q;refine aW a [(21,ab)] rfl ?_ ?_
    .exact⟨by omega,by omega,c8 (by omega)⟩
    refine AK.cQ (f▸d) [] rfl ?_;refine aW a [(33,af)] rfl ?_ ?_
    .simp
    refine AK.cQ o [] rfl ?_;cases w:gu l with
    |none =>
     refine aW a [(40,ab)] rfl ?_ (AK.fE (cp.zero rfl ?_))
     .simp
     .have e:fileOf k ps x=ae:=by simp[fileOf,b,w]
      rw[pA h (by grind)];simp
    |some t =>
     have e:fileOf k ps x=aa (x.1,t):=by simp[fileOf,b,w]
     have E:s.2.getD (i:Int).toNat cL.bZ=x:=f;have B:(dg k ps (s.2.take i)).length<=4000000:=by simp[dg];omega
     have u:cv ((dg k ps (s.2.take i)).length+1) (cC (dg k ps (s.2.take i)).length (cF.fn (dg k ps (s.2.take i))) λr=>[[C.str (s.2.getD (i:Int).toNat cL.bZ).1,C.str ((aa t).getD [])]].getD r []) (cF.fn (dg k ps (s.2.take (i+1)))):=by rw[pz h,f,e,E];exact cF.cu (dg k ps (s.2.take i)) (x.1,t)
     have A:(dg k ps (s.2.take i)).length+1=(dg k ps (s.2.take (i+1))).length:=by grind[pz]
     refine aW a [(40,af)] rfl ?_ (AK.aQ (i+1) rfl ?_ ?_ ?_ ?_)
     .refine⟨by simp only[bA];omega,rfl,rfl,?_,rfl⟩;show _*32<=_;omega
     .refine az.cat.2 ⟨rfl,az.cat.2 ⟨⟨rfl,cv.same⟩,az.cat.2 ⟨ay,az.cat.2 ⟨⟨A,u⟩,az.cat.2 ⟨⟨rfl,cv.same⟩,az.cat.2 ⟨rfl,az.cat.2 ⟨?_,ay⟩⟩⟩⟩⟩⟩⟩;simp
     .exact az.cat.2 ⟨az.cat.2 ⟨rfl,az.cat.2 ⟨⟨rfl,cv.same⟩,ay⟩⟩,az.cat.2 ⟨⟨A,u⟩,ay⟩⟩
     .grind
     .omega
  .have e:i=s.2.length:=by omega
   subst e;refine aW a [(21,af)] rfl (by simp) (AK.leaveD rfl rfl ?_);rw[dh];have g:=xh (X:=Cx.beside ag) (dg k ps s.2);rw[g9]at g;refine cf a rfl ay ?_;refine AK.cQ g [] rfl ?_;have H:s.2.all (λx=>(fileOf k ps x).isSome)=ab:=List.all_eq_true.2 λx n=>by grind[List.mem_iff_getElem]
   cases z:cx (dg k ps s.2)with
   |false =>
    refine aW a [(51,ab)] rfl ?_ (AK.bw rfl ?_)
    .simp
    .simp[c6,z]
   |true =>
    refine aW a [(51,af)] rfl ?_ (AK.bw rfl ?_)
    .simp
    .simp[c6,z,hk,H]
abbrev bn:=List bG×List gE×List (Int×Int)
def ov(s:bn):Prop:=∀x∈s.2.1,x.2.length<=4000000/\∀y∈x.2,y.2.length<=4000000
abbrev rj(s:bn):D:=.e (.agg [.c (.sl af 2 s.1.length (cP.fn s.1)),.c (.sl af 2 s.2.1.length (gf.fn s.2.1)),.c (.sl af 2 s.2.2.length (cH.fn s.2.2))])
def yL:dr:=Gg aI (Ex cL) (aL cP) (λk s ps=>Sf ((c6 k s ps).getD []) (c6 k s ps).isSome) λ_ s _=>[s.2.length<=4000000,∀x∈s.2,x.2.length<=4000000]
def HL:ee (Cx.beside ag) 107 yL:=.M6 λk s ps h=>Cn k s ps h.1 h.2
def TR:Arg bn:=⟨rj,λd=>match d with
 |.e (.agg [.c a,.c b,.c c])=>match kX 2 (.e (.one (.c a)))with
  |some (j,m)=>match kX 2 (.e (.one (.c b)))with
   |some (k,g)=>match kX 2 (.e (.one (.c c)))with
    |some (i,n)=>aa ((cP.list j m,gf.list k g,cH.list i n),[cP.fits j m,gf.fits k g,cH.fits i n])
    |none=>ae
   |none=>ae
  |none=>ae
 |_=>ae,λ{d a o} h l σ s v r=>by
 split at h
 .split at h
  .rename_i j m t;split at h
   .rename_i k g y;split at h
    .rename_i i n x;cases h;obtain⟨vs,q,f⟩:=r
     match vs,f with
     |[],f=>exact f.elim
     |[_],f=>exact f.2.elim
     |[_,_],f=>exact f.2.2.elim
     |_::_::_::_::_,f=>exact f.2.2.2.elim
     |[u,w,p],f =>
      exact⟨_,q,cP.jS (σ:=[]) (s:=s) (v:=u) t l.1 f.1,gf.jS (σ:=[]) (s:=s) (v:=w) y l.2.1 f.2.1,cH.jS (σ:=[]) (s:=s) (v:=p) x l.2.2 f.2.2.1,ay⟩
    grind
   grind
  grind
 grind⟩
abbrev gV(p:bG)(i:Nat):bo:=p.2.getD i (0,[])
def iJ(k:Int)(p:bG)(i:Nat):Bool:=right k (gV p i)&&(i==0||decide ((gV p (i-1)).1<(gV p i).1))
theorem tH(k:Int)(p:bG):gg k p=((bg p.2.length).all (iJ k p)&&(cd k&&decide (1<=p.1)&&decide (p.1<=99)&&decide (1<=p.2.length)&&decide (p.2.length<=4))):=by
 have e:(p.2.all (right k)&&Av (p.2.map (·.1)))=(bg p.2.length).all (iJ k p):=by
  rw[pT,bR,List.all_eq_true,List.all_eq_true];unfold Av;rw[List.all_eq_true];have c:∀i,i<p.2.length->(p.2.map (·.1)).getD i 0=(gV p i).1:=λi hi=>by grind
  constructor
  .rintro⟨d,b⟩ i hi;have hi:=n8.1 hi;have q:=b i (by grind);rw[c i hi]at q;unfold iJ;rw[d (gV p i) (by grind),fC];rcases mS i with rfl|f
   .rfl
   grind
  .intro h;refine⟨λx a=>?_,λi hi=>?_⟩
   .obtain⟨i,hi,rfl⟩:=nU.1 a;have:=h i (n8.2 hi);simp only[iJ,bR]at this;grind
   .have hi:i<p.2.length:=by grind
    have:=h i (n8.2 hi);simp only[iJ,bR]at this;grind
 rw[<-e];unfold gg;cases cd k<;>cases decide (1<=p.1)<;>cases decide (p.1<=99)<;>cases decide (1<=p.2.length)<;>cases decide (p.2.length<=4)<;>simp
def yM{k:Int}{p:bG}{i:Nat}(hi:i<p.2.length)(h:iJ k p i=af):gg k p=af:=by grind[tH]
theorem rl{k:Int}{x:bo}(hk:cd k=ab):(chunk k x).isSome=right k x:=by unfold chunk right;grind
def HM(k:Int)(p:bG)(hk:cd k=ab)(v:p.2.length<=4000000):Ev X 104 [dI k,KE p] [] (dB (gg k p)) []:=by
 refine Ev.bQ Tryz.func104 rfl λw=>?_;have a:bE X [(30,kq aI (λk=>dB (cd k)) λ_=>[]),(137,oQ TP aI (λx k=>Aq (chunk k x)) λ_ k=>[cd k=ab])]:=.cons t30 (.cons (KC Og) .nil);refine cf a rfl ay ?_;refine AK.cz 1 (λi=>i<=p.2.length/\∀j,j<i->iJ k p j=ab) (λi:Nat=>[(0,dI k),(3,.e (.one (.ptr 0 0))),(10,dN.sl p.2),(11,dI p.2.length),(12,dI i)]) (λ_=>[.cells 37 [.c (.int .i64 p.1),.c (sP p)]]) (λi=>p.2.length-i) 0 rfl ?_ rfl ?_ rfl ⟨by omega,by omega⟩ ?_
 .simp
 .simp
 rintro i ⟨hi,f⟩;by_cases h:i<p.2.length
 .cases l:right k (gV p i)with
  |false =>
   have o:(chunk k (gV p i)).isSome=af:=by grind[rl]
   refine aW a [(13,ab),(24,ab),(40,ab)] rfl ?_ (AK.fE (cp.zero rfl ?_))
   .refine⟨rfl,?_,hk,by omega,by omega,c8 (by omega)⟩;grind
   .rw[yM h (by simp only[iJ,l,rL])];simp
  |true =>
   have o:(!(chunk k (gV p i)).isSome)=af:=by grind[rl]
   by_cases t:i=0
   .subst t;refine aW a [(13,ab),(24,af),(27,af),(40,af)] rfl ?_ (AK.aQ 1 rfl ?_ ?_ ⟨by omega,λj g=>?_⟩ (by omega))
    .simp only[az,bA];grind
    .simp
    .simp
    .have:j=0:=by omega
     subst this;simp only[iJ,l,fC];rfl
   .have q:((i:Int)-1).toNat=i-1:=by omega
    cases s:decide ((gV p (i-1)).1<(gV p i).1)with
    |false =>
     refine aW a [(13,ab),(24,af),(27,ab),(38,ab),(40,ab)] rfl ?_ (AK.fE (cp.zero rfl ?_))
     .have n:(p.2.getD ((i:Int)-1).toNat dN.bZ).1=(gV p (i-1)).1:=by rw[q];rfl
      refine⟨rfl,c8 ?_,by omega,by omega,by simp only[bA];omega,c8 (by omega),o,hk,by omega,by omega,c8 (by omega)⟩;rw[n];show(gV p i).1<=_;grind
     .rw[yM h (by simp only[iJ,l,s,fC,Bool.or_false];grind)];simp
    |true =>
     refine aW a [(13,ab),(24,af),(27,ab),(38,af),(40,af)] rfl ?_ (AK.aQ (i+1) rfl ?_ ?_ ⟨by omega,λj g=>?_⟩ (by omega))
     .have n:(p.2.getD ((i:Int)-1).toNat dN.bZ).1=(gV p (i-1)).1:=by rw[q];rfl
      refine⟨by simp only[bA];omega,rfl,iN ?_,by omega,by omega,by simp only[bA];omega,c8 (by omega),o,hk,by omega,by omega,c8 (by omega)⟩;rw[n];show¬(gV p i).1<=_;grind
     .simp
     .simp
     .rcases zl.1 g with g|rfl
      .grind
      .simp only[iJ,l,s,fC,Bool.or_true]
 .have e:i=p.2.length:=by omega
  subst e;refine aW a [(13,af)] rfl (by simp) (AK.leaveD rfl rfl ?_);have u:(bg p.2.length).all (iJ k p)=ab:=List.all_eq_true.2 λj g=>f j (n8.1 g);rw[tH,u,hk];by_cases b:1<=p.1
  .by_cases d:p.1<=99
   .by_cases m:1<=p.2.length
    .by_cases r:p.2.length<=4
     .refine aW a [(43,ab),(47,ab),(52,ab),(58,ab),(64,ab)] rfl ?_ (AK.bw rfl ?_)
      .exact⟨c8 (by omega),c8 (by omega),c8 d,c8 b,hk⟩
      .simp[b,d,m,r]
     .refine aW a [(43,ab),(47,ab),(52,ab),(58,ab),(64,af)] rfl ?_ (AK.bw rfl ?_)
      .exact⟨iN (by omega),c8 (by omega),c8 d,c8 b,hk⟩
      .simp[b,d,m,r]
    .refine aW a [(43,ab),(47,ab),(52,ab),(58,af)] rfl ?_ (AK.bw rfl ?_)
     .exact⟨iN (by omega),c8 d,c8 b,hk⟩
     .simp[b,d,m]
   .refine aW a [(43,ab),(47,ab),(52,af)] rfl ?_ (AK.bw rfl ?_)
    .exact⟨iN d,c8 b,hk⟩
    .simp[b,d]
  .refine aW a [(43,ab),(47,af)] rfl ?_ (AK.bw rfl ?_)
   .exact⟨iN b,hk⟩
   .simp[b]
def Aw:dr:=oQ aI (Ex dN) (λk p=>dB (gg k p)) λk p=>[cd k=ab,p.2.length<=4000000]
def Gk:ee X 104 Aw:=.sv λk p h=>HM k p h.1 h.2
def yN(l:List (Int×Int))(f:l.length<=4000000):Ev X 78 [cH.sl l] [] (.e (.one (.bp 0 (.sl l.length 2 0 l.length)))) [.buf 106 2 l.length (cH.fn l)]:=by
 refine Ev.bQ Tryz.func78 rfl λd=>?_;refine bt rfl ay ?_;refine AK.F1 tok rfl rfl rfl rfl rfl rfl λb c=>?_;cases b with
 |true =>
  obtain rfl:=jf (c rfl);refine bt rfl ay ?_;refine AK.Vg 2 106 2 (cH.fn []) rfl ?_;refine AK.db [0] rfl ?_ rfl rfl rfl (λj a=>absurd a (by simp));simp
 |false =>
  refine qz [] 7 rfl ay ?_;refine AK.F0 5 106 2 (cH.fn []) rfl ?_;refine bt rfl ⟨rfl,rfl,show(0+l.length)*16<=_ by omega⟩ ?_;refine AK.norm [.buf 106 2 l.length (cH.fn l)] rfl ?_ ?_
  .simp[cv,cC]
  refine AK.db [0] rfl ?_ rfl rfl rfl (λj a=>absurd a (by simp));simp;rfl
def EG(l:List (Int×Int))(d:l.length<=4000000):Ev X 78 [cH.sl l] [] (cH.sl l) []:=by
 refine Ev.bQ Tryz.func78 rfl λc=>?_;refine bt rfl ay ?_;refine AK.F1 tok rfl rfl rfl rfl rfl rfl λb a=>?_;cases b with
 |true =>
  obtain rfl:=jf (a rfl);refine bt rfl ay ?_;refine AK.bw rfl ?_;simp[cv]
 |false =>
  refine bt rfl ⟨show(0+l.length)*16<=_ by omega,.inl rfl⟩ ?_;refine AK.bw rfl ?_;simp[cv,cC]
def EH(l:List bo)(d:l.length<=4000000):Ev X 125 [dN.sl l] [] (dN.sl l) []:=by
 refine Ev.bQ Tryz.func125 rfl λc=>?_;refine bt rfl ay ?_;refine AK.F1 tok rfl rfl rfl rfl rfl rfl λb a=>?_;cases b with
 |true =>
  obtain rfl:=jf (a rfl);refine bt rfl ay ?_;refine AK.bw rfl ?_;simp[cv]
 |false =>
  refine bt rfl ⟨show(0+l.length)*24<=_ by omega,.inl rfl⟩ ?_;refine AK.bw rfl ?_;simp[cv,cC]
def EI(l:List Int)(d:l.length<=4000000):Ev X 126 [cI.sl l] [] (cI.sl l) []:=by
 refine Ev.bQ Tryz.func126 rfl λc=>?_;refine bt rfl ay ?_;refine AK.F1 tok rfl rfl rfl rfl rfl rfl λb a=>?_;cases b with
 |true =>
  obtain rfl:=jf (a rfl);refine bt rfl ay ?_;refine AK.bw rfl ?_;simp[cv]
 |false =>
  refine bt rfl ⟨show(0+l.length)*8<=_ by omega,.inl rfl⟩ ?_;refine AK.bw rfl ?_;simp[cv,cC]
def _root_.Go.AM.mg.kE{α:Type}(c:mg α)(l:List α){i:Nat}(h:i<l.length)(d:α):cv (i+1) (cC i (c.fn (l.take i)) (λq=>[c.enc (l.getD i d)].getD q [])) (c.fn (l.take (i+1))):=by
 have e:l.take (i+1)=l.take i++[l.getD i d]:=by grind[List.take_add_one]
 have:=c.cu (l.take i) (l.getD i d);grind
abbrev VG:dr:=kq (aL dN) (λl=>dN.sl l) λl=>[l.length<=4000000]
def Y5:ee X 125 VG:=.px λl h=>EH l h
abbrev VH:dr:=kq (aL cI) (λl=>cI.sl l) λl=>[l.length<=4000000]
def Y6:ee X 126 VH:=.px λl h=>EI l h
def AA(p:bG)(a:p.2.length<=4000000):Ev X 76 [KE p] [] (KE p) []:=by
 refine Ev.qG tok Tryz.func76 rfl rfl rfl λd=>?_;have b:bE X [(125,VG)]:=.cons Y5 .nil;refine cf b rfl ?_ ?_
 .simp only[az,dN.list_fn];exact⟨dN.aU _,a⟩
 refine AK.mG () [] rfl rfl rfl rfl rfl rfl rfl rfl ?_ rfl rfl rfl rfl (λj c=>absurd c (by simp));simp[dN.list_fn]
abbrev KU:dr:=kq (Ex dN) (λp=>KE p) λp=>[p.2.length<=4000000]
def Qo:ee X 76 KU:=.px λp h=>AA p h
def AB(x:gE)(l:x.2.length<=4000000)(f:∀y∈x.2,y.2.length<=4000000):Ev X 77 [M7 x] [] (M7 x) []:=by
 refine Ev.qG tok Tryz.func77 rfl rfl rfl λk=>?_;have a:bE X [(126,VH)]:=.cons Y6 .nil;refine aW a [(1000002,ab)] rfl ay ?_;refine AK.g7 2 1 69 2 (cL.fn []) rfl rfl ?_;refine cf a rfl ay ?_;refine AK.cz 4 (λi=>i<=x.2.length) (λi:Nat=>[(2,.e (.one (.ptr 1 0))),(3,.e (.one (.ptr 2 0))),(10,cL.sl x.2),(11,dI x.2.length),(12,dI i)])
  (λi=>[.cells 41 [.c (.int .i64 x.1),.c (.sl af 2 x.2.length (cL.fn x.2))],.cells 41 [.c (.int .i64 0),.c (.sl ab 0 0 λ_=>[])],.cells 41 [.c (.int .i64 x.1),.vec 3 2 i (cL.fn (x.2.take i))],.vec 69 2 i (cL.fn (x.2.take i))]) (λi=>x.2.length-i) 0 rfl ?_ rfl ?_ rfl (by omega) ?_
 .simp
 .simp[cv]
 intro i hi;by_cases h:i<x.2.length
 .have d:x.2.getD i ([],[])∈x.2:=by grind
  refine aW a [(13,ab)] rfl ?_ (AK.aQ (i+1) rfl ?_ ?_ ?_ ?_)
  .have q:=f _ d;have b:x.2.getD (i:Int).toNat cL.bZ=x.2.getD i ([],[]):=by grind
   simp only[az,b,cI.list_fn,bA];exact⟨by omega,ay,ay,show(i+1)*40<=_ by omega,cI.aU _,q,by omega,by omega,c8 (by omega)⟩
  .simp
  .have b:x.2.getD (i:Int).toNat cL.bZ=x.2.getD i ([],[]):=by grind
   have e:=cL.kE x.2 h ([],[]);simp only[az.cat,az,b,cI.list_fn,aE,aG];exact⟨cv.same,cv.same,e,e⟩
  .grind
  .omega
 .obtain rfl:i=x.2.length:=by omega
  refine aW a [(13,af)] rfl (by simp) (AK.leaveD rfl rfl ?_);refine cf a rfl ay ?_;refine AK.mG () [] rfl rfl rfl rfl rfl rfl rfl rfl ?_ rfl rfl rfl rfl (λj g=>absurd g (by simp));simp[cv]
abbrev KV:dr:=kq (Ex cL) (λx=>M7 x) λx=>[x.2.length<=4000000,∀y∈x.2,y.2.length<=4000000]
def Qp:ee X 77 KV:=.px λx h=>AB x h.1 h.2
abbrev gJ:A:=.c (.sl ab 0 0 λ_=>[])
def xm(s:bn)(m:s.1.length<=4000000)(f:∀p∈s.1,p.2.length<=4000000)(o:s.2.1.length<=4000000)(g:ov s)(k:s.2.2.length<=4000000):
  Ev X 27 [rj s] [] (.e (.agg [.bp 0 (.sl s.1.length 2 0 s.1.length),.bp 1 (.sl s.2.1.length 2 0 s.2.1.length),.c (.sl af 2 s.2.2.length (cH.fn s.2.2))])) [.buf 37 2 s.1.length (cP.fn s.1),.buf 41 2 s.2.1.length (gf.fn s.2.1)]:=by
 refine Ev.qG tok Tryz.func27 rfl rfl rfl λn=>?_;have a:bE X [(76,KU),(77,KV)]:=.cons Qo (.cons Qp .nil);refine aW a [(1000002,ab)] rfl ay ?_;refine AK.su 2 0 37 2 (cP.fn []) rfl rfl ?_;refine AK.su 2 1 41 2 (gf.fn []) rfl rfl ?_;refine cf a rfl ay ?_;refine AK.cz 5 (λi=>i<=s.1.length) (λi:Nat=>[(1,.e (.one (.ptr 0 0))),(2,.e (.one (.ptr 1 0))),(3,.e (.one (.ptr 2 0))),(9,cP.sl s.1),(10,dI s.1.length),(11,dI i)])
  (λi=>[.cells 27 [.c (.sl af 2 s.1.length (cP.fn s.1)),.c (.sl af 2 s.2.1.length (gf.fn s.2.1)),.c (.sl af 2 s.2.2.length (cH.fn s.2.2))],.cells 27 [gJ,gJ,gJ],.cells 27 [.bp 3 (.sl i 2 0 i),.bp 4 (.sl 0 2 0 0),gJ],.buf 37 2 i (cP.fn (s.1.take i)),.buf 41 2 0 (gf.fn [])]) (λi=>s.1.length-i) 0 rfl ?_ rfl ?_ rfl (by omega) ?_
 .simp
 .simp[cv]
 intro i hi;by_cases h:i<s.1.length
 .have d:s.1.getD i (0,[])∈s.1:=by grind
  have b:s.1.getD (i:Int).toNat cP.bZ=s.1.getD i (0,[]):=by grind
  refine aW a [(12,ab)] rfl ?_ (AK.aQ (i+1) rfl ?_ ?_ ?_ ?_)
  .have q:=f _ d;simp only[az,b,dN.list_fn,bA];exact⟨by omega,ay,ay,show(i+1)*32<=_ by omega,dN.aU _,q,by omega,by omega,c8 (by omega)⟩
  .simp
  .have e:=cP.kE s.1 h (0,[]);simp only[az.cat,az,b,dN.list_fn,aE,aG];exact⟨⟨cv.same,cv.same,cv.same⟩,⟨cv.same,cv.same,cv.same⟩,⟨rfl,cv.same⟩,e,cv.same⟩
  .grind
  .omega
 obtain rfl:i=s.1.length:=by omega
 rw[dh];refine aW a [(12,af)] rfl (by simp) (AK.leaveD rfl rfl ?_);refine cf a rfl ay ?_;refine AK.cz 5 (λi=>i<=s.2.1.length) (λi:Nat=>[(1,.e (.one (.ptr 0 0))),(2,.e (.one (.ptr 1 0))),(3,.e (.one (.ptr 2 0))),(24,gf.sl s.2.1),(25,dI s.2.1.length),(26,dI i)])
  (λi=>[.cells 27 [.c (.sl af 2 s.1.length (cP.fn s.1)),.c (.sl af 2 s.2.1.length (gf.fn s.2.1)),.c (.sl af 2 s.2.2.length (cH.fn s.2.2))],.cells 27 [gJ,gJ,gJ],.cells 27 [.bp 3 (.sl s.1.length 2 0 s.1.length),.bp 4 (.sl i 2 0 i),gJ],.buf 37 2 s.1.length (cP.fn s.1),.buf 41 2 i (gf.fn (s.2.1.take i))]) (λi=>s.2.1.length-i) 0 rfl ?_ rfl ?_ rfl (by omega) ?_
 .simp
 .simp[cv]
 intro i hi;by_cases h:i<s.2.1.length
 .have d:s.2.1.getD i (0,[])∈s.2.1:=by grind
  have b:s.2.1.getD (i:Int).toNat gf.bZ=s.2.1.getD i (0,[]):=by grind
  refine aW a [(27,ab)] rfl ?_ (AK.aQ (i+1) rfl ?_ ?_ ?_ ?_)
  .have q:=g _ d;simp only[az,b,cL.list_fn,bA];exact⟨by omega,ay,ay,show(i+1)*32<=_ by omega,cL.aU _,q.1,q.2,by omega,by omega,c8 (by omega)⟩
  .simp
  .have e:=gf.kE s.2.1 h (0,[]);simp only[az.cat,az,b,cL.list_fn,aE,aG];exact⟨⟨cv.same,cv.same,cv.same⟩,⟨cv.same,cv.same,cv.same⟩,⟨rfl,cv.same⟩,cv.same,e⟩
  .grind
  .omega
 obtain rfl:i=s.2.1.length:=by omega
 rw[dh];refine aW a [(27,af)] rfl (by simp) (AK.leaveD rfl rfl ?_);refine cf a rfl ay ?_;refine AK.cQ (EG s.2.2 k) [] rfl ?_;refine cf a rfl ay ?_;refine AK.mG () [3,4] rfl rfl rfl rfl rfl rfl rfl rfl ?_ rfl rfl rfl rfl (λj l=>absurd l (by simp))
 .simp
def xn(s:bn)(m:s.1.length<=4000000)(f:∀p∈s.1,p.2.length<=4000000)(o:s.2.1.length<=4000000)(g:ov s)(k:s.2.2.length<=4000000):
  Ev X 27 [rj s] [] (.e (.agg [.bp 0 (.sl s.1.length 2 0 s.1.length),.bp 1 (.sl s.2.1.length 2 0 s.2.1.length),.bp 2 (.sl s.2.2.length 2 0 s.2.2.length)])) [.buf 37 2 s.1.length (cP.fn s.1),.buf 41 2 s.2.1.length (gf.fn s.2.1),.buf 106 2 s.2.2.length (cH.fn s.2.2)]:=by
 refine Ev.qG tok Tryz.func27 rfl rfl rfl λn=>?_;have a:bE X [(76,KU),(77,KV)]:=.cons Qo (.cons Qp .nil);refine aW a [(1000002,ab)] rfl ay ?_;refine AK.su 2 0 37 2 (cP.fn []) rfl rfl ?_;refine AK.su 2 1 41 2 (gf.fn []) rfl rfl ?_;refine cf a rfl ay ?_;refine AK.cz 5 (λi=>i<=s.1.length) (λi:Nat=>[(1,.e (.one (.ptr 0 0))),(2,.e (.one (.ptr 1 0))),(3,.e (.one (.ptr 2 0))),(9,cP.sl s.1),(10,dI s.1.length),(11,dI i)])
  (λi=>[.cells 27 [.c (.sl af 2 s.1.length (cP.fn s.1)),.c (.sl af 2 s.2.1.length (gf.fn s.2.1)),.c (.sl af 2 s.2.2.length (cH.fn s.2.2))],.cells 27 [gJ,gJ,gJ],.cells 27 [.bp 3 (.sl i 2 0 i),.bp 4 (.sl 0 2 0 0),gJ],.buf 37 2 i (cP.fn (s.1.take i)),.buf 41 2 0 (gf.fn [])]) (λi=>s.1.length-i) 0 rfl ?_ rfl ?_ rfl (by omega) ?_
 .simp
 .simp[cv]
 intro i hi;by_cases h:i<s.1.length
 .have d:s.1.getD i (0,[])∈s.1:=by grind
  have b:s.1.getD (i:Int).toNat cP.bZ=s.1.getD i (0,[]):=by grind
  refine aW a [(12,ab)] rfl ?_ (AK.aQ (i+1) rfl ?_ ?_ ?_ ?_)
  .have q:=f _ d;simp only[az,b,dN.list_fn,bA];exact⟨by omega,ay,ay,show(i+1)*32<=_ by omega,dN.aU _,q,by omega,by omega,c8 (by omega)⟩
  .simp
  .have e:=cP.kE s.1 h (0,[]);simp only[az.cat,az,b,dN.list_fn,aE,aG];exact⟨⟨cv.same,cv.same,cv.same⟩,⟨cv.same,cv.same,cv.same⟩,⟨rfl,cv.same⟩,e,cv.same⟩
  .grind
  .omega
 obtain rfl:i=s.1.length:=by omega
 rw[dh];refine aW a [(12,af)] rfl (by simp) (AK.leaveD rfl rfl ?_);refine cf a rfl ay ?_;refine AK.cz 5 (λi=>i<=s.2.1.length) (λi:Nat=>[(1,.e (.one (.ptr 0 0))),(2,.e (.one (.ptr 1 0))),(3,.e (.one (.ptr 2 0))),(24,gf.sl s.2.1),(25,dI s.2.1.length),(26,dI i)])
  (λi=>[.cells 27 [.c (.sl af 2 s.1.length (cP.fn s.1)),.c (.sl af 2 s.2.1.length (gf.fn s.2.1)),.c (.sl af 2 s.2.2.length (cH.fn s.2.2))],.cells 27 [gJ,gJ,gJ],.cells 27 [.bp 3 (.sl s.1.length 2 0 s.1.length),.bp 4 (.sl i 2 0 i),gJ],.buf 37 2 s.1.length (cP.fn s.1),.buf 41 2 i (gf.fn (s.2.1.take i))]) (λi=>s.2.1.length-i) 0 rfl ?_ rfl ?_ rfl (by omega) ?_
 .simp
 .simp[cv]
 intro i hi;by_cases h:i<s.2.1.length
 .have d:s.2.1.getD i (0,[])∈s.2.1:=by grind
  have b:s.2.1.getD (i:Int).toNat gf.bZ=s.2.1.getD i (0,[]):=by grind
  refine aW a [(27,ab)] rfl ?_ (AK.aQ (i+1) rfl ?_ ?_ ?_ ?_)
  .have q:=g _ d;simp only[az,b,cL.list_fn,bA];exact⟨by omega,ay,ay,show(i+1)*32<=_ by omega,cL.aU _,q.1,q.2,by omega,by omega,c8 (by omega)⟩
  .simp
  .have e:=gf.kE s.2.1 h (0,[]);simp only[az.cat,az,b,cL.list_fn,aE,aG];exact⟨⟨cv.same,cv.same,cv.same⟩,⟨cv.same,cv.same,cv.same⟩,⟨rfl,cv.same⟩,cv.same,e⟩
  .grind
  .omega
 obtain rfl:i=s.2.1.length:=by omega
 rw[dh];refine aW a [(27,af)] rfl (by simp) (AK.leaveD rfl rfl ?_);refine cf a rfl ay ?_;refine AK.cQ (yN s.2.2 k) [] rfl ?_;refine cf a rfl ay ?_;refine AK.mG () [3,4,5] rfl rfl rfl rfl rfl rfl rfl rfl ?_ rfl rfl rfl rfl (λj l=>absurd l (by simp))
 .simp
def VU{o:au}{x y:ak}(h:o.op=.call {callee:=.builtin .append,args:=#[x,y],argTypes:=#[35,35]}):lz ag o x y 66 i66 :=
 ⟨⟨35,35,i35,i35,h,(tok _ _ rfl),rfl,(tok _ _ rfl),rfl⟩,(tok _ _ rfl),by decide,by decide⟩
def Gy(l:List bo)(n:Nat):∀i,i<n->∀c∈dN.fn l i,uK c=ab:=by
 intro i _ c a;have:dN.fn l i=[.int .i64 (l.getD i dN.bZ).1,.str (l.getD i dN.bZ).2]:=rfl;rw[this]at a;rcases eE.1 a with rfl|a
 .rfl
 .rcases eE.1 a with rfl|a
  .rfl
  grind
abbrev Own(l:List bo):Type:={q:m8×List ah // gi 2 l.length (dN.fn l) q.2}
abbrev HX(l:List bo)(q:Own l):aP:=.b8 (fQ 66 2 q.1.1 l.length q.1.2)
abbrev AI(l:List bo)(q:Own l):C:=.val (k9 q.1.1 l.length)
abbrev S3:Type:=Nat×m8×Nat×List ah
abbrev u3(x:S3):ah:=k9 x.2.1 x.2.2.1
def AD{α:Type}(q:α->Bool)(l:List α):Int:=match l.findIdx? q with|some i=>i|none=>-1
def OB{α:Type}{q:α->Bool}{t:List α}{i:Nat}{d:α}(hi:i<t.length)(h:q (t.getD i d)=ab)(a:∀j,j<i->q (t.getD j d)=af):AD q t=i:=by
 have:t.findIdx? q=aa i:=by grind[List.findIdx?_eq_some_iff_getElem]
 rw[AD,this]
def HQ{α:Type}{q:α->Bool}{t:List α}{d:α}(a:∀j,j<t.length->q (t.getD j d)=af):AD q t=-1:=by
 have:t.findIdx? q=ae:=by grind[List.getElem_of_mem]
 rw[AD,this]
def EJ{lo hi j:Nat}{z:List C}{es:Nat->List C}(h:¬(lo<=j/\j<hi)):th lo hi z es j=es j:=aZ h
theorem bS{α:Type}{l:List α}{i:Nat}(h:i<l.length)(d:α):l.take (i+1)=l.take i++[l.getD i d]:=by grind[List.take_add_one]
def _root_.Go.AM.mg.Sq{α:Type}(c:mg α)(l:List α)(i:Nat)(x:α)(n:Nat)(b:n<=l.length):cv n (pg i (c.enc x) (c.fn l)) (c.fn (l.set i x)):=by intro q a;simp only[pg,mg.fn,AE];grind
abbrev Y7:=Int×Int×Int×Bs
abbrev TT(cs:List C):D:=.e (.one (.c (.rp cs)))
abbrev Gq(ps:List bG):C:=.sl af 2 ps.length (cP.fn ps)
abbrev EK(a:List gE):C:=.sl af 2 a.length (gf.fn a)
abbrev Ct(a:List (Int×Int)):C:=.sl af 2 a.length (cH.fn a)
def MX(s:bn)(l:Y7)(n:Nat)(a:l.2.1=n)(h:n<=s.2.2.length):az (fM s.2.2.length (aa l.2.1) ae):=by show 0<=l.2.1/\l.2.1<=(s.2.2.length:Int);omega
def Sr(n lo hi:Int):Ev X 20 [dI n,dI lo,dI hi] [] (dB (decide (lo<=n/\n<=hi))) []:=by
 refine Ev.bQ Tryz.func20 rfl λc=>?_;by_cases b:lo<=n
 .by_cases a:n<=hi
  .refine aX [(10,ab),(14,ab)] rfl (by simp;omega) (AK.bw rfl ?_);simp[b,a]
  .refine aX [(10,ab),(14,af)] rfl (by simp;omega) (AK.bw rfl ?_);simp;omega
 .refine aX [(10,af),(14,af)] rfl (by simp;omega) (AK.bw rfl ?_);simp;omega
abbrev Cu:dr:=Gg aI aI aI (λn lo hi=>dB (decide (lo<=n/\n<=hi))) λ_ _ _=>[]
def EL:ee X 20 Cu:=.M6 λn lo hi _=>Sr n lo hi
def HR(n:Nat)(f:n<=4000000):Ev X 136 [dI n] [] (dI (cG n)) []:=by
 refine Ev.bQ Tryz.func136 rfl λe=>?_;by_cases d:n<1
 .refine aX [(6,ab),(9,ab)] rfl (by simp;omega) (AK.bw rfl ?_);have:cG n=0:=by simp[cG,d]
  simp[this]
 by_cases c:8<n
 .refine aX [(6,af),(9,ab)] rfl (by simp;omega) (AK.bw rfl ?_);have:cG n=0:=by simp[cG,c]
  simp[this]
 by_cases a:n<=2
 .refine aX [(6,af),(9,af),(10,ab)] rfl (by simp;omega) (AK.bw rfl ?_);have:cG n=2:=by simp only[cG,aZ (show¬(n<1∨8<n) by omega),bm a]
  simp[this]
 by_cases b:n<=4
 .refine aX [(6,af),(9,af),(10,af),(13,ab)] rfl (by simp;omega) (AK.bw rfl ?_);have:cG n=4:=by simp only[cG,aZ (show¬(n<1∨8<n) by omega),aZ a,bm b]
  simp[this]
 .refine aX [(6,af),(9,af),(10,af),(13,af)] rfl (by simp;omega) (AK.bw rfl ?_);have:cG n=8:=by simp only[cG,aZ (show¬(n<1∨8<n) by omega),aZ a,aZ b]
  simp[this]
def OC(l:List Bs)(p:Bs)(c:l.length<=4000000):Ev X 99 [cS.sl l,dS p] [] (dB (l.contains p)) []:=by
 refine Ev.bQ Tryz.func99 rfl λe=>?_;refine bt rfl ay ?_;refine AK.cz 0 (λi=>i<=l.length/\∀j,j<i->l.getD j []≠p) (λi:Nat=>[(0,cS.sl l),(1,dS p),(5,dI i)]) (λ_=>[]) (λi=>l.length-i) 0 rfl ?_ rfl ?_ rfl ⟨by omega,by omega⟩ ?_
 .simp
 .simp
 rintro i ⟨hi,b⟩;by_cases h:i<l.length
 .have a:l.getD (i:Int).toNat cS.bZ=l.getD i []:=by grind
  by_cases f:l.getD i []=p
  .refine aX [(9,ab),(17,ab)] rfl ?_ (AK.fE (cp.zero rfl ?_))
   .simp only[az,a];grind
   .have:p∈l:=by grind
    simp[this]
  .refine aX [(9,ab),(17,af)] rfl ?_ (AK.aQ (i+1) rfl ?_ ?_ ?_ ?_)
   .simp only[az,a,bA];grind
   .simp
   .simp
   .grind
   .omega
 .refine aX [(9,af)] rfl (by simp;omega) (AK.leaveD rfl rfl ?_);refine bt rfl ay (AK.bw rfl ?_);have:¬p∈l:=λd=>by grind[List.getElem_of_mem]
  simp[this]
def KW(p:Bs)(b:bx p=ab):Ev X 135 [dS p] [] (dI (codeOf p)) []:=by
 refine Ev.bQ Tryz.func135 rfl λk=>?_;have a:=b;simp only[bx,bR,ba]at a;refine bt rfl ay ?_;refine AK.cz 0 (λi=>i<=p.length) (λi:Nat=>[(0,dS p),(3,dI (codeOf (p.take i))),(4,dI i)]) (λ_=>[]) (λi=>p.length-i) 0 rfl (by simp[codeOf]) rfl (by simp) rfl (by omega) ?_;intro i hi;by_cases h:i<p.length
 .have g:=jR b hi;have f:=jR b (i:=i+1) (by omega);have e:=ur h;have j:=gN a.2 (p.getD i 0) (w8 h);have d:97<=cK p i/\cK p i<=122:=by unfold cK;omega
  refine aX [(8,ab)] rfl ?_ (AK.aQ (i+1) rfl ?_ ?_ ?_ ?_)
  .simp only[az,cM,bA];grind
  .have c:(cK p i-97) % 256=cK p i-97:=Int.emod_eq_of_lt (by omega) (by omega);rw[c]at e;simp[-ar,cM,e]
  .simp
  .grind
  grind
 .obtain rfl:i=p.length:=by omega
  refine aX [(8,af)] rfl (by simp) (AK.leaveD rfl rfl ?_);exact bt rfl ay (AK.bw rfl)
def Ss:ee X 135 (kq aS (λp=>dI (codeOf p)) λp=>[bx p=ab]):=.px λp h=>KW p h
def KX(k:Int)(p:Bs)(hk:cd k=ab)(c:bx p=ab):Ev X 98 [dI k,dS p] [] (dI (en k p)) []:=by
 refine Ev.bQ Tryz.func98 rfl λg=>?_;have d:bE X [(135,kq aS (λp=>dI (codeOf p)) λp=>[bx p=ab])]:=.cons Ss .nil;have a:=hk;simp only[cd,bR,ba]at a;have b:=qm c;refine cf d rfl ?_ (AK.bw rfl ?_)
 .have e:0<=codeOf p*(2*k+1):=Int.mul_nonneg b.1 (by omega);have f:codeOf p*(2*k+1)<=282429536481*199:=Int.mul_le_mul (by omega) (by omega) (by omega) (by omega);generalize codeOf p*(2*k+1)=m at e f;simp only[az,bA];grind
 .show (_:Int)=_;rfl
def xo:ee X 98 (oQ aI aS (λk p=>dI (en k p)) λk p=>[cd k=ab,bx p=ab]):=.sv λk p h=>KX k p h.1 h.2
def KY(l:List cn)(n:Int)(c:l.length<=4000000):Ev X 97 [oS.sl l,dI n] [] (dI (mI l n)) []:=by
 refine Ev.bQ Tryz.func97 rfl λd=>?_;refine bt rfl ay ?_;refine AK.cz 0 (λi=>i<=l.length/\∀j,j<i->(l.getD j (0,0)).1≠n) (λi:Nat=>[(0,oS.sl l),(1,dI n),(5,dI i)]) (λ_=>[]) (λi=>l.length-i) 0 rfl ?_ rfl ?_ rfl ⟨by omega,by omega⟩ ?_
 .simp
 .simp
 rintro i ⟨hi,b⟩;by_cases h:i<l.length
 .have a:l.getD (i:Int).toNat oS.bZ=l.getD i (0,0):=by grind
  by_cases e:(l.getD i (0,0)).1=n
  .refine aX [(9,ab),(18,ab)] rfl ?_ (AK.fE (cp.zero rfl ?_))
   .simp only[az,a];grind
   .have:mI l n=(l.getD i (0,0)).2:=by
     have:l.find? (λs=>s.1==n)=aa (l.getD i (0,0)):=by grind[List.find?_eq_some_iff_getElem]
     rw[mI,this]
    simp only[az,a];grind
  .refine aX [(9,ab),(18,af)] rfl ?_ (AK.aQ (i+1) rfl ?_ ?_ ?_ ?_)
   .simp only[az,a,bA];grind
   .simp
   .simp
   .grind
   .omega
 .refine aX [(9,af)] rfl (by simp;omega) (AK.leaveD rfl rfl ?_);refine bt rfl ay (AK.bw rfl ?_);have:mI l n=0:=by
   have:l.find? (λs=>s.1==n)=ae:=by grind[List.getElem_of_mem]
   rw[mI,this]
  simp[this]
theorem xp{n:Nat}(b:1<=n)(a:n<=8):n<=cG n/\cG n<=8:=by unfold cG;grind
abbrev Gr:dr:=kq aI (λn=>dI (cG n.toNat)) λn=>[0<=n/\n<=4000000]
def OD:ee X 136 Gr:=.px λn h=>by
 obtain⟨m,rfl⟩:∃m:Nat,n=m:=⟨n.toNat,by have:=h.1;omega⟩
 exact HR m (by have:=h.2;omega)
def OE(p:Bs)(c:bx p=ab):Ev X 103 [dS p] [] (dS (eO p)) []:=by
 refine Ev.bQ Tryz.func103 rfl λf=>?_;have b:bE X [(136,Gr)]:=.cons OD .nil;have a:=c;simp only[bx,bR,ba]at a;have d:=xp a.1.1 a.1.2;refine cf b rfl ?_ ?_
 .simp only[az];omega
 refine AK.cz 0 (λj=>p.length+j<=cG p.length) (λj:Nat=>[(0,dS (p++List.replicate j 46)),(3,dI (cG p.length))]) (λ_=>[]) (λj=>cG p.length-j) 0 rfl (by simp) rfl (by simp) rfl (by omega) ?_;intro j g;by_cases h:p.length+j<cG p.length
 .refine aW b [(10,ab)] rfl ?_ (AK.aQ (j+1) rfl ?_ ?_ ?_ ?_)
  .simp;omega
  .simp[List.replicate_succ']
  .simp
  .grind
  grind
 .have e:cG p.length-p.length=j:=by omega
  refine aW b [(10,af)] rfl (by simp;omega) (AK.leaveD rfl rfl ?_);refine cf b rfl ay (AK.bw rfl ?_);simp[eO,c,e]
def KZ(s:cn):Ev X 100 [.e (.agg [.c (.int .i64 s.1),.c (.int .i64 s.2)])] [] (dB (eF s)) []:=by
 refine Ev.bQ Tryz.func100 rfl λf=>?_;have b:bE X [(20,Cu)]:=.cons EL .nil;by_cases a:0<=s.1/\s.1<=999999999988
 .by_cases d:1<=s.2/\s.2<=99
  .refine aW b [(6,ab),(10,ab)] rfl (by simp[a,d]) (AK.bw rfl ?_);have:eF s=ab:=by simp[eF,a,d];omega
   simp[this]
  .refine aW b [(6,ab),(10,af)] rfl (by simp[a,d]<;>omega) (AK.bw rfl ?_);have:eF s=af:=by simp[eF,a];omega
   simp[this]
 .refine aW b [(6,af),(10,af)] rfl (by simp;omega) (AK.bw rfl ?_);have:eF s=af:=by simp[eF];omega
  simp[this]
abbrev K1:dr:=kq TQ (λs=>dB (eF s)) λ_=>[]
def Su:ee X 100 K1:=.px λs _=>KZ s
def Ln{α:Type}{q:α->Bool}{l:List α}(h:l.any q=ab):0<=AD q l:=by unfold AD;grind
theorem Lo{α:Type}{q:α->Bool}{l:List α}(h:l.any q=af):AD q l=-1:=by unfold AD;grind
def Lp(l:List (Int×Int))(b:Nat)(q:Int×Int->Bool)(g:∀x,x∈l->Ev X b [.e (.agg [.c (.int .i64 x.1),.c (.int .i64 x.2)])] [] (dB (q x)) []):
  Ev X 142 [cH.sl l,.e (.one (.c (.fn (.func b) [] [])))] [] (dI (AD q l)) []:=by
 refine Ev.bQ Tryz.func142 rfl λm=>?_;have d:=m.sl 0 rfl;refine bt rfl ay ?_;refine AK.j1 (λi=>i<=l.length/\∀j,j<i->q (l.getD j (0,0))=af) (λi:Nat=>[(0,cH.sl l),(1,.e (.one (.c (.fn (.func b) [] [])))),(7,dI l.length),(8,dI i)]) (λ_=>[]) (λi=>l.length-i) 0 rfl ?_ rfl ay ⟨by omega,by omega⟩ ?_
 .simp
 rintro i ⟨hi,a⟩;by_cases h:i<l.length
 .have f:l.getD i (0,0)∈l:=by grind
  have k:l.getD (i:Int).toNat cH.bZ=l.getD i (0,0):=by grind
  refine aX [(9,ab)] rfl ?_ ?_
  .simp only[az];grind
  rw[k];refine AK.cQ (g _ f) [] rfl ?_;cases n:q (l.getD i (0,0))with
  |true =>
   refine aX [(16,ab)] rfl ?_ (AK.iC (cp.zero rfl ?_))
   .simp
   .simp[OB h n a]
  |false =>
   refine aX [(16,af)] rfl ?_ (AK.gd (i+1) rfl ?_ rfl ay ?_ ?_)
   .simp[bA];omega
   .simp
   .grind
   .omega
 .refine aX [(9,af)] rfl (by simp;omega) (AK.leave rfl rfl ?_);refine bt rfl ay (AK.bw rfl ?_);simp[HQ (λj o=>a j (by omega))]
def Lq(l:List (Int×Int))(a:Nat)(q:Int×Int->Bool)(b:∀x,x∈l->Ev X a [.e (.agg [.c (.int .i64 x.1),.c (.int .i64 x.2)])] [] (dB (q x)) []):
  Ev X 108 [cH.sl l,.e (.one (.c (.fn (.func a) [] [])))] [] (dB (l.any q)) []:=by
 refine Ev.bQ Tryz.func108 rfl λd=>?_;refine bt rfl ay ?_;refine AK.cQ (Lp l a q b) [] rfl ?_;cases h:l.any q with
 |true =>
  exact aX [(8,ab)] rfl (c8 (Ln h)) (AK.bw rfl)
 |false =>
  exact aX [(8,af)] rfl (iN (by grind[Lo])) (AK.bw rfl)
end
abbrev AT(l:List bz):Prop:=l.Pairwise λa b=>bk a.1 b.1=ab
def xE{t:List bz}(h:cx t=ab):AT t:=by simp only[cx,bR]at h;have a:=dy.1 h.1;rw[AT,j5];intro i j hi hj Zh;rw[fileAt hi,fileAt hj];refine V7 (t:=t) (i:=j) (λk hk hkj=>?_) i Zh;have:=a k (by omega);simp only[gH,bR,jB,hI]at this;grind
theorem mO{t:List bz}:cx t=ab↔(∀f∈t,dD f.1=ab/\ef f.2=ab)/\AT t/\t.Pairwise (λa b=>clash a.1 b.1=af)/\t.length<=6:=by
 constructor
 .intro h;have k:=xE h;simp only[cx,bR,ba]at h;have c:=dy.1 h.1;refine⟨λf g=>?_,k,?_,h.2⟩
  .obtain⟨i,hi,rfl⟩:=dM g;have:=c i hi;simp only[gH,bR]at this;grind[fileAt]
  .rw[j5];intro i j hi hj Zh;have:=c j hj;simp only[gH,bR]at this;grind[fileAt]
 .rintro⟨l,n,m,d⟩;simp only[cx,bR,ba];refine⟨dy.2 λi hi=>?_,d⟩;have e:=l _ (rH hi);rw[fileAt hi]at e;simp only[gH,bR,jB,hI];grind[List.pairwise_iff_getElem,fileAt]
def xF{t:List bz}(q:bz->Bool)(h:cx t=ab):cx (t.filter q)=ab:=by grind[mO]
theorem LC{t:List bz}(p:Bs)(h:cx t=ab):cx (mb t p)=ab:=xF _ h
def EZ{t:List bz}{p x:Bs}(h:(ek t p x).2=ab):cx (ek t p x).1=ab:=by unfold ek at h⊢;grind
end Go.AM.R1
namespace Go.AM
def eb.le{P:aq}{ι:Type}{X:Cx P}{f:aJ}{args:List D}{σ:List aP}{res tw:ι->D}{σ1:ι->List aP}(h:eb X f args σ res σ1){ps:ι->List Prop}(a:∀i,Du (res i) (tw i)=aa (ps i))(b:∀i,az (ps i)):eb X f args σ tw σ1 :=
 ⟨h.1,λs vs hr hh S cs hS=>h.2 s vs hr hh S cs λi fr v s' hl mh iX st=>hS i fr v s' hl (oi (a i) (b i) mh) iX st⟩
namespace R1
variable {X:Cx ag}
structure lD(s:bn):Prop where
 p:s.1.length<=4000000
 p2:∀p∈s.1,p.2.length<=4000000
 sn:s.2.1.length<=4000000
 s2:ov s
 h:s.2.2.length<=4000000
end R1
def Tr.sz:Tr->Nat
 |.nil=>0
 |.nd l _ _ r=>l.sz+r.sz+1
namespace R1
variable {X:Cx ag}
def Pl(t:Tr)(n:Int):Ev X 34 [.e (.one (.c (tC t))),dI n] [] (dI (t.find n)) []:=by
 refine Ev.bQ Tryz.func34 rfl λg=>?_;refine bt rfl ay ?_;refine AK.loop (λu:Tr=>u.find n=t.find n) (λu=>[(0,.e (.one (.c (tC u)))),(1,dI n)]) (λ_=>[]) (λu=>u.sz) t rfl (.cons rfl (cA rfl (by simp))) rfl ?_;intro u d;cases u with
 |nil =>
  refine bt rfl ay ?_;refine AK.law (tF rfl Tryz.underlying73 rfl rfl rfl) rfl rfl ?_;refine aX [(7,af),(15,af)] rfl (by simp) (AK.leave rfl rfl ?_);refine bt rfl ay ?_;refine AK.law (tF rfl Tryz.underlying73 rfl rfl rfl) rfl rfl ?_;refine bt rfl ay (AK.bw rfl ?_);rw[<-d];simp[Tr.find]
 |nd l a b r =>
  have e:(Tr.nd l a b r).find n=if n=a then b else if n<a then l.find n else r.find n:=rfl;rw[e]at d;refine bt rfl ay ?_;refine AK.law (Gi rfl Tryz.underlying73 rfl rfl rfl) rfl rfl ?_;by_cases h:n=a
  .subst h;rw[bm rfl]at d;refine aX [(7,ab),(15,af)] rfl (by simp) (AK.leave rfl rfl ?_);refine bt rfl ay ?_;refine AK.law (Gi rfl Tryz.underlying73 rfl rfl rfl) rfl rfl ?_;refine bt rfl ay (AK.bw rfl ?_);rw[<-d];simp
  rw[aZ h]at d;by_cases f:n<a
  .rw[bm f]at d;cases l<;>exact aX [(7,ab),(15,ab),(22,ab)] rfl (by simp only[az,lH,ba,aG,aE];and_intros<;>first|rfl|grind|exact f) ⟨_,d,by simp only[Tr.sz];omega,.cons rfl (cA rfl (by simp)),rfl⟩
  .rw[aZ f]at d;cases r<;>exact aX [(7,ab),(15,ab),(22,af)] rfl (by simp only[az,lH,bO,aG,aE];and_intros<;>first|rfl|grind|exact f) ⟨_,d,by simp only[Tr.sz];omega,.cons rfl (cA rfl (by simp)),rfl⟩
end R1
end Go.AM
namespace Go.AM.R1
section
open Go.Sort (pdq bitsLen ltInt Below)
variable {X:Cx ag}
def oJ(l:List Int):List Int:=l.mergeSort λx y=>decide (x<=y)
def lL(l:List Int):(oJ l).length=l.length:=List.length_mergeSort _
def Mc(l:List Int):pdq ltInt l.toArray 0 l.length (bitsLen l.length) ab ab=(oJ l).toArray:=by have h:=Go.Sort.sortInt l;unfold Go.Sort.sort at h;rw[List.size_toArray]at h;exact Array.ext' (by rw[h];rfl)
theorem Ws(l:List Int):eI l.toArray=cI.fn l:=by funext j;simp only[eI,mg.fn,AE,cI,ar];simp
abbrev IZ(n:Nat)(l:List Int):aP:=.buf 3 1 n (cI.fn l)
def LB(l:List Int)(a:l.length<=4000000):Ev X 105 [kF l.length] [IZ l.length l] (.eX []) [IZ l.length (oJ l)]:=by
 refine Ev.bQ Tryz.func105 rfl λc=>?_;refine dc rfl (by simp only[az,bA];and_intros<;>omega) ?_;refine AK.cQ (Md l.length a) [] rfl ?_;refine dc rfl ay ?_;have b:=kz (x:=l.length) (k:=22) (by grind);have key:Ev X 138 [kF l.length,dI 0,dI l.length,dI (bitsLen l.length)] [IZ l.length l] (.eX []) [IZ l.length (oJ l)]:=by have:=Ti (X:=X) l.length a l.length l.toArray 0 l.length (bitsLen l.length) (by omega) (by simp) (by omega) (bh _) (by omega) (.inl rfl) (x:=0) rfl rfl rfl (Mc l).symm;grind[Ws]
 refine AK.cQ key [0] rfl ?_;refine dc rfl ay ?_;exact cp.pr [0] rfl ay rfl rfl rfl ig
def lq(l:List Int):Nat->List Int
 |0=>[]
 |j+1=>if j≠0/\l.getD j 0=l.getD (j-1) 0 then lq l j else lq l j++[l.getD j 0]
def ez(l:List Int):List Int:=lq l l.length
def sM(l:List Int):∀j,(lq l j).length<=j
 |0=>bh _
 |j+1=>by have:=sM l j;simp only[lq];grind
def nN{l:List Int}:∀{k:Nat},k<=l.length->(∀i,1<=i->i<k->l.getD i 0≠l.getD (i-1) 0)->lq l k=l.take k
 |0,_,_=>by simp[lq]
 |k+1,hk,h=>by rw[lq,aZ,nN (by omega) λi a b=>h i a (by omega),bS (by omega) 0];grind
structure CoP(l:List Int)(k0:Nat)(k2:Nat)(ys:List Int):Prop where
 h1:1<=k2
 hj:k0+k2<=l.length
 len:ys.length=l.length
 lt:(lq l (k0+k2)).length<k0+k2
 done:ys.take (lq l (k0+k2)).length=lq l (k0+k2)
 rest:∀i,k0+k2<=i+1->ys.getD i 0=l.getD i 0
abbrev Wt(a:List Int):Type:={es:Nat->List C // ∀i,i<a.length->es i=cI.fn a i}
def EW(l:List Int)(H:l.length<=4000000):eb (ι:=Wt (ez l)) X 106 [kF l.length] [IZ l.length l] (λ_=>.e (.one (.bp 0 (.sl l.length 1 0 (ez l).length)))) (λes=>[.buf 3 1 l.length es.1]):=by
 refine eb.qI Tryz.func106 rfl rfl rfl λI=>?_;by_cases z:l.length<2
 .have g:ez l=l:=by unfold ez;rw[nN (bh _) λi _ _=>by omega,dh]
  refine bJ [(8,ab)] rfl (by simp only[az,ba];omega) (AK.nI ⟨cI.fn l,λi _=>by rw[g]⟩ (AK.db [0] rfl ?_ rfl rfl rfl ig));simp[g]
 refine bJ [(8,af)] rfl (by simp only[az,bO];omega) ?_;refine AK.kU (S2:=Unit) 0 rfl rfl (λ_=>ez l=l) (λ_=>[(0,kF l.length)]) (λ_=>[IZ l.length l]) 1 (λk:Nat=>1<=k/\k<=l.length/\∀i,1<=i->i<k->l.getD i 0≠l.getD (i-1) 0) (λk=>[(0,kF l.length),(3,dI k)]) (λ_=>[IZ l.length l]) (λk=>l.length-k) 1 rfl ?_ rfl ?_ rfl ⟨bh _,by omega,λi J z=>by omega⟩ ?_ ?_
 .simp
 .simp
 .rintro out k ⟨E,hk,d⟩;by_cases A:k<l.length
  .have w:((k:Int)-1).toNat=k-1:=by omega
   have u:∀j,l.getD j cI.bZ=l.getD j 0:=λ_=>rfl;by_cases h:l.getD k 0=l.getD (k-1) 0
   .refine bJ [(13,ab),(25,ab)] rfl ?_ ?_
    .simp only[az,bC,b9,w,u,h,bA,ba,jA,aG,aE];and_intros<;>omega
    have hT:=nN (l:=l) (by omega) d;have y:lq l (k+1)=l.take k:=by rw[lq,bm ⟨by omega,h⟩,hT]
    refine AK.kU (S2:=List Int) 2 rfl rfl (λc=>c.length=l.length/\c.take (ez l).length=ez l) (λ_=>[(0,kF l.length),(3,dI (ez l).length)]) (λc=>[IZ l.length c]) 1 (λs:Nat×List Int=>CoP l k s.1 s.2) (λs=>[(0,kF l.length),(3,dI (lq l (k+s.1)).length),(4,.e (.one (.bp 0 (.sl l.length 1 k (l.length-k))))),(5,dI s.1)]) (λs=>[IZ l.length s.2]) (λs=>l.length-s.1) (1,l) rfl ?_ rfl ?_ rfl ?_ ?_ ?_
    .simp only[az.cat,az,y,List.length_take,c9,bC,b9,aG,aE];exact⟨by omega,rfl,rfl⟩
    .simp
    .exact⟨bh _,by omega,rfl,by grind,by grind,λ_ _=>rfl⟩
    .rintro f ⟨b,c⟩ ⟨c1,c2,c3,c4,p,n⟩;simp only at c1 c2 c3 c4 p n;by_cases C:k+b<l.length
     .have t:((b:Int)-1).toNat=b-1:=by omega
      have r:∀j,c.getD j cI.bZ=c.getD j 0:=λ_=>rfl;have q:c.getD (k+b) 0=l.getD (k+b) 0:=n _ (by omega);have x:c.getD (k+(b-1)) 0=l.getD (k+(b-1)) 0:=n _ (by omega);by_cases o:l.getD (k+b) 0=l.getD (k+(b-1)) 0
      .have m:lq l (k+(b+1))=lq l (k+b):=by rw[show k+(b+1)=k+b+1 by omega,lq,bm ⟨by omega,by rw[o,show k+b-1=k+(b-1) by omega]⟩]
       refine bJ [(32,ab),(44,af)] rfl ?_ (AK.aQ (b+1,c) rfl ?_ ?_ ?_ ?_)
       .simp only[az,bC,b9,t,r,q,x,o,bA,ba,nW,j8,jA,aG,aE];and_intros<;>first|trivial|omega
       .simp only[az.cat,az,m,aG,aE];omega
       .simp
       .exact⟨by grind,by grind,c3,by grind,by grind,λi hi=>n i (by grind)⟩
       .simp only;omega
      .have m:lq l (k+(b+1))=lq l (k+b)++[l.getD (k+b) 0]:=by rw[show k+(b+1)=k+b+1 by omega,lq,aZ];rintro⟨_,h⟩;exact o (by rw[h,show k+b-1=k+(b-1) by omega])
       refine bJ [(32,ab),(44,ab)] rfl ?_ (AK.aQ (b+1,c.set (lq l (k+b)).length (l.getD (k+b) 0)) rfl ?_ ?_ ?_ ?_)
       .simp only[az,bC,b9,t,r,q,x,bA,ba,j7,eD,lH,dq,aG,aE];and_intros<;>first|exact o|omega
       .simp only[az.cat,az,m,c7,eU,gx,aG,aE];and_intros<;>omega
       .have e:=cI.Sq c (lq l (k+b)).length (l.getD (k+b) 0) l.length (by omega);simp only[az.cat,az,bC,b9,r,q,aE,aG];exact e
       .refine⟨by grind,by grind,by grind,by grind,?_,λi hi=>?_⟩
        .simp only;rw[m,c7,show ∀a:Int,[a].length=1 fromλ_=>rfl,ld,List.take_set,List.set_eq_of_length_le (by grind),p,fU (by omega)];rfl
        .simp only at hi⊢;rw[ar,j6 (by omega),<-ar];grind
       .simp only;omega
     .have D:k+b=l.length:=by omega
      have v:lq l (k+b)=ez l:=by rw[D];rfl
      refine bJ [(32,af)] rfl ?_ (AK.leaveD rfl rfl ?_)
      .simp only[az,bO];omega
      rw[v]at p;exact f c ⟨c3,p⟩ rfl (by simp[v]) rfl (by simp)
    rintro c ⟨B,G⟩;have F:(ez l).length<=l.length:=sM l _;refine dc rfl ?_ ?_
    .simp only[az];grind
    refine AK.law (bF.Q7 tok rfl rfl rfl rfl rfl rfl ?_) rfl rfl ?_
    .simp only[c9,b9];omega
    refine bt rfl ?_ (AK.fE ⟨⟨th (0+c9 0 (aa ((ez l).length:Int))) (0+c9 0 (aa ((ez l).length:Int))+(c9 l.length ae-c9 0 (aa ((ez l).length:Int)))) i3.zero (cI.fn c),λi hi=>?_⟩,cp.mk [0] rfl ?_ rfl rfl rfl ig⟩)
    .simp only[az];grind
    .have e:c[i]?=(ez l)[i]?:=by grind
     refine(EJ (by simp only[c9,b9];omega)).trans ?_;simp only[mg.fn,AE,ar,e]
    .simp[c9];rfl
   .refine bJ [(13,ab),(25,af)] rfl ?_ (AK.aQ (k+1) rfl ?_ ?_ ?_ ?_)
    .simp only[az,bC,b9,w,u,bA,ba,eD,dq,aG,aE];and_intros<;>first|exact h|omega
    .simp
    .simp
    .grind
    .omega
  .obtain rfl:k=l.length:=by omega
   refine bJ [(13,af)] rfl (by simp) (AK.leaveD rfl rfl ?_);exact out () (by unfold ez;rw[nN (bh _) d,dh]) rfl (by simp) rfl (by simp)
 rintro⟨⟩ g;refine dc rfl ay (AK.nI ⟨cI.fn l,λi _=>by rw[g]⟩ (AK.db [0] rfl ?_ rfl rfl rfl ig));simp[g]
end
section
variable {X:Cx ag}
def vA(l:List jT):List Int:=l.flatMap (·.2)
def _root_.Go.AM.mg.SY{α:Type}(c:mg α)(a b:List α)(n:Nat)(d:n=(a++b).length):cv n (cC a.length (c.fn a) (c.fn b)) (c.fn (a++b)):=by intro i hi;simp only[cC,mg.fn,AE,ar];grind
def AS(l:List Int):(ez l).length<=l.length:=sM l _
def K4(s:Bs)(i:Nat)(a:b6 s=ab)(k:3<=i)(hi:i<=s.length)(f:s.length<=4000000):Ev X 180 [dS s,dI i] [] (dB (jv s i)) []:=by
 refine Ev.bQ Tryz.func180 rfl λh=>?_;have e:=HG a (i-1) (by omega);have j:=HG a (i-2) (by omega);have g:=HG a (i-3) (by omega);have c:((iR s ((i:Int)-1)).toNat:Int)=cK s (i-1):=by grind[cM]
 have b:((iR s ((i:Int)-2)).toNat:Int)=cK s (i-2):=by grind[cM]
 have d:((iR s ((i:Int)-3)).toNat:Int)=cK s (i-3):=by grind[cM]
 refine bt rfl ?_ (AK.bw rfl ?_)
 .simp only[az,bA,c,b,d];omega
 .simp only[az,az.cat,c,b,d,jv,dl,aE];grind
abbrev K5:dr:=oQ aS aI (λs i=>dB (jv s i.toNat)) λs i=>[b6 s=ab,3<=i,i<=s.length,s.length<=4000000]
def Sw:ee X 180 K5:=.sv λs i h=>by
 obtain⟨b,c,d,a⟩:=h;obtain⟨m,rfl⟩:∃m:Nat,i=m:=⟨i.toNat,by omega⟩
 exact K4 s m b (by omega) (by omega) a
def Sx(t:Bs)(f:Nat)(i:b6 t=ab)(l:f<=t.length)(n:t.length<=4000000):Ev X 152 [dS t,dI f] [] (dI (cutAt t f)) []:=by
 refine Ev.bQ Tryz.func152 rfl λo=>?_;have b:bE X [(180,K5)]:=.cons Sw .nil;refine cf b rfl ay ?_;refine AK.j1 (λj=>j<=5/\tG t f (5-j)=cutAt t f) (λj:Nat=>[(0,dS t),(1,dI f),(5,dI (3+j))]) (λ_=>[]) (λj=>5-j) 0 rfl ?_ rfl ay ⟨by omega,rfl⟩ ?_
 .simp
 rintro j ⟨p,a⟩;by_cases h:j<5
 .obtain⟨k,hk⟩:∃k,5-j=k+1:=⟨4-j,by omega⟩
  have d:f+(7-k)=f+3+j:=by omega
  rw[hk]at a;simp only[tG,d]at a;by_cases g:t.length<=f+3+j
  .rw[bm g]at a;refine aW b [(7,ab),(15,ab)] rfl ?_ (AK.iC (cp.zero rfl ?_))
   .simp only[az,bA,ba,aG,aE];omega
   .simp[<-a]
  rw[aZ g]at a;have e:((f:Int)+(3+(j:Int))).toNat=f+3+j:=by omega
  cases c:jv t (f+3+j)with
  |true =>
   rw[c,bm rfl]at a;refine aW b [(7,ab),(15,af),(22,ab)] rfl ?_ (AK.iC (cp.zero rfl ?_))
   .simp only[az,bA,e,c,i,ba,bO,aG,aE];omega
   .simp[<-a];omega
  |false =>
   rw[c,aZ (by simp)]at a;refine aW b [(7,ab),(15,af),(22,af)] rfl ?_ (AK.gd (j+1) rfl ?_ rfl ay ⟨by omega,by grind⟩ (by omega))
   .simp only[az,bA,e,c,i,ba,bO,aG,aE];omega
   .simp;omega
 .have e:cutAt t f=min (f+8) t.length:=by rw[<-a,show 5-j=0 by omega];rfl
  have m:bA .i64 ((min (f+8) t.length:Nat):Int):=by simp only[bA];omega
  refine aW b [(7,af)] rfl ?_ (AK.leave rfl rfl ?_)
  .simp only[az,bA,ba,bO];omega
  refine cf b rfl ?_ ?_
  .simp only[az,bA];omega
  refine AK.law (xe ((min (f+8) t.length:Nat):Int) rfl rfl rfl (by omega) m) rfl rfl ?_;refine cf b rfl ay (AK.bw rfl ?_);simp[e]
abbrev VK:dr:=oQ aS aI (λs i=>dI (cutAt s i.toNat)) λs i=>[b6 s=ab,0<=i,i<=s.length,s.length<=4000000]
def Y8:ee X 152 VK:=.sv λs i h=>by
 obtain⟨b,c,d,a⟩:=h;obtain⟨m,rfl⟩:∃m:Nat,i=m:=⟨i.toNat,by omega⟩
 exact Sx s m b (by omega) a
abbrev mK(t:Bs):List Int:=(AF t).map λn:Nat=>(n:Int)
def K6(t:Bs)(l:b6 t=ab)(m:t.length<=4000000):Ev X 134 [dS t] [] (cI.sl (mK t)) []:=by
 refine Ev.bQ Tryz.func134 rfl λo=>?_;have a:bE X [(152,VK)]:=.cons Y8 .nil;refine aW a [(1000003,ab)] rfl ay ?_;refine AK.iB 3 3 1 rfl rfl ?_;refine cf a rfl ay ?_;refine AK.cz 1 (λs:Nat×List Int=>s.1<=t.length/\s.2.length<=s.1/\∃k,t.length<=s.1+k/\mK t=s.2++(mL t k s.1).map λn:Nat=>(n:Int)) (λs=>[(0,dS t),(3,.e (.one (.vec 0 1 s.2.length (cI.fn s.2)))),(4,dI s.1)]) (λs=>[.vec 3 1 s.2.length (cI.fn s.2)]) (λs=>t.length-s.1) (0,[]) rfl ?_ rfl ?_ rfl ⟨by simp,by simp,t.length,by simp,by simp[mK,AF]⟩ ?_
 .simp
 .simp
 rintro⟨f,acc⟩ ⟨c,b,k,hk,i⟩;simp only at c b hk i;by_cases h:f<t.length
 .obtain⟨k,rfl⟩:∃k',k=k'+1:=⟨k-1,by omega⟩
  have j:=nC t f h;have d:=cI.cu acc (cutAt t f:Int);have g:acc.length+1=(acc++[(cutAt t f:Int)]).length:=by simp
  refine aW a [(9,ab)] rfl ?_ (AK.aQ (cutAt t f,acc++[(cutAt t f:Int)]) rfl ?_ ?_ ?_ ?_)
  .simp only[az,l,show i3.bytes=8 from rfl,ba,aG,aE];and_intros<;>omega
  .exact az.cat.2 ⟨rfl,az.cat.2 ⟨⟨g,d⟩,az.cat.2 ⟨rfl,ay⟩⟩⟩
  .exact az.cat.2 ⟨⟨g,d⟩,ay⟩
  .refine⟨j.2.1,by grind,k,by grind,?_⟩;rw[i];simp only[mL,bm h];simp
  grind
 .have e:mK t=acc:=by
   have:mL t k f=[]:=by cases k<;>simp[mL,h]
   grind
  refine aW a [(9,af)] rfl (by simp only[az,bO];omega) (AK.leaveD rfl rfl ?_);refine cf a rfl ay (AK.bw rfl ?_);rw[e];simp
abbrev K7:dr:=kq aS (λt=>cI.sl (mK t)) λt=>[b6 t=ab,t.length<=4000000]
def Sy:ee X 134 K7:=.px λt h=>K6 t h.1 h.2
def drop_cons{α:Type}{l r:List α}{i:Nat}{x:α}(h:l.drop i=x::r)(d:α):i<l.length/\l.getD i d=x/\l.drop (i+1)=r:=by grind[List.drop_eq_nil_of_le,List.drop_eq_getElem_cons]
def yR(t:Bs):∀k f,(mL t k f).length<=k
 |0,_=>bh _
 |k+1,f=>by
  simp only[mL];split
  .have:=yR t k (cutAt t f);grind
  .simp
def OG(t:Bs)(u:b6 t=ab)(y:t.length<=4000000):Ev X 96 [dS t] [] (cS.sl (pieces t)) []:=by
 refine Ev.bQ Tryz.func96 rfl λz=>?_;have c:bE X [(134,K7)]:=.cons Sy .nil;have B:(mK t).length<=t.length:=by simp only[mK,lg];exact yR t _ _
 refine aW c [(1000002,ab)] rfl ay ?_;refine AK.iB 3 9 1 rfl rfl ?_;refine cf c rfl (by simp only[az,u];grind) ?_;refine AK.cz 1 (λs:Nat×Nat×List Bs=>s.1<=(mK t).length/\s.2.1<=t.length/\s.2.2.length<=s.1/\∃k,t.length<=s.2.1+k/\(mK t).drop s.1=((mL t k s.2.1).map λn:Nat=>(n:Int))/\pieces t=s.2.2++fp t k s.2.1) (λs=>[(0,dS t),(3,.e (.one (.vec 0 1 s.2.2.length (cS.fn s.2.2)))),(4,dI s.2.1),(5,cI.sl (mK t)),(6,dI s.1)]) (λs=>[.vec 9 1 s.2.2.length (cS.fn s.2.2)]) (λs=>(mK t).length-s.1) (0,0,[]) rfl ?_ rfl ?_ rfl ⟨by simp,by simp,by simp,t.length,by simp,by simp[mK,AF],by simp[pieces]⟩ ?_
 .simp
 .simp
 rintro⟨i,f,acc⟩ ⟨hi,o,d,k,hk,m,l⟩;simp only at hi o d hk m l;by_cases h:i<(mK t).length
 .have g:mL t k f≠[]:=by grind[List.length_drop]
  obtain⟨k,rfl⟩:∃k',k=k'+1:=by
   cases k with
   |zero=>exact absurd rfl g
   |succ k=>grind
  have a:f<t.length:=by
   rcases cD f t.length with h|h
   .exact h
   .exact absurd (by simp only[mL,aZ (show¬f<t.length by omega)]) g
  simp only[mL,bm a,pU]at m;obtain⟨_,A,v⟩:=drop_cons m 0;have w:=nC t f a;have j:(mK t).getD (i:Int).toNat cI.bZ=(cutAt t f:Int):=by grind
  have b:r7 t (aa (f:Int)) (aa (cutAt t f:Int))=(t.drop f).take (cutAt t f-f):=by simp[r7,List.drop_take]
  have p:=cS.cu acc ((t.drop f).take (cutAt t f-f));have r:acc.length+1=(acc++[(t.drop f).take (cutAt t f-f)]).length:=by simp
  refine aW c [(13,ab)] rfl ?_ (AK.aQ (i+1,cutAt t f,acc++[(t.drop f).take (cutAt t f-f)]) rfl ?_ ?_ ?_ ?_)
  .simp only[az,j,bA,fM,show i9.bytes=16 from rfl,ba,aG,aE];and_intros<;>omega
  .simp only[az.cat,az,j,b,aG,aE];and_intros<;>first|exact r|exact p|exactλ_ _=>rfl|omega
  .simp only[az.cat,az,j,b,aG,aE];and_intros<;>first|exact r|exact p
  .refine⟨by grind,w.2.1,by grind,k,by grind,v,?_⟩;rw[l];simp only[fp,bm a];simp
  grind
 .have e:pieces t=acc:=by
   have q:mL t k f=[]:=by grind[List.map_eq_nil_iff]
   have a:¬f<t.length:=by
    intro x;cases k with
    |zero=>omega
    |succ k=>simp only[mL,bm x]at q;cases q
   rw[l];cases k<;>simp[fp,a]
  refine aW c [(13,af)] rfl (by simp only[az,bO];omega) (AK.leaveD rfl rfl ?_);refine cf c rfl ay (AK.bw rfl ?_);rw[e];simp
abbrev Gu:dr:=kq aS (λt=>cS.sl (pieces t)) λt=>[b6 t=ab,t.length<=4000000]
def K8:ee X 96 Gu:=.px λt h=>OG t h.1 h.2
def _root_.Go.AM.mg.pC{α:Type}(c:mg α)(l:List α)(x y:α):cv (l.length+1+1) (cC (l.length+1) (cC l.length (c.fn l) λq=>[c.enc x].getD q []) λq=>[c.enc y].getD q []) (c.fn (l++[x,y])):=by
 have h1:=c.cu l x;have h2:=c.cu (l++[x]) y;rw[show(l++[x]).length=l.length+1 by simp,show l++[x]++[y]=l++[x,y] by simp]at h2;intro q a;rw[<-h2 q a];simp only[cC];by_cases e:q<l.length+1
 .rw[bm e,bm e];exact h1 q e
 grind
abbrev SC(x:bo):D:=.e (.agg [.c (.int .i64 x.1),.c (.str x.2)])
def iK(x:bo)(acc:List bo×Bool)(y:bo):List bo×Bool:=if acc.2=ab then(acc.1++[y],ab)else if x.1<y.1 then(acc.1++[x,y],ab)else(acc.1++[y],af)
def yT(x:bo):∀(l:List bo)(a:List bo),(l.foldl (iK x) (a,ab))=(a++l,ab)
 |[],a=>by simp
 |y::r,a=>by rw[lh,show iK x (a,ab) y=(a++[y],ab)from rfl,yT x r];simp
def tM(x:bo):∀(l:List bo)(a:List bo),(if(l.foldl (iK x) (a,af)).2=ab then(l.foldl (iK x) (a,af)).1 else(l.foldl (iK x) (a,af)).1++[x])=a++gG l x
 |[],a=>by simp[gG]
 |y::r,a=>by
  rw[lh];by_cases h:x.1<y.1
  .rw[show iK x (a,af) y=(a++[x,y],ab) by simp[iK,h],yT];simp[gG,h]
  .rw[show iK x (a,af) y=(a++[y],af) by simp[iK,h],tM x r];simp[gG,h]
theorem yU(x:bo):∀(l:List bo)(a:List bo×Bool),(l.foldl (iK x) a).1.length<=a.1.length+l.length+1-(if a.2=ab then 1 else 0)
 |[],a=>by grind
 |y::r,a=>by rw[lh];have:=yU x r (iK x a y);unfold iK at this⊢;grind
abbrev mZ(x:bo)(l:List bo)(i:Nat):List bo×Bool:=(l.take i).foldl (iK x) ([],af)
def yV{x:bo}{l:List bo}{i:Nat}(h:i<l.length):mZ x l (i+1)=iK x (mZ x l i) (l.getD i (0,[])):=by grind[bS]
def sD(x:bo)(l:List bo)(i:Nat):(mZ x l i).1.length<=l.length+1:=by grind[yU]
abbrev p3F(l:List bo)(x:bo)(i:Nat)(a:List bo×Bool):Fr:=[(0,dN.sl l),(3,.e (.one (.ptr 0 0))),(5,.e (.one (.vec 1 2 a.1.length (dN.fn a.1)))),(6,dB a.2),(7,dI i)]
abbrev Zc(x:bo)(a:List bo):List aP:=[.cells 66 [.c (.int .i64 x.1),.c (.str x.2)],.vec 66 2 a.length (dN.fn a)]
def OK(l:List bo)(x:bo)(p:l.length<=4000000):Ev X 102 [dN.sl l,SC x] [] (dN.sl (gG l x)) []:=by
 refine Ev.bQ Tryz.func102 rfl λq=>?_;refine bJ [(1000002,ab)] rfl ay ?_;refine AK.iB 5 66 2 rfl rfl ?_;refine dc rfl ay ?_;refine AK.cz 2 (λi=>i<=l.length) (λi:Nat=>p3F l x i (mZ x l i)) (λi=>Zc x (mZ x l i).1) (λi=>l.length-i) 0 rfl ?_ rfl ?_ rfl (by omega) ?_
 .simp[mZ]
 .simp[mZ]
 intro i hi;by_cases h:i<l.length
 .have n:=yV (x:=x) h;have e:=sD x l i;have f:l.getD (i:Int).toNat dN.bZ=l.getD i (0,[]):=by grind
  generalize mZ x l i=a at n e;obtain⟨a,b⟩:=a;simp only at e;have k:=dN.cu a (l.getD i (0,[]));have m:=dN.pC a x (l.getD i (0,[]));cases b with
  |true =>
   have c:mZ x l (i+1)=(a++[l.getD i (0,[])],ab):=n;have j:a.length+1=(a++[l.getD i (0,[])]).length:=by simp
   refine bJ [(12,ab)] rfl ?_ (AK.aQ (i+1) rfl ?_ ?_ ?_ ?_)
   .simp only[az,f,bA,show i66.bytes=24 from rfl,ba,aG,aE];and_intros<;>omega
   .rw[c];simp only[az.cat,az,f,aG,aE];and_intros<;>first|exact j|exact k|exactλ_ _=>rfl|rfl|omega
   .rw[c];simp only[az.cat,az,f,aG,aE];and_intros<;>first|exact j|exact k|exactλ_ _=>rfl|rfl|omega
   .grind
   .omega
  |false =>
   by_cases g:x.1<(l.getD i (0,[])).1
   .have c:mZ x l (i+1)=(a++[x,l.getD i (0,[])],ab):=by rw[n];simp only[iK,bm g];rfl
    have j:a.length+1+1=(a++[x,l.getD i (0,[])]).length:=by simp
    refine bJ [(12,ab),(25,ab)] rfl ?_ (AK.aQ (i+1) rfl ?_ ?_ ?_ ?_)
    .simp only[az,f,bA,show i66.bytes=24 from rfl,g,jC,ba,aG,aE];and_intros<;>omega
    .rw[c];simp only[az.cat,az,f,aG,aE];and_intros<;>first|exact j|exact m|exactλ_ _=>rfl|rfl|omega
    .rw[c];simp only[az.cat,az,f,aG,aE];and_intros<;>first|exact j|exact m|exactλ_ _=>rfl|rfl|omega
    .grind
    .omega
   .have c:mZ x l (i+1)=(a++[l.getD i (0,[])],af):=by rw[n];simp only[iK,aZ g];rfl
    have j:a.length+1=(a++[l.getD i (0,[])]).length:=by simp
    refine bJ [(12,ab),(25,af)] rfl ?_ (AK.aQ (i+1) rfl ?_ ?_ ?_ ?_)
    .simp only[az,f,bA,show i66.bytes=24 from rfl,ba,g,kA,nV,bO,aG,aE];and_intros<;>omega
    .rw[c];simp only[az.cat,az,f,aG,aE];and_intros<;>first|exact j|exact k|exactλ_ _=>rfl|rfl|omega
    .rw[c];simp only[az.cat,az,f,aG,aE];and_intros<;>first|exact j|exact k|exactλ_ _=>rfl|rfl|omega
    .grind
    .omega
 .obtain rfl:i=l.length:=by omega
  have d:=tM x l [];have e:=sD x l l.length;refine bJ [(12,af)] rfl (by simp) (AK.leaveD rfl rfl ?_);have o:mZ x l l.length=l.foldl (iK x) ([],af):=by grind
  rw[o]at e⊢;generalize l.foldl (iK x) ([],af)=a at *;obtain⟨a,b⟩:=a;simp only[mm]at d e;cases b with
  |true =>
   simp only[cj]at d;subst d;exact dc rfl ay (AK.bw rfl)
  |false =>
   simp only[jz,b7]at d;have k:=dN.cu a x;refine dc rfl ?_ (AK.bw rfl ?_)
   .simp only[az,show i66.bytes=24 from rfl,aG,aE];grind
   .rw[<-d];simp only[az.cat,az,aG,aE];and_intros<;>first|exact k|simp
abbrev Qx:dr:=oQ (aL dN) TP (λl x=>dN.sl (gG l x)) λl _=>[l.length<=4000000]
def VR:ee X 102 Qx:=.sv λl x h=>OK l x h
abbrev Zd(x:cn):D:=.e (.agg [.c (.int .i64 x.1),.c (.int .i64 x.2)])
def eW(x:cn)(acc:List cn×Bool)(y:cn):List cn×Bool :=
 if acc.2=ab then(if y.1=x.1 then acc else(acc.1++[y],ab))else if x.1<=y.1 then(if y.1=x.1 then(acc.1++[x],ab)else(acc.1++[x,y],ab))else(acc.1++[y],af)
def qn(x:cn):∀(l:List cn)(a:List cn),(l.foldl (eW x) (a,ab))=(a++l.filter λz=>!(z.1==x.1),ab)
 |[],a=>by simp
 |y::r,a=>by
  rw[lh];by_cases h:y.1=x.1
  .rw[show eW x (a,ab) y=(a,ab) by simp[eW,h],qn x r];simp[h]
  .rw[show eW x (a,ab) y=(a++[y],ab) by simp[eW,h],qn x r];simp[h]
def yW(x:cn):∀(l:List cn)(a:List cn),(if(l.foldl (eW x) (a,af)).2=ab then(l.foldl (eW x) (a,af)).1 else(l.foldl (eW x) (a,af)).1++[x])=a++gp l x
 |[],a=>by simp[gp]
 |y::r,a=>by
  rw[lh];by_cases h:x.1<=y.1
  .have c:¬y.1<x.1:=by omega
   by_cases b:y.1=x.1
   .rw[show eW x (a,af) y=(a++[x],ab) by simp[eW,b],qn];simp[gp,b]
   .rw[show eW x (a,af) y=(a++[x,y],ab) by simp[eW,h,b],qn];simp[gp,c,b]
  .have c:y.1<x.1:=by omega
   rw[show eW x (a,af) y=(a++[y],af) by simp[eW,h],yW x r];simp[gp,c]
theorem yX(x:cn):∀(l:List cn)(a:List cn×Bool),(l.foldl (eW x) a).1.length<=a.1.length+l.length+1-(if a.2=ab then 1 else 0)
 |[],a=>by grind
 |y::r,a=>by
  rw[lh];have d:=yX x r (eW x a y);obtain⟨a,b⟩:=a;simp only[eU];cases b with
  |true =>
   by_cases c:y.1=x.1
   .rw[show eW x (a,ab) y=(a,ab) by simp[eW,c]]at d⊢;grind
   .rw[show eW x (a,ab) y=(a++[y],ab) by simp[eW,c]]at d⊢;grind
  |false =>
   by_cases h:x.1<=y.1
   .by_cases c:y.1=x.1
    .rw[show eW x (a,af) y=(a++[x],ab) by simp[eW,c]]at d⊢;grind
    .rw[show eW x (a,af) y=(a++[x,y],ab) by simp[eW,h,c]]at d⊢;grind
   .rw[show eW x (a,af) y=(a++[y],af) by simp[eW,h]]at d⊢;grind
abbrev sE(x:cn)(l:List cn)(i:Nat):List cn×Bool:=(l.take i).foldl (eW x) ([],af)
def HV{x:cn}{l:List cn}{i:Nat}(h:i<l.length):sE x l (i+1)=eW x (sE x l i) (l.getD i (0,0)):=by grind[bS]
def Cw(x:cn)(l:List cn)(i:Nat):(sE x l i).1.length<=l.length+1:=by grind[yX]
abbrev p4F(l:List cn)(x:cn)(i:Nat)(a:List cn×Bool):Fr:=[(0,oS.sl l),(3,.e (.one (.ptr 0 0))),(5,.e (.one (.vec 1 2 a.1.length (oS.fn a.1)))),(6,dB a.2),(7,dI i)]
abbrev p4B(x:cn)(a:List cn):List aP:=[.cells 81 [.c (.int .i64 x.1),.c (.int .i64 x.2)],.vec 81 2 a.length (oS.fn a)]
def OL(l:List cn)(x:cn)(p:l.length<=4000000):Ev X 101 [oS.sl l,Zd x] [] (oS.sl (gp l x)) []:=by
 refine Ev.bQ Tryz.func101 rfl λq=>?_;refine bJ [(1000002,ab)] rfl ay ?_;refine AK.iB 5 81 2 rfl rfl ?_;refine dc rfl ay ?_;refine AK.cz 2 (λi=>i<=l.length) (λi:Nat=>p4F l x i (sE x l i)) (λi=>p4B x (sE x l i).1) (λi=>l.length-i) 0 rfl ?_ rfl ?_ rfl (by omega) ?_
 .simp[sE]
 .simp[sE]
 intro i hi;by_cases h:i<l.length
 .have n:=HV (x:=x) h;have k:=Cw x l i;have f:l.getD (i:Int).toNat oS.bZ=l.getD i (0,0):=by grind
  generalize sE x l i=a at n k;obtain⟨a,b⟩:=a;simp only at k;have j:=oS.cu a (l.getD i (0,0));have m:=oS.cu a x;have d:=oS.pC a x (l.getD i (0,0));cases b with
  |true =>
   by_cases heq:(l.getD i (0,0)).1=x.1
   .have c:sE x l (i+1)=(a,ab):=by rw[n];simp only[eW,cj,bm heq]
    refine bJ [(12,ab),(38,af)] rfl ?_ (AK.aQ (i+1) rfl ?_ ?_ ?_ ?_)
    .simp only[az,f,bA,show i81.bytes=16 from rfl,ba,bO,j7,pP,hI,eD,lH,dq,heq,fb,nV,jA,j8,nW,jC,kA,aG,aE];and_intros<;>omega
    .rw[c];simp only[az.cat,az,f,aG,aE];and_intros<;>first|exact j|exact m|exact d|exactλ_ _=>rfl|rfl|omega|simp
    .rw[c];simp only[az.cat,az,f,aG,aE];and_intros<;>first|exact j|exact m|exact d|exactλ_ _=>rfl|rfl|omega|simp
    .grind
    .omega
   .have c:sE x l (i+1)=(a++[l.getD i (0,0)],ab):=by rw[n];simp only[eW,cj,aZ heq]
    refine bJ [(12,ab),(38,ab)] rfl ?_ (AK.aQ (i+1) rfl ?_ ?_ ?_ ?_)
    .simp only[az,f,bA,show i81.bytes=16 from rfl,ba,bO,j7,pP,hI,eD,lH,dq,heq,fb,nV,jA,j8,nW,jC,kA,aG,aE];and_intros<;>omega
    .rw[c];simp only[az.cat,az,f,aG,aE];and_intros<;>first|exact j|exact m|exact d|exactλ_ _=>rfl|rfl|omega|simp
    .rw[c];simp only[az.cat,az,f,aG,aE];and_intros<;>first|exact j|exact m|exact d|grind|rfl|omega|simp
    .grind
    .omega
  |false =>
   by_cases g:x.1<=(l.getD i (0,0)).1
   .by_cases heq:(l.getD i (0,0)).1=x.1
    .have c:sE x l (i+1)=(a++[x],ab):=by rw[n];simp only[eW,bm g,bm heq];rfl
     refine bJ [(12,ab),(25,ab),(38,af)] rfl ?_ (AK.aQ (i+1) rfl ?_ ?_ ?_ ?_)
     .simp only[az,f,bA,show i81.bytes=16 from rfl,ba,bO,j7,pP,hI,eD,lH,dq,g,heq,fb,nV,jA,j8,nW,jC,kA,aG,aE];and_intros<;>omega
     .rw[c];simp only[az.cat,az,f,aG,aE];and_intros<;>first|exact j|exact m|exact d|exactλ_ _=>rfl|rfl|omega|simp
     .rw[c];simp only[az.cat,az,f,aG,aE];and_intros<;>first|exact j|exact m|exact d|grind|rfl|omega|simp
     .grind
     .omega
    .have c:sE x l (i+1)=(a++[x,l.getD i (0,0)],ab):=by rw[n];simp only[eW,bm g,aZ heq];rfl
     refine bJ [(12,ab),(25,ab),(38,ab)] rfl ?_ (AK.aQ (i+1) rfl ?_ ?_ ?_ ?_)
     .simp only[az,f,bA,show i81.bytes=16 from rfl,ba,bO,j7,pP,hI,eD,lH,dq,g,heq,fb,nV,jA,j8,nW,jC,kA,aG,aE];and_intros<;>omega
     .rw[c];simp only[az.cat,az,f,aG,aE];and_intros<;>first|exact j|exact m|exact d|exactλ_ _=>rfl|rfl|omega|simp
     .rw[c];simp only[az.cat,az,f,aG,aE];and_intros<;>first|exact j|exact m|exact d|grind|rfl|omega|simp
     .grind
     .omega
   .have heq:¬(l.getD i (0,0)).1=x.1:=by omega
    have c:sE x l (i+1)=(a++[l.getD i (0,0)],af):=by rw[n];simp only[eW,aZ g];rfl
    refine bJ [(12,ab),(25,af),(38,ab)] rfl ?_ (AK.aQ (i+1) rfl ?_ ?_ ?_ ?_)
    .simp only[az,f,bA,show i81.bytes=16 from rfl,ba,bO,j7,pP,hI,eD,lH,dq,g,heq,fb,nV,jA,j8,nW,jC,kA,aG,aE];and_intros<;>omega
    .rw[c];simp only[az.cat,az,f,aG,aE];and_intros<;>first|exact j|exact m|exact d|exactλ_ _=>rfl|rfl|omega|simp
    .rw[c];simp only[az.cat,az,f,aG,aE];and_intros<;>first|exact j|exact m|exact d|grind|rfl|omega|simp
    .grind
    .omega
 .obtain rfl:i=l.length:=by omega
  have e:=yW x l [];have k:=Cw x l l.length;refine bJ [(12,af)] rfl (by simp) (AK.leaveD rfl rfl ?_);have o:sE x l l.length=l.foldl (eW x) ([],af):=by grind
  rw[o]at k⊢;generalize l.foldl (eW x) ([],af)=a at *;obtain⟨a,b⟩:=a;simp only[mm]at e k;cases b with
  |true =>
   simp only[cj]at e;subst e;exact dc rfl ay (AK.bw rfl)
  |false =>
   simp only[jz,b7]at e;have j:=oS.cu a x;refine dc rfl ?_ (AK.bw rfl ?_)
   .simp only[az,show i81.bytes=16 from rfl,aG,aE];grind
   .rw[<-e];simp only[az.cat,az,aG,aE];and_intros<;>first|exact j|simp
abbrev Qy:dr:=oQ (aL oS) TQ (λl x=>oS.sl (gp l x)) λl _=>[l.length<=4000000]
def VS:ee X 101 Qy:=.sv λl x h=>OL l x h
abbrev AG(p:bG):List cn:=p.2.map λx=>(x.1,p.1)
def ku(l:List bG)(i j:Nat):List cn:=cW (l.take i)++(AG (l.getD i (0,[]))).take j
def rn{l:List bG}{i:Nat}(h:i<l.length):cW (l.take (i+1))=cW (l.take i)++AG (l.getD i (0,[])):=by rw[bS h (0,[])];simp[cW]
theorem Cy(l:List bG)(i:Nat):(cW (l.take i)).length<=(cW l).length:=by
 have h:cW l=cW (l.take i)++cW (l.drop i):=by unfold cW;grind[List.take_append_drop]
 grind
def sF{l:List bG}{i j:Nat}(h:i<l.length):∃r,cW l=ku l i j++r:=by
 have a:cW l=cW (l.take (i+1))++cW (l.drop (i+1)):=by unfold cW;grind[List.take_append_drop]
 refine⟨(AG (l.getD i (0,[]))).drop j++cW (l.drop (i+1)),?_⟩;rw[a,rn h,ku,lS,lS];grind[List.take_append_drop]
theorem Le(l:List cn)(x:cn):(gp l x).length<=l.length+1:=by
 induction l with
 |nil=>simp[gp]
 |cons y r a =>
  simp only[gp];grind
theorem tL(l:List cn):∀a:List cn,(l.foldl gp a).length<=a.length+l.length:=by
 induction l with
 |nil=>grind
 |cons y r b=>grind[Le]
def EN(l:List bG)(y:l.length<=4000000)(u:(cW l).length<=100000):Ev X 56 [cP.sl l] [] (oS.sl (indexOf l)) []:=by
 refine Ev.bQ Tryz.func56 rfl λv=>?_;have a:bE X [(100,K1),(101,Qy)]:=.cons Su (.cons VS .nil);refine cw a rfl ay ?_;refine AK.cz 0 (λi=>i<=l.length/\(cW (l.take i)).all eF=ab) (λi:Nat=>[(0,cP.sl l),(3,oS.sl ((cW (l.take i)).foldl gp [])),(4,dI i)]) (λ_=>[]) (λi=>l.length-i) 0 rfl ?_ rfl ?_ rfl ⟨by omega,rfl⟩ ?_
 .simp[cW]
 .simp
 rintro i ⟨hi,b⟩;by_cases h:i<l.length
 .have e:l.getD (i:Int).toNat cP.bZ=l.getD i (0,[]):=by grind
  have k:=rn h;refine bl a [(11,ab)] rfl (by simp only[az,ba];omega) ?_;refine AK.cz 0 (λj=>j<=(l.getD i (0,[])).2.length/\(ku l i j).all eF=ab) (λj:Nat=>[(0,cP.sl l),(3,oS.sl ((ku l i j).foldl gp [])),(4,dI i),(5,dI j)]) (λ_=>[]) (λj=>(l.getD i (0,[])).2.length-j) 0 rfl ?_ rfl ?_ rfl ⟨by omega,by simpa[ku]using b⟩ ?_
  .simp[ku]
  .simp
  rintro j ⟨x,o⟩;obtain⟨r,p⟩:=sF (l:=l) (j:=j) h;have n:(ku l i j).length<=100000:=by grind
  have m:=tL (ku l i j) [];simp only[gx]at m;have s:(l.getD i (0,[])).2.length<=100000:=by grind[Cy]
  by_cases w:j<(l.getD i (0,[])).2.length
  .have c:(l.getD i (0,[])).2.getD (j:Int).toNat dN.bZ=(l.getD i (0,[])).2.getD j (0,[]):=by grind
   have g:ku l i (j+1)=ku l i j++[(((l.getD i (0,[])).2.getD j (0,[])).1,(l.getD i (0,[])).1)]:=by unfold ku;rw[lS];congr 1;rw[bS (by grind) (0,0)];grind
   cases d:eF (((l.getD i (0,[])).2.getD j (0,[])).1,(l.getD i (0,[])).1)with
   |false =>
    have t:indexOf l=[]:=by obtain⟨r,p⟩:=sF (l:=l) (j:=j+1) h;unfold indexOf;rw[aZ];grind
    refine bl a [(21,ab),(40,af)] rfl ?_ (AK.fE (cp.zero rfl ?_))
    .simp only[az,e,c,d,ba,aG,aE];and_intros<;>omega
    .rw[t];simp
   |true =>
    refine bl a [(21,ab),(40,ab)] rfl ?_ (AK.aQ (j+1) rfl ?_ ?_ ?_ ?_)
    .simp only[az,e,c,d,bA,oS.list_fn,ba,aG,aE];and_intros<;>first|exact oS.aU _|omega
    .rw[g];simp only[List.foldl_append,lh,List.foldl_nil,az.cat,az,e,c,oS.list_fn,aG,aE];and_intros<;>first|exactλ_ _=>rfl|rfl|omega
    .simp
    .grind
    .omega
  .have q:j=(l.getD i (0,[])).2.length:=by omega
   have f:ku l i j=cW (l.take (i+1)):=by rw[k,ku];grind[List.length_map]
   refine bl a [(21,af)] rfl ?_ (AK.leaveD rfl rfl ?_)
   .simp only[az,e,bO];and_intros<;>omega
   refine cw a rfl ?_ (AK.aQ (i+1) rfl ?_ ?_ ?_ ?_)
   .simp only[az,bA];omega
   .rw[f];simp
   .simp
   .grind
   .omega
 .obtain rfl:i=l.length:=by omega
  rw[dh]at b⊢;refine bl a [(11,af)] rfl (by simp) (AK.leaveD rfl rfl ?_);refine cw a rfl ay (AK.bw rfl ?_);simp[indexOf,b]
abbrev Lf:dr:=kq (aL cP) (λl=>oS.sl (indexOf l)) λl=>[l.length<=4000000,(cW l).length<=100000]
def SD:ee X 56 Lf:=.px λl h=>EN l h.1 h.2
abbrev xt:dr:=oQ aI aS (λk p=>dI (en k p)) λk p=>[cd k=ab,bx p=ab]
abbrev Gw:dr:=kq aS (λp=>dS (eO p)) λp=>[bx p=ab]
def Lg:ee X 103 Gw:=.px λp h=>OE p h
theorem Lh(l:List bo)(x:bo):(gG l x).length=l.length+1:=by
 induction l with
 |nil=>simp[gG]
 |cons y r a=>simp only[gG];split<;>simp[a]
def qA(k:Int)(ps:List Bs):List bo:=ps.foldl (λl p=>gG l (en k p,eO p)) []
theorem sG(k:Int)(ps:List Bs):(qA k ps).length=ps.length:=by
 have h:∀(ps:List Bs) (a:List bo),(ps.foldl (λl p=>gG l (en k p,eO p)) a).length=a.length+ps.length:=by
  intro ps;induction ps with
  |nil=>grind
  |cons p r b=>grind[Lh]
 have:=h ps [];rw[gx,bC]at this;exact this
def Lj{k:Int}{ps:List Bs}{i:Nat}(h:i<ps.length):qA k (ps.take (i+1))=gG (qA k (ps.take i)) (en k (ps.getD i []),eO (ps.getD i [])):=by unfold qA;grind[bS]
abbrev pkB(no:Int)(l:List bo):aP:=.cells 37 [.c (.int .i64 no),.c (.sl af 2 l.length (dN.fn l))]
theorem Cz{s r:Bs}(h:b6 s=ab)(a:∀b∈r,b∈s):b6 r=ab:=by unfold b6 at h⊢;grind
def xu{t:Bs}(b:b6 t=ab):∀k f,∀p∈fp t k f,bx p=ab
 |0,_,p,a=>by simp[fp]at a
 |k+1,f,p,a=>by
  simp only[fp]at a;split at a
  .rename_i h;have c:=nC t f h;rcases eE.1 a with rfl|a
   .have d:((t.drop f).take (cutAt t f-f)).length=cutAt t f-f:=by grind
    simp only[bx,bR,ba];grind[Cz]
   .exact xu b k _ p a
  grind
def nH{t:Bs}(a:b6 t=ab):∀p∈pieces t,bx p=ab:=xu a _ _
def uv(t:Bs):∀k f,(fp t k f).length<=k
 |0,_=>bh _
 |k+1,f=>by
  simp only[fp];split
  .have:=uv t k (cutAt t f);grind
  .simp
def kv(t:Bs):(pieces t).length<=t.length:=uv t _ _
def gK(t:List bz):List Bs:=t.flatMap λf=>pieces f.2
def yY{t:List bz}{i:Nat}(h:i<t.length):gK (t.take (i+1))=gK (t.take i)++pieces (t.getD i ([],[])).2:=by rw[bS h ([],[])];simp[gK]
def Gx(t:List bz)(i:Nat):(gK (t.take i)).length<=(gK t).length:=by
 have h:gK t=gK (t.take i)++gK (t.drop i):=by unfold gK;grind[List.take_append_drop]
 grind
def tK(k:Int)(l:List cn)(ps:List Bs):∀a:List Bs,(ps.foldl (iE k l) a).length<=a.length+ps.length:=by
 induction ps with
 |nil=>grind
 |cons p r b =>
  intro a;have d:=b (iE k l a p);have c:(iE k l a p).length<=a.length+1:=by unfold iE;split<;>simp
  grind
abbrev Lk:dr:=oQ (aL oS) aI (λl n=>dI (mI l n)) λl _=>[l.length<=4000000]
def SE:ee X 97 Lk:=.sv λl n h=>KY l n h
abbrev Qz:dr:=oQ (aL cS) aS (λl p=>dB (l.contains p)) λl _=>[l.length<=4000000]
def VT:ee X 99 Qz:=.sv λl p h=>OC l p h
abbrev dV0(a:List Bs):D:=.e (.one (.vec 0 1 a.length (cS.fn a)))
structure sC(t:List bz):Prop where
 len:t.length<=4000000
 sY:∀f∈t,b6 f.2=ab/\f.2.length<=4000000
 all:(gK t).length<=100000
def Lb(k:Int)(t:List bz)(l:List cn)(hk:cd k=ab)(q:sC t)(A:l.length<=4000000):Ev X 55 [dI k,cF.sl t,oS.sl l] [] (cS.sl (dz k t l)) []:=by
 refine Ev.bQ Tryz.func55 rfl λB=>?_;have c:bE X [(96,Gu),(98,xt),(97,Lk),(99,Qz)]:=.cons K8 (.cons xo (.cons SE (.cons VT .nil)));refine bl c [(1000002,ab)] rfl ay ?_;refine AK.iB 7 9 1 rfl rfl ?_;refine cw c rfl ay ?_;refine AK.cz 1 (λi=>i<=t.length) (λi:Nat=>[(0,dI k),(1,cF.sl t),(2,oS.sl l),(7,dV0 ((gK (t.take i)).foldl (iE k l) [])),(8,dI i)]) (λi=>[.vec 9 1 ((gK (t.take i)).foldl (iE k l) []).length (cS.fn ((gK (t.take i)).foldl (iE k l) []))]) (λi=>t.length-i) 0 rfl ?_ rfl ?_ rfl (by omega) ?_
 .simp[gK]
 .simp[gK]
 intro i hi;by_cases h:i<t.length
 .have w:t.getD (i:Int).toNat cF.bZ=t.getD i ([],[]):=by grind
  have n:t.getD i ([],[])∈t:=by grind
  obtain⟨y,q2⟩:=q.sY _ n;have g:=yY h;have s:=Gx t (i+1);have v:=q.all;have z:=q.len;have r:=nH y;generalize t.getD i ([],[])=f at *;rw[g,c7]at s;refine bl c [(15,ab)] rfl ?_ ?_
  .simp only[az,w,y,ba,aG,aE];and_intros<;>omega
  rw[w];refine AK.cz 1 (λj=>j<=(pieces f.2).length) (λj:Nat=>[(0,dI k),(1,cF.sl t),(2,oS.sl l),(7,dV0 ((gK (t.take i)++(pieces f.2).take j).foldl (iE k l) [])),(8,dI i),(9,cS.sl (pieces f.2)),(10,dI j)]) (λj=>[.vec 9 1 ((gK (t.take i)++(pieces f.2).take j).foldl (iE k l) []).length (cS.fn ((gK (t.take i)++(pieces f.2).take j).foldl (iE k l) []))]) (λj=>(pieces f.2).length-j) 0 rfl ?_ rfl ?_ rfl (by omega) ?_
  .simp
  .simp
  intro j D;have o:=tK k l (gK (t.take i)++(pieces f.2).take j) [];simp only[gx,c7,List.length_take]at o;by_cases C:j<(pieces f.2).length
  .have b:(pieces f.2).getD (j:Int).toNat cS.bZ=(pieces f.2).getD j []:=by grind
   have e:bx ((pieces f.2).getD j [])=ab:=r _ (by grind);have a:(gK (t.take i)++(pieces f.2).take (j+1)).foldl (iE k l) []=iE k l ((gK (t.take i)++(pieces f.2).take j).foldl (iE k l) []) ((pieces f.2).getD j []):=by grind[bS]
   generalize(gK (t.take i)++(pieces f.2).take j).foldl (iE k l) []=out at *;generalize(pieces f.2).getD j []=p at *;have u:=cS.cu out p;by_cases d:mI l (en k p)=0
   .cases x:out.contains p with
    |true =>
     rw[iE,aZ (by grind)]at a;refine bl c [(27,ab),(38,ab),(45,ab)] rfl ?_ (AK.aQ (j+1) rfl ?_ ?_ ?_ ?_)
     .simp only[az,b,hk,e,d,x,bA,cS.list_fn,oS.list_fn,jA,ba,aG,aE];and_intros<;>first|exact cS.aU _|exact oS.aU _|omega
     .rw[a];simp
     .rw[a];simp
     .grind
     .omega
    |false =>
     rw[iE,bm (by grind)]at a;refine bl c [(27,ab),(38,ab),(45,af)] rfl ?_ (AK.aQ (j+1) rfl ?_ ?_ ?_ ?_)
     .simp only[az,b,hk,e,d,x,bA,show i9.bytes=16 from rfl,cS.list_fn,oS.list_fn,jA,ba,aG,aE];and_intros<;>first|exact cS.aU _|exact oS.aU _|omega
     .rw[a];simp only[az.cat,az,b,c7,eU,gx,aG,aE];and_intros<;>first|exactλ_ _=>rfl|exact u|rfl|omega
     .rw[a];simp only[az.cat,az,b,c7,eU,gx,aG,aE];and_intros<;>first|exact u|rfl|omega
     .grind
     .omega
   .rw[iE,aZ (by grind)]at a;refine bl c [(27,ab),(38,af)] rfl ?_ (AK.aQ (j+1) rfl ?_ ?_ ?_ ?_)
    .simp only[az,b,hk,e,bA,oS.list_fn,eD,dq,d,nV,ba,aG,aE];and_intros<;>first|exact oS.aU _|omega
    .rw[a];simp
    .rw[a];simp
    .grind
    .omega
  .have m:j=(pieces f.2).length:=by omega
   refine bl c [(27,af)] rfl (by simp only[az,bO];omega) (AK.leaveD rfl rfl ?_);refine cw c rfl ?_ (AK.aQ (i+1) rfl ?_ ?_ ?_ ?_)
   .simp only[az,bA];omega
   .rw[g,m,dh];simp
   .rw[g,m,dh];simp
   .grind
   .omega
 .obtain rfl:i=t.length:=by omega
  rw[dh];refine bl c [(15,af)] rfl (by simp) (AK.leaveD rfl rfl ?_);refine cw c rfl ay (AK.bw rfl ?_);simp[dz,gK]
abbrev lF(k:Int)(ps:List Bs):List Int:=ps.map (en k)
abbrev m0(k:Int)(t:List bz):List jT:=t.map (oH k)
abbrev QA(no:Int)(ls:List jT):List aP:=[.cells 41 [.c (.int .i64 0),.c (.sl ab 0 0 λ_=>[])],.cells 41 [.c (.int .i64 no),.vec 2 2 ls.length (cL.fn ls)],.vec 69 2 ls.length (cL.fn ls)]
def OH(no k:Int)(t:List bz)(hk:cd k=ab)(p:sC t):Ev X 58 [dI no,dI k,cF.sl t] [] (M7 (ft no k t)) []:=by
 refine Ev.qG tok Tryz.func58 rfl rfl rfl λy=>?_;have a:bE X [(96,Gu),(98,xt)]:=.cons K8 (.cons xo .nil);refine bl a [(1000002,ab)] rfl ay ?_;refine AK.g7 1 1 69 2 (cL.fn []) rfl rfl ?_;refine cw a rfl ay ?_;refine AK.cz 3 (λi=>i<=t.length) (λi:Nat=>[(1,dI k),(2,cF.sl t),(6,.e (.one (.ptr 0 0))),(7,.e (.one (.ptr 1 0))),(8,dI i)]) (λi=>QA no (m0 k (t.take i))) (λi=>t.length-i) 0 rfl ?_ rfl ?_ rfl (by omega) ?_
 .simp
 .simp
 intro i hi;by_cases h:i<t.length
 .have m:t.getD (i:Int).toNat cF.bZ=t.getD i ([],[]):=by grind
  have g:t.getD i ([],[])∈t:=by grind
  obtain⟨s,q2⟩:=p.sY _ g;have u:=p.len;have o:=nH s;have v:=kv (t.getD i ([],[])).2;have d:m0 k (t.take (i+1))=m0 k (t.take i)++[oH k (t.getD i ([],[]))]:=by grind[bS]
  have x:(m0 k (t.take i)).length=i:=by grind
  generalize t.getD i ([],[])=f at *;generalize m0 k (t.take i)=ls at *;refine bl a [(18,ab),(1000007,ab)] rfl ?_ ?_
  .simp only[az,m,s,ba,aG,aE];and_intros<;>omega
  rw[m];refine AK.iB 10 3 1 rfl rfl ?_;refine cw a rfl ay ?_;refine AK.cz 4 (λj=>j<=(pieces f.2).length) (λj:Nat=>[(1,dI k),(2,cF.sl t),(6,.e (.one (.ptr 0 0))),(7,.e (.one (.ptr 1 0))),(8,dI i),(9,cS.sl (pieces f.2)),(10,.e (.one (.vec 3 1 j (cI.fn (lF k ((pieces f.2).take j)))))),(11,dI j)]) (λj=>QA no ls++[.vec 3 1 j (cI.fn (lF k ((pieces f.2).take j)))]) (λj=>(pieces f.2).length-j) 0 rfl ?_ rfl ?_ rfl (by omega) ?_
  .simp
  .simp
  intro j r;by_cases z:j<(pieces f.2).length
  .have b:(pieces f.2).getD (j:Int).toNat cS.bZ=(pieces f.2).getD j []:=by grind
   have n:bx ((pieces f.2).getD j [])=ab:=o _ (by grind);have c:=cI.cu (lF k ((pieces f.2).take j)) (en k ((pieces f.2).getD j []));rw[show(lF k ((pieces f.2).take j)).length=j by grind,show lF k ((pieces f.2).take j)++[en k ((pieces f.2).getD j [])]=lF k ((pieces f.2).take (j+1)) by grind[bS]]at c;refine bl a [(31,ab)] rfl ?_ (AK.aQ (j+1) rfl ?_ ?_ ?_ ?_)
   .simp only[az,b,hk,n,bA,show i3.bytes=8 from rfl,ba,aG,aE];and_intros<;>omega
   .simp only[az.cat,az,b,aG,aE];and_intros<;>first|exactλ_ _=>rfl|exact c|rfl|omega
   .simp only[az.cat,az,b,aG,aE];and_intros<;>first|exactλ_ _=>rfl|exact c|rfl|omega
   .grind
   .omega
  .have l:j=(pieces f.2).length:=by omega
   rw[l,dh];have c:=cL.cu ls (oH k f);have q:ls.length+1=(ls++[oH k f]).length:=by simp
   have w:cL.enc (oH k f)=[C.str f.1,C.sl af 1 (pieces f.2).length (cI.fn (lF k (pieces f.2)))]:=by show[C.str f.1,C.sl af 1 (lF k (pieces f.2)).length (cI.fn (lF k (pieces f.2)))]=_;grind
   rw[w,<-d]at c;rw[<-d]at q;refine bl a [(31,af)] rfl (by simp only[az,bO];omega) (AK.leaveD rfl rfl ?_);refine cw a rfl ?_ (AK.aQ (i+1) rfl ?_ ?_ ?_ ?_)
   .simp only[az,bA,show i69.bytes=40 from rfl,aG,aE];and_intros<;>omega
   .simp
   .simp only[az.cat,az,m,aG,aE];and_intros<;>first|exact cv.same|exact c|exact q|rfl
   .grind
   .omega
 .obtain rfl:i=t.length:=by omega
  rw[dh];refine bl a [(18,af)] rfl (by simp) (AK.leaveD rfl rfl ?_);refine cw a rfl ay ?_;refine AK.mG () [] rfl rfl rfl rfl rfl rfl rfl rfl ?_ rfl rfl rfl rfl (λj r=>absurd r (by simp));simp[ft]
def nJ(f g:Nat->List C):cC 0 f g=g:=by funext i;simp[cC]
abbrev tN(s:bn):aP:=.cells 27 [.c (.sl af 2 s.1.length (cP.fn s.1)),.c (.sl af 2 s.2.1.length (gf.fn s.2.1)),.c (.sl af 2 s.2.2.length (cH.fn s.2.2))]
def Dy(ps:List bG)(q:Nat->ah)(j:Nat):List C:=[.int .i64 (ps.getD j (0,[])).1,.val (q j)]
def Bl(ps:List bG)(q:Nat->ah)(i:Nat):Mem->Prop:=λM=>∀j,j<i->Rd M (q j) (.sl af 2 (ps.getD j (0,[])).2.length (dN.fn (ps.getD j (0,[])).2))
def I3(q:Nat->ah)(i:Nat)(v:ah)(j:Nat):ah:=if j=i then v else q j
def MG{ps:List bG}{q:Nat->ah}{i:Nat}{v:ah}:cv (i+1) (cC i (Dy ps q) (λj=>([[.int .i64 (ps.getD i (0,[])).1,.val v]]:List (List C)).getD j [])) (Dy ps (I3 q i v)):=by
 intro j a;by_cases h:j<i
 .simp[cC,h,Dy,I3,show j≠i by omega]
 .obtain rfl:j=i:=by omega
  simp[cC,Dy,I3]
def Bl.up{ps:List bG}{q:Nat->ah}{i:Nat}{bf:m8}{xs:List ah}(o:0<(ps.getD i (0,[])).2.length)(g:gi 2 (ps.getD i (0,[])).2.length (dN.fn (ps.getD i (0,[])).2) xs)(m:∃b cap,bf=.row b cap/\(ps.getD i (0,[])).2.length<=cap/\cap<=9223372036854775807):
  ∀M M',wT M M'->Bl ps q i M->(∀b cap,bf=.row b cap->∀j v,xs[j]?=aa v->M' b j=aa v)->Bl ps (I3 q i (k9 bf (ps.getD i (0,[])).2.length)) (i+1) M':=by
 intro M M' hle hK hx j hj;by_cases h:j<i
 .have:=(hK j h).mono hle;simpa[I3,show j≠i by omega]using this
 .obtain rfl:j=i:=by omega
  obtain⟨b,cap,rfl,l,k⟩:=m;rw[I3,bm rfl];have hx:=hx b cap rfl;refine .sl b 0 (λd e=>xs.getD (d*2+e) ai) l k (λh=>by cases h) (λd a=>g.wid d a) (λ_=>rfl) (λd a e c f=>?_) λd a e c f=>?_
  .obtain⟨v,v1,n⟩:=g.at' d a e c f;grind
  .obtain⟨v,v1,n⟩:=g.at' d a e c f;grind
abbrev PD(s:bn)(i:Nat)(es:Nat->List C)(j:Nat)(l:List gE)(K:Mem->Prop):List aP:=[tN s,.cells 27 [gJ,gJ,gJ],.buf 37 2 i es,.buf 41 2 j (gf.fn l),.buf 106 2 s.2.2.length (cH.fn s.2.2),.cells 27 [.bp 2 (.sl i 2 0 i),.bp 3 (.sl j 2 0 j),.bp 4 (.sl s.2.2.length 2 0 s.2.2.length)],.b8 (PM K)]
def Fq(s:bn)(y:∀p∈s.1,0<p.2.length)(C:s.1.length<=4000000)(m:∀p∈s.1,p.2.length<=4000000)(B:s.2.1.length<=4000000)(t:ov s)(G:s.2.2.length<=4000000):
  eb (ι:=Nat->ah) X 53 [rj s] [] (λ_=>.e (.agg [.bp 0 (.sl s.1.length 2 0 s.1.length),.bp 1 (.sl s.2.1.length 2 0 s.2.1.length),.bp 2 (.sl s.2.2.length 2 0 s.2.2.length)]))
   (λq=>[.buf 37 2 s.1.length (Dy s.1 q),.buf 41 2 s.2.1.length (gf.fn s.2.1),.buf 106 2 s.2.2.length (cH.fn s.2.2),.b8 (PM (Bl s.1 q s.1.length))]):=by
 refine eb.rW tok Tryz.func53 rfl rfl rfl λE=>?_;refine bJ [(1000001,ab)] rfl ay ?_;refine AK.region ?_;refine qz [] 5 rfl ay ?_;refine AK.F0 9 37 2 (cP.fn []) rfl ?_;refine AK.F0 10 41 2 (gf.fn []) rfl ?_;refine AK.F0 11 106 2 (cH.fn []) rfl ?_;refine bJ [(1000002,ab)] rfl ?_ ?_
 .simp only[az,show i106.bytes=16 from rfl,aG,aE];grind
 refine AK.spare 66 2 ?_;refine AK.Ns (ι:=Unit) 6 (λ_=>PM (Bl s.1 (λ_=>ai) 0)) rfl (λv z h=>⟨(),PM.start (λ_ _ h=>absurd h (fL _)) v z h⟩) λ_=>?_;refine dc rfl ay ?_;refine AK.cz 7 (λx:Nat×(Nat->ah)=>x.1<=s.1.length) (λx=>[(1,.e (.one (.ptr 0 0))),(2,.e (.one (.ptr 1 0))),(3,.e (.one (.ptr 5 0))),(4,dI x.1)]) (λx=>PD s x.1 (Dy s.1 x.2) 0 [] (Bl s.1 x.2 x.1)) (λx=>s.1.length-x.1) (0,λ_=>ai) rfl ?_ rfl ?_ rfl (lk _) ?_
 .simp
 .simp[cv,nJ];rfl
 rintro⟨i,d⟩ hi;simp only at hi;by_cases h:i<s.1.length
 .have g:s.1.getD i (0,[])∈s.1:=by grind
  have a:s.1.getD (i:Int).toNat cP.bZ=s.1.getD i (0,[]):=by grind
  have q:=m _ g;have b:=y _ g;rw[<-a]at b q;refine aX [(20,ab),(1000005,ab)] rfl ?_ ?_
  .simp only[az,bA,ba,aG,aE];omega
  refine AK.J8 (ι:=Own (s.1.getD (i:Int).toNat cP.bZ).2) iZ 15 18 8 (λk=>bu k 14)
   (λk=>[.e (.one (.ptr 5 0)),.e (.one (.bp 2 (.sl i 2 0 i))),.e (.one (.ptr 0 0)),cP.sl s.1,dI i,TT [.int .i64 (s.1.getD (i:Int).toNat cP.bZ).1,sP (s.1.getD (i:Int).toNat cP.bZ)],TT [.int .i64 (s.1.getD (i:Int).toNat cP.bZ).1,sP (s.1.getD (i:Int).toNat cP.bZ)],dI (s.1.getD (i:Int).toNat cP.bZ).1,
    .e (.one (.c (.sl ab 2 0 (λj=>[].getD j [])))),.e (.one (.ptr 0 0)),cP.sl s.1,dI i,TT [.int .i64 (s.1.getD (i:Int).toNat cP.bZ).1,sP (s.1.getD (i:Int).toNat cP.bZ)],TT [sP (s.1.getD (i:Int).toNat cP.bZ)],.e (.one (.c (sP (s.1.getD (i:Int).toNat cP.bZ))))].getD k .any)
   (λq k=>[.e (.one (.c (AI _ q))),.e (.agg [.c (.int .i64 (s.1.getD (i:Int).toNat cP.bZ).1),.c (AI _ q)]),.e (.one (.c (.sl ab 2 1 (λj=>[[.int .i64 (s.1.getD (i:Int).toNat cP.bZ).1,AI _ q]].getD j []))))].getD (k-15) .any)
   (λq=>PD s i (Dy s.1 d) 0 [] (Bl s.1 d i)++[HX _ q])
   rfl rfl rfl rfl rfl rfl rfl (λk h=>by have:=cV h;omega) rfl
   ⟨OA.cT tok bE.nil rfl,OA.cT tok bE.nil rfl,OA.cT tok bE.nil rfl,OA.cT tok bE.nil rfl,OA.cT tok bE.nil rfl,OA.eval (ds:=[]) tok bE.nil rfl ?_,OA.cT tok bE.nil rfl,OA.cT tok bE.nil rfl,OA.cT tok bE.nil rfl,OA.cT tok bE.nil rfl,OA.cT tok bE.nil rfl,OA.cT tok bE.nil rfl,OA.eval (ds:=[]) tok bE.nil rfl ?_,OA.cT tok bE.nil rfl,OA.cT tok bE.nil rfl,ay,ay,ay,ay,ay,ay,ay⟩
   (λq=>⟨OA.cT tok bE.nil rfl,OA.cT tok bE.nil rfl,OA.cT tok bE.nil rfl,OA.cT tok bE.nil rfl,OA.cT tok bE.nil rfl,OA.eval (ds:=[]) tok bE.nil rfl ?_,OA.cT tok bE.nil rfl,OA.cT tok bE.nil rfl,OA.cT tok bE.nil rfl,OA.cT tok bE.nil rfl,OA.cT tok bE.nil rfl,OA.cT tok bE.nil rfl,OA.eval (ds:=[]) tok bE.nil rfl ?_,OA.cT tok bE.nil rfl,OA.cT tok bE.nil rfl,ay,OA.cT tok bE.nil rfl,OA.cT tok bE.nil rfl,ay⟩)
   (mD.wF rfl (dT.fresh (VU rfl) rfl rfl rfl b (by show _*24<=_;omega) (Gy _ _))) ?_
  .simp only[az,aE];omega
  .simp only[az,aE];omega
  .simp only[az,aE];omega
  .simp only[az,aE];omega
  rw[a];rw[a]at b q;generalize o:s.1.getD i (0,[])=p at *;intro r;refine aX [(1000004,ab)] rfl ?_ ?_
  .simp only[az,show i37.bytes=32 from rfl,aG,aE];grind
  refine AK.fact (fQ.U2 (l:=7) (n:=p.2.length) (bf:=r.1.1) (xs:=r.1.2) rfl b) λF=>?_;refine AK.merge 6 7 (by decide) rfl rfl (λ_ _ h=>h.1) (PM.add (Bl.up (by grind) (by grind) (by grind))) ?_;have e:=MG (ps:=s.1) (q:=d) (i:=i) (v:=k9 r.1.1 (s.1.getD i (0,[])).2.length);rw[o]at *;refine bt rfl ?_ (AK.aQ (i+1,I3 d i (k9 r.1.1 p.2.length)) rfl ?_ ?_ ?_ ?_)
  .simp only[az,bA,aE];omega
  .simp
  .simp only[az.cat,az,aE,aG];and_intros<;>first|exactλ_ _=>rfl|exact e|rfl
  .grind
  grind
 obtain rfl:i=s.1.length:=by omega
 refine bJ [(20,af)] rfl (by simp) (AK.leaveD rfl rfl ?_);refine dc rfl ay ?_;refine AK.cz 7 (λi=>i<=s.2.1.length) (λi:Nat=>[(1,.e (.one (.ptr 0 0))),(2,.e (.one (.ptr 1 0))),(3,.e (.one (.ptr 5 0))),(5,dI i)]) (λi=>PD s s.1.length (Dy s.1 d) i (s.2.1.take i) (Bl s.1 d s.1.length)) (λi=>s.2.1.length-i) 0 rfl ?_ rfl ?_ rfl (by omega) ?_
 .simp
 .simp[cv]
 intro i hi;by_cases h:i<s.2.1.length
 .have g:s.2.1.getD i (0,[])∈s.2.1:=by grind
  have a:s.2.1.getD (i:Int).toNat gf.bZ=s.2.1.getD i (0,[]):=by grind
  have q:=t _ g;have e:=gf.kE s.2.1 h (0,[]);generalize s.2.1.getD i (0,[])=x at *;refine bJ [(47,ab),(1000010,ab)] rfl ?_ ?_
  .simp only[az,a,ba,true_or,aG,aE];and_intros<;>omega
  rw[a];refine AK.g7 7 1 69 2 (cL.fn []) rfl rfl ?_;refine dc rfl ay ?_;refine AK.cz 9 (λj=>j<=x.2.length) (λj:Nat=>[(1,.e (.one (.ptr 0 0))),(2,.e (.one (.ptr 1 0))),(3,.e (.one (.ptr 5 0))),(5,dI i),(6,.e (.one (.ptr 7 0))),(7,dI j)]) (λj=>PD s s.1.length (Dy s.1 d) i (s.2.1.take i) (Bl s.1 d s.1.length)++[.cells 41 [.c (.int .i64 x.1),.vec 8 2 j (cL.fn (x.2.take j))],.vec 69 2 j (cL.fn (x.2.take j))]) (λj=>x.2.length-j) 0 rfl ?_ rfl ?_ rfl (by omega) ?_
  .simp
  .simp[cv]
  intro j u;by_cases A:j<x.2.length
  .have f:x.2.getD (j:Int).toNat cL.bZ=x.2.getD j ([],[]):=by grind
   have D:=q.2 (x.2.getD j ([],[])) (by grind);have w:=cL.kE x.2 A ([],[]);refine bJ [(66,ab),(2000085,ab)] rfl ?_ (AK.aQ (j+1) rfl ?_ ?_ ?_ ?_)
   .simp only[az,a,f,bA,show i69.bytes=40 from rfl,show i3.bytes=8 from rfl,ba,true_or,aG,aE];and_intros<;>omega
   .simp
   .simp only[az.cat,az,a,f,nJ,bC,aE,aG];and_intros<;>first|exactλ_ _=>rfl|exact w|rfl
   .grind
   .omega
  obtain rfl:j=x.2.length:=by omega
  rw[dh];refine bJ [(66,af)] rfl ?_ (AK.leaveD rfl rfl ?_)
  .simp only[az,a,bO];and_intros<;>omega
  refine dc rfl ?_ (AK.aQ (i+1) rfl ?_ ?_ ?_ ?_)
  .simp only[az,a,bA,show i41.bytes=32 from rfl,aG,aE];and_intros<;>omega
  .simp
  .simp only[az.cat,az,aE,aG];and_intros<;>first|exactλ_ _=>rfl|exact e|rfl
  .grind
  .omega
 obtain rfl:i=s.2.1.length:=by omega
 rw[dh];refine bJ [(47,af)] rfl (by simp) (AK.leaveD rfl rfl ?_);refine dc rfl ay ?_;refine AK.mG d [2,3,4,6] rfl rfl rfl rfl rfl rfl rfl rfl ?_ rfl rfl rfl rfl (λj u=>absurd u (by simp))
 .simp
def MH(l:List bo)(x:bo)(r:l.length<=4000000):Ev X 102 [dN.sl l,SC x] [] (.e (.one (.vec 0 2 (gG l x).length (dN.fn (gG l x))))) [.vec 66 2 (gG l x).length (dN.fn (gG l x))]:=by
 refine Ev.bQ Tryz.func102 rfl λs=>?_;refine bJ [(1000002,ab)] rfl ay ?_;refine AK.iB 5 66 2 rfl rfl ?_;refine dc rfl ay ?_;refine AK.cz 2 (λi=>i<=l.length) (λi:Nat=>p3F l x i (mZ x l i)) (λi=>Zc x (mZ x l i).1) (λi=>l.length-i) 0 rfl ?_ rfl ?_ rfl (by omega) ?_
 .simp[mZ]
 .simp[mZ]
 intro i hi;by_cases h:i<l.length
 .have p:=yV (x:=x) h;have f:=sD x l i;have g:l.getD (i:Int).toNat dN.bZ=l.getD i (0,[]):=by grind
  generalize mZ x l i=a at p f;obtain⟨a,b⟩:=a;simp only at f;have m:=dN.cu a (l.getD i (0,[]));have o:=dN.pC a x (l.getD i (0,[]));cases b with
  |true =>
   have c:mZ x l (i+1)=(a++[l.getD i (0,[])],ab):=p;have k:a.length+1=(a++[l.getD i (0,[])]).length:=by simp
   refine bJ [(12,ab)] rfl ?_ (AK.aQ (i+1) rfl ?_ ?_ ?_ ?_)
   .simp only[az,g,bA,show i66.bytes=24 from rfl,ba,aG,aE];and_intros<;>omega
   .rw[c];simp only[az.cat,az,g,aG,aE];and_intros<;>first|exact k|exact m|exactλ_ _=>rfl|rfl|omega
   .rw[c];simp only[az.cat,az,g,aG,aE];and_intros<;>first|exact k|exact m|exactλ_ _=>rfl|rfl|omega
   .grind
   .omega
  |false =>
   by_cases j:x.1<(l.getD i (0,[])).1
   .have c:mZ x l (i+1)=(a++[x,l.getD i (0,[])],ab):=by rw[p];simp only[iK,bm j];rfl
    have k:a.length+1+1=(a++[x,l.getD i (0,[])]).length:=by simp
    refine bJ [(12,ab),(25,ab)] rfl ?_ (AK.aQ (i+1) rfl ?_ ?_ ?_ ?_)
    .simp only[az,g,bA,show i66.bytes=24 from rfl,j,jC,ba,aG,aE];and_intros<;>omega
    .rw[c];simp only[az.cat,az,g,aG,aE];and_intros<;>first|exact k|exact o|exactλ_ _=>rfl|rfl|omega
    .rw[c];simp only[az.cat,az,g,aG,aE];and_intros<;>first|exact k|exact o|exactλ_ _=>rfl|rfl|omega
    .grind
    .omega
   .have c:mZ x l (i+1)=(a++[l.getD i (0,[])],af):=by rw[p];simp only[iK,aZ j];rfl
    have k:a.length+1=(a++[l.getD i (0,[])]).length:=by simp
    refine bJ [(12,ab),(25,af)] rfl ?_ (AK.aQ (i+1) rfl ?_ ?_ ?_ ?_)
    .simp only[az,g,bA,show i66.bytes=24 from rfl,ba,j,kA,nV,bO,aG,aE];and_intros<;>omega
    .rw[c];simp only[az.cat,az,g,aG,aE];and_intros<;>first|exact k|exact m|exactλ_ _=>rfl|rfl|omega
    .rw[c];simp only[az.cat,az,g,aG,aE];and_intros<;>first|exact k|exact m|exactλ_ _=>rfl|rfl|omega
    .grind
    .omega
 .obtain rfl:i=l.length:=by omega
  have d:=tM x l [];have f:=sD x l l.length;refine bJ [(12,af)] rfl (by simp) (AK.leaveD rfl rfl ?_);have q:mZ x l l.length=l.foldl (iK x) ([],af):=by grind
  rw[q]at f⊢;generalize l.foldl (iK x) ([],af)=a at *;obtain⟨a,b⟩:=a;simp only[mm]at d f;cases b with
  |true =>
   simp only[cj]at d;subst d;refine dc rfl ay (AK.db [1] rfl ?_ ?_ rfl rfl xa)
   .simp
   .rfl
  |false =>
   simp only[jz,b7]at d;have m:=dN.cu a x;refine bJ [(1000012,ab)] rfl ?_ ?_
   .simp only[az,show i66.bytes=24 from rfl,aG,aE];grind
   have n:(a++[x]).length=a.length+1:=by simp
   refine AK.BZ (φ':=[(5,.e (.one (.vec 1 2 (a++[x]).length (dN.fn (a++[x])))))]) (σ':=Zc x (a++[x])) ?_ rfl ?_ rfl ?_
   .rw[<-d];refine dc rfl ay (AK.db [1] rfl ?_ ?_ rfl rfl xa)
    .simp
    .rfl
   .simp only[az.cat,az,n,aG,aE];and_intros<;>first|exact m|rfl
   .simp only[az.cat,az,n,aG,aE];and_intros<;>first|exact m|rfl
def MI[X.gY](l:List bo)(x:bo)(a:l.length<=4000000):eb (ι:=Own (gG l x)) X 102 [dN.sl l,SC x] [] (λq=>.e (.one (.c (AI (gG l x) q)))) (λq=>[HX (gG l x) q]) :=
 Ev.thaw (MH l x a) Tryz.func102 rfl (by simp[vo,ql,mH]) λi hi=>⟨rfl,Gy _ _ i hi⟩
def mkB(no:Int)(L:List bo):Option (Own L)->List bo->List aP
 |none,l=>[.cells 37 [.c (.int .i64 0),.c (.sl ab 0 0 λ_=>[])],pkB no l,.b8 (fQ 66 2 (.nil ae) 0 [])]
 |some q,_=>[.cells 37 [.c (.int .i64 0),.c (.sl ab 0 0 λ_=>[])],.cells 37 [.c (.int .i64 no),.c (AI L q)],HX L q]
def IC[X.gY](no k:Int)(ps:List Bs)(hk:cd k=ab)(t:∀p∈ps,bx p=ab)(z:ps.length<=4000000)(y:0<ps.length):
  eb (ι:=Own (qA k ps)) X 57 [dI no,dI k,cS.sl ps] [] (λq=>.e (.agg [.c (.int .i64 no),.c (AI (qA k ps) q)])) (λq=>[HX (qA k ps) q]):=by
 refine eb.rW tok Tryz.func57 rfl rfl rfl λA=>?_;have f:bE X [(98,xt),(103,Gw),(102,Qx)]:=.cons xo (.cons Lg (.cons VR .nil));refine bl f [(1000002,ab)] rfl ay ?_;refine AK.spare 66 2 ?_;refine cw f rfl ay ?_;refine AK.cz 3 (λx:Option (Own (qA k ps))×Nat=>x.2<=ps.length/\(x.1.isSome=ab↔x.2=ps.length)) (λx=>[(1,dI k),(2,cS.sl ps),(6,.e (.one (.ptr 0 0))),(7,.e (.one (.ptr 1 0))),(8,dI x.2)]) (λx=>mkB no (qA k ps) x.1 (qA k (ps.take x.2))) (λx=>ps.length-x.2) (ae,0) rfl ?_ rfl ?_ rfl ⟨lk _,by grind⟩ ?_
 .simp
 .simp[qA]
 rintro⟨q,i⟩ ⟨hi,s⟩;simp only at hi s;cases q with
 |some q =>
  obtain rfl:i=ps.length:=s.1 rfl;refine bl f [(15,af)] rfl (by simp) (AK.leaveD rfl rfl ?_);refine cw f rfl ay ?_;refine AK.mG q [2] rfl rfl rfl rfl rfl rfl rfl rfl ?_ rfl rfl rfl rfl (λj w=>absurd w (by simp));simp
 |none =>
  have h:i<ps.length:=by grind
  have m:ps.getD (i:Int).toNat cS.bZ=ps.getD i []:=by grind
  have d:bx (ps.getD i [])=ab:=t _ (by grind);have v:=Lj (k:=k) h;have o:=sG k (ps.take i);rw[List.length_take]at o;by_cases B:i+1<ps.length
  .refine bl f [(15,ab)] rfl ?_ (AK.aQ (ae,i+1) rfl ?_ ?_ ?_ ?_)
   .simp only[az,m,hk,d,bA,dN.list_fn,ba,aG,aE];and_intros<;>first|exact dN.aU _|omega
   .simp
   .show az _;rw[v];simp only[az.cat,az,m,dN.list_fn,aG,aE];and_intros<;>first|exactλ_ _=>rfl|rfl|omega
   .grind
   grind
  .have u:i+1=ps.length:=by omega
   have b:qA k ps=gG (qA k (ps.take i)) (en k (ps.getD i []),eO (ps.getD i [])):=by grind
   refine bl f [(15,ab),(1000005,ab)] rfl ?_ ?_
   .simp only[az,ba];omega
   have g:=MI (X:=X) (qA k (ps.take i)) (en k (ps.getD i []),eO (ps.getD i [])) (by omega);rw[<-b]at g;have a:bE X [(98,xt),(103,Gw)]:=.cons xo (.cons Lg .nil);generalize n:ps.getD i []=p at *;generalize qA k (ps.take i)=l at *;refine AK.J8 (ι:=Own (qA k ps)) iZ 14 15 16 (λj=>bu j 13)
    (λj=>([.e (.one (.ptr 1 1)),dN.sl l,dI k,cS.sl ps,dI i,TT [.str (ps.getD (i:Int).toNat cS.bZ)],dS (ps.getD (i:Int).toNat cS.bZ),dI (en k (ps.getD (i:Int).toNat cS.bZ)),cS.sl ps,dI i,TT [.str (ps.getD (i:Int).toNat cS.bZ)],dS (ps.getD (i:Int).toNat cS.bZ),dS (eO (ps.getD (i:Int).toNat cS.bZ)),.e (.agg [.c (.int .i64 (en k (ps.getD (i:Int).toNat cS.bZ))),.c (.str (eO (ps.getD (i:Int).toNat cS.bZ)))])]:List D).getD j .any)
    (λq _=>.e (.one (.c (AI (qA k ps) q)))) (λq=>mkB no (qA k ps) ae l++[HX (qA k ps) q])
    rfl rfl rfl rfl rfl rfl rfl (λj h=>by have:=cV h;omega) rfl
    ⟨OA.cT tok a rfl,OA.cT tok a rfl,OA.cT tok a rfl,OA.cT tok a rfl,OA.cT tok a rfl,OA.eval (ds:=[]) tok a rfl ?_,OA.cT tok a rfl,OA.eval (ds:=[]) tok a rfl ?_,OA.cT tok a rfl,OA.cT tok a rfl,OA.eval (ds:=[]) tok a rfl ?_,OA.cT tok a rfl,OA.eval (ds:=[]) tok a rfl ?_,OA.cT tok a rfl,ay,ay,ay,ay⟩
    (λq=>⟨OA.cT tok a rfl,OA.cT tok a rfl,OA.cT tok a rfl,OA.cT tok a rfl,OA.cT tok a rfl,OA.eval (ds:=[]) tok a rfl ?_,OA.cT tok a rfl,OA.eval (ds:=[]) tok a rfl ?_,OA.cT tok a rfl,OA.cT tok a rfl,OA.eval (ds:=[]) tok a rfl ?_,OA.cT tok a rfl,OA.eval (ds:=[]) tok a rfl ?_,OA.cT tok a rfl,ay,ay⟩)
    (mD.p9 (n▸g) [] rfl rfl rfl rfl rfl rfl rfl (λ_=>rfl) rfl (λ_=>rfl)) ?_
   all_goals first|(simp only[az,m,hk,d,aE,aG];omega)|(simp only[az.cat,az,m,hk,d,and_self];done)|skip
   intro r;refine bl a [(1000004,ab)] rfl ay ?_;refine AK.swap 2 3 (by decide) rfl rfl (λ_ _ h=>h.1) (λ_ _ h=>h.1) ?_;refine cw a rfl ?_ (AK.aQ (aa r,i+1) rfl ?_ ?_ ?_ ?_)
   .simp only[az,bA];omega
   .simp
   .simp
   .grind
   grind
def AH{o:au}{k:ak->D}{σ:List aP}{x y:ak}{j:Array aj}{a b:Int}(m:Int)(h:o.op=.call {callee:=.builtin .max,args:=#[x,y],argTypes:=j})(p:k x=dI a)(q:k y=dI b)(r:max a b=m)(n:bA .i64 m):bF ag o k σ (dI m) σ:=by
 refine .quiet λs l t c=>?_;have i:=c x;have g:=c y;rw[p]at i;rw[q]at g;replace i:=eT i;replace g:=eT g;generalize d:l x=vx at i;generalize f:l y=vy at g;cases i;cases g;have e:(if a<b then b else a)=m:=by grind
 exact⟨.int .i64 m,by simp[aw,h,resolve,invoke,builtin,d,f,Builtin.max_,Builtin.max2,e],.int n,by simp[aw,h,resolve,invoke,builtin,d,f,Builtin.max_,Builtin.max2]⟩
def cO(s:bn):Int:=if s.1.length=0 then 1 else(s.1.getD (s.1.length-1) (0,[])).1+1
def oI(l:List (Int×Int)):Int:=l.foldl (λm h=>max m (h.2+1)) 1
def dv(s:bn):Int:=if s.2.1.length=0 then oI s.2.2 else max (oI s.2.2) ((s.2.1.getD (s.2.1.length-1) (0,[])).1+1)
structure rq(st:bn):Prop where
 p:∀x∈st.1,-4000000<=x.1/\x.1<=4000000
 s:∀x∈st.2.1,-4000000<=x.1/\x.1<=4000000
 h:∀x∈st.2.2,-4000000<=x.2/\x.2<=4000000
def nL(l:List (Int×Int))(h:∀x∈l,-4000000<=x.2/\x.2<=4000000):1<=oI l/\oI l<=4000001:=by
 have:∀(l:List (Int×Int)) (m:Int),(∀x∈l,-4000000<=x.2/\x.2<=4000000)->1<=m->m<=4000001->1<=l.foldl (λm h=>max m (h.2+1)) m/\l.foldl (λm h=>max m (h.2+1)) m<=4000001:=by
  intro l;induction l with
  |nil=>grind
  |cons x r a =>
   grind
 exact this l 1 h (by omega) (by omega)
def EP{l:List (Int×Int)}{i:Nat}(h:i<l.length):oI (l.take (i+1))=max (oI (l.take i)) ((l.getD i (0,0)).2+1):=by unfold oI;grind[bS]
def e9{α:Type}{l:List α}{i:Nat}(h:i<l.length)(d:α):l.getD i d∈l:=by grind
def HW(s:bn)(d:lD s)(b:rq s):Ev X 54 [rj s] [] (.eX [.one (.c (.int .i64 (cO s))),.one (.c (.int .i64 (dv s)))]) []:=by
 refine Ev.bQ Tryz.func54 rfl λo=>?_;have k:=d.p;have l:=d.sn;have n:=d.h;apply AK.join [(1,.e (.one (.ptr 0 0))),(4,dI (cO s)),(5,dI 1)] [tN s]
 .intro out;by_cases h:s.1.length=0
  .refine bJ [(10,af),(1000005,ab)] rfl (by simp only[az,bO];omega) ?_;exact out _ _ rfl (by simp[cO,h])
  .have f:=b.p _ (e9 (show s.1.length-1<s.1.length by omega) (0,[]));have a:s.1.getD ((s.1.length:Int)-1).toNat cP.bZ=s.1.getD (s.1.length-1) (0,[]):=by rw[show((s.1.length:Int)-1).toNat=s.1.length-1 by omega];rfl
   refine bJ [(10,ab),(1000005,ab)] rfl ?_ ?_
   .simp only[az,a,bA,ba,aG,aE];and_intros<;>omega
   exact out _ _ rfl (by simp only[az.cat,az,cO,aZ h,a,aG,aE])
 refine dc rfl ay ?_;refine AK.cz 1 (λi=>i<=s.2.2.length) (λi:Nat=>[(1,.e (.one (.ptr 0 0))),(4,dI (cO s)),(5,dI (oI (s.2.2.take i))),(6,dI i)]) (λi=>[tN s]) (λi=>s.2.2.length-i) 0 rfl ?_ rfl ?_ rfl (by omega) ?_
 .simp[oI]
 .simp
 intro i hi;by_cases h:i<s.2.2.length
 .have f:=b.h _ (e9 h (0,0));have m:=nL (s.2.2.take i) λx j=>b.h x (fV j);have a:s.2.2.getD (i:Int).toNat cH.bZ=s.2.2.getD i (0,0):=by grind
  have g:=EP h;refine bJ [(25,ab)] rfl ?_ ?_
  .simp only[az,a,bA,ba,aG,aE];and_intros<;>omega
  rw[a];refine AK.law (AH (oI (s.2.2.take (i+1))) rfl rfl rfl g.symm (by simp only[bA];omega)) rfl rfl ?_;refine dc rfl ?_ (AK.aQ (i+1) rfl ?_ ?_ ?_ ?_)
  .simp only[az,bA];omega
  .simp
  .simp
  .grind
  .omega
 obtain rfl:i=s.2.2.length:=by omega
 rw[dh];refine bJ [(25,af)] rfl (by simp) (AK.leaveD rfl rfl ?_);have m:=nL s.2.2 b.h;by_cases h:s.2.1.length=0
 .refine bJ [(40,af)] rfl (by simp only[az,bO];omega) (AK.bw rfl ?_);simp[dv,h]
 .have f:=b.s _ (e9 (show s.2.1.length-1<s.2.1.length by omega) (0,[]));have a:s.2.1.getD ((s.2.1.length:Int)-1).toNat gf.bZ=s.2.1.getD (s.2.1.length-1) (0,[]):=by rw[show((s.2.1.length:Int)-1).toNat=s.2.1.length-1 by omega];rfl
  refine bJ [(40,ab)] rfl ?_ ?_
  .simp only[az,a,bA,ba,aG,aE];and_intros<;>omega
  rw[a];refine AK.law (AH (dv s) rfl rfl rfl (by rw[dv,aZ h]) (by rw[dv,aZ h];simp only[bA];omega)) rfl rfl ?_;exact dc rfl ay (AK.bw rfl)
abbrev SF(s:bn)(i:Nat)(p:List bG)(j:Nat)(q:List gE):List aP:=[tN s,.cells 27 [gJ,gJ,gJ],.vec 106 2 s.2.2.length (cH.fn s.2.2),.cells 27 [.vec 4 2 i (cP.fn p),.vec 5 2 j (gf.fn q),.vec 2 2 s.2.2.length (cH.fn s.2.2)],.vec 37 2 i (cP.fn p),.vec 41 2 j (gf.fn q)]
def EO(s:bn)(n:s.1.length<=4000000)(f:∀p∈s.1,p.2.length<=4000000)(u:s.2.1.length<=4000000)(g:ov s)(r:s.2.2.length<=4000000):
  Ev X 53 [rj s] [] (.e (.agg [.vec 0 2 s.1.length (cP.fn s.1),.vec 1 2 s.2.1.length (gf.fn s.2.1),.vec 2 2 s.2.2.length (cH.fn s.2.2)])) [.vec 37 2 s.1.length (cP.fn s.1),.vec 41 2 s.2.1.length (gf.fn s.2.1),.vec 106 2 s.2.2.length (cH.fn s.2.2)]:=by
 refine Ev.qG tok Tryz.func53 rfl rfl rfl λt=>?_;refine bJ [(1000002,ab)] rfl ?_ ?_
 .simp only[az,show i106.bytes=16 from rfl,aG,aE,true_or];grind
 refine AK.g7 3 0 37 2 (cP.fn []) rfl rfl ?_;refine AK.g7 3 1 41 2 (gf.fn []) rfl rfl ?_;refine dc rfl ay ?_;refine AK.cz 6 (λi=>i<=s.1.length) (λi:Nat=>[(1,.e (.one (.ptr 0 0))),(2,.e (.one (.ptr 1 0))),(3,.e (.one (.ptr 3 0))),(4,dI i)]) (λi=>SF s i (s.1.take i) 0 []) (λi=>s.1.length-i) 0 rfl ?_ rfl ?_ rfl (by omega) ?_
 .simp
 .simp[cv,nJ]
 intro i hi;by_cases h:i<s.1.length
 .have d:s.1.getD i (0,[])∈s.1:=by grind
  have a:s.1.getD (i:Int).toNat cP.bZ=s.1.getD i (0,[]):=by grind
  have q:=f _ d;refine bJ [(20,ab),(2000038,ab)] rfl ?_ (AK.aQ (i+1) rfl ?_ ?_ ?_ ?_)
  .simp only[az,a,bA,show i37.bytes=32 from rfl,show i66.bytes=24 from rfl,ba,true_or,aG,aE];and_intros<;>omega
  .simp
  .have e:=cP.kE s.1 h (0,[]);simp only[az.cat,az,a,nJ,bC,aE,aG];and_intros<;>first|exactλ_ _=>rfl|exact e|rfl|omega
  .grind
  .omega
 obtain rfl:i=s.1.length:=by omega
 rw[dh];refine bJ [(20,af)] rfl (by simp) (AK.leaveD rfl rfl ?_);refine dc rfl ay ?_;refine AK.cz 6 (λi=>i<=s.2.1.length) (λi:Nat=>[(1,.e (.one (.ptr 0 0))),(2,.e (.one (.ptr 1 0))),(3,.e (.one (.ptr 3 0))),(5,dI i)]) (λi=>SF s s.1.length s.1 i (s.2.1.take i)) (λi=>s.2.1.length-i) 0 rfl ?_ rfl ?_ rfl (by omega) ?_
 .simp
 .simp[cv]
 intro i hi;by_cases h:i<s.2.1.length
 .have d:s.2.1.getD i (0,[])∈s.2.1:=by grind
  have a:s.2.1.getD (i:Int).toNat gf.bZ=s.2.1.getD i (0,[]):=by grind
  have q:=g _ d;have e:=gf.kE s.2.1 h (0,[]);generalize s.2.1.getD i (0,[])=x at *;refine bJ [(47,ab),(1000010,ab)] rfl ?_ ?_
  .simp only[az,a,ba,true_or,aG,aE];and_intros<;>omega
  rw[a];refine AK.g7 6 1 69 2 (cL.fn []) rfl rfl ?_;refine dc rfl ay ?_;refine AK.cz 8 (λj=>j<=x.2.length) (λj:Nat=>[(1,.e (.one (.ptr 0 0))),(2,.e (.one (.ptr 1 0))),(3,.e (.one (.ptr 3 0))),(5,dI i),(6,.e (.one (.ptr 6 0))),(7,dI j)]) (λj=>SF s s.1.length s.1 i (s.2.1.take i)++[.cells 41 [.c (.int .i64 x.1),.vec 7 2 j (cL.fn (x.2.take j))],.vec 69 2 j (cL.fn (x.2.take j))]) (λj=>x.2.length-j) 0 rfl ?_ rfl ?_ rfl (by omega) ?_
  .simp
  .simp[cv]
  intro j k;by_cases m:j<x.2.length
  .have b:x.2.getD (j:Int).toNat cL.bZ=x.2.getD j ([],[]):=by grind
   have o:=q.2 (x.2.getD j ([],[])) (by grind);have l:=cL.kE x.2 m ([],[]);refine bJ [(66,ab),(2000085,ab)] rfl ?_ (AK.aQ (j+1) rfl ?_ ?_ ?_ ?_)
   .simp only[az,a,b,bA,show i69.bytes=40 from rfl,show i3.bytes=8 from rfl,ba,true_or,aG,aE];and_intros<;>omega
   .simp
   .simp only[az.cat,az,a,b,nJ,bC,aE,aG];and_intros<;>first|exactλ_ _=>rfl|exact l|rfl
   .grind
   .omega
  obtain rfl:j=x.2.length:=by omega
  rw[dh];refine bJ [(66,af)] rfl ?_ (AK.leaveD rfl rfl ?_)
  .simp only[az,a,bO];and_intros<;>omega
  refine dc rfl ?_ (AK.aQ (i+1) rfl ?_ ?_ ?_ ?_)
  .simp only[az,a,bA,show i41.bytes=32 from rfl,aG,aE];and_intros<;>omega
  .simp
  .simp only[az.cat,az,aE,aG];and_intros<;>first|exactλ_ _=>rfl|exact e|rfl|omega
  .grind
  .omega
 obtain rfl:i=s.2.1.length:=by omega
 rw[dh];refine bJ [(47,af)] rfl (by simp) (AK.leaveD rfl rfl ?_);refine dc rfl ay ?_;refine AK.mG () [4,5,2] rfl rfl rfl rfl rfl rfl rfl rfl ?_ rfl rfl rfl rfl (λj k=>absurd k (by simp))
 .simp
def K9(a b:Nat):min (a:Int) (b:Int)=((min a b:Nat):Int):=by grind
def fH(k:Int):Nat->Int->List Bs->List bG
 |0,_,_=>[]
 |f+1,no,ps=>if 0<ps.length then g6 no k (ps.take 4)::fH k f (no+1) (ps.drop 4)else[]
def sx(k:Int)(s:bn)(t:List bz):List bG:=fH k (dz k t (indexOf s.1)).length (cO s) (dz k t (indexOf s.1))
def gm(k:Int)(s:bn)(t:List bz):Bool:=decide (20<s.1.length+(sx k s t).length)||(decide (99<cO s+(sx k s t).length-1)||(decide (20<dv s)||decide (9<=s.2.2.length)))
def dL(k:Int)(s:bn)(by_:Int)(t:List bz):bn:=(s.1++sx k s t,s.2.1++[ft (dv s) k t],s.2.2++[(by_,dv s)])
theorem xq(k:Int):∀f no ps,(fH k f no ps).length<=f
 |0,_,_=>bh _
 |f+1,no,ps=>by
  simp only[fH];split
  .have:=xq k f (no+1) (ps.drop 4);grind
  .simp
abbrev Qv:dr:=Gg aI aI (aL cF) (λno k t=>M7 (ft no k t)) λ_ k t=>[cd k=ab,sC t]
def VL:ee X 58 Qv:=.M6 λno k t h=>OH no k t h.1 h.2
abbrev La:dr:=Gg aI (aL cF) (aL oS) (λk t l=>cS.sl (dz k t l)) λk t l=>[cd k=ab,sC t,l.length<=4000000]
def Sz:ee X 55 La:=.M6 λk t l h=>Lb k t l h.1 h.2.1 h.2.2
def kt{k:Int}{t:List bz}{l:List cn}(c:sC t):(∀p∈dz k t l,bx p=ab)/\(dz k t l).length<=100000:=by
 constructor
 .have:∀(ps a:List Bs),(∀p∈ps,bx p=ab)->(∀p∈a,bx p=ab)->∀p∈ps.foldl (iE k l) a,bx p=ab:=by
   intro ps;induction ps with
   |nil=>grind
   |cons q r d =>
    intro a h e;refine d _ (λp b=>h p (qM _ b)) λp b=>?_;unfold iE at b;grind
  refine this _ [] (λp b=>?_) (by simp);obtain⟨f,g,b⟩:=List.mem_flatMap.1 b;exact nH (c.sY f g).1 p b
 .have:=tK k l (gK t) [];have e:=c.all;unfold dz;simp only[gx]at this;exact iP this (by omega)
theorem uu{l:List bG}(h:(cW l).length<=100000):(indexOf l).length<=100000:=by unfold indexOf;grind[tL]
abbrev Y9(s:bn)(b:Bool):D:=.eX [.agg [.c (.sl af 2 s.1.length (cP.fn s.1)),.c (.sl af 2 s.2.1.length (gf.fn s.2.1)),.c (.sl af 2 s.2.2.length (cH.fn s.2.2))],.one (.c (.bool b))]
def Bl.snoc{ps:List bG}{x:bG}{q:Nat->ah}{bf:m8}{xs:List ah}(d:0<x.2.length)(c:gi 2 x.2.length (dN.fn x.2) xs)(a:∃b cap,bf=.row b cap/\x.2.length<=cap/\cap<=9223372036854775807):
  ∀M M',wT M M'->Bl ps q ps.length M->(∀b cap,bf=.row b cap->∀j v,xs[j]?=aa v->M' b j=aa v)->Bl (ps++[x]) (I3 q ps.length (k9 bf x.2.length)) (ps++[x]).length M':=by
 intro M M' hle hK hx;have e:(ps++[x]).getD ps.length (0,[])=x:=by simp
 have h:=Bl.up (ps:=ps++[x]) (q:=q) (i:=ps.length) (bf:=bf) (xs:=xs) (by grind) (by grind) (by grind) M M' hle (λj hj=>by
  have e2:(ps++[x]).getD j (0,[])=ps.getD j (0,[]):=by grind
  rw[e2];exact hK j hj) hx
 grind
def MJ{ps:List bG}{x:bG}{q:Nat->ah}{v:ah}:cv (ps.length+1) (cC ps.length (Dy ps q) (λj=>([[.int .i64 x.1,.val v]]:List (List C)).getD j [])) (Dy (ps++[x]) (I3 q ps.length v)):=by
 intro j b;by_cases h:j<ps.length
 .have a:(ps++[x]).getD j (0,[])=ps.getD j (0,[]):=by grind
  simp only[cC,h,cj,Dy,I3,a,aZ (show j≠ps.length by omega)]
 .obtain rfl:j=ps.length:=by omega
  have e:(ps++[x]).getD ps.length (0,[])=x:=by simp
  simp only[cC,Dy,I3,e,cj];simp
abbrev ZQ(k by_ no:Int)(s:bn)(t:List bz)(rest:List Bs):Fr:=[(0,dI k),(2,dI by_),(3,cF.sl t),(5,.e (.one (.ptr 0 0))),(8,.e (.one (.ptr 1 0))),(10,.e (.one (.ptr 6 0))),(11,dI no),(12,dI (dv s)),(13,cS.sl rest)]
abbrev PE(s:bn)(ps:List bG)(q:Nat->ah):List aP:=[tN s,.cells 27 [gJ,gJ,gJ],.buf 37 2 ps.length (Dy ps q),.buf 41 2 s.2.1.length (gf.fn s.2.1),.buf 106 2 s.2.2.length (cH.fn s.2.2),.b8 (PM (Bl ps q ps.length)),.cells 27 [.bp 2 (.sl ps.length 2 0 ps.length),.bp 3 (.sl s.2.1.length 2 0 s.2.1.length),.bp 4 (.sl s.2.2.length 2 0 s.2.2.length)]]
def rz[X.gY](k:Int)(s:bn)(by_:Int)(t:List bz)(hk:cd k=ab)(b:lD s)(z:rq s)(A:sC t)(I:(cW s.1).length<=100000)(U:∀p∈s.1,0<p.2.length){y:Bool}(M:gm k s t=y):
  eb (ι:=Nat->ah) X 22 [dI k,rj s,dI by_,cF.sl t] [] (λ_=>cond y (Y9 s af) (.eX [.agg [.bp 0 (.sl (dL k s by_ t).1.length 2 0 (dL k s by_ t).1.length),.c (EK (dL k s by_ t).2.1),.c (Ct (dL k s by_ t).2.2)],.one (.c (.bool ab))]))
   (λq=>cond y [] [.buf 37 2 (dL k s by_ t).1.length (Dy (dL k s by_ t).1 q),.b8 (PM (Bl (dL k s by_ t).1 q (dL k s by_ t).1.length))]):=by
 refine eb.rW tok Tryz.func22 rfl rfl rfl λhf=>?_;have a:bE X [(56,Lf),(55,La),(58,Qv)]:=.cons SD (.cons Sz (.cons VL .nil));have h1:=b.p;have h2:=b.sn;have h3:=b.h;have hix:=uu I;refine cw a rfl ay ?_;refine AK.cP (Fq s U b.p b.p2 b.sn b.s2 b.h) [] rfl (λ_=>rfl) λq0=>?_;refine cw a rfl ay ?_;refine AK.cQ (HW s b z) [] rfl ?_;refine cw a rfl ?_ ?_
 .simp only[az,cP.list_fn,oS.list_fn,cF.list_fn,hk,A];and_intros<;>first|exact cP.aU _|exact oS.aU _|exact cF.aU _|trivial|exact A|omega
 simp only[cP.list_fn,oS.list_fn,cF.list_fn];obtain⟨B,Z⟩:=kt (k:=k) (l:=indexOf s.1) A;have hN:sx k s t=fH k (dz k t (indexOf s.1)).length (cO s) (dz k t (indexOf s.1)):=rfl;generalize dz k t (indexOf s.1)=pc at *;generalize O:sx k s t=np at *;have hpn:-4000000<=cO s/\cO s<=4000001:=by
  unfold cO;split
  .omega
  .rename_i h;have:=z.p _ (e9 (show s.1.length-1<s.1.length by omega) (0,[]));omega
 have W:np.length<=100000:=by grind[xq]
 refine AK.kU (S2:=Nat->ah) 0 rfl rfl (λ_=>True) (λ_=>[(0,dI k),(2,dI by_),(3,cF.sl t),(5,.e (.one (.ptr 0 0))),(8,.e (.one (.ptr 1 0))),(10,.e (.one (.ptr 6 0))),(11,dI (cO s+np.length)),(12,dI (dv s))]) (λq=>PE s (s.1++np) q) 7
  (λx:List Bs×List bG×(Nat->ah)=>(∀p∈x.1,bx p=ab)/\x.2.1.length+x.1.length<=5000000/\s.1.length<=x.2.1.length/\∃f,x.1.length<=f/\s.1++np=x.2.1++fH k f (cO s+(x.2.1.length-s.1.length:Nat)) x.1) (λx=>ZQ k by_ (cO s+(x.2.1.length-s.1.length:Nat)) s t x.1) (λx=>PE s x.2.1 x.2.2) (λx=>x.1.length) (pc,s.1,q0) rfl ?_ rfl ?_ rfl ⟨B,by grind,bh _,pc.length,bh _,by grind⟩ ?_ ?_
 .simp
 .simp
 .rintro out ⟨rest,ps,q⟩ ⟨F,g2,Y,f,g4,L⟩;simp only at F g2 Y g4 L;by_cases h:0<rest.length
  .obtain⟨f,rfl⟩:∃Q,f=Q+1:=⟨f-1,by omega⟩
   simp only[fH,bm h]at L;have hm:bA .i64 ((min rest.length 4:Nat):Int):=by simp only[bA];omega
   refine bl a [(30,ab)] rfl (by simp only[az,ba];omega) ?_;refine AK.law (xe ((min rest.length 4:Nat):Int) rfl rfl rfl (K9 rest.length 4) hm) rfl rfl ?_;have G:c9 rest.length (aa ((min rest.length 4:Nat):Int))-c9 0 ae=min rest.length 4:=by simp[c9]
   have T:cv (rest.length-min rest.length 4) (lZ (min rest.length 4) (cS.fn rest)) (cS.fn (rest.drop 4)):=by
    intro i hi;have h4:min rest.length 4=4:=by omega
    rw[h4];simp only[lZ,mg.fn,AE,ar,oU]
   have hT:cv (c9 rest.length (aa ((min rest.length 4:Nat):Int))-c9 0 ae) (lZ (c9 0 ae) (cS.fn rest)) (cS.fn (rest.take 4)):=by intro i hi;rw[G]at hi;simp only[lZ,c9,mg.fn,AE,ar,bC];grind
   have S:(rest.take 4).length=min rest.length 4:=by grind
   have K:∀p∈rest.take 4,bx p=ab:=λp E=>F p (fV E);have H:=IC (X:=X) (cO s+(ps.length-s.1.length:Nat)) k (rest.take 4) hk K (by omega) (by omega);have hx0:g6 (cO s+(ps.length-s.1.length:Nat)) k (rest.take 4)=(cO s+(ps.length-s.1.length:Nat),qA k (rest.take 4)):=rfl;have w:0<(qA k (rest.take 4)).length:=by grind[sG]
   generalize XW:cO s+(ps.length-s.1.length:Nat)=no at *;have N:-5000000<=no/\no<=10000000:=by omega
   generalize R:qA k (rest.take 4)=MK at *;refine bl a [(1000006,ab)] rfl ay ?_;refine AK.J8 (ι:=Own MK) iZ 7 9 12 (λj=>bu j 6)
    (λj=>([.e (.one (.ptr 6 0)),.e (.one (.bp 2 (.sl ps.length 2 0 ps.length))),dI no,dI k,cS.sl rest,dI (min rest.length 4:Nat),.e (.one (.c (.sl af 1 (c9 rest.length (aa ((min rest.length 4:Nat):Int))-c9 0 ae) (lZ (c9 0 ae) (cS.fn rest)))))]:List D).getD j .any)
    (λr j=>match j with|7=>.e (.agg [.c (.int .i64 no),.c (AI MK r)])|_=>.e (.one (.c (.sl ab 2 1 (λj=>([[.int .i64 no,AI MK r]]:List (List C)).getD j []))))) (λr=>PE s ps q++[HX MK r])
    rfl rfl rfl rfl rfl rfl rfl (λj h=>by have:=cV h;omega) rfl
    ⟨OA.cT tok a rfl,OA.cT tok a rfl,OA.cT tok a rfl,OA.cT tok a rfl,OA.cT tok a rfl,OA.cT tok a rfl,OA.eval (ds:=[]) tok a rfl ?_,ay,ay,ay,ay,ay,ay⟩
    (λr=>⟨OA.cT tok a rfl,OA.cT tok a rfl,OA.cT tok a rfl,OA.cT tok a rfl,OA.cT tok a rfl,OA.cT tok a rfl,OA.eval (ds:=[]) tok a rfl ?_,ay,OA.cT tok a rfl,ay⟩)
    (mD.jK H [] rfl rfl rfl rfl ?_ rfl rfl rfl (λ_=>rfl) rfl (λ_=>rfl)) ?_
   .simp only[fM,az];omega
   .simp only[fM,az];omega
   .simp only[az.cat,az,aG,aE];grind
   intro r;refine bl a [(1000007,ab)] rfl ?_ ?_
   .simp only[az,show i37.bytes=32 from rfl,aG];omega
   refine AK.fact (fQ.U2 (l:=7) (n:=MK.length) (bf:=r.1.1) (xs:=r.1.2) rfl w) λhb=>?_;refine AK.merge 5 7 (by decide) rfl rfl (λ_ _ h=>h.1) (PM.add (Bl.snoc (x:=(no,MK)) w r.2 hb)) ?_;have e:=MJ (ps:=ps) (x:=(no,MK)) (q:=q) (v:=k9 r.1.1 MK.length);have u:(ps++[(no,MK)]).length=ps.length+1:=by simp
   refine cw a rfl ?_ (AK.aQ (rest.drop 4,ps++[(no,MK)],I3 q ps.length (k9 r.1.1 MK.length)) rfl ?_ ?_ ?_ ?_)
   .simp only[az,bA,fM];omega
   .simp only[az.cat,az,u,rG,c9,b9,aG,aE];and_intros<;>first|rfl|omega|exactλ_ _=>rfl|exact T
   .simp only[az.cat,az,u,aG,aE];and_intros<;>first|rfl|exactλ_ _=>rfl|exact e|omega
   .refine⟨λp E=>F p (rE E),by grind,by grind,f,by grind,?_⟩;grind
   grind
  .have e:ps=s.1++np:=by rw[L];cases f<;>simp[fH,h]
   refine bl a [(30,af)] rfl (by simp only[az,bO];omega) (AK.leaveD rfl rfl ?_);refine out q ay rfl ?_ rfl ?_
   .simp only[az.cat,az,e,c7,aG,aE];and_intros<;>first|rfl|omega|exactλ_ _=>rfl
   .simp[e]
 rintro q -;have d:gm k s t=(decide (20<s.1.length+np.length)||(decide (99<cO s+np.length-1)||(decide (20<dv s)||decide (9<=s.2.2.length)))):=by unfold gm;rw[O]
 rw[M]at d;have g:(s.1++np).length=s.1.length+np.length:=c7;have Z2:-4000000<=dv s/\dv s<=4000001:=by
  have:=nL s.2.2 z.h;unfold dv;split
  .omega
  .have:=z.s _ (e9 (show s.2.1.length-1<s.2.1.length by omega) (0,[]));omega
 cases y with
 |true =>
  apply AK.join [(5,.e (.one (.ptr 0 0))),(8,.e (.one (.ptr 1 0)))] (PE s (s.1++np) q)
  .intro out;by_cases c1:20<s.1.length+np.length
   .refine bl a [(53,ab),(1000010,ab)] rfl ?_ (out _ _ rfl (by simp));simp[g];omega
   by_cases c2:99<cO s+np.length-1
   .refine bl a [(53,af),(57,ab),(1000010,ab)] rfl ?_ (out _ _ rfl (by simp));simp[g,bA];omega
   by_cases c3:20<dv s
   .refine bl a [(53,af),(57,af),(61,ab),(1000010,ab)] rfl ?_ (out _ _ rfl (by simp));simp[g,bA];omega
   refine bl a [(53,af),(57,af),(61,af),(67,ab),(1000010,ab)] rfl ?_ (out _ _ rfl (by simp));simp[g,bA];grind
  refine cw a rfl ay ?_;refine AK.cQ (EO s b.p b.p2 b.sn b.s2 b.h) [] rfl ?_;refine cw a rfl ay ?_;refine AK.lC q [] rfl rfl rfl rfl rfl rfl rfl rfl rfl ?_ rfl rfl rfl rfl xa;simp
 |false =>
 have d:=d.symm;simp only[u4,bO]at d;obtain⟨c1,c2,c3,c4⟩:=d;have G:=gf.cu s.2.1 (ft (dv s) k t);have P:=cH.cu s.2.2 (by_,dv s);have J:dL k s by_ t=(s.1++np,s.2.1++[ft (dv s) k t],s.2.2++[(by_,dv s)]):=by unfold dL;rw[O]
 rw[J];refine bl a [(53,af),(57,af),(61,af),(67,af),(1000013,ab)] rfl ?_ ?_
 .simp only[az,hk,cF.list_fn,g,bA,show i41.bytes=32 from rfl,show i106.bytes=16 from rfl,ba,bO,aG,aE];and_intros<;>first|exact A|exact cF.aU _|rfl|omega
 generalize s.1++np=ps at *;generalize V:s.2.1++[ft (dv s) k t]=sw at *;generalize hhw:s.2.2++[(by_,dv s)]=hw at *;have o:sw.length=s.2.1.length+1:=by grind
 have m:hw.length=s.2.2.length+1:=by grind
 refine AK.BZ (φ':=[(8,.e (.one (.ptr 1 0))),(10,.e (.one (.ptr 6 0)))]) (σ':=[tN s,.cells 27 [gJ,gJ,gJ],.buf 37 2 ps.length (Dy ps q),.buf 41 2 sw.length (gf.fn sw),.buf 106 2 hw.length (cH.fn hw),.b8 (PM (Bl ps q ps.length)),.cells 27 [.bp 2 (.sl ps.length 2 0 ps.length),.bp 3 (.sl sw.length 2 0 sw.length),.bp 4 (.sl hw.length 2 0 hw.length)]]) ?_ rfl ?_ rfl ?_
 .refine AK.oE 3 rfl rfl rfl (by simp) (by simp) ?_;refine AK.oE 4 rfl rfl rfl (by simp) (by simp) ?_;refine bt rfl ay ?_;refine AK.lC q [2,5] rfl rfl rfl rfl rfl rfl rfl rfl rfl ?_ rfl rfl rfl rfl (λj hj=>absurd hj (by simp));simp[qT]
 .simp
 .simp only[az.cat,az,o,m,cF.list_fn,aG,aE];and_intros<;>first|exact cv.same|exact G|exact P|rfl
abbrev TA(v:ah)(ps:List bG):Mem->Prop:=λM=>Rd M v (.sl af 2 ps.length (cP.fn ps))
def xU[X.gY](k:Int)(s:bn)(by_:Int)(t:List bz)(hk:cd k=ab)(l:lD s)(g:rq s)(n:sC t)(b:(cW s.1).length<=100000)(i:∀p∈s.1,0<p.2.length)(d:gm k s t=af):
  eb (ι:=ah) X 22 [dI k,rj s,dI by_,cF.sl t] [.b8 (fQ 37 2 (.nil ae) 0 [])] (λv=>.eX [.agg [.c (.val v),.c (EK (dL k s by_ t).2.1),.c (Ct (dL k s by_ t).2.2)],.one (.c (.bool ab))])
   (λv=>[.b8 (PM (TA v (dL k s by_ t).1))]):=by
 refine eb.U3 (eb.Bg (cP.fn (dL k s by_ t).1) (rz k s by_ t hk l g n b i d) (λq M M' hle hK j f=>(hK j f).mono hle) λq M hK j f=>?_) (λ_ _ _ h=>h.1) (λ_=>rfl) (λ_=>rfl) rfl rfl;have hK:=hK j f;generalize(dL k s by_ t).1=ps at *;have e:cP.fn ps j=[.int .i64 (ps.getD j (0,[])).1,sP (ps.getD j (0,[]))]:=rfl;rw[e];refine⟨rfl,λp c a=>?_⟩
 match p,a with
 |0,a=>cases a;exact⟨_,rfl,λv m h=>by cases h with|int h=>exact .int h⟩
 |1,a=>cases a;exact⟨_,rfl,λv m h=>by grind[Rd.dZ]⟩
def H4(p:Bs):Ev X 179 [dS p] [] (dB (bx p)) []:=by
 refine Ev.bQ Tryz.func179 rfl λb=>?_;have a:bE X [(20,Cu),(95,Xq)]:=.cons EL (.cons t95 .nil);by_cases h:1<=p.length/\p.length<=8
 .refine aW a [(6,ab)] rfl ?_ (AK.bw rfl ?_)
  .simp;omega
  .simp[bx,h.1,h.2]
 .refine aW a [(6,af)] rfl ?_ (AK.bw rfl ?_)
  .simp;omega
  .have:bx p=af:=by simp only[bx,<-Bool.decide_and,iN h,rL]
   simp[this]
abbrev GA:dr:=kq aS (λp=>dB (bx p)) λ_=>[]
def OO:ee X 179 GA:=.px λp _=>H4 p
def H5(p:Bs):Ev X 149 [dS p] [] (dS (eO p)) []:=by
 refine Ev.bQ Tryz.func149 rfl λb=>?_;have a:bE X [(179,GA),(103,Gw)]:=.cons OO (.cons Lg .nil);cases h:bx p with
 |true=>exact aW a [(5,af)] rfl (by simp[h]) (AK.bw rfl)
 |false=>exact aW a [(5,ab)] rfl (by simp[h]) (AK.bw rfl (by simp[eO,h]))
abbrev GC:dr:=kq aS (λp=>dS (eO p)) λ_=>[]
def OP:ee X 149 GC:=.px λp _=>H5 p
def H6(p:Bs):(eO p).length<=8:=by
 unfold eO;split
 .rename_i h;simp only[bx,bR,ba]at h;grind[xp]
 .simp
def CF(b:Bs):Ev X 131 [dS b] [] (Aq (eQ b)) []:=by
 refine Ev.bQ Tryz.func131 rfl λr=>?_;have q:=r.str 0 rfl;have k:bE X [(149,GC)]:=.cons OP .nil;refine bt rfl ay ?_;have fin:∀n,n<=b.length->strip (b.take n)=strip b->(n=0∨strip (b.take n)=b.take n)->b.take n=strip b:=λn a h g=>by
  rcases g with rfl|g
  .simpa[strip]using h
  grind
 have rest:∀n,n<=b.length->b.take n=strip b->eQ b=if b.length<=8/\eO (strip b)=b/\n≠0 then aa (b.take n)else ae:=λn a h=>by
  have t:=H6 (strip b);have m:n=0↔strip b=[]:=by grind[List.take_eq_nil_iff]
  unfold eQ;rw[h];by_cases f:eO (strip b)=b
  .by_cases o:bx (strip b)=ab
   .have:n≠0:=λp=>by rw[m.1 p]at o;cases o
    grind
   .have p:n=0:=m.2 (by rw[eO,aZ o]at f;grind);grind
  grind
 refine AK.kU (S2:=Nat) 0 rfl rfl (λn=>n<=b.length/\b.take n=strip b) (λn=>[(0,dS b),(4,dI n)]) (λ_=>[]) 0 (λn=>n<=b.length/\strip (b.take n)=strip b) (λn:Nat=>[(0,dS b),(4,dI n)]) (λ_=>[]) (λn=>n) b.length rfl (by simp) rfl ay rfl ⟨by omega,by simp⟩ ?_ ?_
 .rintro out n ⟨a,c⟩;rcases n with _|n
  .refine aX [(9,af),(15,af)] rfl (by simp) (AK.leaveD rfl rfl ?_);exact out 0 ⟨a,fin 0 a c (.inl rfl)⟩ rfl (by simp) rfl ay
  have m:=w6 (s:=b) (n:=n) (by omega);have d:((n:Int)+1-1).toNat=n:=by omega
  by_cases g:b.getD n 0=46
  .refine aX [(9,ab),(15,ab)] rfl ?_ (AK.aQ n rfl ?_ ay ⟨by omega,?_⟩ (by omega))
   .have f:cK b n=46:=by unfold cK;rw[g];rfl
    simp[-ar,cM,d,f,bA];omega
   .simp
   grind
  .refine aX [(9,ab),(15,af)] rfl ?_ (AK.leaveD rfl rfl ?_)
   .have f:cK b n≠46:=by unfold cK;intro e;exact g (n7.1 (by grind))
    simp[-ar,cM,d,f,bA];omega
   .exact out (n+1) ⟨a,fin _ a c (.inr (by grind))⟩ rfl (by simp) rfl ay
 rintro n ⟨a,l⟩;have i:=rest n a l;have j:r7 b ae (aa (n:Int))=strip b:=l▸rfl;have hi:((b.length:Int)<=8)↔b.length<=8:=by omega
 by_cases c1:b.length<=8
 .by_cases c2:eO (strip b)=b
  .by_cases c3:n=0
   .refine aW k [(21,af),(29,af),(32,ab)] rfl ?_ (AK.bw rfl ?_)
    .subst c3;simp only[az,j,c2];grind
    .simp[i,c3]
   .refine aW k [(21,af),(29,af),(32,af)] rfl ?_ (AK.bw rfl ?_)
    .simp[j,hi,c1,c2,c3,a]
    .simp[i,j,l,c1,c2,c3]
  .refine aW k [(21,af),(29,ab),(32,ab)] rfl ?_ (AK.bw rfl ?_)
   .simp[j,hi,c1,c2,a]
   .simp[i,c2]
 .refine aW k [(21,ab),(29,ab),(32,ab)] rfl ?_ (AK.bw rfl ?_)
  .simp;omega
  .simp[i,c1]
abbrev tO:dr:=kq aS (λb=>Aq (eQ b)) λ_=>[]
def y0:ee X 131 tO:=.px λb _=>CF b
def H7(k:Int)(x:bo)(hk:cd k=ab):Ev X 91 [dI k,YT x] [] (dB (right k x)) []:=by
 refine Ev.bQ Tryz.func91 rfl λc=>?_;have b:bE X [(131,tO),(98,xt)]:=.cons y0 (.cons xo .nil);cases a:eQ x.2 with
 |none=>exact aW b [(14,af)] rfl (by simp[a]) (AK.bw rfl (by simp[right,a]))
 |some p=>exact aW b [(14,ab)] rfl (by simp[a,hk,w9 a]) (AK.bw rfl (by simp[right,a]))
abbrev AL:dr:=oQ aI TP (λk x=>dB (right k x)) λk _=>[cd k=ab]
def GD:ee X 91 AL:=.sv λk x h=>H7 k x h
def OQ(k:Int):Ev X 48 [dI k] [] (dB (cd k)) []:=by refine Ev.bQ Tryz.func48 rfl λb=>?_;have a:bE X [(20,Cu)]:=.cons EL .nil;exact cf a rfl ay (AK.bw rfl (by simp[cd]))
abbrev CG:dr:=kq aI (λk=>dB (cd k)) λ_=>[]
def GF:ee X 48 CG:=.px λk _=>OQ k
abbrev SU(p:bG):aP:=.cells 37 [.c (.int .i64 p.1),.c (sP p)]
def CH(k:Int)(p:bG)(n:Int):Ev X 150 [dI k,KE p,dI n] [] (Aq (ei k p n)) []:=by
 refine Ev.bQ Tryz.func150 rfl λm=>?_;have c:bE X [(48,CG),(91,AL),(131,tO)]:=.cons GF (.cons GD (.cons y0 .nil));cases hk:cd k with
 |false =>
  refine aW c [(11,ab)] rfl (by simp[hk]) (AK.bw rfl ?_);have:ei k p n=ae:=by unfold ei chunk;grind
  simp[this]
 |true =>
 have l:=m.QD 1 rfl 1 rfl;refine aW c [(11,af)] rfl (by simp[hk]) ?_;refine AK.cz 1 (λi=>i<=p.2.length/\p.2.find? (λx=>x.1==n)=(p.2.drop i).find? (λx=>x.1==n)) (λi:Nat=>[(0,dI k),(4,.e (.one (.ptr 0 0))),(2,dI n),(8,dI i)]) (λ_=>[SU p]) (λi=>p.2.length-i) 0 rfl (by simp) rfl (by simp) rfl ⟨by omega,rfl⟩ ?_;rintro i ⟨hi,a⟩;by_cases h:i<p.2.length
 .have g:p.2.getD i dN.bZ=gV p i:=rfl;have j:p.2.drop i=gV p i::p.2.drop (i+1):=by grind[List.drop_eq_getElem_cons]
  rw[j,List.find?_cons]at a;by_cases d:(gV p i).1=n
  .rw[show((gV p i).1==n)=ab by grind]at a;cases f:right k (gV p i)with
   |false =>
    have b:right k (n,(gV p i).2)=af:=d▸f;refine aW c [(16,ab),(26,ab),(34,ab)] rfl ?_ (AK.fE (cp.zero rfl ?_))
    .simp[-ar,g,d,b,hk,h]
    .have e:ei k p n=ae:=by have:=rl (k:=k) (x:=gV p i) hk;rw[f]at this;simp only[ei,a];simpa using this
     simp[e]
   |true =>
    have b:right k (n,(gV p i).2)=ab:=d▸f;refine aW c [(16,ab),(26,ab),(34,af)] rfl ?_ (AK.fE (cp.zero rfl ?_))
    .simp[-ar,g,d,b,hk,h]
    .have e:ei k p n=eQ (gV p i).2:=by simp only[ei,a,chunk];unfold right at f;grind
     simp[-ar,e,g]
  .rw[show((gV p i).1==n)=af by grind]at a;refine aW c [(16,ab),(26,af)] rfl ?_ (AK.aQ (i+1) rfl (by simp) (by simp) ⟨h,a⟩ (by omega));simp[-ar,g,d,bA,h];omega
 .obtain rfl:i=p.2.length:=by omega
  refine aW c [(16,af)] rfl (by simp) (AK.leaveD rfl rfl ?_);refine cf c rfl ay (AK.bw rfl ?_);simp[ei,a]
abbrev GG:dr:=Gg aI (Ex dN) aI (λk p n=>Aq (ei k p n)) λ_ _ _=>[]
def OR:ee X 150 GG:=.M6 λk p n _=>CH k p n
theorem pD(k:Int)(p:bG):gg k p=(decide (1<=p.1/\p.1<=99)&&cd k&&decide (1<=p.2.length/\p.2.length<=4)&&(bg p.2.length).all (iJ k p)):=by grind[tH]
def H8{k:Int}{p:bG}{i:Nat}(a:i≠0):iJ k p i=(right k (gV p i)&&decide ((gV p (i-1)).1<(gV p i).1)):=by unfold iJ;grind
def ER(k:Int)(p:bG):Ev X 45 [dI k,KE p] [] (dB (gg k p)) []:=by
 refine Ev.bQ Tryz.func45 rfl λn=>?_;have b:bE X [(20,Cu),(48,CG),(91,AL)]:=.cons EL (.cons GF (.cons GD .nil));have l:=n.QD 1 rfl 1 rfl;rw[pD];by_cases c1:1<=p.1/\p.1<=99
 rotate_left
 .exact aW b [(10,ab),(14,ab),(21,ab)] rfl (by simp;omega) (AK.bw rfl (by simp[iN c1]))
 cases hk:cd k
 .exact aW b [(10,af),(14,ab),(21,ab)] rfl (by simp[hk,c1]) (AK.bw rfl)
 by_cases c3:1<=p.2.length/\p.2.length<=4
 rotate_left
 .exact aW b [(10,af),(14,af),(21,ab)] rfl (by simp[hk,c1];omega) (AK.bw rfl (by simp[iN c3]))
 refine aW b [(10,af),(14,af),(21,af)] rfl (by simp[hk,c1];omega) ?_;rw[c8 c1,c8 c3,fC,fC,fC];refine AK.cz 1 (λi=>i<=p.2.length/\∀j,j<i->iJ k p j=ab) (λi:Nat=>[(0,dI k),(3,.e (.one (.ptr 0 0))),(5,dI i)]) (λ_=>[SU p]) (λi=>p.2.length-i) 0 rfl (by simp) rfl (by simp) rfl ⟨by omega,by omega⟩ ?_;rintro i ⟨hi,a⟩;by_cases h:i<p.2.length
 .have f:p.2.getD i dN.bZ=gV p i:=rfl;cases c:right k (gV p i)with
  |false =>
   refine aW b [(26,ab),(37,ab),(56,ab)] rfl ?_ (AK.fE (cp.zero rfl ?_))
   .simp[-ar,f,c,hk,h]
   .rw[iG h (by simp only[iJ,c,rL])];simp
  |true =>
   by_cases g:i=0
   .subst g;refine aW b [(26,ab),(37,af),(40,af),(56,af)] rfl ?_ (AK.aQ 1 rfl (by simp) (by simp) ⟨h,jV a (by simp only[iJ,c,fC];rfl)⟩ (by omega));simp[-ar,f,c,hk,h,bA]
   have d:p.2.getD (i-1) dN.bZ=gV p (i-1):=rfl;have o:=H8 (k:=k) (p:=p) g;by_cases m:(gV p (i-1)).1<(gV p i).1
   .refine aW b [(26,ab),(37,af),(40,ab),(54,af),(56,af)] rfl ?_ (AK.aQ (i+1) rfl (by simp) (by simp) ⟨h,jV a (by grind)⟩ (by omega));simp[-ar,f,d,c,hk,h,m,bA];omega
   .refine aW b [(26,ab),(37,af),(40,ab),(54,ab),(56,ab)] rfl ?_ (AK.fE (cp.zero rfl ?_))
    .simp[-ar,f,d,c,hk,h,bA];omega
    .rw[iG h (by grind)];simp
 .obtain rfl:i=p.2.length:=by omega
  refine aW b [(26,af)] rfl (by simp) (AK.leaveD rfl rfl ?_);exact cf b rfl ay (AK.bw rfl (by simp[dy.2 a]))
abbrev CI:dr:=oQ aI (Ex dN) (λk p=>dB (gg k p)) λ_ _=>[]
def Lr:ee X 45 CI:=.sv λk p _=>ER k p
def lR{α:Type}{l:List α}{i:Nat}{d:α}(h:i<l.length):l.getD i d∈l:=by grind
def OS{l:List Int}{n:Int}:l.contains n=!(bg l.length).all λi=>!(l.getD i 0==n):=by rw[pT,j7,<-n6,dy,List.contains_iff_mem];grind[List.mem_iff_getElem]
def OT(l:List Int)(n:Int):Ev X 46 [cI.sl l,dI n] [] (dB (l.contains n)) []:=by
 refine Ev.bQ Tryz.func46 rfl λe=>?_;have c:=e.sl 0 rfl;refine bt rfl ay ?_;rw[OS];refine AK.j1 (λi=>i<=l.length/\∀j,j<i->(!(l.getD j 0==n))=ab) (λi:Nat=>[(0,cI.sl l),(1,dI n),(5,dI i)]) (λ_=>[]) (λi=>l.length-i) 0 rfl (by simp) rfl ay ⟨by omega,by omega⟩ ?_;rintro i ⟨hi,a⟩;by_cases h:i<l.length
 .have b:l.getD i cI.bZ=l.getD i 0:=rfl;by_cases d:l.getD i 0=n
  .refine aX [(9,ab),(17,ab)] rfl ?_ (AK.iC (cp.zero rfl ?_))
   .simp[-ar,b,d,h]
   .rw[iG h (by grind)];simp
  .refine aX [(9,ab),(17,af)] rfl ?_ (AK.gd (i+1) rfl (by simp) rfl ay ⟨h,jV a (by grind)⟩ (by omega));simp[-ar,b,d,h,bA];omega
 .obtain rfl:i=l.length:=by omega
  refine aX [(9,af)] rfl (by simp) (AK.leave rfl rfl ?_);exact bt rfl ay (AK.bw rfl (by rw[dy.2 a];simp))
abbrev QE:dr:=oQ (aL cI) aI (λl n=>dB (l.contains n)) λ_ _=>[]
def V8:ee X 46 QE:=.sv λl n _=>OT l n
def ES(k:Int)(ps:List bG)(n:Int):Ev X 132 [dI k,cP.sl ps,dI n] [] (Aq (dK k ps n)) []:=by
 refine Ev.bQ Tryz.func132 rfl λg=>?_;have f:=g.sl 1 rfl;have d:bE X [(150,GG)]:=.cons OR .nil;refine cf d rfl ay ?_;refine AK.j1 (λi=>i<=ps.length/\dK k ps n=dK k (ps.drop i) n) (λi:Nat=>[(0,dI k),(1,cP.sl ps),(2,dI n),(8,dI i)]) (λ_=>[]) (λi=>ps.length-i) 0 rfl (by simp) rfl ay ⟨by omega,rfl⟩ ?_;rintro i ⟨hi,a⟩;by_cases h:i<ps.length
 .have c:ps.drop i=ps.getD i (0,[])::ps.drop (i+1):=by grind[List.drop_eq_getElem_cons]
  have e:((ps.getD i cP.bZ).1,dN.list (ps.getD i cP.bZ).2.length (dN.fn (ps.getD i cP.bZ).2))=ps.getD i (0,[]):=by rw[dN.list_fn];rfl
  rw[c,show dK k (ps.getD i (0,[])::ps.drop (i+1)) n=_ from List.findSome?_cons]at a;cases b:ei k (ps.getD i (0,[])) n with
  |some q =>
   rw[b]at a;refine aW d [(14,ab),(27,ab)] rfl ?_ (AK.iC (cp.zero rfl ?_))
   .simp[-ar,e,b,h,dN.aU]
   .simp[-ar,e,b,a]
  |none =>
   rw[b]at a;refine aW d [(14,ab),(27,af)] rfl ?_ (AK.gd (i+1) rfl (by simp) rfl ay ⟨h,a⟩ (by omega));simp[-ar,e,b,h,bA,dN.aU];omega
 .obtain rfl:i=ps.length:=by omega
  refine aX [(14,af)] rfl (by simp) (AK.leave rfl rfl ?_);exact bt rfl ay (AK.bw rfl (by rw[a,u7];simp[dK]))
abbrev CJ:dr:=Gg aI (aL cP) aI (λk ps n=>Aq (dK k ps n)) λ_ _ _=>[]
def Ls:ee X 132 CJ:=.M6 λk ps n _=>ES k ps n
def Lt(a b:List Bs):Ev X 151 [cS.sl a,cS.sl b] [] (dB (a==b)) []:=by
 refine Ev.bQ Tryz.func151 rfl λk=>?_;have f:=k.sl 0 rfl;by_cases g:a.length=b.length
 rotate_left
 .have:(a==b)=af:=eD.2 (by grind);exact aX [(10,ab)] rfl (by simp;omega) (AK.bw rfl (by simp[this]))
 refine aX [(10,af)] rfl (by simp;omega) ?_;refine AK.j1 (λi=>i<=a.length/\∀j,j<i->a.getD j []=b.getD j []) (λi:Nat=>[(0,cS.sl a),(1,cS.sl b),(5,dI i)]) (λ_=>[]) (λi=>a.length-i) 0 rfl (by simp) rfl ay ⟨by omega,by omega⟩ ?_;rintro i ⟨hi,d⟩;by_cases h:i<a.length
 .have e:∀l:List Bs,l.getD i cS.bZ=l.getD i []:=λ_=>rfl;by_cases c:a.getD i []=b.getD i []
  .refine aX [(14,ab),(25,af)] rfl ?_ (AK.gd (i+1) rfl (by simp) rfl ay ⟨h,λj m=>?_⟩ (by omega))
   .simp[-ar,e,c,bA];omega
   grind
  .refine aX [(14,ab),(25,ab)] rfl ?_ (AK.iC (cp.zero rfl ?_))
   .simp[-ar,e,c];omega
   .have:(a==b)=af:=eD.2 (by grind);simp[this]
 .obtain rfl:i=a.length:=by omega
  have:a=b:=rI g λj c n=>by grind
  refine aX [(14,af)] rfl (by simp) (AK.leave rfl rfl ?_);exact bt rfl ay (AK.bw rfl (by simp[this]))
def SV:ee X 151 Ot:=.sv λa b _=>Lt a b
def uy(t:Bs):∀k f p,p∈fp t k f->p.length<=8
 |0,_,p,h=>by simp[fp]at h
 |k+1,f,p,h=>by
  simp only[fp]at h;split at h
  .rename_i a;rcases eE.1 h with rfl|h
   .grind [nC]
   .exact uy t k _ p h
  grind
def AN{l:List Bs}{p:Bs}(h:p∈l)(b:8<p.length):gu l=ae:=by unfold gu;rw[aZ];intro a;simp only[bR,hI]at a;have:=uy l.flatten l.flatten.length 0 p (by rw[show fp l.flatten l.flatten.length 0=l from a.2];exact h);omega
def uR(l:List Bs)(i:Nat):(l.take i).flatten.length<=l.flatten.length:=by grind[List.take_append_drop]
def ET{l:List Bs}{i:Nat}(h:40<(l.take i).flatten.length):gu l=ae:=by have:=uR l i;unfold gu;rw[aZ];intro a;simp only[bR,ef,ba]at a;omega
def Lu(l:List Bs):Ev X 133 [cS.sl l] [] (Aq (gu l)) []:=by
 refine Ev.bQ Tryz.func133 rfl λk=>?_;have j:=k.sl 0 rfl;have a:bE X [(51,Xr),(96,Gu),(151,Ot)]:=.cons t51 (.cons K8 (.cons SV .nil));refine cf a rfl ay ?_;refine AK.j1 (λi=>i<=l.length/\(l.take i).flatten.length<=48) (λi:Nat=>[(0,cS.sl l),(4,dS (l.take i).flatten),(5,dI i)]) (λ_=>[]) (λi=>l.length-i) 0 rfl (by simp) rfl ay ⟨by omega,by simp⟩ ?_;rintro i ⟨hi,f⟩;by_cases h:i<l.length
 .have e:l.getD i cS.bZ=l.getD i []:=rfl;have m:(l.take (i+1)).flatten=(l.take i).flatten++l.getD i []:=by grind[bS]
  by_cases b:(l.getD i []).length<=8
  .by_cases c:(l.take i).flatten.length<=40
   .refine aW a [(9,ab),(18,af),(22,af)] rfl ?_ (AK.gd (i+1) rfl ?_ rfl ay ⟨h,by grind⟩ (by omega))
    .simp[-ar,-List.length_flatten,e,bA];omega
    .simp only[az.cat,az,m,aG,aE];grind[cv.same]
   .refine aW a [(9,ab),(18,af),(22,ab)] rfl ?_ (AK.iC (cp.zero rfl ?_))
    .simp[-ar,-List.length_flatten,e];omega
    .simp[ET (l:=l) (i:=i) (by omega)]
  .refine aW a [(9,ab),(18,ab),(22,ab)] rfl ?_ (AK.iC (cp.zero rfl ?_))
   .simp[-ar,e];omega
   .simp[az,az.cat,AN (lR (d:=[]) h) (by omega)]
 .obtain rfl:i=l.length:=by omega
  rw[dh]at f⊢;refine aW a [(9,af)] rfl (by simp) (AK.leave rfl rfl ?_);have el:=cS.list_fn l;cases b:ef l.flatten with
  |false=>exact aW a [(32,ab),(38,ab)] rfl (by simp[b]) (AK.bw rfl (by simp[gu,b]))
  |true =>
   have g:b6 l.flatten=ab:=by simp only[ef,bR]at b;exact b.2
   cases c:(pieces l.flatten==l)with
   |false =>
    refine aW a [(32,af),(38,ab)] rfl ?_ (AK.bw rfl (by simp[gu,c]));simp[-List.length_flatten,b,g,el,cS.list_fn,cS.aU,by simpa using c];omega
   |true =>
    refine aW a [(32,af),(38,af)] rfl ?_ (AK.bw rfl (by simp[gu,b,c]));simp[-List.length_flatten,b,g,el,cS.list_fn,cS.aU,by simpa using c];omega
abbrev Lv:dr:=kq (aL cS) (λl=>Aq (gu l)) λ_=>[]
def SW:ee X 133 Lv:=.px λl _=>Lu l
abbrev snB(s:gE):aP:=.cells 41 [.c (.int .i64 s.1),.c (.sl af 2 s.2.length (cL.fn s.2))]
abbrev Lw(k:Int)(ps:List bG)(ns:List Int):List Bs:=ns.map λn=>(dK k ps n).getD []
def OU{k:Int}{ps:List bG}{ns:List Int}{j:Nat}(h:j<ns.length):Lw k ps (ns.take (j+1))=Lw k ps (ns.take j)++[(dK k ps (ns.getD j 0)).getD []]:=by grind[bS]
def CK{k:Int}{ps:List bG}{ns:List Int}{j:Nat}(h:j<ns.length)(a:dK k ps (ns.getD j 0)=ae):eK k ps ns=ae:=by unfold eK;rw[aZ];grind
def AO{k:Int}{ps:List bG}{ns:List Int}(h:∀j,j<ns.length->(dK k ps (ns.getD j 0)).isSome=ab):eK k ps ns=aa (Lw k ps ns):=by unfold eK;rw[bm];grind[List.mem_iff_getElem]
def AP(k:Int)(s:gE)(ps:List bG)(H:s.2.length<=4000000)(F:∀x∈s.2,x.2.length<=4000000):
  Ev X 92 [dI k,M7 s,cP.sl ps] [] (Sf ((c6 k s ps).getD []) (c6 k s ps).isSome) []:=by
 refine Ev.bQ Tryz.func92 rfl λI=>?_;have a:bE X [(48,CG),(132,CJ),(133,Lv),(21,V9)]:=.cons GF (.cons Ls (.cons SW (.cons t21 .nil)));cases hk:cd k with
 |false =>
  refine aW a [(19,ab)] rfl ?_ (AK.bw rfl ?_)
  .simp[hk]
  .simp[c6,hk]
 |true =>
 refine aW a [(19,af),(1000004,ab)] rfl (by simp[hk]) ?_;refine AK.iB 8 76 2 rfl rfl ?_;refine cf a rfl ay ?_;refine AK.cz 2 (λi=>i<=s.2.length/\∀j,j<i->(fileOf k ps (s.2.getD j ([],[]))).isSome=ab) (λi:Nat=>[(0,dI k),(2,cP.sl ps),(4,.e (.one (.ptr 0 0))),(8,.e (.one (.vec 1 2 (dg k ps (s.2.take i)).length (cF.fn (dg k ps (s.2.take i)))))),(9,dI i)]) (λi=>[snB s,.vec 76 2 (dg k ps (s.2.take i)).length (cF.fn (dg k ps (s.2.take i)))]) (λi=>s.2.length-i) 0 rfl (by simp[dg]) rfl (by simp[dg]) rfl ⟨by omega,by omega⟩ ?_;rintro i ⟨hi,C⟩;by_cases h:i<s.2.length
 .have A:=F _ (lR (d:=([],[])) h);have b:=pz (k:=k) (ps:=ps) h;have w:(dg k ps (s.2.take i)).length=i:=by simp[dg];omega
  have c:s.2.getD (i:Int).toNat cL.bZ=s.2.getD i ([],[]):=by grind
  have l:=pA (k:=k) (ps:=ps) h;generalize E:s.2.getD i ([],[])=x at A b c l;generalize dg k ps (s.2.take i)=fs at *;refine aW a [(25,ab),(1000008,ab)] rfl (by simp;omega) ?_;refine AK.iB 10 9 1 rfl rfl ?_;refine cf a rfl ay ?_;refine AK.cz 3 (λj=>j<=x.2.length/\∀q,q<j->(dK k ps (x.2.getD q 0)).isSome=ab) (λj:Nat=>[(0,dI k),(2,cP.sl ps),(4,.e (.one (.ptr 0 0))),(8,.e (.one (.vec 1 2 fs.length (cF.fn fs)))),(9,dI i),(10,.e (.one (.vec 2 1 (Lw k ps (x.2.take j)).length (cS.fn (Lw k ps (x.2.take j)))))),(11,dI j)]) (λj=>[snB s,.vec 76 2 fs.length (cF.fn fs),.vec 9 1 (Lw k ps (x.2.take j)).length (cS.fn (Lw k ps (x.2.take j)))]) (λj=>x.2.length-j) 0 rfl (by simp) rfl (by simp) rfl ⟨by omega,by omega⟩ ?_;rintro j ⟨J,z⟩;by_cases y:j<x.2.length
  .have f:x.2.getD (j:Int).toNat cI.bZ=x.2.getD j 0:=by grind
   cases m:dK k ps (x.2.getD j 0)with
   |none =>
    have e:fileOf k ps x=ae:=by simp[fileOf,CK y m]
    refine aW a [(37,ab),(56,ab)] rfl ?_ (AK.fE (AK.sj (cp.zero rfl ?_)))
    .simp only[az,c,f,m,cP.list_fn,cP.aU];grind
    .rw[l e];simp
   |some q =>
    have g:=OU (k:=k) (ps:=ps) y;rw[m]at g;have p:(Lw k ps (x.2.take j)).length=j:=by grind
    have u:=cS.cu (Lw k ps (x.2.take j)) q;refine aW a [(37,ab),(56,af)] rfl ?_ (AK.aQ (j+1) rfl ?_ ?_ ⟨y,λr D=>?_⟩ (by omega))
    .simp only[az,c,f,m,cP.list_fn,cP.aU,p,bA,show i9.bytes=16 from rfl];grind
    .rw[g];simp only[az.cat,az,c,f,m,cP.list_fn,c7,jg,aG,aE];and_intros<;>first|exact cv.same|exact u|rfl|omega
    .rw[g];simp only[az.cat,az,c,f,m,cP.list_fn,c7,jg,aG,aE];and_intros<;>first|exact cv.same|exact u|rfl|omega
    grind
  .obtain rfl:j=x.2.length:=by omega
   have o:=AO z;rw[dh];have p:(Lw k ps x.2).length=x.2.length:=by simp
   refine aW a [(37,af)] rfl (by simp only[az,c];simp[h]) (AK.leaveD rfl rfl ?_);cases n:gu (Lw k ps x.2)with
   |none =>
    have e:fileOf k ps x=ae:=by simp[fileOf,o,n]
    refine aW a [(68,ab)] rfl ?_ (AK.fE (cp.zero rfl ?_))
    .simp only[az,cS.list_fn,cS.aU,n];simp
    .rw[l e];simp
   |some t =>
    have e:fileOf k ps x=aa (x.1,t):=by simp[fileOf,o,n]
    rw[e]at b;have B:=cF.cu fs (x.1,t);refine aW a [(68,af)] rfl ?_ (AK.aQ (i+1) rfl ?_ ?_ ⟨h,λr D=>?_⟩ (by omega))
    .simp only[az,c,cS.list_fn,cS.aU,n,w,bA,show i76.bytes=32 from rfl];grind
    .rw[b];simp only[az.cat,az,c,cS.list_fn,n,im,c7,jg,aG,aE];and_intros<;>first|exact cv.same|exact B|rfl|omega
    .rw[b];simp only[az.cat,az,c,cS.list_fn,n,im,c7,jg,aG,aE];and_intros<;>first|exact cv.same|exact B|rfl|omega
    grind
 .obtain rfl:i=s.2.length:=by omega
  rw[dh];have G:s.2.all (λx=>(fileOf k ps x).isSome)=ab:=List.all_eq_true.2 λx A=>by grind[List.mem_iff_getElem]
  refine aW a [(25,af)] rfl (by simp) (AK.leaveD rfl rfl ?_);cases v:cx (dg k ps s.2)with
  |false =>
   refine aW a [(83,ab)] rfl ?_ (AK.bw rfl ?_)
   .simp[cF.list_fn,cF.aU,v]
   .simp[c6,v]
  |true =>
   refine aW a [(83,af)] rfl ?_ (AK.bw rfl ?_)
   .simp[cF.list_fn,cF.aU,v]
   .simp[c6,v,hk,G]
abbrev xz:dr:=Gg aI (Ex cL) (aL cP) (λk s ps=>Sf ((c6 k s ps).getD []) (c6 k s ps).isSome) λ_ s _=>[s.2.length<=4000000,∀x∈s.2,x.2.length<=4000000]
def EU:ee X 92 xz:=.M6 λk s ps h=>AP k s ps h.1 h.2
abbrev sJ:=Int×Int
def gX(h:sJ):Bool:=decide (1<=h.1/\h.1<=2)&&decide (1<=h.2/\h.2<=20)
def k6(l:List sJ):Bool:=(bg l.length).all (λi=>gX (l.getD i (0,0)))&&decide (l.length<=9)
abbrev Zf(h:sJ):D:=.e (.agg [.c (.int .i64 h.1),.c (.int .i64 h.2)])
def H9(h:sJ):Ev X 93 [Zf h] [] (dB (gX h)) []:=by
 refine Ev.bQ Tryz.func93 rfl λb=>?_;have a:bE X [(20,Cu)]:=.cons EL .nil;by_cases c:1<=h.1/\h.1<=2
 .exact aW a [(6,ab)] rfl (by simp[c]) (AK.bw rfl (by simp[gX,c]))
 .exact aW a [(6,af)] rfl (by simp;omega) (AK.bw rfl (by simp only[az,gX,iN c];simp))
def Ia(l:List sJ):Ev X 49 [cH.sl l] [] (dB (k6 l)) []:=by
 refine Ev.bQ Tryz.func49 rfl λf=>?_;have e:=f.sl 0 rfl;have b:bE X [(93,kq TQ (λh=>dB (gX h)) λ_=>[])]:=.cons (.px λh _=>H9 h) .nil;refine cf b rfl ay ?_;unfold k6;refine AK.j1 (λi=>i<=l.length/\∀j,j<i->gX (l.getD j (0,0))=ab) (λi:Nat=>[(0,cH.sl l),(3,dI i)]) (λ_=>[]) (λi=>l.length-i) 0 rfl (by simp) rfl ay ⟨by omega,by omega⟩ ?_;rintro i ⟨hi,a⟩;by_cases h:i<l.length
 .have d:l.getD i cH.bZ=l.getD i (0,0):=rfl;cases c:gX (l.getD i (0,0))with
  |false =>
   refine aW b [(7,ab),(15,ab)] rfl ?_ (AK.iC (cp.zero rfl ?_))
   .simp[-ar,d,c,h]
   .rw[iG h c];simp
  |true =>
   refine aW b [(7,ab),(15,af)] rfl ?_ (AK.gd (i+1) rfl (by simp) rfl ay ⟨h,jV a c⟩ (by omega));simp[-ar,d,c,h,bA];omega
 .obtain rfl:i=l.length:=by omega
  refine aW b [(7,af)] rfl (by simp) (AK.leave rfl rfl ?_);exact cf b rfl ay (AK.bw rfl (by rw[dy.2 a];simp;omega))
abbrev sK:dr:=kq (aL cH) (λl=>dB (k6 l)) λ_=>[]
def OV:ee X 49 sK:=.px λl _=>Ia l
def bX(ps:List bG):List Int:=ps.flatMap λp=>p.2.map (·.1)
def CL{α:Type}(f:α->Int)(d:α)(l:List α)(i:Nat):Bool:=i==0||decide (f (l.getD (i-1) d)<f (l.getD i d))
def ma(k:Int)(ps:List bG)(i:Nat):Bool:=gg k (ps.getD i (0,[]))&&CL (·.1) (0,[]) ps i
def jW(k:Int)(s:bn)(i:Nat):Bool:=decide (1<=(s.2.1.getD i (0,[])).1/\(s.2.1.getD i (0,[])).1<=20)&&CL (·.1) (0,[]) s.2.1 i&&(c6 k (s.2.1.getD i (0,[])) s.1).isSome
def fx(k:Int)(s:bn):Bool:=(bg s.1.length).all (ma k s.1)&&decide (bX s.1).Nodup&&(bg s.2.1.length).all (jW k s)&&cd k&&k6 s.2.2&&decide (s.1.length<=20)
def xA{ps:List bG}{i:Nat}(h:i<ps.length):bX (ps.take (i+1))=bX (ps.take i)++(ps.getD i (0,[])).2.map (·.1):=by rw[bS h (0,[])];simp[bX]
def Ib{ps:List bG}{i:Nat}(h:¬(bX (ps.take i)).Nodup):¬(bX ps).Nodup:=λa=>h (by
 have:bX ps=bX (ps.take i)++bX (ps.drop i):=by unfold bX;grind[List.take_append_drop]
 grind)
end
end Go.AM.R1
