/- Part 7. No condition. -/
import Derived.Test.YtnamahahdbfodaaGreatDoorA6
set_option linter.all false
set_option maxHeartbeats 8000000
open Go.Proofs
open Go.Proofs.Tryz
open List renaming length → c, getD_eq_getElem?_getD → al
open Go renaming Value → Z, TypeId → av, World → au, Frame → aK, Operand → aB, Program → aI, Goroutine → ak, Oper → ap
open Bool renaming true → f, false → l
open Go.Proofs.Tryz renaming prog → V
namespace Go.AM
variable {k A:Nat}{i:Int}{d j e w:Nat}{W:av}{H:Z->(Nat->Option Obj)->Prop}{L:Array Bool}{bB:Mem}{D:Nat}{P:aI}{bq:ak->a5->Prop}{s:Code}{C:ak}{t:ap}{b:a5}{q:av}{aa:Z}{o X:aB}{α:Type}{η:aB->z}{ι:Type}{p:m an}{F:bH}{all:m ap}{dp:Array av}{cap:m N}{cR:m z}{k8:Nat->Option Obj}{ah:m aK}{bg:m (Nat×Bool)}{T:Nat->m N}{cP:aB}{gs:Array ak}{aP:m Nat}{cf:m Prop}{off:Nat}{op:BinOp}{aD:Array ap}{ab:m Prop}{bs:m ap}{az:a5}{ty:av}{val:Nat->Nat->Z}{B:m Z}{bi:au}{ag:Array aB}{ao dd:m an}{res:ι->z}{aM:ι->m an}
variable {CT:m (Nat×bL)}{ar:m ij}{be:fs}{ad:m (Nat×bv)}{a4:bv}
namespace R1
def Grown(b d:m (Int×Int)×m Int):Prop:=∀a,a<2->(b.2.getD a 0≠0->d.2.getD a 0=b.2.getD a 0/\d.1.getD a (0,0)=b.1.getD a (0,0))/\(b.1.getD a (0,0)).1<=(d.1.getD a (0,0)).1
def Grown.refl{a}:Grown a a:=λ_ _=>⟨λ_=>⟨rfl,rfl⟩,p9 _⟩
def Grown.trans{m o b}(t:Grown m o)(u:Grown o b):Grown m b:=λk d=>by obtain⟨p,q⟩:=t k d;obtain⟨r,s⟩:=u k d;refine⟨λj=>?_,Int.le_trans q s⟩;obtain⟨a,e⟩:=p j;obtain⟨g,i⟩:=r (by rw[a];exact j);exact⟨g.trans a,i.trans e⟩
def Kc{cg}{b}{d}{e}(t:c e.1=2)(r:c e.2=2):Grown e (hn cg b d e):=by
 intro i q;unfold hn;split
 .rename_i s;have k:∀g,(e.1.set (cg-1).toNat g).getD i (0,0)=if(cg-1).toNat=i then g else e.1.getD i (0,0):=λg=>by simp only[al,o2];split<;>simp_all
  have m:∀g,(e.2.set (cg-1).toNat g).getD i 0=if(cg-1).toNat=i then g else e.2.getD i 0:=λg=>by simp only[al,o2];split<;>simp_all
  simp only;rw[k,m];split
  .rename_i o;subst o;refine⟨λp=>absurd s p,?_⟩;unfold mG;split
   .split
    .rename_i j _;exact j.2.1
    exact p9 _
   exact p9 _
  exact⟨λ_=>⟨a,a⟩,p9 _⟩
 exact⟨λ_=>⟨a,a⟩,p9 _⟩
def S1{b}{ai}(e:c b.2.2.1=2)(g:c b.2.2.2=2):Grown b.2.2 (cl i b ai).1.2.2:=by
 have a:=Kc (cg:=ai.2.1) (b:=b.1.1) (d:=b.2.1) e g;obtain⟨k1,j⟩:=tj (cg:=ai.2.1) (b:=b.1.1) (d:=b.2.1) (bc:=b.2.2) e g;unfold cl;split
 .split
  .unfold oJ;split
   .split
    .exact a.trans (Kc k1 j)
    exact a
   exact a
  exact .refl
 split
 .split
  .exact a
  exact .refl
 split
 .exact .refl
 split
 .split<;>exact .refl
 split<;>exact .refl
def Vs(k d)(A)(s:Nat->Int)(N:Bytes s)(_:A<=9223372036854775807):Y (aj.aJ V) 3 [ax (.S l 1 A (qg s))] (iB k d) (bh f) (iB k d):=by
 refine Y.K func3 rfl λT=>?_;by_cases X:1048576<A
 .refine a6 [(12,f)] a bV (g.aS [0,1,2] a ?_ nk);simp
 refine a6 [(12,l)] a bV (g.a_ (Iz A s N y) [] a bl ?_);intro t;have p:=t.do;generalize t.a=e at *;generalize t.fA=ai at *;refine aZ a v (g.aF p.bc [] a (aZ a v (g.aF (p.a9 k d) [0,1,2] a ?_)));have R:=p.hi (r:=aj.aJ V);have m:a8 (aj.aJ V) [(8,ev [fq (iN e ai).1,fq (iN e ai).1] (bh f)),(9,ev [fq e] (bh (fY e)))]:=.cons (eI R) (.cons (eI p.ok) .nil);cases bU:fY e with
 |false=>
  generalize iN e ai=o at *;refine bf m [(33,l),(39,l),(43,f),(47,f)] a j3 (g.aS [0,1,2] a ?_ nk);simp
 |true=>
 have J:iN e ai=((e.1,(cl e.1 e.2 ai).1),(cl e.1 e.2 ai).2):=br bU;obtain⟨u,w,_⟩:=wl bU;have K:=S1 (i:=e.1) (b:=e.2) (ai:=ai) u w;have B:=p.j5 bU;have D:=B.bj;have I:=B.b4;rw[J]at m;rw[J];generalize cl e.1 e.2 ai=o at *;refine bf m [(33,l),(39,l),(43,l)] a j3 (g.aL 7 (λj=>j<=2) (λj:Nat=>[(3,aG 3 0),(7,aG 6 0),(9,S j)]) (λ_=>iB k d++[.cells 35 (lx e),qo ai,.cells 35 (lx (e.1,o.1)),.cells 35 (lx (e.1,o.1))]) (λj=>2-j) 0 a E a E a y ?_);intro j M;by_cases Q:j<2
 .obtain⟨W,H⟩:=K j Q;have O:e.2.2.2.2.getD (j:Int).toNat aA.I=e.2.2.2.2.getD j 0:=rfl;have x:o.1.2.2.2.getD (j:Int).toNat aA.I=o.1.2.2.2.getD j 0:=rfl;have C:e.2.2.2.1.getD (j:Int).toNat a1.I=e.2.2.2.1.getD j (0,0):=rfl;have F:o.1.2.2.1.getD (j:Int).toNat a1.I=o.1.2.2.1.getD j (0,0):=rfl;by_cases q:e.2.2.2.2.getD j 0=0
  .refine bf m [(53,f),(62,l),(87,l),(100,l)] a ?_ (g.aA (j+1) a ?_ ?_ ?_ ?_)
   .simp only[U,O,x,C,F,a7,u,w,D,I,q,h0,bA,dj,ba,a9];and_intros<;>first|omega|rfl|simp
   .simp
   .simp
   .omega
   omega
  obtain⟨G,z⟩:=W q;refine bf m [(53,f),(62,f),(74,l),(87,l),(100,l)] a ?_ (g.aA (j+1) a ?_ ?_ ?_ ?_)
  .simp only[U,O,x,C,F,G,z,a7,u,w,D,I,h0,jC,dZ,bA,dj,ba,a9];and_intros<;>first|omega|rfl|exact q|simp
  .simp
  .simp
  .omega
  omega
 refine bf m [(53,l)] a bV (g.aC ?_);refine cJ m a v (g.aS [0,1,2] a ?_ nk);simp
end R1
end Go.AM
