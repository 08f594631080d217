/- Part 5. No condition. -/
import Derived.Test.YthilmklinlalbaaGreatDoorA4
set_option linter.all false
set_option maxHeartbeats 8000000
open Go renaming Value → ah
open Option renaming some → aa
open Go renaming Program → aq
open Go renaming TypeId → aj
open Bool renaming true → ab
open Option renaming none → af
open Go renaming Oper → ar
open Go renaming Operand → ak
open Bool renaming false → ae
open Go renaming undef → ai
open Go.World renaming cell? → aU
open List renaming getD_eq_getElem?_getD → an
open Go.Sem renaming events_bind → aK
open Go.Result renaming evThen_ok → aO
open Go.Instr renaming sliceBounds → ba
open Go renaming execOp → av
open Go renaming Goroutine → au
open Go renaming Frame → aR
open List renaming range → bd
open Go.Region renaming wanted → bc
open Go renaming FuncId → aH
open Go.Instr renaming sureAddr → bn
open Nat renaming beq → aA
open Nat renaming ble → bw
open Go.Op renaming equalIn → aX
open Go.Op renaming bytesLess → bk
open Go.Proofs.Tryz renaming prog → ag
namespace Go.AM.R1
section
open Go.Proofs
variable {X:Cx ag}
def AB{o:ar}{k:ak->D}{σ:List aP}{x y:ak}{j:Array aj}{a b:Int}(m:Int)(h:o.op=.call {callee:=.builtin .max,args:=#[x,y],argTypes:=j})(q:k x=dI a)(p:k y=dI b)(r:max a b=m)(n:bA .i64 m):bG ag o k σ (dI m) σ:=by
 refine .quiet λs l t f=>?_;have g:=f x;have c:=f y;rw[q]at g;rw[p]at c;replace g:=eY g;replace c:=eY c;generalize d:l x=vx at g;generalize i:l y=vy at c;cases g;cases c;have e:(if a<b then b else a)=m:=by grind
 exact⟨.int .i64 m,by simp[av,h,resolve,invoke,builtin,d,i,Builtin.max_,Builtin.max2,e],.int n,by simp[av,h,resolve,invoke,builtin,d,i,Builtin.max_,Builtin.max2]⟩
def cv(s:bo):Int:=if s.1.length=0 then 1 else(s.1.getD (s.1.length-1) (0,[])).1+1
def nO(l:List (Int×Int)):Int:=l.foldl (λm h=>max m (h.2+1)) 1
def de(s:bo):Int:=if s.2.1.length=0 then nO s.2.2 else max (nO s.2.2) ((s.2.1.getD (s.2.1.length-1) (0,[])).1+1)
structure sE(st:bo):Prop where
 p:∀x∈st.1,-4000000<=x.1/\x.1<=4000000
 s:∀x∈st.2.1,-4000000<=x.1/\x.1<=4000000
 h:∀x∈st.2.2,-4000000<=x.2/\x.2<=4000000
def ma(l:List (Int×Int))(h:∀x∈l,-4000000<=x.2/\x.2<=4000000):1<=nO l/\nO l<=4000001:=by
 have:∀(l:List (Int×Int)) (m:Int),(∀x∈l,-4000000<=x.2/\x.2<=4000000)->1<=m->m<=4000001->1<=l.foldl (λm h=>max m (h.2+1)) m/\l.foldl (λm h=>max m (h.2+1)) m<=4000001:=by
  intro l;induction l with
  |nil=>grind
  |cons x r a =>
   grind
 exact this l 1 h (by omega) (by omega)
def ES{l:List (Int×Int)}{i:Nat}(h:i<l.length):nO (l.take (i+1))=max (nO (l.take i)) ((l.getD i (0,0)).2+1):=by unfold nO;grind[bT]
def ff{α:Type}{l:List α}{i:Nat}(h:i<l.length)(d:α):l.getD i d∈l:=by grind
def yO(s:bo)(d:l8 s)(b:sE s):Ev X 63 [qN s] [] (.fa [.one (.c (.int .i64 (cv s))),.one (.c (.int .i64 (de s)))]) []:=by
 refine Ev.bQ Tryz.func63 rfl λo=>?_;have g:=d.p;have k:=d.sn;have m:=d.h;apply AK.join [(1,.e (.one (.ptr 0 0))),(4,dI (cv s)),(5,dI 1)] [xR s]
 .intro out;by_cases h:s.1.length=0
  .refine bL [(10,ae),(1000005,ab)] rfl (by simp only[ay,bM];omega) ?_;exact out _ _ rfl (by simp[cv,h])
  .have f:=b.p _ (ff (show s.1.length-1<s.1.length by omega) (0,[]));have a:s.1.getD ((s.1.length:Int)-1).toNat cP.b7=s.1.getD (s.1.length-1) (0,[]):=by rw[show((s.1.length:Int)-1).toNat=s.1.length-1 by omega];rfl
   refine bL [(10,ab),(1000005,ab)] rfl ?_ ?_
   .simp only[ay,a,bA,aZ,aF,aD];and_intros<;>omega
   exact out _ _ rfl (by simp only[ay.cat,ay,cv,aY h,a,aF,aD])
 refine di rfl aw ?_;refine AK.cC 1 (λi=>i<=s.2.2.length) (λi:Nat=>[(1,.e (.one (.ptr 0 0))),(4,dI (cv s)),(5,dI (nO (s.2.2.take i))),(6,dI i)]) (λi=>[xR s]) (λi=>s.2.2.length-i) 0 rfl ?_ rfl ?_ rfl (by omega) ?_
 .simp[nO]
 .simp
 intro i hi;by_cases h:i<s.2.2.length
 .have f:=b.h _ (ff h (0,0));have l:=ma (s.2.2.take i) λx n=>b.h x (fP n);have a:s.2.2.getD (i:Int).toNat cH.b7=s.2.2.getD i (0,0):=by grind
  have j:=ES h;refine bL [(25,ab)] rfl ?_ ?_
  .simp only[ay,a,bA,aZ,aF,aD];and_intros<;>omega
  rw[a];refine AK.law (AB (nO (s.2.2.take (i+1))) rfl rfl rfl j.symm (by simp only[bA];omega)) rfl rfl ?_;refine di rfl ?_ (AK.aQ (i+1) rfl ?_ ?_ ?_ ?_)
  .simp only[ay,bA];omega
  .simp
  .simp
  .grind
  .omega
 obtain rfl:i=s.2.2.length:=by omega
 rw[dh];refine bL [(25,ae)] rfl (by simp) (AK.leaveD rfl rfl ?_);have l:=ma s.2.2 b.h;by_cases h:s.2.1.length=0
 .refine bL [(40,ae)] rfl (by simp only[ay,bM];omega) (AK.bx rfl ?_);simp[de,h]
 .have f:=b.s _ (ff (show s.2.1.length-1<s.2.1.length by omega) (0,[]));have a:s.2.1.getD ((s.2.1.length:Int)-1).toNat fL.b7=s.2.1.getD (s.2.1.length-1) (0,[]):=by rw[show((s.2.1.length:Int)-1).toNat=s.2.1.length-1 by omega];rfl
  refine bL [(40,ab)] rfl ?_ ?_
  .simp only[ay,a,bA,aZ,aF,aD];and_intros<;>omega
  rw[a];refine AK.law (AB (de s) rfl rfl rfl (by rw[de,aY h]) (by rw[de,aY h];simp only[bA];omega)) rfl rfl ?_;exact di rfl aw (AK.bx rfl)
abbrev SE(s:bo)(i:Nat)(p:List bH)(j:Nat)(q:List gG):List aP:=[xR s,.cells 27 [gm,gm,gm],.vec 48 2 s.2.2.length (cH.fn s.2.2),.cells 27 [.vec 4 2 i (cP.fn p),.vec 5 2 j (fL.fn q),.vec 2 2 s.2.2.length (cH.fn s.2.2)],.vec 67 2 i (cP.fn p),.vec 71 2 j (fL.fn q)]
def l9(s:bo)(u:s.1.length<=4000000)(f:∀p∈s.1,p.2.length<=4000000)(o:s.2.1.length<=4000000)(d:oA s)(r:s.2.2.length<=4000000):
  Ev X 62 [qN s] [] (.e (.agg [.vec 0 2 s.1.length (cP.fn s.1),.vec 1 2 s.2.1.length (fL.fn s.2.1),.vec 2 2 s.2.2.length (cH.fn s.2.2)])) [.vec 67 2 s.1.length (cP.fn s.1),.vec 71 2 s.2.1.length (fL.fn s.2.1),.vec 48 2 s.2.2.length (cH.fn s.2.2)]:=by
 refine Ev.pA tok Tryz.func62 rfl rfl rfl λn=>?_;refine bL [(1000002,ab)] rfl ?_ ?_
 .simp only[ay,show i48.bytes=16 from rfl,aF,aD,true_or];grind
 refine AK.g7 3 0 67 2 (cP.fn []) rfl rfl ?_;refine AK.g7 3 1 71 2 (fL.fn []) rfl rfl ?_;refine di rfl aw ?_;refine AK.cC 6 (λi=>i<=s.1.length) (λi:Nat=>[(1,.e (.one (.ptr 0 0))),(2,.e (.one (.ptr 1 0))),(3,.e (.one (.ptr 3 0))),(4,dI i)]) (λi=>SE s i (s.1.take i) 0 []) (λi=>s.1.length-i) 0 rfl ?_ rfl ?_ rfl (by omega) ?_
 .simp
 .simp[cy,nN]
 intro i hi;by_cases h:i<s.1.length
 .have g:s.1.getD i (0,[])∈s.1:=by grind
  have a:s.1.getD (i:Int).toNat cP.b7=s.1.getD i (0,[]):=by grind
  have q:=f _ g;refine bL [(20,ab),(2000038,ab)] rfl ?_ (AK.aQ (i+1) rfl ?_ ?_ ?_ ?_)
  .simp only[ay,a,bA,show i67.bytes=32 from rfl,show i76.bytes=24 from rfl,aZ,true_or,aF,aD];and_intros<;>omega
  .simp
  .have e:=cP.kG s.1 h (0,[]);simp only[ay.cat,ay,a,nN,bC,aD,aF];and_intros<;>first|exactλ_ _=>rfl|exact e|rfl|omega
  .grind
  .omega
 obtain rfl:i=s.1.length:=by omega
 rw[dh];refine bL [(20,ae)] rfl (by simp) (AK.leaveD rfl rfl ?_);refine di rfl aw ?_;refine AK.cC 6 (λi=>i<=s.2.1.length) (λi:Nat=>[(1,.e (.one (.ptr 0 0))),(2,.e (.one (.ptr 1 0))),(3,.e (.one (.ptr 3 0))),(5,dI i)]) (λi=>SE s s.1.length s.1 i (s.2.1.take i)) (λi=>s.2.1.length-i) 0 rfl ?_ rfl ?_ rfl (by omega) ?_
 .simp
 .simp[cy]
 intro i hi;by_cases h:i<s.2.1.length
 .have g:s.2.1.getD i (0,[])∈s.2.1:=by grind
  have a:s.2.1.getD (i:Int).toNat fL.b7=s.2.1.getD i (0,[]):=by grind
  have q:=d _ g;have e:=fL.kG s.2.1 h (0,[]);generalize s.2.1.getD i (0,[])=x at *;refine bL [(47,ab),(1000010,ab)] rfl ?_ ?_
  .simp only[ay,a,aZ,true_or,aF,aD];and_intros<;>omega
  rw[a];refine AK.g7 6 1 140 2 (cL.fn []) rfl rfl ?_;refine di rfl aw ?_;refine AK.cC 8 (λj=>j<=x.2.length) (λj:Nat=>[(1,.e (.one (.ptr 0 0))),(2,.e (.one (.ptr 1 0))),(3,.e (.one (.ptr 3 0))),(5,dI i),(6,.e (.one (.ptr 6 0))),(7,dI j)]) (λj=>SE s s.1.length s.1 i (s.2.1.take i)++[.cells 71 [.c (.int .i64 x.1),.vec 7 2 j (cL.fn (x.2.take j))],.vec 140 2 j (cL.fn (x.2.take j))]) (λj=>x.2.length-j) 0 rfl ?_ rfl ?_ rfl (by omega) ?_
  .simp
  .simp[cy]
  intro j k;by_cases l:j<x.2.length
  .have b:x.2.getD (j:Int).toNat cL.b7=x.2.getD j ([],[]):=by grind
   have t:=q.2 (x.2.getD j ([],[])) (by grind);have m:=cL.kG x.2 l ([],[]);refine bL [(66,ab),(2000085,ab)] rfl ?_ (AK.aQ (j+1) rfl ?_ ?_ ?_ ?_)
   .simp only[ay,a,b,bA,show i140.bytes=40 from rfl,show i3.bytes=8 from rfl,aZ,true_or,aF,aD];and_intros<;>omega
   .simp
   .simp only[ay.cat,ay,a,b,nN,bC,aD,aF];and_intros<;>first|exactλ_ _=>rfl|exact m|rfl
   .grind
   .omega
  obtain rfl:j=x.2.length:=by omega
  rw[dh];refine bL [(66,ae)] rfl ?_ (AK.leaveD rfl rfl ?_)
  .simp only[ay,a,bM];and_intros<;>omega
  refine di rfl ?_ (AK.aQ (i+1) rfl ?_ ?_ ?_ ?_)
  .simp only[ay,a,bA,show i71.bytes=32 from rfl,aF,aD];and_intros<;>omega
  .simp
  .simp only[ay.cat,ay,aD,aF];and_intros<;>first|exactλ_ _=>rfl|exact e|rfl|omega
  .grind
  .omega
 obtain rfl:i=s.2.1.length:=by omega
 rw[dh];refine bL [(47,ae)] rfl (by simp) (AK.leaveD rfl rfl ?_);refine di rfl aw ?_;refine AK.l4 () [4,5,2] rfl rfl rfl rfl rfl rfl rfl rfl ?_ rfl rfl rfl rfl (λj k=>absurd k (by simp))
 .simp
def _root_.Go.AM.kF.HV{α:Type}(c:kF α)(l:List α){n:Nat}{es:Nat->List C}(a:cy n es (c.fn l))(b:n<=l.length):c.list n es=l.take n:=by
 apply pX
 .simp[kF.list];omega
 .intro i h1 h2;have hi:i<n:=by grind
  simp[kF.list,a i hi,kF.fn,ya,an,br (show i<l.length by omega),c.inv]
def _root_.Go.AM.kF.OJ{α:Type}(c:kF α)(l:List α){n:Nat}{es:Nat->List C}(a:cy n es (c.fn l)):c.fits n es:=λi hi=>by rw[a i hi];exact c.aM l i (Nat.lt_succ_self i)
def Cr(a b:Nat):min (a:Int) (b:Int)=((min a b:Nat):Int):=by grind
def eQ(k:Int):Nat->Int->List Bs->List bH
 |0,_,_=>[]
 |f+1,no,ps=>if 0<ps.length then eZ no k (ps.take 4)::eQ k f (no+1) (ps.drop 4)else[]
def nI(k:Int)(s:bo)(t:List bz):List bH:=eQ k (dg k t (indexOf s.1)).length (cv s) (dg k t (indexOf s.1))
def eU(k:Int)(s:bo)(t:List bz):Bool:=decide (20<s.1.length+(nI k s t).length)||(decide (99<cv s+(nI k s t).length-1)||(decide (20<de s)||decide (9<=s.2.2.length)))
def eO(k:Int)(s:bo)(by_:Int)(t:List bz):bo:=(s.1++nI k s t,s.2.1++[fA (de s) k t],s.2.2++[(by_,de s)])
theorem rz(k:Int):∀f no ps,(eQ k f no ps).length<=f
 |0,_,_=>bg _
 |f+1,no,ps=>by
  simp only[eQ];split
  .have:=rz k f (no+1) (ps.drop 4);grind
  .simp
abbrev K8:dv:=Et aI aI (aL cS) (λno k ps=>HG (eZ no k ps)) λ_ k ps=>[b6 k=ab,∀p∈ps,bt p=ab,ps.length<=4000000]
def SB:eb X 66 K8:=.KA λno k ps h=>K9 no k ps h.1 h.2.1 h.2.2
abbrev La:dv:=Et aI aI (aL cF) (λno k t=>M8 (fA no k t)) λ_ k t=>[b6 k=ab,qP t]
def Qy:eb X 67 La:=.KA λno k t h=>OK no k t h.1 h.2
abbrev EN:dv:=Et aI (aL cF) (aL nW) (λk t l=>cS.sl (dg k t l)) λk t l=>[b6 k=ab,qP t,l.length<=4000000]
def Lb:eb X 64 EN:=.KA λk t l h=>Lc k t l h.1 h.2.1 h.2.2
def iE{k:Int}{t:List bz}{l:List cu}(c:qP t):(∀p∈dg k t l,bt p=ab)/\(dg k t l).length<=100000:=by
 constructor
 .have:∀(ps a:List Bs),(∀p∈ps,bt p=ab)->(∀p∈a,bt p=ab)->∀p∈ps.foldl (iF k l) a,bt p=ab:=by
   intro ps;induction ps with
   |nil=>grind
   |cons q r g =>
    intro a h d;refine g _ (λp b=>h p (qU _ b)) λp b=>?_;unfold iF at b;grind
  refine this _ [] (λp b=>?_) (by simp);obtain⟨f,e,b⟩:=List.mem_flatMap.1 b;exact nJ (c.sZ f e).1 p b
 .have:=tL k l (gL t) [];have d:=c.all;unfold dg;simp only[fG]at this;exact im this (by omega)
theorem mL{l:List bH}(h:(c6 l).length<=100000):(indexOf l).length<=100000:=by unfold indexOf;grind[tM]
abbrev Y2(k by_ no:Int)(s:bo)(t:List bz)(rest:List Bs):Fr:=[(0,dI k),(2,dI by_),(3,cF.sl t),(5,.e (.one (.ptr 0 0))),(8,.e (.one (.ptr 1 0))),(10,.e (.one (.ptr 5 0))),(11,dI no),(12,dI (de s)),(13,cS.sl rest)]
abbrev VL(s:bo)(ps:List bH):List aP:=[xR s,.cells 27 [gm,gm,gm],.vec 67 2 ps.length (cP.fn ps),.vec 71 2 s.2.1.length (fL.fn s.2.1),.vec 48 2 s.2.2.length (cH.fn s.2.2),.cells 27 [.vec 2 2 ps.length (cP.fn ps),.vec 3 2 s.2.1.length (fL.fn s.2.1),.vec 4 2 s.2.2.length (cH.fn s.2.2)]]
abbrev Y3(s:bo)(b:Bool):D:=.fa [.agg [.c (.sl ae 2 s.1.length (cP.fn s.1)),.c (.sl ae 2 s.2.1.length (fL.fn s.2.1)),.c (.sl ae 2 s.2.2.length (cH.fn s.2.2))],.one (.c (.bool b))]
def yN(k:Int)(s:bo)(by_:Int)(t:List bz)(hk:b6 k=ab)(a:l8 s)(d:sE s)(g:qP t)(r:(c6 s.1).length<=100000):
  Ev X 24 [dI k,qN s,dI by_,cF.sl t] [] (Y3 (if eU k s t=ab then s else eO k s by_ t) (!eU k s t)) []:=by
 refine Ev.qJ Tryz.func24 rfl rfl rfl λR=>?_;have c:bF X [(65,EO),(64,EN),(66,K8),(67,La)]:=.cons Ld (.cons Lb (.cons SB (.cons Qy .nil)));have Q:=a.p;have S:=a.sn;have P:=a.h;have y:=mL r;refine cm c rfl aw ?_;refine AK.cQ (l9 s a.p a.p2 a.sn a.s2 a.h) [] rfl ?_;refine cm c rfl aw ?_;refine AK.cQ (yO s a d) [] rfl ?_;refine cm c rfl ?_ ?_
 .simp only[ay,cP.list_fn,nW.list_fn,cF.list_fn,hk,g];and_intros<;>first|exact cP.aM _|exact nW.aM _|exact cF.aM _|trivial|exact g|omega
 simp only[cP.list_fn,nW.list_fn,cF.list_fn];obtain⟨o,L⟩:=iE (k:=k) (l:=indexOf s.1) g;have T:nI k s t=eQ k (dg k t (indexOf s.1)).length (cv s) (dg k t (indexOf s.1)):=rfl;generalize dg k t (indexOf s.1)=pc at *;generalize w:nI k s t=np at *;have z:-4000000<=cv s/\cv s<=4000001:=by
  unfold cv;split
  .omega
  .rename_i h;have:=d.p _ (ff (show s.1.length-1<s.1.length by omega) (0,[]));omega
 have F:np.length<=100000:=by grind[rz]
 refine AK.j1 (S2:=Unit) 0 rfl rfl (λ_=>True) (λ_=>[(0,dI k),(2,dI by_),(3,cF.sl t),(5,.e (.one (.ptr 0 0))),(8,.e (.one (.ptr 1 0))),(10,.e (.one (.ptr 5 0))),(11,dI (cv s+np.length)),(12,dI (de s))]) (λ_=>VL s (s.1++np)) 6
  (λx:List Bs×List bH=>(∀p∈x.1,bt p=ab)/\x.2.length+x.1.length<=5000000/\s.1.length<=x.2.length/\∃f,x.1.length<=f/\s.1++np=x.2++eQ k f (cv s+(x.2.length-s.1.length:Nat)) x.1) (λx=>Y2 k by_ (cv s+(x.2.length-s.1.length:Nat)) s t x.1) (λx=>VL s x.2) (λx=>x.1.length) (pc,s.1) rfl ?_ rfl ?_ rfl ⟨o,by grind,bg _,pc.length,bg _,by grind⟩ ?_ ?_
 .simp
 .simp
 .rintro out ⟨rest,ps⟩ ⟨q,C,M,f,I,u⟩;simp only at q C M I u;by_cases h:0<rest.length
  .obtain⟨f,rfl⟩:∃J,f=J+1:=⟨f-1,by omega⟩
   simp only[eQ,bl h]at u;have K:bA .i64 ((min rest.length 4:Nat):Int):=by simp only[bA];omega
   refine bh c [(30,ab)] rfl (by simp only[ay,aZ];omega) ?_;refine AK.law (tF ((min rest.length 4:Nat):Int) rfl rfl rfl (Cr rest.length 4) K) rfl rfl ?_;have v:cS.list (cO rest.length (aa ((min rest.length 4:Nat):Int))-cO 0 af) (jJ (cO 0 af) (cS.fn rest))=rest.take 4:=by
    have j:cO rest.length (aa ((min rest.length 4:Nat):Int))-cO 0 af=min rest.length 4:=by simp[cO]
    rw[j,cS.HV rest (λi hi=>by simp[jJ,cO]) (by omega)];grind
   have A:cS.fits (cO rest.length (aa ((min rest.length 4:Nat):Int))-cO 0 af) (jJ (cO 0 af) (cS.fn rest)):=cS.OJ rest (λi hi=>by simp[jJ,cO]);have G:cy (rest.length-min rest.length 4) (jJ (min rest.length 4) (cS.fn rest)) (cS.fn (rest.drop 4)):=by
    intro i hi;have N:min rest.length 4=4:=by omega
    rw[N];simp only[jJ,kF.fn,ya,an,n3]
   have n:∀p∈rest.take 4,bt p=ab:=λp m=>q p (fP m);have O:=cP.cj ps (eZ (cv s+(ps.length-s.1.length:Nat)) k (rest.take 4));refine cm c rfl ?_ (AK.aQ (rest.drop 4,ps++[eZ (cv s+(ps.length-s.1.length:Nat)) k (rest.take 4)]) rfl ?_ ?_ ?_ ?_)
   .simp only[ay,bA,v,hk,A,List.length_take,show i67.bytes=32 from rfl,aF,aD];and_intros<;>first|exact n|omega
   .simp only[ay.cat,ay,cA,er,fG,pW,cO,cd,aF,aD];and_intros<;>first|rfl|omega|exactλ_ _=>rfl|exact G
   .simp only[ay.cat,ay,v,cA,er,fG,aF,aD];and_intros<;>first|rfl|exactλ_ _=>rfl|exact O|omega
   .refine⟨λp m=>q p (pR m),by grind,by grind,f,by grind,?_⟩;grind
   grind
  .have e:ps=s.1++np:=by rw[u];cases f<;>simp[eQ,h]
   refine bh c [(30,ae)] rfl (by simp only[ay,bM];omega) (AK.leaveD rfl rfl ?_);refine out () aw rfl ?_ rfl ?_
   .simp only[ay.cat,ay,e,cA,aF,aD];and_intros<;>first|rfl|omega|exactλ_ _=>rfl
   .simp[e]
 rintro⟨⟩ -;have D:eU k s t=(decide (20<s.1.length+np.length)||(decide (99<cv s+np.length-1)||(decide (20<de s)||decide (9<=s.2.2.length)))):=by unfold eU;rw[w]
 have E:-4000000<=de s/\de s<=4000001:=by
  have:=ma s.2.2 d.h;unfold de;split
  .omega
  .rename_i h;have:=d.s _ (ff (show s.2.1.length-1<s.2.1.length by omega) (0,[]));omega
 have B:(s.1++np).length=s.1.length+np.length:=cA;by_cases c1:20<s.1.length+np.length
 .have b:eU k s t=ab:=by grind
  rw[b];refine bh c [(53,ab)] rfl ?_ ?_
  .simp only[ay,cA,bA,aZ,bM,aF,aD];grind
  refine AK.cQ (l9 s a.p a.p2 a.sn a.s2 a.h) [] rfl ?_;refine cm c rfl aw ?_;refine AK.freeze 8 1 rfl rfl rfl ?_;refine AK.Bx tok [] rfl ?_ rfl rfl rfl sD;simp
 by_cases c2:99<cv s+np.length-1
 .have b:eU k s t=ab:=by grind
  rw[b];refine bh c [(53,ae),(57,ab)] rfl ?_ ?_
  .simp only[ay,cA,bA,aZ,bM,aF,aD];and_intros<;>omega
  refine AK.cQ (l9 s a.p a.p2 a.sn a.s2 a.h) [] rfl ?_;refine cm c rfl aw ?_;refine AK.freeze 8 1 rfl rfl rfl ?_;refine AK.Bx tok [] rfl ?_ rfl rfl rfl sD;simp
 by_cases c3:20<de s
 .have b:eU k s t=ab:=by grind
  rw[b];refine bh c [(53,ae),(57,ae),(61,ab)] rfl ?_ ?_
  .simp only[ay,cA,bA,aZ,bM,aF,aD];and_intros<;>omega
  refine AK.cQ (l9 s a.p a.p2 a.sn a.s2 a.h) [] rfl ?_;refine cm c rfl aw ?_;refine AK.freeze 8 1 rfl rfl rfl ?_;refine AK.Bx tok [] rfl ?_ rfl rfl rfl sD;simp
 by_cases c4:9<=s.2.2.length
 .have b:eU k s t=ab:=by grind
  rw[b];refine bh c [(53,ae),(57,ae),(61,ae),(67,ab)] rfl ?_ ?_
  .simp only[ay,cA,bA,aZ,bM,aF,aD];and_intros<;>omega
  refine AK.cQ (l9 s a.p a.p2 a.sn a.s2 a.h) [] rfl ?_;refine cm c rfl aw ?_;refine AK.freeze 8 1 rfl rfl rfl ?_;refine AK.Bx tok [] rfl ?_ rfl rfl rfl sD;simp
 have b:eU k s t=ae:=by grind
 rw[b];have j:=fL.cj s.2.1 (fA (de s) k t);have H:=cH.cj s.2.2 (by_,de s);refine bh c [(53,ae),(57,ae),(61,ae),(67,ae)] rfl ?_ ?_
 .simp only[ay,hk,cF.list_fn,cA,bA,show i71.bytes=32 from rfl,show i48.bytes=16 from rfl,aZ,bM,aF,aD];and_intros<;>first|exact g|exact cF.aM _|rfl|omega
 refine AK.freeze 8 1 rfl rfl rfl ?_;refine AK.Bx tok [] rfl ?_ rfl rfl rfl sD;simp only[ay.cat,ay,cF.list_fn,eO,w,cA,er,fG,aF,aD];and_intros<;>first|rfl|exactλ_ _=>rfl|exact j|exact H|simp
end
end Go.AM.R1
namespace Go.AM
section
open Go.Conc (G)
def vU(l k n:Nat)(es:Nat->List C):A->A×List Prop
 |.bp l' (.sl g k' o m)=>match aA l' l with
  |true=>match aA k' k with
   |true=>(.c (.sl ae k m (q8 o es)),[g=n,o+m<=n])
   |false=>(.bp l' (.sl g k' o m),[])
  |false=>(.bp l' (.sl g k' o m),[])
 |a=>(a,[])
def ow(l k n:Nat)(es:Nat->List C):List A->List A×List Prop
 |[]=>([],[])
 |a::r=>match vU l k n es a with
  |(a',p)=>match ow l k n es r with
   |(r',q)=>(a'::r',kO p q)
def DL(l k n:Nat)(es:Nat->List C):E1->E1×List Prop
 |.one a=>match vU l k n es a with|(a',p)=>(.one a',p)
 |.agg cs=>match ow l k n es cs with|(b,p)=>(.agg b,p)
def DM(l k n:Nat)(es:Nat->List C):D->D×List Prop
 |.e x=>match DL l k n es x with|(a,p)=>(.e a,p)
 |d=>(d,[])
def vW(l k n:Nat)(es:Nat->List C):Fr->Fr×List Prop
 |[]=>([],[])
 |(t,d)::r=>match DM l k n es d with
  |(a,p)=>match vW l k n es r with
   |(r',q)=>((t,a)::r',kO p q)
def gT(l k n:Nat)(es:Nat->List C):Nat->List aP->List aP×List Prop
 |_,[]=>([],[])
 |i,b::r=>match gT l k n es (i+1) r with
  |(r',q)=>match aA i l with
   |true=>(.dead::r',q)
   |false=>match b with
    |.cells E cs=>match ow l k n es cs with|(a,p)=>(.cells E a::r',kO p q)
    |b=>(b::r',q)
section
variable {σ σ':List aP}{s s2:St}{E l k n:Nat}{es:Nat->List C}
structure jd(σ:List aP)(s:St)(l k n:Nat)(es:Nat->List C)(σ':List aP)(s2:St):Prop where
 fi:∀v a,gu σ s v a->gu σ' s2 v a
 Jh:∀v k' o m,gu σ s v (.bp l (.sl n k' o m))->k'=k->o+m<=n->Rd s2.M v (.sl ae k m (q8 o es))
def jd.a(h:jd σ s l k n es σ' s2){v:ah}{a:A}(b:ay (vU l k n es a).2)(r:gu σ s v a):gu σ' s2 v (vU l k n es a).1:=by
 unfold vU at b⊢;split
 .rename_i l' g k' o m;split
  .rename_i e1;split
   .rename_i e2;simp only[e1,e2]at b;have e1:=bR e1;have e2:=bR e2;subst e1;obtain⟨rfl,h2⟩:g=n/\o+m<=n:=b;exact h.Jh v _ _ _ r e2 h2
   .exact h.fi v _ r
  .exact h.fi v _ r
 .exact h.fi v _ r
def jd.ls(h:jd σ s l k n es σ' s2):∀{vs:List ah}{cs:List A},ay (ow l k n es cs).2->dW σ s vs cs->dW σ' s2 vs (ow l k n es cs).1
 |[],[],_,_=>trivial
 |[],_::_,_,r=>r.elim
 |_::_,[],_,r=>r.elim
 |v::vs,c::cs,b,r=>by simp only[ow]at b⊢;rw[ay.cat]at b;exact⟨h.a b.1 r.1,h.ls b.2 r.2⟩
def jd.e(h:jd σ s l k n es σ' s2){v:ah}{x:E1}(b:ay (DL l k n es x).2)(r:m8 σ s v x):m8 σ' s2 v (DL l k n es x).1:=by
 cases x with
 |one a=>exact h.a b r
 |agg cs=>obtain⟨vs,d,f⟩:=r;exact⟨vs,d,h.ls b f⟩
def jd.d(h:jd σ s l k n es σ' s2)(hl:s.β.length=σ.length)(b:Ext σ s σ' s2){v:ah}{d:D}(a:ay (DM l k n es d).2)(r:dn σ s v d):dn σ' s2 v (DM l k n es d).1:=by
 cases d with
 |e x=>exact h.e a r
 |fa xs=>exact r.mono b hl
 |any=>trivial
def jd.f(h:jd σ s l k n es σ' s2)(hl:s.β.length=σ.length)(e:Ext σ s σ' s2):∀{φ:Fr}{t:Nat}{v:ah},ay (vW l k n es φ).2->dn σ s v (look φ t)->dn σ' s2 v (look (vW l k n es φ).1 t)
 |[],_,_,_,_=>trivial
 |(u,d)::r,t,v,b,a=>by
  simp only[vW]at b⊢;rw[ay.cat]at b;simp only[look]at a⊢;cases g:aA u t with
  |true=>rw[g]at a;exact h.d hl e b.1 a
  |false=>rw[g]at a;exact h.f hl e b.2 a
theorem rf:∀{σ:List aP}{i j:Nat},(gT l k n es i σ).1[j]?=match σ[j]? with
  |none=>af
  |some b=>aa (match aA (i+j) l with|true=>.dead|false=>match b with|.cells E cs=>.cells E (ow l k n es cs).1|b=>b)
 |[],i,j=>by simp[gT]
 |b::r,i,0=>by simp only[gT,iq,lb];grind
 |b::r,i,j+1=>by
  have a:=rf (σ:=r) (i:=i+1) (j:=j);have e:i+1+j=i+(j+1):=by omega
  rw[e]at a;simp only[gT,nY];grind
def vX:∀{σ:List aP}{i j:Nat}{E:aj}{cs:List A},ay (gT l k n es i σ).2->σ[j]?=aa (.cells E cs)->i+j≠l->ay (ow l k n es cs).2
 |[],i,j,_,_,_,a,_=>by grind
 |b::r,i,0,E,cs,e,a,d=>by simp at a;subst a;simp only[gT]at e;grind[Nat.eq_of_beq_eq_true,ay.cat]
 |b::r,i,j+1,E,cs,e,a,d=>by simp at a;refine vX (σ:=r) (i:=i+1) (j:=j) ?_ a (by omega);simp only[gT]at e;grind[ay.cat]
theorem rh:∀{σ:List aP}{i:Nat},(gT l k n es i σ).1.length=σ.length
 |[],_=>rfl
 |b::r,i=>by simp only[gT];have a:=rh (σ:=r) (i:=i+1);grind
def aE.oK(hh:aE σ s)(hB:σ[l]?=aa (.buf E k n es))(hq:ay (gT l k n es 0 σ).2):
  ∃s2:St,s2.w=s.w/\aE (gT l k n es 0 σ).1 s2/\Step σ s (gT l k n es 0 σ).1 s2/\jd σ s l k n es (gT l k n es 0 σ).1 s2:=by
 have G:l<σ.length:=(bZ.1 hB).1;have R:s.β[l]?=aa (s.β[l]'(by rw[hh.len];exact G)):=br _;generalize s.β[l]'(by grind)=L at R;have Q:=hh.box _ _ L hB R;obtain⟨M',m1,m2,m3,m4⟩:∃M':Mem,(∀b o v,s.M b o=aa v->M' b o=aa v)/\(∀b,b∉L.bs->∀o,M' b o=s.M b o)/\(∀b o v,M' b o=aa v->s.w.cell? ⟨b,o,af⟩=aa v) /\
   (∀v k' o m,gu σ s v (.bp l (.sl n k' o m))->k'=k->o+m<=n->Rd M' v (.sl ae k m (q8 o es))):=by
  rcases Q with⟨rfl,rfl⟩|⟨b,c0,vs,zs,rfl,hw,Dz,ZQ,Ng,hF,hM⟩
  .refine⟨s.M,λ_ _ _ h=>h,λ_ _ _=>rfl,hh.mem,λv k' o m r e y=>?_⟩;obtain⟨lv,⟨a,a0,cap,c0,A,h1,h2,F,O,S⟩,_,hx⟩:=r;grind[Rd.jD]
  .let M':Mem:=λq o=>if q=b then vs[o]? else s.M q o;have Y:∀q o v,s.M q o=aa v->M' q o=aa v:=λq o v A=>by grind
   refine⟨M',Y,λq Dq o=>?_,λq o v A=>?_,λv k' o m r e y=>?_⟩
   .grind
   .by_cases e:q=b
    .subst e;simp only[M',cn]at A;simp only[aU,hw];grind
    .simp only[M',e,b9]at A;exact hh.mem q o v A
   .subst e;obtain⟨lv,⟨a,a0,cap,c1,A,h1,h2,F,O,S⟩,_,hx⟩:=r;obtain⟨L',f,H⟩:=(hx _ _ _ _ hB).2 rfl;rw[R]at f;cases f;rw[O]at H;cases H;rw[A];have g:∀i,i<m->∀j c,(q8 o es i)[j]?=aa c->∃u,vs[(o+i)*k'+j]?=aa u/\Rd s.M u c:=λi hi j c hj=>by rw[vh]at hj;exact hF.rd (o+i) (by omega) j c hj
    refine .sl b (o*k') (λi j=>(vs[(o+i)*k'+j]?).getD ai) h1 (by omega) (by simp) (λi hi=>by rw[vh];exact hF.width _ (by omega)) (λhm=>?_) (λi hi j c hj=>?_) (λi hi j c hj=>?_)
    .grind
    .grind
    .obtain⟨u,u1,u2⟩:=g i hi j c hj;rw[u1];exact u2.mono Y
 obtain⟨D,q2⟩:=hh.gB (M':=M') (w':=s.w) (B':=.dead) (L':=⟨L.v,[]⟩) hB R aw (bg _) (λ_ _ _=>rfl) (λb _ W o=>m2 b W o) m1 m3 (by simp) rfl rfl rfl aw;let s2:St:=⟨s.β.set l ⟨L.v,[]⟩,M',s.w,s.own⟩
 have g:∀i B,σ[i]?=aa B->i≠l->(gT l k n es 0 σ).1[i]?=aa (match B with|.cells E cs=>.cells E (ow l k n es cs).1|b=>b):=λi B hi Bi=>by grind[rf,Nat.eq_of_beq_eq_true]
 have J:(gT l k n es 0 σ).1[l]?=aa .dead:=by
  rw[rf,hB];have:aA (0+l) l=ab:=by rw[bC];exact iR l
  grind
 have vY:Step (σ.set l .dead) s2 (gT l k n es 0 σ).1 s2:=by
  refine⟨bg _,λ_ _ _=>rfl,λ_ _ _ h=>h,λ_ _ _ _=>rfl,λL' f b W=>.inr ⟨L',f,W⟩,λi B L' hi f=>?_,rfl,rfl,rfl,rfl⟩;by_cases e:i=l
  .subst e;rw[fZ G]at hi;cases hi;exact⟨.dead,L',J,f,rfl⟩
  .rw[j6 (λh=>e h.symm)]at hi;refine⟨_,L',g i B hi e,f,?_⟩;cases B<;>first|exact gA.refl _ _|rfl
 have st:=q2.trans vY;have Z:jd σ s l k n es (gT l k n es 0 σ).1 s2:=⟨λv a r=>r.mono st.ext hh.len,λv k' o m r e y=>m4 v k' o m r e y⟩
 refine⟨s2,rfl,⟨D.mem,by rw[rh,<-hh.len];grind,λi B L' hi f=>?_,D.eB,D.lt,D.own⟩,st,Z⟩;by_cases e:i=l
 .subst e;rw[J]at hi;cases hi;trivial
 .have z:i<σ.length:=by grind[rh]
  have x:=br z;have U:s.β[i]?=aa L':=by grind
  have V:=hh.box i _ L' x U;have p:=D.box i _ L' (by rw[j6 (λh=>e h.symm)];exact x) f;have d:=g i _ x e;rw[hi]at d;have d:=rM d;generalize hBe:σ[i]=B0 at *;cases B0 with
  |cells E0 cs =>
   subst d;obtain⟨b,vs,h1,h2,F,S⟩:=V;obtain⟨q,zB,I,XD,_,T⟩:=p;rw[h1]at I;cases I;exact⟨b,vs,h1,h2,Z.ls (vX hq x (by omega)) F,T⟩
  |vec=>subst d;exact p
  |cf=>subst d;exact p
  |dead=>subst d;trivial
  |loop N φ r =>
   subst d;obtain⟨l1,tmps,fn,df,h1,h2,F,S,h5⟩:=p;exact⟨l1,tmps,fn,df,h1,h2,F,λt=>(S t).mono vY.ext D.len,h5⟩
  |qX=>subst d;exact p
  |buf=>subst d;exact p
end
section
variable {P:aq}{X:Cx P}{N:Nat}{Qf:Post}{K:List It}{φ φ':Fr}{σ σ':List aP}{c:Code}
def AK.oK(l:Nat){E k n:Nat}{es:Nat->List C}{ps qs:List Prop}(hl:dw l σ=aa (.buf E k n es))(i:vW l k n es φ=(φ',ps))(d:gT l k n es 0 σ=(σ',qs))(j:ay ps)(m:ay qs)(kk:AK X N Qf (.code c::K) .normal φ' σ'):AK X N Qf (.code c::K) .normal φ σ:=by refine AK.ghost (λs a e hh=>?_) kk;obtain⟨s2,h1,h2,b,g⟩:=hh.oK (b5 hl) (by grind);rw[d]at h2 b g;refine⟨s2,h1,⟨e.size,e.defers.imp λ_ h=>h.mono b.ext,λt=>?_⟩,h2,b⟩;have:=g.f hh.len b.ext (φ:=φ) (t:=t) (by grind) (e.slot t);grind
end
end
end Go.AM
namespace Go.AM.R1
section
open Go.Proofs
variable {X:Cx ag}
def Bf.snoc{ps:List bH}{x:bH}{q:Nat->ah}{bf:m9}{xs:List ah}(c:0<x.2.length)(a:gn 2 x.2.length (dM.fn x.2) xs)(d:∃b cap,bf=.row b cap/\x.2.length<=cap/\cap<=9223372036854775807):
  ∀M M',wT M M'->Bf ps q ps.length M->(∀b cap,bf=.row b cap->∀j v,xs[j]?=aa v->M' b j=aa v)->Bf (ps++[x]) (I0 q ps.length (la bf x.2.length)) (ps++[x]).length M':=by
 intro M M' hle hK hx;have e:(ps++[x]).getD ps.length (0,[])=x:=by simp
 have h:=Bf.up (ps:=ps++[x]) (q:=q) (i:=ps.length) (bf:=bf) (xs:=xs) (by grind) (by grind) (by grind) M M' hle (λj hj=>by
  have e2:(ps++[x]).getD j (0,[])=ps.getD j (0,[]):=by grind
  rw[e2];exact hK j hj) hx
 grind
def MK{ps:List bH}{x:bH}{q:Nat->ah}{v:ah}:cy (ps.length+1) (cE ps.length (Dv ps q) (λj=>([[.int .i64 x.1,.val v]]:List (List C)).getD j [])) (Dv (ps++[x]) (I0 q ps.length v)):=by
 intro j b;by_cases h:j<ps.length
 .have a:(ps++[x]).getD j (0,[])=ps.getD j (0,[]):=by grind
  simp only[cE,h,cn,Dv,I0,a,aY (show j≠ps.length by omega)]
 .obtain rfl:j=ps.length:=by omega
  have e:(ps++[x]).getD ps.length (0,[])=x:=by simp
  simp only[cE,Dv,I0,e,cn];simp
abbrev ZJ(k by_ no:Int)(s:bo)(t:List bz)(rest:List Bs):Fr:=[(0,dI k),(2,dI by_),(3,cF.sl t),(5,.e (.one (.ptr 0 0))),(8,.e (.one (.ptr 1 0))),(10,.e (.one (.ptr 6 0))),(11,dI no),(12,dI (de s)),(13,cS.sl rest)]
abbrev TB(s:bo)(ps:List bH)(q:Nat->ah):List aP:=[xR s,.cells 27 [gm,gm,gm],.buf 67 2 ps.length (Dv ps q),.buf 71 2 s.2.1.length (fL.fn s.2.1),.buf 48 2 s.2.2.length (cH.fn s.2.2),.cf (PM (Bf ps q ps.length)),.cells 27 [.bp 2 (.sl ps.length 2 0 ps.length),.bp 3 (.sl s.2.1.length 2 0 s.2.1.length),.bp 4 (.sl s.2.2.length 2 0 s.2.2.length)]]
def Fu[X.gZ](k:Int)(s:bo)(by_:Int)(t:List bz)(hk:b6 k=ab)(d:l8 s)(z:sE s)(w:qP t)(K:(c6 s.1).length<=100000)(S:∀p∈s.1,0<p.2.length)(y:eU k s t=ae):
  dZ (ι:=Nat->ah) X 24 [dI k,qN s,dI by_,cF.sl t] [] (λ_=>.fa [.agg [.bp 0 (.sl (eO k s by_ t).1.length 2 0 (eO k s by_ t).1.length),.c (EL (eO k s by_ t).2.1),.c (Co (eO k s by_ t).2.2)],.one (.c (.bool ab))])
   (λq=>[.buf 67 2 (eO k s by_ t).1.length (Dv (eO k s by_ t).1 q),.cf (PM (Bf (eO k s by_ t).1 q (eO k s by_ t).1.length))]):=by
 refine dZ.qJ tok Tryz.func24 rfl rfl rfl λhf=>?_;have a:bF X [(65,EO),(64,EN),(67,La)]:=.cons Ld (.cons Lb (.cons Qy .nil));have h1:=d.p;have h2:=d.sn;have h3:=d.h;have R:=mL K;refine cm a rfl aw ?_;refine AK.cP (Ft s S d.p d.p2 d.sn d.s2 d.h) [] rfl (λ_=>rfl) λV=>?_;refine cm a rfl aw ?_;refine AK.cQ (yO s d z) [] rfl ?_;refine cm a rfl ?_ ?_
 .simp only[ay,cP.list_fn,nW.list_fn,cF.list_fn,hk,w];and_intros<;>first|exact cP.aM _|exact nW.aM _|exact cF.aM _|trivial|exact w|omega
 simp only[cP.list_fn,nW.list_fn,cF.list_fn];obtain⟨F,hpl⟩:=iE (k:=k) (l:=indexOf s.1) w;have hN:nI k s t=eQ k (dg k t (indexOf s.1)).length (cv s) (dg k t (indexOf s.1)):=rfl;generalize dg k t (indexOf s.1)=pc at *;generalize M:nI k s t=np at *;have U:-4000000<=cv s/\cv s<=4000001:=by
  unfold cv;split
  .omega
  .rename_i h;have:=z.p _ (ff (show s.1.length-1<s.1.length by omega) (0,[]));omega
 have TG:np.length<=100000:=by grind[rz]
 refine AK.j1 (S2:=Nat->ah) 0 rfl rfl (λ_=>True) (λ_=>[(0,dI k),(2,dI by_),(3,cF.sl t),(5,.e (.one (.ptr 0 0))),(8,.e (.one (.ptr 1 0))),(10,.e (.one (.ptr 6 0))),(11,dI (cv s+np.length)),(12,dI (de s))]) (λq=>TB s (s.1++np) q) 7
  (λx:List Bs×List bH×(Nat->ah)=>(∀p∈x.1,bt p=ab)/\x.2.1.length+x.1.length<=5000000/\s.1.length<=x.2.1.length/\∃f,x.1.length<=f/\s.1++np=x.2.1++eQ k f (cv s+(x.2.1.length-s.1.length:Nat)) x.1) (λx=>ZJ k by_ (cv s+(x.2.1.length-s.1.length:Nat)) s t x.1) (λx=>TB s x.2.1 x.2.2) (λx=>x.1.length) (pc,s.1,V) rfl ?_ rfl ?_ rfl ⟨F,by grind,bg _,pc.length,bg _,by grind⟩ ?_ ?_
 .simp
 .simp
 .rintro out ⟨rest,ps,q⟩ ⟨J,Z,g3,f,g4,L⟩;simp only at J Z g3 g4 L;by_cases h:0<rest.length
  .obtain⟨f,rfl⟩:∃f',f=f'+1:=⟨f-1,by omega⟩
   simp only[eQ,bl h]at L;have hm:bA .i64 ((min rest.length 4:Nat):Int):=by simp only[bA];omega
   refine bh a [(30,ab)] rfl (by simp only[ay,aZ];omega) ?_;refine AK.law (tF ((min rest.length 4:Nat):Int) rfl rfl rfl (Cr rest.length 4) hm) rfl rfl ?_;have A:cO rest.length (aa ((min rest.length 4:Nat):Int))-cO 0 af=min rest.length 4:=by simp[cO]
   have hD:cy (rest.length-min rest.length 4) (jJ (min rest.length 4) (cS.fn rest)) (cS.fn (rest.drop 4)):=by
    intro i hi;have h4:min rest.length 4=4:=by omega
    rw[h4];simp only[jJ,kF.fn,ya,an,n3]
   have hT:cy (cO rest.length (aa ((min rest.length 4:Nat):Int))-cO 0 af) (jJ (cO 0 af) (cS.fn rest)) (cS.fn (rest.take 4)):=by intro i hi;rw[A]at hi;simp only[jJ,cO,kF.fn,ya,an,bC];grind
   have Q:(rest.take 4).length=min rest.length 4:=by grind
   have E:∀p∈rest.take 4,bt p=ab:=λp B=>J p (fP B);have I:=IF (X:=X) (cv s+(ps.length-s.1.length:Nat)) k (rest.take 4) hk E (by omega) (by omega);have O:eZ (cv s+(ps.length-s.1.length:Nat)) k (rest.take 4)=(cv s+(ps.length-s.1.length:Nat),oY k (rest.take 4)):=rfl;have o:0<(oY k (rest.take 4)).length:=by grind[qx]
   generalize P:cv s+(ps.length-s.1.length:Nat)=no at *;have N:-5000000<=no/\no<=10000000:=by omega
   generalize Y:oY k (rest.take 4)=ML at *;refine bh a [(1000006,ab)] rfl aw ?_;refine AK.J7 (ι:=Own ML) iZ 7 9 12 (λj=>bw j 6)
    (λj=>([.e (.one (.ptr 6 0)),.e (.one (.bp 2 (.sl ps.length 2 0 ps.length))),dI no,dI k,cS.sl rest,dI (min rest.length 4:Nat),.e (.one (.c (.sl ae 1 (cO rest.length (aa ((min rest.length 4:Nat):Int))-cO 0 af) (jJ (cO 0 af) (cS.fn rest)))))]:List D).getD j .any)
    (λr j=>match j with|7=>.e (.agg [.c (.int .i64 no),.c (AD ML r)])|_=>.e (.one (.c (.sl ab 2 1 (λj=>([[.int .i64 no,AD ML r]]:List (List C)).getD j []))))) (λr=>TB s ps q++[H0 ML r])
    rfl rfl rfl rfl rfl rfl rfl (λj h=>by have:=cZ h;omega) rfl
    ⟨OA.cV tok a rfl,OA.cV tok a rfl,OA.cV tok a rfl,OA.cV tok a rfl,OA.cV tok a rfl,OA.cV tok a rfl,OA.eval (ds:=[]) tok a rfl ?_,aw,aw,aw,aw,aw,aw⟩
    (λr=>⟨OA.cV tok a rfl,OA.cV tok a rfl,OA.cV tok a rfl,OA.cV tok a rfl,OA.cV tok a rfl,OA.cV tok a rfl,OA.eval (ds:=[]) tok a rfl ?_,aw,OA.cV tok a rfl,aw⟩)
    (mz.jI I [] rfl rfl rfl rfl ?_ rfl rfl rfl (λ_=>rfl) rfl (λ_=>rfl)) ?_
   .simp only[fR,ay];omega
   .simp only[fR,ay];omega
   .simp only[ay.cat,ay,aF,aD];grind
   intro r;refine bh a [(1000007,ab)] rfl ?_ ?_
   .simp only[ay,show i67.bytes=32 from rfl,aF];omega
   refine AK.fact (fV.U3 (l:=7) (n:=ML.length) (bf:=r.1.1) (xs:=r.1.2) rfl o) λhb=>?_;refine AK.merge 5 7 (by decide) rfl rfl (λ_ _ h=>h.1) (PM.add (Bf.snoc (x:=(no,ML)) o r.2 hb)) ?_;have e:=MK (ps:=ps) (x:=(no,ML)) (q:=q) (v:=la r.1.1 ML.length);have m:(ps++[(no,ML)]).length=ps.length+1:=by simp
   refine cm a rfl ?_ (AK.aQ (rest.drop 4,ps++[(no,ML)],I0 q ps.length (la r.1.1 ML.length)) rfl ?_ ?_ ?_ ?_)
   .simp only[ay,bA,fR];omega
   .simp only[ay.cat,ay,m,pW,cO,cd,aF,aD];and_intros<;>first|rfl|omega|exactλ_ _=>rfl|exact hD
   .simp only[ay.cat,ay,m,aF,aD];and_intros<;>first|rfl|exactλ_ _=>rfl|exact e|omega
   .refine⟨λp B=>J p (pR B),by grind,by grind,f,by grind,?_⟩;grind
   grind
  .have e:ps=s.1++np:=by rw[L];cases f<;>simp[eQ,h]
   refine bh a [(30,ae)] rfl (by simp only[ay,bM];omega) (AK.leaveD rfl rfl ?_);refine out q aw rfl ?_ rfl ?_
   .simp only[ay.cat,ay,e,cA,aF,aD];and_intros<;>first|rfl|omega|exactλ_ _=>rfl
   .simp[e]
 rintro q -;have b:eU k s t=(decide (20<s.1.length+np.length)||(decide (99<cv s+np.length-1)||(decide (20<de s)||decide (9<=s.2.2.length)))):=by unfold eU;rw[M]
 rw[y]at b;have b:=b.symm;simp only[rI,bM]at b;obtain⟨c1,c2,c3,c4⟩:=b;have G:(s.1++np).length=s.1.length+np.length:=cA;have A:=fL.cj s.2.1 (fA (de s) k t);have e2:=cH.cj s.2.2 (by_,de s);have H:eO k s by_ t=(s.1++np,s.2.1++[fA (de s) k t],s.2.2++[(by_,de s)]):=by unfold eO;rw[M]
 rw[H];refine bh a [(53,ae),(57,ae),(61,ae),(67,ae),(1000013,ab)] rfl ?_ ?_
 .simp only[ay,hk,cF.list_fn,G,bA,show i71.bytes=32 from rfl,show i48.bytes=16 from rfl,aZ,bM,aF,aD];have hsb:1<=nO s.2.2:=(ma s.2.2 z.h).1;have W:-4000000<=de s:=by unfold de;split<;>omega
  and_intros<;>first|exact w|exact cF.aM _|rfl|omega
 generalize s.1++np=ps at *;generalize hsw:s.2.1++[fA (de s) k t]=sw at *;generalize hhw:s.2.2++[(by_,de s)]=hw at *;have g:sw.length=s.2.1.length+1:=by grind
 have u:hw.length=s.2.2.length+1:=by grind
 refine AK.BU (φ':=[(8,.e (.one (.ptr 1 0))),(10,.e (.one (.ptr 6 0)))]) (σ':=[xR s,.cells 27 [gm,gm,gm],.buf 67 2 ps.length (Dv ps q),.buf 71 2 sw.length (fL.fn sw),.buf 48 2 hw.length (cH.fn hw),.cf (PM (Bf ps q ps.length)),.cells 27 [.bp 2 (.sl ps.length 2 0 ps.length),.bp 3 (.sl sw.length 2 0 sw.length),.bp 4 (.sl hw.length 2 0 hw.length)]]) ?_ rfl ?_ rfl ?_
 .refine AK.oK 3 rfl rfl rfl (by simp) (by simp) ?_;refine AK.oK 4 rfl rfl rfl (by simp) (by simp) ?_;refine bu rfl aw ?_;refine AK.mF q [2,5] rfl rfl rfl rfl rfl rfl rfl rfl rfl ?_ rfl rfl rfl rfl (λj T=>absurd T (by simp));simp[q8]
 .simp
 .simp only[ay.cat,ay,g,u,cF.list_fn,aF,aD];and_intros<;>first|exact cy.same|exact A|exact e2|rfl
end
end Go.AM.R1
namespace Go.AM
section
open Go.Conc (G)
section
variable {P:aq}{X:Cx P}
def dZ.Bb{ι:Type}{f:aH}{args:List D}{E:aj}{k n:Nat}{a b:C}{ok:Bool}{es:ι->Nat->List C}{K:ι->Mem->Prop}(es':Nat->List C)(h:dZ X f args [] (λ_=>.fa [.agg [.bp 0 (.sl n k 0 n),.c a,.c b],.one (.c (.bool ok))]) (λi=>[.buf E k n (es i),.cf (PM (K i))]))(hK:∀i M M',wT M M'->K i M->K i M')(u:∀i M,K i M->∀j,j<n->(es' j).length=k/\∀(p:Nat) (c:C),(es' j)[p]?=aa c->∃Y,(es i j)[p]?=aa Y/\∀v M0,Rd M0 v Y->Rd M v c):
  dZ (ι:=ah) X f args [] (λv=>.fa [.agg [.c (.val v),.c a,.c b],.one (.c (.bool ok))]) (λv=>[.dead,.cf (PM λM=>Rd M v (.sl ae k n es'))]):=by
 refine⟨h.1,λs vs hr hh S cs hS=>h.2 s vs hr hh S cs λi fr v s' hl mh iX st=>?_⟩;have hlen:s'.β.length=2:=iX.len;obtain⟨t,L1,V⟩:∃t L1,s'.β=[t,L1]:=by
  match hq:s'.β with
  |[A,B]=>grind
  |[]=>grind
  |[_]=>grind
  |_::_::_::_=>grind
 have N:s'.β[0]?=aa t:=by grind
 have g1:s'.β[1]?=aa L1:=by grind
 obtain⟨ch,⟨p1,p2,p3⟩,p4,p5,p6⟩:=iX.box 1 _ L1 rfl g1;have b0:=iX.box 0 _ t rfl N;obtain⟨ws,rfl,hw⟩:=mh
 match ws,hw with
 |[w0,w1],⟨z,F,_⟩ =>
 obtain⟨us,rfl,R⟩:=z
 match us,R with
 |[u0,u1,u2],⟨H,T,W,_⟩ =>
 obtain⟨lv,⟨a',a0,cap,Y,rfl,k1,k2,k3,k4,k5⟩,_,O⟩:=H;obtain⟨_,O⟩:=O E k n (es i) rfl;obtain⟨L0',Z,e1⟩:=O rfl;rw[N]at Z;cases Z;rw[k4]at e1;have ac5:∀x,x∈t.bs->x∈L1.bs->False:=λx h1 h2=>absurd (iX.eB 0 1 t L1 N g1 x h1 h2) (by decide);obtain⟨m,q1,q2,q3,q4⟩:∃m:Nat->Option Obj,(∀x o,m x=aa o->s'.w.heap[x]?=aa o/\∃cs E,o=.cells cs E (0,0))/\(∀x,x∈t.bs↔(m x).isSome=ab)/\(∀x∈t.bs,∀o,s'.M x o=af) /\
   (∀d,(∀x,(m x).isSome=ab->d x=m x)->K i (fK d)->Rd (fK d) (.slice a' n cap) (.sl ae k n es')):=by
  rcases b0 with⟨rfl,rfl⟩|⟨bb,c1,xs,zs,rfl,z1,z2,z3,z4,z5,z6⟩
  .exact⟨λ_=>af,by simp,by simp,by simp,λd _ _=>.sl 0 0 (λ_ _=>ai) k1 (by omega) (λh=>by cases h) (λi hi=>by omega) (λh=>by omega) (λi hi=>by omega) λi hi=>by omega⟩
  .cases e1;refine⟨λx=>if x=bb then aa (.cells (xs++zs).toArray E (0,0))else af,λx o g=>?_,λx=>by by_cases e:x=bb<;>simp[e],λx g o=>?_,λd hc hk=>?_⟩
   .grind
   .grind
   .have Q:d bb=aa (.cells (xs++zs).toArray E (0,0)):=by grind
    refine .sl bb 0 (λi' j'=>xs.getD (i'*k+j') ai) k1 (by omega) (λh=>by cases h) (λj hj=>(u i _ hk j hj).1) (λh=>?_) (λj hj p c J=>?_) λj hj p c J=>?_
    .grind
    .obtain⟨c2,h1,h2⟩:=(u i _ hk j hj).2 p c J;obtain⟨v,v1,v2⟩:=z5.rd j hj p c2 h1;have vJ:=(bZ.1 v1).1;simp only[fK,Q,ij,bC];grind
    .obtain⟨c2,h1,h2⟩:=(u i _ hk j hj).2 p c J;obtain⟨v,v1,v2⟩:=z5.rd j hj p c2 h1;grind
 let d:Nat->Option Obj:=λx=>(ch x).or (m x);have G:∀x,(m x).isSome=ab->d x=m x:=λx g=>by
  have:ch x=af:=by
   cases h:ch x with
   |none=>rfl
   |some y=>grind
  grind
 have U:wT (fK ch) (fK d):=λx o v hv=>by
  cases h:ch x with
  |none=>simp[fK,h]at hv
  |some y=>simpa[fK,h,d]using hv
 let s2:St:={s' with β:=[⟨t.v,[]⟩,⟨.nilFunc,L1.bs++t.bs⟩]}
 have r:∀L∈s2.β,∀x∈L.bs,∃L'∈s'.β,x∈L'.bs:=λL q x g=>by rw[V];simp only[s2,eE,oa,mn]at q;grind
 have hG:eu s' s2:=⟨rfl,λ_ _ _ h=>h,λ_ _ _=>rfl,iX.mem,λx g=>g.imp id λ⟨L,q,g⟩=>r L q x g⟩
 refine .ghost hG (hS (.slice a' n cap) fr _ s2 (hl.mono λ_ _ _ h=>h) ⟨_,rfl,⟨_,rfl,Rd.val rfl,T,W,aw⟩,F,aw⟩ ⟨iX.mem,rfl,λl B L hB q=>?_,λl l' A B h1 h2 x g P4=>?_,λL q x g=>?_,λx g=>⟨(iX.own x g).1,λL q I=>?_⟩⟩
  ⟨st.size,st.fi,st.mem,λx g hn o=>st.iU x g hn o,λL q x g=>?_,λl B L hB=>by grind,st.os,st.tape,st.output,st.own⟩)
 .match l,hB,q with
  |0,hB,q=>cases hB;trivial
  |1,hB,q =>
   cases hB;cases q;refine⟨d,⟨rfl,λx o g=>?_,q4 d G (hK i _ _ U p3)⟩,λx o g=>?_,λx=>?_,λx g o=>?_⟩
   .cases h:ch x with
    |some y=>simp only[d,h,Option.some_or]at g;exact p2 x o (h.trans g)
    |none=>simp only[d,h,Option.none_or]at g;exact(q1 x o g).2
   .cases h:ch x with
    |some y=>grind
    |none=>grind
   .grind
   grind
  |l+2,hB,q=>grind
 .match l,l',h1,h2 with
  |0,0,_,_=>rfl
  |1,1,_,_=>rfl
  |0,1,h1,_=>grind
  |1,0,_,h2=>grind
  |l+2,_,h1,_=>grind
  |_,l+2,_,h2=>grind
 .obtain⟨L',h1,h2⟩:=r L q x g;exact iX.lt L' h1 x h2
 .obtain⟨L',h1,h2⟩:=r L q x I;exact(iX.own x g).2 L' h1 h2
 .obtain⟨L',h1,h2⟩:=r L q x g;exact st.vb L' h1 x h2
end
section
variable {P:aq}{X:Cx P}{N:Nat}{ops:Array ar}{φ:Fr}{σ:List aP}{c:Type}{x:c->Nat->D}{S:c->(Nat->Bool)->List aP}{Inv:c->(Nat->Bool)->Prop}
def ib{P:aq}(X:Cx P)(N:Nat)(all:List ar)(φ:Fr){c:Type}(x:c->Nat->D)(S:c->(Nat->Bool)->List aP)(Inv:c->(Nat->Bool)->Prop)(i:Nat)(o:ar):Prop :=
 ∀b (D:Nat->Bool),Inv b D->(∀j,fS all i j=ab->D j=ab)->(∀j,(j=i∨fS all j i=ab)->D j=ae)->mz X N all o (jX all φ (x b) i) (S b D) (λq:{a:c // (∀j,D j=ab->x a j=x b j)/\Inv a (ef i D)}=>x q.1 i) (λq=>S q.1 (ef i D))
def JE{P:aq}(X:Cx P)(N:Nat)(all:List ar)(φ:Fr){c:Type}(x:c->Nat->D)(S:c->(Nat->Bool)->List aP)(Inv:c->(Nat->Bool)->Prop):List ar->Nat->Prop
 |[],_=>True
 |o::r,i=>ib X N all φ x S Inv i o/\JE X N all φ x S Inv r (i+1)
theorem JE.get{all:List ar}:∀{l:List ar}{k:Nat},JE X N all φ x S Inv l k->∀i o,l[i]?=aa o->ib X N all φ x S Inv (k+i) o
 |[],_,_,i,o,h=>by grind
 |p::r,k,h,0,o,a=>by simp at a;subst a;exact h.1
 |p::r,k,h,i+1,o,a=>by have:=JE.get h.2 i o (by grind);grind
def AK.Rz{ops:Array ar}{id:Nat}{K:List It}{Qf:Post}(r:P.follows Departure.mixedOrders=ab)(x:c->Nat->D)(S:c->(Nat->Bool)->List aP)(Inv:c->(Nat->Bool)->Prop)(e:c)(m:Inv e λ_=>ae)(q:S e (λ_=>ae)=σ)(d:mv ops.toList=ab)(b:rX ops.toList 0=ab)(f:ov N ops.toList=ab)(one:JE X N ops.toList φ x S Inv ops.toList 0)(k:∀a D,Inv a D->(∀i,i<ops.toList.length->D i=ab)->AK X N Qf K .normal (MX ops.toList φ (x a)) (S a D)):AK X N Qf (.code (.region id ops ab)::K) .normal φ σ:=by
 have:=AW.reg (X:=X) (N:=N) (φ:=φ) (σ:=σ) r (all:=ops.toList) ops.toList.length x S Inv e m q d b f (bg _)
  (λi h1 h2=>absurd h2 (mm.2 h1)) (λa D _ _ i h1 h2=>absurd h2 (mm.2 h1))
  (λa D i o l n _ j g h=>by have h1:=one.get i o n;rw[bC]at h1;exact h1 a D l (wz h i o n g) (FW h j))
  (Q:=AK X N Qf K) (λa D l p=>by rw[u7];exact .nil (k a D l p)) id
 rw[oZ]at this;exact this
theorem ib.of{all:List ar}{i:Nat}{o:ar}(h:∀d (D:Nat->Bool),Inv d D->(∀j,fS all i j=ab->D j=ab)->(∀j,(j=i∨fS all j i=ab)->D j=ae)->Inv d (ef i D)/\OA X N all o (jX all φ (x d) i) (S d D) (x d i) (S d (ef i D))):ib X N all φ x S Inv i o:=by intro d D g h1 h2 s a f hh b k cs SS idx rest hb hi hK;obtain⟨e,q2⟩:=h d D g h1 h2;exact q2 s a f hh b k cs SS idx rest hb hi λv s' r1 r2 r3=>hK ⟨d,λ_ _=>rfl,e⟩ v s' r1 r2 r3
def ib.ofI{all:List ar}{i:Nat}{o:ar}(h:∀e (D:Nat->Bool),Inv e D->(∀j,fS all i j=ab->D j=ab)->(∀j,(j=i∨fS all j i=ab)->D j=ae) ->
  ∃(ι:Type) (y:ι->Go.AM.D) (σ':ι->List aP),mz X N all o (jX all φ (x e) i) (S e D) y σ'/\∀j,∃d,((∀q,D q=ab->x d q=x e q)/\Inv d (ef i D))/\y j=x d i/\σ' j=S d (ef i D)):ib X N all φ x S Inv i o:=by intro e D l h1 h2 s a f hh b k cs SS idx rest hb hi hK;obtain⟨ι,y,σ',g,q2⟩:=h e D l h1 h2;refine g s a f hh b k cs SS idx rest hb hi λj v s' r1 r2 r3=>?_;obtain⟨d,m,p2,p3⟩:=q2 j;rw[p2]at r1;rw[p3]at r1 r2 r3;exact hK ⟨d,m⟩ v s' r1 r2 r3
end
end
section
variable {P:aq}{X:Cx P}{N:Nat}{all:List ar}{φ:Fr}{x:Nat->D}{l:Bool->Bool->Bool->Bool->List aP}{i k f e g:Nat}{o:ar}
abbrev pr(l:Bool->Bool->Bool->Bool->List aP)(k f e g:Nat):(Nat->Bool)->List aP:=λD=>l (D k) (D f) (D e) (D g)
theorem rm{i j:Nat}{D:Nat->Bool}(h:aA j i=ae):ef i D j=D j:=by simp only[ef,h]
theorem BE{i:Nat}{D:Nat->Bool}:ef i D i=ab:=by simp only[ef,iR]
def dT.q4(h1:aA k i=ae)(h2:aA f i=ae)(m:aA e i=ae)(j:aA g i=ae)(h:∀a b c d,OA X N all o (jX all φ x i) (l a b c d) (x i) (l a b c d)):dT X N all φ x (pr l k f e g) i o:=by intro D _ _;grind[rm]
def dT.W9{T:List (Nat×TI)}{CT:List (Nat×dv)}{obs:List Prop}(hT:cT P T)(hC:bF X CT)(j:ay obs)(h:∀a b c d,we T CT [] all (jX all φ x i) (l a b c d) o=aa (x i,af,obs):=by intro a b c d;cases a<;>cases b<;>cases c<;>cases d<;>rfl)(h1:aA k i=ae:=by rfl)(h2:aA f i=ae:=by rfl)(m:aA e i=ae:=by rfl)(n:aA g i=ae:=by rfl):dT X N all φ x (pr l k f e g) i o:=.q4 h1 h2 m n λa b c d=>OA.eval hT hC (h a b c d) j
def dT.qF{T:List (Nat×TI)}{CT:List (Nat×dv)}(hT:cT P T)(hC:bF X CT)(h:∀a b c d,we T CT [] all (jX all φ x i) (l a b c d) o=aa (x i,af,[]):=by intro a b c d;cases a<;>cases b<;>cases c<;>cases d<;>rfl)(h1:aA k i=ae:=by rfl)(h2:aA f i=ae:=by rfl)(m:aA e i=ae:=by rfl)(j:aA g i=ae:=by rfl):dT X N all φ x (pr l k f e g) i o:=.W9 (obs:=[]) hT hC aw h h1 h2 m j
def dT.c1(h2:aA f k=ae)(a:aA e k=ae)(c:aA g k=ae)(d:fS all f k=ab)(b:fS all e k=ab)(j:fS all g k=ab)(h:OA X N all o (jX all φ x k) (l ae ae ae ae) (x k) (l ab ae ae ae)):dT X N all φ x (pr l k f e g) k o:=by intro D hT hF;grind[BE,rm]
def dT.c2(h1:aA k f=ae)(a:aA e f=ae)(d:aA g f=ae)(c:fS all f k=ab)(b:fS all e f=ab)(j:fS all g f=ab)(h:OA X N all o (jX all φ x f) (l ab ae ae ae) (x f) (l ab ab ae ae)):dT X N all φ x (pr l k f e g) f o:=by intro D hT hF;grind[BE,rm]
def dT.c3(h1:aA k e=ae)(h2:aA f e=ae)(a:aA g e=ae)(c:fS all e k=ab)(b:fS all e f=ab)(d:fS all g e=ab)(h:OA X N all o (jX all φ x e) (l ab ab ae ae) (x e) (l ab ab ab ae)):dT X N all φ x (pr l k f e g) e o:=by intro D hT hF;grind[BE,rm]
def dT.c4(h1:aA k g=ae)(h2:aA f g=ae)(a:aA e g=ae)(c:fS all g k=ab)(b:fS all g f=ab)(d:fS all g e=ab)(h:OA X N all o (jX all φ x g) (l ab ab ab ae) (x g) (l ab ab ab ab)):dT X N all φ x (pr l k f e g) g o:=by intro D hT hF;grind[BE,rm]
end
section
open Go.Conc (G)
section
variable {P:aq}{X:Cx P}{N:Nat}{all:List ar}{φ:Fr}{ι:Type}{x:Option ι->Nat->D}{s:Option ι->Bool->Bool->Bool->List aP}{i m f e d:Nat}{o:ar}
abbrev SO(s:Option ι->Bool->Bool->Bool->List aP)(f e d:Nat):Option ι->(Nat->Bool)->List aP:=λa D=>s a (D f) (D e) (D d)
abbrev wA(ι:Type)(m:Nat):Option ι->(Nat->Bool)->Prop:=λa D=>a.isSome=D m
def ib.quiet(k:aA m i=ae)(h1:aA f i=ae)(h2:aA e i=ae)(j:aA d i=ae)(h:∀g a b c,OA X N all o (jX all φ (x g) i) (s g a b c) (x g i) (s g a b c)):
  ib X N all φ x (SO s f e d) (wA ι m) i o:=by grind[ib.of,rm]
def ib.RA(q:aA m i=ae)(h1:aA f i=ae)(h2:aA e i=ae)(k:aA d i=ae)(n:fS all i m=ab)(h:∀j a b c,OA X N all o (jX all φ (x (aa j)) i) (s (aa j) a b c) (x (aa j) i) (s (aa j) a b c)):
  ib X N all φ x (SO s f e d) (wA ι m) i o:=by
 refine ib.of λg D p hT _=>⟨?_,?_⟩
 .grind [rm]
 .show OA X N all o _ (s g (D f) (D e) (D d)) _ (s g (ef i D f) (ef i D e) (ef i D d));rw[rm h1,rm h2,rm k];have l:=hT m n;cases g with
  |none=>grind
  |some j=>exact h _ _ _ _
def ib.qo{T:List (Nat×TI)}{CT:List (Nat×dv)}{obs:List Prop}(hT:cT P T)(hC:bF X CT)(j:ay obs)(h:∀g a b c,we T CT [] all (jX all φ (x g) i) (s g a b c) o=aa (x g i,af,obs):=by intro g a b c;cases g<;>cases a<;>cases b<;>cases c<;>rfl)(l:aA m i=ae:=by rfl)(h1:aA f i=ae:=by rfl)(h2:aA e i=ae:=by rfl)(k:aA d i=ae:=by rfl):ib X N all φ x (SO s f e d) (wA ι m) i o:=.quiet l h1 h2 k λg a b c=>OA.eval hT hC (h g a b c) j
def ib.qe{T:List (Nat×TI)}{CT:List (Nat×dv)}(hT:cT P T)(hC:bF X CT)(h:∀g a b c,we T CT [] all (jX all φ (x g) i) (s g a b c) o=aa (x g i,af,[]):=by intro g a b c;cases g<;>cases a<;>cases b<;>cases c<;>rfl)(k:aA m i=ae:=by rfl)(h1:aA f i=ae:=by rfl)(h2:aA e i=ae:=by rfl)(j:aA d i=ae:=by rfl):ib X N all φ x (SO s f e d) (wA ι m) i o:=.qo (obs:=[]) hT hC aw h k h1 h2 j
def ib.qs{T:List (Nat×TI)}{CT:List (Nat×dv)}(hT:cT P T)(hC:bF X CT)(h:∀j a b c,we T CT [] all (jX all φ (x (aa j)) i) (s (aa j) a b c) o=aa (x (aa j) i,af,[]):=by intro j a b c;cases a<;>cases b<;>cases c<;>rfl)(l:aA m i=ae:=by rfl)(h1:aA f i=ae:=by rfl)(h2:aA e i=ae:=by rfl)(g:aA d i=ae:=by rfl)(k:fS all i m=ab:=by rfl):ib X N all φ x (SO s f e d) (wA ι m) i o:=.RA l h1 h2 g k λj a b c=>OA.cV hT hC (h j a b c)
def ib.X1(j:aA m e=ae)(h1:aA f e=ae)(c:aA d e=ae)(g:fS all d e=ab)(h:∀b a,OA X N all o (jX all φ (x b) e) (s b a ae ae) (x b e) (s b a ab ae)):ib X N all φ x (SO s f e d) (wA ι m) e o:=by grind[ib.of,rm,BE]
def ib.X2(k:aA m d=ae)(h1:aA f d=ae)(h2:aA e d=ae)(b:fS all d m=ab)(g:fS all d f=ab)(n:fS all d e=ab)(h:∀j,OA X N all o (jX all φ (x (aa j)) d) (s (aa j) ab ab ae) (x (aa j) d) (s (aa j) ab ab ab)):ib X N all φ x (SO s f e d) (wA ι m) d o:=by
 refine ib.of λc D l hT hF=>?_;have a:=hT m b;cases c with
 |none=>grind
 |some j =>
  grind[rm,BE]
end
section
variable {P:aq}{X:Cx P}{N:Nat}{Qf:Post}{K:List It}{φ:Fr}{σ:List aP}{all rest:List ar}{o:ar}
def AK.UZ{ι:Type}{x:ι->D}{σ':ι->List aP}(h:mz X N all o φ σ x σ')(e:fW N o.dst=ab)(k:∀i,AK X N Qf (.ops all rest::K) .normal (kl o.dst (x i) φ) (σ' i)):AK X N Qf (.ops all (o::rest)::K) .normal φ σ:=by
 intro s a f hh b kk cs S idx hb jk hQ;cases idx with
 |nil=>exact jk.elim
 |cons j idx =>
 refine h s a f hh b kk cs S j idx hb jk.1 λi v s' h1 h2 h3=>?_;refine k i s' _ ?_ h2 b kk cs S idx hb jk.2 λc σ2 s2 a2 q d g st=>hQ c σ2 s2 a2 q d g (h3.trans st);cases l:o.dst with
 |none=>exact f.mono h3 hh.len
 |some t=>exact(f.mono h3 hh.len).put (gC e t l) h1
def mz.qp[X.gZ]{ι:Type}{fo:ak}{xs:Array ak}{XA:Array aj}{f:aH}{cap:List C}{r:List D}{res:ι->D}{σ1:ι->List aP}(Ha:dZ X f r [] res σ1){FI:List D}(hgd:qK all φ o=ab)(ho:o.op=.call {callee:=.value fo,args:=xs,argTypes:=XA})(hf:eG (bP φ fo)=aa (f,cap))(hl:jG σ (xs.toList.map (bP φ)++fN cap) FI){ps:List Prop}(Q:vS FI (fM [] r)=aa ps)(hps:ay ps)(Yr:ln 0 r=ab)(U:∀j,Nq (res j)=ab)(mo:∀j,Bm (σ1 j)=ab):mz X N all o φ σ res (λj=>σ++σ1 j):=by
 intro s a Z hh b kx cs S i idx hb hi hQ;have hfo:=c7 Z fo;unfold eG at hf;split at hf
 case h_2=>cases hf
 case h_1 f' Nh he =>
  cases hf;rw[he]at hfo;have G:=eY hfo;generalize E:a.eval fo=fv at G;cases G with
  |fn fs nb hlf Ys f1 f2 h1 h2 r1 r2 =>
   have Yt:fs=[]:=jf hlf;subst Yt;have W:ck σ s nb (fN cap):=nk (λj c hj=>⟨f2 j,h2 j (by grind),r2 j c hj⟩) Ys;have I:ck σ s (xs.toList.map a.eval++nb) (xs.toList.map (bP φ)++fN cap):=(lI (c7 Z) xs.toList).append W;generalize TK:xs.toList.map a.eval++nb=vs at I;obtain⟨⟨fn,UT,N3,V⟩,R⟩:=Ha;have wj:∀w,(av a.eval o).run P w=.ok (.enter f vs.toArray) w:=λw=>by grind[jr]
   have Yu:∀w,(av a.eval o).events P w #[]=#[]:=λw=>(jr ho UT N3 V E w).2;refine .next rfl λg P9=>?_;have hr:=X.iv P9;have e:=hh.rely hr;have f1':=Z.rely hr hh;have Y:ck σ g vs (xs.toList.map (bP φ)++fN cap):=I.mono hr.stepW.ext hh.len;obtain⟨B,M',hBL,m1,m2,m3,m4,m5⟩:=hl g vs e Y;let sc:St:={g with β:=[],M:=M',own:=λb=>g.own b∨∃L∈g.β,b∈L.bs}
   have hhc:aE [] sc:=by
    refine⟨m3,rfl,by simp,by grind,by grind,λb hb=>⟨?_,by grind⟩⟩;rcases hb with hb|⟨L',q,hb⟩
    .exact(e.own b hb).1
    .exact e.lt L' q b hb
   have Yv:eu g sc:=by refine⟨rfl,m1,λb hb o=>m2 b (λhB=>by grind) o,m3,λb hb=>?_⟩;grind
   have F:ck [] sc vs r:=by have a3:=vg Q hps m5;exact(ck.sub (ks:=[]) (σ:=σ) (σ':=[]) (s:={g with M:=M'}) (β':=[]) rfl rfl a3 Yr).mono (σ:=[]) (s:={g with β:=[],M:=M'}) (σ':=[]) (s':=sc) ⟨λ_ _ _ h=>h,λl B L hB hL=>by grind⟩ rfl
   refine⟨_,g,_,o8 hi (fI hgd _ _ _ f1') hb (wj g.w),⟨⟨σ,σ,e,e,.refl _ _⟩,fb.seen (by rw[Yu];exact .nil)⟩,.ghost Yv (R sc vs F hhc S _ λj fr v s2 G9 mh MW nV=>?_)⟩;refine qf (cs:=cs) (c:=b.aT a (.inRegion all.toArray (i::idx)::kx)) MW G9 λu TR=>?_;have p:=MW.rely TR;have n:=nV.trans TR.stepW;have O:=mh.mono TR.stepW.ext MW.len
   classical
   let J:Mem:=λb o=>if B b then g.M b o else u.M b o;have t:∀b,(g.own b∨∃L∈g.β,b∈L.bs)->u.own b:=λb hb=>by rw[n.own];exact hb
   have hFg:mW u {u with M:=J}:=by
    refine⟨rfl,rfl,rfl,λb o v E=>?_,λb o v E=>?_⟩
    .grind
    grind
   refine .forget Cx.gZ.ok hFg ?_;have hM5:∀b o v,J b o=aa v->u.M b o=aa v:=hFg.less;let s5:St:={u with M:=J,β:=g.β++u.β,own:=g.own}
   have hMm:∀b o v,g.M b o=aa v->J b o=aa v:=λb o v E=>by
    by_cases d:B b
    .grind
    .simp only[J,d,b9];exact n.mem b o v (m1 b o v E)
   have hMk:∀b,b<g.w.heap.size->∀o,J b o=g.M b o:=λb hb o=>by
    by_cases d:B b
    .grind
    .simp only[J,d,b9];rw[n.iU b hb (by grind) o];grind
   have T:u.β.length=(σ1 j).length:=p.len;have ex:Ext σ g (σ++σ1 j) s5:=by
    refine⟨hMm,λl B L hB hL=>⟨B,L,?_,?_,.refl _ _⟩⟩
    .grind
    grind
   have DG:g.w.heap.size<=u.w.heap.size:=n.size;have x:∀(l:Nat) (L':Loc),(g.β++u.β)[l]?=aa L'->(l<g.β.length/\g.β[l]?=aa L')∨(g.β.length<=l/\u.β[l-g.β.length]?=aa L'):=λl L' h=>by grind
   have hh5:aE (σ++σ1 j) s5:=by
    refine⟨λb o v E=>p.mem b o v (hM5 b o v E),by simp[s5,e.len,T],?_,?_,?_,?_⟩
    .intro l B L' hB q;rcases x l L' q with⟨vJ,h1⟩|⟨QY,h1⟩
     .rw[jw (by rw[<-e.len];exact vJ)]at hB;exact(e.box l B L' hB h1).carry ex e.len λm d=>⟨n.fi m (.inr ⟨L',bJ h1,d⟩),hMk m (e.lt L' (bJ h1) m d)⟩
     .rw[gz (by rw[<-e.len];exact QY),<-e.len]at hB;have hbx:=p.box _ B L' hB h1;rcases Bn (mo j) B (bJ hB)with⟨H,rfl⟩|rfl
      .obtain⟨ch,c1,c2,c3,c4⟩:=hbx;refine⟨ch,c1,c2,c3,λm d o=>?_⟩;grind
      .trivial
    .intro l l' L1 L2 hL1 hL2 m z A;rcases x l L1 hL1 with⟨vJ,h1⟩|⟨QY,h1⟩<;>rcases x l' L2 hL2 with⟨acW,h2⟩|⟨acX,h2⟩
     .exact e.eB l l' L1 L2 h1 h2 m z A
     .exact absurd A ((p.own m (t m (.inr ⟨L1,bJ h1,z⟩))).2 L2 (bJ h2))
     .exact absurd z ((p.own m (t m (.inr ⟨L2,bJ h2,A⟩))).2 L1 (bJ h1))
     .have:=p.eB _ _ L1 L2 h1 h2 m z A;omega
    .intro L' q m d;rcases gb.1 q with h|h
     .exact cW (e.lt L' h m d) DG
     .exact p.lt L' h m d
    .intro m d;refine⟨cW (e.own m d).1 DG,λL' q=>?_⟩;rcases gb.1 q with h|h
     .exact(e.own m d).2 L' h
     .exact(p.own m (t m (.inl d))).2 L' h
   have hg5:eu {u with M:=J} s5:=by refine⟨rfl,λ_ _ _ h=>h,λ_ _ _=>rfl,λb o v E=>p.mem b o v (hM5 b o v E),λm d=>?_⟩;grind
   have st5:cU σ g (σ++σ1 j) s5:=by
    refine⟨DG,λm d=>n.fi m (.inl d),hMm,λm d _ o=>hMk m d o,λL' q m d=>?_,ex.box,n.os,n.tape,n.output,rfl⟩;rcases gb.1 q with h|h
    .grind
    .rcases n.vb L' h m d with h1|⟨L0,h1,_⟩
     .grind
     grind
   refine .ghost hg5 ?_;have y:=kh (b:=b) (a:=a) (k:=kx) all.toArray i idx v;rw[hi]at y;simp only[n7]at y;rw[y];exact hQ j v s5 (Nr (U j) O) hh5 (hr.stepW.trans st5)
def AK.qp[X.gZ]{ι:Type}{m:ak}{xs:Array ak}{e:Array aj}{f:aH}{cap:List C}{a:List D}{res:ι->D}{σ1:ι->List aP}(h:dZ X f a [] res σ1){d:List D}(k:qK all φ o=ab)(n:o.op=.call {callee:=.value m,args:=xs,argTypes:=e})(q:eG (bP φ m)=aa (f,cap))(hl:jG σ (xs.toList.map (bP φ)++fN cap) d){ps:List Prop}(c:vS d (fM [] a)=aa ps)(g:ay ps)(l:ln 0 a=ab)(b:∀j,Nq (res j)=ab)(i:∀j,Bm (σ1 j)=ab)(p:fW N o.dst=ab)(kk:∀j,AK X N Qf (.ops all rest::K) .normal (kl o.dst (res j) φ) (σ++σ1 j)):AK X N Qf (.ops all (o::rest)::K) .normal φ σ:=.UZ (mz.qp h k n q hl c g l b i) p kk
def AK.J0[X.gZ]{ι:Type}{s:ak}{xs:Array ak}{g:Array aj}{f:aH}{cap:List C}{a:List D}{res:ι->D}{σ1:ι->List aP}(i:dZ X f a [] res σ1)(r p:Nat){u:ah}{k n:Nat}{es:Nat->List C}(m:qK all φ o=ab)(w:o.op=.call {callee:=.value s,args:=xs,argTypes:=g})(y:eG (bP φ s)=aa (f,cap))(t:(xs.toList.map (bP φ)++fN cap)[p]?=aa (.e (.one (.v u))))(hl:gZ σ r u k n es){ps:List Prop}(d:vS ((xs.toList.map (bP φ)++fN cap).set p (.e (.one (.c (.sl ae k n es))))) (fM [] a)=aa ps)(h:ay ps)(q:ln 0 a=ab)(b:∀j,Nq (res j)=ab)(l:∀j,Bm (σ1 j)=ab)(x:fW N o.dst=ab)(kk:∀j,AK X N Qf (.ops all rest::K) .normal (kl o.dst (res j) φ) (σ++σ1 j)):AK X N Qf (.ops all (o::rest)::K) .normal φ σ :=
 AK.qp i m w y ((jG.refl _ _).step p r t hl) d h q b l x kk
end
section
variable {P:aq}{X:Cx P}{N:Nat}{Qf:Post}{d:List It}{φ:Fr}{σ:List aP}{all rest:List ar}{o:ar}
def dZ.U4{ι:Type}{f:aH}{args:List D}{res:ι->D}{H:ι->ah->(Nat->Option Obj)->Prop}{E:aj}{k:Nat}(h:dZ X f args [] res (λi=>[.dead,.cf (H i)]))(z:∀i v ch,H i v ch->v=.nilFunc)(G:∀i,hY [] (res i)=res i)(u:∀i,vP 0 (res i)=ab)(I:ln 0 args=ab)(n:fM [] args=args):
  dZ X f args [.cf (fV E k (.nil af) 0 [])] res (λi=>[.cf (H i)]):=by
 refine⟨h.1,λs vs hr hh S cs hS=>?_⟩;have w:s.β.length=1:=hh.len;obtain⟨g,Q⟩:∃g,s.β=[g]:=by
  match K:s.β with
  |[A]=>grind
  |[]=>grind
  |_::_::_=>grind
 have x:s.β[0]?=aa g:=by grind
 obtain⟨J,c1,c2,c3,c4⟩:=hh.box 0 _ g rfl x;obtain⟨T,_,_,_,rfl⟩:=c1;have F:∀b,b∉g.bs:=λb c=>by grind
 let j:St:={s with β:=[]}
 have R:eu s j:=⟨rfl,λ_ _ _ h=>h,λ_ _ _=>rfl,hh.mem,λb c=>c.imp id λ⟨L,a,_⟩=>by grind⟩
 have p:aE [] j:=⟨hh.mem,rfl,by simp,by grind,by grind,λb c=>⟨(hh.own b c).1,by grind⟩⟩
 have e:ck [] j vs args:=by rw[<-n]at hr;exact ck.sub (ks:=[]) (σ:=[.cf (fV E k (.nil af) 0 [])]) (σ':=[]) (s:=s) (β':=[]) rfl rfl hr I
 refine .ghost R (h.2 j vs e p S cs λi fr v s' hl mh iX st=>?_);have q:s'.β.length=2:=iX.len;obtain⟨A,B,y⟩:∃A B,s'.β=[A,B]:=by
  match K:s'.β with
  |[A,B]=>grind
  |[]=>grind
  |[_]=>grind
  |_::_::_::_=>grind
 have O:s'.β[1]?=aa B:=by grind
 obtain⟨ch,d1,d2,d3,d4⟩:=iX.box 1 _ B rfl O;have hB:=z i _ _ d1;let s2:St:={s' with β:=[B]}
 have m:∀L∈s2.β,L∈s'.β:=λL a=>by grind
 have t:eu s' s2:=⟨rfl,λ_ _ _ h=>h,λ_ _ _=>rfl,iX.mem,λb c=>c.imp id λ⟨L,a,c⟩=>⟨L,m L a,c⟩⟩
 have r:dn [.cf (H i)] s2 v (res i):=by rw[<-G i]at mh;have:=dn.sub (ks:=[]) (σ:=[.dead,.cf (H i)]) (σ':=[]) (s:=s') (β':=[]) rfl rfl mh (u i);exact this.mono (σ:=[]) (s:={s' with β:=[]}) (σ':=[.cf (H i)]) (s':=s2) ⟨λ_ _ _ h=>h,λl B L hB=>by grind⟩ rfl
 refine .ghost t (hS i fr v s2 (hl.mono λ_ _ _ h=>h) r ⟨iX.mem,rfl,λl C L hC a=>?_,λl l' C D h1 h2 b c M=>?_,λL a b c=>iX.lt L (m L a) b c,λb c=>⟨(iX.own b c).1,λL a=>(iX.own b c).2 L (m L a)⟩⟩
  ⟨st.size,st.fi,st.mem,λb c _ o=>st.iU b c (by grind) o,λL a b c=>?_,λl C L hC a=>?_,st.os,st.tape,st.output,st.own⟩)
 .match l,hC,a with
  |0,hC,a=>cases hC;cases a;exact⟨ch,d1,d2,d3,d4⟩
  |l+1,hC,_=>grind
 .match l,l',h1,h2 with
  |0,0,_,_=>rfl
  |l+1,_,h1,_=>grind
  |_,l+1,_,h2=>grind
 .rcases st.vb L (m L a) b c with h1|⟨L1,h1,_⟩
  .grind
  grind
 .match l,hC,a with
  |0,hC,a =>
   cases hC;rw[x]at a;cases a;exact⟨_,B,rfl,rfl,by show B.v=g.v;grind⟩
  |l+1,hC,_=>grind
def AK.N9(l i j:Nat){K:Mem->Prop}{E0 E:aj}{k:Nat}{cs:List A}{R cl:C}{c:Code}(U:l≠i)(hl:dw l σ=aa (.cf (PM K)))(hi:dw i σ=aa (.cells E0 cs))(hj:dw j cs=aa (.c R))(V:∀M M',K M->wT M M'->∀v,Rd M' v R->Rd M' v cl)(kk:AK X N Qf (.code c::d) .normal φ ((σ.set l (.cf (fV E k (.nil af) 0 []))).set i (.cells E0 (cs.set j (.c cl))))):AK X N Qf (.code c::d) .normal φ σ:=by
 refine AK.ghost (λs a Q hh=>?_) kk;have hl:=b5 hl;have hi:=b5 hi;have T:=b5 hj;have t:l<s.β.length:=by rw[hh.len];grind
 have J:=br t;generalize s.β[l]=L at J;obtain⟨ch,⟨h1,h2,S⟩,h4,h5,h6⟩:=hh.box l _ L hl J;let M':Mem:=λb o=>(s.M b o).or (fK ch b o);have r:∀b o v,fK ch b o=aa v->b∈L.bs/\s.w.cell? ⟨b,o,af⟩=aa v:=λb o v f=>by
  cases h:ch b with
  |none=>simp[fK,h]at f
  |some x =>
   obtain⟨cs,E,rfl⟩:=h2 b x h;have hw:=h4 b _ h;simp only[fK,h]at f;exact⟨(h5 b).2 (by simp[h]),by simpa[aU,hw]using f⟩
 have m1:∀b o v,s.M b o=aa v->M' b o=aa v:=λb o v f=>by grind
 have W:∀b,b∉L.bs->∀o,M' b o=s.M b o:=λb H o=>by
  cases h:fK ch b o with
  |none=>grind
  |some v=>grind
 have m3:∀b o v,M' b o=aa v->s.w.cell? ⟨b,o,af⟩=aa v:=λb o v f=>by
  cases h:s.M b o with
  |some v'=>simp only[M',h,Option.some_or]at f;cases f;exact hh.mem b o v h
  |none=>grind
 have m4:=V _ M' S λb o v f=>by have:=h6 b (r b o v f).1 o;simp[M',this,f]
 obtain⟨m,q2⟩:=hh.gB (M':=M') (w':=s.w) (B':=.cf (fV E k (.nil af) 0 [])) (L':=⟨.nilFunc,[]⟩) hl J h1.symm (bg _) (λ_ _ _=>rfl) (λb _ H o=>W b H o) m1 m3 (by simp) rfl rfl rfl
  ⟨λ_=>af,⟨rfl,by simp,by simp,rfl,rfl⟩,by simp,by simp,by simp⟩
 have q:(σ.set l (.cf (fV E k (.nil af) 0 [])))[i]?=aa (.cells E0 cs):=by grind
 generalize Y:(⟨s.β.set l ⟨.nilFunc,[]⟩,M',s.w,s.own⟩:St)=s1 at m q2;have I:i<s1.β.length:=by rw[m.len];grind
 have g:=br I;generalize s1.β[i]=L2 at g;obtain⟨b,vs,O,n,y,hM⟩:=m.box i _ L2 q g;obtain⟨u,hu,Z⟩:=y.get T;have D:s1.M=M':=by grind
 have z:s1.β.set i L2=s1.β:=by apply iO;grind
 obtain⟨t1,t2⟩:=m.gB (M':=s1.M) (w':=s1.w) (B':=.cells E0 (cs.set j (.c cl))) (L':=L2) q g rfl (bg _) (λ_ _ _=>rfl) (λ_ _ _ _=>rfl) (λ_ _ _ h=>h) m.mem (λb H=>⟨.inl H,m.lt L2 (bJ g) b H⟩) rfl rfl rfl (by
   rw[z];have ex:Ext (σ.set l (.cf (fV E k (.nil af) 0 []))) s1 ((σ.set l (.cf (fV E k (.nil af) 0 []))).set i (.cells E0 (cs.set j (.c cl)))) s1:=by
    refine⟨λ_ _ _ h=>h,λp B L F G=>?_⟩;by_cases e:i=p
    .subst e;rw[q]at F;cases F;exact⟨_,L,fZ (by grind),G,rfl⟩
    .exact⟨B,L,by grind,G,.refl _ _⟩
   refine⟨b,vs,O,n,dW.set (y.mono ex m.len) hu ?_,hM⟩;show Rd s1.M u cl;rw[D];exact m4 u (D▸Z))
 have st:=q2.trans t2;exact⟨_,by grind,⟨Q.size,Q.defers.imp λ_ h1=>h1.mono st.ext,λu=>(Q.slot u).mono st.ext hh.len⟩,t1,st⟩
def AK.tD(l i j:Nat){K:Mem->Prop}{E0 E:aj}{k:Nat}{cs:List A}{v:ah}{cl:C}{c:Code}(a:l≠i)(hl:dw l σ=aa (.cf (PM K)))(hi:dw i σ=aa (.cells E0 cs))(hj:dw j cs=aa (.c (.val v)))(b:∀M,K M->Rd M v cl)(kk:AK X N Qf (.code c::d) .normal φ ((σ.set l (.cf (fV E k (.nil af) 0 []))).set i (.cells E0 (cs.set j (.c cl))))):AK X N Qf (.code c::d) .normal φ σ :=
 AK.N9 l i j a hl hi hj (λ_ _ h le _ r=>by rw[Rd.dY r];exact(b _ h).mono le) kk
end
section
variable {P:aq}{X:Cx P}{N:Nat}{Qf:Post}{n:List It}{φ:Fr}{σ:List aP}
def AK.U5(l i j:Nat){E0 E:aj}{k Z:Nat}{cs:List A}{J:Nat->List C}(k1:Nat)(D8:Nat->List C){c:Code}(XF:l≠i)(hl:dw l σ=aa (.cf (fV E k (.nil af) 0 [])))(hi:dw i σ=aa (.cells E0 cs))(hj:dw j cs=aa (.c (.sl ab Z 0 J)))(kk:∀v,AK X N Qf (.code c::n) .normal φ ((σ.set l (.cf (PM λM=>Rd M v (.sl ae k1 0 D8)))).set i (.cells E0 (cs.set j (.c (.val v)))))):AK X N Qf (.code c::n) .normal φ σ:=by
 refine AW.ta (ι:=ah) (φ':=λ_=>φ) (σ':=λv=>(σ.set l (.cf (PM λM=>Rd M v (.sl ae k1 0 D8)))).set i (.cells E0 (cs.set j (.c (.val v))))) (λs a W hh=>?_) kk;have hl:=b5 hl;have hi:=b5 hi;have hJ:=b5 hj;have t:i<s.β.length:=by rw[hh.len];grind
 have H:=br t;generalize s.β[i]=Li at H;obtain⟨b0,vs0,hLb,S,F,_⟩:=hh.box i _ Li hi H;obtain⟨v,Nf,U⟩:=F.get hJ;obtain⟨a0,cap,vs1,rfl,n1,n2,_,_,_⟩:=(show Rd s.M v (.sl ab Z 0 J)from U).flat;have hK:∀M:Mem,Rd M (.slice a0 0 cap) (.sl ae k1 0 D8):=λM=>.sl 0 0 (λ_ _=>ai) n1 n2 (λh=>by cases h) (λi hi=>by omega) (λh=>by omega) (λi hi=>by omega) λi hi=>by omega
 have G:l<s.β.length:=by rw[hh.len];grind
 have R:=br G;generalize s.β[l]=L at R;obtain⟨ch,hs,h4,h5,h6⟩:=hh.box l _ L hl R;obtain⟨z,q2⟩:=hh.gB (M':=s.M) (w':=s.w) (B':=.cf (PM λM=>Rd M (.slice a0 0 cap) (.sl ae k1 0 D8))) (L':=L) hl R rfl (bg _) (λ_ _ _=>rfl) (λ_ _ _ _=>rfl) (λ_ _ _ h=>h) hh.mem (λb Q=>⟨.inl Q,hh.lt L (bJ R) b Q⟩) rfl rfl rfl
  ⟨ch,PM.start hK _ _ hs,h4,h5,h6⟩
 have y:(σ.set l (.cf (PM λM=>Rd M (.slice a0 0 cap) (.sl ae k1 0 D8))))[i]?=aa (.cells E0 cs):=by grind
 generalize hs1:(⟨s.β.set l L,s.M,s.w,s.own⟩:St)=s1 at z q2;have hiβ:i<s1.β.length:=by grind
 have q:s1.β[i]?=aa Li:=by grind
 obtain⟨b,vs,V,r,T,hM⟩:=z.box i _ Li y q;have I:s1.β.set i Li=s1.β:=by apply iO;grind
 have Y:vs[j]?=aa (.slice a0 0 cap):=by grind
 obtain⟨t1,t2⟩:=z.gB (M':=s1.M) (w':=s1.w) (B':=.cells E0 (cs.set j (.c (.val (.slice a0 0 cap))))) (L':=Li) y q rfl (bg _) (λ_ _ _=>rfl) (λ_ _ _ _=>rfl) (λ_ _ _ h=>h) z.mem (λb Q=>⟨.inl Q,z.lt Li (bJ q) b Q⟩) rfl rfl rfl (by
   rw[I];have ex:Ext (σ.set l (.cf (PM λM=>Rd M (.slice a0 0 cap) (.sl ae k1 0 D8)))) s1 ((σ.set l (.cf (PM λM=>Rd M (.slice a0 0 cap) (.sl ae k1 0 D8)))).set i (.cells E0 (cs.set j (.c (.val (.slice a0 0 cap)))))) s1:=by
    refine⟨λ_ _ _ h=>h,λp B L K O=>?_⟩;by_cases e:i=p
    .subst e;rw[y]at K;cases K;exact⟨_,L,fZ (by grind),O,rfl⟩
    .exact⟨B,L,by grind,O,.refl _ _⟩
   exact⟨b,vs,V,r,dW.set (T.mono ex z.len) Y (Rd.val rfl),hM⟩)
 have st:=q2.trans t2;exact⟨.slice a0 0 cap,_,by grind,⟨W.size,W.defers.imp λ_ h1=>h1.mono st.ext,λu=>(W.slot u).mono st.ext hh.len⟩,t1,st⟩
end
section
variable {P:aq}{X:Cx P}{N:Nat}{all:List ar}{φ:Fr}{ι:Type}{x:Option ι->Nat->D}{s:Option ι->Bool->Bool->Bool->List aP}{i m f g d:Nat}{o:ar}
def ib.pre(r:aA m f=ae)(h2:aA g f=ae)(q:aA d f=ae)(l:fS all m f=ab)(e:fS all d f=ab)(h:∀b,OA X N all o (jX all φ (x af) f) (s af ae b ae) (x af f) (s af ab b ae)):ib X N all φ x (SO s f g d) (wA ι m) f o:=by
 refine ib.of λp D t hT hF=>?_;have a:=hF m (.inr l);have c:=hF d (.inr e);have k:=hF f (.inl rfl);cases p with
 |some j=>grind
 |none=>grind[rm,BE]
def ib.Yy(h1:aA f m=ae)(h2:aA g m=ae)(u:aA d m=ae)(l:fS all m f=ab)(k:fS all d m=ab)(t:∀j q,q=m∨fS all q m=ab∨x (aa j) q=x af q)(h:∀b,mz X N all o (jX all φ (x af) m) (s af ab b ae) (λj=>x (aa j) m) (λj=>s (aa j) ab b ae)):ib X N all φ x (SO s f g d) (wA ι m) m o:=by
 refine ib.ofI λa D v hT hF=>?_;have c:=hF m (.inl rfl);have p:=hT f l;have e:=hF d (.inr k);have r:a=af:=by
  cases a with
  |none=>rfl
  |some j=>grind
 grind[BE,rm]
def ib.last(e:aA m d=ae)(h1:aA f d=ae)(h2:aA g d=ae)(c:fS all d m=ab)(b:fS all d f=ab)(a:fS all d g=ab)(h:∀j,OA X N all o (jX all φ (x (aa j)) d) (s (aa j) ab ab ae) (x (aa j) d) (s (aa j) ab ab ab)):ib X N all φ x (SO s f g d) (wA ι m) d o:=.X2 e h1 h2 c b a h
end
end
end Go.AM
namespace Go.AM.R1
section
open Go.Proofs
variable {X:Cx ag}
abbrev TC(v:ah)(ps:List bH):Mem->Prop:=λM=>Rd M v (.sl ae 2 ps.length (cP.fn ps))
def Fv[X.gZ](k:Int)(s:bo)(by_:Int)(t:List bz)(hk:b6 k=ab)(i:l8 s)(m:sE s)(l:qP t)(b:(c6 s.1).length<=100000)(n:∀p∈s.1,0<p.2.length)(d:eU k s t=ae):
  dZ (ι:=ah) X 24 [dI k,qN s,dI by_,cF.sl t] [.cf (fV 67 2 (.nil af) 0 [])] (λv=>.fa [.agg [.c (.val v),.c (EL (eO k s by_ t).2.1),.c (Co (eO k s by_ t).2.2)],.one (.c (.bool ab))])
   (λv=>[.cf (PM (TC v (eO k s by_ t).1))]):=by
 refine dZ.U4 (dZ.Bb (cP.fn (eO k s by_ t).1) (Fu k s by_ t hk i m l b n d) (λq M M' hle hK j f=>(hK j f).mono hle) λq M hK j f=>?_) (λ_ _ _ h=>h.1) (λ_=>rfl) (λ_=>rfl) rfl rfl;have hK:=hK j f;generalize(eO k s by_ t).1=ps at *;have e:cP.fn ps j=[.int .i64 (ps.getD j (0,[])).1,sP (ps.getD j (0,[]))]:=rfl;rw[e];refine⟨rfl,λp c a=>?_⟩
 match p,a with
 |0,a=>cases a;exact⟨_,rfl,λv g h=>by cases h with|int h=>exact .int h⟩
 |1,a=>cases a;exact⟨_,rfl,λv g h=>by grind[Rd.dY]⟩
end
end Go.AM.R1
namespace Go.AM
section
open Go.Conc (G)
theorem Rd.Ef{M:Mem}{v:ah}{t:Bool}{k n:Nat}{es:Nat->List C}(h:Rd M v (.sl t k n es)):∃a cap b off,v=.slice a n cap/\n<=cap/\cap<=9223372036854775807/\(0<n->a=aa ⟨b,off,af⟩)/\(∀i,i<n->(es i).length=k)/\∀i,i<n->∀j c,(es i)[j]?=aa c->∃u,M b (off+i*k+j)=aa u/\Rd M u c:=by
 cases h with
 |@sl a _ cap _ _ _ b off f e g l hk ha hm hr=>exact⟨a,cap,b,off,rfl,e,g,ha,hk,λi hi j c hj=>⟨_,hm i hi j c hj,hr i hi j c hj⟩⟩
def Rd.RQ{M:Mem}{a:Option Addr}{cap k n b off:Nat}{es:Nat->List C}(h1:n<=cap)(h2:cap<=9223372036854775807)(f:0<n->a=aa ⟨b,off,af⟩)(e:∀i,i<n->(es i).length=k)(g:∀i,i<n->∀j c,(es i)[j]?=aa c->∃u,M b (off+i*k+j)=aa u/\Rd M u c):Rd M (.slice a n cap) (.sl ae k n es):=by
 refine .sl b off (λi j=>(M b (off+i*k+j)).getD ai) h1 h2 (λh=>by cases h) e f (λi hi j c hj=>?_) λi hi j c hj=>?_
 .grind
 grind
section
variable {P:aq}{X:Cx P}{N:Nat}{Qf:Post}{d:List It}{φ:Fr}{σ:List aP}{all rest:List ar}{o:ar}
def AK.U6{ι:Type}{c:Code}{b K:List It}(φ':ι->Fr)(σ':ι->List aP)(h:(∀(i:ι)(a:Fr)(ps:List Prop),nA a (φ' i)=aa ps->ay ps->AK X N Qf (.code c::b) .normal a (σ' i))->AK X N Qf K .normal φ σ)(k:∀i,AK X N Qf (.code c::b) .normal (φ' i) (σ' i)):AK X N Qf K .normal φ σ :=
 h λi _ _ h1 h2=>AW.le (k i) (cX h1 h2)
def jG.agg{ds:List D}(p q y:Nat){cs:List A}{u:ah}{k n:Nat}{es:Nat->List C}(E:ds[p]?=aa (.e (.agg cs)))(G:cs[q]?=aa (.c (.val u)))(hl:gZ σ y u k n es):jG σ ds (ds.set p (.e (.agg (cs.set q (.c (.sl ae k n es)))))):=by
 intro s vs hh hr;obtain⟨L,j,m,w,F,I,K,H⟩:=hl s hh;refine⟨λb=>b∈L.bs,j,λb O=>⟨L,bJ m,O⟩,w,F,I,K,?_⟩;have e1:Ext σ s σ {s with M:=j}:=⟨w,λl B L hB m=>⟨B,L,hB,m,.refl _ _⟩⟩
 have x:=hr.mono e1 hh.len;obtain⟨J,r⟩:=ck.get x;have h:p<vs.length:=by grind
 have f:=r p;rw[E,br h]at f;obtain⟨z,i,g⟩:=f;obtain⟨v,a,t⟩:=g.get G;rw[Rd.dY (show Rd j v (.val u)from t)]at a;refine ck.setAt x (br h) ⟨z,i,dW.set g a H⟩
theorem PM.of{l:Nat}{K:Mem->Prop}{p:Prop}(hl:σ[l]?=aa (.cf (PM K)))(h:∀M,K M->p)(s:St)(hh:aE σ s):p:=by
 have a:l<s.β.length:=by rw[hh.len];grind
 obtain⟨ch,⟨_,_,b⟩,_⟩:=hh.box l _ _ hl (br a);grind
def dO.RR{T:List (Nat×TI)}(hT:cT P T)(l:Nat){t:aj}{x:ak}{b off:Nat}{K:Mem->Prop}{i:TI}(h:o.op=.load t x)(hi:bD T t=aa i)(F:∀v,kP i [.c (.val v)]=aa (.one (.c (.val v))))(V:bP φ x=.e (.one (.v (.pointer (aa ⟨b,off,af⟩)))))(hl:σ[l]?=aa (.cf (PM K)))(O:∀M,K M->∃w,M b off=aa w/\cJ w=ab):dO P N o φ σ (λw:ah=>.e (.one (.v w))) (λw=>σ.set l (.cf (PM λM=>K M/\M b off=aa w))):=by
 intro s a S hh;have u:=c7 S x;rw[V]at u;have u:=Rd.dY u;have k:l<s.β.length:=by rw[hh.len];grind
 have r:=br k;generalize s.β[l]=L at r;obtain⟨ch,⟨h1,h2,D⟩,H,I,W⟩:=hh.box l _ L hl r;obtain⟨w,B,J⟩:=O _ D;obtain⟨cs,E,z,A⟩:∃cs E,ch b=aa (.cells cs E (0,0))/\cs[off]?=aa w:=by
  cases e:ch b with
  |none=>simp[fK,e]at B
  |some x =>
   obtain⟨cs,E,rfl⟩:=h2 b x e;exact⟨cs,E,rfl,by simpa[fK,e]using B⟩
 have y:b∈L.bs:=(I b).2 (by grind);have p:=H b _ z;obtain⟨R,Q⟩:=hh.ju (l:=l) (H':=PM λM=>K M/\M b off=aa w) (L':=L) (w':=s.w) hl r rfl (bg _) (λ_ _ _=>rfl) (λ_ U=>.inl U) ⟨ch,⟨h1,h2,D,B⟩,H,I⟩ rfl rfl rfl;have f:∀(j:Nat) (v:ah),[w][j]?=aa v->s.w.cell? ⟨b,off+j,af⟩=aa v:=by
  intro j v hj
  match j,hj with
  |0,hj=>cases hj;simp[aU,p,A]
 obtain⟨v,g,C⟩:=iA (s:=⟨s.β.set l L,s.M,s.w,s.own⟩) (σ:=σ.set l (.cf (PM λM=>K M/\M b off=aa w))) (P:=P) (hT t i hi) (b:=b) (off:=off) (vs:=[w]) (cs:=[.c (.val w)]) f ⟨Rd.val J,aw⟩ (F w);have g:(loadVar t ⟨b,off,af⟩).run P s.w=.ok v s.w:=g;have e1:av a.eval o=(do pure (.value (<-loadVar t ⟨b,off,af⟩))):=by simp[av,h,u,Instr.loadAt,bn]
 refine⟨w,.value v,_,v,by rw[e1];simp[g],.inl rfl,C,R,Q,λG q=>?_⟩;rw[e1]at q;have m:G∈(loadVar t ⟨b,off,af⟩).events P s.w #[]:=by simpa[g]using q
 obtain⟨j,hj,rfl⟩:=gf (hT t i hi) (n:=1) (λj hj=>⟨w,f j w (by grind)⟩) (by have:=kQ (F w);grind) G m;exact jF (bJ r) y
def Mem.up(M:Mem)(b o:Nat)(u:ah):Mem:=λc a=>if c=b/\a=o then aa u else M c a
def dO.Gc{T:List (Nat×TI)}(hT:cT P T)(l:Nat){t:aj}{x y:ak}{b off:Nat}{K:Mem->Prop}{c:C}{i:TI}(h:o.op=.store t x y)(hi:bD T t=aa i)(hs1:i.size=1)(hx:bP φ x=.e (.one (.v (.pointer (aa ⟨b,off,af⟩)))))(hy:bP φ y=.e (.one (.c c)))(hg:uM c=ab)(hl:σ[l]?=aa (.cf (PM K)))(hK:∀M,K M->∃w,M b off=aa w):dO P N o φ σ (ι:={u:ah // ∀M,Rd M u c}) (λ_=>.any) (λu=>σ.set l (.cf (PM λM'=>∃M,K M/\M'=M.up b off u.1))):=by
 intro s a Z hh;have J:=c7 Z x;rw[hx]at J;have J:=Rd.dY J;have k:=lN (show km (bP φ y)=aa [.c c] by rw[hy];rfl) (c7 Z y);generalize D:(a.eval y).cells.toList=vs at k;obtain⟨u,rfl⟩:∃u,vs=[u]:=by
  match vs,k with
  |[u],_=>grind
  |_::_::_,h=>exact h.2.elim
 have hu:Rd s.M u c:=k.1;have U:∀M,Rd M u c:=λM=>qd hg hu;have B:l<s.β.length:=by rw[hh.len];grind
 have S:=br B;generalize s.β[l]=L at S;obtain⟨ch,⟨h1,h2,V⟩,h4,h5,h6⟩:=hh.box l _ L hl S;obtain⟨w,Y⟩:=hK _ V;obtain⟨cs,E,I,UR⟩:∃cs E,ch b=aa (.cells cs E (0,0))/\cs[off]?=aa w:=by
  cases e:ch b with
  |none=>simp[fK,e]at Y
  |some x =>
   obtain⟨cs,E,rfl⟩:=h2 b x e;exact⟨cs,E,rfl,by simpa[fK,e]using Y⟩
 have G:b∈L.bs:=(h5 b).2 (by grind);have g:=h4 b _ I;have q:off<cs.size:=by grind
 have z:=run_storeCells_at P b off E [u] 0 cs s.w g (show off+0+1<=cs.size from q) k.cell;simp only[iq,jg]at z;have H:=setRow_heap s.w b cs (cs.toList.take off++[u]++cs.toList.drop (off+1)).toArray E (0,0) g;generalize F:(cs.toList.take off++[u]++cs.toList.drop (off+1)).toArray=Xg at z H;have Q:∀j,Xg[j]?=if j=off then aa u else cs[j]?:=λj=>by rw[<-F];grind
 have A:∀f O,fK (λf=>if f=b then aa (.cells Xg E (0,0))else ch f) f O=(fK ch).up b off u f O:=λf O=>by
  by_cases e:f=b
  .subst e;simp only[fK,cn,Mem.up,aF,I,Q]
  .simp only[fK,aY e,Mem.up,e,false_and,b9]
 obtain⟨t1,t2⟩:=hh.ju (l:=l) (H':=PM λM'=>∃M,K M/\M'=M.up b off u) (L':=L) (w':=s.w.setRow b Xg) hl S rfl (by simp)
  (λf n hn=>setRow_other s.w b f _ (λe=>hn (by grind))) (λf n=>.inl n)
  ⟨λf=>if f=b then aa (.cells Xg E (0,0))else ch f,⟨h1,λf o n=>by
   grind,_,V,funext λf=>funext λO=>A f O⟩,λf o n=>by
   grind[setRow_other],λf=>by grind⟩ rfl rfl rfl
 have R:(a.eval y).cells.size=i.size:=by grind
 have e1:av a.eval o=(do storeVar t ⟨b,off,af⟩ (a.eval y);pure .skip):=by simp[av,h,J,Instr.storeAt,bn]
 refine⟨⟨u,U⟩,.skip,_,ai,?_,.inr ⟨rfl,rfl⟩,aw,t1,t2,?_⟩
 .simp[av,h,J,Instr.storeAt,bn,storeVar,(hT t i hi).run_sizeOf,R,D,z]
 .intro W m;rw[e1]at m;have p:W∈(storeCells ⟨b,off,af⟩ (a.eval y).cells.toList).events P s.w #[]:=by
   simp only[storeVar,aK,(hT t i hi).run_sizeOf,R,aO,events_sizeOf,du,fh,b9,bO,bX,Sem.events_pure]at m;generalize(storeCells ⟨b,off,af⟩ (a.eval y).cells.toList).run P s.w=r at m;cases r with
   |ok v w'=>simpa using m
   |halt x w'=>simpa using m
  rw[D]at p;rcases dE [u] 0 cs s.w #[] g (show off+0+1<=cs.size from q) k.cell W p with I7|⟨j,_,_,rfl⟩
  .grind
  .exact jC (bJ S) G (h6 b G _)
end
end
end Go.AM
namespace Go.AM.R1
abbrev AP(l:List bz):Prop:=l.Pairwise λa b=>bk a.1 b.1=ab
def xx{t:List bz}(h:cz t=ab):AP t:=by simp only[cz,bS]at h;have a:=dz.1 h.1;rw[AP,j5];intro i j hi hj Zd;rw[fileAt hi,fileAt hj];refine V6 (t:=t) (i:=j) (λk hk hkj=>?_) i Zd;have:=a k (by omega);simp only[gJ,bS,jA,hI]at this;grind
theorem mO{t:List bz}:cz t=ab↔(∀f∈t,dD f.1=ab/\ee f.2=ab)/\AP t/\t.Pairwise (λa b=>clash a.1 b.1=ae)/\t.length<=6:=by
 constructor
 .intro h;have d:=xx h;simp only[cz,bS,aZ]at h;have c:=dz.1 h.1;refine⟨λf l=>?_,d,?_,h.2⟩
  .obtain⟨i,hi,rfl⟩:=dL l;have:=c i hi;simp only[gJ,bS]at this;grind[fileAt]
  .rw[j5];intro i j hi hj Zd;have:=c j hj;simp only[gJ,bS]at this;grind[fileAt]
 .rintro⟨g,m,n,k⟩;simp only[cz,bS,aZ];refine⟨dz.2 λi hi=>?_,k⟩;have e:=g _ (rK hi);rw[fileAt hi]at e;simp only[gJ,bS,jA,hI];grind[List.pairwise_iff_getElem,fileAt]
def xy{t:List bz}(q:bz->Bool)(h:cz t=ab):cz (t.filter q)=ab:=by grind[mO]
theorem LD{t:List bz}(p:Bs)(h:cz t=ab):cz (md t p)=ab:=xy _ h
def E5{t:List bz}{p x:Bs}(h:(ei t p x).2=ab):cz (ei t p x).1=ab:=by unfold ei at h⊢;grind
section
open Go.Proofs
variable {X:Cx ag}
def AT:∀j,j<1->([0]:List Nat)[j]?=aa j:=λj a=>by grind
set_option maxRecDepth 20000 in
def LL(m:Nat)(b:Nat->Int)(d:Bytes b)(k:Nat)(hk:k<=4000000)(c:m<=1048576)(l:List Bs)(g:1<=l.length/\l.length<=1000):
  dZ (ι:={p:Bs // p∈l}) X 109 [.e (.one (.ptr 0 0)),cS.sl l] [k6 m b k] (λp=>dS p.1) (λ_=>[k6 m b (k+1)]):=by
 refine dZ.qQ Tryz.func109 rfl rfl rfl λf=>?_;refine bu rfl aw ?_;refine AK.cP (gy m b d k l.length hk c (by omega)) [0] rfl (λ_=>rfl) ?_;rintro⟨v,v0,v1⟩;refine bu rfl ?_ ?_
 .simp;omega
 have a:l.getD v.toNat cS.b7∈l:=by grind
 refine AK.nL ⟨l.getD v.toNat cS.b7,a⟩ (AK.cY [0] rfl ?_ rfl rfl rfl AT);simp
def LM:List Bs:=[[],[102],[97,47],[97,98],[97,47,98,47,99],[47,97]]
def LN:List Bs:=[[97],[98],[99,47,97],[99,47,98],[100,47,97],[101],[97,47,98],[100]]
set_option maxRecDepth 20000 in
def vB(m:Nat)(b:Nat->Int)(d:Bytes b)(k:Nat)(hk:k<=100000)(c:m<=1048576):
  dZ (ι:={p:Bs // p.length<=8}) X 60 [.e (.one (.ptr 0 0))] [k6 m b k] (λp=>dS p.1) (λ_=>[k6 m b (k+1+1)]):=by
 refine dZ.qQ Tryz.func60 rfl rfl rfl λf=>?_;refine bu rfl aw ?_;refine AK.cP (gy m b d k 40 (by omega) c (by omega)) [0] rfl (λ_=>rfl) ?_;rintro⟨v,v0,v1⟩;by_cases h:v=0
 .refine aW [(5,ab)] rfl ?_ ?_
  .simp[h]
  have:=LL (X:=X) m b d (k+1) (by omega) c LM (by decide);refine AK.jI this [0] rfl rfl rfl rfl ?_ rfl rfl rfl (λ_=>rfl) rfl (λ_=>rfl) rfl ?_
  .refine⟨rfl,λi hi=>?_⟩;rcases i with _|_|_|_|_|_|i<;>first|rfl|omega
  rintro⟨p,a⟩;refine bu rfl aw (AK.nL ⟨p,(by decide:∀p∈LM,p.length<=8) p a⟩ (AK.cY [0] rfl ?_ rfl rfl rfl AT));simp
 .refine aW [(5,ae)] rfl ?_ ?_
  .simp[h]
  have:=LL (X:=X) m b d (k+1) (by omega) c LN (by decide);refine AK.jI this [0] rfl rfl rfl rfl ?_ rfl rfl rfl (λ_=>rfl) rfl (λ_=>rfl) rfl ?_
  .refine⟨rfl,λi hi=>?_⟩;rcases i with _|_|_|_|_|_|_|_|i<;>first|rfl|omega
  rintro⟨p,a⟩;refine bu rfl aw (AK.nL ⟨p,(by decide:∀p∈LN,p.length<=8) p a⟩ (AK.cY [0] rfl ?_ rfl rfl rfl AT));simp
def words:List Bs:=[[97,98,99],[104,101,108,108,111],[119,111,114,108,100],[97,97,97,97],[107,101,101,112],[122,122],[98,97,99,107,117,112],[113]]
abbrev Wb(k:Nat):={q:Bs×Nat // q.1.length<=100000/\k<=q.2/\q.2<=k+60}
def GO(s:Bs)(n:Int)(b:s.length<=10)(i:0<=n/\n<=100):dZ (ι:={p:Bs // p.length<=100000}) X 110 [dS s,dI n] [] (λp=>dS p.1) (λ_=>[]):=by
 refine dZ.qQ Tryz.func110 rfl rfl rfl λf=>?_;refine bu rfl aw ?_;refine AK.j0 (λx:Nat×Bs×Bs=>x.1<=100/\x.2.2.length+x.2.1.length*x.1<=1010) (λx=>[(0,dS x.2.1),(1,dI x.1),(5,dS x.2.2)]) (λ_=>[]) (λx=>x.1) (n.toNat,s,[]) rfl ?_ rfl aw ⟨by grind,?_⟩ ?_
 .simp;omega
 .have:s.length*n.toNat<=10*100:=Nat.mul_le_mul b (by omega);grind
 rintro⟨k,t,out⟩ ⟨d,a⟩;simp only at d a;by_cases hk:0<k
 .have h:t.length<=t.length*k:=uX _ hk;have j:((k:Int) / 2)=((k / 2:Nat):Int):=by omega
  by_cases g:k % 2=1
  .have c:(t++t).length*(k / 2)+t.length=t.length*k:=by
    have e:k=2*(k / 2)+1:=by omega
    grind
   refine aW [(7,ab),(10,ab)] rfl ?_ (AK.gj (k / 2,t++t,out++t) rfl ?_ rfl aw ?_ ?_)
   .simp[hk];omega
   .simp
   .grind
   grind
  .have c:(t++t).length*(k / 2)=t.length*k:=by
    have e:k=2*(k / 2):=by omega
    grind
   refine aW [(7,ab),(10,ae)] rfl ?_ (AK.gj (k / 2,t++t,out) rfl ?_ rfl aw ?_ ?_)
   .simp[hk];omega
   .simp
   .grind
   grind
 .obtain rfl:k=0:=by omega
  refine aW [(7,ae)] rfl (by simp) (AK.leave rfl rfl ?_);exact bu rfl aw (AK.nL ⟨out,by omega⟩ (AK.bx rfl))
set_option maxRecDepth 20000 in
def GP(m:Nat)(b:Nat->Int)(d:Bytes b)(k:Nat)(hk:k<=100000)(c:m<=1048576):
  dZ (ι:=Wb k) X 61 [.e (.one (.ptr 0 0))] [k6 m b k] (λq=>dS q.1.1) (λq=>[k6 m b q.1.2]):=by
 refine dZ.qQ Tryz.func61 rfl rfl rfl λz=>?_;refine bu rfl aw ?_;refine AK.cP (gy m b d k 5 (by omega) c (by omega)) [0] rfl (λ_=>rfl) ?_;rintro⟨v,v0,v1⟩;refine bu rfl aw ?_;refine AK.cC 1 (λs:Nat×Bs×Nat=>s.1<=4/\s.2.1.length+6*s.1<=24/\k<=s.2.2/\s.2.2+s.1<=k+5) (λs=>[(0,.e (.one (.ptr 0 0))),(4,dI s.1),(3,dS s.2.1)]) (λs=>[k6 m b s.2.2]) (λs=>s.1) (v.toNat,[],k+1) rfl ?_ rfl ?_ rfl ⟨by omega,by grind,by simp,by grind⟩ ?_
 .simp;omega
 .simp
 rintro⟨n,s,k1⟩ ⟨t,E,o,H⟩;simp only at t E o H;by_cases j:0<n
 .refine aW [(9,ab)] rfl ?_ ?_
  .simp[j]
  have:=LL (X:=X) m b d k1 (by omega) c words (by decide);refine AK.jI this [0] rfl rfl rfl rfl ?_ rfl rfl rfl (λ_=>rfl) rfl (λ_=>rfl) rfl ?_
  .refine⟨rfl,λi hi=>?_⟩;rcases i with _|_|_|_|_|_|_|_|i<;>first|rfl|omega
  rintro⟨p,g⟩;have A:p.length<=6:=(by decide:∀p∈words,p.length<=6) p g;refine bu rfl ?_ (AK.aQ (n-1,s++p,k1+1) rfl ?_ ?_ ?_ ?_)
  .simp[bA];omega
  .simp;omega
  .simp
  .grind
  grind
 .obtain rfl:n=0:=by omega
  refine aW [(9,ae)] rfl (by simp) (AK.leaveD rfl rfl ?_);refine bu rfl aw ?_;refine AK.cP (gy m b d k1 4 (by omega) c (by omega)) [0] rfl (λ_=>rfl) ?_;rintro⟨u,I,J⟩;by_cases l:u=0
  .refine aW [(19,ab)] rfl (by simp[l]) ?_;refine AK.cP (gy m b d (k1+1) 12 (by omega) c (by omega)) [0] rfl (λ_=>rfl) ?_;rintro⟨w,w0,w1⟩;refine bu rfl aw ?_;refine AK.cC 1 (λs:Nat×Bs×Nat=>s.1<=11/\s.2.1.length+s.1<=36/\k<=s.2.2/\s.2.2+s.1<=k+20) (λs=>[(0,.e (.one (.ptr 0 0))),(5,dI s.1),(3,dS s.2.1)]) (λs=>[k6 m b s.2.2]) (λs=>s.1) (w.toNat,s,k1+2) rfl ?_ rfl ?_ rfl ⟨by omega,by grind,by grind,by grind⟩ ?_
   .simp;omega
   .simp;omega
   rintro⟨n,s2,f⟩ ⟨D,C,G,F⟩;simp only at D C G F;by_cases j:0<n
   .refine aW [(23,ab)] rfl ?_ ?_
    .simp[j]
    refine AK.cP (gy m b d f 26 (by omega) c (by omega)) [0] rfl (λ_=>rfl) ?_;rintro⟨x,L,K⟩;refine bu rfl ?_ (AK.aQ (n-1,s2++[UInt8.ofNat (97+x).toNat],f+1) rfl ?_ ?_ ?_ ?_)
    .simp[bA];omega
    .simp;omega
    .simp
    .grind
    grind
   .obtain rfl:n=0:=by omega
    refine aW [(23,ae)] rfl (by simp) (AK.leaveD rfl rfl ?_);refine aW [(36,ae)] rfl ?_ ?_
    .simp;omega
    refine AK.cP (gy m b d f 60 (by omega) c (by omega)) [0] rfl (λ_=>rfl) ?_;rintro⟨y,r,B⟩;by_cases h:y=0
    .refine aW [(41,ab)] rfl ?_ (AK.nL ⟨(s2++[65],f+1),by grind,by grind,by grind⟩ (AK.cY [0] rfl ?_ rfl rfl rfl AT))
     .simp[h];omega
     .simp
    by_cases a:y=1
    .refine aW [(41,ae),(45,ab)] rfl ?_ ?_
     .simp[a]
     refine AK.cP (GO [97,98,99,100,101] 9 (by decide) (by decide)) [] rfl (λ_=>rfl) ?_;rintro⟨p,g⟩;refine bu rfl aw (AK.nL ⟨(p,f+1),g,by grind,by grind⟩ (AK.cY [0] rfl ?_ rfl rfl rfl AT));simp
    .refine aW [(41,ae),(45,ae)] rfl ?_ (AK.nL ⟨(s2,f+1),by grind,by grind,by grind⟩ (AK.cY [0] rfl ?_ rfl rfl rfl AT))
     .simp[h,a]
     .simp
  .refine qG [(19,ae)] 2 rfl (by simp[l]) ?_;refine aW [(36,ae)] rfl ?_ ?_
   .simp;omega
   refine AK.cP (gy m b d (k1+1) 60 (by omega) c (by omega)) [0] rfl (λ_=>rfl) ?_;rintro⟨y,r,B⟩;by_cases h:y=0
   .refine aW [(41,ab)] rfl ?_ (AK.nL ⟨(s++[65],(k1+1)+1),by grind,by grind,by grind⟩ (AK.cY [0] rfl ?_ rfl rfl rfl AT))
    .simp[h];omega
    .simp
   by_cases a:y=1
   .refine aW [(41,ae),(45,ab)] rfl ?_ ?_
    .simp[a]
    refine AK.cP (GO [97,98,99,100,101] 9 (by decide) (by decide)) [] rfl (λ_=>rfl) ?_;rintro⟨p,g⟩;refine bu rfl aw (AK.nL ⟨(p,(k1+1)+1),g,by grind,by grind⟩ (AK.cY [0] rfl ?_ rfl rfl rfl AT));simp
   .refine aW [(41,ae),(45,ae)] rfl ?_ (AK.nL ⟨(s,(k1+1)+1),by grind,by grind,by grind⟩ (AK.cY [0] rfl ?_ rfl rfl rfl AT))
    .simp[h,a]
    .simp
def O4(m:Nat)(b:Nat->Int)(f:m<=1048576):dZ (ι:={n:Nat // n<=1048576}) X 19 [.e (.one (.c (.sl ae 1 m (ET b))))] [] (λ_=>.e (.one (.ptr 0 0))) (λn=>[k6 n.1 b 0]):=by
 refine dZ.qQ Tryz.func19 rfl rfl rfl λa=>?_;by_cases h:2000<m
 .refine aW [(5,ab)] rfl ?_ (AK.norm [k6 2000 b 0] rfl ?_ (AK.nL ⟨2000,by decide⟩ (AK.cY [0] rfl ?_ rfl rfl rfl (λj d=>by grind))))
  .simp;omega
  .simp[cy,jJ,cO]
  .simp
 .refine aW [(5,ae)] rfl ?_ (AK.nL ⟨m,f⟩ (AK.cY [0] rfl ?_ rfl rfl rfl (λj d=>by grind)))
  .simp;omega
  .simp
end
end Go.AM.R1
namespace Go.AM
def Bd(p:Bs):ah:=.string ⟨p.toArray⟩
def S4{a:ByteArray}{p:Bs}(h:a.data.toList=p):Value.string a=Bd p:=by subst h;simp[Bd]
theorem str_val{M:Mem}{v:ah}{p:Bs}(h:Rd M v (.str p)):v=Bd p/\cJ v=ab:=by
 cases h with
 |str e _=>exact⟨S4 e,rfl⟩
end Go.AM
namespace Go.AM.R1
section
open Go.Proofs
variable {X:Cx ag}[X.gZ]
def S6(t:List bz):∀i,i<t.length->(cF.fn t i).length=2/\∀c∈cF.fn t i,uM c=ab:=by intro i _;refine⟨rfl,λc a=>?_⟩;simp only[kF.fn,ya,cF,eE,oa,mn]at a;rcases a with rfl|rfl<;>rfl
abbrev LO(t:List bz)(xs:List ah):Prop:=gn 2 t.length (cF.fn t) xs
abbrev bK(bf:m9)(n:Nat)(xs:List ah):aP:=.cf (fV 82 2 bf n xs)
abbrev tKB(bf:m9)(n:Nat)(b:Bool):D:=.fa [.one (.v (la bf n)),.one (.c (.bool b))]
def CX(t:List bz)(p x:Bs):dZ (ι:={q:m9×List ah // LO (ei t p x).1 q.2}) X 59 [cF.sl t,dS p,dS x] [] (λq=>tKB q.1.1 (ei t p x).1.length (ei t p x).2) (λq=>[bK q.1.1 (ei t p x).1.length q.1.2]) :=
 (uB t p x).thaw Tryz.func59 rfl (by simp[vo,pC,qu,mG,vK,uM]) (S6 _)
def gn.nil{k:Nat}{es:Nat->List C}:gn k 0 es []:=⟨by simp,λi hi=>by omega,λi hi=>by omega⟩
def Iu{t:List bz}{p x:Bs}(h:(ei t p x).2=ab):(ei t p x).1.length<=6:=by
 unfold ei at h⊢;split at h
 .rename_i b;rw[bl b];split at h
  .rename_i a;rw[bl a];exact me a
  grind
 grind
def Wc{o:ar}{x y:ak}(h:o.op=.call {callee:=.builtin .append,args:=#[x,y],argTypes:=#[28,28]}):lA ag o x y 82 i82 :=
 ⟨⟨28,28,i28,i28,h,(tok _ _ rfl),rfl,(tok _ _ rfl),rfl⟩,(tok _ _ rfl),by decide,by decide⟩
def LP{M:Mem}{p:Bs}(h:p.length<=9223372036854775807):Rd M (Bd p) (.str p):=Rd.str rfl h
def LO.snoc{t:List bz}{xs:List ah}(h:LO t xs)(p x:Bs)(b:p.length<=9223372036854775807)(d:x.length<=9223372036854775807):LO (t++[(p,x)]) (xs++[Bd p,Bd x]):=by
 unfold LO;rw[cA];refine gn.snoc h (λi hi=>?_) rfl rfl λq c a=>?_
 .simp[kF.fn,ya,an,jw hi]
 .have e:cF.fn (t++[(p,x)]) t.length=[.str p,.str x]:=by simp[kF.fn,ya,cF]
  rw[e]at a;rcases q with _|_|q
  .simp at a;subst a;exact⟨Bd p,rfl,λM=>LP b⟩
  .simp at a;subst a;exact⟨Bd x,rfl,λM=>LP d⟩
  grind
def LO.O5{t:List bz}{xs vs:List ah}(h:LO t xs)(i:Nat)(hi:i<t.length)(x:Bs)(f:mX vs [.c (.str x)]):LO (t.set i ((t.getD i cF.b7).1,x)) (xs.take (i*2+1)++vs++xs.drop (i*2+1+vs.length)):=by
 unfold LO;rw[List.length_set];refine gn.fy h i 1 hi f (bg _) (λg d b=>?_) rfl λq c a=>?_
 .simp[kF.fn,ya,an,Ne.symm b]
 .have e:cF.fn (t.set i ((t.getD i cF.b7).1,x)) i=[.str (t.getD i cF.b7).1,.str x]:=by simp[kF.fn,ya,cF,an,hi]
  rw[e]at a;rcases q with _|_|q
  .right;simp at a;subst a;exact⟨by omega,rfl⟩
  .grind
  grind
structure CY(k c:Nat) where
 t:List bz
 bf:m9
 xs:List ah
 k1:Nat
 fl:LO t xs
 hl:t.length<=7
 h1:k<=k1
 h2:k1<=k+c
set_option maxRecDepth 20000 in
def Gz(m:Nat)(b:Nat->Int)(w:Bytes b)(k:Nat)(hk:k<=50000)(r:m<=1048576):
  dZ (ι:=CY k 400) X 22 [.e (.one (.ptr 0 0))] [k6 m b k] (λq=>.e (.one (.v (la q.bf q.t.length)))) (λq=>[k6 m b q.k1,bK q.bf q.t.length q.xs]):=by
 refine dZ.qQ Tryz.func22 rfl rfl rfl λK=>?_;refine qG [] 9 rfl aw ?_;refine AK.Nu 3 82 2 rfl λA=>?_;refine bu rfl aw ?_;refine AK.cP (gy m b w k 6 (by omega) r (by omega)) [0] rfl (λ_=>rfl) ?_;rintro⟨v,v0,v1⟩;refine bu rfl aw ?_;refine AK.cC 2 (λs:Nat×List bz×m9×List ah×Nat=>s.1<=5/\LO s.2.1 s.2.2.2.1/\s.2.1.length<=6/\k<=s.2.2.2.2/\s.2.2.2.2+70*s.1<=k+351) (λs=>[(0,.e (.one (.ptr 0 0))),(4,dI s.1),(3,.e (.one (.v (la s.2.2.1 s.2.1.length))))]) (λs=>[k6 m b s.2.2.2.2,bK s.2.2.1 s.2.1.length s.2.2.2.1]) (λs=>s.1) (v.toNat,[],A,[],k+1) rfl ?_ rfl ?_ rfl ⟨by omega,gn.nil,by simp,by simp,by grind⟩ ?_
 .simp;omega
 .simp
 rintro⟨n,t,bf,xs,k1⟩ ⟨J,f,G,O,Q⟩;simp only at J f G O Q;by_cases H:0<n
 .refine aW [(11,ab)] rfl (by simp[H]) ?_;refine AK.cP (vB m b w k1 (by omega) r) [0] rfl (λ_=>rfl) ?_;rintro⟨p,L⟩;refine bu rfl aw ?_;refine AK.cP (GP m b w (k1+1+1) (by omega) r) [0] rfl (λ_=>rfl) ?_;rintro⟨⟨x,E⟩,P,B,g⟩;simp only at P B g;refine bu rfl aw ?_;refine AK.J0 (CX t p x) 1 0 rfl rfl rfl rfl (fV.Bq rfl (cF.fn t) f.rd) rfl ?_ rfl (λ_=>rfl) (λ_=>rfl) rfl ?_
  .simp
  rintro⟨⟨a,xs'⟩,o⟩;simp only at o⊢;cases D:(ei t p x).2 with
  |true =>
   have C:=Iu D;generalize(ei t p x).1=t' at o C⊢;refine qG [] 6 rfl aw ?_;refine AK.swap 1 2 (by decide) rfl rfl (λv I h=>h.1) (λv I h=>h.1) ?_;refine aW [(23,ab)] rfl ?_ (AK.aQ (n-1,t',a,xs',E) rfl ?_ ?_ ?_ ?_)
   .simp[bA];omega
   .simp;omega
   .simp
   .grind
   grind
  |false =>
   refine aW [(23,ae)] rfl ?_ (AK.aQ (n-1,t,bf,xs,E) rfl ?_ ?_ ?_ ?_)
   .simp[bA];omega
   .simp;omega
   .simp
   .grind
   grind
 .obtain rfl:n=0:=by omega
  refine aW [(11,ae)] rfl (by simp) (AK.leaveD rfl rfl ?_);refine bu rfl aw ?_;refine AK.cP (gy m b w k1 40 (by omega) r (by omega)) [0] rfl (λ_=>rfl) ?_;rintro⟨u,S,T⟩;by_cases F:u=0
  .refine aW [(27,ab)] rfl (by simp[F]) ?_;refine AK.cP (vB m b w (k1+1) (by omega) r) [0] rfl (λ_=>rfl) ?_;rintro⟨p,L⟩;refine bu rfl aw ?_;refine AK.oo (l:=1) (bf:=bf) (xs:=xs) (n:=t.length) (xv:=[Bd p,Bd [97]]) (Wc rfl) rfl rfl rfl rfl rfl rfl rfl rfl (λM v j c R U=>?_) (by show _*32<=_;omega) λa=>?_
   .grind [str_val]
   refine bu rfl aw (AK.nL ⟨t++[(p,[97])],a,xs++[Bd p,Bd [97]],k1+1+1+1,f.snoc p [97] (by omega) (by decide),by grind,by omega,by omega⟩ (AK.cY [0,1] rfl ?_ ?_ rfl rfl ?_))
   .simp
   .simp;rfl
   grind
  by_cases d:u=1
  .by_cases y:0<t.length
   .refine AK.Jb (fV.len (l:=1) rfl) λz=>?_;obtain⟨N,cap,rfl⟩:=z.2.2.1 y;refine aW [(27,ae),(35,ab),(39,ab)] rfl ?_ ?_
    .simp[y,d];omega
    refine AK.zy tok 1 rfl rfl rfl rfl rfl rfl rfl ?_ rfl rfl λvs TK=>?_
    .grind
    have i:=f.O5 0 y [65] TK;refine bu rfl aw (AK.nL ⟨t.set 0 ((t.getD 0 cF.b7).1,[65]),.row N cap,_,k1+1,i,by grind,by omega,by omega⟩ (AK.cY [0,1] rfl ?_ ?_ rfl rfl ?_))
    .simp
    .simp;rfl
    grind
   .cases bf;all_goals
     refine aW [(27,ae),(35,ab),(39,ae)] rfl ?_ (AK.nL ⟨t,_,xs,k1+1,f,by omega,by omega,by omega⟩ (AK.cY [0,1] rfl ?_ rfl rfl rfl ?_))
     .simp[y,d]<;>omega
     .simp
     grind
  .refine aW [(27,ae),(35,ae)] rfl (by simp[F,d]) (AK.nL ⟨t,bf,xs,k1+1,f,by omega,by omega,by omega⟩ (AK.cY [0,1] rfl ?_ rfl rfl rfl ?_))
   .simp
   grind
abbrev Qz:List bz:=[([97],[104,101,108,108,111])]
def Le:cz Qz=ab:=by decide +kernel
abbrev VM(k:Nat):={q:List bz×Nat // cz q.1=ab/\k<=q.2/\q.2<=k+400}
def OL(m:Nat)(b:Nat->Int)(g:Bytes b)(k:Nat)(hk:k<=50000)(f:m<=1048576):
  dZ (ι:=VM k) X 106 [.e (.one (.ptr 0 0))] [k6 m b k] (λq=>cF.sl q.1.1) (λq=>[k6 m b q.1.2]):=by
 refine dZ.qQ Tryz.func106 rfl rfl rfl λj=>?_;refine bu rfl aw ?_;refine AK.cP (Gz m b g k hk f) [0] rfl (λ_=>rfl) ?_;rintro⟨t,bf,xs,k1,h,l,c,a⟩;refine aW [(1000002,ab)] rfl aw ?_;refine AK.vL 3 1 (cF.fn t) rfl rfl h.rd ?_;refine bu rfl aw ?_;refine AK.cQ (yQ t) [] rfl ?_;cases d:cz t with
 |true =>
  refine bu rfl aw (AK.nL ⟨(t,k1),d,c,a⟩ (AK.cY [0] rfl ?_ rfl rfl rfl ic));simp
 |false =>
  refine bu rfl aw (AK.nL ⟨(Qz,k1),Le,c,a⟩ (AK.cY [0] rfl ?_ rfl rfl rfl ic));refine⟨rfl,λi hi=>?_⟩;have:i=0:=by grind
  subst this;rfl
end
structure V8(x:bH):Prop where
 ex:∃no ps,1<=no/\no<=99/\0<ps.length/\ps.length<=4/\(∀q∈ps,bt q=ab)/\x=eZ no 7 ps
structure V9(x:gG):Prop where
 ex:∃no t,1<=no/\no<=20/\cz t=ab/\x=fA no 7 t
structure D7(st:bo):Prop where
 p:∀x∈st.1,V8 x
 pl:st.1.length<=20
 s:∀x∈st.2.1,V9 x
 CJ:st.2.1.Pairwise λa b=>a.1<b.1
 h:∀x∈st.2.2,(1<=x.1/\x.1<=2)/\1<=x.2/\x.2<=20
 hl:st.2.2.length<=9
 Wa:st.1.Pairwise λa b=>a.1<b.1
def eg{t:List bz}(h:cz t=ab):qP t:=by
 obtain⟨k,_,_,n⟩:=mO.1 h;have m:∀f∈t,b8 f.2=ab/\f.2.length<=40:=λf d=>by have:=(k f d).2;simp only[ee,bS,aZ]at this;grind
 refine⟨by omega,λf d=>⟨(m f d).1,by grind⟩,?_⟩;have:∀l:List bz,(∀f∈l,f.2.length<=40)->(gL l).length<=40*l.length:=by
  intro l;induction l with
  |nil=>intro _;simp[gL]
  |cons f r i =>
   intro e;have a:=i λg j=>e g (qU _ j);have b:=e f mU;have c:=ku f.2;simp only[gL,u6,cA,er]at a⊢;omega
 grind
theorem LF(no k:Int)(ps:List Bs):(eZ no k ps).2.length=ps.length:=qx k ps
def V8.len{x:bH}(h:V8 x):1<=x.2.length/\x.2.length<=4:=by obtain⟨no,ps,_,_,b,a,_,rfl⟩:=h.ex;grind[LF]
def V8.no{x:bH}(h:V8 x):1<=x.1/\x.1<=99:=by obtain⟨no,ps,h1,h2,_,_,_,rfl⟩:=h.ex;exact⟨h1,h2⟩
def V9.no{x:gG}(h:V9 x):1<=x.1/\x.1<=20:=by obtain⟨no,t,h1,h2,_,rfl⟩:=h.ex;exact⟨h1,h2⟩
def V9.len{x:gG}(h:V9 x):x.2.length<=6/\∀y∈x.2,y.2.length<=4000000:=by obtain⟨no,t,_,_,a,rfl⟩:=h.ex;have c:=me a;refine⟨by simpa[fA]using c,λy b=>?_⟩;simp only[fA,kB]at b;obtain⟨f,d,rfl⟩:=b;have:=((eg a).sZ f d).2;have:=ku f.2;simp only[oN,lh];omega
def GM{l:List gG}:∀(a:Int),l.Pairwise (λa b=>a.1<b.1)->(∀x∈l,a<=x.1/\x.1<=20)->(l.length:Int)<=max 0 (21-a):=by
 induction l with
 |nil=>grind
 |cons x r d =>
  intro a f c;obtain⟨h,g⟩:=ji.1 f;have i:=c x mU;have:=d (x.1+1) g λy e=>⟨by grind,(c y (qU _ e)).2⟩
  grind
def D7.sl{s:bo}(h:D7 s):s.2.1.length<=20:=by have:=GM 1 h.CJ λx a=>(h.s x a).no;omega
def D7.size{s:bo}(h:D7 s):l8 s:=by have h1:=h.pl;have h2:=h.sl;have c:=h.hl;refine⟨by omega,λp a=>by have:=(h.p p a).len;omega,by omega,λx b=>?_,by omega⟩;have:=(h.s x b).len;grind
def D7.num{s:bo}(h:D7 s):sE s :=
 ⟨λx a=>by have:=(h.p x a).no;omega,λx a=>by have:=(h.s x a).no;omega,λx a=>by have:=(h.h x a).2;omega⟩
def D7.c6{s:bo}(h:D7 s):(c6 s.1).length<=100000:=by
 have:∀l:List bH,(∀x∈l,x.2.length<=4)->(R1.c6 l).length<=4*l.length:=by
  intro l;induction l with
  |nil=>intro _;simp[R1.c6]
  |cons f r c =>
   intro hl;have a:=c λg d=>hl g (qU _ d);have b:=hl f mU;simp only[R1.c6,u6,cA,lh,er]at a⊢;omega
 have:=this s.1 λx e=>(h.p x e).len.2;have:=h.pl;omega
def D7.nil:D7 ([],[],[]):=⟨by simp,by simp,by simp,by simp,by simp,by simp,by simp⟩
def tR(k:Int):∀(f:Nat) (no:Int)(ps:List Bs),(∀q∈ps,bt q=ab)->∀x∈eQ k f no ps,∃a qs,no<=a/\a<no+(eQ k f no ps).length/\0<qs.length/\qs.length<=4/\(∀q∈qs,bt q=ab)/\x=eZ a k qs
 |0,_,_,_,x,b=>by simp[eQ]at b
 |f+1,no,ps,d,x,b=>by
  simp only[eQ]at b⊢;split at b
  .rename_i h;rw[bl h];rcases eE.1 b with rfl|b
   .grind
   .obtain⟨a,qs,i,e,g⟩:=tR k f (no+1) (ps.drop 4) (λq c=>d q (pR c)) x b;grind
  grind
def tS{α:Type}{l:List α}(h:l.length≠0)(d:α):l.getD (l.length-1) d∈l:=ff (by omega) d
def D7.cv{s:bo}(h:D7 s):1<=cv s:=by
 unfold R1.cv;split
 .omega
 .rename_i a;have:=(h.p _ (tS a (0,[]))).no;omega
def tT(k:Int):∀(f:Nat) (no:Int)(ps:List Bs),∀x∈eQ k f no ps,no<=x.1
 |0,_,_,x,a=>by simp[eQ]at a
 |f+1,no,ps,x,a=>by
  simp only[eQ]at a;split at a
  .rcases eE.1 a with rfl|a
   .exact Int.le_refl _
   .have:=tT k f (no+1) (ps.drop 4) x a;omega
  grind
def xz(k:Int):∀(f:Nat) (no:Int)(ps:List Bs),(eQ k f no ps).Pairwise λa b=>a.1<b.1
 |0,_,_=>by simp[eQ]
 |f+1,no,ps=>by
  simp only[eQ];split
  .refine ji.2 ⟨λx c=>?_,xz k f (no+1) (ps.drop 4)⟩;have:=tT k f (no+1) (ps.drop 4) x c;show no<x.1;omega
  .simp
def D7.LG{s:bo}(h:D7 s):∀x∈s.1,x.1<R1.cv s:=by
 unfold R1.cv;split
 .grind
 .rename_i e;intro x d;obtain⟨i,hi,rfl⟩:=dL d;have a:s.1.getD (s.1.length-1) (0,[])=s.1[s.1.length-1]:=by grind
  rw[a];rcases cG i (s.1.length-1)with b|c
  .have:=j5.1 h.Wa i (s.1.length-1) hi (by omega) b;omega
  grind
def D7.LH{s:bo}(h:D7 s):1<=de s/\∀x∈s.2.1,x.1<de s:=by
 have e:=ma s.2.2 h.num.h;unfold de;split
 .grind
 .rename_i f;refine⟨by omega,λx d=>?_⟩;obtain⟨i,hi,rfl⟩:=dL d;have a:s.2.1.getD (s.2.1.length-1) (0,[])=s.2.1[s.2.1.length-1]:=by grind
  rw[a];rcases cG i (s.2.1.length-1)with b|c
  .have:=j5.1 h.CJ i (s.2.1.length-1) hi (by omega) b;omega
  grind
def D7.save{s:bo}{t:List bz}{by_:Int}(h:D7 s)(j:cz t=ab)(d:1<=by_/\by_<=2)(m:eU 7 s t=ae):D7 (eO 7 s by_ t):=by
 simp only[eU,rI,bM]at m;obtain⟨q,o,n,r⟩:=m;have u:=h.cv;obtain⟨f,i⟩:=h.LH;refine⟨λx c=>?_,by simp only[eO,cA];omega,λx c=>?_,?_,λx c=>?_,by simp only[eO,cA,jg];omega,?_⟩
 .simp only[eO]at c;rcases gb.1 c with c|c
  .exact h.p x c
  .obtain⟨e,qs,a1,a2,a3,a4,a5,a6⟩:=tR 7 _ _ _ (iE (k:=7) (l:=indexOf s.1) (eg j)).1 x c;have a2:e<R1.cv s+(nI 7 s t).length:=a2;exact⟨e,qs,by omega,by omega,a3,a4,a5,a6⟩
 .simp only[eO]at c;rcases gb.1 c with c|c
  .exact h.s x c
  .rw[ga]at c;exact⟨de s,t,f,by omega,j,c⟩
 .simp only[eO];rw[u4];refine⟨h.CJ,by simp,λa g b d=>?_⟩;rw[ga]at d;subst d;exact i a g
 .simp only[eO]at c;rcases gb.1 c with c|c
  .exact h.h x c
  grind
 .simp only[eO];rw[u4];refine⟨h.Wa,xz _ _ _ _,λa g b d=>?_⟩;have h1:=h.LG a g;have h2:=tT _ _ _ _ b d;omega
end Go.AM.R1
namespace Go.AM
section
variable {P:aq}{X:Cx P}{N:Nat}{all:List ar}{φ:Fr}{x:Nat->D}{k:Bool->Bool->Bool->List aP}{i g f b:Nat}{o:ar}
abbrev um(k:Bool->Bool->Bool->List aP)(g f b:Nat):(Nat->Bool)->List aP:=λD=>k (D g) (D f) (D b)
def lJ{i j:Nat}{D:Nat->Bool}(h:aA j i=ae):ef i D j=D j:=by simp only[ef,h]
def zT{i:Nat}{D:Nat->Bool}:ef i D i=ab:=by simp only[ef,iR]
def dT.q3(h1:aA g i=ae)(h2:aA f i=ae)(e:aA b i=ae)(h:∀a c d,OA X N all o (jX all φ x i) (k a c d) (x i) (k a c d)):dT X N all φ x (um k g f b) i o:=by intro D _ _;show OA X N all o _ (k (D g) (D f) (D b)) _ (k (ef i D g) (ef i D f) (ef i D b));rw[lJ h1,lJ h2,lJ e];exact h _ _ _
def dT.Z2{T:List (Nat×TI)}{CT:List (Nat×dv)}{obs:List Prop}(hT:cT P T)(hC:bF X CT)(e:ay obs)(h:∀a c d,we T CT [] all (jX all φ x i) (k a c d) o=aa (x i,af,obs):=by intro a c d;cases a<;>cases c<;>cases d<;>rfl)(h1:aA g i=ae:=by rfl)(h2:aA f i=ae:=by rfl)(j:aA b i=ae:=by rfl):dT X N all φ x (um k g f b) i o:=.q3 h1 h2 j λa c d=>OA.eval hT hC (h a c d) e
def dT.IQ{T:List (Nat×TI)}{CT:List (Nat×dv)}(hT:cT P T)(hC:bF X CT)(h:∀a c d,we T CT [] all (jX all φ x i) (k a c d) o=aa (x i,af,[]):=by intro a c d;cases a<;>cases c<;>cases d<;>rfl)(h1:aA g i=ae:=by rfl)(h2:aA f i=ae:=by rfl)(e:aA b i=ae:=by rfl):dT X N all φ x (um k g f b) i o:=.Z2 (obs:=[]) hT hC aw h h1 h2 e
def dT.e1(hi:aA g i=ab)(h1:aA g i=ab)(h2:aA f i=ae)(a:aA b i=ae)(h:∀c d,OA X N all o (jX all φ x i) (k ae c d) (x i) (k ab c d)):dT X N all φ x (um k g f b) i o:=by intro D _ j;have e:=bR hi;subst e;show OA X N all o _ (k (D g) (D f) (D b)) _ (k (ef g D g) (ef g D f) (ef g D b));rw[zT,lJ h2,lJ a,j g (.inl rfl)];exact h _ _
def dT.e2(hi:aA f i=ab)(h1:aA g i=ae)(d:aA b i=ae)(l:fS all b i=ab)(j:aA f i=ab)(h:∀a,OA X N all o (jX all φ x i) (k a ae ae) (x i) (k a ab ae)):dT X N all φ x (um k g f b) i o:=by intro D _ c;have e:=bR hi;subst e;show OA X N all o _ (k (D g) (D f) (D b)) _ (k (ef f D g) (ef f D f) (ef f D b));rw[zT,lJ h1,lJ d,c f (.inl rfl),c b (.inr l)];exact h _
def dT.e3(hi:aA b i=ab)(h1:aA g i=ae)(h2:aA f i=ae)(d:fS all i f=ab)(c:aA b i=ab)(h:∀a,OA X N all o (jX all φ x i) (k a ab ae) (x i) (k a ab ab)):dT X N all φ x (um k g f b) i o:=by intro D hT hF;have e:=bR hi;subst e;show OA X N all o _ (k (D g) (D f) (D b)) _ (k (ef b D g) (ef b D f) (ef b D b));rw[zT,lJ h1,lJ h2,hF b (.inl rfl),hT f d];exact h _
end
end Go.AM
namespace Go.AM
namespace R1
open Go.Proofs
variable {X:Cx ag}[X.gZ]
abbrev jq:aP:=.cells 27 [gm,gm,gm]
abbrev f92(t:List bz)(n:Nat):Fr:=[(0,.e (.one (.ptr 0 0))),(2,.e (.one (.ptr 1 0))),(3,.e (.one (.ptr 2 0))),(4,cF.sl t),(5,dI n)]
end R1
end Go.AM
namespace Go.AM.R1
section
open Go.Proofs
variable {X:Cx ag}[X.gZ]
abbrev yh:aP:=.cf (fV 67 2 (.nil af) 0 [])
abbrev MM(v:ah)(s:bo):aP:=.cells 27 [.c (.val v),.c (EL s.2.1),.c (Co s.2.2)]
abbrev TD(v:ah)(s:bo):D:=.e (.agg [.c (.val v),.c (EL s.2.1),.c (Co s.2.2)])
abbrev MN:aP:=.cells 27 [.any,.any,.any]
abbrev Bb(v:ah)(s:bo):aP:=.cf (PM (TC v s.1))
def d9P(m:Nat)(b:Nat->Int)(k:Int)(s s':bo)(e:Option ah)(a c d:Bool):List aP :=
 match e with
 |none=>match a,c with
  |false,ae=>[k6 m b k,jq,xR s,yh]
  |true,ae=>[k6 m b (k+1),jq,xR s,yh]
  |false,ab=>[k6 m b k,jq,xR s,yh,jq]
  |true,ab=>[k6 m b (k+1),jq,xR s,yh,jq]
 |some v=>match a,c,d with
  |true,ae,_=>[k6 m b (k+1),jq,xR s,Bb v s']
  |true,ab,ae=>[k6 m b (k+1),jq,xR s,Bb v s',jq]
  |true,ab,ab=>[k6 m b (k+1),jq,xR s,Bb v s',MM v s']
  |false,ae,_=>[k6 m b k,jq,xR s,Bb v s']
  |false,ab,_=>[k6 m b k,jq,xR s,Bb v s',jq]
def x9P(u:Int)(s s':bo)(t:List bz)(a:Option ah)(i:Nat):D :=
 [qN s,.e (.one (.ptr 0 0)),dI u,dI (1+u),cF.sl t,
  (match a with|none=>.any|some v=>.fa [.agg [.c (.val v),.c (EL s'.2.1),.c (Co s'.2.2)],.one (.c (.bool ab))]),
  (match a with|none=>.any|some v=>.fa [.agg [.c (.val v),.c (EL s'.2.1),.c (Co s'.2.2)],.one (.c (.bool ab))]),
  (match a with|none=>.any|some v=>TD v s'),dB ab,.e (.one (.ptr 4 0)),.any,dB ab].getD i .any
def d9F(m:Nat)(b:Nat->Int)(k:Int)(v:ah)(s:bo)(a c d:Bool):List aP :=
 match a,c,d with
 |false,ae,_=>[k6 m b k,jq,MM v s,Bb v s]
 |true,ae,_=>[k6 m b (k+1),jq,MM v s,Bb v s]
 |false,ab,ae=>[k6 m b k,jq,MM v s,Bb v s,jq]
 |true,ab,ae=>[k6 m b (k+1),jq,MM v s,Bb v s,jq]
 |false,ab,ab=>[k6 m b k,jq,MM v s,Bb v s,MN]
 |true,ab,ab=>[k6 m b (k+1),jq,MM v s,Bb v s,MN]
abbrev MO:D:=.fa [.agg [.any,.any,.any],.one (.c (.bool ae))]
def x9F(u:Int)(v:ah)(s:bo)(t:List bz)(i:Nat):D:=[TD v s,.e (.one (.ptr 0 0)),dI u,dI (1+u),cF.sl t,MO,MO,.e (.agg [.any,.any,.any]),dB ae,.e (.one (.ptr 4 0)),.any,dB ae].getD i .any
abbrev StJ(k:Nat):={q:bo×ah×Nat // D7 q.1/\k<=q.2.2/\q.2.2<=k+1000}
def D7.ne{s:bo}(h:D7 s):∀p∈s.1,0<p.2.length:=λp a=>(h.p p a).len.1
def WJ:∀j,j<1->([0,3]:List Nat)[j]?=aa j:=λj a=>by grind
omit [X.gZ]in
def Fw(s:bo)(by_:Int)(t:List bz)(g:D7 s)(o:qP t)(l:eU 7 s t=ab):dZ (ι:=Unit) X 24 [dI 7,qN s,dI by_,cF.sl t] [] (λ_=>MO) (λ_=>[]):=by have h:=yN (X:=X) 7 s by_ t (by decide) g.size g.num o g.c6;rw[l]at h;exact h.sW.le (λ_=>rfl) (λ_=>by simp)
set_option maxRecDepth 20000 in
def Di(m:Nat)(b:Nat->Int)(C:Bytes b)(k:Nat)(hk:k<=40000)(I:m<=1048576):
  dZ (ι:=StJ k) X 58 [.e (.one (.ptr 0 0))] [k6 m b k] (λq=>TD q.1.2.1 q.1.1) (λq=>[k6 m b q.1.2.2,Bb q.1.2.1 q.1.1]):=by
 refine dZ.qJ tok Tryz.func58 rfl rfl rfl λhf=>?_;refine aW [(1000002,ab)] rfl aw ?_;refine AK.spare 67 2 ?_;refine AK.U5 3 2 0 2 (cP.fn []) (by decide) rfl rfl rfl λv0=>?_;refine bu rfl aw ?_;refine AK.cP (OL m b C k (by omega) I) [0] rfl (λ_=>rfl) ?_;rintro⟨⟨t0,k1⟩,L,Y,O⟩;simp only at L Y O;refine bu rfl aw ?_;refine AK.cP (gy m b C k1 5 (by omega) I (by omega)) [0] rfl (λ_=>rfl) ?_;rintro⟨u,u0,u1⟩;refine bu rfl aw ?_;refine AK.cC 4 (λq:bo×ah×List bz×Nat×Nat=>D7 q.1/\cz q.2.2.1=ab/\q.2.2.2.1<=4/\k<=q.2.2.2.2/\q.2.2.2.2+100*q.2.2.2.1<=k+900) (λq=>f92 q.2.2.1 q.2.2.2.1) (λq=>[k6 m b q.2.2.2.2,jq,MM q.2.1 q.1,Bb q.2.1 q.1]) (λq=>q.2.2.2.1) (([],[],[]),v0,t0,u.toNat,k1+1) rfl ?_ rfl ?_ rfl ⟨D7.nil,L,by grind,by grind,by grind⟩ ?_
 .simp only[ay.cat,ay,aF,aD];and_intros<;>first|exactλ_ _=>rfl|omega
 .simp;rfl
 rintro⟨s,v,t,n,y⟩ ⟨g,o,W,P,J⟩;simp only at g o W P J;by_cases hn:0<n
 .have hv:=uA m b y 2 (by omega);have B:ay [(y:Int)=(y:Int).toNat,ET b=ET (S5 (ET b)),Bytes (S5 (ET b)),(y:Int)<=4000000,m<=1048576,(1:Int)<=2,(2:Int)<=4000000]:=⟨rfl,rfl,C,by omega,I,by omega,(by decide:(2:Int)<=4000000)⟩
  have F:ay [bA .i64 (1+mf m b y 2)]:=by simp only[ay,bA];omega
  have r:bF X [(21,Zn)]:=.cons t21 .nil;refine bL [(19,ab),(1000006,ab)] rfl (by simp only[ay,aZ];omega) ?_;apply AK.U6 (ι:={q:bo×ah // D7 q.1}) (λ_=>f92 t n) (λq=>[k6 m b (y+1:Nat),jq,MM q.1.2 q.1.1,Bb q.1.2 q.1.1,MN])
  .intro out;cases l:eU 7 s t with
   |true =>
    have G:=Fw (X:=X) s (1+mf m b y 2) t g (eg o) l;refine AK.flags iZ (x9F (mf m b y 2) v s t) (um (d9F m b y v s) 2 9 10) rfl rfl rfl rfl
     ⟨.IQ tok r,
     .IQ tok r,
     dT.e1 rfl rfl rfl rfl (λc d=>by cases c<;>cases d<;>exact gD (ds:=[]) tok r (σ':=aa _) rfl B),
     .Z2 tok r F,
     .IQ tok r,
     dT.q3 rfl rfl rfl (λa c d=>by cases a<;>cases c<;>cases d<;>exactλs a f hh b kk cs S i rest C hi hK=>mz.qp G rfl rfl rfl (jG.agg 1 0 3 rfl rfl (PM.Bq rfl λ_ h=>h)) rfl (by simp) rfl (λ_=>rfl) (λ_=>rfl) s a f hh b kk cs S i rest C hi λ_=>hK),
     .IQ tok r,
     .IQ tok r,
     .IQ tok r,
     dT.e2 rfl rfl rfl rfl rfl (λa=>by cases a<;>exact gD (ds:=[]) tok r (σ':=aa _) rfl aw),
     dT.e3 rfl rfl rfl rfl rfl (λa=>by cases a<;>exact gD (ds:=[]) tok r (σ':=aa _) rfl aw),
     .IQ tok r,aw⟩ ?_
    intro D z;show AK X _ _ _ _ _ (d9F m b y v s (D 2) (D 9) (D 10));rw[z 2 (by decide),z 9 (by decide),z 10 (by decide)];refine bL [(1000009,ab)] rfl aw ?_;exact out ⟨(s,v),g⟩ _ _ rfl (by simp)
   |false =>
    have M:=g.save (by_:=1+mf m b y 2) o (by omega) l;have G:=Fv (X:=X) 7 s (1+mf m b y 2) t (by decide) g.size g.num (eg o) g.c6 g.ne l;generalize eO 7 s (1+mf m b y 2) t=s' at *;refine AK.tD 3 2 0 (E:=67) (k:=2) (cl:=HT s.1) (by decide) rfl rfl rfl (λ_ h=>h) ?_;refine AK.Rz iZ (x9P (mf m b y 2) s s' t) (SO (d9P m b y s s') 2 9 10) (wA ah 5) af rfl rfl rfl rfl rfl
     ⟨.qe tok r,
     .qe tok r,
     ib.pre rfl rfl rfl rfl rfl (λc=>by cases c<;>exact gD (ds:=[]) tok r (σ':=aa _) rfl B),
     .qo tok r F,
     .qe tok r,
     ib.Yy rfl rfl rfl rfl rfl (λj q=>by
      match q with
      |0=>exact .inr (.inr rfl)
      |1=>exact .inr (.inr rfl)
      |2=>exact .inr (.inr rfl)
      |3=>exact .inr (.inr rfl)
      |4=>exact .inr (.inr rfl)
      |5=>grind
      |6=>exact .inr (.inl rfl)
      |7=>exact .inr (.inl rfl)
      |8=>exact .inr (.inr rfl)
      |9=>exact .inr (.inr rfl)
      |10=>exact .inr (.inr rfl)
      |11=>exact .inr (.inr rfl)
      |q+12=>exact .inr (.inr rfl)) (λc=>by cases c<;>exact mz.jI G [3] rfl rfl rfl rfl (by simp) rfl rfl rfl (λ_=>rfl) rfl (λ_=>rfl)),
     .qs tok r,
     .qs tok r,
     .qs tok r,
     ib.X1 rfl rfl rfl rfl (λR a=>by cases R<;>cases a<;>exact gD (ds:=[]) tok r (σ':=aa _) rfl aw),
     ib.last rfl rfl rfl rfl rfl rfl (λv'=>gD (ds:=[]) tok r (σ':=aa _) rfl aw),
     .qs tok r,aw⟩ ?_
    intro R D V z;have V:R.isSome=ab:=V.trans (z 5 (by decide));rcases R with _|v'
    .cases V
    show AK X _ _ _ _ _ (d9P m b y s s' (aa v') (D 2) (D 9) (D 10));rw[z 2 (by decide),z 9 (by decide),z 10 (by decide)];refine bL [(1000009,ab)] rfl aw ?_;refine AK.BU (φ':=f92 t n) (σ':=[k6 m b (y+1:Nat),jq,MM v' s',Bb v' s',MN]) ?_ rfl ?_ rfl ?_
    .exact out ⟨(s',v'),M⟩ _ _ rfl (by simp)
    .simp
    .simp
  rintro⟨⟨s',v'⟩,M⟩;refine di rfl aw ?_;refine AK.cP (vB m b C (y+1) (by omega) I) [0] rfl (λ_=>rfl) ?_;rintro⟨p,hp⟩;refine di rfl aw ?_;refine AK.cP (GP m b C (y+1+1+1) (by omega) I) [0] rfl (λ_=>rfl) ?_;rintro⟨⟨x,K⟩,hx,T,Q⟩;simp only at hx T Q;refine di rfl aw ?_;refine AK.cQ (xC t p x) [] rfl ?_;have Z:=E5 (t:=t) (p:=p) (x:=x);obtain⟨H,A⟩:∃H,H=if(ei t p x).2=ab then(ei t p x).1 else t:=⟨_,rfl⟩
  have U:cz H=ab:=by grind
  apply AK.join (f92 H n) [k6 m b K,jq,MM v' s',Bb v' s',MN]
  .intro out;cases N:(ei t p x).2 with
   |true =>
    rw[N,bl rfl]at A;rw[<-A];refine bL [(1000012,ab)] rfl aw ?_;exact out _ _ rfl (by simp)
   |false =>
    rw[N,aY (by simp)]at A;rw[A]at out;refine bL [(1000012,ab)] rfl aw ?_;exact out _ _ rfl (by simp)
  clear A;refine di rfl aw ?_;refine AK.cP (gy m b C K 3 (by omega) I (by omega)) [0] rfl (λ_=>rfl) ?_;rintro⟨w,w0,w1⟩;by_cases hw:w=0
  .refine bL [(46,ab)] rfl (by simp[hw]) ?_;refine AK.cP (vB m b C (K+1) (by omega) I) [0] rfl (λ_=>rfl) ?_;rintro⟨p2,hp2⟩;have UU:=me U;refine di rfl aw ?_;refine AK.cQ (GQ H p2 (by omega)) [] rfl ?_;refine di rfl ?_ (AK.aQ (s',v',md H p2,n-1,K+1+1+1) rfl ?_ ?_ ?_ ?_)
   .simp only[ay,bA];omega
   .simp only[ay.cat,ay,aF,aD];and_intros<;>first|exactλ_ _=>rfl|omega
   .simp
   .grind [LD]
   grind
  .refine bL [(46,ae)] rfl (by simp[hw,bA];omega) (AK.aQ (s',v',H,n-1,K+1) rfl ?_ ?_ ?_ ?_)
   .simp only[ay.cat,ay,aF,aD];and_intros<;>first|exactλ_ _=>rfl|omega
   .simp
   .grind
   grind
 .refine bL [(19,ae)] rfl (by simp only[ay,bM];omega) (AK.leaveD rfl rfl ?_);refine di rfl aw ?_;refine AK.l4 ⟨(s,v,y),g,P,by grind⟩ [0,3] rfl rfl rfl rfl rfl rfl rfl rfl ?_ rfl rfl rfl rfl WJ;simp
end
end Go.AM.R1
namespace Go.AM
def Fits.QG{args:List D}{σ:List aP}(h:Fits args σ)(k:Nat){cs:List A}(hk:args[k]?=aa (.e (.agg cs)))(j:Nat){t:Bool}{q n:Nat}{es:Nat->List C}(hj:cs[j]?=aa (A.c (.sl t q n es))):n<=9223372036854775807:=by obtain⟨s,v,b⟩:=h.at hk;obtain⟨vs,_,h2⟩:=b;obtain⟨u,_,a⟩:=dW.get h2 hj;cases a<;>omega
namespace R1
def iH{n i:Nat}{p:Nat->Bool}(hi:i<n)(h:p i=ae):(bd n).all p=ae:=by grind
def jU{i:Nat}{p:Nat->Bool}(a:∀j,j<i->p j=ab)(h:p i=ab):∀j,j<i+1->p j=ab:=λj b=>by grind
end R1
end Go.AM
namespace Go.AM.R1
section
open Go.Proofs
variable {X:Cx ag}
def H7(p:Bs):Ev X 206 [dS p] [] (dB (bt p)) []:=by
 refine Ev.bQ Tryz.func206 rfl λb=>?_;have a:bF X [(23,Cp),(89,Xk)]:=.cons EM (.cons t89 .nil);by_cases h:1<=p.length/\p.length<=8
 .refine aV a [(6,ab)] rfl ?_ (AK.bx rfl ?_)
  .simp;omega
  .simp[bt,h.1,h.2]
 .refine aV a [(6,ae)] rfl ?_ (AK.bx rfl ?_)
  .simp;omega
  .have:bt p=ae:=by simp only[bt,<-Bool.decide_and,iP h,rN]
   simp[this]
abbrev GF:dv:=kq aS (λp=>dB (bt p)) λ_=>[]
def OR:eb X 206 GF:=.pD λp _=>H7 p
def H8(p:Bs):Ev X 162 [dS p] [] (dS (eT p)) []:=by
 refine Ev.bQ Tryz.func162 rfl λb=>?_;have a:bF X [(206,GF),(118,Cu)]:=.cons OR (.cons GA .nil);cases h:bt p with
 |true=>exact aV a [(5,ae)] rfl (by simp[h]) (AK.bx rfl)
 |false=>exact aV a [(5,ab)] rfl (by simp[h]) (AK.bx rfl (by simp[eT,h]))
abbrev GG:dv:=kq aS (λp=>dS (eT p)) λ_=>[]
def OS:eb X 162 GG:=.pD λp _=>H8 p
def H9(p:Bs):(eT p).length<=8:=by
 unfold eT;split
 .rename_i h;simp only[bt,bS,aZ]at h;grind[xm]
 .simp
def CC(b:Bs):Ev X 134 [dS b] [] (Am (eX b)) []:=by
 refine Ev.bQ Tryz.func134 rfl λr=>?_;have q:=r.str 0 rfl;have k:bF X [(162,GG)]:=.cons OS .nil;refine bu rfl aw ?_;have fin:∀n,n<=b.length->strip (b.take n)=strip b->(n=0∨strip (b.take n)=b.take n)->b.take n=strip b:=λn a h g=>by
  rcases g with rfl|g
  .simpa[strip]using h
  grind
 have rest:∀n,n<=b.length->b.take n=strip b->eX b=if b.length<=8/\eT (strip b)=b/\n≠0 then aa (b.take n)else af:=λn a h=>by
  have t:=H9 (strip b);have o:n=0↔strip b=[]:=by grind[List.take_eq_nil_iff]
  unfold eX;rw[h];by_cases d:eT (strip b)=b
  .by_cases l:bt (strip b)=ab
   .have:n≠0:=λp=>by rw[o.1 p]at l;cases l
    grind
   .have p:n=0:=o.2 (by rw[eT,aY l]at d;grind);grind
  grind
 refine AK.j1 (S2:=Nat) 0 rfl rfl (λn=>n<=b.length/\b.take n=strip b) (λn=>[(0,dS b),(4,dI n)]) (λ_=>[]) 0 (λn=>n<=b.length/\strip (b.take n)=strip b) (λn:Nat=>[(0,dS b),(4,dI n)]) (λ_=>[]) (λn=>n) b.length rfl (by simp) rfl aw rfl ⟨by omega,by simp⟩ ?_ ?_
 .rintro out n ⟨a,c⟩;rcases n with _|n
  .refine aW [(9,ae),(15,ae)] rfl (by simp) (AK.leaveD rfl rfl ?_);exact out 0 ⟨a,fin 0 a c (.inl rfl)⟩ rfl (by simp) rfl aw
  have o:=w6 (s:=b) (n:=n) (by omega);have f:((n:Int)+1-1).toNat=n:=by omega
  by_cases g:b.getD n 0=46
  .refine aW [(9,ab),(15,ab)] rfl ?_ (AK.aQ n rfl ?_ aw ⟨by omega,?_⟩ (by omega))
   .have d:cN b n=46:=by unfold cN;rw[g];rfl
    simp[-an,cR,f,d,bA];omega
   .simp
   grind
  .refine aW [(9,ab),(15,ae)] rfl ?_ (AK.leaveD rfl rfl ?_)
   .have d:cN b n≠46:=by unfold cN;intro e;exact g (od.1 (by grind))
    simp[-an,cR,f,d,bA];omega
   .exact out (n+1) ⟨a,fin _ a c (.inr (by grind))⟩ rfl (by simp) rfl aw
 rintro n ⟨a,m⟩;have i:=rest n a m;have j:r9 b af (aa (n:Int))=strip b:=m▸rfl;have hi:((b.length:Int)<=8)↔b.length<=8:=by omega
 by_cases c1:b.length<=8
 .by_cases c2:eT (strip b)=b
  .by_cases c3:n=0
   .refine aV k [(21,ae),(29,ae),(32,ab)] rfl ?_ (AK.bx rfl ?_)
    .subst c3;simp only[ay,j,c2];grind
    .simp[i,c3]
   .refine aV k [(21,ae),(29,ae),(32,ae)] rfl ?_ (AK.bx rfl ?_)
    .simp[j,hi,c1,c2,c3,a]
    .simp[i,j,m,c1,c2,c3]
  .refine aV k [(21,ae),(29,ab),(32,ab)] rfl ?_ (AK.bx rfl ?_)
   .simp[j,hi,c1,c2,a]
   .simp[i,c2]
 .refine aV k [(21,ab),(29,ab),(32,ab)] rfl ?_ (AK.bx rfl ?_)
  .simp;omega
  .simp[i,c1]
abbrev tP:dv:=kq aS (λb=>Am (eX b)) λ_=>[]
def yY:eb X 134 tP:=.pD λb _=>CC b
def Ia(k:Int)(x:bm)(hk:b6 k=ab):Ev X 85 [dI k,YM x] [] (dB (right k x)) []:=by
 refine Ev.bQ Tryz.func85 rfl λc=>?_;have b:bF X [(134,tP),(113,tO)]:=.cons yY (.cons tJ .nil);cases a:eX x.2 with
 |none=>exact aV b [(14,ae)] rfl (by simp[a]) (AK.bx rfl (by simp[right,a]))
 |some p=>exact aV b [(14,ab)] rfl (by simp[a,hk,w9 a]) (AK.bx rfl (by simp[right,a]))
abbrev AF:dv:=oX aI TU (λk x=>dB (right k x)) λk _=>[b6 k=ab]
def GH:eb X 85 AF:=.sC λk x h=>Ia k x h
def OT(k:Int):Ev X 35 [dI k] [] (dB (b6 k)) []:=by refine Ev.bQ Tryz.func35 rfl λb=>?_;have a:bF X [(23,Cp)]:=.cons EM .nil;exact cg a rfl aw (AK.bx rfl (by simp[b6]))
abbrev CE:dv:=kq aI (λk=>dB (b6 k)) λ_=>[]
def GI:eb X 35 CE:=.pD λk _=>OT k
abbrev SR(p:bH):aP:=.cells 67 [.c (.int .i64 p.1),.c (sP p)]
def CF(k:Int)(p:bH)(n:Int):Ev X 163 [dI k,HG p,dI n] [] (Am (eh k p n)) []:=by
 refine Ev.bQ Tryz.func163 rfl λm=>?_;have b:bF X [(35,CE),(85,AF),(134,tP)]:=.cons GI (.cons GH (.cons yY .nil));cases hk:b6 k with
 |false =>
  refine aV b [(11,ab)] rfl (by simp[hk]) (AK.bx rfl ?_);have:eh k p n=af:=by unfold eh chunk;grind
  simp[this]
 |true =>
 have l:=m.QG 1 rfl 1 rfl;refine aV b [(11,ae)] rfl (by simp[hk]) ?_;refine AK.cC 1 (λi=>i<=p.2.length/\p.2.find? (λx=>x.1==n)=(p.2.drop i).find? (λx=>x.1==n)) (λi:Nat=>[(0,dI k),(4,.e (.one (.ptr 0 0))),(2,dI n),(8,dI i)]) (λ_=>[SR p]) (λi=>p.2.length-i) 0 rfl (by simp) rfl (by simp) rfl ⟨by omega,rfl⟩ ?_;rintro i ⟨hi,c⟩;by_cases h:i<p.2.length
 .have g:p.2.getD i dM.b7=gX p i:=rfl;have j:p.2.drop i=gX p i::p.2.drop (i+1):=by grind[List.drop_eq_getElem_cons]
  rw[j,List.find?_cons]at c;by_cases d:(gX p i).1=n
  .rw[show((gX p i).1==n)=ab by grind]at c;cases f:right k (gX p i)with
   |false =>
    have a:right k (n,(gX p i).2)=ae:=d▸f;refine aV b [(16,ab),(26,ab),(34,ab)] rfl ?_ (AK.fJ (cw.zero rfl ?_))
    .simp[-an,g,d,a,hk,h]
    .have e:eh k p n=af:=by have:=rv (k:=k) (x:=gX p i) hk;rw[f]at this;simp only[eh,c];simpa using this
     simp[e]
   |true =>
    have a:right k (n,(gX p i).2)=ab:=d▸f;refine aV b [(16,ab),(26,ab),(34,ae)] rfl ?_ (AK.fJ (cw.zero rfl ?_))
    .simp[-an,g,d,a,hk,h]
    .have e:eh k p n=eX (gX p i).2:=by simp only[eh,c,chunk];unfold right at f;grind
     simp[-an,e,g]
  .rw[show((gX p i).1==n)=ae by grind]at c;refine aV b [(16,ab),(26,ae)] rfl ?_ (AK.aQ (i+1) rfl (by simp) (by simp) ⟨h,c⟩ (by omega));simp[-an,g,d,bA,h];omega
 .obtain rfl:i=p.2.length:=by omega
  refine aV b [(16,ae)] rfl (by simp) (AK.leaveD rfl rfl ?_);refine cg b rfl aw (AK.bx rfl ?_);simp[eh,c]
abbrev GJ:dv:=Et aI (Ey dM) aI (λk p n=>Am (eh k p n)) λ_ _ _=>[]
def OU:eb X 163 GJ:=.KA λk p n _=>CF k p n
theorem pI(k:Int)(p:bH):gk k p=(decide (1<=p.1/\p.1<=99)&&b6 k&&decide (1<=p.2.length/\p.2.length<=4)&&(bd p.2.length).all (iL k p)):=by grind[tH]
def Ib{k:Int}{p:bH}{i:Nat}(a:i≠0):iL k p i=(right k (gX p i)&&decide ((gX p (i-1)).1<(gX p i).1)):=by unfold iL;grind
def EU(k:Int)(p:bH):Ev X 32 [dI k,HG p] [] (dB (gk k p)) []:=by
 refine Ev.bQ Tryz.func32 rfl λn=>?_;have b:bF X [(23,Cp),(35,CE),(85,AF)]:=.cons EM (.cons GI (.cons GH .nil));have g:=n.QG 1 rfl 1 rfl;rw[pI];by_cases c1:1<=p.1/\p.1<=99
 rotate_left
 .exact aV b [(10,ab),(14,ab),(21,ab)] rfl (by simp;omega) (AK.bx rfl (by simp[iP c1]))
 cases hk:b6 k
 .exact aV b [(10,ae),(14,ab),(21,ab)] rfl (by simp[hk,c1]) (AK.bx rfl)
 by_cases c3:1<=p.2.length/\p.2.length<=4
 rotate_left
 .exact aV b [(10,ae),(14,ae),(21,ab)] rfl (by simp[hk,c1];omega) (AK.bx rfl (by simp[iP c3]))
 refine aV b [(10,ae),(14,ae),(21,ae)] rfl (by simp[hk,c1];omega) ?_;rw[dc c1,dc c3,fH,fH,fH];refine AK.cC 1 (λi=>i<=p.2.length/\∀j,j<i->iL k p j=ab) (λi:Nat=>[(0,dI k),(3,.e (.one (.ptr 0 0))),(5,dI i)]) (λ_=>[SR p]) (λi=>p.2.length-i) 0 rfl (by simp) rfl (by simp) rfl ⟨by omega,by omega⟩ ?_;rintro i ⟨hi,a⟩;by_cases h:i<p.2.length
 .have f:p.2.getD i dM.b7=gX p i:=rfl;cases c:right k (gX p i)with
  |false =>
   refine aV b [(26,ab),(37,ab),(56,ab)] rfl ?_ (AK.fJ (cw.zero rfl ?_))
   .simp[-an,f,c,hk,h]
   .rw[iH h (by simp only[iL,c,rN])];simp
  |true =>
   by_cases l:i=0
   .subst l;refine aV b [(26,ab),(37,ae),(40,ae),(56,ae)] rfl ?_ (AK.aQ 1 rfl (by simp) (by simp) ⟨h,jU a (by simp only[iL,c,fH];rfl)⟩ (by omega));simp[-an,f,c,hk,h,bA]
   have d:p.2.getD (i-1) dM.b7=gX p (i-1):=rfl;have o:=Ib (k:=k) (p:=p) l;by_cases m:(gX p (i-1)).1<(gX p i).1
   .refine aV b [(26,ab),(37,ae),(40,ab),(54,ae),(56,ae)] rfl ?_ (AK.aQ (i+1) rfl (by simp) (by simp) ⟨h,jU a (by grind)⟩ (by omega));simp[-an,f,d,c,hk,h,m,bA];omega
   .refine aV b [(26,ab),(37,ae),(40,ab),(54,ab),(56,ab)] rfl ?_ (AK.fJ (cw.zero rfl ?_))
    .simp[-an,f,d,c,hk,h,bA];omega
    .rw[iH h (by grind)];simp
 .obtain rfl:i=p.2.length:=by omega
  refine aV b [(26,ae)] rfl (by simp) (AK.leaveD rfl rfl ?_);exact cg b rfl aw (AK.bx rfl (by simp[dz.2 a]))
abbrev CG:dv:=oX aI (Ey dM) (λk p=>dB (gk k p)) λ_ _=>[]
def Ls:eb X 32 CG:=.sC λk p _=>EU k p
def lQ{α:Type}{l:List α}{i:Nat}{d:α}(h:i<l.length):l.getD i d∈l:=by grind
def OV{l:List Int}{n:Int}:l.contains n=!(bd l.length).all λi=>!(l.getD i 0==n):=by rw[pZ,j7,<-oc,dz,List.contains_iff_mem];grind[List.mem_iff_getElem]
def OW(l:List Int)(n:Int):Ev X 33 [cI.sl l,dI n] [] (dB (l.contains n)) []:=by
 refine Ev.bQ Tryz.func33 rfl λe=>?_;have c:=e.sl 0 rfl;refine bu rfl aw ?_;rw[OV];refine AK.j0 (λi=>i<=l.length/\∀j,j<i->(!(l.getD j 0==n))=ab) (λi:Nat=>[(0,cI.sl l),(1,dI n),(5,dI i)]) (λ_=>[]) (λi=>l.length-i) 0 rfl (by simp) rfl aw ⟨by omega,by omega⟩ ?_;rintro i ⟨hi,a⟩;by_cases h:i<l.length
 .have b:l.getD i cI.b7=l.getD i 0:=rfl;by_cases d:l.getD i 0=n
  .refine aW [(9,ab),(17,ab)] rfl ?_ (AK.iC (cw.zero rfl ?_))
   .simp[-an,b,d,h]
   .rw[iH h (by grind)];simp
  .refine aW [(9,ab),(17,ae)] rfl ?_ (AK.gj (i+1) rfl (by simp) rfl aw ⟨h,jU a (by grind)⟩ (by omega));simp[-an,b,d,h,bA];omega
 .obtain rfl:i=l.length:=by omega
  refine aW [(9,ae)] rfl (by simp) (AK.leave rfl rfl ?_);exact bu rfl aw (AK.bx rfl (by rw[dz.2 a];simp))
abbrev QH:dv:=oX (aL cI) aI (λl n=>dB (l.contains n)) λ_ _=>[]
def V7:eb X 33 QH:=.sC λl n _=>OW l n
def EV(k:Int)(ps:List bH)(n:Int):Ev X 135 [dI k,cP.sl ps,dI n] [] (Am (dK k ps n)) []:=by
 refine Ev.bQ Tryz.func135 rfl λg=>?_;have f:=g.sl 1 rfl;have d:bF X [(163,GJ)]:=.cons OU .nil;refine cg d rfl aw ?_;refine AK.j0 (λi=>i<=ps.length/\dK k ps n=dK k (ps.drop i) n) (λi:Nat=>[(0,dI k),(1,cP.sl ps),(2,dI n),(8,dI i)]) (λ_=>[]) (λi=>ps.length-i) 0 rfl (by simp) rfl aw ⟨by omega,rfl⟩ ?_;rintro i ⟨hi,a⟩;by_cases h:i<ps.length
 .have e:ps.drop i=ps.getD i (0,[])::ps.drop (i+1):=by grind[List.drop_eq_getElem_cons]
  have c:((ps.getD i cP.b7).1,dM.list (ps.getD i cP.b7).2.length (dM.fn (ps.getD i cP.b7).2))=ps.getD i (0,[]):=by rw[dM.list_fn];rfl
  rw[e,show dK k (ps.getD i (0,[])::ps.drop (i+1)) n=_ from List.findSome?_cons]at a;cases b:eh k (ps.getD i (0,[])) n with
  |some q =>
   rw[b]at a;refine aV d [(14,ab),(27,ab)] rfl ?_ (AK.iC (cw.zero rfl ?_))
   .simp[-an,c,b,h,dM.aM]
   .simp[-an,c,b,a]
  |none =>
   rw[b]at a;refine aV d [(14,ab),(27,ae)] rfl ?_ (AK.gj (i+1) rfl (by simp) rfl aw ⟨h,a⟩ (by omega));simp[-an,c,b,h,bA,dM.aM];omega
 .obtain rfl:i=ps.length:=by omega
  refine aW [(14,ae)] rfl (by simp) (AK.leave rfl rfl ?_);exact bu rfl aw (AK.bx rfl (by rw[a,u7];simp[dK]))
abbrev CH:dv:=Et aI (aL cP) aI (λk ps n=>Am (dK k ps n)) λ_ _ _=>[]
def Lt:eb X 135 CH:=.KA λk ps n _=>EV k ps n
def Lu(a b:List Bs):Ev X 164 [cS.sl a,cS.sl b] [] (dB (a==b)) []:=by
 refine Ev.bQ Tryz.func164 rfl λk=>?_;have f:=k.sl 0 rfl;by_cases g:a.length=b.length
 rotate_left
 .have:(a==b)=ae:=eD.2 (by grind);exact aW [(10,ab)] rfl (by simp;omega) (AK.bx rfl (by simp[this]))
 refine aW [(10,ae)] rfl (by simp;omega) ?_;refine AK.j0 (λi=>i<=a.length/\∀j,j<i->a.getD j []=b.getD j []) (λi:Nat=>[(0,cS.sl a),(1,cS.sl b),(5,dI i)]) (λ_=>[]) (λi=>a.length-i) 0 rfl (by simp) rfl aw ⟨by omega,by omega⟩ ?_;rintro i ⟨hi,d⟩;by_cases h:i<a.length
 .have e:∀l:List Bs,l.getD i cS.b7=l.getD i []:=λ_=>rfl;by_cases c:a.getD i []=b.getD i []
  .refine aW [(14,ab),(25,ae)] rfl ?_ (AK.gj (i+1) rfl (by simp) rfl aw ⟨h,λj n=>?_⟩ (by omega))
   .simp[-an,e,c,bA];omega
   grind
  .refine aW [(14,ab),(25,ab)] rfl ?_ (AK.iC (cw.zero rfl ?_))
   .simp[-an,e,c];omega
   .have:(a==b)=ae:=eD.2 (by grind);simp[this]
 .obtain rfl:i=a.length:=by omega
  have:a=b:=pX g λj c m=>by grind
  refine aW [(14,ae)] rfl (by simp) (AK.leave rfl rfl ?_);exact bu rfl aw (AK.bx rfl (by simp[this]))
def SU:eb X 164 Ov:=.sC λa b _=>Lu a b
def uz(t:Bs):∀k f p,p∈fz t k f->p.length<=8
 |0,_,p,h=>by simp[fz]at h
 |k+1,f,p,h=>by
  simp only[fz]at h;split at h
  .rename_i a;rcases eE.1 h with rfl|h
   .grind [nD]
   .exact uz t k _ p h
  grind
def AG{l:List Bs}{p:Bs}(h:p∈l)(b:8<p.length):gx l=af:=by unfold gx;rw[aY];intro a;simp only[bS,hI]at a;have:=uz l.flatten l.flatten.length 0 p (by rw[show fz l.flatten l.flatten.length 0=l from a.2];exact h);omega
def uT(l:List Bs)(i:Nat):(l.take i).flatten.length<=l.flatten.length:=by grind[List.take_append_drop]
def EW{l:List Bs}{i:Nat}(h:40<(l.take i).flatten.length):gx l=af:=by have:=uT l i;unfold gx;rw[aY];intro a;simp only[bS,ee,aZ]at a;omega
def Lv(l:List Bs):Ev X 136 [cS.sl l] [] (Am (gx l)) []:=by
 refine Ev.bQ Tryz.func136 rfl λm=>?_;have j:=m.sl 0 rfl;have a:bF X [(38,Xl),(111,Gy),(164,Ov)]:=.cons t38 (.cons K7 (.cons SU .nil));refine cg a rfl aw ?_;refine AK.j0 (λi=>i<=l.length/\(l.take i).flatten.length<=48) (λi:Nat=>[(0,cS.sl l),(4,dS (l.take i).flatten),(5,dI i)]) (λ_=>[]) (λi=>l.length-i) 0 rfl (by simp) rfl aw ⟨by omega,by simp⟩ ?_;rintro i ⟨hi,f⟩;by_cases h:i<l.length
 .have e:l.getD i cS.b7=l.getD i []:=rfl;have k:(l.take (i+1)).flatten=(l.take i).flatten++l.getD i []:=by grind[bT]
  by_cases b:(l.getD i []).length<=8
  .by_cases c:(l.take i).flatten.length<=40
   .refine aV a [(9,ab),(18,ae),(22,ae)] rfl ?_ (AK.gj (i+1) rfl ?_ rfl aw ⟨h,by grind⟩ (by omega))
    .simp[-an,-List.length_flatten,e,bA];omega
    .simp only[ay.cat,ay,k,aF,aD];grind[cy.same]
   .refine aV a [(9,ab),(18,ae),(22,ab)] rfl ?_ (AK.iC (cw.zero rfl ?_))
    .simp[-an,-List.length_flatten,e];omega
    .simp[EW (l:=l) (i:=i) (by omega)]
  .refine aV a [(9,ab),(18,ab),(22,ab)] rfl ?_ (AK.iC (cw.zero rfl ?_))
   .simp[-an,e];omega
   .simp[ay,ay.cat,AG (lQ (d:=[]) h) (by omega)]
 .obtain rfl:i=l.length:=by omega
  rw[dh]at f⊢;refine aV a [(9,ae)] rfl (by simp) (AK.leave rfl rfl ?_);have el:=cS.list_fn l;cases b:ee l.flatten with
  |false=>exact aV a [(32,ab),(38,ab)] rfl (by simp[b]) (AK.bx rfl (by simp[gx,b]))
  |true =>
   have g:b8 l.flatten=ab:=by simp only[ee,bS]at b;exact b.2
   cases c:(pieces l.flatten==l)with
   |false =>
    refine aV a [(32,ae),(38,ab)] rfl ?_ (AK.bx rfl (by simp[gx,c]));simp[-List.length_flatten,b,g,el,cS.list_fn,cS.aM,by simpa using c];omega
   |true =>
    refine aV a [(32,ae),(38,ae)] rfl ?_ (AK.bx rfl (by simp[gx,b,c]));simp[-List.length_flatten,b,g,el,cS.list_fn,cS.aM,by simpa using c];omega
abbrev Lw:dv:=kq (aL cS) (λl=>Am (gx l)) λ_=>[]
def SV:eb X 136 Lw:=.pD λl _=>Lv l
abbrev snB(s:gG):aP:=.cells 71 [.c (.int .i64 s.1),.c (.sl ae 2 s.2.length (cL.fn s.2))]
abbrev Lx(k:Int)(ps:List bH)(ns:List Int):List Bs:=ns.map λn=>(dK k ps n).getD []
def OX{k:Int}{ps:List bH}{ns:List Int}{j:Nat}(h:j<ns.length):Lx k ps (ns.take (j+1))=Lx k ps (ns.take j)++[(dK k ps (ns.getD j 0)).getD []]:=by grind[bT]
def CI{k:Int}{ps:List bH}{ns:List Int}{j:Nat}(h:j<ns.length)(a:dK k ps (ns.getD j 0)=af):eN k ps ns=af:=by unfold eN;rw[aY];grind
def AH{k:Int}{ps:List bH}{ns:List Int}(h:∀j,j<ns.length->(dK k ps (ns.getD j 0)).isSome=ab):eN k ps ns=aa (Lx k ps ns):=by unfold eN;rw[bl];grind[List.mem_iff_getElem]
def AI(k:Int)(s:gG)(ps:List bH)(I:s.2.length<=4000000)(E:∀x∈s.2,x.2.length<=4000000):
  Ev X 86 [dI k,M8 s,cP.sl ps] [] (Sj ((db k s ps).getD []) (db k s ps).isSome) []:=by
 refine Ev.bQ Tryz.func86 rfl λJ=>?_;have a:bF X [(35,CE),(135,CH),(136,Lw),(10,T1)]:=.cons GI (.cons Lt (.cons SV (.cons t10 .nil)));cases hk:b6 k with
 |false =>
  refine aV a [(19,ab)] rfl ?_ (AK.bx rfl ?_)
  .simp[hk]
  .simp[db,hk]
 |true =>
 refine aV a [(19,ae),(1000004,ab)] rfl (by simp[hk]) ?_;refine AK.iB 8 82 2 rfl rfl ?_;refine cg a rfl aw ?_;refine AK.cC 2 (λi=>i<=s.2.length/\∀j,j<i->(fileOf k ps (s.2.getD j ([],[]))).isSome=ab) (λi:Nat=>[(0,dI k),(2,cP.sl ps),(4,.e (.one (.ptr 0 0))),(8,.e (.one (.vec 1 2 (dk k ps (s.2.take i)).length (cF.fn (dk k ps (s.2.take i)))))),(9,dI i)]) (λi=>[snB s,.vec 82 2 (dk k ps (s.2.take i)).length (cF.fn (dk k ps (s.2.take i)))]) (λi=>s.2.length-i) 0 rfl (by simp[dk]) rfl (by simp[dk]) rfl ⟨by omega,by omega⟩ ?_;rintro i ⟨hi,A⟩;by_cases h:i<s.2.length
 .have C:=E _ (lQ (d:=([],[])) h);have b:=pF (k:=k) (ps:=ps) h;have y:(dk k ps (s.2.take i)).length=i:=by simp[dk];omega
  have f:s.2.getD (i:Int).toNat cL.b7=s.2.getD i ([],[]):=by grind
  have g:=pG (k:=k) (ps:=ps) h;generalize D:s.2.getD i ([],[])=x at C b f g;generalize dk k ps (s.2.take i)=fs at *;refine aV a [(25,ab),(1000008,ab)] rfl (by simp;omega) ?_;refine AK.iB 10 9 1 rfl rfl ?_;refine cg a rfl aw ?_;refine AK.cC 3 (λj=>j<=x.2.length/\∀q,q<j->(dK k ps (x.2.getD q 0)).isSome=ab) (λj:Nat=>[(0,dI k),(2,cP.sl ps),(4,.e (.one (.ptr 0 0))),(8,.e (.one (.vec 1 2 fs.length (cF.fn fs)))),(9,dI i),(10,.e (.one (.vec 2 1 (Lx k ps (x.2.take j)).length (cS.fn (Lx k ps (x.2.take j)))))),(11,dI j)]) (λj=>[snB s,.vec 82 2 fs.length (cF.fn fs),.vec 9 1 (Lx k ps (x.2.take j)).length (cS.fn (Lx k ps (x.2.take j)))]) (λj=>x.2.length-j) 0 rfl (by simp) rfl (by simp) rfl ⟨by omega,by omega⟩ ?_;rintro j ⟨H,z⟩;by_cases w:j<x.2.length
  .have c:x.2.getD (j:Int).toNat cI.b7=x.2.getD j 0:=by grind
   cases n:dK k ps (x.2.getD j 0)with
   |none =>
    have e:fileOf k ps x=af:=by simp[fileOf,CI w n]
    refine aV a [(37,ab),(56,ab)] rfl ?_ (AK.fJ (AK.sq (cw.zero rfl ?_)))
    .simp only[ay,f,c,n,cP.list_fn,cP.aM];grind
    .rw[g e];simp
   |some q =>
    have l:=OX (k:=k) (ps:=ps) w;rw[n]at l;have p:(Lx k ps (x.2.take j)).length=j:=by grind
    have u:=cS.cj (Lx k ps (x.2.take j)) q;refine aV a [(37,ab),(56,ae)] rfl ?_ (AK.aQ (j+1) rfl ?_ ?_ ⟨w,λr G=>?_⟩ (by omega))
    .simp only[ay,f,c,n,cP.list_fn,cP.aM,p,bA,show i9.bytes=16 from rfl];grind
    .rw[l];simp only[ay.cat,ay,f,c,n,cP.list_fn,cA,jg,aF,aD];and_intros<;>first|exact cy.same|exact u|rfl|omega
    .rw[l];simp only[ay.cat,ay,f,c,n,cP.list_fn,cA,jg,aF,aD];and_intros<;>first|exact cy.same|exact u|rfl|omega
    grind
  .obtain rfl:j=x.2.length:=by omega
   have o:=AH z;rw[dh];have p:(Lx k ps x.2).length=x.2.length:=by simp
   refine aV a [(37,ae)] rfl (by simp only[ay,f];simp[h]) (AK.leaveD rfl rfl ?_);cases m:gx (Lx k ps x.2)with
   |none =>
    have e:fileOf k ps x=af:=by simp[fileOf,o,m]
    refine aV a [(68,ab)] rfl ?_ (AK.fJ (cw.zero rfl ?_))
    .simp only[ay,cS.list_fn,cS.aM,m];simp
    .rw[g e];simp
   |some t =>
    have e:fileOf k ps x=aa (x.1,t):=by simp[fileOf,o,m]
    rw[e]at b;have B:=cF.cj fs (x.1,t);refine aV a [(68,ae)] rfl ?_ (AK.aQ (i+1) rfl ?_ ?_ ⟨h,λr G=>?_⟩ (by omega))
    .simp only[ay,f,cS.list_fn,cS.aM,m,y,bA,show i82.bytes=32 from rfl];grind
    .rw[b];simp only[ay.cat,ay,f,cS.list_fn,m,ik,cA,jg,aF,aD];and_intros<;>first|exact cy.same|exact B|rfl|omega
    .rw[b];simp only[ay.cat,ay,f,cS.list_fn,m,ik,cA,jg,aF,aD];and_intros<;>first|exact cy.same|exact B|rfl|omega
    grind
 .obtain rfl:i=s.2.length:=by omega
  rw[dh];have F:s.2.all (λx=>(fileOf k ps x).isSome)=ab:=List.all_eq_true.2 λx C=>by grind[List.mem_iff_getElem]
  refine aV a [(25,ae)] rfl (by simp) (AK.leaveD rfl rfl ?_);cases v:cz (dk k ps s.2)with
  |false =>
   refine aV a [(83,ab)] rfl ?_ (AK.bx rfl ?_)
   .simp[cF.list_fn,cF.aM,v]
   .simp[db,v]
  |true =>
   refine aV a [(83,ae)] rfl ?_ (AK.bx rfl ?_)
   .simp[cF.list_fn,cF.aM,v]
   .simp[db,v,hk,F]
abbrev xq:dv:=Et aI (Ey cL) (aL cP) (λk s ps=>Sj ((db k s ps).getD []) (db k s ps).isSome) λ_ s _=>[s.2.length<=4000000,∀x∈s.2,x.2.length<=4000000]
def EX:eb X 86 xq:=.KA λk s ps h=>AI k s ps h.1 h.2
abbrev sK:=Int×Int
def gY(h:sK):Bool:=decide (1<=h.1/\h.1<=2)&&decide (1<=h.2/\h.2<=20)
def k7(l:List sK):Bool:=(bd l.length).all (λi=>gY (l.getD i (0,0)))&&decide (l.length<=9)
abbrev Zb(h:sK):D:=.e (.agg [.c (.int .i64 h.1),.c (.int .i64 h.2)])
def Ic(h:sK):Ev X 87 [Zb h] [] (dB (gY h)) []:=by
 refine Ev.bQ Tryz.func87 rfl λb=>?_;have a:bF X [(23,Cp)]:=.cons EM .nil;by_cases c:1<=h.1/\h.1<=2
 .exact aV a [(6,ab)] rfl (by simp[c]) (AK.bx rfl (by simp[gY,c]))
 .exact aV a [(6,ae)] rfl (by simp;omega) (AK.bx rfl (by simp only[ay,gY,iP c];simp))
def Ie(l:List sK):Ev X 36 [cH.sl l] [] (dB (k7 l)) []:=by
 refine Ev.bQ Tryz.func36 rfl λf=>?_;have e:=f.sl 0 rfl;have b:bF X [(87,kq TV (λh=>dB (gY h)) λ_=>[])]:=.cons (.pD λh _=>Ic h) .nil;refine cg b rfl aw ?_;unfold k7;refine AK.j0 (λi=>i<=l.length/\∀j,j<i->gY (l.getD j (0,0))=ab) (λi:Nat=>[(0,cH.sl l),(3,dI i)]) (λ_=>[]) (λi=>l.length-i) 0 rfl (by simp) rfl aw ⟨by omega,by omega⟩ ?_;rintro i ⟨hi,a⟩;by_cases h:i<l.length
 .have d:l.getD i cH.b7=l.getD i (0,0):=rfl;cases c:gY (l.getD i (0,0))with
  |false =>
   refine aV b [(7,ab),(15,ab)] rfl ?_ (AK.iC (cw.zero rfl ?_))
   .simp[-an,d,c,h]
   .rw[iH h c];simp
  |true =>
   refine aV b [(7,ab),(15,ae)] rfl ?_ (AK.gj (i+1) rfl (by simp) rfl aw ⟨h,jU a c⟩ (by omega));simp[-an,d,c,h,bA];omega
 .obtain rfl:i=l.length:=by omega
  refine aV b [(7,ae)] rfl (by simp) (AK.leave rfl rfl ?_);exact cg b rfl aw (AK.bx rfl (by rw[dz.2 a];simp;omega))
abbrev sL:dv:=kq (aL cH) (λl=>dB (k7 l)) λ_=>[]
def OY:eb X 36 sL:=.pD λl _=>Ie l
def bY(ps:List bH):List Int:=ps.flatMap λp=>p.2.map (·.1)
def CJ{α:Type}(f:α->Int)(d:α)(l:List α)(i:Nat):Bool:=i==0||decide (f (l.getD (i-1) d)<f (l.getD i d))
def mc(k:Int)(ps:List bH)(i:Nat):Bool:=gk k (ps.getD i (0,[]))&&CJ (·.1) (0,[]) ps i
def jV(k:Int)(s:bo)(i:Nat):Bool:=decide (1<=(s.2.1.getD i (0,[])).1/\(s.2.1.getD i (0,[])).1<=20)&&CJ (·.1) (0,[]) s.2.1 i&&(db k (s.2.1.getD i (0,[])) s.1).isSome
def eH(k:Int)(s:bo):Bool:=(bd s.1.length).all (mc k s.1)&&decide (bY s.1).Nodup&&(bd s.2.1.length).all (jV k s)&&b6 k&&k7 s.2.2&&decide (s.1.length<=20)
def xt{ps:List bH}{i:Nat}(h:i<ps.length):bY (ps.take (i+1))=bY (ps.take i)++(ps.getD i (0,[])).2.map (·.1):=by rw[bT h (0,[])];simp[bY]
def Ig{ps:List bH}{i:Nat}(h:¬(bY (ps.take i)).Nodup):¬(bY ps).Nodup:=λa=>h (by
 have:bY ps=bY (ps.take i)++bY (ps.drop i):=by unfold bY;grind[List.take_append_drop]
 grind)
abbrev Qq(s:bo):aP:=.cells 27 [.c (.sl ae 2 s.1.length (cP.fn s.1)),.c (.sl ae 2 s.2.1.length (fL.fn s.2.1)),.c (.sl ae 2 s.2.2.length (cH.fn s.2.2))]
def Ly(k:Int)(s:bo)(x:gG)(b:x.2.length<=4000000)(a:∀y∈x.2,y.2.length<=4000000):Ev X 34 [dI k,qN s,M8 x] [] (dB (db k x s.1).isSome) []:=by
 refine Ev.bQ Tryz.func34 rfl λd=>?_;have c:bF X [(86,xq)]:=.cons EX .nil;have e:(x.1,cL.list x.2.length (cL.fn x.2))=x:=by rw[cL.list_fn]
 refine cg c rfl ?_ (AK.bx rfl ?_)
 .simp only[ay,cL.list_fn,cL.aM,cP.aM,b,aF,aD];exact a
 .simp[cL.list_fn,cP.list_fn]
abbrev Lz:dv:=Et aI TX (Ey cL) (λk s x=>dB (db k x s.1).isSome) λ_ _ x=>[x.2.length<=4000000,∀y∈x.2,y.2.length<=4000000]
def SW:eb X 34 Lz:=.KA λk s x h=>Ly k s x h.1 h.2
def qz{α:Type}{f:α->Int}{d:α}{l:List α}{i:Nat}(h:i≠0):CJ f d l i=decide (f (l.getD (i-1) d)<f (l.getD i d)):=by unfold CJ;grind
def CK(k:Int)(s:bo)(L:oA s)(N:s.1.length<=4000000)(Q:s.2.1.length<=4000000):Ev X 9 [dI k,qN s] [] (dB (eH k s)) []:=by
 refine Ev.bQ Tryz.func9 rfl λP=>?_;have c:bF X [(32,CG),(33,QH),(23,Cp),(34,Lz),(35,CE),(36,sL)]:=.cons Ls (.cons V7 (.cons EM (.cons SW (.cons GI (.cons OY .nil)))));refine aV c [(1000002,ab)] rfl aw ?_;refine AK.iB 5 3 1 rfl rfl ?_;refine cg c rfl aw ?_;unfold eH;refine AK.cC 2 (λi=>i<=s.1.length/\(∀j,j<i->mc k s.1 j=ab)/\(bY (s.1.take i)).Nodup/\(bY (s.1.take i)).length<=4*i) (λi:Nat=>[(0,dI k),(3,.e (.one (.ptr 0 0))),(5,.e (.one (.vec 1 1 (bY (s.1.take i)).length (cI.fn (bY (s.1.take i)))))),(6,dI i)]) (λi=>[Qq s,.vec 3 1 (bY (s.1.take i)).length (cI.fn (bY (s.1.take i)))]) (λi=>s.1.length-i) 0 rfl (by simp[bY]) rfl (by simp[bY]) rfl ⟨by omega,by omega,by simp[bY],by simp[bY]⟩ ?_;rintro i ⟨hi,g,v,M⟩;by_cases h:i<s.1.length
 .have x:=xt h;have C:=Ig (ps:=s.1) (i:=i+1);have m:s.1.getD i cP.b7=s.1.getD i (0,[]):=rfl;have n:s.1.getD (i-1) cP.b7=s.1.getD (i-1) (0,[]):=rfl;have b:mc k s.1 i=(gk k (s.1.getD i (0,[]))&&CJ (·.1) (0,[]) s.1 i):=rfl;have D:=qz (f:=λp:bH=>p.1) (d:=(0,[])) (l:=s.1) (i:=i);generalize E:s.1.getD i (0,[])=p at *;generalize s.1.getD (i-1) (0,[])=p' at *;cases t:gk k p with
  |false =>
   rw[t,rN]at b;refine aV c [(14,ab),(25,ab),(44,ab)] rfl ?_ (AK.fJ (cw.zero rfl ?_))
   .simp[-an,m,t,dM.list_fn,dM.aM,h]
   .rw[iH h b];simp
  |true =>
   have R:p.2.length<=4:=by grind[pI]
   rw[t,fH]at b;cases u:CJ (·.1) (0,[]) s.1 i with
   |false =>
    have r:i≠0:=by rintro rfl;cases u
    have B:¬p'.1<p.1:=by grind
    refine aV c [(14,ab),(25,ae),(28,ab),(42,ab),(44,ab)] rfl ?_ (AK.fJ (cw.zero rfl ?_))
    .simp[-an,m,n,t,dM.list_fn,dM.aM,h,bA];omega
    .rw[iH h (b.trans u)];simp
   |true =>
   rw[u]at b;apply AK.join [(0,dI k),(3,.e (.one (.ptr 0 0))),(5,.e (.one (.vec 1 1 (bY (s.1.take i)).length (cI.fn (bY (s.1.take i)))))),(6,dI i),(7,dI 0)] [Qq s,.vec 3 1 (bY (s.1.take i)).length (cI.fn (bY (s.1.take i)))]
   .intro z;by_cases r:i=0
    .subst r;refine aV c [(14,ab),(25,ae),(28,ae),(44,ae)] rfl ?_ (z _ _ rfl ?_)
     .simp[-an,m,t,dM.list_fn,dM.aM,h]
     .simp
    .have B:p'.1<p.1:=by grind
     refine aV c [(14,ab),(25,ae),(28,ab),(42,ae),(44,ae)] rfl ?_ (z _ _ rfl ?_)
     .simp[-an,m,n,t,dM.list_fn,dM.aM,h,bA];omega
     .simp
   generalize bY (s.1.take i)=ns at *;refine AK.cC 2 (λj=>j<=p.2.length/\(ns++(p.2.take j).map (·.1)).Nodup) (λj:Nat=>[(0,dI k),(3,.e (.one (.ptr 0 0))),(5,.e (.one (.vec 1 1 (ns++(p.2.take j).map (·.1)).length (cI.fn (ns++(p.2.take j).map (·.1)))))),(6,dI i),(7,dI j)]) (λj=>[Qq s,.vec 3 1 (ns++(p.2.take j).map (·.1)).length (cI.fn (ns++(p.2.take j).map (·.1)))]) (λj=>p.2.length-j) 0 rfl (by simp) rfl (by simp) rfl ⟨by omega,by grind⟩ ?_;rintro j ⟨O,G⟩;by_cases o:j<p.2.length
   .have A:p.2.getD j dM.b7=gX p j:=rfl;have y:ns++(p.2.take (j+1)).map (·.1)=(ns++(p.2.take j).map (·.1))++[(gX p j).1]:=by grind[bT]
    have w:(ns++(p.2.take j).map (·.1)).length=ns.length+j:=by grind
    generalize ns++(p.2.take j).map (·.1)=a at *;cases J:a.contains (gX p j).1 with
    |true =>
     refine aV c [(53,ab),(67,ab)] rfl ?_ (AK.fJ (AK.sq (cw.zero rfl ?_)))
     .simp[-an,-List.contains_eq_mem,m,A,h,o,J,cI.list_fn,cI.aM]
     .have K:¬(bY s.1).Nodup:=C (by
       have e:ns++p.2.map (·.1)=(ns++(p.2.take (j+1)).map (·.1))++(p.2.drop (j+1)).map (·.1):=by grind[List.take_append_drop]
       grind)
      simp[K]
    |false =>
     have H:=cI.cj a (gX p j).1;have F:cI.list (ns.length+j) (cI.fn a)=a:=by rw[<-w];exact cI.list_fn a
     refine aV c [(53,ab),(67,ae)] rfl ?_ (AK.aQ (j+1) rfl ?_ ?_ ⟨o,?_⟩ (by omega))
     .simp[-an,-List.contains_eq_mem,m,A,h,o,J,cI.list_fn,cI.aM,w,F,bA,show i3.bytes=8 from rfl];omega
     .rw[y];simp only[ay.cat,ay,cd,m,A,cA,jg,aF,aD];and_intros<;>first|exact cy.same|exact H|rfl|omega
     .rw[y];simp only[ay.cat,ay,cd,m,A,cA,jg,aF,aD];and_intros<;>first|exact cy.same|exact H|rfl|omega
     grind
   .obtain rfl:j=p.2.length:=by omega
    rw[dh]at G⊢;refine aV c [(53,ae)] rfl ?_ (AK.leaveD rfl rfl ?_)
    .simp[-an,m,h]
    refine cg c rfl ?_ (AK.aQ (i+1) rfl ?_ ?_ ⟨h,jU g b,by grind,by grind⟩ (by omega))
    .simp[bA];omega
    .rw[x];simp
    .rw[x];simp
 obtain rfl:i=s.1.length:=by omega
 rw[dh]at v⊢;refine aV c [(14,ae)] rfl (by simp) (AK.leaveD rfl rfl ?_);refine cg c rfl aw ?_;rw[dz.2 g,dc v,fH,fH];generalize bY s.1=ns;refine AK.cC 2 (λi=>i<=s.2.1.length/\(∀j,j<i->jV k s j=ab)) (λi:Nat=>[(0,dI k),(3,.e (.one (.ptr 0 0))),(8,dI i)]) (λ_=>[Qq s,.vec 3 1 ns.length (cI.fn ns)]) (λi=>s.2.1.length-i) 0 rfl (by simp) rfl (by simp) rfl ⟨by omega,by omega⟩ ?_;rintro i ⟨hi,g⟩;by_cases h:i<s.2.1.length
 .have m:s.2.1.getD i fL.b7=s.2.1.getD i (0,[]):=rfl;have n:s.2.1.getD (i-1) fL.b7=s.2.1.getD (i-1) (0,[]):=rfl;have q:=L _ (lQ (d:=(0,[])) h);have b:jV k s i=(decide (1<=(s.2.1.getD i (0,[])).1/\(s.2.1.getD i (0,[])).1<=20)&&CJ (·.1) (0,[]) s.2.1 i&&(db k (s.2.1.getD i (0,[])) s.1).isSome):=rfl;have D:=qz (f:=λp:gG=>p.1) (d:=(0,[])) (l:=s.2.1) (i:=i);generalize E:s.2.1.getD i (0,[])=p at *;generalize s.2.1.getD (i-1) (0,[])=p' at *;by_cases c1:1<=p.1/\p.1<=20
  rotate_left
  .refine aV c [(85,ab),(96,ab),(116,ab),(126,ab)] rfl ?_ (AK.fJ (cw.zero rfl ?_))
   .simp[-an,m,h];omega
   .rw[iH h (by grind)];simp
  cases u:CJ (·.1) (0,[]) s.2.1 i with
  |false =>
   have r:i≠0:=by rintro rfl;cases u
   have B:¬p'.1<p.1:=by grind
   refine aV c [(85,ab),(96,ae),(99,ab),(113,ab),(116,ab),(126,ab)] rfl ?_ (AK.fJ (cw.zero rfl ?_))
   .simp[-an,m,n,h,c1,bA];omega
   .rw[iH h (by grind)];simp
  |true =>
   rw[dc c1,u,fH,fH]at b;cases o:(db k p s.1).isSome with
   |false =>
    by_cases r:i=0
    .subst r;refine aV c [(85,ab),(96,ae),(99,ae),(116,ae),(126,ab)] rfl ?_ (AK.fJ (cw.zero rfl ?_))
     .simp[-an,m,h,c1,cL.list_fn,cL.aM,cP.list_fn,cP.aM,fL.aM,cH.aM,o,q.1];grind
     .rw[iH h (b.trans o)];simp
    .have B:p'.1<p.1:=by grind
     refine aV c [(85,ab),(96,ae),(99,ab),(113,ae),(116,ae),(126,ab)] rfl ?_ (AK.fJ (cw.zero rfl ?_))
     .simp[-an,m,n,h,c1,bA,cL.list_fn,cL.aM,cP.list_fn,cP.aM,fL.aM,cH.aM,o,q.1];and_intros<;>first|omega|grind
     .rw[iH h (b.trans o)];simp
   |true =>
    rw[o]at b;by_cases r:i=0
    .subst r;refine aV c [(85,ab),(96,ae),(99,ae),(116,ae),(126,ae)] rfl ?_ (AK.aQ 1 rfl (by simp) (by simp) ⟨h,jU g b⟩ (by omega));simp[-an,m,h,c1,bA,cL.list_fn,cL.aM,cP.list_fn,cP.aM,fL.aM,cH.aM,o,q.1];grind
    .have B:p'.1<p.1:=by grind
     refine aV c [(85,ab),(96,ae),(99,ab),(113,ae),(116,ae),(126,ae)] rfl ?_ (AK.aQ (i+1) rfl (by simp) (by simp) ⟨h,jU g b⟩ (by omega));simp[-an,m,n,h,c1,bA,cL.list_fn,cL.aM,cP.list_fn,cP.aM,fL.aM,cH.aM,o,q.1];and_intros<;>first|omega|grind
 obtain rfl:i=s.2.1.length:=by omega
 refine aV c [(85,ae)] rfl (by simp) (AK.leaveD rfl rfl ?_);rw[dz.2 g,fH];cases hk:b6 k
 .exact aV c [(129,ae),(134,ae)] rfl (by simp[hk]) (AK.bx rfl)
 cases I:k7 s.2.2
 .exact aV c [(129,ab),(134,ae)] rfl (by simp[hk,I,cH.list_fn,cH.aM]) (AK.bx rfl)
 exact aV c [(129,ab),(134,ab)] rfl (by simp[hk,I,cH.list_fn,cH.aM]) (AK.bx rfl (by simp;omega))
abbrev tQ:dv:=oX aI TX (λk s=>dB (eH k s)) λ_ s=>[oA s,s.1.length<=4000000,s.2.1.length<=4000000]
def yZ:eb X 9 tQ:=.sC λk s h=>CK k s h.1 h.2.1 h.2.2
def pH{α:Type}(c:kF α)(l:List α)(x y:α):cy (l.length+1+1) (cE (l.length+1) (cE l.length (c.fn l) λq=>[c.enc x].getD q []) λq=>[c.enc y].getD q []) (c.fn (l++[x,y])):=c.pH l x y
def QI(l:List gG):List Int:=l.flatMap λx=>AJ x.2
structure SmS(s:bo):Prop where
 pN:s.1.length<=4000000
 sm:oA s
 sN:s.2.1.length<=4000000
 aN:(QI s.2.1).length<=4000000
end
def y5{l:List Int}:∀{k:Nat},(lu l k).length=k->∀i,1<=i->i<k->l.getD i 0≠l.getD (i-1) 0
 |0,_,i,_,h=>by omega
 |k+1,h,i,a,b=>by
  have d:=sO l k;rw[lu]at h;split at h
  .omega
  .rename_i c;simp only[cA,jg]at h;by_cases e:i=k
   .grind
   .exact y5 (k:=k) (by omega) i a (by omega)
def AQ(l:List Int):(oO l).Pairwise λx y=>x<=y:=by have:=List.pairwise_mergeSort (le:=λx y:Int=>decide (x<=y)) (λa b c e d=>by grind) (λa b=>by grind) l;exact this.imp λh=>by grind
def E6(l:List Int):(oO l).Perm l:=List.mergeSort_perm _ _
def AN(l:List Int):(ez (oO l)).length=l.length↔l.Nodup:=by
 rw[<-lK l,<-(E6 l).nodup_iff];have d:=AQ l;generalize oO l=s at *;have b:∀{i:Nat} (h:i<s.length),s.getD i 0=s[i]:=λ{i} h=>by grind
 constructor
 .intro h;have f:=y5 h;refine List.Pairwise.imp (R:=λx y=>x<y) (λh e=>by omega) (j5.2 λi j hi hj Zd=>?_);have a:=j5.1 d;have c:=f j (by omega) hj;rw[b hj,b (by omega)]at c;have g:=a (j-1) j (by omega) hj (by omega);by_cases e:i=j-1
  .grind
  .have:=a i (j-1) hi (by omega) (by omega);omega
 .intro h;unfold ez;rw[nQ (bg _),dh];grind[List.pairwise_iff_getElem]
def vA{α:Type}{l:List α}{i:Nat}(h:i<l.length)(d:α):l.getD i d=l[i]:=by grind
def AR{α:Type}{f:α->Int}{d:α}{l:List α}:(∀i,i<l.length->CJ f d l i=ab)↔l.Pairwise λx y=>f x<f y:=by
 constructor
 .intro h;have key:∀n i j (hi:i<l.length) (a:j<l.length),j=i+n->0<n->f l[i]<f l[j]:=by
   intro n;induction n with
   |zero=>grind
   |succ n g =>
    intro i j hi a b _;have c:=h j a;rw[qz (by omega),decide_eq_true_iff,vA (by omega),vA a]at c;by_cases e:n=0
    .subst e;grind
    grind
  exact j5.2 λi j hi a b=>key (j-i) i j hi a (by omega) (by omega)
 .intro h i hi;by_cases e:i=0
  .subst e;rfl
  .rw[qz e,decide_eq_true_iff,vA (by omega),vA hi];exact(j5.1 h) (i-1) i (by omega) hi (by omega)
def AS{α:Type}{l:List α}{p:α->Bool}{d:α}:(∀i,i<l.length->p (l.getD i d)=ab)↔∀x∈l,p x=ab:=by grind[List.mem_iff_getElem]
structure GN(k:Int)(p:bH):Prop where
 no:1<=p.1/\p.1<=99
 key:b6 k=ab
 len:1<=p.2.length/\p.2.length<=4
 rt:∀x∈p.2,right k x=ab
 CJ:p.2.Pairwise λx y=>x.1<y.1
def rB{k:Int}{p:bH}:gk k p=ab↔GN k p:=by
 rw[pI];simp only[bS,aZ,dz];have e:(∀i,i<p.2.length->iL k p i=ab)↔(∀x∈p.2,right k x=ab)/\p.2.Pairwise λx y=>x.1<y.1:=by
  rw[<-AS (d:=(0,[])),<-AR (f:=λx:bm=>x.1) (d:=(0,[]))];constructor
  .intro h;exact⟨λi hi=>by have:=h i hi;simp only[iL,bS]at this;exact this.1,λi hi=>by have:=h i hi;simp only[iL,bS]at this;exact this.2⟩
  .intro h i hi;simp only[iL,bS];exact⟨h.1 i hi,h.2 i hi⟩
 rw[e];constructor
 .rintro⟨⟨⟨c,a⟩,b⟩,g,j⟩;exact⟨c,a,b,g,j⟩
 .rintro⟨c,a,b,g,j⟩;grind
structure rC(k:Int)(s:bo):Prop where
 pk:∀p∈s.1,GN k p
 pa:s.1.Pairwise λp q=>p.1<q.1
 nd:(bY s.1).Nodup
 sn:∀x∈s.2.1,(1<=x.1/\x.1<=20)/\(db k x s.1).isSome=ab
 sa:s.2.1.Pairwise λx y=>x.1<y.1
 key:b6 k=ab
 log:k7 s.2.2=ab
 len:s.1.length<=20
def pJ{k:Int}{s:bo}:eH k s=ab↔rC k s:=by
 unfold eH;simp only[bS,aZ,dz];have r:(∀i,i<s.1.length->mc k s.1 i=ab)↔(∀p∈s.1,GN k p)/\s.1.Pairwise λp q=>p.1<q.1:=by
  rw[<-AR (f:=λp:bH=>p.1) (d:=(0,[]))];have:(∀p∈s.1,GN k p)↔∀p∈s.1,gk k p=ab:=⟨λh p b=>rB.2 (h p b),λh p b=>rB.1 (h p b)⟩
  rw[this,<-AS (d:=(0,[]))];constructor
  .intro h;exact⟨λi hi=>by have:=h i hi;simp only[mc,bS]at this;exact this.1,λi hi=>by have:=h i hi;simp only[mc,bS]at this;exact this.2⟩
  .intro h i hi;simp only[mc,bS];grind
 have o:(∀i,i<s.2.1.length->jV k s i=ab)↔(∀x∈s.2.1,(1<=x.1/\x.1<=20)/\(db k x s.1).isSome=ab)/\s.2.1.Pairwise λx y=>x.1<y.1:=by
  rw[<-AR (f:=λp:gG=>p.1) (d:=(0,[]))];have:(∀x∈s.2.1,(1<=x.1/\x.1<=20)/\(db k x s.1).isSome=ab)↔∀x∈s.2.1,(decide (1<=x.1/\x.1<=20)&&(db k x s.1).isSome)=ab:=by grind
  rw[this,<-AS (d:=(0,[]))];constructor
  .intro h;exact⟨λi hi=>by have:=h i hi;simp only[jV,bS]at this⊢;grind,λi hi=>by have:=h i hi;simp only[jV,bS]at this;exact this.1.2⟩
  .intro h i hi;have a:=h.1 i hi;simp only[jV,bS]at a⊢;grind
 rw[r,o];constructor
 .rintro⟨⟨⟨⟨⟨⟨a,c⟩,e⟩,l,n⟩,g⟩,j⟩,m⟩;exact⟨a,c,e,l,n,g,j,m⟩
 .rintro⟨a,c,e,l,n,g,j,m⟩;grind
section
open Go.Proofs
variable {X:Cx ag}
def Lo{α:Type}{q:α->Bool}{l:List α}(h:l.any q=ab):0<=Ay q l:=by unfold Ay;grind
theorem Lp{α:Type}{q:α->Bool}{l:List α}(h:l.any q=ae):Ay q l=-1:=by unfold Ay;grind
def Lq(l:List (Int×Int))(b:Nat)(q:Int×Int->Bool)(f:∀x,x∈l->Ev X b [.e (.agg [.c (.int .i64 x.1),.c (.int .i64 x.2)])] [] (dB (q x)) []):
  Ev X 148 [cH.sl l,.e (.one (.c (.fn (.func b) [] [])))] [] (dI (Ay q l)) []:=by
 refine Ev.bQ Tryz.func148 rfl λm=>?_;have d:=m.sl 0 rfl;refine bu rfl aw ?_;refine AK.j0 (λi=>i<=l.length/\∀j,j<i->q (l.getD j (0,0))=ae) (λi:Nat=>[(0,cH.sl l),(1,.e (.one (.c (.fn (.func b) [] [])))),(7,dI l.length),(8,dI i)]) (λ_=>[]) (λi=>l.length-i) 0 rfl ?_ rfl aw ⟨by omega,by omega⟩ ?_
 .simp
 rintro i ⟨hi,a⟩;by_cases h:i<l.length
 .have n:l.getD i (0,0)∈l:=by grind
  have k:l.getD (i:Int).toNat cH.b7=l.getD i (0,0):=by grind
  refine aW [(9,ab)] rfl ?_ ?_
  .simp only[ay];grind
  rw[k];refine AK.cQ (f _ n) [] rfl ?_;cases g:q (l.getD i (0,0))with
  |true =>
   refine aW [(16,ab)] rfl ?_ (AK.iC (cw.zero rfl ?_))
   .simp
   .simp[OD h g a]
  |false =>
   refine aW [(16,ae)] rfl ?_ (AK.gj (i+1) rfl ?_ rfl aw ?_ ?_)
   .simp[bA];omega
   .simp
   .grind
   .omega
 .refine aW [(9,ae)] rfl (by simp;omega) (AK.leave rfl rfl ?_);refine bu rfl aw (AK.bx rfl ?_);simp[HS (λj o=>a j (by omega))]
def Lr(l:List (Int×Int))(a:Nat)(q:Int×Int->Bool)(b:∀x,x∈l->Ev X a [.e (.agg [.c (.int .i64 x.1),.c (.int .i64 x.2)])] [] (dB (q x)) []):
  Ev X 98 [cH.sl l,.e (.one (.c (.fn (.func a) [] [])))] [] (dB (l.any q)) []:=by
 refine Ev.bQ Tryz.func98 rfl λd=>?_;refine bu rfl aw ?_;refine AK.cQ (Lq l a q b) [] rfl ?_;cases h:l.any q with
 |true =>
  exact aW [(8,ab)] rfl (dc (Lo h)) (AK.bx rfl)
 |false =>
  exact aW [(8,ae)] rfl (iP (by grind[Lp])) (AK.bx rfl)
end
end Go.AM.R1
namespace Go.AM
def dZ.die{P:aq}{ι:Type}{X:Cx P}{f:aH}{args:List D}{E k n:Nat}{a:Nat->List C}{w:BP}{es:ι->Nat->List C}{m:ι->Nat}(h:dZ X f args [.buf E k n a] (λ_=>.e (.one (.bp 0 w))) (λi=>[.buf E k (m i) (es i)])):Ev X f args [.buf E k n a] (.e (.one (.bp 0 w))) [.dead] :=
 ⟨h.1,λs vs hr hh S cs hS=>h.2 s vs hr hh S cs λi fr v s' hl mh iX st=>hS fr v s' hl (by
  obtain⟨lv,h1,_,_⟩:gu _ _ _ (.bp 0 w):=mh;exact(⟨lv,h1,by simp,λ_ _ _ _ c=>by grind⟩:gu [.dead] s' v (.bp 0 w))) iX.lH
  ⟨st.size,st.fi,st.mem,st.iU,st.vb,λl B L hB hL=>by
   obtain⟨B',L',h1,h2,b⟩:=st.box l B L hB hL;cases l with
   |zero=>simp at hB;subst hB;exact⟨.dead,L',rfl,h2,aw⟩
   |succ l=>grind,st.os,st.tape,st.output,st.own⟩⟩
namespace R1
open Go.Proofs
variable {X:Cx ag}
def xu(h:sK):Ev X 100 [Zb h] [] (dB (gY h)) []:=by
 refine Ev.bQ Tryz.func100 rfl λb=>?_;have a:bF X []:=.nil;unfold gY;by_cases c1:h.1=1
 .by_cases c3:1<=h.2
  .exact aV a [(6,ab),(11,ab),(16,ab)] rfl (by simp[c1,c3]) (AK.bx rfl (by simp[c1,c3]))
  .exact aV a [(6,ab),(11,ab),(16,ae)] rfl (by simp[c1];omega) (AK.bx rfl (by simp[c3]))
 .by_cases c2:h.1=2
  .by_cases c3:1<=h.2
   .exact aV a [(6,ae),(11,ab),(16,ab)] rfl (by simp[c2,c3]) (AK.bx rfl (by simp[c2,c3]))
   .exact aV a [(6,ae),(11,ab),(16,ae)] rfl (by simp[c2];omega) (AK.bx rfl (by simp[c3]))
  .exact aV a [(6,ae),(11,ae),(16,ae)] rfl (by simp[c1,c2]) (AK.bx rfl (by
    have:¬(1<=h.1/\h.1<=2):=by omega
    simp only[ay,iP this];simp))
def Ih(h:sK):Ev X 99 [Zb h] [] (dB (!gY h)) []:=by refine Ev.bQ Tryz.func99 rfl λb=>?_;have a:bF X [(100,kq TV (λh=>dB (gY h)) λ_=>[])]:=.cons (.pD λh _=>xu h) .nil;exact cg a rfl aw (AK.bx rfl)
def Ii(l:List sK):k7 l=(decide (l.length<=9)&&!l.any λh=>!gY h):=by
 have:(bd l.length).all (λi=>gY (l.getD i (0,0)))=!l.any λh=>!gY h:=by rw[pZ,dz,j7,List.any_eq_false];grind[List.mem_iff_getElem]
 rw[k7,this,Bool.and_comm]
def Ij(l:List sK):Ev X 54 [cH.sl l] [] (dB (k7 l)) []:=by
 refine Ev.bQ Tryz.func54 rfl λd=>?_;have a:=Lr (X:=X) l 99 (λh=>!gY h) λx _=>Ih x;have b:bF X [(98,xc [cH.sl l,.e (.one (.c (.fn (.func 99) [] [])))] (dB (l.any λh=>!gY h)))]:=.cons (Ao a) .nil;rw[Ii];by_cases h:l.length<=9
 .exact aV b [(6,ab)] rfl ⟨rfl,dc (by omega)⟩ (AK.bx rfl (by simp[h]))
 .exact aV b [(6,ae)] rfl (by simp;omega) (AK.bx rfl (by simp[iP h]))
def GK:eb X 54 sL:=.pD λl _=>Ij l
def AL(p:bH)(d:p.2.length<=4000000):Ev X 151 [HG p] [] (cI.sl (p.2.map (·.1))) []:=by
 refine Ev.bQ Tryz.func151 rfl λf=>?_;refine aW [(1000002,ab)] rfl aw ?_;refine AK.iB 3 3 1 rfl rfl ?_;refine bu rfl aw ?_;refine AK.cC 2 (λi=>i<=p.2.length) (λi:Nat=>[(1,.e (.one (.ptr 0 0))),(3,.e (.one (.vec 1 1 i (cI.fn ((p.2.take i).map (·.1)))))),(7,dM.sl p.2),(8,dI p.2.length),(9,dI i)]) (λi=>[SR p,.vec 3 1 i (cI.fn ((p.2.take i).map (·.1)))]) (λi=>p.2.length-i) 0 rfl (by simp) rfl (by simp) rfl (by omega) ?_;intro i hi;by_cases h:i<p.2.length
 .have b:p.2.getD (i:Int).toNat dM.b7=gX p i:=by grind
  have a:(p.2.take (i+1)).map (·.1)=(p.2.take i).map (·.1)++[(gX p i).1]:=by grind[bT]
  have c:((p.2.take i).map (·.1)).length=i:=by grind
  have e:=cI.cj ((p.2.take i).map (·.1)) (gX p i).1;rw[c]at e;refine aW [(10,ab)] rfl ?_ (AK.aQ (i+1) rfl ?_ ?_ h (by omega))
  .simp only[ay,bA,show i3.bytes=8 from rfl];grind
  .rw[a];simp only[ay.cat,ay,b,aF,aD];and_intros<;>first|exact cy.same|exact e|rfl|omega
  .rw[a];simp only[ay.cat,ay,b,aF,aD];and_intros<;>first|exact cy.same|exact e|rfl|omega
 obtain rfl:i=p.2.length:=by omega
 rw[dh];refine aW [(10,ae)] rfl (by simp) (AK.leaveD rfl rfl ?_);exact bu rfl aw (AK.bx rfl)
abbrev CL:dv:=kq (Ey dM) (λp=>cI.sl (p.2.map (·.1))) λp=>[p.2.length<=4000000]
def LA:eb X 151 CL:=.pD λp h=>AL p h
def Ik(ps:List bH)(i:Nat):(bY (ps.take i)).length<=(bY ps).length:=by
 have:bY ps=bY (ps.take i)++bY (ps.drop i):=by unfold bY;grind[List.take_append_drop]
 grind
abbrev Zc(l:List Int):D:=.e (.one (.bp 0 (.sl l.length 1 0 l.length)))
def CM(ps:List bH)(n:∀p∈ps,p.2.length<=4000000)(q:(bY ps).length<=4000000):Ev X 103 [cP.sl ps] [] (Zc (bY ps)) [IX (bY ps).length (bY ps)]:=by
 refine Ev.bQ Tryz.func103 rfl λl=>?_;have k:=l.sl 0 rfl;have f:bF X [(151,CL)]:=.cons LA .nil;refine aV f [(1000002,ab)] rfl aw ?_;refine AK.Vg 3 3 1 (cI.fn []) rfl ?_;refine cg f rfl aw ?_;refine AK.cC 1 (λi=>i<=ps.length) (λi:Nat=>[(3,.e (.one (.bp 0 (.sl (bY (ps.take i)).length 1 0 (bY (ps.take i)).length)))),(6,cP.sl ps),(7,dI ps.length),(8,dI i)]) (λi=>[IX (bY (ps.take i)).length (bY (ps.take i))]) (λi=>ps.length-i) 0 rfl (by simp[bY]) rfl (by simp[cy,bY]) rfl (by omega) ?_;intro i hi;by_cases h:i<ps.length
 .have g:ps.getD (i:Int).toNat cP.b7=ps.getD i (0,[]):=by grind
  have b:=xt h;have c:=Ik ps (i+1);have m:=n _ (lQ (d:=(0,[])) h);generalize ps.getD i (0,[])=p at *;rw[b]at c;generalize bY (ps.take i)=a at *;have e:=cI.SX a (p.2.map (·.1)) _ rfl;simp only[cA,lh]at c e;refine aV f [(9,ab)] rfl ?_ (AK.aQ (i+1) rfl ?_ ?_ h (by omega))
  .simp only[ay,g,bA,dM.list_fn,dM.aM,lh,show i3.bytes=8 from rfl];grind
  .rw[b];simp only[ay.cat,ay,g,dM.list_fn,cA,lh,aF,aD];and_intros<;>first|exact cy.same|rfl|omega
  .rw[b];simp only[ay.cat,ay,g,dM.list_fn,cA,lh,aF,aD];grind
 obtain rfl:i=ps.length:=by omega
 rw[dh];refine aV f [(9,ae)] rfl (by simp) (AK.leaveD rfl rfl ?_);refine cg f rfl aw (AK.cY [0] rfl ?_ rfl rfl rfl (λj o=>absurd o (by simp)));simp
def Il(ps:List bH)(b:∀p∈ps,p.2.length<=4000000)(a:(bY ps).length<=4000000):Ev X 103 [cP.sl ps] [] (cI.sl (bY ps)) [] :=
 Ev.Kq (σ1:=[]) (E:=3) (k:=1) (n:=(bY ps).length) (es:=cI.fn (bY ps)) (CM ps b a) rfl (by simp) rfl (bg _)
end R1
end Go.AM
namespace Go.AM.R1
section
open Go.Proofs
variable {X:Cx ag}
def xw(s:bo):Ev X 49 [qN s] [] (qN s) []:=by refine Ev.qJ Tryz.func49 rfl rfl rfl λa=>?_;refine bu rfl (by simp) ?_;refine AK.freeze 2 1 rfl rfl rfl ?_;exact AK.Bx tok [] rfl (by simp) rfl rfl rfl (λj b=>absurd b (by simp))
abbrev LB:dv:=kq TX (λs=>qN s) λ_=>[]
def SY:eb X 49 LB:=.pD λs _=>xw s
abbrev IT(s:bo):aP:=.cells 96 [.c (.sl ae 2 s.1.length (cP.fn s.1)),.c (.sl ae 2 s.2.1.length (fL.fn s.2.1)),.c (.sl ae 2 s.2.2.length (cH.fn s.2.2))]
structure OZ(s:bo):Prop extends SmS s where
 pk:∀p∈s.1,p.2.length<=4000000
 nm:(bY s.1).length<=4000000
def y0(k:Int)(s:bo):Bool:=(bd s.1.length).all (mc k s.1)&&decide (s.1.length<=20)&&decide (bY s.1).Nodup
def EY(k:Int)(s:bo)(hk:b6 k=ab)(b:OZ s):Ev X 56 [qN s,dI k] [] (dB (y0 k s)) []:=by
 refine Ev.bQ Tryz.func56 rfl λD=>?_;have C:=b.pN;have y:=b.pk;have w:=Il (X:=X) s.1 b.pk b.nm;have n:bF X [(102,Ar)]:=.cons Gr .nil;refine cg n rfl aw ?_;unfold y0;refine AK.cC 1 (λi=>i<=s.1.length/\∀j,j<i->mc k s.1 j=ab) (λi:Nat=>[(1,dI k),(2,.e (.one (.ptr 0 0))),(9,cP.sl s.1),(10,dI s.1.length),(11,dI i)]) (λ_=>[IT s]) (λi=>s.1.length-i) 0 rfl (by simp) rfl (by simp) rfl ⟨by omega,by omega⟩ ?_;rintro i ⟨hi,a⟩;by_cases h:i<s.1.length
 .have v:s.1.getD i cP.b7=s.1.getD i (0,[]):=rfl;have t:s.1.getD (i-1) cP.b7=s.1.getD (i-1) (0,[]):=rfl;have g:mc k s.1 i=(gk k (s.1.getD i (0,[]))&&CJ (·.1) (0,[]) s.1 i):=rfl;have r:=qz (f:=λp:bH=>p.1) (d:=(0,[])) (l:=s.1) (i:=i);have c:=y _ (lQ (d:=(0,[])) h);generalize s.1.getD i (0,[])=p at *;generalize s.1.getD (i-1) (0,[])=p' at *;cases o:gk k p with
  |false =>
   rw[o,rN]at g;refine aV n [(12,ab),(20,ab),(35,ab)] rfl ?_ (AK.fJ (cw.zero rfl ?_))
   .simp[-an,v,hk,c,o,dM.list_fn,dM.aM];omega
   .rw[iH h g];simp
  |true =>
   rw[o,fH]at g;by_cases z:i=0
   .subst z;refine aV n [(12,ab),(20,ae),(23,ae),(35,ae)] rfl ?_ (AK.aQ 1 rfl (by simp) (by simp) ⟨h,jU a (by rw[g];rfl)⟩ (by omega));simp[-an,v,hk,c,o,dM.list_fn,dM.aM,bA];omega
   have r:=r z;by_cases F:p'.1<p.1
   .refine aV n [(12,ab),(20,ae),(23,ab),(33,ae),(35,ae)] rfl ?_ (AK.aQ (i+1) rfl (by simp) (by simp) ⟨h,jU a (by grind)⟩ (by omega));simp[-an,v,t,hk,c,o,dM.list_fn,dM.aM,bA];omega
   .refine aV n [(12,ab),(20,ae),(23,ab),(33,ab),(35,ab)] rfl ?_ (AK.fJ (cw.zero rfl ?_))
    .simp[-an,v,t,hk,c,o,dM.list_fn,dM.aM,bA];omega
    .rw[iH h (by grind)];simp
 obtain rfl:i=s.1.length:=by omega
 rw[dz.2 a,fH];refine aV n [(12,ae)] rfl (by simp) (AK.leaveD rfl rfl ?_);refine cg n rfl aw ?_;refine AK.cQ (CM s.1 b.pk b.nm) [] rfl ?_;refine cg n rfl aw ?_;refine AK.cQ (LC (bY s.1) b.nm) [1] rfl ?_;have A:=AN (bY s.1);have u:=(EZ (X:=X) (oO (bY s.1)) (by rw[lK];exact b.nm)).die;rw[lK]at u;have x:=AO (oO (bY s.1));rw[lK]at x;have B:=b.nm;generalize ez (oO (bY s.1))=cs at *;generalize oO (bY s.1)=so at *;have sY:bF X [(105,yE [kH (bY s.1).length] [IX (bY s.1).length so] (.e (.one (.bp 0 (.sl (bY s.1).length 1 0 cs.length)))) [.dead]),(103,xc [cP.sl s.1] (cI.sl (bY s.1)))]:=.cons (Cg u) (.cons (Ao w) .nil);refine aV sY [(1000009,ab)] rfl aw ?_;by_cases q:s.1.length<=20
 rotate_left
 .refine aV sY [(46,ae)] rfl ?_ (AK.bx rfl ?_)
  .simp;omega
  .simp[q]
 have m:(s.1.length:Int)<=20:=by omega
 generalize E:bY s.1=N at *;refine AK.M6 (ι:=Unit) iZ 6 (λi=>match bw i 5 with|true=>ab|false=>match aA i 8 with|true=>ab|false=>aA i 9) (λi=>[.e (.one (.ptr 0 0)),cP.sl s.1,dI s.1.length,dB (decide ((s.1.length:Int)<=20)),dB ab,.e (.one (.bp 1 (.sl N.length 1 0 N.length))),.any,.any,.e (.one (.ptr 0 0)),cP.sl s.1].getD i .any)
  (λ_ i=>[.any,.any,.any,.any,.any,.any,.e (.one (.bp 1 (.sl N.length 1 0 cs.length))),dI cs.length,.any,.any,cI.sl N,dI N.length,dB ((cs.length:Int)==N.length),dB ((cs.length:Int)==N.length),dB ((cs.length:Int)==N.length)].getD i .any) (λ_=>[IT s,.dead]) rfl rfl rfl rfl rfl rfl ?_ ?_ ?_ ?_
 .exact⟨.cV tok sY rfl,.cV tok sY rfl,.cV tok sY rfl,.cV tok sY rfl,.eval tok sY (ds:=[(46,ab)]) rfl (dc m),.cV tok sY rfl,aw,aw,.cV tok sY rfl,.cV tok sY rfl,aw,aw,aw,aw,aw,aw⟩
 .intro _;exact⟨.cV tok sY rfl,.cV tok sY rfl,.cV tok sY rfl,.cV tok sY rfl,.eval tok sY (ds:=[(46,ab)]) rfl (dc m),.cV tok sY rfl,aw,.cV tok sY rfl,.cV tok sY rfl,.cV tok sY rfl,.eval tok sY (ds:=[]) rfl rfl,.cV tok sY rfl,.cV tok sY rfl,.cV tok sY rfl,.cV tok sY rfl,aw⟩
 .exact .zZ (gD tok sY (ds:=[]) (σ':=aa [IT s,.dead]) rfl ⟨rfl,rfl⟩)
 .intro _;refine cg sY rfl aw (AK.bx rfl ?_);have:((cs.length:Int)==N.length)=decide N.Nodup:=by grind
  simp[this,q]
end
def oC{α a:Type}{f:α->List a}{n:Nat}:∀{l:List α},(∀x∈l,(f x).length<=n)->(l.flatMap f).length<=n*l.length
 |[],_=>by simp
 |x::l,h=>by have d:=h x mU;have c:=oC (l:=l) λy b=>h y (qU _ b);grind[Nat.mul_succ]
def E7{x:gG}(h:x.2.length<=6/\∀y∈x.2,y.2.length<=40):(AJ x.2).length<=240:=by have:=oC (f:=λy:jS=>y.2) (n:=40) h.2;unfold AJ;omega
end Go.AM.R1
namespace Go.AM
def MP{α:Type}(d:α){P:Nat->α->Prop}:∀n:Nat,(∀i,i<n->∃x,P i x)->∃l:List α,l.length=n/\∀i,i<n->P i (l.getD i d)
 |0,_=>⟨[],rfl,λi hi=>absurd hi (fQ _)⟩
 |n+1,h=>by obtain⟨l,e,a⟩:=MP d n λi hi=>h i (by omega);obtain⟨x,c⟩:=h n (by omega);refine⟨l++[x],by grind,λi hi=>?_⟩;grind
inductive Fit (M:Mem) (b o:Nat) (u:ah) (x:Int):Prop
 |int (n:Int) (h:M b o=aa (.int .i64 n)) (hu:∀M',Rd M' u (.int .i64 x))
 |str (s:ByteArray) (h:M b o=aa (.string s)) (l:List UInt8) (hu:∀M',Rd M' u (.str l))
section
variable {M:Mem}{b o m g:Nat}{u v:ah}{x:Int}
def Fit.i(h:Fit M b o u x){n:Int}(c:M m g=aa v)(d:Rd M v (.int .i64 n)):∃a v',M.up b o u m g=aa v'/\(∀M',Rd M' v' (.int .i64 a))/\(a=n∨a=x):=by
 unfold Mem.up;by_cases e:m=b/\g=o
 .obtain⟨rfl,rfl⟩:=e;rw[bl ⟨rfl,rfl⟩];cases h with
  |int _ _ f=>exact⟨x,u,rfl,f,.inr rfl⟩
  |str s h=>rw[h]at c;cases c;cases d
 .rw[aY e,c];cases d with
  |int h=>exact⟨n,_,rfl,λ_=>.int h,.inl rfl⟩
def Fit.s(h:Fit M b o u x){l:List UInt8}(a:M m g=aa v)(c:Rd M v (.str l)):∃l' v',M.up b o u m g=aa v'/\∀M',Rd M' v' (.str l'):=by
 unfold Mem.up;by_cases e:m=b/\g=o
 .obtain⟨rfl,rfl⟩:=e;rw[bl ⟨rfl,rfl⟩];cases h with
  |int n h=>rw[h]at a;cases a;cases c
  |str _ _ l' hu=>exact⟨l',u,rfl,hu⟩
 .rw[aY e,a];cases c with
  |str h1 h2=>exact⟨l,_,rfl,λ_=>.str h1 h2⟩
def Fit.l(h:Fit M b o u x){t:Bool}{k n:Nat}{es:Nat->List C}(a:M m g=aa v)(c:Rd M v (.sl t k n es)):M.up b o u m g=aa v:=by
 unfold Mem.up;by_cases e:m=b/\g=o
 .obtain⟨rfl,rfl⟩:=e;cases h with
  |int n h=>rw[h]at a;cases a;cases c
  |str s h=>rw[h]at a;cases a;cases c
 grind
end
namespace R1
open Go.Proofs
def two{α:Type}{P:Nat->α->Prop}{x y:α}(d:P 0 x)(a:P 1 y):∀j c,[x,y][j]?=aa c->P j c
 |0,_,h=>by grind
 |1,_,h=>by grind
def PH{M:Mem}{b o:Nat}{u:ah}{x:Int}(h:Fit M b o u x){v:ah}{e:List bm}(B:Rd M v (.sl ae 2 e.length (dM.fn e))):∃d:List bm,d.length=e.length/\Rd (M.up b o u) v (.sl ae 2 d.length (dM.fn d)):=by
 obtain⟨a,cap,k,n,rfl,z,H,q,K,p⟩:=B.Ef;obtain⟨l,f,I⟩:=MP (0,[]) (P:=λi (y:bm)=>∀(j:Nat) (c:C),[C.int .i64 y.1,.str y.2][j]?=aa c->∃w,M.up b o u k (n+i*2+j)=aa w/\Rd (M.up b o u) w c) e.length λi hi=>by obtain⟨w0,A,r0⟩:=p i hi 0 _ rfl;obtain⟨w1,r,D⟩:=p i hi 1 _ rfl;obtain⟨E,v0,J,F,_⟩:=h.i A r0;obtain⟨l',v1,t,G⟩:=h.s r D;exact⟨(E,l'),two (P:=λj c=>∃w,M.up b o u k (n+i*2+j)=aa w/\Rd (M.up b o u) w c) ⟨v0,J,F _⟩ ⟨v1,t,G _⟩⟩
 exact⟨l,f,by rw[f];exact .RQ z H q (λ_ _=>rfl) I⟩
structure Xn(x:Int)(ps T7:List bH):Prop where
 len:T7.length=ps.length
 at':∀i,i<ps.length->(T7.getD i (0,[])).2.length=(ps.getD i (0,[])).2.length/\((T7.getD i (0,[])).1=(ps.getD i (0,[])).1∨(T7.getD i (0,[])).1=x)
def MQ{M:Mem}{b o:Nat}{u:ah}{x:Int}(h:Fit M b o u x){v:ah}{ps:List bH}(E:TC v ps M):∃e,Xn x ps e/\TC v e (M.up b o u):=by
 obtain⟨a,cap,n,q,rfl,B,I,s,L,r⟩:=Rd.Ef E;obtain⟨l,f,p⟩:=MP (0,[]) (P:=λi (y:bH)=>(y.2.length=(ps.getD i (0,[])).2.length/\(y.1=(ps.getD i (0,[])).1∨y.1=x))/\∀(j:Nat) (c:C),[C.int .i64 y.1,sP y][j]?=aa c->∃w,M.up b o u n (q+i*2+j)=aa w/\Rd (M.up b o u) w c) ps.length λi hi=>by obtain⟨w0,D,r0⟩:=r i hi 0 _ rfl;obtain⟨w1,t,k⟩:=r i hi 1 _ rfl;obtain⟨F,v0,J,G,z⟩:=h.i D r0;have A:=h.l t k;obtain⟨d,K,H⟩:=PH h k;exact⟨(F,d),⟨K,z⟩,two (P:=λj c=>∃w,M.up b o u n (q+i*2+j)=aa w/\Rd (M.up b o u) w c) ⟨v0,J,G _⟩ ⟨w1,A,H⟩⟩
 refine⟨l,⟨f,λi hi=>(p i hi).1⟩,?_⟩;show Rd _ _ (.sl ae 2 l.length (cP.fn l));rw[f];exact .RQ B I s (λ_ _=>rfl) λi hi=>(p i hi).2
structure Dj(s:bo):Prop where
 p:∀p∈s.1,p.2.length<=4/\0<=p.1/\p.1<=99
 pl:s.1.length<=20
 ex:∃ps,D7 (ps,s.2)
def D7.WK{s:bo}(h:D7 s):Dj s:=⟨λp a=>by have h1:=(h.p p a).len;have h2:=(h.p p a).no;omega,h.pl,s.1,h⟩
def Dj.spo{s:bo}(h:Dj s){c:List bH}(d:Xn 0 s.1 c):Dj (c,s.2):=by
 refine⟨λp e=>?_,by rw[d.len];exact h.pl,h.ex⟩;obtain⟨i,hi,rfl⟩:=nZ.1 e;have a:i<s.1.length:=by rw[<-d.len];exact hi
 have h1:=d.at' i a;have h2:=h.p _ (ff a (0,[]));grind
def Dj.sub{s:bo}(h:Dj s){a:List bH}(c:∀p∈a,p∈s.1)(hl:a.length<=s.1.length):Dj (a,s.2):=⟨λp d=>h.p p (c p d),im hl h.pl,h.ex⟩
def Dj.size{s:bo}(h:Dj s):l8 s:=by obtain⟨ps,d⟩:=h.ex;have a:=d.size;have h1:=h.pl;exact⟨by omega,λp c=>by have:=(h.p p c).1;omega,a.sn,a.s2,a.h⟩
def Dj.num{s:bo}(h:Dj s):sE s:=by obtain⟨ps,d⟩:=h.ex;have a:=d.num;exact⟨λp c=>by have:=(h.p p c).2;omega,a.s,a.h⟩
def Dj.smT{s:bo}(h:Dj s):OZ s:=by
 obtain⟨ps,c⟩:=h.ex;have a:=h.size;have h1:=h.pl;have r:(bY s.1).length<=4*s.1.length:=oC λp l=>by rw[lh];exact(h.p p l).1
 have i:=c.sl;have q:(QI s.2.1).length<=240*s.2.1.length:=oC λx n=>by obtain⟨no,t,_,_,j,rfl⟩:=(c.s x n).ex;have d:=mO.1 j;refine E7 ⟨by simpa[fA]using d.2.2.2,λy k=>?_⟩;obtain⟨f,e,rfl⟩:=kB.1 k;have h1:=(d.1 f e).2;simp only[ee,bS,aZ]at h1;have h2:=ku f.2;show((pieces f.2).map _).length<=40;grind
 refine⟨⟨a.p,a.s2,a.sn,?_⟩,a.p2,by omega⟩;grind
end R1
def dT.q4b{P:aq}{X:Cx P}{N:Nat}{all:List ar}{φ:Fr}{x:Nat->D}{e:Bool->Bool->Bool->Bool->List aP}{i j g f d:Nat}{o:ar}(h1:aA j i=ae)(h2:aA g i=ae)(k:aA f i=ae)(l:aA d i=ae)(m:fS all d i=ab)(h:∀a b c,OA X N all o (jX all φ x i) (e a b c ae) (x i) (e a b c ae)):dT X N all φ x (pr e j g f d) i o:=by intro D hT hF;grind[rm]
namespace R1
open Go.Proofs
variable {X:Cx ag}[X.gZ]
abbrev SpI(k:Nat):={q:bo×Nat // Dj q.1/\k<=q.2/\q.2<=k+1100}
def Dj.del{s:bo}(h:Dj s)(i:Nat):Dj (s.1.take i++s.1.drop (i+1),s.2):=h.sub (λp a=>by grind) (by grind)
def qC{M:Mem}{b o cap:Nat}{ps:List bH}{i:Nat}(h:TC (.slice (aa ⟨b,o,af⟩) ps.length cap) ps M)(hi:i<ps.length):(∃n,M b (o+i*2)=aa (.int .i64 n))/\∃w,M b (o+i*2+1)=aa w/\Rd M w (sP (ps.getD i (0,[]))):=by obtain⟨a,c2,k,l,e,_,_,d,_,c⟩:=Rd.Ef h;cases e;cases d (by omega);obtain⟨w0,j,r0⟩:=c i hi 0 _ rfl;obtain⟨w1,g,f⟩:=c i hi 1 _ rfl;refine⟨?_,w1,g,f⟩;cases r0;grind
theorem G6{M:Mem}{c o cap:Nat}{b:List bm}(h:Rd M (.slice (aa ⟨c,o,af⟩) b.length cap) (.sl ae 2 b.length (dM.fn b)))(hi:0<b.length):∃s,M c (o+0*2+1)=aa (.string s):=by obtain⟨a,c2,j,k,e,_,_,d,_,g⟩:=h.Ef;cases e;cases d hi;obtain⟨w1,i,f⟩:=g 0 hi 1 _ rfl;cases f;grind
abbrev mY(s:bo)(i:Nat):Nat:=cO s.1.length (aa (i:Int))-cO 0 af
abbrev wX(s:bo)(i:Nat):Nat:=cO s.1.length af-cO 0 (aa ((i:Int)+1))
abbrev D8(s:bo):Nat->List C:=jJ (cO 0 af) (cP.fn s.1)
abbrev zq(s:bo)(i:Nat):Nat->List C:=jJ (cO 0 (aa ((i:Int)+1))) (cP.fn s.1)
abbrev bf1(s:bo)(i:Nat):aP:=.buf 67 2 (0+mY s i) (cE 0 (λi=>([]:List (List C)).getD i []) (D8 s))
abbrev Xo(s:bo)(i:Nat):aP:=.buf 67 2 (0+mY s i+wX s i) (cE (0+mY s i) (cE 0 (λi=>([]:List (List C)).getD i []) (D8 s)) (zq s i))
def b9S(m:Nat)(b:Nat->Int)(k:Int)(s:bo)(i:Nat)(a c d e:Bool):List aP :=
 match a,c,d,e with
 |true,ab,ab,ab=>[k6 m b k,jq,yh,.cells 27 [.bp 4 (.sl (0+mY s i+wX s i) 2 0 (0+mY s i+wX s i)),.c (EL s.2.1),.c (Co s.2.2)],Xo s i]
 |true,ab,ab,ae=>[k6 m b k,jq,yh,xR s,Xo s i]
 |true,ab,ae,_=>[k6 m b k,jq,yh,xR s,Xo s i]
 |true,ae,_,_=>[k6 m b k,jq,yh,xR s,bf1 s i]
 |false,_,_,_=>[k6 m b k,jq,yh,xR s]
abbrev x9S(s:bo)(i j:Nat):D :=
 [.e (.one (.c (.sl ab 2 0 λi=>([]:List (List C)).getD i []))),.e (.one (.ptr 3 0)),cP.sl s.1,dI i,.e (.one (.c (.sl ae 2 (mY s i) (D8 s)))),.e (.one (.bp 4 (.sl (0+mY s i) 2 0 (0+mY s i)))),
  .e (.one (.ptr 3 0)),cP.sl s.1,dI i,dI ((i:Int)+1),.e (.one (.c (.sl ae 2 (wX s i) (zq s i)))),.e (.one (.bp 4 (.sl (0+mY s i+wX s i) 2 0 (0+mY s i+wX s i)))),.e (.one (.ptr 3 0)),.any].getD j .any
set_option maxRecDepth 20000 in
def Dk(m:Nat)(b:Nat->Int)(T:Bytes b)(k:Nat)(hk:k<=40000)(S:m<=1048576):
  dZ (ι:=SpI k) X 20 [.e (.one (.ptr 0 0))] [k6 m b k] (λq=>qN q.1.1) (λq=>[k6 m b q.1.2]):=by
 refine dZ.qJ tok Tryz.func20 rfl rfl rfl λhf=>?_;refine bu rfl aw ?_;refine AK.cP (Di m b T k hk S) [0] rfl (λ_=>rfl) ?_;rintro⟨⟨s,v,k1⟩,y,G,F⟩;simp only at y G F;refine aW [(1000002,ab)] rfl aw ?_;have hpl:=y.pl;by_cases U:s.1.length=0
 .refine AK.tD 2 3 0 (E:=67) (k:=2) (cl:=HT s.1) (by decide) rfl rfl rfl (λ_ h=>h) ?_;refine aW [(10,ab)] rfl (by simp[U]) ?_;refine AK.l4 ⟨(s,k1),y.WK,G,by grind⟩ [0] rfl rfl rfl rfl rfl rfl rfl rfl ?_ rfl rfl rfl rfl ic;simp
 refine AK.fact (PM.of (l:=2) (p:=∃a cap b' o,v=.slice a s.1.length cap/\(0<s.1.length->a=aa ⟨b',o,af⟩)) rfl λM f=>?_) ?_
 .grind [Rd.Ef]
 rintro⟨a,cap,b',o,rfl,ha⟩;obtain rfl:=ha (by omega);refine aW [(10,ae)] rfl (by simp[U];omega) ?_;refine AK.cP (gy m b T k1 s.1.length (by omega) S (by omega)) [0] rfl (λ_=>rfl) ?_;rintro⟨i,i0,t⟩;obtain⟨i,rfl⟩:=Int.eq_ofNat_of_zero_le i0;have t:i<s.1.length:=by omega
 refine bu rfl aw ?_;refine AK.cP (gy m b T (k1+1) 24 (by omega) S (by omega)) [0] rfl (λ_=>rfl) ?_;rintro⟨w,w0,w1⟩;refine aW [(1000006,ab)] rfl aw ?_;have B:0<(s.1.getD i (0,[])).2.length:=y.ne _ (ff t (0,[]));by_cases I:w=0
 .have o4:ay (fR s.1.length af (aa (i:Int))):=by simp only[fR,ay];omega
  have o9:ay [bA .i64 ((i:Int)+1)]:=by simp only[ay,bA];omega
  have Q:ay (fR s.1.length (aa ((i:Int)+1)) af):=by simp only[fR,ay];omega
  have V:mY s i=i:=by show((i:Int)).toNat-0=i;omega
  have e2:wX s i=s.1.length-(i+1):=by show s.1.length-((i:Int)+1).toNat=_;omega
  have o5:ay [(0+mY s i)*i67.bytes<=140737488355328]:=by rw[show i67.bytes=32 from rfl,V];simp only[ay];omega
  have N:ay [0+mY s i=0+mY s i,0+mY s i=0+mY s i,(0+mY s i+wX s i)*i67.bytes<=140737488355328]:=by refine⟨rfl,rfl,?_⟩;rw[show i67.bytes=32 from rfl];simp only[ay];omega
  refine AK.tD 2 3 0 (E:=67) (k:=2) (cl:=HT s.1) (by decide) rfl rfl rfl (λ_ h=>h) ?_;refine aW [(20,ab),(1000007,ab)] rfl (by simp[I]) ?_;refine AK.flags iZ (x9S s i) (pr (b9S m b (k1+1+1:Nat) s i) 5 11 12 13) rfl rfl rfl rfl
   ⟨.qF tok bF.nil,
   .qF tok bF.nil,
   dT.q4b rfl rfl rfl rfl rfl (λa b c=>by cases a<;>cases b<;>cases c<;>exact OA.cV tok bF.nil rfl),
   .qF tok bF.nil,
   .W9 tok bF.nil o4,
   dT.c1 rfl rfl rfl rfl rfl rfl (gD (ds:=[(3000026,ab)]) tok bF.nil (σ':=aa _) rfl o5),
   .qF tok bF.nil,
   dT.q4b rfl rfl rfl rfl rfl (λa b c=>by cases a<;>cases b<;>cases c<;>exact OA.cV tok bF.nil rfl),
   .qF tok bF.nil,
   .W9 tok bF.nil o9,
   .W9 tok bF.nil Q,
   dT.c2 rfl rfl rfl rfl rfl rfl (gD (ds:=[]) tok bF.nil (σ':=aa _) rfl N),
   dT.c3 rfl rfl rfl rfl rfl rfl (OA.cV tok bF.nil rfl),
   dT.c4 rfl rfl rfl rfl rfl rfl (gD (ds:=[]) tok bF.nil (σ':=aa _) rfl aw),aw⟩ ?_
  intro D r;show AK X _ _ _ _ _ (b9S m b (k1+1+1:Nat) s i (D 5) (D 11) (D 12) (D 13));rw[r 5 (by decide),r 11 (by decide),r 12 (by decide),r 13 (by decide)];refine AK.BU (φ':=[(2,.e (.one (.ptr 1 0))),(3,.e (.one (.ptr 3 0)))]) (σ':=[k6 m b (k1+1+1:Nat),jq,yh,.cells 27 [.bp 4 (.sl (0+mY s i+wX s i) 2 0 (0+mY s i+wX s i)),.c (EL s.2.1),.c (Co s.2.2)],Xo s i]) ?_ rfl (by simp) rfl (by simp);refine AK.oK 4 rfl rfl rfl (by simp) (by simp) ?_;refine bu rfl aw ?_;refine AK.l4 ⟨((s.1.take i++s.1.drop (i+1),s.2),k1+1+1),y.WK.del i,by grind,by grind⟩ [0] rfl rfl rfl rfl rfl rfl rfl rfl ?_ rfl rfl rfl rfl ic;simp only[ay.cat,ay];refine⟨⟨by grind,λj hj=>?_⟩,⟨aw,.same⟩,⟨aw,.same⟩,aw⟩;show cE (0+mY s i) (cE 0 (λi=>([]:List (List C)).getD i []) (D8 s)) (zq s i) j=_;rw[V,bC];simp only[cE,D8,zq,jJ,cO,bC,fQ,b9,lF,kF.fn,ya,show((i:Int)+1).toNat=i+1 by omega];grind
 by_cases A:w=1
 .refine aW [(20,ae),(35,ab)] rfl (by simp[A];omega) ?_;refine AK.hand _ _ rfl rfl (dO.RR tok 2 rfl rfl (λ_=>rfl) rfl rfl (λM f=>?_)) λw1=>?_
  .obtain⟨_,w,g,q2⟩:=qC f t;exact⟨w,g,q2.cell⟩
  refine AK.Jb (PM.of (l:=2) (p:=∃Y W c2,w1=.slice (aa ⟨Y,W,af⟩) (s.1.getD i (0,[])).2.length c2) rfl λM f=>?_) ?_
  .obtain⟨_,w,g,q2⟩:=qC f.1 t;cases g.symm.trans f.2;grind[Rd.Ef]
  rintro⟨Y,W,c2,rfl⟩;refine bu rfl (by simp only[ay];omega) ?_;refine AK.hand _ _ rfl rfl (dO.Gc tok 2 rfl rfl rfl rfl rfl rfl rfl (λM f=>?_)) ?_
  .obtain⟨_,w,g,q2⟩:=qC f.1 t;cases g.symm.trans f.2;grind[G6]
  rintro⟨u,O⟩;refine aW [(1000012,ab)] rfl aw ?_;refine AK.Nt (ι:={d:List bH // Xn 0 s.1 d}) 2 (λq=>PM (TC (.slice (aa ⟨b',o,af⟩) s.1.length cap) q.1)) rfl (λ_ ch K=>?_) ?_
  .obtain⟨R,P,M,f,Z⟩:=K;obtain⟨_,w,g,q2⟩:=qC f.1 t;cases g.symm.trans f.2;obtain⟨s0,L⟩:=G6 q2 B;obtain⟨d,J,p2⟩:=MQ (x:=0) (Fit.str s0 L _ O) f.1;exact⟨⟨d,J⟩,R,P,by grind⟩
  rintro⟨d,z⟩;refine AK.tD 2 3 0 (E:=67) (k:=2) (cl:=HT d) (by decide) rfl rfl rfl (λ_ h=>by grind) ?_;refine bu rfl aw ?_;refine AK.l4 ⟨((d,s.2),k1+1+1),y.WK.spo z,by grind,by grind⟩ [0] rfl rfl rfl rfl rfl rfl rfl rfl ?_ rfl rfl rfl rfl ic;simp
 by_cases H:w=2
 .refine aW [(20,ae),(35,ae),(45,ab)] rfl (by simp[H];omega) ?_;refine AK.hand _ _ rfl rfl (dO.Gc tok 2 rfl rfl rfl rfl rfl rfl rfl (λM f=>?_)) ?_
  .obtain⟨⟨n,g⟩,_⟩:=qC f t;exact⟨_,g⟩
  rintro⟨u,O⟩;refine aW [(1000012,ab)] rfl aw ?_;refine AK.Nt (ι:={d:List bH // Xn 0 s.1 d}) 2 (λq=>PM (TC (.slice (aa ⟨b',o,af⟩) s.1.length cap) q.1)) rfl (λ_ ch K=>?_) ?_
  .obtain⟨R,P,M,f,Z⟩:=K;obtain⟨⟨n,g⟩,_⟩:=qC f t;obtain⟨d,J,p2⟩:=MQ (x:=0) (Fit.int n g O) f;exact⟨⟨d,J⟩,R,P,by rw[Z];exact p2⟩
  rintro⟨d,z⟩;refine AK.tD 2 3 0 (E:=67) (k:=2) (cl:=HT d) (by decide) rfl rfl rfl (λ_ h=>by grind) ?_;refine bu rfl aw ?_;refine AK.l4 ⟨((d,s.2),k1+1+1),y.WK.spo z,by grind,by grind⟩ [0] rfl rfl rfl rfl rfl rfl rfl rfl ?_ rfl rfl rfl rfl ic;simp
 refine AK.tD 2 3 0 (E:=67) (k:=2) (cl:=HT s.1) (by decide) rfl rfl rfl (λ_ h=>h) ?_;refine aW [(20,ae),(35,ae),(45,ae)] rfl (by simp[I,A,H]) ?_;refine AK.l4 ⟨(s,k1+1+1),y.WK,by grind,by grind⟩ [0] rfl rfl rfl rfl rfl rfl rfl rfl ?_ rfl rfl rfl rfl ic;simp
end R1
section
open Go.Conc (G)
def dJ(g:Nat)(E:aj)(v:ah):ah->(Nat->Option Obj)->Prop:=λu a=>u=.pointer (aa ⟨g,0,af⟩)/\a g=aa (.cells #[v] E (0,0))/\∀b,b≠g->a b=af
section
variable {P:aq}{X:Cx P}{N:Nat}{φ:Fr}{σ:List aP}{all:List ar}{o:ar}{T:List (Nat×TI)}
def OA.JS(hT:cT P T){t g:Nat}(l:Nat){E:aj}{v:ah}{i:TI}(C:qK all φ o=ab)(F:o.op=.load t (.global g))(hl:dw l σ=aa (.cf (dJ g E v)))(hi:bD T t=aa i)(J:cJ v=ab)(G:kP i [.c (.val v)]=aa (.one (.c (.val v)))):
  OA X N all o φ σ (.e (.one (.c (.val v)))) σ:=by
 intro s a f hh b k cs S q rest hb hq hK;refine rl hb hq (fI C _ _ _ f) λh y=>?_;have d:=hh.rely y;have hB:=b5 hl;have z:l<h.β.length:=by rw[d.len];grind
 have A:=br z;generalize h.β[l]=L at A;obtain⟨ch,⟨h1,h2,Q⟩,M,O,R⟩:=d.box l _ L hB A;have I:=M g _ h2;have K:g∈L.bs:=(O g).2 (by grind)
 have x:a.eval (.global g)=.pointer (aa ⟨g,0,af⟩):=rfl;have B:dW σ h [v] [.c (.val v)]:=⟨Rd.val J,aw⟩;obtain⟨u,m,D⟩:=iA (s:=h) (σ:=σ) (P:=P) (hT t i hi) (b:=g) (off:=0) (vs:=[v]) (cs:=[.c (.val v)]) (e:=.one (.c (.val v))) (λj w hj=>by
  simp only[aU,I]
  grind) B G
 refine⟨.value u,h,u,by simp[av,F,x,Instr.loadAt,bn,m],.inl rfl,⟨⟨σ,σ,d,d,.refl _ _⟩,?_⟩,hK u h D d y.stepW⟩;intro H r;have p:H∈(loadVar t ⟨g,0,af⟩).events P h.w #[]:=by
  have e:av a.eval o=(do pure (.value (<-loadVar t ⟨g,0,af⟩))):=by simp[av,F,x,Instr.loadAt,bn]
  rw[e]at r;simpa[m]using r
 obtain⟨j,hj,rfl⟩:=gf (hT t i hi) (n:=1) (λj hj=>⟨v,by simp only[aU,I];grind⟩) (by have:=kQ G;grind) H p;exact jF (bJ A) K
end
section
variable {P:aq}{X:Cx P}{N:Nat}{φ:Fr}{σ:List aP}
def Je{P:aq}(X:Cx P)(N:Nat)(all:List ar)(φ:Fr)(σ:List aP)(x:Nat->D):List D->List ar->Nat->Prop
 |_::r,o::l,i=>OA X N all o (jX all φ x i) σ (x i) σ/\Je X N all φ σ x r l (i+1)
 |[],_,_=>True
 |_::_,[],_=>False
theorem Je.get{all:List ar}{x:Nat->D}:∀{r:List D}{l:List ar}{k:Nat},Je X N all φ σ x r l k->∀i o,l[i]?=aa o->i<r.length->OA X N all o (jX all φ x (k+i)) σ (x (k+i)) σ
 |[],_,_,_,i,o,_,hi=>absurd hi (fQ _)
 |_::r,[],_,h,i,o,_,hi=>h.elim
 |d::r,p::l,k,h,0,o,a,_=>by cases a;exact h.1
 |d::r,p::l,k,h,i+1,o,a,hi=>by have:=Je.get h.2 i o a (by grind);grind
def AK.calm(l:P.follows Departure.mixedOrders=ab)(xs:List D)(c:Nat){ops:Array ar}{id:Nat}{K:List It}{Qf:Post}(b:mv ops.toList=ab)(a:rX ops.toList 0=ab)(d:ov N ops.toList=ab)(e:bw xs.length ops.toList.length=ab)(PQ:vT ops.toList c xs.length (ops.toList.length-xs.length)=ab)(one:Je X N ops.toList φ σ (λi=>xs.getD i .any) xs ops.toList 0)(k:AK X N Qf (.ops ops.toList (ops.toList.drop xs.length)::K) .normal (MX ops.toList φ λi=>xs.getD i .any) σ):AK X N Qf (.code (.region id ops ab)::K) .normal φ σ:=by
 have e:=cZ e;have:=AW.reg (X:=X) (N:=N) (φ:=φ) (σ:=σ) l (all:=ops.toList) xs.length (λ_:Unit=>λi=>xs.getD i .any) (λ_ _=>σ) (λ_ _=>True) () aw rfl b a d e
  (λi h1 h2 L j g k hk=>qh j (te (tf PQ i h1 (by omega)) k hk) g)
  (λf D _ _ i h1 h2=>by grind)
  (λf D i o _ h hi _ _ _=>by have h1:=one.get i o h hi;rw[bC]at h1;exact h1.sW ⟨(),λ_ _=>rfl,aw⟩ rfl rfl)
  (Q:=AK X N Qf K) (λf D _ _=>k) id
 rw[oZ]at this;exact this
end
section
variable {P:aq}{X:Cx P}{N:Nat}{Qf:Post}{K:List It}{φ:Fr}{σ:List aP}{all rest:List ar}{o:ar}{T:List (Nat×TI)}
def HB{ι:Type}{S:au->St->Prop}{b:aR}{k:List Item}{cs:List aR}{a:Act}{s:St}{ops:Array ar}{i:Nat}{rest:List Nat}{ks:List Nat}{n:List aP}{σ1:ι->List aP}{f:aH}{e:List D}{res:ι->D}{vs:List ah}(hb:b.kind≠.early)(ho:ops[i]?=aa o)(hw:bc o (yielded ops a.tmps)=ab)(hh:aE σ s)(t:∀m,aE σ m->(av a.eval o).run P m.w=.ok (.enter f vs.toArray) m.w/\fb m ((av a.eval o).events P m.w #[]))(Ha:dZ X f e n res σ1)(A:ck σ s vs (fM ks e))(Yr:ln ks.length e=ab)(q:jH ks σ=aa n)(hp:cx n=ab)(Z:∀j,cx (σ1 j)=ab)(hn:dy ks=ab)(V:∀j,ks.length<=(σ1 j).length)(h:∀j v s',dn (dH ks (σ1 j) σ) s' v (hY (ks++kN σ.length ((σ1 j).length-ks.length)) (res j))->aE (dH ks (σ1 j) σ) s'->cU σ s (dH ks (σ1 j) σ) s'->fE X S (G (b.aT (a.put o.dst v) (.inRegion ops rest::k)) cs) s'):
  fE X S (G (b.aT a (.inRegion ops (i::rest)::k)) cs) s:=by obtain⟨_,y⟩:=Ha;refine .next rfl λm P9=>?_;have R:=X.iv P9;have g:=hh.rely R;obtain⟨p,E⟩:=vM (l':=m.β) q g.len;obtain⟨O,hgs⟩:=g.sub q E hp hn;have r:ck σ m vs (fM ks e):=A.mono R.stepW.ext hh.len;have J:ck n {m with β:=p,own:=vR m p} vs e:=(r.sub (s:=m) q E Yr).mono (σ:=n) (s:={m with β:=p}) (σ':=n) (s':={m with β:=p,own:=vR m p}) ⟨λ_ _ _ h=>h,λl B L hB hL=>⟨B,L,hB,hL,.refl _ _⟩⟩ O.len;refine⟨_,m,_,o8 ho hw hb (t m g).1,⟨⟨σ,σ,g,g,.refl _ _⟩,fb.seen (t m g).2⟩,.ghost hgs (y _ vs J O S _ λj fr v s2 hl M u Y=>?_)⟩;refine qf (cs:=cs) (c:=b.aT a (.inRegion ops (i::rest)::k)) u hl λs3 C=>?_;have I:=u.rely C;have H:=Y.trans C.stepW;obtain⟨s4,W,hr4,TQ,Q,hM4,U,F⟩:=frame g q E hn (Z j) I H (V j) (M.mono C.stepW.ext u.len);refine .ghost (eu.back g I H W hM4 U F) ?_;have hf:=kh (b:=b) (a:=a) (k:=k) ops i rest v;rw[ho]at hf;simp only[n7]at hf;rw[hf];exact h j v s4 hr4 TQ (R.stepW.trans Q)
def dJ.cell(hT:cT P T){l t g:Nat}{E:aj}{v:ah}{i:TI}(hl:dw l σ=aa (.cf (dJ g E v)))(hi:bD T t=aa i)(A:cJ v=ab)(q:kP i [.c (.val v)]=aa (.one (.c (.val v)))){s:St}(hh:aE σ s):
  (loadVar t ⟨g,0,af⟩).run P s.w=.ok v s.w/\fb s ((loadVar t ⟨g,0,af⟩).events P s.w #[]):=by
 have hB:=b5 hl;have f:l<s.β.length:=by rw[hh.len];grind
 have h:=br f;generalize s.β[l]=L at h;obtain⟨ch,⟨h1,h2,H⟩,F,G,I⟩:=hh.box l _ L hB h;have r:=F g _ h2;have B:g∈L.bs:=(G g).2 (by grind)
 have a:dW σ s [v] [.c (.val v)]:=⟨Rd.val A,aw⟩;obtain⟨u,k,p⟩:=iA (s:=s) (σ:=σ) (P:=P) (hT t i hi) (b:=g) (off:=0) (vs:=[v]) (cs:=[.c (.val v)]) (e:=.one (.c (.val v))) (λj w hj=>by
  simp only[aU,r]
  grind) a q
 have C:u=v:=Rd.dY p;subst C;refine⟨k,λy m=>?_⟩;obtain⟨j,hj,rfl⟩:=gf (hT t i hi) (n:=1) (λj hj=>⟨u,by simp only[aU,r];grind⟩) (by have:=kQ q;grind) y m;exact jF (bJ h) B
def OA.yz(hT:cT P T){t g:Nat}(l:Nat){x:ak}{E:aj}{v:ah}{i:TI}(p:qK all φ o=ab)(B:o.op=.load t x)(G:bP φ x=.e (.one (.c (.val (.pointer (aa ⟨g,0,af⟩))))))(hl:dw l σ=aa (.cf (dJ g E v)))(hi:bD T t=aa i)(u:cJ v=ab)(w:kP i [.c (.val v)]=aa (.one (.c (.val v)))):
  OA X N all o φ σ (.e (.one (.c (.val v)))) σ:=by
 intro s a f hh b k cs S q rest A C F;refine rl A C (fI p _ _ _ f) λr n=>?_;have h:=hh.rely n;have j:=c7 f x;rw[G]at j;have j:=Rd.dY (eY j);obtain⟨h1,h2⟩:=dJ.cell hT hl hi u w h;have e:av a.eval o=(do pure (.value (<-loadVar t ⟨g,0,af⟩))):=by simp[av,B,j,Instr.loadAt,bn]
 refine⟨.value v,r,v,by rw[e];simp[h1],.inl rfl,⟨⟨σ,σ,h,h,.refl _ _⟩,?_⟩,F v r (Rd.val u) h n.stepW⟩;intro y m;rw[e]at m;exact h2 y (by simpa[h1]using m)
def Gd(t:aj)(p:Addr)(a:String):Builtin.ssaWrapNilChk_ #[t] t #[.pointer (aa p),strVal "",strVal a]=pure (.pointer (aa p)):=rfl
def qM(P:aq)(σ:List aP)(T:aj)(v:ah)(name:String)(f:aH)(r:ah):Prop:=∀s,aE σ s->∀n,(Go.method (n+1) T v name).run P s.w=.ok (f,r) s.w/\fb s ((Go.method (n+1) T v name).events P s.w #[])
def qM.ptr{a:aj}{name:String}{f:aH}{i:TypeInfo}{m:Go.Method}{e:aj}{v:ah}(hi:P.info? a=aa i)(c:i.methods.find? (·.name==name)=aa m)(g:m.path=#[])(b:m.func=aa (f,ab))(h:P.underlying a=aa (.pointer e)):qM P σ a v name f v:=by
 intro s hh n;have h1:∀w,(typeInfo a).run P w=.ok i w:=λw=>by simp[typeInfo,hi]
 have h2:∀w,(underlying a).run P w=.ok (.pointer e) w:=λw=>by simp[underlying,h]
 unfold Go.method;constructor
 .simp only[bO,h1,c,g,b,bX,follow,dt,receiverAt,h2];rfl
 .have:∀es,((do pure (f,<-receiverAt a (.val v) ab (if m.path.isEmpty then aa ((name.splitOn ".").getLastD name)else af))):Sem (aH×ah)).events P s.w es=es:=λes=>by simp[receiverAt,h2,Place.get]
  simp only[aK,bO,h1,c,g,b,bX,aO,follow,dt,Sem.events_pure,receiverAt,h2,events_typeInfo,events_underlying,Place.get];exact .nil
def qM.deref(hT:cT P T){l g:Nat}{a:aj}{name:String}{f:aH}{i:TypeInfo}{m:Go.Method}{t E:aj}{v:ah}{q:TI}(hi:P.info? a=aa i)(j:i.methods.find? (·.name==name)=aa m)(k:m.path=#[])(p:m.func=aa (f,ae))(C:P.underlying a=aa (.pointer t))(hl:dw l σ=aa (.cf (dJ g E v)))(e:bD T t=aa q)(B:cJ v=ab)(u:kP q [.c (.val v)]=aa (.one (.c (.val v)))):qM P σ a (.pointer (aa ⟨g,0,af⟩)) name f v:=by
 intro s hh n;have h1:∀w,(typeInfo a).run P w=.ok i w:=λw=>by simp[typeInfo,hi]
 have h2:∀w,(underlying a).run P w=.ok (.pointer t) w:=λw=>by simp[underlying,C]
 obtain⟨h,y⟩:=dJ.cell hT hl e B u hh;have r:m.path.isEmpty=ab:=by grind
 unfold Go.method;constructor
 .simp only[bO,h1,j,k,p,bX,follow,dt,receiverAt,h2,Place.get];simp[Gd,asAddr,h]
 .intro A b;refine y A ?_;simp only[aK,bO,h1,j,k,p,bX,aO,follow,dt,Sem.events_pure,receiverAt,h2,events_typeInfo,events_underlying,Place.get]at b;simpa[Gd,asAddr,h]using b
def pq{a:ak->ah}{x:ak}{b:Array ak}{e:Array aj}{name:String}(h:o.op=.call {callee:=.invoke x name,args:=b,argTypes:=e}){c:aj}{u:ah}(k:a x=.iface c u):
  av a o=callMethod (.iface c u) name (b.toList.map a).toArray:=by
 have j:#[a x]++b.map a=(.iface c u::b.toList.map a).toArray:=by grind
 have f:(Value.iface c u::b.toList.map a).toArray.extract 1 (Value.iface c u::b.toList.map a).toArray.size=(b.toList.map a).toArray:=by grind
 have g:av a o=invoke (.fn (.method name) #[]) (#[a x]++b.map a):=by simp only[av,h];rfl
 rw[g,j];show callMethod (.iface c u) name ((Value.iface c u::b.toList.map a).toArray.extract 1 (Value.iface c u::b.toList.map a).toArray.size)=_;rw[f]
def AK.kE{ι:Type}{Z:aj}{name:String}{f:aH}{u r:ah}{g:List D}{A:List aP}{σ1:ι->List aP}{res:ι->D}(F:dZ X f g A res σ1)(ks:List Nat)(hm:qM P σ Z u name f r)(Y:qK all φ o=ab){x:ak}{E:Array ak}{W:Array aj}(ho:o.op=.call {callee:=.invoke x name,args:=E,argTypes:=W})(hx:bP φ x=.e (.one (.c (.ifs Z (.val u)))))(hr:cJ r=ab)(B:mr (.e (.one (.c (.val r)))::E.toList.map (bP φ))=fM ks g)(V:ln ks.length g=ab)(O:jH ks σ=aa A)(hp:cx A=ab)(U:∀j,cx (σ1 j)=ab)(hn:dy ks=ab)(Q:∀j,bw ks.length (σ1 j).length=ab)(hN:fW N o.dst=ab)(k:∀j,AK X N Qf (.ops all rest::K) .normal (kl o.dst (hY (ks++kN σ.length ((σ1 j).length-ks.length)) (res j)) φ) (dH ks (σ1 j) σ)):AK X N Qf (.ops all (o::rest)::K) .normal φ σ:=by
 intro s a G hh b kk css S idx hb jk hQ;cases idx with
 |nil=>exact jk.elim
 |cons i idx =>
 have C:=c7 G x;rw[hx]at C;have C:=eY C;generalize hv:a.eval x=v at C;cases C with
 |@ifs _ u' _ h1 hc =>
  have hu:=Rd.dY h1;subst hu;obtain⟨fn,J,N3,R⟩:=F.1;have l:fn.name≠ "runtime.NumGoroutine":=by grind
  have h:fn.body≠af:=by grind
  obtain⟨n,I⟩:∃n,P.types.size+Made.depth=n+1:=⟨P.types.size+Made.depth-1,by unfold Made.depth;omega⟩
  have p:∀w,(program:Sem aq).run P w=.ok P w:=λw=>by simp[program,Sem.run]
  have H:∀w es,(program:Sem aq).events P w es=es:=λw es=>by simp[program,Sem.events,Sem.runT]
  have m:ck σ s (r::E.toList.map a.eval) (fM ks g):=by rw[<-B];exact pe (σ:=σ) (s:=s) ⟨Rd.val hr,lI (c7 G) E.toList⟩
  refine HB (ks:=ks) hb jk.1 (fI Y _ _ _ G) hh (vs:=r::E.toList.map a.eval) (λs1 M=>?_) F m V O hp U hn (λj=>cZ (Q j)) λj v s' mh iX st=>?_
  .obtain⟨m1,m2⟩:=hm s1 M n;constructor
   .rw[pq ho hv];simp[callMethod,p,I,m1,callFunc,J,l,h]
   .intro ev y;refine m2 ev ?_;rw[pq ho hv]at y;simpa[callMethod,p,H,I,m1,callFunc,J,l,h]using y
  refine k j s' _ ?_ iX b kk css S idx hb jk.2 λL σ2 s2 a2 q d h2 nV=>hQ L σ2 s2 a2 q d h2 (st.trans nV);cases hd:o.dst with
  |none=>exact G.mono st hh.len
  |some t=>exact(G.mono st hh.len).put (gC hN t hd) mh
def bG.BX{a:ak->D}{x:ak}(h:o.op=.nilCheck x){p:Addr}(g:a x=.e (.one (.c (.val (.pointer (aa p)))))):bG P o a σ (.e (.one (.c (.val (.pointer (aa p)))))) σ:=by refine .quiet λs f hh hr=>?_;have h1:=hr x;rw[g]at h1;have b:=Rd.dY (eY h1);exact⟨f x,by simp[av,h,b],h1,by simp[av,h,b]⟩
def bG.BY(hT:cT P T){W:ak->D}{t:aj}{x:ak}(h:o.op=.load t x){E:aj}{b cap off i f k n l:Nat}{es:Nat->List C}{xs:List ah}{H:TI}{e:E1}(hx:W x=.e (.one (.c (.val (.pointer (aa ⟨b,off,af⟩))))))(Q8:off=i*k+f)(hl:σ[l]?=aa (.cf (fV E k (.row b cap) n xs)))(S:gn k n es xs)(hi:bD T t=aa H)(Z:kP H ((fO f (es i)).map A.c)=aa e)(U:i<n):bG P o W σ (.e e) σ:=by
 refine .om λs ρ hh hr=>?_;have I:=hr x;rw[hx]at I;have I:=Rd.dY (eY I);have q:l<s.β.length:=by rw[hh.len];grind
 have R:=br q;generalize s.β[l]=L at R;obtain⟨ch,hH,p,J,WV⟩:=hh.box l _ L hl R;obtain⟨zs,WX,G,Q7⟩:=fV.lookup hH;have O:b∈L.bs:=(J b).2 (by grind);have B:=p b _ G;let g:Nat->ah:=λj=>xs.getD (i*k+j) ai;have Y:∀j c,(fO f (es i))[j]?=aa c->xs[i*k+(f+j)]?=aa (g (f+j))/\Rd s.M (g (f+j)) c:=by intro j c hj;rw[l3,n3]at hj;obtain⟨v,v1,v2⟩:=S.at' i U (f+j) c hj;grind
 have Q:=Eg (σ:=σ) (s:=s) (g:=g) (ds:=fO f (es i)) (m:=f) (λj c hj=>(Y j c hj).2);have a:∀(j:Nat) (v:ah),((bd (fO f (es i)).length).map λj=>g (f+j))[j]?=aa v->s.w.cell? ⟨b,off+j,af⟩=aa v:=by
  intro j v hj;simp only[mV]at hj;by_cases r:j<(fO f (es i)).length
  .simp[r]at hj;subst hj;have h2:=(Y j _ (br r)).1;simp only[aU,B];grind
  grind
 obtain⟨v,u,V⟩:=iA (s:=s) (σ:=σ) (P:=P) (hT t H hi) (b:=b) (off:=off) (e:=e) a Q Z;have e1:av ρ o=(do pure (.value (<-loadVar t ⟨b,off,af⟩))):=by simp[av,h,I,Instr.loadAt,bn]
 refine⟨v,by rw[e1];simp[u],V,λev F=>?_⟩;rw[e1]at F;have y:ev∈(loadVar t ⟨b,off,af⟩).events P s.w #[]:=by simpa[u]using F
 obtain⟨j,hj,rfl⟩:=gf (hT t H hi) (n:=(fO f (es i)).length) (λj hj=>⟨_,a j (g (f+j)) (by grind)⟩) (by have:=kQ Z;grind) ev y;exact jF (bJ R) O
def bG.RS(hT:cT P T){f:ak->D}{t:aj}{x y:ak}(h:o.op=.slice t x af (aa y) af){i u:TI}{E:aj}(p:bD T t=aa i)(C:i.desc=.slice E)(F:bD T E=aa u){b n cap:Nat}{kd:IntKind}{m:Int}(H:f x=.e (.one (.c (.val (.slice (aa ⟨b,0,af⟩) n cap)))))(B:f y=.e (.one (.c (.int kd m))))(g:n<=cap)(v:0<=m)(h1:m<=n):bG P o f σ (.e (.one (.c (.val (.slice (aa ⟨b,0,af⟩) m.toNat cap))))) σ:=by
 refine .quiet λst ρ hh hr=>?_;have j:=hr x;rw[H]at j;have j:=Rd.dY (eY j);have hl:rj f af=aa af:=rfl;have s:rj f (aa y)=aa (aa m):=by simp[rj,B]
 have r:ay (fR n af (aa m)):=⟨v,h1⟩;obtain⟨G,A,I⟩:=lW (P:=P) (isS:=ab) g (gw hr hl) (gw hr s) r st.w;have a:=(hT t i p).run_underlying (w:=st.w);rw[C]at a;have k:(ba ab n cap af (aa (ρ y)) af).run P st.w=.ok (0,m.toNat,cap) st.w:=G;have q:=nh (P:=P) (isS:=ab) g (gw hr hl) (gw hr s) r st.w;have l:∀es,(ba ab n cap af (aa (ρ y)) af).events P st.w es=es:=q;refine⟨_,?_,Rd.val rfl,?_⟩
 .simp[av,h,j,Instr.sliceAt,a,Instr.slice,k,(hT E u F).run_sizeOf,dq]
 .simp[av,h,j,Instr.sliceAt,a,Instr.slice,k,l]
def Ge{s:St}:∀{vs:List ah}{cs:List C},vs.length=cs.length->∀f:Nat->ah,(∀j,j<vs.length->vs[j]?=aa (f j))->(∀(j:Nat)(c:C),cs[j]?=aa c->Rd s.M (f j) c)->dW σ s vs (cs.map A.c)
 |[],[],_,_,_,_=>trivial
 |[],_::_,b,_,_,_=>by grind
 |_::_,[],b,_,_,_=>by grind
 |v::vs,c::cs,b,f,g,a=>⟨by have:=g 0 (by simp);cases this;exact a 0 c rfl,Ge (by grind) (λj=>f (j+1)) (λj h=>by grind) λj e h=>a (j+1) e (by grind)⟩
def bG.Ae(hT:cT P T){n:ak->D}{x:ak}{l t:aj}(h:o.op=.typeAssert x l t ae){i:TI}(hi:bD T t=aa i)(q:pn i.desc=ae){cs:List C}(v:n x=.e (.one (.c (.FN t cs)))):bG P o n σ (.e (.agg (cs.map A.c))) σ:=by
 refine .quiet λs u hh hr=>?_;have h1:=hr x;rw[v]at h1;replace h1:=eY h1;generalize j:u x=vx at h1;have p:=(hT t i hi).run_underlying (w:=s.w);have b:∀m,i.desc≠.interface m:=by intro m e;rw[e]at q;cases q
 cases h1 with
 |@FN t' vs cs hl f r k =>
  have a:(Instr.typeAssert (.iface t (.agg vs.toArray)) l t ae).run P s.w=.ok (.agg vs.toArray) s.w/\(Instr.typeAssert (.iface t (.agg vs.toArray)) l t ae).events P s.w #[]=#[]:=by
   constructor
   .unfold Instr.typeAssert;simp only[bO,p,bX];cases g:i.desc<;>first|(exact absurd g (b _))|simp
   .unfold Instr.typeAssert;simp only[p,aK,aO,events_underlying];cases g:i.desc<;>first|(exact absurd g (b _))|simp
  exact⟨.agg vs.toArray,by simp only[av,h,j,bO,a.1,bX,dt],⟨vs,rfl,Ge hl f r k⟩,by simp only[av,h,j,aK,a.1,a.2,aO,Sem.events_pure]⟩
def AK.Kf(hT:cT P T)(l:Nat){t g:Nat}{x y:ak}{E:aj}{v u:ah}{i:TI}(h:o.op=.store t x y)(hi:bD T t=aa i)(F:i.size=1)(hx:bP φ x=.e (.one (.c (.val (.pointer (aa ⟨g,0,af⟩))))))(W:bP φ y=.e (.one (.c (.val u))))(S:u.cells=#[u])(Y:cJ u=ab)(hl:dw l σ=aa (.cf (dJ g E v)))(V:o.guard=af)(hN:fW N o.dst=ab)(kk:AK X N Qf (.ops all rest::K) .normal (kl o.dst .any φ) (σ.set l (.cf (dJ g E u)))):AK X N Qf (.ops all (o::rest)::K) .normal φ σ:=by
 refine AK.hand (ι:=Unit) (λ_=>.any) (λ_=>σ.set l (.cf (dJ g E u))) V hN (λs a U hh=>?_) λ_=>kk;have I:=c7 U x;rw[hx]at I;have I:=Rd.dY (eY I);have m:=c7 U y;rw[W]at m;have m:=Rd.dY (eY m);have hl:=b5 hl;have r:l<s.β.length:=by rw[hh.len];grind
 have H:=br r;generalize s.β[l]=L at H;obtain⟨ch,⟨h1,h2,h3⟩,p,J,M⟩:=hh.box l _ L hl H;have B:g∈L.bs:=(J g).2 (by grind);have k:=p g _ h2;have G:∀w∈[u],w.oneCell'=ab:=λw hw=>by
  have:cJ w=ab:=by grind
  exact this
 have O:=run_storeCells_at P g 0 E [u] 0 #[v] s.w k (by simp) G;have C:∀f,f≠g->(s.w.setRow g #[u]).heap[f]?=s.w.heap[f]?:=λf b=>setRow_other s.w g f _ b;have Q:=setRow_heap s.w g #[v] #[u] E (0,0) k;obtain⟨t1,Z⟩:=hh.ju (l:=l) (H':=dJ g E u) (L':=L) (w':=s.w.setRow g #[u]) hl H rfl (by simp)
  (λf b hn=>C f (by grind)) (λf b=>.inl b)
  ⟨λf=>if f=g then aa (.cells #[u] E (0,0))else af,⟨h1,by simp,λf b=>by grind⟩,λf o b=>by
   grind,λf=>by grind⟩ rfl rfl rfl
 have e1:av a.eval o=(do storeVar t ⟨g,0,af⟩ u;pure .skip):=by simp[av,h,I,m,Instr.storeAt,bn]
 have n:(storeCells ⟨g,0,af⟩ [u] 0).run P s.w=.ok () (s.w.setRow g #[u]):=O;refine⟨(),.skip,_,ai,?_,.inr ⟨rfl,rfl⟩,aw,t1,Z,?_⟩
 .rw[e1];simp[storeVar,(hT t i hi).run_sizeOf,S,F,n]
 .intro R q;rw[e1]at q;have A:R∈(storeCells ⟨g,0,af⟩ [u] 0).events P s.w #[]:=by simp only[storeVar,aK,(hT t i hi).run_sizeOf,F,S,aO,events_sizeOf,du,fh,b9,bO,bX,Sem.events_pure]at q;simpa[n]using q
  rcases dE [u] 0 #[v] s.w #[] k (by simp) G R A with I7|⟨j,_,_,rfl⟩
  .grind
  .exact jC (bJ H) B (M g B _)
def AK.Kg(t l:Nat){E:aj}(H k:Nat){J:Nat}{es:Nat->List C}{c:Code}(Q:look φ t=.e (.one (.ptr l 0)))(hl:dw l σ=aa (.cells E [.c (.sl ab J 0 es)]))(kk:∀g a0,AK X N Qf (.code c::K) .normal ((t,.e (.one (.v (.pointer (aa ⟨g,0,af⟩)))))::φ) (σ.set l (.cf (dJ g E (la (.nil a0) 0)))++[.cf (fV H k (.nil a0) 0 [])])):AK X N Qf (.code c::K) .normal φ σ:=by
 refine AW.ta (ι:=Nat×Option Addr) (φ':=λq=>(t,.e (.one (.v (.pointer (aa ⟨q.1,0,af⟩)))))::φ) (σ':=λq=>σ.set l (.cf (dJ q.1 E (la (.nil q.2) 0)))++[aP.cf (fV H k (.nil q.2) 0 [])]) (λs a r hh=>?_) λ(q:Nat×Option Addr)=>kk q.1 q.2;have hl:=b5 hl;have j:l<s.β.length:=by rw[hh.len];grind
 have n:=br j;generalize s.β[l]=L at n;obtain⟨g,vs,rfl,W,y,Z⟩:=hh.box l _ L hl n
 match vs,y with
 |[v],⟨S,_⟩ =>
  obtain⟨a0,cap,O,rfl,_,_,A,_,_⟩:=(show Rd s.M v (.sl ab J 0 es)from S).flat;have p:cap=0:=A rfl;subst p;obtain⟨I,q2⟩:=hh.gB (M':=s.M) (w':=s.w) (B':=.cf (dJ g E (la (.nil a0) 0))) (L':=⟨.pointer (aa ⟨g,0,af⟩),[g]⟩) hl n rfl (bg _) (λ_ _ _=>rfl) (λ_ _ _ _=>rfl) (λ_ _ _ h=>h) hh.mem (λb f=>⟨.inl f,hh.lt _ (bJ n) b f⟩) rfl rfl rfl
   ⟨λb=>if b=g then aa (.cells #[.slice a0 0 0] E (0,0))else af,⟨rfl,by simp[la],λb f=>by grind⟩,λb o f=>by
    grind,λb=>by by_cases e:b=g<;>simp[e],λb f o=>by grind⟩
  obtain⟨U,R⟩:=I.hO (B:=.cf (fV H k (.nil a0) 0 [])) (L:=⟨.nilFunc,[]⟩) (.refl _ _) rfl I ⟨λ_=>af,⟨rfl,by simp,by simp,rfl,rfl⟩,by simp,by simp,by simp⟩ (by simp);have st:=q2.trans R;refine⟨(g,a0),{s with β:=s.β.set l ⟨.pointer (aa ⟨g,0,af⟩),[g]⟩++[⟨.nilFunc,[]⟩]},rfl,⟨r.size,r.defers.imp λ_ h1=>h1.mono st.ext,λu=>?_⟩,U,st⟩;simp only[look];cases f:aA t u with
  |false=>exact(r.slot u).mono st.ext hh.len
  |true =>
   have e:=bR f;subst e;have h1:=r.slot t;rw[Q]at h1;obtain⟨_,Y,V,m,F,G⟩:=(h1:gu σ s _ (.ptr l 0));rw[n]at m;cases m;cases F;rw[G];exact Rd.val rfl
theorem OA.wF{ι:Type}{x:D}{σ':List aP}(c:o.guard=af)(h:dO P N o φ σ (λ_:ι=>x) λ_=>σ'):OA X N all o φ σ x σ':=λs a f hh b kk cs S i rest e hi hK=>mz.wF c h s a f hh b kk cs S i rest e hi λ_=>hK
section
variable {x:Nat->D}{s2:Bool->Bool->List aP}{i z d:Nat}
abbrev wU(s2:Bool->Bool->List aP)(z d:Nat):(Nat->Bool)->List aP:=λD=>s2 (D z) (D d)
def dT.q2(h1:aA z i=ae)(h2:aA d i=ae)(h:∀a b,OA X N all o (jX all φ x i) (s2 a b) (x i) (s2 a b)):dT X N all φ x (wU s2 z d) i o:=by
 intro D _ _;have e1:ef i D z=D z:=by simp only[ef,h1]
 have e2:ef i D d=D d:=by simp only[ef,h2]
 grind
def dT.U7{T:List (Nat×TI)}{CT:List (Nat×dv)}{obs:List Prop}(hT:cT P T)(hC:bF X CT)(h:∀a b,we T CT [] all (jX all φ x i) (s2 a b) o=aa (x i,af,obs):=by intro a b;cases a<;>cases b<;>rfl)(h1:aA z i=ae:=by rfl)(h2:aA d i=ae:=by rfl)(c:ay obs:=by simp only[ay,aD];omega):dT X N all φ x (wU s2 z d) i o:=.q2 h1 h2 λa b=>OA.eval hT hC (h a b) c
def dT.Qe{T:List (Nat×TI)}{CT:List (Nat×dv)}(hT:cT P T)(hC:bF X CT)(h:∀a b,we T CT [] all (jX all φ x i) (s2 a b) o=aa (x i,af,[]):=by intro a b;cases a<;>cases b<;>rfl)(h1:aA z i=ae:=by rfl)(h2:aA d i=ae:=by rfl):dT X N all φ x (wU s2 z d) i o:=.U7 (obs:=[]) hT hC h h1 h2 aw
def dT.fw(h1:aA z i=ae)(h2:aA d i=ae)(b:fS all z i=ab)(a:fS all d i=ab)(h:OA X N all o (jX all φ x i) (s2 ae ae) (x i) (s2 ae ae)):dT X N all φ x (wU s2 z d) i o:=by
 intro D _ c;have e1:ef i D z=D z:=by simp only[ef,h1]
 have e2:ef i D d=D d:=by simp only[ef,h2]
 grind
def dT.sA(h2:aA d z=ae)(a:fS all d z=ab)(h:OA X N all o (jX all φ x z) (s2 ae ae) (x z) (s2 ab ae)):dT X N all φ x (wU s2 z d) z o:=by
 intro D _ b;have e1:ef z D z=ab:=by simp only[ef,iR]
 have e2:ef z D d=D d:=by simp only[ef,h2]
 grind
def dT.sB(h1:aA z d=ae)(a:fS all d z=ab)(h:OA X N all o (jX all φ x d) (s2 ab ae) (x d) (s2 ab ab)):dT X N all φ x (wU s2 z d) d o:=by
 intro D hT hF;have e1:ef d D z=D z:=by simp only[ef,h1]
 have e2:ef d D d=ab:=by simp only[ef,iR]
 grind
end
end
end
end Go.AM
namespace Go.AM.R1
def swp(l:List bm)(i j:Nat):List bm:=(l.set i (l.getD j (0,[]))).set j (l.getD i (0,[]))
def nG(l:List bm)(i j:Nat):Bool:=decide ((l.getD i (0,[])).1<(l.getD j (0,[])).1)
def xQ:Nat->List bm->Nat->List bm
  | 0,l,_=>l
  | f+1,l,j=>if(j-1) / 2=j then l else if nG l j ((j-1) / 2)=ab then xQ f (swp l ((j-1) / 2) j) ((j-1) / 2)else l
def nH(l:List bm)(i n:Nat):Nat:=if 2*i+2<n/\nG l (2*i+2) (2*i+1)=ab then 2*i+2 else 2*i+1
def gH:Nat->List bm->Nat->Nat->List bm
  | 0,l,_,_=>l
  | f+1,l,i,n=>if n<=2*i+1 then l else if nG l (nH l i n) i=ab then gH f (swp l i (nH l i n)) (nH l i n) n else l
def gQ(l:List bm)(x:bm):List bm:=xQ (l.length+1) (l++[x]) l.length
def kr(l:List bm):List bm:=gH l.length (swp l 0 (l.length-1)) 0 (l.length-1)
def lD:Nat->List bm->List bm
  | 0,_=>[]
  | f+1,l=>if l.length=0 then[]else(kr l).getD (l.length-1) (0,[])::lD f ((kr l).take (l.length-1))
def mI(l:List bm):List bm:=lD l.length (l.foldl gQ [])
theorem fX(l:List bm)(i j:Nat):(swp l i j).length=l.length:=by simp[swp]
def Gw:∀f l j,(xQ f l j).length=l.length
  | 0,_,_=>rfl
  | f+1,l,j=>by unfold xQ;split;rfl;split;rw[Gw f,fX];rfl
def yJ:∀f l i n,(gH f l i n).length=l.length
  | 0,_,_,_=>rfl
  | f+1,l,i,n=>by unfold gH;split;rfl;split;rw[yJ f,fX];rfl
def yL(l:List bm)(x:bm):(gQ l x).length=l.length+1:=by simp[gQ,Gw]
theorem Cq(l:List bm):(kr l).length=l.length:=by simp[kr,yJ,fX]
def OH{l:List bm}{i j:Nat}(hi:i<l.length)(a:j<l.length){x:bm}:x∈swp l i j->x∈l:=by intro h;unfold swp at h;grind
def Gx(x:bm):gQ [] x=[x]:=by simp[gQ,xQ]
def K1(a x:bm):gQ [a] x=if x.1<a.1 then[x,a]else[a,x]:=by simp[gQ,xQ,nG,swp]
def Qu(a b x:bm):gQ [a,b] x=if x.1<a.1 then[x,b,a]else[a,b,x]:=by simp[gQ,xQ,nG,swp]
def VI(a b c x:bm):gQ [a,b,c] x=if x.1<b.1 then(if x.1<a.1 then[x,a,c,b]else[a,x,c,b])else[a,b,c,x]:=by simp[gQ,xQ,nG,swp]
def tK(f:Nat){l r:List bm}{x:bm}{n:Nat}(a:l.length=n+1)(h:kr l=r++[x])(b:r.length=n):lD (f+1) l=x::lD f r:=by rw[lD,aY (by omega),h];grind
def Qv(a:bm):lD 1 [a]=[a]:=by simp[lD,kr,gH,swp]
def Qw(a b:bm):lD 2 [a,b]=[a,b]:=by rw[tK 1 (r:=[b]) (x:=a) (n:=1) rfl (by simp[kr,gH,swp]) rfl,Qv]
def Qx(a b c:bm):lD 3 [a,b,c]=if b.1<c.1 then[a,b,c]else[a,c,b]:=by rw[tK 2 (r:=if b.1<c.1 then[b,c]else[c,b]) (x:=a) (n:=2) rfl (by simp[kr,gH,swp,nH,nG];split<;>rfl) (by split<;>rfl)];split<;>rw[Qw]
def VJ(a b c d:bm):lD 4 [a,b,c,d]=a::lD 3 (if c.1<b.1 then(if c.1<d.1 then[c,b,d]else[d,b,c])else if b.1<d.1 then[b,d,c]else[d,b,c]):=by rw[tK 3 (r:=if c.1<b.1 then(if c.1<d.1 then[c,b,d]else[d,b,c])else if b.1<d.1 then[b,d,c]else[d,b,c]) (x:=a) (n:=3) rfl ?_ (by split<;>split<;>rfl)];by_cases g:c.1<b.1<;>by_cases e:c.1<d.1<;>by_cases f:b.1<d.1<;>simp[kr,gH,swp,nH,nG,g,e,f]
theorem K2(l:List bm)(h:l.length<=4)(e:l.Pairwise λa b=>a.1≠b.1):mI l=l.foldl gI []:=by
  match l,h with
  | [],_=>rfl
  | [a],_=>simp[mI,Gx,Qv,gI]
  | [a,b],_ =>
    simp at e;simp only[mI,List.foldl,Gx,K1,gI,er,fG];split<;>simp[Qw]
  | [a,b,c],_ =>
    simp at e;obtain⟨⟨s,m⟩,n⟩:=e;simp only[mI,List.foldl,Gx,K1,gI,er,fG];by_cases i:b.1<a.1<;>by_cases q2:c.1<a.1<;>by_cases f:c.1<b.1<;>first|omega |
      (have g:(a.1<b.1)=¬(b.1<a.1):=by grind
       have k:(a.1<c.1)=¬(c.1<a.1):=by grind
       have j:(b.1<c.1)=¬(c.1<b.1):=by grind
       simp[i,q2,f,g,k,j,Qu,Qx,gI])
  | [a,b,c,d],_ =>
    simp at e;obtain⟨⟨s,m,n⟩,⟨w,v⟩,u⟩:=e;simp only[mI,List.foldl,Gx,K1,gI,er,fG];by_cases i:b.1<a.1<;>by_cases q2:c.1<a.1<;>by_cases f:c.1<b.1<;>by_cases q4:d.1<a.1<;>by_cases o:d.1<b.1<;>by_cases r:d.1<c.1<;>first|omega |
      (have g:(a.1<b.1)=¬(b.1<a.1):=by grind
       have k:(a.1<c.1)=¬(c.1<a.1):=by grind
       have j:(b.1<c.1)=¬(c.1<b.1):=by grind
       have t:(a.1<d.1)=¬(d.1<a.1):=by grind
       have q:(b.1<d.1)=¬(d.1<b.1):=by grind
       have p:(c.1<d.1)=¬(d.1<c.1):=by grind
       simp[i,q2,f,q4,o,r,g,k,j,t,q,p,Qu,VI,VJ,Qx,gI])
section
open Go.Proofs
variable {X:Cx ag}
def Tn:∀j,j<1->([0]:List Nat)[j]?=aa j:=by decide
def uG:∀j,j<2->([0,1]:List Nat)[j]?=aa j:=by decide
def s8:List bm->List ah
 |[]=>[]
 |x::r=>.int .i64 x.1::Bd x.2::s8 r
def jY(l:List bm):Prop:=∀x∈l,bA .i64 x.1/\x.2.length<=9223372036854775807
theorem vC:∀l:List bm,(s8 l).length=l.length*2
 |[]=>rfl
 |x::r=>by simp only[s8,er,vC r];omega
def Mm:∀{l:List bm}{i:Nat},i<l.length->(s8 l)[i*2]?=aa (.int .i64 (l.getD i (0,[])).1)/\(s8 l)[i*2+1]?=aa (Bd (l.getD i (0,[])).2)
 |[],i,h=>absurd h (fQ _)
 |x::r,0,_=>⟨rfl,rfl⟩
 |x::r,i+1,h=>by rw[show(i+1)*2=i*2+1+1 by omega];exact Mm (l:=r) (i:=i) (by grind)
def A4:∀l r:List bm,s8 (l++r)=s8 l++s8 r
 |[],r=>rfl
 |x::l,r=>by simp only[rL,s8,A4 l r]
theorem GW:∀(l:List bm)(i:Nat)(y:bm),i<l.length->s8 (l.set i y)=(s8 l).take (i*2)++[.int .i64 y.1,Bd y.2]++(s8 l).drop (i*2+2)
 |[],i,y,h=>absurd h (fQ _)
 |x::l,0,y,_=>by simp[s8]
 |x::l,i+1,y,h=>by rw[List.set_cons_succ,s8,GW l i y (by grind),s8,show(i+1)*2=i*2+1+1 by omega,show i*2+1+1+2=(i*2+2)+1+1 by omega];simp
theorem xJ{l:List bm}(h:jY l):gn 2 l.length (dM.fn l) (s8 l):=by
 refine⟨vC l,λi _=>rfl,λi hi j c a=>?_⟩;obtain⟨d,b⟩:=Mm hi;obtain⟨f,q2⟩:=h (l.getD i (0,[])) (by grind);have e:dM.fn l i=[.int .i64 (l.getD i (0,[])).1,.str (l.getD i (0,[])).2]:=rfl;rw[e]at a
 match j,a with
 |0,a=>cases a;exact⟨_,d,λM=>Rd.int f⟩
 |1,a=>cases a;exact⟨_,b,λM=>Rd.str (by grind) q2⟩
abbrev uW(v:ah):D:=.e (.one (.c (.val v)))
abbrev hB(bf:m9)(n:Nat)(l:List bm):aP:=.cf (fV 76 2 bf n (s8 l))
abbrev cB(g:Nat)(bf:m9)(n:Nat):aP:=.cf (dJ g 182 (la bf n))
abbrev T5(x:bm):D:=.e (.one (.c (.FN 76 [.int .i64 x.1,.str x.2])))
abbrev Xm(x:bm):D:=.e (.agg [.c (.int .i64 x.1),.c (.str x.2)])
theorem To{x:bm}{vs:List ah}(h:mX vs [.c (.int .i64 x.1),.c (.str x.2)]):vs=[.int .i64 x.1,Bd x.2]:=by
 obtain⟨f,a⟩:=h
 match vs,f with
 |[u,v],_ =>
  obtain⟨i,d,q2⟩:=a 0 _ rfl;obtain⟨v',b,q4⟩:=a 1 _ rfl;cases d;cases b;have g:=q2 λ_ _=>af;have e:=(str_val (q4 λ_ _=>af)).1;cases g;rw[e]
def Tp{o:ar}{x y:ak}(h:o.op=.call {callee:=.builtin .append,args:=#[x,y],argTypes:=#[182,182]}):lA ag o x y 76 i76 :=
 ⟨⟨182,182,i182,i182,h,(tok _ _ rfl),rfl,(tok _ _ rfl),rfl⟩,(tok _ _ rfl),by decide,by decide⟩
def A5(bf:m9)(n:Nat)(l:List bm):Ev X 127 [uW (la bf n)] [hB bf n l] (dI n) [hB bf n l]:=by refine Ev.bQ Tryz.func127 rfl λa=>?_;refine qG [] 7 rfl aw ?_;refine AK.Nv tok 0 rfl rfl rfl rfl rfl rfl rfl rfl ?_;exact bu rfl aw (AK.cY [0] rfl rfl rfl rfl rfl Tn)
def xK(b cap:Nat){l:List bm}(c:jY l)(m:Nat){i j:Nat}(hi:i<l.length)(d:j<l.length):Ev X 272 [uW (la (.row b cap) l.length),dI i,dI j] [hB (.row b cap) l.length l] (dB (decide ((l.getD i (0,[])).1<(l.getD j (0,[])).1))) [hB (.row b cap) l.length l]:=by
 refine Ev.bQ Tryz.func272 rfl λe=>?_
 have a:=xJ c;refine aW [(1000001,ab)] rfl aw ?_;refine AK.calm iZ [uW (la (.row b cap) l.length),dI i,uW (.pointer (aa ⟨b,0+(i:Int).toNat*2,af⟩)),uW (.pointer (aa ⟨b,0+(i:Int).toNat*2+0,af⟩)),dI (l.getD i (0,[])).1,uW (la (.row b cap) l.length),dI j,uW (.pointer (aa ⟨b,0+(j:Int).toNat*2,af⟩)),uW (.pointer (aa ⟨b,0+(j:Int).toNat*2+0,af⟩)),dI (l.getD j (0,[])).1,dB (decide ((l.getD i (0,[])).1<(l.getD j (0,[])).1))] 10 rfl rfl rfl rfl rfl ⟨
  OA.cV tok bF.nil rfl,OA.cV tok bF.nil rfl,OA.eval (ds:=[]) tok bF.nil rfl (by simp only[ay,aD];omega),OA.cV tok bF.nil rfl,
  OA.kS (fI rfl) (bG.BY (l:=0) (i:=i) (f:=0) tok rfl rfl (by simp) rfl a rfl rfl hi),
  OA.cV tok bF.nil rfl,OA.cV tok bF.nil rfl,OA.eval (ds:=[]) tok bF.nil rfl (by simp only[ay,aD];omega),OA.cV tok bF.nil rfl,
  OA.kS (fI rfl) (bG.BY (l:=0) (i:=j) (f:=0) tok rfl rfl (by simp) rfl a rfl rfl d),
  OA.cV tok bF.nil rfl,aw⟩ ?_
 exact bu rfl aw (AK.cY [0] rfl rfl rfl rfl rfl Tn)
def GX{N off n:Nat}{all:List ar}{o:ar}{φ:Fr}{t:aj}{x y:ak}{b cap i:Nat}{l:List bm}{v:bm}(h:o.op=.store t x y)(a:bD tt t=aa i76)(d:off=i*2)(g:bP φ x=.e (.one (.v (.pointer (aa ⟨b,off,af⟩)))))(f:km (bP φ y)=aa [.c (.int .i64 v.1),.c (.str v.2)])(j:l.length=n)(hi:i<l.length)(m:o.guard=af):
  OA X N all o φ [hB (.row b cap) n l] .any [hB (.row b cap) n (l.set i v)]:=by subst d;have p:=dO.zy (N:=N) (σ:=[hB (.row b cap) n l]) tok 0 (E:=76) (k:=2) (n:=n) (b:=b) (cap:=cap) (off:=i*2) (xs:=s8 l) h a g f rfl rfl rfl (by grind[vC]);grind[To,GW,OA.wF]
abbrev swS(b cap:Nat)(l:List bm)(i j:Nat)(x y:Bool):List aP:=match x with
 |false=>[hB (.row b cap) l.length l]
 |true=>match y with
  |false=>[hB (.row b cap) l.length (l.set i (l.getD j (0,[])))]
  |true=>[hB (.row b cap) l.length (swp l i j)]
def xL(b cap:Nat){l:List bm}(d:jY l){i j:Nat}(hi:i<l.length)(e:j<l.length):Ev X 275 [uW (la (.row b cap) l.length),dI i,dI j] [hB (.row b cap) l.length l] (.fa []) [hB (.row b cap) l.length (swp l i j)]:=by
 refine Ev.bQ Tryz.func275 rfl λg=>?_;have a:=xJ d;refine aW [(1000000,ab)] rfl aw ?_;let xs:Nat->D:=λk=>([uW (la (.row b cap) l.length),dI i,uW (la (.row b cap) l.length),dI j,uW (la (.row b cap) l.length),dI j,uW (.pointer (aa ⟨b,0+(j:Int).toNat*2,af⟩)),Xm (l.getD j (0,[])),uW (la (.row b cap) l.length),dI i,uW (.pointer (aa ⟨b,0+(i:Int).toNat*2,af⟩)),Xm (l.getD i (0,[])),uW (.pointer (aa ⟨b,0+(i:Int).toNat*2,af⟩)),.any,uW (.pointer (aa ⟨b,0+(j:Int).toNat*2,af⟩))]:List D).getD k .any
 refine AK.flags iZ xs (wU (swS b cap l i j) 13 15) rfl rfl rfl rfl ⟨
  .Qe tok bF.nil,.Qe tok bF.nil,.Qe tok bF.nil,.Qe tok bF.nil,.Qe tok bF.nil,.Qe tok bF.nil,
  .U7 tok bF.nil,
  dT.fw rfl rfl rfl rfl (OA.kS (fI rfl) (bG.BY (l:=0) (i:=j) (f:=0) tok rfl rfl (by simp) rfl a rfl rfl e)),
  .Qe tok bF.nil,.Qe tok bF.nil,
  .U7 tok bF.nil,
  dT.fw rfl rfl rfl rfl (OA.kS (fI rfl) (bG.BY (l:=0) (i:=i) (f:=0) tok rfl rfl (by simp) rfl a rfl rfl hi)),
  .U7 tok bF.nil,
  dT.sA rfl rfl ?_,
  .U7 tok bF.nil,
  dT.sB rfl rfl ?_,aw⟩ ?_
 .exact GX rfl rfl (by simp) rfl rfl rfl hi rfl
 .exact GX rfl rfl (by simp) rfl rfl (by simp) (by grind) rfl
 intro D c;show AK X _ _ _ _ _ (swS b cap l i j (D 13) (D 15));rw[c 13 (by decide),c 15 (by decide)];exact cw.px [0] rfl aw rfl rfl rfl Tn
def Mn(g:Nat)(bf:m9){l:List bm}(p:jY l)(o:l.length<=1000){x:bm}(r:x.2.length<=9223372036854775807):
  dZ (ι:=m9) X 274 [uW (.pointer (aa ⟨g,0,af⟩)),T5 x] [cB g bf l.length,hB bf l.length l] (λ_=>.fa []) (λa=>[cB g a (l.length+1),hB a (l.length+1) (l++[x])]):=by
 refine dZ.qQ Tryz.func274 rfl rfl rfl λq=>?_;refine aW [(1000000,ab)] rfl aw ?_;have f:=ni bf l.length;refine AK.J7 (ι:=m9) iZ 7 8 10 (λk=>bw k 6) (λk=>([uW (.pointer (aa ⟨g,0,af⟩)),uW (.pointer (aa ⟨g,0,af⟩)),uW (.pointer (aa ⟨g,0,af⟩)),uW (la bf l.length),T5 x,Xm x,.e (.one (.c (.sl ab 2 1 λi=>([[.int .i64 x.1,.str x.2]]:List (List C)).getD i [])))]:List D).getD k .any) (λa _=>uW (la a (l.length+1))) (λa=>[cB g bf l.length,.cf (fV 76 2 a (l.length+1) (s8 l++[.int .i64 x.1,Bd x.2]))])
  rfl rfl rfl rfl rfl rfl rfl (λk h=>by have:=cZ h;omega) rfl
  ⟨OA.cV tok bF.nil rfl,OA.cV tok bF.nil rfl,OA.kS (fI rfl) (bG.BX rfl rfl),OA.yz tok 0 rfl rfl rfl rfl rfl f rfl,OA.cV tok bF.nil rfl,OA.kS (fI rfl) (bG.Ae (cs:=[.int .i64 x.1,.str x.2]) tok rfl rfl rfl rfl),OA.cV tok bF.nil rfl,aw,aw,aw,aw⟩
  (λa=>⟨OA.cV tok bF.nil rfl,OA.cV tok bF.nil rfl,OA.kS (fI rfl) (bG.BX rfl rfl),OA.yz tok 0 rfl rfl rfl rfl rfl f rfl,OA.cV tok bF.nil rfl,OA.kS (fI rfl) (bG.Ae (cs:=[.int .i64 x.1,.str x.2]) tok rfl rfl rfl rfl),OA.cV tok bF.nil rfl,aw,aw⟩)
  (mz.wF rfl (dO.oo (l:=1) (bf:=bf) (xs:=s8 l) (n:=l.length) (xv:=[.int .i64 x.1,Bd x.2]) (Tp rfl) rfl rfl rfl rfl rfl (λM v j c b m=>?_) (by show _*24<=_;omega))) λa=>?_
 .match j,b with
  |0,b=>cases b;cases m;exact⟨rfl,rfl⟩
  |1,b=>grind[str_val]
 have d:=ni a (l.length+1);refine AK.law (bG.BX rfl rfl) rfl rfl ?_;refine AK.Kf tok 0 rfl rfl rfl rfl rfl (by cases a<;>rfl) d rfl rfl rfl ?_;refine bu rfl aw ?_;refine⟨a,cw.px [0,1] rfl aw ?_ rfl rfl uG⟩;show aa [_,aP.cf (fV _ _ _ _ (s8 l++_))]=aa [_,aP.cf (fV _ _ _ _ (s8 (l++[x])))];rw[A4];rfl
def fV.cut{E:aj}{b cap:Nat}{l:List bm}{x:bm}{v:ah}{ch:Nat->Option Obj}(h:fV E 2 (.row b cap) (l.length+1) (s8 (l++[x])) v ch):fV E 2 (.row b cap) l.length (s8 l) v ch:=by
 obtain⟨h1,h2,e,i,d,c,f,g⟩:=h;rw[A4]at *;refine⟨h1,λy a=>h2 y (List.mem_append_left _ a),vC l,by omega,d,s8 [x]++c,?_,?_⟩
 .grind
 grind
def Pq(g b cap:Nat){l:List bm}{x:bm}(j:jY (l++[x]))(d:l.length<=1000)(a:l.length+1<=cap):
  Ev X 273 [uW (.pointer (aa ⟨g,0,af⟩))] [cB g (.row b cap) (l.length+1),hB (.row b cap) (l.length+1) (l++[x])] (T5 x) [cB g (.row b cap) l.length,hB (.row b cap) l.length l]:=by
 refine Ev.bQ Tryz.func273 rfl λk=>?_;have c:gn 2 (l.length+1) (dM.fn (l++[x])) (s8 (l++[x])):=by grind[xJ,List.length_append]
 refine bu rfl aw ?_;refine AK.law (bG.BX rfl rfl) rfl rfl ?_;refine AK.one (OA.yz tok 0 rfl rfl rfl rfl rfl rfl rfl) rfl ?_;refine bu rfl (by simp only[ay,bA,aD];omega) ?_;refine AK.law (bG.BX rfl rfl) rfl rfl ?_;refine AK.one (OA.yz tok 0 rfl rfl rfl rfl rfl rfl rfl) rfl ?_;refine bu rfl (by simp only[ay,bA,aD];omega) ?_;refine AK.law (bG.BY (l:=1) (i:=l.length) (f:=0) tok rfl rfl (by simp[show i76.size=2 from rfl]) rfl c rfl rfl (by simp)) rfl rfl ?_;refine bu rfl aw ?_;refine AK.law (bG.BX rfl rfl) rfl rfl ?_;refine AK.one (OA.yz tok 0 rfl rfl rfl rfl rfl rfl rfl) rfl ?_;refine bu rfl aw ?_;refine AK.law (bG.RS tok rfl rfl rfl rfl rfl rfl a (by omega) (by omega)) rfl rfl ?_;rw[show(((l.length+1:Nat):Int)-1).toNat=l.length from by omega];refine AK.law (bG.BX rfl rfl) rfl rfl ?_;refine AK.Kf tok 0 rfl rfl rfl rfl rfl rfl rfl rfl rfl rfl ?_;refine qG [] 2 rfl aw ?_;refine AK.Nt (ι:=Unit) 1 (λ_=>fV 76 2 (.row b cap) l.length (s8 l)) rfl (λv e h=>⟨(),fV.cut h⟩) λ_=>?_;refine bu rfl aw (AK.cY [0,1] rfl ?_ rfl rfl rfl uG);simp
end
end Go.AM.R1
namespace Go.AM
section
open Go.Conc (G)
section
variable {P:aq}{X:Cx P}{N:Nat}{Qf:Post}{K:List It}{φ:Fr}{σ:List aP}{c:Code}
def pw{S:Type}{P:aq}(X:Cx P)(N:Nat)(Qf:Post)(K:List It)(I:S->Prop)(b:S->Fr)(st:S->List aP)(a:S->Nat)(d:Nat)(x:S):Post:=λe φ' σ'=>match e with
 |.normal=>∃y n,d<=n/\I y/\a y<a x/\oq φ' (b y)/\BT n (b y)=ab/\∃σ1 rest,σ'=σ1++rest/\σ1.length=n/\(rZ n σ1=ab/\lB rest=ab)/\D4 σ1 (st y)
 |e=>AK X N Qf K e φ' σ'
def AK.Qc{S:Type}(G:Nat)(I:S->Prop)(fr:S->Fr)(st:S->List aP)(A:S->Nat)(x:S){ps qs:List Prop}(w:nA φ (fr x)=aa ps)(O:ay ps)(l:oV σ (st x)=aa qs)(V:ay qs)(hn:σ.length=G)(M:I x)(round:∀x,I x->AK X N (pw X N Qf K I fr st A G x) [.code c] .normal (fr x) (st x)):AK X N Qf (.code (.loop c)::K) .normal φ σ:=by
 intro s a Y hh b kk cs SS hb hQ;have i:=gU l V;obtain⟨C,p,_⟩:=i s hh;refine sr (λm a' s'=>∃y,I y/\cq N (st y) s' (fr y) a'/\aE (st y) s'/\cU σ s (st y) s'/\A y=m) ?_ ?_ ⟨x,M,(Y.le (cX w O)).bs i hh,C,p.na hh,rfl⟩
 .rintro n a' s' ⟨y,u,D,g,d,e⟩;exact⟨st y,g,λs1 h1=>⟨y,u,D.rely h1 g,g.rely h1,d.trans h1.stepW,e⟩⟩
 rintro m a' s' ⟨y,u,D,g,d,rfl⟩ Q;refine round y u s' a' D g b (.inLoop c::kk) cs SS hb ?_;intro e J σ2 s2 a2 q H h2 nV;cases e with
 |normal =>
  obtain⟨z,nz,U,hz,o,j,W,σ1,rest,rfl,R,⟨hpl,k⟩,v⟩:=q;have F:=h2.drop (by grind);obtain⟨E,f,B⟩:=v _ F;have r:=H.le j;have Z:eu s2 (s2.cut σ1.length):=⟨rfl,λ_ _ _ h=>h,λ_ _ _=>rfl,h2.mem,λb hb=>hb.imp id λ⟨L,T,hb⟩=>⟨L,fP T,hb⟩⟩
  refine .ghost Z (Q a2 (s2.cut σ1.length) (A z) o ⟨z,hz,⟨r.size,r.defers.imp λ_ h1=>(h1.drop k).mono f.ext,λt=>B _ _ ((r.slot t).drop (nB (by grind)))⟩,E,?_,rfl⟩);exact((d.trans nV).drop (by omega)).trans (f.na F)
 |_=>exact ends.cons (λ_ _=>rfl) (by simp) (hQ _ _ _ _ _ q H h2 (d.trans nV))
def AK.z8{S:Type}{i:Nat}{I:S->Prop}{fr:S->Fr}{st:S->List aP}{b:S->Nat}{x:S}{m:List It}(n:Nat)(y:S){ps qs:List Prop}(l:i<=n)(a:nA φ (fr y)=aa ps)(j:ay ps)(f:BT n (fr y)=ab)(h:wJ n σ=ab)(d:oV (σ.take n) (st y)=aa qs)(k:ay qs)(e:rZ n (σ.take n)=ab)(o:I y)(g:b y<b x):
  AK X N (pw X N Qf m I fr st b i x) [] .normal φ σ :=
 ⟨y,n,l,o,g,cX a j,f,σ.take n,σ.drop n,(ld n σ).symm,by grind[Nat.le_of_ble_eq_true,qn],⟨e,(qn h).2⟩,gU d k⟩
def AK.z9{S:Type}{d:Nat}{I:S->Prop}{fr:S->Fr}{st:S->List aP}{b:S->Nat}{x:S}{id:Nat}{f a g:List It}(h1:jO id f=af)(h2:jO id a=aa g)(k:AK X N Qf g .normal φ σ):
  AK X N (pw X N Qf a I fr st b d x) (.code (.exit id)::f) .normal φ σ :=
 AW.mono (AK.leave (A:=λφ' σ'=>pw X N Qf a I fr st b d x .normal φ' σ') h1 h2 k) λe φ' σ' q=>by
  have key:∀(K:List It) e,AK X N (λe φ' σ'=>match e with
    |.normal=>pw X N Qf a I fr st b d x .normal φ' σ'
    |e=>AK X N Qf a e φ' σ') K e φ' σ'->AK X N (pw X N Qf a I fr st b d x) K e φ' σ':=by
   have e:(λe φ' σ'=>match e with
    |.normal=>pw X N Qf a I fr st b d x .normal φ' σ'
    |e=>AK X N Qf a e φ' σ')=pw X N Qf a I fr st b d x:=by funext e φ' σ';cases e<;>rfl
   grind
  exact key _ _ q
end
end
def kp(φ:Fr)(ks:List Nat):Fr:=ks.map λk=>(k,look φ k)
section
variable {P:aq}{X:Cx P}{N:Nat}{Qf:Post}{K:List It}{φ:Fr}{σ:List aP}{c:Code}
def AK.sk{S:Type}(n:Nat)(ks:List Nat)(I:S->Prop)(fr:S->Fr)(st:S->List aP)(d:S->Nat)(x:S){ps qs:List Prop}(a:nA φ (kp φ ks++fr x)=aa ps)(h:ay ps)(b:oV σ (st x)=aa qs)(e:ay qs)(f:σ.length=n)(g:I x)(round:∀x,I x->AK X N (lp X N Qf K I (λx=>kp φ ks++fr x) st d n x) [.code c] .normal (kp φ ks++fr x) (st x)):AK X N Qf (.code (.loop c)::K) .normal φ σ :=
 .cC n I (λx=>kp φ ks++fr x) st d x a h b e f g round
end
end Go.AM
namespace Go.AM.R1
section
open Go.Proofs
variable {X:Cx ag}
abbrev T6(g:Nat):D:=.e (.one (.c (.ifs 181 (.val (.pointer (aa ⟨g,0,af⟩))))))
section
variable {σ:List aP}{l g n:Nat}{bf:m9}(a:dw l σ=aa (cB g bf n))
include a
def Wu:qM ag σ 181 (.pointer (aa ⟨g,0,af⟩)) "Len" 127 (la bf n):=.deref tok (ey Tryz.type181) rfl rfl rfl Tryz.underlying181 a rfl (ni bf n) rfl
def Mo:qM ag σ 181 (.pointer (aa ⟨g,0,af⟩)) "Less" 272 (la bf n):=.deref tok (ey Tryz.type181) rfl rfl rfl Tryz.underlying181 a rfl (ni bf n) rfl
def Mp:qM ag σ 181 (.pointer (aa ⟨g,0,af⟩)) "Swap" 275 (la bf n):=.deref tok (ey Tryz.type181) rfl rfl rfl Tryz.underlying181 a rfl (ni bf n) rfl
end
def Wv{σ:List aP}{v:ah}:qM ag σ 181 v "Push" 274 v:=.ptr (ey Tryz.type181) rfl rfl rfl Tryz.underlying181
def ZA{σ:List aP}{v:ah}:qM ag σ 181 v "Pop" 273 v:=.ptr (ey Tryz.type181) rfl rfl rfl Tryz.underlying181
theorem ub{l:List bm}(h:jY l){i j:Nat}(hi:i<l.length)(c:j<l.length):jY (swp l i j):=λx b=>h x (OH hi c b)
theorem xM:∀(f:Nat)(l:List bm)(j:Nat),j<f->xQ f l j=xQ (j+1) l j
 |0,_,_,h=>absurd h (fQ _)
 |f+1,l,j,h=>by
  rw[xQ,xQ];by_cases b:(j-1) / 2=j
  .grind
  .rw[aY b,aY b];split
   .have c:(j-1) / 2<j:=by omega
    rw[xM f _ _ (by omega),xM j _ _ c]
   .rfl
def Tq(g b cap:Nat){l:List bm}(a:jY l)(x:l.length<=1000){j:Nat}(v:j<l.length):
  Ev X 158 [T6 g,dI j] [cB g (.row b cap) l.length,hB (.row b cap) l.length l] (.fa []) [cB g (.row b cap) l.length,hB (.row b cap) l.length (xQ (j+1) l j)]:=by
 refine Ev.bQ Tryz.func158 rfl λy=>?_;refine qG [] 3 rfl aw ?_;refine AK.sk 2 [0] (λq:List bm×Nat=>jY q.1/\q.1.length=l.length/\q.2<l.length/\xQ (j+1) l j=xQ (q.2+1) q.1 q.2) (λq=>[(1,dI q.2)]) (λq=>[cB g (.row b cap) q.1.length,hB (.row b cap) q.1.length q.1]) (λq=>q.2) (l,j) rfl ?_ rfl ?_ rfl ⟨a,rfl,v,rfl⟩ ?_
 .simp
 .simp
 rintro⟨q,i⟩ ⟨r,p,s,f⟩;simp only at r p s f;cases i with
 |zero =>
  have e:xQ (0+1) q 0=q:=by rw[xQ,bl rfl]
  rw[e]at f;rw[f];refine qG [] 5 rfl (by simp[bA]) ?_;refine AK.law (En (k:=.i64) 0 rfl rfl rfl (by simp[bA]) (λw=>rfl) (λw=>rfl)) rfl rfl ?_;refine aW [(11,ab),(17,ab)] rfl (by simp) (AK.leaveD rfl rfl ?_);exact cw.px [0,1] rfl aw (by rw[<-p];rfl) rfl rfl uG
 |succ i =>
  refine aW [(11,ae),(1000001,ab)] rfl (by simp only[ay,bA];omega) ?_;have t:(((i+1:Nat):Int)-1) / 2=((i / 2:Nat):Int):=by omega
  rw[t];have u:(i+1-1) / 2=i / 2:=by grind
  have m:i / 2<q.length:=by omega
  have c:i+1<q.length:=by omega
  have e:xQ (i+1+1) q (i+1)=if nG q (i+1) (i / 2)=ab then xQ (i+1) (swp q (i / 2) (i+1)) (i / 2)else q:=by rw[xQ,aY (by omega),u]
  rw[e]at f;refine AK.region ?_;refine aW [(11,ae)] rfl (by simp only[ay,eD,du,aD];omega) ?_;refine AK.kE (xK b cap r q.length c m).sW [1] (Mo (l:=0) rfl) rfl rfl rfl rfl rfl rfl rfl rfl (λ_=>rfl) rfl (λ_=>rfl) rfl λ_=>?_;by_cases o:nG q (i+1) (i / 2)=ab
  .rw[bl o]at f;have d:=o0 o;refine aW [(17,ae)] rfl (by simpa using d) ?_;refine AK.kE (xL b cap r m c).sW [1] (Mp (l:=0) rfl) rfl rfl rfl rfl rfl rfl rfl rfl (λ_=>rfl) rfl (λ_=>rfl) rfl λ_=>?_;refine bu rfl aw (AK.aQ (swp q (i / 2) (i+1),i / 2) rfl ?_ ?_ ?_ ?_)
   .simp
   .simp[fX]
   .grind [ub,fX,xM]
   grind
  .rw[aY o]at f;rw[f];have d:¬(q.getD (i+1) (0,[])).1<(q.getD (i / 2) (0,[])).1:=λh=>o (dc h);refine aW [(17,ab)] rfl (by simpa using d) (AK.leaveD rfl rfl ?_);exact cw.px [0,1] rfl aw (by rw[<-p];rfl) rfl rfl uG
def Mq{σ:List aP}{i n:Nat}{bf:m9}{l:List bm}(h:dw i σ=aa (hB bf n l))(e:0<n)(s:St)(d:aE σ s):∃b cap,bf=.row b cap/\n<=cap:=by
 have a:=b5 h;obtain⟨b,cap,rfl⟩:=(fV.len a s d).2.2.1 e;have c:i<s.β.length:=by rw[d.len];grind
 obtain⟨j,f,_⟩:=d.box i _ _ a (br c);exact⟨b,cap,rfl,f.2.2.2.1⟩
def Da(g:Nat)(bf:m9){l:List bm}(a:jY l)(p:l.length<=100){x:bm}(o:bA .i64 x.1/\x.2.length<=9223372036854775807):
  dZ (ι:=m9) X 125 [T6 g,T5 x] [cB g bf l.length,hB bf l.length l] (λ_=>.fa []) (λc=>[cB g c (l.length+1),hB c (l.length+1) (gQ l x)]):=by
 refine dZ.qQ Tryz.func125 rfl rfl rfl λq=>?_;refine bu rfl aw ?_;refine AK.kE (Mn g bf a (by omega) o.2) [0,1] Wv rfl rfl rfl rfl rfl rfl rfl rfl (λ_=>rfl) rfl (λ_=>rfl) rfl λc=>?_;have d:jY (l++[x]):=λy m=>by
  rcases gb.1 m with h|h
  .exact a y h
  grind
 refine AK.Jb (Mq (i:=1) (n:=l.length+1) (bf:=c) (l:=l++[x]) rfl (by omega)) λk=>?_;obtain⟨b,cap,rfl,e⟩:=k;refine bu rfl aw ?_;refine AK.kE (A5 (.row b cap) (l.length+1) (l++[x])).sW [1] (Wu (l:=0) rfl) rfl rfl rfl rfl rfl rfl rfl rfl (λ_=>rfl) rfl (λ_=>rfl) rfl λ_=>?_;refine bu rfl (by simp only[ay,bA];omega) ?_;rw[show((l.length+1:Nat):Int)-1=(l.length:Nat) by omega];have f:=Tq (X:=X) g b cap d (by grind) (j:=l.length) (by simp);rw[cA,jg]at f;refine AK.cQ f [0,1] rfl ?_;refine bu rfl aw ?_;exact⟨.row b cap,cw.px [0,1] rfl aw rfl rfl rfl uG⟩
theorem sT:∀(f g:Nat)(l:List bm)(i n:Nat),n<=i+f->n<=i+g->gH f l i n=gH g l i n
 |0,0,_,_,_,_,_=>rfl
 |0,g+1,l,i,n,h,_=>by rw[gH,gH,bl (by omega)]
 |f+1,0,l,i,n,_,h=>by rw[gH,gH,bl (by omega)]
 |f+1,g+1,l,i,n,c,b=>by
  have hk:i<nH l i n:=by unfold nH;split<;>omega
  rw[gH,gH];split
  .rfl
  .split
   .exact sT f g _ _ _ (by omega) (by omega)
   .rfl
def Mr(g b cap n:Nat){l:List bm}(a:jY l)(A:n<=l.length)(z:l.length<=1000):
  Ev X 161 [T6 g,dI 0,dI n] [cB g (.row b cap) l.length,hB (.row b cap) l.length l] .any [cB g (.row b cap) l.length,hB (.row b cap) l.length (gH n l 0 n)]:=by
 refine Ev.bQ Tryz.func161 rfl λB=>?_;refine di rfl aw ?_;refine AK.sk 2 [0,1,2] (λq:List bm×Nat=>jY q.1/\q.1.length=l.length/\q.2<=n/\gH n l 0 n=gH n q.1 q.2 n) (λq=>[(7,dI q.2)]) (λq=>[cB g (.row b cap) q.1.length,hB (.row b cap) q.1.length q.1]) (λq=>n-q.2) (l,0) rfl ?_ rfl ?_ rfl ⟨a,rfl,by omega,rfl⟩ ?_
 .simp
 .simp
 rintro⟨q,i⟩ ⟨p,r,v,f⟩;simp only at p r v f;by_cases u:n<=2*i+1
 .have e:gH n q i n=q:=by rw[sT n (n+1) _ _ _ (by omega) (by omega),gH,bl u]
  rw[e]at f;rw[f];refine aW [(17,ab),(21,ab)] rfl (by simp only[ay,bA,aZ,aF,aD];omega) (AK.leaveD rfl rfl ?_);refine bu rfl aw (AK.cY [0,1] rfl aw (by rw[<-r];rfl) rfl rfl uG)
 have hk:i<nH q i n/\nH q i n<n:=by unfold nH;split<;>omega
 have e:gH n q i n=if nG q (nH q i n) i=ab then gH n (swp q i (nH q i n)) (nH q i n) n else q:=by rw[sT n (n+1) _ _ _ (by omega) (by omega),gH,aY u]
 rw[e]at f;have s:2*i+1<q.length:=by omega
 have o:i<q.length:=by omega
 have v1:2*(i:Int)+1=((2*i+1:Nat):Int):=by omega
 have w:((2*i+1:Nat):Int)+1=((2*i+2:Nat):Int):=by omega
 refine aW [(17,ae),(21,ae),(1000004,ab)] rfl (by simp only[ay,bA,bM,aF,aD];omega) ?_;rw[v1];refine aW [(1000006,ab)] rfl (by simp only[ay,bA,bM,aF,aD];omega) ?_;rw[w];apply AK.join [(0,T6 g),(1,dI 0),(2,dI n),(7,dI i),(9,dI (nH q i n))] [cB g (.row b cap) q.length,hB (.row b cap) q.length q]
 .intro out;by_cases t:2*i+2<n
  .refine AK.region ?_;refine aW [(28,ab)] rfl (by simp only[ay,aZ,aD];omega) ?_;refine AK.kE (xK b cap p q.length (i:=2*i+2) (j:=2*i+1) (by omega) s).sW [1] (Mo (l:=0) rfl) rfl rfl rfl rfl rfl rfl rfl rfl (λ_=>rfl) rfl (λ_=>rfl) rfl λ_=>?_;by_cases c:nG q (2*i+2) (2*i+1)=ab
   .have m:nH q i n=2*i+2:=bl ⟨t,c⟩;refine aW [(33,ab),(1000008,ab)] rfl (by simpa using o0 c) (out _ _ rfl ?_);simp[m]
   .have m:nH q i n=2*i+1:=aY λh=>c h.2;have d:¬(q.getD (2*i+2) (0,[])).1<(q.getD (2*i+1) (0,[])).1:=λh=>c (dc h);refine aW [(33,ae),(1000008,ab)] rfl (by simpa using d) (out _ _ rfl ?_);simp[m]
  .have m:nH q i n=2*i+1:=aY λh=>t h.1;refine aW [(28,ae),(33,ae),(1000008,ab)] rfl (by simp only[ay,bM,aF,aD];omega) (out _ _ rfl ?_);simp[m]
 generalize nH q i n=k at *;obtain⟨y,x⟩:=hk;refine AK.region ?_;refine bu rfl aw ?_;refine AK.kE (xK b cap p q.length (i:=k) (j:=i) (by omega) o).sW [1] (Mo (l:=0) rfl) rfl rfl rfl rfl rfl rfl rfl rfl (λ_=>rfl) rfl (λ_=>rfl) rfl λ_=>?_;by_cases c:nG q k i=ab
 .rw[bl c]at f;refine aW [(39,ae)] rfl (by simpa using o0 c) ?_;refine AK.kE (xL b cap p o (show k<q.length by omega)).sW [1] (Mp (l:=0) rfl) rfl rfl rfl rfl rfl rfl rfl rfl (λ_=>rfl) rfl (λ_=>rfl) rfl λ_=>?_;refine bu rfl aw (AK.aQ (swp q i k,k) rfl ?_ ?_ ?_ ?_)
  .simp
  .simp[fX]
  .grind [ub,fX]
  grind
 .rw[aY c]at f;rw[f];have d:¬(q.getD k (0,[])).1<(q.getD i (0,[])).1:=λh=>c (dc h);refine aW [(39,ab)] rfl (by simpa using d) (AK.leaveD rfl rfl ?_);refine bu rfl aw (AK.cY [0,1] rfl aw (by rw[<-r];rfl) rfl rfl uG)
def xN{n:Nat}:∀(f:Nat){l:List bm}(i:Nat),jY l->i<l.length->n<=l.length->jY (gH f l i n)
 |0,_,_,h,_,_=>h
 |f+1,l,i,h,hi,b=>by
  rw[gH];split
  .exact h
  .have hk:nH l i n<n:=by unfold nH;split<;>omega
   split
   .exact xN f _ (ub h hi (by omega)) (by grind[fX]) (by grind[fX])
   grind
def Fe(g b cap:Nat){l:List bm}{n:Nat}(a:jY l)(o:l.length=n+1)(q:n<=100)(d:n+1<=cap):
  Ev X 128 [T6 g] [cB g (.row b cap) (n+1),hB (.row b cap) (n+1) l] (T5 ((kr l).getD n (0,[]))) [cB g (.row b cap) n,hB (.row b cap) n ((kr l).take n)]:=by
 refine Ev.bQ Tryz.func128 rfl λt=>?_;refine bu rfl aw ?_;refine AK.kE (A5 (.row b cap) (n+1) l).sW [1] (Wu (l:=0) rfl) rfl rfl rfl rfl rfl rfl rfl rfl (λ_=>rfl) rfl (λ_=>rfl) rfl λ_=>?_;refine bu rfl (by simp only[ay,bA,aD];omega) ?_;rw[show((n+1:Nat):Int)-1=((n:Nat):Int) by omega];have m:=xL (X:=X) b cap a (i:=0) (j:=n) (by omega) (by omega);rw[o]at m;refine AK.kE m.sW [1] (Mp (l:=0) rfl) rfl rfl rfl rfl rfl rfl rfl rfl (λ_=>rfl) rfl (λ_=>rfl) rfl λ_=>?_;have f:=ub a (i:=0) (j:=n) (by omega) (by omega);have k:=Mr (X:=X) g b cap n f (by grind[fX]) (by grind[fX]);have c:=xN (n:=n) n 0 f (by grind[fX]) (by grind[fX]);have e:gH n (swp l 0 n) 0 n=kr l:=by unfold kr;grind[sT]
 rw[fX,o,e]at k;rw[e]at c;have p:kr l=(kr l).take n++[(kr l).getD n (0,[])]:=by
  have s:(kr l).length=n+1:=by grind[Cq]
  apply pX
  .grind
  grind
 generalize(kr l).getD n (0,[])=x at *;have h:((kr l).take n).length=n:=by grind
 generalize(kr l).take n=r at *;rw[p]at k c;subst h;refine bu rfl aw ?_;refine AK.cQ k [0,1] rfl ?_;refine bu rfl aw ?_;refine AK.kE (Pq g b cap c (by omega) d).sW [0,1] ZA rfl rfl rfl rfl rfl rfl rfl rfl (λ_=>rfl) rfl (λ_=>rfl) rfl λ_=>?_;refine bu rfl aw (AK.cY [0,1] rfl (by simp) rfl rfl rfl uG)
def PK{P:aq}{o:ar}{l:ak->D}{σ:List aP}{op:BinOp}{t ty T:aj}{v:ah}{x y:ak}(h:o.op=.binOp op t x y ty){c:Bool}{u:Array (String×aj)}(q:P.underlying t=aa (.interface u))(z:l x=.e (.one (.c .iw)))(r:l y=.e (.one (.c (.val (.iface T v)))))(b:∀w,(eqGuard op t x y .nilIface (.iface T v)).run P w=.ok () w)(i:∀w es,(eqGuard op t x y .nilIface (.iface T v)).events P w es=es)(m:ja op ae=aa c):bG P o l σ (.e (.one (.c (.bool c)))) σ:=by
 refine .quiet λs p A n=>?_;have j:=n x;have f:=n y;rw[z]at j;rw[r]at f;replace j:=eY j;replace f:=eY f;generalize a:p x=vx at j;generalize d:p y=vy at f;cases j;cases f;have k:(Op.equal t .nilIface (.iface T v)).run P s.w=.ok ae s.w:=by show(aX (9999+1) t _ _).run P s.w=_;unfold aX;simp[underlying,q]
 have g:∀es,(Op.equal t .nilIface (.iface T v)).events P s.w es=es:=λes=>by show(aX (9999+1) t _ _).events P s.w es=es;unfold aX;simp[underlying,q]
 cases op<;>simp only[ja,reduceCtorEq,dr]at m
 .subst m;exact⟨.bool ae,by simp[av,h,a,d,b,binOp,k],Rd.bool,by simp[av,h,a,d,b,i,binOp,k,g]⟩
 .subst m;exact⟨.bool ab,by simp[av,h,a,d,b,binOp,k],Rd.bool,by simp[av,h,a,d,b,i,binOp,k,g]⟩
abbrev dGv(v:ah):D:=.e (.one (.c (.val v)))
def Dn(T:aj)(v:ah):Ev X 93 [.e (.one (.c .iw)),dGv (.iface T v)] [] (dB ae) []:=by refine Ev.bQ Tryz.func93 rfl λa=>?_;refine bu rfl aw ?_;refine AK.law (Er rfl Tryz.underlying57 rfl rfl rfl) rfl rfl ?_;refine aW [(11,ab)] rfl (by simp) ?_;refine AK.law (PK rfl Tryz.underlying57 rfl rfl (λ_=>rfl) (λ_ _=>rfl) rfl) rfl rfl ?_;exact bu rfl aw (AK.bx rfl rfl)
abbrev GB(a b:aj×ah):List aP:=[.cf (dJ 1 57 (.iface a.1 a.2)),.cf (dJ 2 57 (.iface b.1 b.2))]
def A3:∀j,j<2->([0,1]:List Nat)[j]?=aa j:=by decide
def ua(a b:aj×ah)(k:Int)(p:Bs)(hk:b6 k=ab)(c:bt p=ab):Ev X 45 [dI k,dS p] (GB a b) (dI (ek k p)) (GB a b):=by refine Ev.bQ Tryz.func45 rfl λd=>?_;have c1:bF X [(92,oX aI aS (λk p=>YL (ek k p)) λk p=>[b6 k=ab,bt p=ab])]:=.cons t92 .nil;refine cg c1 rfl (by simp[hk,c]) ?_;refine AK.one (OA.JS tok 0 rfl rfl rfl rfl rfl rfl) rfl ?_;refine AK.cQ (Dn _ _) [] rfl ?_;refine cg c1 rfl aw ?_;refine AK.one (OA.JS tok 1 rfl rfl rfl rfl rfl rfl) rfl ?_;refine AK.NZ (Dn _ _) [] rfl rfl rfl rfl rfl rfl rfl rfl rfl rfl rfl ?_;exact aV c1 [(20,ae)] rfl (by simp) (AK.cY [0,1] rfl rfl rfl rfl rfl A3)
end
end Go.AM.R1
namespace Go.AM
inductive Tr where
 |nil
 |nd (l:Tr) (a b:Int) (r:Tr)
def nc(E:aj):Tr->ah->(Nat->Option Obj)->Prop
 |.nil,v,d=>v=.pointer af/\∀b,d b=af
 |.nd l a b r,v,d=>∃x f e cl cr,v=.pointer (aa ⟨x,0,af⟩)/\(bA .i64 a/\bA .i64 b)/\nc E l f cl/\nc E r e cr/\d x=aa (.cells #[.int .i64 a,.int .i64 b,f,e] E (0,0))/\cl x=af/\cr x=af /\
   (∀y o,cl y=aa o->cr y=af/\d y=aa o)/\(∀y o,cr y=aa o->d y=aa o)/\∀y o,d y=aa o->y=x∨cl y=aa o∨cr y=aa o
def nc.cell{E:aj}{t:Tr}{v:ah}{ch:Nat->Option Obj}(h:nc E t v ch):cJ v=ab:=by
 cases t with
 |nil=>rw[h.1];rfl
 |nd=>obtain⟨_,_,_,_,_,rfl,_⟩:=h;rfl
section
variable {σ σ':List aP}{s s':St}
def aE.Gi{T:Nat->Prop}(hh:aE σ s)(j:s'.w=s.w)(m:s'.M=s.M)(p:s'.own=s.own)(i:s'.β.length=σ'.length)(u:σ.length<=σ'.length)(out:∀l,l<σ.length->¬T l->σ'[l]?=σ[l]?/\s'.β[l]?=s.β[l]?)(n:∀(l:Nat) (L':Loc),(T l∨σ.length<=l)->s'.β[l]?=aa L'->∀b∈L'.bs,∃(k:Nat) (L:Loc),T k/\s.β[k]?=aa L/\b∈L.bs)(eB:∀(l l':Nat) (L L':Loc),(T l∨σ.length<=l)->(T l'∨σ.length<=l')->s'.β[l]?=aa L->s'.β[l']?=aa L'->∀b∈L.bs,b∈L'.bs->l=l')(box:∀l B L,T l->σ[l]?=aa B->s.β[l]?=aa L->∃B' L',σ'[l]?=aa B'/\s'.β[l]?=aa L'/\gA B L B' L')(ok:Ext σ s σ' s'->∀l B L,(T l∨σ.length<=l)->σ'[l]?=aa B->s'.β[l]?=aa L->et σ' s' B L):aE σ' s'/\Step σ s σ' s':=by
 have hl:=hh.len;have q:∀(l:Nat) (B:aP) (L:Loc),σ[l]?=aa B->s.β[l]?=aa L->∃B' L',σ'[l]?=aa B'/\s'.β[l]?=aa L'/\gA B L B' L':=λl B L hB hL=>by
  by_cases h:T l
  .grind
  .obtain⟨h1,h2⟩:=out l (bZ.1 hB).1 h;exact⟨B,L,h1.trans hB,h2.trans hL,.refl _ _⟩
 have ex:Ext σ s σ' s':=⟨λb o v h=>m▸h,q⟩
 have cls:∀(l:Nat) (L':Loc),s'.β[l]?=aa L'->(T l∨σ.length<=l)∨(l<σ.length/\¬T l/\s.β[l]?=aa L'):=λl L' h=>by grind
 have a:∀(l:Nat) (L':Loc),s'.β[l]?=aa L'->∀b∈L'.bs,∃(k:Nat) (L:Loc),s.β[k]?=aa L/\b∈L.bs:=λl L' h b d=>by grind
 have x:∀(l l':Nat) (L L':Loc),(T l∨σ.length<=l)->¬T l'->s'.β[l]?=aa L->s.β[l']?=aa L'->∀b∈L.bs,b∈L'.bs->False:=λl l' L L' h1 h2 hL fj b d f=>by obtain⟨k,K,g,q2,q3⟩:=n l L h1 hL b d;exact h2 (hh.eB k l' K L' q2 fj b q3 f▸g)
 refine⟨⟨λb o v h=>?_,i,λl B L hB hL=>?_,λl l' L L' hL fj b d f=>?_,λL hL b d=>?_,λb d=>?_⟩,⟨?_,?_,ex.mem,?_,λL' fj b d=>?_,q,?_,?_,?_,p⟩⟩
 .rw[m]at h;rw[j];exact hh.mem b o v h
 .rcases cls l L hL with h1|⟨h1,h2,r⟩
  .grind
  .rw[(out l h1 h2).1]at hB;exact(hh.box l B L hB r).carry ex hl λb _=>⟨by rw[j],λo=>by rw[m]⟩
 .rcases cls l L hL with h1|⟨_,h1,h2⟩<;>rcases cls l' L' fj with t|⟨_,t,y⟩
  .grind
  .grind
  .grind
  .exact hh.eB l l' L L' h2 y b d f
 .obtain⟨l,e,rfl⟩:=dL hL;obtain⟨k,K,g,q2⟩:=a l _ (br e) b d;rw[j];exact hh.lt K (bJ g) b q2
 .rw[p]at d;refine⟨j▸(hh.own b d).1,λL hL Nc=>?_⟩;obtain⟨l,e,rfl⟩:=dL hL;obtain⟨k,K,g,q2⟩:=a l _ (br e) b Nc;exact(hh.own b d).2 K (bJ g) q2
 .grind
 .grind
 .grind
 .obtain⟨l,e,rfl⟩:=dL fj;obtain⟨k,K,g,q2⟩:=a l _ (br e) b d;grind
 all_goals rw[j]
def aE.Km(hh:aE σ s){l:Nat}{B B':aP}{L L':Loc}{Bs:List aP}{a:List Loc}(hB:σ[l]?=aa B)(q:s.β[l]?=aa L)(f:gA B L B' L')(e:a.length=Bs.length)(sub:∀M∈L'::a,∀b∈M.bs,b∈L.bs)(n:(L'::a).Pairwise λM N=>∀b∈M.bs,b∉N.bs)(ok:∀s':St,s'.w=s.w->s'.M=s.M->s'.β=s.β.set l L'++a->et (σ.set l B'++Bs) s' B' L'/\∀(i:Nat) (X:aP) (Y:Loc),Bs[i]?=aa X->a[i]?=aa Y->et (σ.set l B'++Bs) s' X Y):
  aE (σ.set l B'++Bs) {s with β:=s.β.set l L'++a}/\Step σ s (σ.set l B'++Bs) {s with β:=s.β.set l L'++a}:=by
 have hl:=hh.len;have d:l<σ.length:=(bZ.1 hB).1;have h:=ji.1 n;have at':∀(k:Nat) (K:Loc),(k=l∨σ.length<=k)->(s.β.set l L'++a)[k]?=aa K->(k=l/\K=L')∨(σ.length<=k/\a[k-σ.length]?=aa K):=λk K hk hK=>by grind
 refine aE.Gi (T:=λk=>k=l) hh rfl rfl rfl (by grind) (by simp) (λk hk hkl=>?_) (λk K hk hK y m=>?_) (λk k' K g hk Uq hK YF y m p=>?_) (λk X K hk hX hK=>?_) (λex k X K hk hX hK=>?_)
 .grind
 .grind
 .rcases at' k K hk hK with⟨h1,rfl⟩|⟨h1,h2⟩<;>rcases at' k' g Uq YF with⟨o,rfl⟩|⟨o,j⟩
  .omega
  .grind
  .grind
  .obtain⟨a1,a2⟩:=bZ.1 h2;obtain⟨c1,c2⟩:=bZ.1 j;grind[List.pairwise_iff_getElem]
 .grind
 grind
def yB:Tr->Nat->A
 |.nil,_=>.c .fx
 |.nd ..,n=>.ref n
def vr(E:aj):Tr->List aP
 |.nil=>[]
 |.nd l a b r=>[.cf (nc E (.nd l a b r))]
def IW(bs:List Nat):Tr->ah->(Nat->Option Obj)->List Loc
 |.nil,_,_=>[]
 |.nd ..,v,c=>[⟨v,bs.filter λy=>(c y).isSome⟩]
def Bc:Tr->Nat->List aP->List aP
 |.nil,_,σ=>σ
 |.nd ..,i,σ=>σ.set i .dead
def aE.Kn(hh:aE σ s){E:aj}{l:Nat}{lt rt:Tr}{a b:Int}(hB:σ[l]?=aa (.cf (nc E (.nd lt a b rt)))):
  ∃s',s'.w=s.w/\(∃x L,s.β[l]?=aa L/\L.v=.pointer (aa ⟨x,0,af⟩)/\s'.β[l]?=aa ⟨L.v,[x]⟩)/\aE (σ.set l (.cells E [.c (.int .i64 a),.c (.int .i64 b),yB lt σ.length,yB rt (σ.length+(vr E lt).length)])++(vr E lt++vr E rt)) s' /\
   Step σ s (σ.set l (.cells E [.c (.int .i64 a),.c (.int .i64 b),yB lt σ.length,yB rt (σ.length+(vr E lt).length)])++(vr E lt++vr E rt)) s':=by
 have u:l<σ.length:=(bZ.1 hB).1;have g:l<s.β.length:=by rw[hh.len];grind
 have q:=br g;generalize s.β[l]=L at q;obtain⟨ch,⟨x,j,n,cl,p,e1,⟨J,I⟩,h1,h2,S,h4,h5,O,T,h8⟩,D,e,Z⟩:=hh.box l _ L hB q;have z:=hh.len;have F:x∈L.bs:=(e x).2 (by grind);refine⟨{s with β:=s.β.set l ⟨.pointer (aa ⟨x,0,af⟩),[x]⟩++(IW L.bs lt j cl++IW L.bs rt n p)},rfl,⟨x,L,q,e1,?_⟩,hh.Km hB q (show _=_ from e1.symm) ?_ ?_ ?_ λs' W d f=>?_⟩
 .grind
 .cases lt<;>cases rt<;>rfl
 .intro M d y m;rcases eE.1 d with rfl|d
  .grind
  .rcases gb.1 d with d|d
   .cases lt with
    |nil=>cases d
    |nd=>rw[IW,ga]at d;grind
   .cases rt with
    |nil=>cases d
    |nd=>rw[IW,ga]at d;grind
 .refine ji.2 ⟨λM d y m A=>?_,?_⟩
  .rw[ga]at m;subst m;rcases gb.1 d with d|d
   .cases lt with
    |nil=>cases d
    |nd=>rw[IW,ga]at d;grind
   .cases rt with
    |nil=>cases d
    |nd=>rw[IW,ga]at d;grind
  .cases lt<;>cases rt<;>simp only[IW,ml,iQ,rL,ji,List.Pairwise.nil,ga,forall_eq,oa,false_implies,implies_true,aD]
   grind[Option.isSome_iff_exists]
 .have H:∀y o,cl y=aa o->ch y=aa o:=λy o h=>(O y o h).2;have V:et (σ.set l (.cells E [.c (.int .i64 a),.c (.int .i64 b),yB lt σ.length,yB rt (σ.length+(vr E lt).length)])++(vr E lt++vr E rt)) s' (.cf (nc E lt)) ⟨j,L.bs.filter λy=>(cl y).isSome⟩ :=
   ⟨cl,h1,λy o h=>by grind,λy=>⟨λh=>(lg.1 h).2,λh=>lg.2 ⟨(e y).2 (by grind[Option.isSome_iff_exists]),h⟩⟩,λy m o=>by rw[d];grind⟩
  have U:et (σ.set l (.cells E [.c (.int .i64 a),.c (.int .i64 b),yB lt σ.length,yB rt (σ.length+(vr E lt).length)])++(vr E lt++vr E rt)) s' (.cf (nc E rt)) ⟨n,L.bs.filter λy=>(p y).isSome⟩ :=
   ⟨p,h2,λy o h=>by grind,λy=>⟨λh=>(lg.1 h).2,λh=>lg.2 ⟨(e y).2 (by grind[Option.isSome_iff_exists]),h⟩⟩,λy m o=>by rw[d];grind⟩
  have c1:=h1.cell;have c2:=h2.cell;have R:s'.w.heap[x]?=aa (.cells (List.toArray [.int .i64 a,.int .i64 b,j,n]) E (0,0)):=by grind
  have Q:∀o,s'.M x o=af:=λo=>by rw[d];grind
  have r:∀k,(s.β.set l ⟨.pointer (aa ⟨x,0,af⟩),[x]⟩++(IW L.bs lt j cl++IW L.bs rt n p))[σ.length+k]?=(IW L.bs lt j cl++IW L.bs rt n p)[k]?:=λk=>by grind
  have e2:∀k,(σ.set l (.cells E [.c (.int .i64 a),.c (.int .i64 b),yB lt σ.length,yB rt (σ.length+(vr E lt).length)])++(vr E lt++vr E rt))[σ.length+k]?=(vr E lt++vr E rt)[k]?:=λk=>by grind
  refine⟨⟨x,_,rfl,R,⟨Rd.int J,Rd.int I,?_,?_,aw⟩,Q⟩,?_⟩
  .cases lt with
   |nil=>rw[h1.1];exact Rd.fx
   |nd=>exact⟨λB hB=>by have C:=(e2 0).symm.trans hB;cases C;rfl,_,by rw[f];exact r 0,rfl,c1⟩
  .cases rt with
   |nil=>rw[h2.1];exact Rd.fx
   |nd =>
    cases lt with
    |nil=>exact⟨λB hB=>by rw[e2]at hB;cases hB;rfl,_,by rw[f];exact r 0,rfl,c2⟩
    |nd=>exact⟨λB hB=>by rw[e2]at hB;cases hB;rfl,_,by rw[f];exact r 1,rfl,c2⟩
  .intro i X Y t G;cases lt<;>cases rt<;>simp only[vr,IW,ml,iQ,rL,List.getElem?_nil]at t G
   .cases t
   .grind
   .grind
   grind
def yC(f:aE σ s){E:aj}{t:Tr}{i:Nat}{v:ah}(r:gu σ s v (yB t i))(hi:t≠.nil->σ[i]?=aa (.cf (nc E t))):
  ∃c bs,nc E t v c/\(∀y o,c y=aa o->s.w.heap[y]?=aa o)/\(∀y,y∈bs↔(c y).isSome=ab)/\(∀y∈bs,∀o,s.M y o=af)/\(match t with|.nil=>bs=[]|.nd ..=>s.β[i]?=aa ⟨v,bs⟩):=by
 cases t with
 |nil =>
  have r:Rd s.M v .fx:=r;cases r;exact⟨λ_=>af,[],⟨rfl,λ_=>rfl⟩,by simp,by simp,by simp,rfl⟩
 |nd =>
  obtain⟨_,L,a,rfl,_⟩:=r;obtain⟨c,b,e,q2,d⟩:=f.box i _ L (hi nofun) a;exact⟨c,L.bs,b,e,q2,d,a⟩
def R2:Tr->Nat->ah->List Loc->List Loc
 |.nil,_,_,a=>a
 |.nd ..,i,v,a=>a.set i ⟨v,[]⟩
def aE.jo(hh:aE σ s){E:aj}{l i j:Nat}{lt rt:Tr}{a b:Int}(hB:σ[l]?=aa (.cells E [.c (.int .i64 a),.c (.int .i64 b),yB lt i,yB rt j]))(hi:lt≠.nil->σ[i]?=aa (.cf (nc E lt)))(hj:rt≠.nil->σ[j]?=aa (.cf (nc E rt)))(F:lt≠.nil->rt≠.nil->i≠j):
  ∃s',s'.w=s.w/\(∃L,s.β[l]?=aa L/\∃L',s'.β[l]?=aa L'/\L'.v=L.v)/\aE (Bc rt j (Bc lt i (σ.set l (.cf (nc E (.nd lt a b rt)))))) s'/\Step σ s (Bc rt j (Bc lt i (σ.set l (.cf (nc E (.nd lt a b rt)))))) s':=by
 have O:l<σ.length:=(bZ.1 hB).1;have Q:=hh.len;have u:l<s.β.length:=by omega
 have C:=br u;generalize s.β[l]=L at C;obtain⟨x,vs,rfl,h1,h2,h3⟩:=hh.box l _ L hB C
 match vs,h2 with
 |[W,Z,p,q],⟨I,H,R,S,_⟩ =>
 obtain⟨cl,m,a1,a2,a3,a4,a5⟩:=yC hh R hi;obtain⟨r,f,d1,d2,d3,d4,d5⟩:=yC hh S hj;have I:Rd s.M W (.int .i64 a):=I;have H:Rd s.M Z (.int .i64 b):=H;cases I with|int ra =>
 cases H with|int rb =>
 have xl:x∉m:=λh=>by
  cases lt with
  |nil=>grind
  |nd=>have:=hh.eB l i _ _ C a5 x (by simp) h;grind
 have xr:x∉f:=λh=>by
  cases rt with
  |nil=>grind
  |nd=>have:=hh.eB l j _ _ C d5 x (by simp) h;grind
 have lr:∀y∈m,y∉f:=λy h U=>by
  cases lt with
  |nil=>grind
  |nd =>
   cases rt with
   |nil=>grind
   |nd=>exact F nofun nofun (hh.eB i j _ _ a5 d5 y h U)
 have D:cl x=af:=by cases h:cl x with|none=>rfl|some o=>grind
 have A:r x=af:=by cases h:r x with|none=>rfl|some o=>grind
 have G:∀y o,cl y=aa o->r y=af:=λy o h=>by
  cases h2:r y with
  |none=>rfl
  |some o2=>grind
 have ok:∀(σ':List aP) (s':St),s'.w=s.w->s'.M=s.M->et σ' s' (.cf (nc E (.nd lt a b rt))) ⟨.pointer (aa ⟨x,0,af⟩),x::(m++f)⟩:=λσ' s' Y hM=>by
  refine⟨λy=>if y=x then aa (.cells #[.int .i64 a,.int .i64 b,p,q] E (0,0))else(cl y).or (r y),⟨x,p,q,cl,r,rfl,⟨ra,rb⟩,a1,d1,bl rfl,D,A,λy o h=>⟨G y o h,?_⟩,λy o h=>?_,λy o h=>?_⟩,λy o h=>?_,λy=>?_,λy g o=>?_⟩
  .grind
  .have:y≠x:=by grind
   dsimp only;rw[aY this,h];cases h2:cl y with
   |none=>rfl
   |some o2=>grind
  .by_cases e:y=x
   .grind
   .dsimp only at h;rw[aY e]at h;cases h2:cl y with
    |none=>grind
    |some o2=>grind
  .rw[Y];by_cases e:y=x
   .grind
   .dsimp only at h;rw[aY e]at h;cases h2:cl y with
    |none=>grind
    |some o2=>grind
  .grind
  .rw[hM];grind
 refine⟨{s with β:=R2 rt j q (R2 lt i p (s.β.set l ⟨.pointer (aa ⟨x,0,af⟩),x::(m++f)⟩))},rfl,?_⟩
 classical
 have il:lt≠.nil->i<σ.length/\i≠l:=λh=>⟨(bZ.1 (hi h)).1,λe=>by grind⟩
 have jl:rt≠.nil->j<σ.length/\j≠l:=λh=>⟨(bZ.1 (hj h)).1,λe=>by grind⟩
 have n:s.β[l]?=aa ⟨.pointer (aa ⟨x,0,af⟩),[x]⟩:=C;let T:Nat->Prop:=λk=>k=l∨(lt≠.nil/\k=i)∨(rt≠.nil/\k=j);have z:∀k,(Bc rt j (Bc lt i (σ.set l (.cf (nc E (.nd lt a b rt))))))[k]?=if k=l then aa (.cf (nc E (.nd lt a b rt)))else if(lt≠.nil/\k=i)∨(rt≠.nil/\k=j)then aa .dead else σ[k]?:=λk=>by cases lt<;>cases rt<;>simp only[Bc,List.getElem?_set,List.length_set]<;>grind
 have d:∀k,(R2 rt j q (R2 lt i p (s.β.set l ⟨.pointer (aa ⟨x,0,af⟩),x::(m++f)⟩)))[k]?=if k=l then aa ⟨.pointer (aa ⟨x,0,af⟩),x::(m++f)⟩else if rt≠.nil/\k=j then aa ⟨q,[]⟩else if lt≠.nil/\k=i then aa ⟨p,[]⟩else s.β[k]?:=λk=>by cases lt<;>cases rt<;>simp only[R2,List.getElem?_set,List.length_set]<;>grind
 have mY:∀(t:Tr) (i:Nat) (l:List aP),(Bc t i l).length=l.length:=λt i l=>by cases t<;>simp[Bc]
 have wX:∀(t:Tr) (i:Nat) (v:ah) (l:List Loc),(R2 t i v l).length=l.length:=λt i v l=>by cases t<;>simp[R2]
 have eL:∀y∈m,lt≠.nil/\s.β[i]?=aa ⟨p,m⟩:=λy g=>by grind
 have eR:∀y∈f,rt≠.nil/\s.β[j]?=aa ⟨q,f⟩:=λy g=>by grind
 refine⟨⟨_,n,_,(d l).trans (bl rfl),rfl⟩,aE.Gi (T:=T) hh rfl rfl rfl (by grind) (by grind) (λk hk hT=>?_) (λk K hk hK y g=>?_) (λk k' K K' hk Uq hK YF y g V=>?_) (λk B K hk jZ hK=>?_) (λ_ k B K hk jZ hK=>?_)⟩
 .grind
 .rw[d]at hK;split at hK
  .cases hK;rcases eE.1 g with rfl|g
   .grind
   .rcases gb.1 g with g|g
    .grind
    grind
  .have:k<s.β.length∨s.β.length<=k:=cG _ _;grind
 .rw[d]at hK YF;grind
 .rw[z,d];rcases hk with rfl|⟨h,rfl⟩|⟨h,rfl⟩
  .rw[n]at hK;cases hK;rw[hB]at jZ;cases jZ;exact⟨_,_,bl rfl,bl rfl,rfl⟩
  .have J:s.β[k]?=aa ⟨p,m⟩:=by grind
   rw[hi h]at jZ;rw[J]at hK;cases jZ;cases hK;grind[gA]
  .have J:s.β[k]?=aa ⟨q,f⟩:=by grind
   rw[hj h]at jZ;rw[J]at hK;cases jZ;cases hK;grind[gA]
 .rw[z]at jZ;rw[d]at hK;split at jZ
  .grind
  .split at jZ
   .cases jZ;trivial
   grind
def tC:Tr->C
 |.nil=>.fx
 |.nd l a b r=>.rp [.int .i64 a,.int .i64 b,tC l,tC r]
def nc.rd{E:aj}{M:Mem}:∀{t:Tr}{v:ah}{ch:Nat->Option Obj},nc E t v ch->(∀y vs E' z,ch y=aa (.cells vs E' z)->∀o u,vs[o]?=aa u->M y o=aa u)->Rd M v (tC t)
 |.nil,_,_,h,_=>by rw[h.1];exact .fx
 |.nd l a b r,_,ch,⟨x,k,m,cl,A,e,⟨p,n⟩,h1,h2,f,_,_,g,i,_⟩,d=>by
  subst e;have w:=h1.rd (M:=M) λy vs E' z h=>d y vs E' z (g y _ h).2;have q:=h2.rd (M:=M) λy vs E' z h=>d y vs E' z (i y _ h);have B:=d x _ _ _ f;refine Rd.rp x 0 (λj=>[Value.int .i64 a,.int .i64 b,k,m].getD j ai) (λj c hj=>?_) (λj c hj=>?_)
  .match j,hj with
   |0,_|1,_|2,_|3,_=>grind
  .match j,hj with
   |0,hj=>cases hj;exact Rd.int p
   |1,hj=>cases hj;exact Rd.int n
   |2,hj=>grind
   |3,hj=>grind
def aE.Af(hh:aE σ s){E:aj}{l:Nat}{t:Tr}(hB:σ[l]?=aa (.cf (nc E t))):
  ∃s',s'.w=s.w/\s'.β=s.β/\(∀L,s.β[l]?=aa L->Rd s'.M L.v (tC t))/\aE (σ.set l .dead) s'/\Step σ s (σ.set l .dead) s':=by
 have i:l<σ.length:=(bZ.1 hB).1;have m:=hh.len;have j:=br (show l<s.β.length by omega);generalize s.β[l]=L at j;obtain⟨ch,A,h1,h2,C⟩:=hh.box l _ L hB j;let M':Mem:=λy o=>match ch y with|some (.cells vs _ _)=>vs[o]?|_=>s.M y o
 have d:∀y,y∉L.bs->∀o,M' y o=s.M y o:=λy g o=>by grind
 have n:∀y o v,s.M y o=aa v->M' y o=aa v:=λy o v f=>by grind
 have st:Step σ s (σ.set l .dead) {s with M:=M'}:=by
  refine⟨bg _,λ_ _ _=>rfl,n,λy _ x o=>d y (x L (bJ j)) o,λK b y g=>.inr ⟨K,b,g⟩,λk B K a b=>?_,rfl,rfl,rfl,rfl⟩;by_cases e:l=k
  .subst e;rw[hB]at a;cases a;exact⟨.dead,K,by grind,b,rfl⟩
  .exact⟨B,K,by grind,b,.refl _ _⟩
 refine⟨{s with M:=M'},rfl,rfl,λK b=>?_,⟨λy o v f=>?_,by grind,λk B K a b=>?_,hh.eB,hh.lt,hh.own⟩,st⟩
 .rw[j]at b;cases b;exact A.rd λy vs E' z g o u D=>by grind
 .by_cases g:y∈L.bs
  .have f:M' y o=aa v:=f;cases p:ch y with
   |none=>grind
   |some q =>
    have r:=h1 y q p;simp only[M',p]at f;split at f
    .rename_i vs E' z e;cases e;show s.w.cell? _=_;simp[aU,r,f]
    grind
  .exact hh.mem y o v ((d y g o).symm.trans f)
 .by_cases e:l=k
  .subst e;rw[fZ i]at a;cases a;trivial
  .rw[j6 e]at a;exact(hh.box k B K a b).carry st.ext m λy g=>⟨rfl,λo=>d y (λh=>e (hh.eB l k L K j b y h g)) o⟩
end
section
variable {P:aq}{X:Cx P}{N:Nat}{φ:Fr}{σ:List aP}{Qf:Post}{K:List It}{c:Code}
def cq.R3{σ':List aP}{s s':St}{a:Act}{t:Nat}{d:D}(f:cq N σ s φ a)(hl:s.β.length=σ.length)(st:Step σ s σ' s')(h:dn σ' s' (a.tmps.getD t ai) d):cq N σ' s' ((t,d)::φ) a :=
 ⟨f.size,f.defers.imp λ_ h1=>h1.mono st.ext,λu=>by
  simp only[look];cases b:aA t u with
  |false=>exact(f.slot u).mono st.ext hl
  |true=>grind[Nat.eq_of_beq_eq_true]⟩
def AK.Kn(t l:Nat){E:aj}{lt rt:Tr}{a b:Int}(j:look φ t=.e (.one (.ref l)))(hl:dw l σ=aa (.cf (nc E (.nd lt a b rt))))(kk:AK X N Qf (.code c::K) .normal ((t,.e (.one (.ptr l 0)))::φ) (σ.set l (.cells E [.c (.int .i64 a),.c (.int .i64 b),yB lt σ.length,yB rt (σ.length+(vr E lt).length)])++(vr E lt++vr E rt))):AK X N Qf (.code c::K) .normal φ σ:=by refine AK.ghost (λs q i hh=>?_) kk;have g:=i.slot t;rw[j]at g;obtain⟨_,L,m,k,_⟩:=g;obtain⟨s',h1,⟨x,p,h2,f,n⟩,o,h⟩:=hh.Kn (b5 hl);rw[m]at h2;cases h2;have d:l<σ.length:=(bZ.1 (b5 hl)).1;refine⟨s',h1,i.R3 hh.len h ⟨λB hB=>?_,_,x,n,f,k.trans f⟩,o,h⟩;rw[jw (by grind),fZ d]at hB;cases hB;rfl
def AK.jo(t l i j:Nat){E:aj}{lt rt:Tr}{a b:Int}(r:look φ t=.e (.one (.ptr l 0)))(hl:dw l σ=aa (.cells E [.c (.int .i64 a),.c (.int .i64 b),yB lt i,yB rt j]))(hi:lt≠.nil->dw i σ=aa (.cf (nc E lt)))(hj:rt≠.nil->dw j σ=aa (.cf (nc E rt)))(g:lt≠.nil->rt≠.nil->i≠j)(kk:AK X N Qf (.code c::K) .normal ((t,.e (.one (.ref l)))::φ) (Bc rt j (Bc lt i (σ.set l (.cf (nc E (.nd lt a b rt))))))):AK X N Qf (.code c::K) .normal φ σ:=by
 refine AK.ghost (λs q o hh=>?_) kk;have m:=o.slot t;rw[r]at m;obtain⟨_,L,x,y,C,v⟩:=m;obtain⟨s',h1,⟨A,h2,L',p,F⟩,z,n⟩:=hh.jo (b5 hl) (λh=>b5 (hi h)) (λh=>b5 (hj h)) g;rw[y]at h2;cases h2;have d:l<σ.length:=(bZ.1 (b5 hl)).1;have e:(Bc rt j (Bc lt i (σ.set l (.cf (nc E (.nd lt a b rt))))))[l]?=aa (.cf (nc E (.nd lt a b rt)))∨(Bc rt j (Bc lt i (σ.set l (.cf (nc E (.nd lt a b rt))))))[l]?=aa .dead:=by
  have w:(σ.set l (.cf (nc E (.nd lt a b rt))))[l]?=aa (.cf (nc E (.nd lt a b rt))):=fZ d;have D:∀(u:Tr) (k:Nat) (f:List aP),f[l]?=aa (.cf (nc E (.nd lt a b rt)))∨f[l]?=aa .dead->(Bc u k f)[l]?=aa (.cf (nc E (.nd lt a b rt)))∨(Bc u k f)[l]?=aa .dead:=λu k f h=>by
   cases u with
   |nil=>exact h
   |nd=>simp only[Bc,List.getElem?_set];grind
  grind
 refine⟨s',h1,o.R3 hh.len n ⟨λB hB=>?_,L',p,?_,?_⟩,z,n⟩
 .rcases e with e|e<;>(rw[e]at hB;cases hB;rfl)
 .grind
 .rw[v];rfl
def AK.Af(t l:Nat){E:aj}{u:Tr}(g:look φ t=.e (.one (.ref l)))(hl:dw l σ=aa (.cf (nc E u)))(kk:AK X N Qf (.code c::K) .normal ((t,.e (.one (.c (tC u))))::φ) (dH.qD l .dead σ)):AK X N Qf (.code c::K) .normal φ σ:=by rw[jc]at kk;refine AK.ghost (λs q b hh=>?_) kk;have a:=b.slot t;rw[g]at a;obtain⟨_,L,i,h,_⟩:=a;obtain⟨s',h1,_,f,j,d⟩:=hh.Af (b5 hl);exact⟨s',h1,b.R3 hh.len d (show Rd _ _ _ from h▸f L i),j,d⟩
end
def Tr.put(a b:Int):Tr->Tr
 |.nil=>.nd .nil a b .nil
 |.nd l x y r=>if a<x then .nd (l.put a b) x y r else if x<a then .nd l x y (r.put a b)else .nd l a b r
def Tr.list:Tr->List (Int×Int)
 |.nil=>[]
 |.nd l x y r=>l.list++(x,y)::r.list
def Tr.find(n:Int):Tr->Int
 |.nil=>0
 |.nd l x y r=>if n=x then y else if n<x then l.find n else r.find n
namespace R1
theorem LI{l:List cu}{s:cu}(h:∀x∈l,x.1<s.1):gv l s=l++[s]:=by
 induction l with
 |nil=>rfl
 |cons y r a =>
  simp only[gv];grind
def CQ{l r:List cu}{s:cu}(h:∀x∈l,x.1<s.1):gv (l++r) s=l++gv r s:=by
 induction l with
 |nil=>rfl
 |cons y l a =>
  simp only[rL,gv];grind
def Iq{l r:List cu}{s:cu}(h:∀x∈r,s.1<x.1):gv (l++r) s=gv l s++r:=by
 have e:r.filter (λz=>!(z.1==s.1))=r:=zp.2 λx b=>by grind
 induction l with
 |nil =>
  cases r with
  |nil=>rfl
  |cons y r =>
   have:=h y mU;simp only[ml,gv];grind
 |cons y l a =>
  simp only[rL,gv];grind
abbrev Tr.Ok(t:Tr):Prop:=t.list.Pairwise λx y=>x.1<y.1
theorem xA{a b:Int}:∀{t:Tr},Tr.Ok t->(t.put a b).list=gv t.list (a,b)
 |.nil,_=>rfl
 |.nd l x y r,h=>by
  obtain⟨j,f,g⟩:=u4.1 h;have k:=ji.1 f;have i:∀z∈l.list,z.1<x:=λz c=>g z c (x,y) mU;simp only[Tr.put,Tr.list];split
  .rename_i d;simp only[Tr.list];rw[xA (t:=l) j,Iq (r:=(x,y)::r.list)];grind
  split
  .rename_i _ d;simp only[Tr.list];rw[xA (t:=r) k.2,CQ (l:=l.list) λz c=>by grind];simp only[gv];grind
  .have e:a=x:=by omega
   subst e;simp only[Tr.list];rw[CQ (l:=l.list) λz c=>i z c];simp only[gv];rw[aY (by simp),List.filter_cons,aY (by simp),zp.2 λz c=>by grind]
theorem O1{l:List cu}{s:cu}(h:l.Pairwise λx y=>x.1<y.1):(gv l s).Pairwise (λx y=>x.1<y.1)/\∀z∈gv l s,z=s∨z∈l:=by
 induction l with
 |nil=>simp[gv]
 |cons y r b =>
  obtain⟨d,a⟩:=ji.1 h;obtain⟨c,i2⟩:=b a;simp only[gv];grind[List.pairwise_cons]
def tU{n:Int}:∀{t:Tr},Tr.Ok t->t.find n=mH t.list n
 |.nil,_=>rfl
 |.nd l x y r,h=>by obtain⟨d,a,b⟩:=u4.1 h;have e:=ji.1 a;have f:∀z∈l.list,z.1<x:=λz c=>b z c (x,y) mU;simp only[Tr.find,Tr.list];have g:=tU (n:=n) (t:=l) d;have i2:=tU (n:=n) (t:=r) e.2;unfold mH at *;grind
end R1
end Go.AM
namespace Go.AM.R1
section
open Go.Proofs
variable {X:Cx ag}
def Tm{P:aq}{o:ar}{g:ak->D}{σ:List aP}{op:BinOp}{t ty:aj}{x:ak}(h:o.op=.binOp op t x (.const (.pointer af)) ty){e:aj}(i:P.underlying t=aa (.pointer e)){c:Bool}{l:Nat}{E:aj}{lt rt:Tr}{a b:Int}(z:g x=.e (.one (.ref l)))(p:dw l σ=aa (.cf (nc E (.nd lt a b rt))))(n:g (.const (.pointer af))=.e (.one (.c .fx)))(q:ja op ae=aa c):bG P o g σ (.e (.one (.c (.bool c)))) σ:=by
 refine xa h i (b:=ae) ?_ q;intro s u v m j d;rw[z]at j;rw[n]at d;replace d:=eY d;cases d;obtain⟨_,L,r,rfl,_⟩:=(j:gu σ s u (.ref l));obtain⟨_,⟨b,_,_,_,_,y,_⟩,_⟩:=m.box l _ L (b5 p) r;rw[y];have k:(Op.equal t (.pointer (aa ⟨b,0,af⟩)) (.pointer af)).run P s.w=.ok ae s.w:=by show(aX (9999+1) t _ _).run P s.w=_;unfold aX;simp[underlying,i]
 have f:∀es,(Op.equal t (.pointer (aa ⟨b,0,af⟩)) (.pointer af)).events P s.w es=es:=λes=>by show(aX (9999+1) t _ _).events P s.w es=es;unfold aX;simp[underlying,i]
 exact⟨_,af,rfl,rfl,rfl,by cases op<;>simp[eqGuard],λes=>by cases op<;>simp[eqGuard],k,f⟩
abbrev Pn(a b:Int):D:=.e (.agg [.c (.int .i64 a),.c (.int .i64 b)])
abbrev IY:aj:=151
def A0(a b:Int)(t:Tr):∃l x y r,t.put a b=.nd l x y r:=by
 cases t with
 |nil=>exact⟨_,_,_,_,rfl⟩
 |nd l x y r =>
  simp only[Tr.put];split
  .grind
  split<;>exact⟨_,_,_,_,rfl⟩
def Ml:∀(ks:List Nat)(j:Nat),j<0->ks[j]?=aa j:=λ_ j a=>absurd a (by omega)
def jW:∀j,j<1->([0]:List Nat)[j]?=aa j:=λj a=>by grind
def A1(a b:Int)(p:bA .i64 a)(r:bA .i64 b):∀t:Tr,Ev X 90 [.e (.one (yB t 0)),Pn a b] (vr IY t) (.e (.one (.ref 0))) [.cf (nc IY (t.put a b))]
 |.nil=>by refine Ev.bQ Tryz.func90 rfl λv=>?_;refine bu rfl aw ?_;refine AK.law (tE rfl Tryz.underlying85 rfl rfl rfl) rfl rfl ?_;refine bu rfl aw ?_;refine AK.jo 4 1 0 0 (lt:=.nil) (rt:=.nil) rfl rfl (λh=>absurd rfl h) (λh=>absurd rfl h) (λh=>absurd rfl h) ?_;exact AK.cY [1] rfl (by simp) rfl rfl rfl (Ml _)
 |.nd lt x y rt=>by
  have o:=A1 a b p r lt;have i2:=A1 a b p r rt;obtain⟨j,f,i,d,u⟩:=A0 a b lt;obtain⟨c,k,g,m,q⟩:=A0 a b rt;have s:(Tr.nd lt x y rt).put a b=if a<x then .nd (lt.put a b) x y rt else if x<a then .nd lt x y (rt.put a b)else .nd lt a b rt:=rfl;rw[s];rw[u]at o⊢;rw[q]at i2⊢;have c1:bF X [(90,yE [.e (.one (yB lt 0)),Pn a b] (vr IY lt) (.e (.one (.ref 0))) [.cf (nc IY (.nd j f i d))])]:=.cons (Cg o) .nil;have c2:bF X [(90,yE [.e (.one (yB rt 0)),Pn a b] (vr IY rt) (.e (.one (.ref 0))) [.cf (nc IY (.nd c k g m))])]:=.cons (Cg i2) .nil;clear o i2 s u q;refine Ev.bQ Tryz.func90 rfl λv=>?_;refine bu rfl aw ?_;refine AK.law (Tm rfl Tryz.underlying85 rfl rfl rfl rfl) rfl rfl ?_;refine bu rfl aw ?_;refine AK.Kn 0 0 rfl rfl ?_;by_cases l:a<x
  .rw[bl l];cases lt<;>cases rt<;>refine bh c1 [(15,ab)] rfl (by simp only[ay,aZ,aF,aD];and_intros<;>first|rfl|exact l) ?_
   .refine AK.jo 4 0 2 9 (lt:=.nd j f i d) (rt:=.nil) rfl rfl (λ_=>rfl) (λh=>absurd rfl h) (λ_ h=>absurd rfl h) ?_;exact AK.cY [0] rfl (by simp) rfl rfl rfl jW
   .refine AK.jo 4 0 3 2 (lt:=.nd j f i d) (rt:=_) rfl rfl (λ_=>rfl) (λ_=>rfl) (λ_ _=>by decide) ?_;exact AK.cY [0] rfl (by simp) rfl rfl rfl jW
   .refine AK.jo 4 0 2 9 (lt:=.nd j f i d) (rt:=.nil) rfl rfl (λ_=>rfl) (λh=>absurd rfl h) (λ_ h=>absurd rfl h) ?_;exact AK.cY [0] rfl (by simp) rfl rfl rfl jW
   .refine AK.jo 4 0 2 3 (lt:=.nd j f i d) (rt:=_) rfl rfl (λ_=>rfl) (λ_=>rfl) (λ_ _=>by decide) ?_;exact AK.cY [0] rfl (by simp) rfl rfl rfl jW
  rw[aY l];by_cases n:x<a
  .rw[bl n];cases lt<;>cases rt<;>refine bh c2 [(15,ae),(33,ab)] rfl (by simp only[ay,aZ,bM,aF,aD];and_intros<;>first|rfl|exact l|exact n) ?_
   .refine AK.jo 4 0 9 2 (lt:=.nil) (rt:=.nd c k g m) rfl rfl (λh=>absurd rfl h) (λ_=>rfl) (λh=>absurd rfl h) ?_;exact AK.cY [0] rfl (by simp) rfl rfl rfl jW
   .refine AK.jo 4 0 9 2 (lt:=.nil) (rt:=.nd c k g m) rfl rfl (λh=>absurd rfl h) (λ_=>rfl) (λh=>absurd rfl h) ?_;exact AK.cY [0] rfl (by simp) rfl rfl rfl jW
   .refine AK.jo 4 0 2 3 (lt:=_) (rt:=.nd c k g m) rfl rfl (λ_=>rfl) (λ_=>rfl) (λ_ _=>by decide) ?_;exact AK.cY [0] rfl (by simp) rfl rfl rfl jW
   .refine AK.jo 4 0 2 3 (lt:=_) (rt:=.nd c k g m) rfl rfl (λ_=>rfl) (λ_=>rfl) (λ_ _=>by decide) ?_;exact AK.cY [0] rfl (by simp) rfl rfl rfl jW
  .rw[aY n];cases lt<;>cases rt<;>refine bL [(15,ae),(33,ae)] rfl (by simp only[ay,bM,aF,aD];and_intros<;>first|rfl|exact l|exact n) ?_
   .refine AK.jo 4 0 9 9 (lt:=.nil) (rt:=.nil) rfl rfl (λh=>absurd rfl h) (λh=>absurd rfl h) (λh=>absurd rfl h) ?_;exact AK.cY [0] rfl (by simp) rfl rfl rfl jW
   .refine AK.jo 4 0 9 2 (lt:=.nil) (rt:=_) rfl rfl (λh=>absurd rfl h) (λ_=>rfl) (λh=>absurd rfl h) ?_;exact AK.cY [0] rfl (by simp) rfl rfl rfl jW
   .refine AK.jo 4 0 2 9 (lt:=_) (rt:=.nil) rfl rfl (λ_=>rfl) (λh=>absurd rfl h) (λ_ h=>absurd rfl h) ?_;exact AK.cY [0] rfl (by simp) rfl rfl rfl jW
   .refine AK.jo 4 0 2 3 (lt:=_) (rt:=_) rfl rfl (λ_=>rfl) (λ_=>rfl) (λ_ _=>by decide) ?_;exact AK.cY [0] rfl (by simp) rfl rfl rfl jW
end
end Go.AM.R1
namespace Go.AM
def ck.bs{σ σ':List aP}{s:St}(h:∀(v:ah)(d:D),dn σ s v d->dn σ' s v d):∀{vs:List ah}{ds:List D},ck σ s vs ds->ck σ' s vs ds
 |[],[],_=>trivial
 |[],_::_,r=>r.elim
 |_::_,[],r=>r.elim
 |_::_,_::_,r=>⟨h _ _ r.1,ck.bs h r.2⟩
def Ev.more{P:aq}{X:Cx P}{f:aH}{args CR:List D}{σ σ0 σ':List aP}{res:D}(h:Ev X f args σ res σ')(j:∀s vs,ck σ s vs CR->ck σ s vs args){ps:List Prop}(e:oV σ0 σ=aa ps)(i:ay ps):Ev X f CR σ0 res σ' :=
 ⟨h.1,λs vs hr hh S cs hS=>by obtain⟨h1,h2,g⟩:=gU e i s hh;exact h.2 s vs (j s vs (hr.bs g)) h1 S cs λfr v s' a b c d=>hS fr v s' a b c ((h2.na hh).trans d)⟩
def OA.T4{P:aq}{X:Cx P}{N:Nat}{all:List ar}{o:ar}{φ:Fr}{σ σ':List aP}{x:D}(h:mz (ι:=Unit) X N all o φ σ (λ_=>x) (λ_=>σ')):OA X N all o φ σ x σ' :=
 λs a f hh b k cs S i rest hb hi hK=>h s a f hh b k cs S i rest hb hi λ_=>hK
namespace R1
open Go.Proofs
variable {X:Cx ag}
abbrev Be(l:List (Int×Int)):aP:=.vec 91 2 l.length (cH.fn l)
abbrev IZ(l:List (Int×Int)):D:=.e (.one (.vec 0 2 l.length (cH.fn l)))
def lsS(L:List (Int×Int))(B M R:aP)(a b c _:Bool):List aP:=match c with
 |true=>[R]
 |false=>match b with
  |true=>[M]
  |false=>match a with
   |true=>[B]
   |false=>[Be L]
def A9:∀(t:Tr)(l:List (Int×Int)),l.length+t.list.length<=4000000->Ev X 48 [.e (.one (.c (tC t))),IZ l] [Be l] (IZ (l++t.list)) [Be (l++t.list)]
 |.nil,l,_=>by refine Ev.bQ Tryz.func48 rfl λn=>?_;refine bu rfl aw ?_;refine AK.law (tE rfl Tryz.underlying85 rfl rfl rfl) rfl rfl ?_;refine bu rfl aw ?_;rw[show l++Tr.nil.list=l from iQ l];exact AK.cY [0] rfl ⟨rfl,cy.same⟩ rfl rfl rfl jW
 |.nd lt x y rt,l,h=>by
  have j:(Tr.nd lt x y rt).list=lt.list++(x,y)::rt.list:=rfl;have g:l.length+lt.list.length+(rt.list.length+1)<=4000000:=by grind
  have m:=A9 lt l (by omega);have i2:=A9 rt (l++lt.list++[(x,y)]) (by grind);have d:=cH.cj (l++lt.list) (x,y);have i3:Ev X 48 [.e (.one (.c (tC rt))),.e (.one (.vec 0 2 ((l++lt.list).length+1) (cE (l++lt.list).length (cH.fn (l++lt.list)) λi=>([[.int .i64 x,.int .i64 y]]:List (List C)).getD i [])))] [.vec 91 2 ((l++lt.list).length+1) (cE (l++lt.list).length (cH.fn (l++lt.list)) λi=>([[.int .i64 x,.int .i64 y]]:List (List C)).getD i [])] (IZ (l++(Tr.nd lt x y rt).list)) [Be (l++(Tr.nd lt x y rt).list)]:=by
   rw[j,show l++(lt.list++(x,y)::rt.list)=l++lt.list++[(x,y)]++rt.list by simp];refine i2.more (λs vs r=>?_) rfl (ay.cat.2 ⟨⟨by grind,d⟩,aw⟩)
   match vs,r with
   |[_,_],⟨f,o,k⟩=>exact⟨f,ou rfl (show ay [_,_]from⟨by grind,d⟩) o,k⟩
  have MZ:((l++lt.list).length+1)*i91.bytes<=140737488355328:=by rw[show i91.bytes=16 from rfl,cA];omega
  clear i2 d g h;generalize l++(Tr.nd lt x y rt).list=R at *;generalize l++lt.list=B at *;have a:bF X []:=bF.nil;refine Ev.bQ Tryz.func48 rfl λn=>?_;refine bu rfl aw ?_;refine AK.law (Gp rfl Tryz.underlying85 rfl rfl rfl) rfl rfl ?_;refine aW [(1000003,ab)] rfl aw ?_;let xs:Nat->D:=λi=>([.e (.one (.c (tC (.nd lt x y rt)))),.e (.one (.c (tC (.nd lt x y rt)))),.e (.one (.c (.rp [tC rt]))),.e (.one (.c (tC rt))),.e (.one (.c (tC (.nd lt x y rt)))),.e (.one (.c (tC (.nd lt x y rt)))),.e (.one (.c (.rp [tC lt,tC rt]))),.e (.one (.c (tC lt))),IZ l,IZ B,.e (.one (.c (tC (.nd lt x y rt)))),.e (.one (.c (tC (.nd lt x y rt)))),.e (.one (.c (tC (.nd lt x y rt)))),Pn x y,.e (.one (.c (.sl ab 2 1 λi=>([[.int .i64 x,.int .i64 y]]:List (List C)).getD i []))),.e (.one (.vec 0 2 (B.length+1) (cE B.length (cH.fn B) λi=>([[.int .i64 x,.int .i64 y]]:List (List C)).getD i []))),IZ R,IZ R]:List D).getD i .any
  cases lt<;>cases rt<;>(
   refine AK.flags iZ xs (pr (lsS l (Be B) (.vec 91 2 (B.length+1) (cE B.length (cH.fn B) λi=>([[.int .i64 x,.int .i64 y]]:List (List C)).getD i [])) (Be R)) 9 15 16 17) rfl rfl rfl rfl ⟨
   .qF tok a,
   .qF tok a,
   .qF tok a,
   .qF tok a,
   .qF tok a,
   .qF tok a,
   .qF tok a,
   .qF tok a,
   .qF tok a,
   dT.c1 rfl rfl rfl rfl rfl rfl (OA.T4 (mz.jI m.sW [0] rfl rfl rfl rfl (by simp) rfl rfl rfl (λ_=>rfl) rfl (λ_=>rfl))),
   .qF tok a,
   .qF tok a,
   .qF tok a,
   .qF tok a,
   .qF tok a,
   dT.c2 rfl rfl rfl rfl rfl rfl (gD (ds:=[]) tok a (σ':=aa _) rfl ⟨rfl,rfl,MZ⟩),
   dT.c3 rfl rfl rfl rfl rfl rfl (OA.T4 (mz.jI i3.sW [0] rfl rfl rfl rfl (by simp) rfl rfl rfl (λ_=>rfl) rfl (λ_=>rfl))),
   dT.c4 rfl rfl rfl rfl rfl rfl (OA.cV tok a rfl),aw⟩ ?_
   intro D b;show AK X _ _ _ _ _ (lsS l (Be B) _ (Be R) (D 9) (D 15) (D 16) (D 17));rw[b 9 (by decide),b 15 (by decide),b 16 (by decide),b 17 (by decide)]
   exact AK.cY [0] rfl ⟨rfl,cy.same⟩ rfl rfl rfl jW)
abbrev WH:D:=.e (.one (.c (.sl ab 2 0 λ_=>[])))
def lsN(B M R:aP)(a b c _:Bool):List aP:=match c with
 |true=>[R]
 |false=>match b with
  |true=>[M]
  |false=>match a with
   |true=>[B]
   |false=>[]
def Dc:∀(t:Tr),t.list.length<=4000000->Ev X 48 [.e (.one (.c (tC t))),WH] [] (IZ t.list) [Be t.list]
 |.nil,_=>by refine Ev.bQ Tryz.func48 rfl λm=>?_;refine bu rfl aw ?_;refine AK.law (tE rfl Tryz.underlying85 rfl rfl rfl) rfl rfl ?_;refine bu rfl aw ?_;refine AK.iB 4 91 2 rfl rfl ?_;refine AK.norm [Be []] rfl (by simp) ?_;exact AK.cY [0] rfl (by simp;rfl) rfl rfl rfl (Ml _)
 |.nd lt x y rt,h=>by
  have f:(Tr.nd lt x y rt).list=lt.list++(x,y)::rt.list:=rfl;have j:lt.list.length+(rt.list.length+1)<=4000000:=by grind
  have l:=Dc lt (by omega);have i2:=A9 (X:=X) rt (lt.list++[(x,y)]) (by grind);have d:=cH.cj lt.list (x,y);have i3:Ev X 48 [.e (.one (.c (tC rt))),.e (.one (.vec 0 2 (lt.list.length+1) (cE lt.list.length (cH.fn lt.list) λi=>([[.int .i64 x,.int .i64 y]]:List (List C)).getD i [])))] [.vec 91 2 (lt.list.length+1) (cE lt.list.length (cH.fn lt.list) λi=>([[.int .i64 x,.int .i64 y]]:List (List C)).getD i [])] (IZ (Tr.nd lt x y rt).list) [Be (Tr.nd lt x y rt).list]:=by
   rw[f,show lt.list++(x,y)::rt.list=lt.list++[(x,y)]++rt.list by simp];refine i2.more (λs vs r=>?_) rfl (ay.cat.2 ⟨⟨by simp,d⟩,aw⟩)
   match vs,r with
   |[_,_],⟨g,n,k⟩=>exact⟨g,ou rfl (show ay [_,_]from⟨by simp,d⟩) n,k⟩
  have MZ:(lt.list.length+1)*i91.bytes<=140737488355328:=by rw[show i91.bytes=16 from rfl];omega
  clear i2 d j h;clear f;generalize(Tr.nd lt x y rt).list=R at *;generalize lt.list=B at *;have a:bF X []:=bF.nil;refine Ev.bQ Tryz.func48 rfl λm=>?_;refine bu rfl aw ?_;refine AK.law (Gp rfl Tryz.underlying85 rfl rfl rfl) rfl rfl ?_;refine aW [(1000003,ab)] rfl aw ?_;let xs:Nat->D:=λi=>([.e (.one (.c (tC (.nd lt x y rt)))),.e (.one (.c (tC (.nd lt x y rt)))),.e (.one (.c (.rp [tC rt]))),.e (.one (.c (tC rt))),.e (.one (.c (tC (.nd lt x y rt)))),.e (.one (.c (tC (.nd lt x y rt)))),.e (.one (.c (.rp [tC lt,tC rt]))),.e (.one (.c (tC lt))),WH,IZ B,.e (.one (.c (tC (.nd lt x y rt)))),.e (.one (.c (tC (.nd lt x y rt)))),.e (.one (.c (tC (.nd lt x y rt)))),Pn x y,.e (.one (.c (.sl ab 2 1 λi=>([[.int .i64 x,.int .i64 y]]:List (List C)).getD i []))),.e (.one (.vec 0 2 (B.length+1) (cE B.length (cH.fn B) λi=>([[.int .i64 x,.int .i64 y]]:List (List C)).getD i []))),IZ R,IZ R]:List D).getD i .any
  cases lt<;>cases rt<;>(
   refine AK.flags iZ xs (pr (lsN (Be B) (.vec 91 2 (B.length+1) (cE B.length (cH.fn B) λi=>([[.int .i64 x,.int .i64 y]]:List (List C)).getD i [])) (Be R)) 9 15 16 17) rfl rfl rfl rfl ⟨
   .qF tok a,
   .qF tok a,
   .qF tok a,
   .qF tok a,
   .qF tok a,
   .qF tok a,
   .qF tok a,
   .qF tok a,
   .qF tok a,
   dT.c1 rfl rfl rfl rfl rfl rfl (OA.T4 (mz.jI l.sW [] rfl rfl rfl rfl (by simp) rfl rfl rfl (λ_=>rfl) rfl (λ_=>rfl))),
   .qF tok a,
   .qF tok a,
   .qF tok a,
   .qF tok a,
   .qF tok a,
   dT.c2 rfl rfl rfl rfl rfl rfl (gD (ds:=[]) tok a (σ':=aa _) rfl ⟨rfl,rfl,MZ⟩),
   dT.c3 rfl rfl rfl rfl rfl rfl (OA.T4 (mz.jI i3.sW [0] rfl rfl rfl rfl (by simp) rfl rfl rfl (λ_=>rfl) rfl (λ_=>rfl))),
   dT.c4 rfl rfl rfl rfl rfl rfl (OA.cV tok a rfl),aw⟩ ?_
   intro D b;show AK X _ _ _ _ _ (lsN (Be B) _ (Be R) (D 9) (D 15) (D 16) (D 17));rw[b 9 (by decide),b 15 (by decide),b 16 (by decide),b 17 (by decide)]
   exact AK.cY [0] rfl ⟨rfl,cy.same⟩ rfl rfl rfl (Ml _))
end R1
end Go.AM
