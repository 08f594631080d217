/- Part 5. No condition. -/
import Derived.Test.YtpddeenenibhjaaGreatDoorA4
set_option linter.all false
set_option maxHeartbeats 8000000
open Go.Proofs
open Go renaming Value → aj, TypeId → ay, undef → ah, Operand → aC, execOp → aq, World → aA, Program → aK, Oper → aB, Goroutine → ak, FuncId → aP
open Option renaming some → aa, none → af
open Bool renaming true → ab, false → ae
open List renaming getD_eq_getElem?_getD → ai, range → a9
open Nat renaming beq → av, ble → bn
open Go.Op renaming bytesLess → aY
open Go.Proofs.Tryz renaming prog → ag
namespace Go.AM
variable {n k l b i j:Nat}{E:ay}{H:aj->(Nat->Option Obj)->Prop}{L:Array Bool}{M:Mem}{N:Nat}{P:aK}{S:ak->St->Prop}{c:Code}{g:ak}{o:aB}{s:St}{t:ay}{v:aj}{w:aA}{x y:aC}{α:Type}{η:aC->D}{ι:Type}{σ:List ba}{φ:Fr}{all:List aB}{jK:Array ay}{cap:List C}{cu:List D}{cs:List Frame}{ds:List (Nat×Bool)}{es:Nat->List C}{fo:aC}{obs:List Prop}{off:Nat}{op:BinOp}{ops:Array aB}{ps:List Prop}{rest:List aB}{s':St}{ty:ay}{val:Nat->Nat->aj}{vs:List aj}{w':aA}{xs:Array aC}{σ' σs:List ba}{res:ι->D}{σ1:ι->List ba}
variable {CT:List (Nat×di)}{K:List It}{Qf:Post}{T:List (Nat×TI)}{ie:TI}
namespace R1
section
variable {X:Cx ag}
def ID(p:Bs)(b:bC p=ab):Ev X 157 [dS p] [] (dI (codeOf p)) []:=by
 refine Ev.bQ Tryz.func157 rfl λg=>?_;have a:=b;simp only[bC,bP,bc]at a;refine br rfl ar ?_;refine AK.bS 0 (λi=>i<=p.length) (λi:Nat=>[(0,dS p),(3,dI (codeOf (p.take i))),(4,dI i)]) (λ_=>[]) (λi=>p.length-i) 0 rfl (by simp[codeOf]) rfl (by simp) rfl (by omega) ?_;intro i hi;by_cases h:i<p.length
 .have f:=jc b hi;have j:=jc b (i:=i+1) (by omega);have e:=sK h;have k:=jY a.2 (p.getD i 0) (ve h);have d:97<=cq p i/\cq p i<=122:=by unfold cq;omega
  refine aV [(8,ab)] rfl ?_ (AK.aQ (i+1) rfl ?_ ?_ ?_ ?_)
  .simp only[au,cr,bq];grind
  .have c:(cq p i-97) % 256=cq p i-97:=Int.emod_eq_of_lt (by omega) (by omega);rw[c]at e;simp[-ai,cr,e]
  .simp
  .grind
  grind
 .obtain rfl:i=p.length:=by omega
  refine aV [(8,ae)] rfl (by simp) (AK.leaveD rfl rfl ?_);exact br rfl ar (AK.bg rfl)
def Pw:dw X 157 (ki aS (λp=>dI (codeOf p)) λp=>[bC p=ab]):=.oe λp h=>ID p h
def IE(k:Int)(p:Bs)(f:cw k=ab)(g:bC p=ab):Ev X 116 [dI k,dS p] [] (dI (gv k p)) []:=by
 refine Ev.bQ Tryz.func116 rfl λh=>?_;have c:bA X [(157,ki aS (λp=>dI (codeOf p)) λp=>[bC p=ab])]:=.cons Pw .nil;have a:=f;simp only[cw,bP,bc]at a;have e:=xk g;refine bR c rfl ?_ (AK.bg rfl ?_)
 .have d:0<=codeOf p*(2*k+1):=Int.mul_nonneg e.1 (by omega);have b:codeOf p*(2*k+1)<=282429536481*199:=Int.mul_le_mul (by omega) (by omega) (by omega) (by omega);generalize codeOf p*(2*k+1)=m at d b;simp only[au,bq];grind
 .show (_:Int)=_;rfl
def vp:dw X 116 (mX aI aS (λk p=>dI (gv k p)) λk p=>[cw k=ab,bC p=ab]):=.px λk p h=>IE k p h.1 h.2
def IF(l:List dj)(n:Int)(c:l.length<=4000000):Ev X 148 [nE.sl l,dI n] [] (dI (sL l n)) []:=by
 refine Ev.bQ Tryz.func148 rfl λd=>?_;refine br rfl ar ?_;refine AK.bS 0 (λi=>i<=l.length/\∀j,j<i->(l.getD j (0,0)).1≠n) (λi:Nat=>[(0,nE.sl l),(1,dI n),(5,dI i)]) (λ_=>[]) (λi=>l.length-i) 0 rfl ?_ rfl ?_ rfl ⟨by omega,by omega⟩ ?_
 .simp
 .simp
 rintro i ⟨hi,b⟩;by_cases h:i<l.length
 .have a:l.getD (i:Int).toNat nE.bG=l.getD i (0,0):=by grind
  by_cases e:(l.getD i (0,0)).1=n
  .refine aV [(9,ab),(18,ab)] rfl ?_ (AK.eK (b7.zero rfl ?_))
   .simp only[au,a];grind
   .have:sL l n=(l.getD i (0,0)).2:=by
     have:l.find? (λs=>s.1==n)=aa (l.getD i (0,0)):=by grind[List.find?_eq_some_iff_getElem]
     rw[sL,this]
    simp only[au,a];grind
  .refine aV [(9,ab),(18,ae)] rfl ?_ (AK.aQ (i+1) rfl ?_ ?_ ?_ ?_)
   .simp only[au,a,bq];grind
   .simp
   .simp
   .grind
   .omega
 .refine aV [(9,ae)] rfl (by simp;omega) (AK.leaveD rfl rfl ?_);refine br rfl ar (AK.bg rfl ?_);have:sL l n=0:=by
   have:l.find? (λs=>s.1==n)=af:=by grind[List.getElem_of_mem]
   rw[sL,this]
  simp[this]
theorem vq(b:1<=n)(a:n<=8):n<=cy n/\cy n<=8:=by unfold cy;grind
abbrev Eg:di:=ki aI (λn=>dI (cy n.toNat)) λn=>[0<=n/\n<=4000000]
def L5:dw X 199 Eg:=.oe λn h=>by
 obtain⟨m,rfl⟩:∃m:Nat,n=m:=⟨n.toNat,by have:=h.1;omega⟩
 exact FD m (by have:=h.2;omega)
def L6(p:Bs)(c:bC p=ab):Ev X 153 [dS p] [] (dS (fY p)) []:=by
 refine Ev.bQ Tryz.func153 rfl λg=>?_;have b:bA X [(199,Eg)]:=.cons L5 .nil;have a:=c;simp only[bC,bP,bc]at a;have f:=vq a.1.1 a.1.2;refine bR b rfl ?_ ?_
 .simp only[au];omega
 refine AK.bS 0 (λj=>p.length+j<=cy p.length) (λj:Nat=>[(0,dS (p++List.replicate j 46)),(3,dI (cy p.length))]) (λ_=>[]) (λj=>cy p.length-j) 0 rfl (by simp) rfl (by simp) rfl (by omega) ?_;intro j d;by_cases h:p.length+j<cy p.length
 .refine aM b [(10,ab)] rfl ?_ (AK.aQ (j+1) rfl ?_ ?_ ?_ ?_)
  .simp;omega
  .simp[List.replicate_succ']
  .simp
  .grind
  grind
 .have e:cy p.length-p.length=j:=by omega
  refine aM b [(10,ae)] rfl (by simp;omega) (AK.leaveD rfl rfl ?_);refine bR b rfl ar (AK.bg rfl ?_);simp[fY,c,e]
def IG(s:dj):Ev X 150 [.e (.agg [.c (.int .i64 s.1),.c (.int .i64 s.2)])] [] (dB (km s)) []:=by
 refine Ev.bQ Tryz.func150 rfl λf=>?_;have d:bA X [(56,CP)]:=.cons FC .nil;by_cases a:0<=s.1/\s.1<=999999999988
 .by_cases b:1<=s.2/\s.2<=99
  .refine aM d [(6,ab),(10,ab)] rfl (by simp[a,b]) (AK.bg rfl ?_);have:km s=ab:=by simp[km,a,b];omega
   simp[this]
  .refine aM d [(6,ab),(10,ae)] rfl (by simp[a,b]<;>omega) (AK.bg rfl ?_);have:km s=ae:=by simp[km,a];omega
   simp[this]
 .refine aM d [(6,ae),(10,ae)] rfl (by simp;omega) (AK.bg rfl ?_);have:km s=ae:=by simp[km];omega
  simp[this]
abbrev IH:di:=ki T5 (λs=>dB (km s)) λ_=>[]
def Px:dw X 150 IH:=.oe λs _=>IG s
def vG{q:α->Bool}{l:List α}(h:l.any q=ab):0<=p0 q l:=by unfold p0;grind
theorem vH{q:α->Bool}{l:List α}(h:l.any q=ae):p0 q l=-1:=by unfold p0;grind
def I3(l:List (Int×Int))(b:Nat)(q:Int×Int->Bool)(f:∀x,x∈l->Ev X b [.e (.agg [.c (.int .i64 x.1),.c (.int .i64 x.2)])] [] (dB (q x)) []):
  Ev X 102 [cH.sl l,.e (.one (.c (.fn (.func b) [] [])))] [] (dI (p0 q l)) []:=by
 refine Ev.bQ Tryz.func102 rfl λk=>?_;have d:=k.sl 0 rfl;refine br rfl ar ?_;refine AK.iM (λi=>i<=l.length/\∀j,j<i->q (l.getD j (0,0))=ae) (λi:Nat=>[(0,cH.sl l),(1,.e (.one (.c (.fn (.func b) [] [])))),(7,dI l.length),(8,dI i)]) (λ_=>[]) (λi=>l.length-i) 0 rfl ?_ rfl ar ⟨by omega,by omega⟩ ?_
 .simp
 rintro i ⟨hi,a⟩;by_cases h:i<l.length
 .have g:l.getD i (0,0)∈l:=by grind
  have n:l.getD (i:Int).toNat cH.bG=l.getD i (0,0):=by grind
  refine aV [(9,ab)] rfl ?_ ?_
  .simp only[au];grind
  rw[n];refine AK.cQ (f _ g) [] rfl ?_;cases m:q (l.getD i (0,0))with
  |true =>
   refine aV [(16,ab)] rfl ?_ (AK.gu (b7.zero rfl ?_))
   .simp
   .simp[tQ h m a]
  |false =>
   refine aV [(16,ae)] rfl ?_ (AK.fa (i+1) rfl ?_ rfl ar ?_ ?_)
   .simp[bq];omega
   .simp
   .grind
   .omega
 .refine aV [(9,ae)] rfl (by simp;omega) (AK.leave rfl rfl ?_);refine br rfl ar (AK.bg rfl ?_);simp[pb (λj o=>a j (by omega))]
def I4(l:List (Int×Int))(a:Nat)(q:Int×Int->Bool)(b:∀x,x∈l->Ev X a [.e (.agg [.c (.int .i64 x.1),.c (.int .i64 x.2)])] [] (dB (q x)) []):
  Ev X 81 [cH.sl l,.e (.one (.c (.fn (.func a) [] [])))] [] (dB (l.any q)) []:=by
 refine Ev.bQ Tryz.func81 rfl λd=>?_;refine br rfl ar ?_;refine AK.cQ (I3 l a q b) [] rfl ?_;cases h:l.any q with
 |true =>
  exact aV [(8,ab)] rfl (cV (vG h)) (AK.bg rfl)
 |false =>
  exact aV [(8,ae)] rfl (gf (by grind[vH])) (AK.bg rfl)
def I5(l:List (bw))(b:Nat)(cs:List C)(q:bw->Bool)(f:∀x,x∈l->Ev X b [D9 x,.e (.one (.c (.rp cs)))] [] (dB (q x)) []):
  Ev X 74 [cP.sl l,.e (.one (.c (.fn (.func b) [] [.rp cs])))] [] (dI (p0 q l)) []:=by
 refine Ev.bQ Tryz.func74 rfl λk=>?_;have d:=k.sl 0 rfl;refine br rfl ar ?_;refine AK.iM (λi=>i<=l.length/\∀j,j<i->q (l.getD j (0,[]))=ae) (λi:Nat=>[(0,cP.sl l),(1,.e (.one (.c (.fn (.func b) [] [.rp cs])))),(7,dI l.length),(8,dI i)]) (λ_=>[]) (λi=>l.length-i) 0 rfl ?_ rfl ar ⟨by omega,by omega⟩ ?_
 .simp
 rintro i ⟨hi,a⟩;by_cases h:i<l.length
 .have g:l.getD i (0,[])∈l:=by grind
  have n:l.getD (i:Int).toNat cP.bG=l.getD i (0,[]):=by grind
  refine aV [(9,ab)] rfl ?_ ?_
  .simp only[au];grind
  rw[n];refine AK.cQ (f _ g) [] rfl ?_;cases m:q (l.getD i (0,[]))with
  |true =>
   refine aV [(16,ab)] rfl ?_ (AK.gu (b7.zero rfl ?_))
   .simp
   .simp[tQ h m a]
  |false =>
   refine aV [(16,ae)] rfl ?_ (AK.fa (i+1) rfl ?_ rfl ar ?_ ?_)
   .simp[bq];omega
   .simp
   .grind
   .omega
 .refine aV [(9,ae)] rfl (by simp;omega) (AK.leave rfl rfl ?_);refine br rfl ar (AK.bg rfl ?_);simp[pb (λj o=>a j (by omega))]
def I6(l:List (bw))(a:Nat)(cs:List C)(q:bw->Bool)(b:∀x,x∈l->Ev X a [D9 x,.e (.one (.c (.rp cs)))] [] (dB (q x)) []):
  Ev X 41 [cP.sl l,.e (.one (.c (.fn (.func a) [] [.rp cs])))] [] (dB (l.any q)) []:=by
 refine Ev.bQ Tryz.func41 rfl λd=>?_;refine br rfl ar ?_;refine AK.cQ (I5 l a cs q b) [] rfl ?_;cases h:l.any q with
 |true =>
  exact aV [(8,ab)] rfl (cV (vG h)) (AK.bg rfl)
 |false =>
  exact aV [(8,ae)] rfl (gf (by grind[vH])) (AK.bg rfl)
def I7(l:List (Int))(b:Nat)(cs:List C)(H:aj->(Nat->Option Obj)->Prop)(q:Int->Bool)(f:∀x,x∈l->Ev X b [dI x,.e (.one (.c (.rp cs)))] [.cp H] (dB (q x)) [.cp H]):
  Ev X 73 [cI.sl l,.e (.one (.c (.fn (.func b) [] [.rp cs])))] [.cp H] (dI (p0 q l)) [.cp H]:=by
 refine Ev.bQ Tryz.func73 rfl λk=>?_;have d:=k.sl 0 rfl;refine br rfl ar ?_;refine AK.bS 1 (λi=>i<=l.length/\∀j,j<i->q (l.getD j 0)=ae) (λi:Nat=>[(0,cI.sl l),(1,.e (.one (.c (.fn (.func b) [] [.rp cs])))),(7,dI l.length),(8,dI i)]) (λ_=>[.cp H]) (λi=>l.length-i) 0 rfl ?_ rfl ?_ rfl ⟨by omega,by omega⟩ ?_
 .simp
 .simp
 rintro i ⟨hi,a⟩;by_cases h:i<l.length
 .have g:l.getD i 0∈l:=by grind
  have n:l.getD (i:Int).toNat cI.bG=l.getD i 0:=by grind
  refine aV [(9,ab)] rfl ?_ ?_
  .simp only[au];grind
  rw[n];refine AK.cQ (f _ g) [0] rfl ?_;cases m:q (l.getD i 0)with
  |true =>
   refine aV [(16,ab)] rfl ?_ (AK.eK (b7.mk [0] rfl ?_ rfl rfl rfl mW))
   .simp
   .simp[tQ h m a]
  |false =>
   refine aV [(16,ae)] rfl ?_ (AK.aQ (i+1) rfl ?_ ?_ ?_ ?_)
   .simp[bq];omega
   .simp
   .simp
   .grind
   .omega
 .refine aV [(9,ae)] rfl (by simp;omega) (AK.leaveD rfl rfl ?_);refine br rfl ar (AK.dA [0] rfl ?_ rfl rfl rfl mW);simp[pb (λj o=>a j (by omega))]
def I8(l:List (Int))(a:Nat)(cs:List C)(H:aj->(Nat->Option Obj)->Prop)(q:Int->Bool)(b:∀x,x∈l->Ev X a [dI x,.e (.one (.c (.rp cs)))] [.cp H] (dB (q x)) [.cp H]):
  Ev X 39 [cI.sl l,.e (.one (.c (.fn (.func a) [] [.rp cs])))] [.cp H] (dB (l.any q)) [.cp H]:=by
 refine Ev.bQ Tryz.func39 rfl λd=>?_;refine br rfl ar ?_;refine AK.cQ (I7 l a cs H q b) [0] rfl ?_;cases h:l.any q with
 |true =>
  refine aV [(8,ab)] rfl (cV (vG h)) (AK.dA [0] rfl ?_ rfl rfl rfl mW);simp
 |false =>
  refine aV [(8,ae)] rfl (gf (by grind[vH])) (AK.dA [0] rfl ?_ rfl rfl rfl mW);simp
def SU(h:o.op=.call {callee:=.builtin .append,args:=#[x,y],argTypes:=#[41,41]}):kQ ag o x y 68 i68 :=
 ⟨⟨41,41,i41,i41,h,(tok _ _ rfl),rfl,(tok _ _ rfl),rfl⟩,(tok _ _ rfl),by decide,by decide⟩
def Ej(l:List ck)(n:Nat):∀i,i<n->∀c∈eb.fn l i,s8 c=ab:=by
 intro i _ c a;have:eb.fn l i=[.int .i64 (l.getD i eb.bG).1,.str (l.getD i eb.bG).2]:=rfl;rw[this]at a;rcases dD.1 a with rfl|a
 .rfl
 .rcases dD.1 a with rfl|a
  .rfl
  grind
abbrev Own(l:List ck):Type:={q:s9×List aj // gZ 2 l.length (eb.fn l) q.2}
abbrev FL(l:List ck)(q:Own l):ba:=.cp (iv 68 2 q.1.1 l.length q.1.2)
abbrev zf(l:List ck)(q:Own l):C:=.val (rz q.1.1 l.length)
abbrev S3:Type:=Nat×s9×Nat×List aj
abbrev u3(x:S3):aj:=rz x.2.1 x.2.2.1
end
abbrev zn(l:List bu):Prop:=l.Pairwise λa b=>aY a.1 b.1=ab
def vQ{t:List bu}(h:db t=ab):zn t:=by simp only[db,bP]at h;have a:=c7.1 h.1;rw[zn,lO];intro i j hi hj V8;rw[fileAt hi,fileAt hj];refine S8 (t:=t) (i:=j) (λk c b=>?_) i V8;have:=a k (by omega);simp only[fR,bP,lS,gg]at this;grind
theorem ou{t:List bu}:db t=ab↔(∀f∈t,dr f.1=ab/\dO f.2=ab)/\zn t/\t.Pairwise (λa b=>clash a.1 b.1=ae)/\t.length<=6:=by
 constructor
 .intro h;have e:=vQ h;simp only[db,bP,bc]at h;have c:=c7.1 h.1;refine⟨λf k=>?_,e,?_,h.2⟩
  .obtain⟨i,hi,rfl⟩:=dz k;have:=c i hi;simp only[fR,bP]at this;grind[fileAt]
  .rw[lO];intro i j hi hj V8;have:=c j hj;simp only[fR,bP]at this;grind[fileAt]
 .rintro⟨l,n,m,d⟩;simp only[db,bP,bc];refine⟨c7.2 λi hi=>?_,d⟩;have g:=l _ (ql hi);rw[fileAt hi]at g;simp only[fR,bP,lS,gg];grind[List.pairwise_iff_getElem,fileAt]
def vR{t:List bu}(q:bu->Bool)(h:db t=ab):db (t.filter q)=ab:=by grind[ou]
theorem Js{t:List bu}(p:Bs)(h:db t=ab):db (ll t p)=ab:=vR _ h
def C5{t:List bu}{p x:Bs}(h:(dN t p x).2=ab):db (dN t p x).1=ab:=by unfold dN at h⊢;grind
end R1
def dK.le{X:Cx P}{f:aP}{args:List D}{res':ι->D}(h:dK X f args σ res σ1){ps:ι->List Prop}(a:∀i,BC (res i) (res' i)=aa (ps i))(b:∀i,au (ps i)):dK X f args σ res' σ1 :=
 ⟨h.1,λs vs hr hh S cs hS=>h.2 s vs hr hh S cs λi fr v s' hl l5 iQ st=>hS i fr v s' hl (pO (a i) (b i) l5) iQ st⟩
def dK.one{X:Cx P}{f:aP}{args:List D}{res:D}{σ1:List ba}(h:dK (ι:=ι) X f args σ (λ_=>res) (λ_=>σ1)):Ev X f args σ res σ1 :=
 ⟨h.1,λs vs hr hh S cs hS=>h.2 s vs hr hh S cs λ_ fr v s' hl l5 iQ st=>hS fr v s' hl l5 iQ st⟩
namespace R1
variable {X:Cx ag}
structure mm(s:bl):Prop where
 p:s.1.length<=4000000
 p2:∀p∈s.1,p.2.length<=4000000
 sn:s.2.1.length<=4000000
 s2:il s
 h:s.2.2.length<=4000000
end R1
namespace R1
section
open Go.Sort (pdq bitsLen ltInt Below)
variable {X:Cx ag}
def j1(l:List Int):List Int:=l.mergeSort λx y=>decide (x<=y)
def eU(l:List Int):(j1 l).length=l.length:=List.length_mergeSort _
def JX(l:List Int):pdq ltInt l.toArray 0 l.length (bitsLen l.length) ab ab=(j1 l).toArray:=by have h:=Go.Sort.sortInt l;unfold Go.Sort.sort at h;rw[List.size_toArray]at h;exact Array.ext' (by rw[h];rfl)
theorem Tt(l:List Int):eI l.toArray=cI.fn l:=by funext j;simp only[eI,jX.fn,xo,cI,ai];simp
abbrev zF(n:Nat)(l:List Int):ba:=.buf 3 1 n (cI.fn l)
def vN(l:List Int)(a:l.length<=4000000):Ev X 71 [jN l.length] [zF l.length l] (.fe []) [zF l.length (j1 l)]:=by
 refine Ev.bQ Tryz.func71 rfl λc=>?_;refine dv rfl (by simp only[au,bq];and_intros<;>omega) ?_;refine AK.cQ (JY l.length a) [] rfl ?_;refine dv rfl ar ?_;have b:=jI (x:=l.length) (k:=22) (by grind);have key:Ev X 99 [jN l.length,dI 0,dI l.length,dI (bitsLen l.length)] [zF l.length l] (.fe []) [zF l.length (j1 l)]:=by have:=Qw (X:=X) l.length a l.length l.toArray 0 l.length (bitsLen l.length) (by omega) (by simp) (by omega) (aZ _) (by omega) (.inl rfl) (x:=0) rfl rfl rfl (JX l).symm;grind[Tt]
 refine AK.cQ key [0] rfl ?_;refine dv rfl ar ?_;exact b7.rQ [0] rfl ar rfl rfl rfl gM
def ji(l:List Int):Nat->List Int
 |0=>[]
 |j+1=>if j≠0/\l.getD j 0=l.getD (j-1) 0 then ji l j else ji l j++[l.getD j 0]
def dG(l:List Int):List Int:=ji l l.length
def rh(l:List Int):∀j,(ji l j).length<=j
 |0=>aZ _
 |j+1=>by have:=rh l j;simp only[ji];grind
def mv{l:List Int}:∀{k:Nat},k<=l.length->(∀i,1<=i->i<k->l.getD i 0≠l.getD (i-1) 0)->ji l k=l.take k
 |0,_,_=>by simp[ji]
 |k+1,c,h=>by rw[ji,bh,mv (by omega) λi a b=>h i a (by omega),bm (by omega) 0];grind
structure CoP(l:List Int)(k0:Nat)(k2:Nat)(ys:List Int):Prop where
 h1:1<=k2
 hj:k0+k2<=l.length
 len:ys.length=l.length
 lt:(ji l (k0+k2)).length<k0+k2
 done:ys.take (ji l (k0+k2)).length=ji l (k0+k2)
 rest:∀i,k0+k2<=i+1->ys.getD i 0=l.getD i 0
abbrev JZ(a:List Int):Type:={es:Nat->List C // ∀i,i<a.length->es i=cI.fn a i}
def vO(l:List Int)(K:l.length<=4000000):dK (ι:=JZ (dG l)) X 72 [jN l.length] [zF l.length l] (λ_=>.e (.one (.bp 0 (.sl l.length 1 0 (dG l).length)))) (λes=>[.buf 3 1 l.length es.1]):=by
 refine dK.nw Tryz.func72 rfl rfl rfl λL=>?_;by_cases E:l.length<2
 .have h:dG l=l:=by unfold dG;rw[mv (aZ _) λi _ _=>by omega,cB]
  refine bE [(8,ab)] rfl (by simp only[au,bc];omega) (AK.kl ⟨cI.fn l,λi _=>by rw[h]⟩ (AK.dA [0] rfl ?_ rfl rfl rfl gM));simp[h]
 refine bE [(8,ae)] rfl (by simp only[au,bY];omega) ?_;refine AK.jW (S2:=Unit) 0 rfl rfl (λ_=>dG l=l) (λ_=>[(0,jN l.length)]) (λ_=>[zF l.length l]) 1 (λk:Nat=>1<=k/\k<=l.length/\∀i,1<=i->i<k->l.getD i 0≠l.getD (i-1) 0) (λk=>[(0,jN l.length),(3,dI k)]) (λ_=>[zF l.length l]) (λk=>l.length-k) 1 rfl ?_ rfl ?_ rfl ⟨aZ _,by omega,λi J E=>by omega⟩ ?_ ?_
 .simp
 .simp
 .rintro out k ⟨B,I,d⟩;by_cases A:k<l.length
  .have v:((k:Int)-1).toNat=k-1:=by omega
   have u:∀j,l.getD j cI.bG=l.getD j 0:=λ_=>rfl;by_cases f:l.getD k 0=l.getD (k-1) 0
   .refine bE [(13,ab),(25,ab)] rfl ?_ ?_
    .simp only[au,bo,bF,v,u,f,bq,bc,jw,aF,aE];and_intros<;>omega
    have z:=mv (l:=l) (by omega) d;have H:ji l (k+1)=l.take k:=by rw[ji,bt ⟨by omega,f⟩,z]
    refine AK.jW (S2:=List Int) 2 rfl rfl (λc=>c.length=l.length/\c.take (dG l).length=dG l) (λ_=>[(0,jN l.length),(3,dI (dG l).length)]) (λc=>[zF l.length c]) 1 (λs:Nat×List Int=>CoP l k s.1 s.2) (λs=>[(0,jN l.length),(3,dI (ji l (k+s.1)).length),(4,.e (.one (.bp 0 (.sl l.length 1 k (l.length-k))))),(5,dI s.1)]) (λs=>[zF l.length s.2]) (λs=>l.length-s.1) (1,l) rfl ?_ rfl ?_ rfl ?_ ?_ ?_
    .simp only[au.cat,au,H,List.length_take,cU,bo,bF,aF,aE];exact⟨by omega,rfl,rfl⟩
    .simp
    .exact⟨aZ _,by omega,rfl,by grind,by grind,λ_ _=>rfl⟩
    .rintro g ⟨b,c⟩ ⟨c1,c2,c3,c4,m,p⟩;simp only at c1 c2 c3 c4 m p;by_cases D:k+b<l.length
     .have x:((b:Int)-1).toNat=b-1:=by omega
      have q:∀j,c.getD j cI.bG=c.getD j 0:=λ_=>rfl;have r:c.getD (k+b) 0=l.getD (k+b) 0:=p _ (by omega);have w:c.getD (k+(b-1)) 0=l.getD (k+(b-1)) 0:=p _ (by omega);by_cases o:l.getD (k+b) 0=l.getD (k+(b-1)) 0
      .have n:ji l (k+(b+1))=ji l (k+b):=by rw[show k+(b+1)=k+b+1 by omega,ji,bt ⟨by omega,by rw[o,show k+b-1=k+(b-1) by omega]⟩]
       refine bE [(32,ab),(44,ae)] rfl ?_ (AK.aQ (b+1,c) rfl ?_ ?_ ?_ ?_)
       .simp only[au,bo,bF,x,q,r,w,o,bq,bc,lQ,kP,jw,aF,aE];and_intros<;>first|trivial|omega
       .simp only[au.cat,au,n,aF,aE];omega
       .simp
       .exact⟨by grind,by grind,c3,by grind,by grind,λi hi=>p i (by grind)⟩
       .simp only;omega
      .have n:ji l (k+(b+1))=ji l (k+b)++[l.getD (k+b) 0]:=by rw[show k+(b+1)=k+b+1 by omega,ji,bh];rintro⟨_,f⟩;exact o (by rw[f,show k+b-1=k+(b-1) by omega])
       refine bE [(32,ab),(44,ab)] rfl ?_ (AK.aQ (b+1,c.set (ji l (k+b)).length (l.getD (k+b) 0)) rfl ?_ ?_ ?_ ?_)
       .simp only[au,bo,bF,x,q,r,w,bq,bc,iC,eF,oF,dn,aF,aE];and_intros<;>first|exact o|omega
       .simp only[au.cat,au,n,b9,gd,iS,aF,aE];and_intros<;>omega
       .have e:=cI.IC c (ji l (k+b)).length (l.getD (k+b) 0) l.length (by omega);simp only[au.cat,au,bo,bF,q,r,aE,aF];exact e
       .refine⟨by grind,by grind,by grind,by grind,?_,λi hi=>?_⟩
        .simp only;rw[n,b9,show ∀a:Int,[a].length=1 fromλ_=>rfl,js,List.take_set,List.set_eq_of_length_le (by grind),m,fJ (by omega)];rfl
        .simp only at hi⊢;rw[ai,j5 (by omega),<-ai];grind
       .simp only;omega
     .have y:k+b=l.length:=by omega
      have t:ji l (k+b)=dG l:=by rw[y];rfl
      refine bE [(32,ae)] rfl ?_ (AK.leaveD rfl rfl ?_)
      .simp only[au,bY];omega
      rw[t]at m;exact g c ⟨c3,m⟩ rfl (by simp[t]) rfl (by simp)
    rintro c ⟨G,C⟩;have F:(dG l).length<=l.length:=rh l _;refine dv rfl ?_ ?_
    .simp only[au];grind
    refine AK.law (bx.GU tok rfl rfl rfl rfl rfl rfl ?_) rfl rfl ?_
    .simp only[cU,bF];omega
    refine br rfl ?_ (AK.eK ⟨⟨pQ (0+cU 0 (aa ((dG l).length:Int))) (0+cU 0 (aa ((dG l).length:Int))+(cU l.length af-cU 0 (aa ((dG l).length:Int)))) i3.zero (cI.fn c),λi hi=>?_⟩,b7.mk [0] rfl ?_ rfl rfl rfl gM⟩)
    .simp only[au];grind
    .have e:c[i]?=(dG l)[i]?:=by grind
     refine(vo (by simp only[cU,bF];omega)).trans ?_;simp only[jX.fn,xo,ai,e]
    .simp[cU];rfl
   .refine bE [(13,ab),(25,ae)] rfl ?_ (AK.aQ (k+1) rfl ?_ ?_ ?_ ?_)
    .simp only[au,bo,bF,v,u,bq,bc,eF,dn,aF,aE];and_intros<;>first|exact f|omega
    .simp
    .simp
    .grind
    .omega
  .obtain rfl:k=l.length:=by omega
   refine bE [(13,ae)] rfl (by simp) (AK.leaveD rfl rfl ?_);exact out () (by unfold dG;rw[mv (aZ _) d,cB]) rfl (by simp) rfl (by simp)
 rintro⟨⟩ h;refine dv rfl ar (AK.kl ⟨cI.fn l,λi _=>by rw[h]⟩ (AK.dA [0] rfl ?_ rfl rfl rfl gM));simp[h]
end
section
variable {X:Cx ag}
def bU(l:List gj):List Int:=l.flatMap (·.2)
def cR(x:cm):List Int:=dG (j1 (bU x.2))
def rb{l:List gj}(h:i<l.length):bU (l.take (i+1))=bU (l.take i)++(l.getD i ([],[])).2:=by rw[bm h ([],[])];simp[bU]
def _root_.Go.AM.jX.Jo(c:jX α)(a b:List α)(n:Nat)(d:n=(a++b).length):cn n (cD a.length (c.fn a) (c.fn b)) (c.fn (a++b)):=by intro i hi;simp only[cD,jX.fn,xo,ai];grind
def wO(x:cm)(o:x.2.length<=4000000)(k:(bU x.2).length<=4000000)(m:∀i,i<=x.2.length->(bU (x.2.take i)).length<=4000000):
  dK (ι:=JZ (cR x)) X 38 [AJ x] [] (λ_=>.e (.one (.bp 0 (.sl (bU x.2).length 1 0 (cR x).length)))) (λes=>[.buf 3 1 (bU x.2).length es.1]):=by
 refine dK.nw Tryz.func38 rfl rfl rfl λn=>?_;refine bE [(1000002,ab)] rfl ar ?_;refine AK.R9 3 3 1 (cI.fn []) rfl ?_;refine dv rfl ar ?_;refine AK.bS 2 (λi=>i<=x.2.length) (λi:Nat=>[(3,.e (.one (.bp 1 (.sl (bU (x.2.take i)).length 1 0 (bU (x.2.take i)).length)))),(7,cL.sl x.2),(8,dI x.2.length),(9,dI i)])
  (λi=>[.cells 39 [.c (.int .i64 x.1),.c (.sl ae 2 x.2.length (cL.fn x.2))],zF (bU (x.2.take i)).length (bU (x.2.take i))]) (λi=>x.2.length-i) 0 rfl ?_ rfl ?_ rfl (by omega) ?_
 .simp[bU]
 .simp[cn,bU]
 intro i hi;by_cases h:i<x.2.length
 .have f:x.2.getD (i:Int).toNat cL.bG=x.2.getD i ([],[]):=by rw[bF];rfl
  have a:=rb h;have d:=m (i+1) h;rw[a,b9]at d;refine bE [(10,ab)] rfl ?_ (AK.aQ (i+1) rfl ?_ ?_ ?_ ?_)
  .simp only[au,f,bq,show i3.bytes=8 from rfl,bc,aF,aE];and_intros<;>omega
  .simp only[au.cat,au,f,a,b9,aE,aF];and_intros<;>first|exact cn.same|rfl|omega
  .have e:=cI.Jo (bU (x.2.take i)) (x.2.getD i ([],[])).2 _ rfl;simp only[au.cat,au,f,a,b9,aE,aF]at e⊢;exact⟨cn.same,e⟩
  .show i+1<=_;omega
  .omega
 .obtain rfl:i=x.2.length:=by omega
  rw[cB];refine bE [(10,ae)] rfl (by simp) (AK.leaveD rfl rfl ?_);refine dv rfl ar ?_;refine AK.cQ (vN (bU x.2) k) [1] rfl ?_;refine dv rfl ar ?_;have g:=vO (X:=X) (j1 (bU x.2)) (by rw[eU];exact k);rw[eU]at g;refine AK.cP g [1] rfl (λ_=>rfl) ?_;rintro⟨es,b⟩;refine dv rfl ar (AK.kl ⟨es,b⟩ (AK.dA [1] rfl ?_ rfl rfl rfl (λj l=>absurd l (by simp))));simp[cR]
def mr(l:List gj)(i:Nat):(bU (l.take i)).length<=(bU l).length:=by
 have h:bU l=bU (l.take i)++bU (l.drop i):=by unfold bU;grind[List.take_append_drop]
 grind
def m8(l:List Int):(dG l).length<=l.length:=rh l _
def rf(x:cm)(d:x.2.length<=4000000)(c:(bU x.2).length<=4000000):Ev X 38 [AJ x] [] (cI.sl (cR x)) []:=by
 have a:=wO (X:=X) x d c λi _=>gB (mr _ _) c;have b:=dK.Ax (σ1:=λ_:JZ (cR x)=>[]) (E:=3) (k:=1) (n:=λ_=>(bU x.2).length) (es:=λes=>es.1) a (λ_=>rfl) (λ_=>?_) (λ_=>rfl) (λ_=>aZ _);refine(b.le (res':=λ_=>cI.sl (cR x)) (λ_=>rfl) (λes=>?_)).one
 .simp only[au.cat,au,aE,aF];exact es.2
 .have:(cR x).length<=(bU x.2).length:=by unfold cR;rw[<-eU (bU x.2)];exact m8 _
  simpa using this
def II(s:Bs)(i:Nat)(a:bX s=ab)(e:3<=i)(hi:i<=s.length)(j:s.length<=4000000):Ev X 230 [dS s,dI i] [] (dB (jh s i)) []:=by
 refine Ev.bQ Tryz.func230 rfl λf=>?_;have k:=Fp a (i-1) (by omega);have g:=Fp a (i-2) (by omega);have h:=Fp a (i-3) (by omega);have b:((ik s ((i:Int)-1)).toNat:Int)=cq s (i-1):=by grind[cr]
 have c:((ik s ((i:Int)-2)).toNat:Int)=cq s (i-2):=by grind[cr]
 have d:((ik s ((i:Int)-3)).toNat:Int)=cq s (i-3):=by grind[cr]
 refine br rfl ?_ (AK.bg rfl ?_)
 .simp only[au,bq,b,c,d];omega
 .simp only[au,au.cat,b,c,d,jh,dl,aE];grind
abbrev IJ:di:=mX aS aI (λs i=>dB (jh s i.toNat)) λs i=>[bX s=ab,3<=i,i<=s.length,s.length<=4000000]
def Py:dw X 230 IJ:=.px λs i h=>by
 obtain⟨a,c,d,b⟩:=h;obtain⟨m,rfl⟩:∃m:Nat,i=m:=⟨i.toNat,by omega⟩
 exact II s m a (by omega) (by omega) b
def Pz(t:Bs)(f:Nat)(g:bX t=ab)(l:f<=t.length)(q:t.length<=4000000):Ev X 220 [dS t,dI f] [] (dI (cutAt t f)) []:=by
 refine Ev.bQ Tryz.func220 rfl λp=>?_;have b:bA X [(230,IJ)]:=.cons Py .nil;refine bR b rfl ar ?_;refine AK.iM (λj=>j<=5/\rV t f (5-j)=cutAt t f) (λj:Nat=>[(0,dS t),(1,dI f),(5,dI (3+j))]) (λ_=>[]) (λj=>5-j) 0 rfl ?_ rfl ar ⟨by omega,rfl⟩ ?_
 .simp
 rintro j ⟨o,a⟩;by_cases h:j<5
 .obtain⟨k,n⟩:∃k,5-j=k+1:=⟨4-j,by omega⟩
  have d:f+(7-k)=f+3+j:=by omega
  rw[n]at a;simp only[rV,d]at a;by_cases i:t.length<=f+3+j
  .rw[bt i]at a;refine aM b [(7,ab),(15,ab)] rfl ?_ (AK.gu (b7.zero rfl ?_))
   .simp only[au,bq,bc,aF,aE];omega
   .simp[<-a]
  rw[bh i]at a;have e:((f:Int)+(3+(j:Int))).toNat=f+3+j:=by omega
  cases c:jh t (f+3+j)with
  |true =>
   rw[c,bt rfl]at a;refine aM b [(7,ab),(15,ae),(22,ab)] rfl ?_ (AK.gu (b7.zero rfl ?_))
   .simp only[au,bq,e,c,g,bc,bY,aF,aE];omega
   .simp[<-a];omega
  |false =>
   rw[c,bh (by simp)]at a;refine aM b [(7,ab),(15,ae),(22,ae)] rfl ?_ (AK.fa (j+1) rfl ?_ rfl ar ⟨by omega,by grind⟩ (by omega))
   .simp only[au,bq,e,c,g,bc,bY,aF,aE];omega
   .simp;omega
 .have e:cutAt t f=min (f+8) t.length:=by rw[<-a,show 5-j=0 by omega];rfl
  have m:bq .i64 ((min (f+8) t.length:Nat):Int):=by simp only[bq];omega
  refine aM b [(7,ae)] rfl ?_ (AK.leave rfl rfl ?_)
  .simp only[au,bq,bc,bY];omega
  refine bR b rfl ?_ ?_
  .simp only[au,bq];omega
  refine AK.law (y4 ((min (f+8) t.length:Nat):Int) rfl rfl rfl (by omega) m) rfl rfl ?_;refine bR b rfl ar (AK.bg rfl ?_);simp[e]
abbrev SH:di:=mX aS aI (λs i=>dI (cutAt s i.toNat)) λs i=>[bX s=ab,0<=i,i<=s.length,s.length<=4000000]
def VZ:dw X 220 SH:=.px λs i h=>by
 obtain⟨a,c,d,b⟩:=h;obtain⟨m,rfl⟩:∃m:Nat,i=m:=⟨i.toNat,by omega⟩
 exact Pz s m a (by omega) b
abbrev lJ(t:Bs):List Int:=(zc t).map λn:Nat=>(n:Int)
def IK(t:Bs)(j:bX t=ab)(o:t.length<=4000000):Ev X 198 [dS t] [] (cI.sl (lJ t)) []:=by
 refine Ev.bQ Tryz.func198 rfl λp=>?_;have b:bA X [(220,SH)]:=.cons VZ .nil;refine aM b [(1000003,ab)] rfl ar ?_;refine AK.g8 3 3 1 rfl rfl ?_;refine bR b rfl ar ?_;refine AK.bS 1 (λs:Nat×List Int=>s.1<=t.length/\s.2.length<=s.1/\∃k,t.length<=s.1+k/\lJ t=s.2++(lK t k s.1).map λn:Nat=>(n:Int)) (λs=>[(0,dS t),(3,.e (.one (.vec 0 1 s.2.length (cI.fn s.2)))),(4,dI s.1)]) (λs=>[.vec 3 1 s.2.length (cI.fn s.2)]) (λs=>t.length-s.1) (0,[]) rfl ?_ rfl ?_ rfl ⟨by simp,by simp,t.length,by simp,by simp[lJ,zc]⟩ ?_
 .simp
 .simp
 rintro⟨f,acc⟩ ⟨c,a,k,l,g⟩;simp only at c a l g;by_cases h:f<t.length
 .obtain⟨k,rfl⟩:∃k',k=k'+1:=⟨k-1,by omega⟩
  have m:=mh t f h;have i:=cI.cg acc (cutAt t f:Int);have d:acc.length+1=(acc++[(cutAt t f:Int)]).length:=by simp
  refine aM b [(9,ab)] rfl ?_ (AK.aQ (cutAt t f,acc++[(cutAt t f:Int)]) rfl ?_ ?_ ?_ ?_)
  .simp only[au,j,show i3.bytes=8 from rfl,bc,aF,aE];and_intros<;>omega
  .exact au.cat.2 ⟨rfl,au.cat.2 ⟨⟨d,i⟩,au.cat.2 ⟨rfl,ar⟩⟩⟩
  .exact au.cat.2 ⟨⟨d,i⟩,ar⟩
  .refine⟨m.2.1,by grind,k,by grind,?_⟩;rw[g];simp only[lK,bt h];simp
  grind
 .have e:lJ t=acc:=by
   have:lK t k f=[]:=by cases k<;>simp[lK,h]
   grind
  refine aM b [(9,ae)] rfl (by simp only[au,bY];omega) (AK.leaveD rfl rfl ?_);refine bR b rfl ar (AK.bg rfl ?_);rw[e];simp
abbrev IL:di:=ki aS (λt=>cI.sl (lJ t)) λt=>[bX t=ab,t.length<=4000000]
def PC:dw X 198 IL:=.oe λt h=>IK t h.1 h.2
def drop_cons{l r:List α}{x:α}(h:l.drop i=x::r)(d:α):i<l.length/\l.getD i d=x/\l.drop (i+1)=r:=by grind[List.drop_eq_nil_of_le,List.drop_eq_getElem_cons]
def xp(t:Bs):∀k f,(lK t k f).length<=k
 |0,_=>aZ _
 |k+1,f=>by
  simp only[lK];split
  .have:=xp t k (cutAt t f);grind
  .simp
def L8(t:Bs)(u:bX t=ab)(B:t.length<=4000000):Ev X 147 [dS t] [] (cS.sl (pieces t)) []:=by
 refine Ev.bQ Tryz.func147 rfl λC=>?_;have d:bA X [(198,IL)]:=.cons PC .nil;have A:(lJ t).length<=t.length:=by simp only[lJ,mH];exact xp t _ _
 refine aM d [(1000002,ab)] rfl ar ?_;refine AK.g8 3 9 1 rfl rfl ?_;refine bR d rfl (by simp only[au,u];grind) ?_;refine AK.bS 1 (λs:Nat×Nat×List Bs=>s.1<=(lJ t).length/\s.2.1<=t.length/\s.2.2.length<=s.1/\∃k,t.length<=s.2.1+k/\(lJ t).drop s.1=((lK t k s.2.1).map λn:Nat=>(n:Int))/\pieces t=s.2.2++eT t k s.2.1) (λs=>[(0,dS t),(3,.e (.one (.vec 0 1 s.2.2.length (cS.fn s.2.2)))),(4,dI s.2.1),(5,cI.sl (lJ t)),(6,dI s.1)]) (λs=>[.vec 9 1 s.2.2.length (cS.fn s.2.2)]) (λs=>(lJ t).length-s.1) (0,0,[]) rfl ?_ rfl ?_ rfl ⟨by simp,by simp,by simp,t.length,by simp,by simp[lJ,zc],by simp[pieces]⟩ ?_
 .simp
 .simp
 rintro⟨i,f,acc⟩ ⟨hi,m,c,k,v,j,o⟩;simp only at hi m c v j o;by_cases h:i<(lJ t).length
 .have g:lK t k f≠[]:=by grind[List.length_drop]
  obtain⟨k,rfl⟩:∃k',k=k'+1:=by
   cases k with
   |zero=>exact absurd rfl g
   |succ k=>grind
  have a:f<t.length:=by
   rcases cv f t.length with h|h
   .exact h
   .exact absurd (by simp only[lK,bh (show¬f<t.length by omega)]) g
  simp only[lK,bt a,oE]at j;obtain⟨_,z,y⟩:=drop_cons j 0;have x:=mh t f a;have l:(lJ t).getD (i:Int).toNat cI.bG=(cutAt t f:Int):=by grind
  have b:qH t (aa (f:Int)) (aa (cutAt t f:Int))=(t.drop f).take (cutAt t f-f):=by simp[qH,List.drop_take]
  have q:=cS.cg acc ((t.drop f).take (cutAt t f-f));have p:acc.length+1=(acc++[(t.drop f).take (cutAt t f-f)]).length:=by simp
  refine aM d [(13,ab)] rfl ?_ (AK.aQ (i+1,cutAt t f,acc++[(t.drop f).take (cutAt t f-f)]) rfl ?_ ?_ ?_ ?_)
  .simp only[au,l,bq,gh,show i9.bytes=16 from rfl,bc,aF,aE];and_intros<;>omega
  .simp only[au.cat,au,l,b,aF,aE];and_intros<;>first|exact p|exact q|exactλ_ _=>rfl|omega
  .simp only[au.cat,au,l,b,aF,aE];and_intros<;>first|exact p|exact q
  .refine⟨by grind,x.2.1,by grind,k,by grind,y,?_⟩;rw[o];simp only[eT,bt a];simp
  grind
 .have e:pieces t=acc:=by
   have r:lK t k f=[]:=by grind[List.map_eq_nil_iff]
   have a:¬f<t.length:=by
    intro w;cases k with
    |zero=>omega
    |succ k=>simp only[lK,bt w]at r;cases r
   rw[o];cases k<;>simp[eT,a]
  refine aM d [(13,ae)] rfl (by simp only[au,bY];omega) (AK.leaveD rfl rfl ?_);refine bR d rfl ar (AK.bg rfl ?_);rw[e];simp
abbrev Eh:di:=ki aS (λt=>cS.sl (pieces t)) λt=>[bX t=ab,t.length<=4000000]
def IM:dw X 147 Eh:=.oe λt h=>L8 t h.1 h.2
def _root_.Go.AM.jX.mo(c:jX α)(l:List α)(x y:α):cn (l.length+1+1) (cD (l.length+1) (cD l.length (c.fn l) λq=>[c.enc x].getD q []) λq=>[c.enc y].getD q []) (c.fn (l++[x,y])):=by
 have h1:=c.cg l x;have h2:=c.cg (l++[x]) y;rw[show(l++[x]).length=l.length+1 by simp,show l++[x]++[y]=l++[x,y] by simp]at h2;intro q a;rw[<-h2 q a];simp only[cD];by_cases e:q<l.length+1
 .rw[bt e,bt e];exact h1 q e
 grind
abbrev PG(x:ck):D:=.e (.agg [.c (.int .i64 x.1),.c (.str x.2)])
def ic(x:ck)(acc:List ck×Bool)(y:ck):List ck×Bool:=if acc.2=ab then(acc.1++[y],ab)else if x.1<y.1 then(acc.1++[x,y],ab)else(acc.1++[y],ae)
def xw(x:ck):∀(l:List ck)(a:List ck),(l.foldl (ic x) (a,ab))=(a++l,ab)
 |[],a=>by simp
 |y::r,a=>by rw[iT,show ic x (a,ab) y=(a++[y],ab)from rfl,xw x r];simp
def r5(x:ck):∀(l:List ck)(a:List ck),(if(l.foldl (ic x) (a,ae)).2=ab then(l.foldl (ic x) (a,ae)).1 else(l.foldl (ic x) (a,ae)).1++[x])=a++lr l x
 |[],a=>by simp[lr]
 |y::r,a=>by
  rw[iT];by_cases h:x.1<y.1
  .rw[show ic x (a,ae) y=(a++[x,y],ab) by simp[ic,h],xw];simp[lr,h]
  .rw[show ic x (a,ae) y=(a++[y],ae) by simp[ic,h],r5 x r];simp[lr,h]
theorem xx(x:ck):∀(l:List ck)(a:List ck×Bool),(l.foldl (ic x) a).1.length<=a.1.length+l.length+1-(if a.2=ab then 1 else 0)
 |[],a=>by grind
 |y::r,a=>by rw[iT];have:=xx x r (ic x a y);unfold ic at this⊢;grind
abbrev lX(x:ck)(l:List ck)(i:Nat):List ck×Bool:=(l.take i).foldl (ic x) ([],ae)
def xy{x:ck}{l:List ck}(h:i<l.length):lX x l (i+1)=ic x (lX x l i) (l.getD i (0,[])):=by grind[bm]
def qU(x:ck)(l:List ck)(i:Nat):(lX x l i).1.length<=l.length+1:=by grind[xx]
abbrev Xr(l:List ck)(x:ck)(i:Nat)(a:List ck×Bool):Fr:=[(0,eb.sl l),(3,.e (.one (.ptr 0 0))),(5,.e (.one (.vec 1 2 a.1.length (eb.fn a.1)))),(6,dB a.2),(7,dI i)]
abbrev V2(x:ck)(a:List ck):List ba:=[.cells 68 [.c (.int .i64 x.1),.c (.str x.2)],.vec 68 2 a.length (eb.fn a)]
def Md(l:List ck)(x:ck)(q:l.length<=4000000):Ev X 152 [eb.sl l,PG x] [] (eb.sl (lr l x)) []:=by
 refine Ev.bQ Tryz.func152 rfl λp=>?_;refine bE [(1000002,ab)] rfl ar ?_;refine AK.g8 5 68 2 rfl rfl ?_;refine dv rfl ar ?_;refine AK.bS 2 (λi=>i<=l.length) (λi:Nat=>Xr l x i (lX x l i)) (λi=>V2 x (lX x l i).1) (λi=>l.length-i) 0 rfl ?_ rfl ?_ rfl (by omega) ?_
 .simp[lX]
 .simp[lX]
 intro i hi;by_cases h:i<l.length
 .have n:=xy (x:=x) h;have e:=qU x l i;have g:l.getD (i:Int).toNat eb.bG=l.getD i (0,[]):=by grind
  generalize lX x l i=a at n e;obtain⟨a,b⟩:=a;simp only at e;have k:=eb.cg a (l.getD i (0,[]));have m:=eb.mo a x (l.getD i (0,[]));cases b with
  |true =>
   have c:lX x l (i+1)=(a++[l.getD i (0,[])],ab):=n;have j:a.length+1=(a++[l.getD i (0,[])]).length:=by simp
   refine bE [(12,ab)] rfl ?_ (AK.aQ (i+1) rfl ?_ ?_ ?_ ?_)
   .simp only[au,g,bq,show i68.bytes=24 from rfl,bc,aF,aE];and_intros<;>omega
   .rw[c];simp only[au.cat,au,g,aF,aE];and_intros<;>first|exact j|exact k|exactλ_ _=>rfl|rfl|omega
   .rw[c];simp only[au.cat,au,g,aF,aE];and_intros<;>first|exact j|exact k|exactλ_ _=>rfl|rfl|omega
   .grind
   .omega
  |false =>
   by_cases f:x.1<(l.getD i (0,[])).1
   .have c:lX x l (i+1)=(a++[x,l.getD i (0,[])],ab):=by rw[n];simp only[ic,bt f];rfl
    have j:a.length+1+1=(a++[x,l.getD i (0,[])]).length:=by simp
    refine bE [(12,ab),(25,ab)] rfl ?_ (AK.aQ (i+1) rfl ?_ ?_ ?_ ?_)
    .simp only[au,g,bq,show i68.bytes=24 from rfl,f,lx,bc,aF,aE];and_intros<;>omega
    .rw[c];simp only[au.cat,au,g,aF,aE];and_intros<;>first|exact j|exact m|exactλ_ _=>rfl|rfl|omega
    .rw[c];simp only[au.cat,au,g,aF,aE];and_intros<;>first|exact j|exact m|exactλ_ _=>rfl|rfl|omega
    .grind
    .omega
   .have c:lX x l (i+1)=(a++[l.getD i (0,[])],ae):=by rw[n];simp only[ic,bh f];rfl
    have j:a.length+1=(a++[l.getD i (0,[])]).length:=by simp
    refine bE [(12,ab),(25,ae)] rfl ?_ (AK.aQ (i+1) rfl ?_ ?_ ?_ ?_)
    .simp only[au,g,bq,show i68.bytes=24 from rfl,bc,f,kr,nJ,bY,aF,aE];and_intros<;>omega
    .rw[c];simp only[au.cat,au,g,aF,aE];and_intros<;>first|exact j|exact k|exactλ_ _=>rfl|rfl|omega
    .rw[c];simp only[au.cat,au,g,aF,aE];and_intros<;>first|exact j|exact k|exactλ_ _=>rfl|rfl|omega
    .grind
    .omega
 .obtain rfl:i=l.length:=by omega
  have d:=r5 x l [];have e:=qU x l l.length;refine bE [(12,ae)] rfl (by simp) (AK.leaveD rfl rfl ?_);have o:lX x l l.length=l.foldl (ic x) ([],ae):=by grind
  rw[o]at e⊢;generalize l.foldl (ic x) ([],ae)=a at *;obtain⟨a,b⟩:=a;simp only[tw]at d e;cases b with
  |true =>
   simp only[bZ]at d;subst d;exact dv rfl ar (AK.bg rfl)
  |false =>
   simp only[gb,bJ]at d;have k:=eb.cg a x;refine dv rfl ?_ (AK.bg rfl ?_)
   .simp only[au,show i68.bytes=24 from rfl,aF,aE];grind
   .rw[<-d];simp only[au.cat,au,aF,aE];and_intros<;>first|exact k|simp
abbrev NK:di:=mX (aL eb) QP (λl x=>eb.sl (lr l x)) λl _=>[l.length<=4000000]
def SP:dw X 152 NK:=.px λl x h=>Md l x h
abbrev V3(x:dj):D:=.e (.agg [.c (.int .i64 x.1),.c (.int .i64 x.2)])
def eu(x:dj)(acc:List dj×Bool)(y:dj):List dj×Bool :=
 if acc.2=ab then(if y.1=x.1 then acc else(acc.1++[y],ab))else if x.1<=y.1 then(if y.1=x.1 then(acc.1++[x],ab)else(acc.1++[x,y],ab))else(acc.1++[y],ae)
def pd(x:dj):∀(l:List dj)(a:List dj),(l.foldl (eu x) (a,ab))=(a++l.filter λz=>!(z.1==x.1),ab)
 |[],a=>by simp
 |y::r,a=>by
  rw[iT];by_cases h:y.1=x.1
  .rw[show eu x (a,ab) y=(a,ab) by simp[eu,h],pd x r];simp[h]
  .rw[show eu x (a,ab) y=(a++[y],ab) by simp[eu,h],pd x r];simp[h]
def xz(x:dj):∀(l:List dj)(a:List dj),(if(l.foldl (eu x) (a,ae)).2=ab then(l.foldl (eu x) (a,ae)).1 else(l.foldl (eu x) (a,ae)).1++[x])=a++p9 l x
 |[],a=>by simp[p9]
 |y::r,a=>by
  rw[iT];by_cases h:x.1<=y.1
  .have c:¬y.1<x.1:=by omega
   by_cases b:y.1=x.1
   .rw[show eu x (a,ae) y=(a++[x],ab) by simp[eu,b],pd];simp[p9,b]
   .rw[show eu x (a,ae) y=(a++[x,y],ab) by simp[eu,h,b],pd];simp[p9,c,b]
  .have c:y.1<x.1:=by omega
   rw[show eu x (a,ae) y=(a++[y],ae) by simp[eu,h],xz x r];simp[p9,c]
theorem xA(x:dj):∀(l:List dj)(a:List dj×Bool),(l.foldl (eu x) a).1.length<=a.1.length+l.length+1-(if a.2=ab then 1 else 0)
 |[],a=>by grind
 |y::r,a=>by
  rw[iT];have d:=xA x r (eu x a y);obtain⟨a,b⟩:=a;simp only[gd];cases b with
  |true =>
   by_cases c:y.1=x.1
   .rw[show eu x (a,ab) y=(a,ab) by simp[eu,c]]at d⊢;grind
   .rw[show eu x (a,ab) y=(a++[y],ab) by simp[eu,c]]at d⊢;grind
  |false =>
   by_cases h:x.1<=y.1
   .by_cases c:y.1=x.1
    .rw[show eu x (a,ae) y=(a++[x],ab) by simp[eu,c]]at d⊢;grind
    .rw[show eu x (a,ae) y=(a++[x,y],ab) by simp[eu,h,c]]at d⊢;grind
   .rw[show eu x (a,ae) y=(a++[y],ae) by simp[eu,h]]at d⊢;grind
abbrev qV(x:dj)(l:List dj)(i:Nat):List dj×Bool:=(l.take i).foldl (eu x) ([],ae)
def FH{x:dj}{l:List dj}(h:i<l.length):qV x l (i+1)=eu x (qV x l i) (l.getD i (0,0)):=by grind[bm]
def AT(x:dj)(l:List dj)(i:Nat):(qV x l i).1.length<=l.length+1:=by grind[xA]
abbrev p4F(l:List dj)(x:dj)(i:Nat)(a:List dj×Bool):Fr:=[(0,nE.sl l),(3,.e (.one (.ptr 0 0))),(5,.e (.one (.vec 1 2 a.1.length (nE.fn a.1)))),(6,dB a.2),(7,dI i)]
abbrev p4B(x:dj)(a:List dj):List ba:=[.cells 189 [.c (.int .i64 x.1),.c (.int .i64 x.2)],.vec 189 2 a.length (nE.fn a)]
def Me(l:List dj)(x:dj)(q:l.length<=4000000):Ev X 151 [nE.sl l,V3 x] [] (nE.sl (p9 l x)) []:=by
 refine Ev.bQ Tryz.func151 rfl λp=>?_;refine bE [(1000002,ab)] rfl ar ?_;refine AK.g8 5 189 2 rfl rfl ?_;refine dv rfl ar ?_;refine AK.bS 2 (λi=>i<=l.length) (λi:Nat=>p4F l x i (qV x l i)) (λi=>p4B x (qV x l i).1) (λi=>l.length-i) 0 rfl ?_ rfl ?_ rfl (by omega) ?_
 .simp[qV]
 .simp[qV]
 intro i hi;by_cases h:i<l.length
 .have n:=FH (x:=x) h;have k:=AT x l i;have f:l.getD (i:Int).toNat nE.bG=l.getD i (0,0):=by grind
  generalize qV x l i=a at n k;obtain⟨a,b⟩:=a;simp only at k;have j:=nE.cg a (l.getD i (0,0));have m:=nE.cg a x;have d:=nE.mo a x (l.getD i (0,0));cases b with
  |true =>
   by_cases heq:(l.getD i (0,0)).1=x.1
   .have c:qV x l (i+1)=(a,ab):=by rw[n];simp only[eu,bZ,bt heq]
    refine bE [(12,ab),(38,ae)] rfl ?_ (AK.aQ (i+1) rfl ?_ ?_ ?_ ?_)
    .simp only[au,f,bq,show i189.bytes=16 from rfl,bc,bY,iC,qj,gg,eF,oF,dn,heq,eN,nJ,jw,kP,lQ,lx,kr,aF,aE];and_intros<;>omega
    .rw[c];simp only[au.cat,au,f,aF,aE];and_intros<;>first|exact j|exact m|exact d|exactλ_ _=>rfl|rfl|omega|simp
    .rw[c];simp only[au.cat,au,f,aF,aE];and_intros<;>first|exact j|exact m|exact d|exactλ_ _=>rfl|rfl|omega|simp
    .grind
    .omega
   .have c:qV x l (i+1)=(a++[l.getD i (0,0)],ab):=by rw[n];simp only[eu,bZ,bh heq]
    refine bE [(12,ab),(38,ab)] rfl ?_ (AK.aQ (i+1) rfl ?_ ?_ ?_ ?_)
    .simp only[au,f,bq,show i189.bytes=16 from rfl,bc,bY,iC,qj,gg,eF,oF,dn,heq,eN,nJ,jw,kP,lQ,lx,kr,aF,aE];and_intros<;>omega
    .rw[c];simp only[au.cat,au,f,aF,aE];and_intros<;>first|exact j|exact m|exact d|exactλ_ _=>rfl|rfl|omega|simp
    .rw[c];simp only[au.cat,au,f,aF,aE];and_intros<;>first|exact j|exact m|exact d|grind|rfl|omega|simp
    .grind
    .omega
  |false =>
   by_cases g:x.1<=(l.getD i (0,0)).1
   .by_cases heq:(l.getD i (0,0)).1=x.1
    .have c:qV x l (i+1)=(a++[x],ab):=by rw[n];simp only[eu,bt g,bt heq];rfl
     refine bE [(12,ab),(25,ab),(38,ae)] rfl ?_ (AK.aQ (i+1) rfl ?_ ?_ ?_ ?_)
     .simp only[au,f,bq,show i189.bytes=16 from rfl,bc,bY,iC,qj,gg,eF,oF,dn,g,heq,eN,nJ,jw,kP,lQ,lx,kr,aF,aE];and_intros<;>omega
     .rw[c];simp only[au.cat,au,f,aF,aE];and_intros<;>first|exact j|exact m|exact d|exactλ_ _=>rfl|rfl|omega|simp
     .rw[c];simp only[au.cat,au,f,aF,aE];and_intros<;>first|exact j|exact m|exact d|grind|rfl|omega|simp
     .grind
     .omega
    .have c:qV x l (i+1)=(a++[x,l.getD i (0,0)],ab):=by rw[n];simp only[eu,bt g,bh heq];rfl
     refine bE [(12,ab),(25,ab),(38,ab)] rfl ?_ (AK.aQ (i+1) rfl ?_ ?_ ?_ ?_)
     .simp only[au,f,bq,show i189.bytes=16 from rfl,bc,bY,iC,qj,gg,eF,oF,dn,g,heq,eN,nJ,jw,kP,lQ,lx,kr,aF,aE];and_intros<;>omega
     .rw[c];simp only[au.cat,au,f,aF,aE];and_intros<;>first|exact j|exact m|exact d|exactλ_ _=>rfl|rfl|omega|simp
     .rw[c];simp only[au.cat,au,f,aF,aE];and_intros<;>first|exact j|exact m|exact d|grind|rfl|omega|simp
     .grind
     .omega
   .have heq:¬(l.getD i (0,0)).1=x.1:=by omega
    have c:qV x l (i+1)=(a++[l.getD i (0,0)],ae):=by rw[n];simp only[eu,bh g];rfl
    refine bE [(12,ab),(25,ae),(38,ab)] rfl ?_ (AK.aQ (i+1) rfl ?_ ?_ ?_ ?_)
    .simp only[au,f,bq,show i189.bytes=16 from rfl,bc,bY,iC,qj,gg,eF,oF,dn,g,heq,eN,nJ,jw,kP,lQ,lx,kr,aF,aE];and_intros<;>omega
    .rw[c];simp only[au.cat,au,f,aF,aE];and_intros<;>first|exact j|exact m|exact d|exactλ_ _=>rfl|rfl|omega|simp
    .rw[c];simp only[au.cat,au,f,aF,aE];and_intros<;>first|exact j|exact m|exact d|grind|rfl|omega|simp
    .grind
    .omega
 .obtain rfl:i=l.length:=by omega
  have e:=xz x l [];have k:=AT x l l.length;refine bE [(12,ae)] rfl (by simp) (AK.leaveD rfl rfl ?_);have o:qV x l l.length=l.foldl (eu x) ([],ae):=by grind
  rw[o]at k⊢;generalize l.foldl (eu x) ([],ae)=a at *;obtain⟨a,b⟩:=a;simp only[tw]at e k;cases b with
  |true =>
   simp only[bZ]at e;subst e;exact dv rfl ar (AK.bg rfl)
  |false =>
   simp only[gb,bJ]at e;have j:=nE.cg a x;refine dv rfl ?_ (AK.bg rfl ?_)
   .simp only[au,show i189.bytes=16 from rfl,aF,aE];grind
   .rw[<-e];simp only[au.cat,au,aF,aE];and_intros<;>first|exact j|simp
abbrev NL:di:=mX (aL nE) T5 (λl x=>nE.sl (p9 l x)) λl _=>[l.length<=4000000]
def SQ:dw X 151 NL:=.px λl x h=>Me l x h
abbrev zd(p:bw):List dj:=p.2.map λx=>(x.1,p.1)
def r6(l:List bw)(i j:Nat):List dj:=eC (l.take i)++(zd (l.getD i (0,[]))).take j
def vu{l:List bw}(h:i<l.length):eC (l.take (i+1))=eC (l.take i)++zd (l.getD i (0,[])):=by rw[bm h (0,[])];simp[eC]
theorem IU(l:List bw)(i:Nat):(eC (l.take i)).length<=(eC l).length:=by
 have h:eC l=eC (l.take i)++eC (l.drop i):=by unfold eC;grind[List.take_append_drop]
 grind
def AU{l:List bw}(h:i<l.length):∃r,eC l=r6 l i j++r:=by
 have a:eC l=eC (l.take (i+1))++eC (l.drop (i+1)):=by unfold eC;grind[List.take_append_drop]
 refine⟨(zd (l.getD i (0,[]))).drop j++eC (l.drop (i+1)),?_⟩;rw[a,vu h,r6,ju,ju];grind[List.take_append_drop]
theorem IV(l:List dj)(x:dj):(p9 l x).length<=l.length+1:=by
 induction l with
 |nil=>simp[p9]
 |cons y r a =>
  simp only[p9];grind
theorem xt(l:List dj):∀a:List dj,(l.foldl p9 a).length<=a.length+l.length:=by
 induction l with
 |nil=>grind
 |cons y r b=>grind[IV]
def CR(l:List bw)(u:l.length<=4000000)(w:(eC l).length<=100000):Ev X 107 [cP.sl l] [] (nE.sl (indexOf l)) []:=by
 refine Ev.bQ Tryz.func107 rfl λy=>?_;have a:bA X [(150,IH),(151,NL)]:=.cons Px (.cons SQ .nil);refine cz a rfl ar ?_;refine AK.bS 0 (λi=>i<=l.length/\(eC (l.take i)).all km=ab) (λi:Nat=>[(0,cP.sl l),(3,nE.sl ((eC (l.take i)).foldl p9 [])),(4,dI i)]) (λ_=>[]) (λi=>l.length-i) 0 rfl ?_ rfl ?_ rfl ⟨by omega,rfl⟩ ?_
 .simp[eC]
 .simp
 rintro i ⟨hi,b⟩;by_cases h:i<l.length
 .have e:l.getD (i:Int).toNat cP.bG=l.getD i (0,[]):=by grind
  have m:=vu h;refine bk a [(11,ab)] rfl (by simp only[au,bc];omega) ?_;refine AK.bS 0 (λj=>j<=(l.getD i (0,[])).2.length/\(r6 l i j).all km=ab) (λj:Nat=>[(0,cP.sl l),(3,nE.sl ((r6 l i j).foldl p9 [])),(4,dI i),(5,dI j)]) (λ_=>[]) (λj=>(l.getD i (0,[])).2.length-j) 0 rfl ?_ rfl ?_ rfl ⟨by omega,by simpa[r6]using b⟩ ?_
  .simp[r6]
  .simp
  rintro j ⟨x,o⟩;obtain⟨r,q⟩:=AU (l:=l) (j:=j) h;have f:(r6 l i j).length<=100000:=by grind
  have k:=xt (r6 l i j) [];simp only[iS]at k;have t:(l.getD i (0,[])).2.length<=100000:=by grind[IU]
  by_cases v:j<(l.getD i (0,[])).2.length
  .have c:(l.getD i (0,[])).2.getD (j:Int).toNat eb.bG=(l.getD i (0,[])).2.getD j (0,[]):=by grind
   have n:r6 l i (j+1)=r6 l i j++[(((l.getD i (0,[])).2.getD j (0,[])).1,(l.getD i (0,[])).1)]:=by unfold r6;rw[ju];congr 1;rw[bm (by grind) (0,0)];grind
   cases d:km (((l.getD i (0,[])).2.getD j (0,[])).1,(l.getD i (0,[])).1)with
   |false =>
    have p:indexOf l=[]:=by obtain⟨r,q⟩:=AU (l:=l) (j:=j+1) h;unfold indexOf;rw[bh];grind
    refine bk a [(21,ab),(40,ae)] rfl ?_ (AK.eK (b7.zero rfl ?_))
    .simp only[au,e,c,d,bc,aF,aE];and_intros<;>omega
    .rw[p];simp
   |true =>
    refine bk a [(21,ab),(40,ab)] rfl ?_ (AK.aQ (j+1) rfl ?_ ?_ ?_ ?_)
    .simp only[au,e,c,d,bq,nE.list_fn,bc,aF,aE];and_intros<;>first|exact nE.aR _|omega
    .rw[n];simp only[List.foldl_append,iT,List.foldl_nil,au.cat,au,e,c,nE.list_fn,aF,aE];and_intros<;>first|exactλ_ _=>rfl|rfl|omega
    .simp
    .grind
    .omega
  .have s:j=(l.getD i (0,[])).2.length:=by omega
   have g:r6 l i j=eC (l.take (i+1)):=by rw[m,r6];grind[List.length_map]
   refine bk a [(21,ae)] rfl ?_ (AK.leaveD rfl rfl ?_)
   .simp only[au,e,bY];and_intros<;>omega
   refine cz a rfl ?_ (AK.aQ (i+1) rfl ?_ ?_ ?_ ?_)
   .simp only[au,bq];omega
   .rw[g];simp
   .simp
   .grind
   .omega
 .obtain rfl:i=l.length:=by omega
  rw[cB]at b⊢;refine bk a [(11,ae)] rfl (by simp) (AK.leaveD rfl rfl ?_);refine cz a rfl ar (AK.bg rfl ?_);simp[indexOf,b]
abbrev IW:di:=ki (aL cP) (λl=>nE.sl (indexOf l)) λl=>[l.length<=4000000,(eC l).length<=100000]
def PH:dw X 107 IW:=.oe λl h=>CR l h.1 h.2
abbrev vv:di:=mX aI aS (λk p=>dI (gv k p)) λk p=>[cw k=ab,bC p=ab]
abbrev Ei:di:=ki aS (λp=>dS (fY p)) λp=>[bC p=ab]
def IX:dw X 153 Ei:=.oe λp h=>L6 p h
theorem IY(l:List ck)(x:ck):(lr l x).length=l.length+1:=by
 induction l with
 |nil=>simp[lr]
 |cons y r a=>simp only[lr];split<;>simp[a]
def wi(k:Int)(ps:List Bs):List ck:=ps.foldl (λl p=>lr l (gv k p,fY p)) []
theorem ze(k:Int)(ps:List Bs):(wi k ps).length=ps.length:=by
 have h:∀(ps:List Bs) (a:List ck),(ps.foldl (λl p=>lr l (gv k p,fY p)) a).length=a.length+ps.length:=by
  intro ps;induction ps with
  |nil=>grind
  |cons p r b=>grind[IY]
 have:=h ps [];rw[iS,bo]at this;exact this
def IZ{k:Int}{ps:List Bs}(h:i<ps.length):wi k (ps.take (i+1))=lr (wi k (ps.take i)) (gv k (ps.getD i []),fY (ps.getD i [])):=by unfold wi;grind[bm]
abbrev pkB(no:Int)(l:List ck):ba:=.cells 43 [.c (.int .i64 no),.c (.sl ae 2 l.length (eb.fn l))]
def FP(p:Bs):Ev X 200 [dS p] [] (dB (bC p)) []:=by
 refine Ev.bQ Tryz.func200 rfl λb=>?_;have a:bA X [(56,CP),(155,Mi)]:=.cons FC (.cons t155 .nil);by_cases h:1<=p.length/\p.length<=8
 .refine aM a [(6,ab)] rfl ?_ (AK.bg rfl ?_)
  .simp;omega
  .simp[bC,h.1,h.2]
 .refine aM a [(6,ae)] rfl ?_ (AK.bg rfl ?_)
  .simp;omega
  .have:bC p=ae:=by simp only[bC,<-Bool.decide_and,gf h,qq]
   simp[this]
abbrev Ek:di:=ki aS (λp=>dB (bC p)) λ_=>[]
def Mj:dw X 200 Ek:=.oe λp _=>FP p
def FQ(p:Bs):Ev X 156 [dS p] [] (dS (fY p)) []:=by
 refine Ev.bQ Tryz.func156 rfl λb=>?_;have a:bA X [(200,Ek),(153,Ei)]:=.cons Mj (.cons IX .nil);cases h:bC p with
 |true=>exact aM a [(5,ae)] rfl (by simp[h]) (AK.bg rfl)
 |false=>exact aM a [(5,ab)] rfl (by simp[h]) (AK.bg rfl (by simp[fY,h]))
abbrev El:di:=ki aS (λp=>dS (fY p)) λ_=>[]
def Mk:dw X 156 El:=.oe λp _=>FQ p
def FR(p:Bs):(fY p).length<=8:=by
 unfold fY;split
 .rename_i h;simp only[bC,bP,bc]at h;grind[vq]
 .simp
def A1(b:Bs):Ev X 115 [dS b] [] (y0 (eR b)) []:=by
 refine Ev.bQ Tryz.func115 rfl λr=>?_;have q:=r.str 0 rfl;have j:bA X [(156,El)]:=.cons Mk .nil;refine br rfl ar ?_;have fin:∀n,n<=b.length->strip (b.take n)=strip b->(n=0∨strip (b.take n)=b.take n)->b.take n=strip b:=λn a h g=>by
  rcases g with rfl|g
  .simpa[strip]using h
  grind
 have rest:∀n,n<=b.length->b.take n=strip b->eR b=if b.length<=8/\fY (strip b)=b/\n≠0 then aa (b.take n)else af:=λn a h=>by
  have t:=FR (strip b);have l:n=0↔strip b=[]:=by grind[List.take_eq_nil_iff]
  unfold eR;rw[h];by_cases f:fY (strip b)=b
  .by_cases o:bC (strip b)=ab
   .have:n≠0:=λp=>by rw[l.1 p]at o;cases o
    grind
   .have p:n=0:=l.2 (by rw[fY,bh o]at f;grind);grind
  grind
 refine AK.jW (S2:=Nat) 0 rfl rfl (λn=>n<=b.length/\b.take n=strip b) (λn=>[(0,dS b),(4,dI n)]) (λ_=>[]) 0 (λn=>n<=b.length/\strip (b.take n)=strip b) (λn:Nat=>[(0,dS b),(4,dI n)]) (λ_=>[]) (λn=>n) b.length rfl (by simp) rfl ar rfl ⟨by omega,by simp⟩ ?_ ?_
 .rintro out n ⟨a,c⟩;rcases n with _|n
  .refine aV [(9,ae),(15,ae)] rfl (by simp) (AK.leaveD rfl rfl ?_);exact out 0 ⟨a,fin 0 a c (.inl rfl)⟩ rfl (by simp) rfl ar
  have l:=vc (s:=b) (n:=n) (by omega);have d:((n:Int)+1-1).toNat=n:=by omega
  by_cases g:b.getD n 0=46
  .refine aV [(9,ab),(15,ab)] rfl ?_ (AK.aQ n rfl ?_ ar ⟨by omega,?_⟩ (by omega))
   .have f:cq b n=46:=by unfold cq;rw[g];rfl
    simp[-ai,cr,d,f,bq];omega
   .simp
   grind
  .refine aV [(9,ab),(15,ae)] rfl ?_ (AK.leaveD rfl rfl ?_)
   .have f:cq b n≠46:=by unfold cq;intro e;exact g (oB.1 (by grind))
    simp[-ai,cr,d,f,bq];omega
   .exact out (n+1) ⟨a,fin _ a c (.inr (by grind))⟩ rfl (by simp) rfl ar
 rintro n ⟨a,m⟩;have i:=rest n a m;have k:qH b af (aa (n:Int))=strip b:=m▸rfl;have hi:((b.length:Int)<=8)↔b.length<=8:=by omega
 by_cases c1:b.length<=8
 .by_cases c2:fY (strip b)=b
  .by_cases c3:n=0
   .refine aM j [(21,ae),(29,ae),(32,ab)] rfl ?_ (AK.bg rfl ?_)
    .subst c3;simp only[au,k,c2];grind
    .simp[i,c3]
   .refine aM j [(21,ae),(29,ae),(32,ae)] rfl ?_ (AK.bg rfl ?_)
    .simp[k,hi,c1,c2,c3,a]
    .simp[i,k,m,c1,c2,c3]
  .refine aM j [(21,ae),(29,ab),(32,ab)] rfl ?_ (AK.bg rfl ?_)
   .simp[k,hi,c1,c2,a]
   .simp[i,c2]
 .refine aM j [(21,ab),(29,ab),(32,ab)] rfl ?_ (AK.bg rfl ?_)
  .simp;omega
  .simp[i,c1]
abbrev r8:di:=ki aS (λb=>y0 (eR b)) λ_=>[]
def xC:dw X 115 r8:=.oe λb _=>A1 b
def FT(k:Int)(x:ck)(c:cw k=ab):Ev X 90 [dI k,VG x] [] (dB (right k x)) []:=by
 refine Ev.bQ Tryz.func90 rfl λd=>?_;have b:bA X [(115,r8),(116,vv)]:=.cons xC (.cons vp .nil);cases a:eR x.2 with
 |none=>exact aM b [(14,ae)] rfl (by simp[a]) (AK.bg rfl (by simp[right,a]))
 |some p=>exact aM b [(14,ab)] rfl (by simp[a,c,vf a]) (AK.bg rfl (by simp[right,a]))
abbrev zg:di:=mX aI QP (λk x=>dB (right k x)) λk _=>[cw k=ab]
def Em:dw X 90 zg:=.px λk x h=>FT k x h
def Ml(k:Int):Ev X 58 [dI k] [] (dB (cw k)) []:=by refine Ev.bQ Tryz.func58 rfl λb=>?_;have a:bA X [(56,CP)]:=.cons FC .nil;exact bR a rfl ar (AK.bg rfl (by simp[cw]))
abbrev A2:di:=ki aI (λk=>dB (cw k)) λ_=>[]
def En:dw X 58 A2:=.oe λk _=>Ml k
abbrev PZ(p:bw):ba:=.cells 43 [.c (.int .i64 p.1),.c (sP p)]
def A3(k:Int)(p:bw)(n:Int):Ev X 158 [dI k,D9 p,dI n] [] (y0 (dM k p n)) []:=by
 refine Ev.bQ Tryz.func158 rfl λo=>?_;have b:bA X [(58,A2),(90,zg),(115,r8)]:=.cons En (.cons Em (.cons xC .nil));cases d:cw k with
 |false =>
  refine aM b [(11,ab)] rfl (by simp[d]) (AK.bg rfl ?_);have:dM k p n=af:=by unfold dM chunk;grind
  simp[this]
 |true =>
 have m:=o.NP 1 rfl 1 rfl;refine aM b [(11,ae)] rfl (by simp[d]) ?_;refine AK.bS 1 (λi=>i<=p.2.length/\p.2.find? (λx=>x.1==n)=(p.2.drop i).find? (λx=>x.1==n)) (λi:Nat=>[(0,dI k),(4,.e (.one (.ptr 0 0))),(2,dI n),(8,dI i)]) (λ_=>[PZ p]) (λi=>p.2.length-i) 0 rfl (by simp) rfl (by simp) rfl ⟨by omega,rfl⟩ ?_;rintro i ⟨hi,c⟩;by_cases h:i<p.2.length
 .have j:p.2.getD i eb.bG=gk p i:=rfl;have l:p.2.drop i=gk p i::p.2.drop (i+1):=by grind[List.drop_eq_getElem_cons]
  rw[l,List.find?_cons]at c;by_cases f:(gk p i).1=n
  .rw[show((gk p i).1==n)=ab by grind]at c;cases g:right k (gk p i)with
   |false =>
    have a:right k (n,(gk p i).2)=ae:=f▸g;refine aM b [(16,ab),(26,ab),(34,ab)] rfl ?_ (AK.eK (b7.zero rfl ?_))
    .simp[-ai,j,f,a,d,h]
    .have e:dM k p n=af:=by have:=pY (k:=k) (x:=gk p i) d;rw[g]at this;simp only[dM,c];simpa using this
     simp[e]
   |true =>
    have a:right k (n,(gk p i).2)=ab:=f▸g;refine aM b [(16,ab),(26,ab),(34,ae)] rfl ?_ (AK.eK (b7.zero rfl ?_))
    .simp[-ai,j,f,a,d,h]
    .have e:dM k p n=eR (gk p i).2:=by simp only[dM,c,chunk];unfold right at g;grind
     simp[-ai,e,j]
  .rw[show((gk p i).1==n)=ae by grind]at c;refine aM b [(16,ab),(26,ae)] rfl ?_ (AK.aQ (i+1) rfl (by simp) (by simp) ⟨h,c⟩ (by omega));simp[-ai,j,f,bq,h];omega
 .obtain rfl:i=p.2.length:=by omega
  refine aM b [(16,ae)] rfl (by simp) (AK.leaveD rfl rfl ?_);refine bR b rfl ar (AK.bg rfl ?_);simp[dM,c]
abbrev Eo:di:=Ct aI (BF eb) aI (λk p n=>y0 (dM k p n)) λ_ _ _=>[]
def Mm:dw X 158 Eo:=.Ig λk p n _=>A3 k p n
theorem oo(k:Int)(p:bw):iG k p=(decide (1<=p.1/\p.1<=99)&&cw k&&decide (1<=p.2.length/\p.2.length<=4)&&(a9 p.2.length).all (ia k p)):=by grind[rX]
def FU{k:Int}{p:bw}(a:i≠0):ia k p i=(right k (gk p i)&&decide ((gk p (i-1)).1<(gk p i).1)):=by unfold ia;grind
def CV(k:Int)(p:bw):Ev X 55 [dI k,D9 p] [] (dB (iG k p)) []:=by
 refine Ev.bQ Tryz.func55 rfl λn=>?_;have b:bA X [(56,CP),(58,A2),(90,zg)]:=.cons FC (.cons En (.cons Em .nil));have m:=n.NP 1 rfl 1 rfl;rw[oo];by_cases c1:1<=p.1/\p.1<=99
 rotate_left
 .exact aM b [(10,ab),(14,ab),(21,ab)] rfl (by simp;omega) (AK.bg rfl (by simp[gf c1]))
 cases c:cw k
 .exact aM b [(10,ae),(14,ab),(21,ab)] rfl (by simp[c,c1]) (AK.bg rfl)
 by_cases c3:1<=p.2.length/\p.2.length<=4
 rotate_left
 .exact aM b [(10,ae),(14,ae),(21,ab)] rfl (by simp[c,c1];omega) (AK.bg rfl (by simp[gf c3]))
 refine aM b [(10,ae),(14,ae),(21,ae)] rfl (by simp[c,c1];omega) ?_;rw[cV c1,cV c3,eZ,eZ,eZ];refine AK.bS 1 (λi=>i<=p.2.length/\∀j,j<i->ia k p j=ab) (λi:Nat=>[(0,dI k),(3,.e (.one (.ptr 0 0))),(5,dI i)]) (λ_=>[PZ p]) (λi=>p.2.length-i) 0 rfl (by simp) rfl (by simp) rfl ⟨by omega,by omega⟩ ?_;rintro i ⟨hi,a⟩;by_cases h:i<p.2.length
 .have g:p.2.getD i eb.bG=gk p i:=rfl;cases d:right k (gk p i)with
  |false =>
   refine aM b [(26,ab),(37,ab),(56,ab)] rfl ?_ (AK.eK (b7.zero rfl ?_))
   .simp[-ai,g,d,c,h]
   .rw[fA h (by simp only[ia,d,qq])];simp
  |true =>
   by_cases l:i=0
   .subst l;refine aM b [(26,ab),(37,ae),(40,ae),(56,ae)] rfl ?_ (AK.aQ 1 rfl (by simp) (by simp) ⟨h,gJ a (by simp only[ia,d,eZ];rfl)⟩ (by omega));simp[-ai,g,d,c,h,bq]
   have f:p.2.getD (i-1) eb.bG=gk p (i-1):=rfl;have q:=FU (k:=k) (p:=p) l;by_cases o:(gk p (i-1)).1<(gk p i).1
   .refine aM b [(26,ab),(37,ae),(40,ab),(54,ae),(56,ae)] rfl ?_ (AK.aQ (i+1) rfl (by simp) (by simp) ⟨h,gJ a (by grind)⟩ (by omega));simp[-ai,g,f,d,c,h,o,bq];omega
   .refine aM b [(26,ab),(37,ae),(40,ab),(54,ab),(56,ab)] rfl ?_ (AK.eK (b7.zero rfl ?_))
    .simp[-ai,g,f,d,c,h,bq];omega
    .rw[fA h (by grind)];simp
 .obtain rfl:i=p.2.length:=by omega
  refine aM b [(26,ae)] rfl (by simp) (AK.leaveD rfl rfl ?_);exact bR b rfl ar (AK.bg rfl (by simp[c7.2 a]))
abbrev A4:di:=mX aI (BF eb) (λk p=>dB (iG k p)) λ_ _=>[]
def Ja:dw X 55 A4:=.px λk p _=>CV k p
def gz{l:List α}{d:α}(h:i<l.length):l.getD i d∈l:=by grind
def Mn{l:List Int}{n:Int}:l.contains n=!(a9 l.length).all λi=>!(l.getD i 0==n):=by rw[oC,iC,<-nL,c7,x5];grind[List.mem_iff_getElem]
def Mo(l:List Int)(n:Int):Ev X 26 [cI.sl l,dI n] [] (dB (l.contains n)) []:=by
 refine Ev.bQ Tryz.func26 rfl λe=>?_;have c:=e.sl 0 rfl;refine br rfl ar ?_;rw[Mn];refine AK.iM (λi=>i<=l.length/\∀j,j<i->(!(l.getD j 0==n))=ab) (λi:Nat=>[(0,cI.sl l),(1,dI n),(5,dI i)]) (λ_=>[]) (λi=>l.length-i) 0 rfl (by simp) rfl ar ⟨by omega,by omega⟩ ?_;rintro i ⟨hi,a⟩;by_cases h:i<l.length
 .have b:l.getD i cI.bG=l.getD i 0:=rfl;by_cases d:l.getD i 0=n
  .refine aV [(9,ab),(17,ab)] rfl ?_ (AK.gu (b7.zero rfl ?_))
   .simp[-ai,b,d,h]
   .rw[fA h (by grind)];simp
  .refine aV [(9,ab),(17,ae)] rfl ?_ (AK.fa (i+1) rfl (by simp) rfl ar ⟨h,gJ a (by grind)⟩ (by omega));simp[-ai,b,d,h,bq];omega
 .obtain rfl:i=l.length:=by omega
  refine aV [(9,ae)] rfl (by simp) (AK.leave rfl rfl ?_);exact br rfl ar (AK.bg rfl (by rw[c7.2 a];simp))
abbrev Jb:di:=mX (aL cI) aI (λl n=>dB (l.contains n)) λ_ _=>[]
def NR:dw X 26 Jb:=.px λl n _=>Mo l n
def CW(k:Int)(ps:List bw)(n:Int):Ev X 117 [dI k,cP.sl ps,dI n] [] (y0 (du k ps n)) []:=by
 refine Ev.bQ Tryz.func117 rfl λg=>?_;have f:=g.sl 1 rfl;have d:bA X [(158,Eo)]:=.cons Mm .nil;refine bR d rfl ar ?_;refine AK.iM (λi=>i<=ps.length/\du k ps n=du k (ps.drop i) n) (λi:Nat=>[(0,dI k),(1,cP.sl ps),(2,dI n),(8,dI i)]) (λ_=>[]) (λi=>ps.length-i) 0 rfl (by simp) rfl ar ⟨by omega,rfl⟩ ?_;rintro i ⟨hi,a⟩;by_cases h:i<ps.length
 .have c:ps.drop i=ps.getD i (0,[])::ps.drop (i+1):=by grind[List.drop_eq_getElem_cons]
  have e:((ps.getD i cP.bG).1,eb.list (ps.getD i cP.bG).2.length (eb.fn (ps.getD i cP.bG).2))=ps.getD i (0,[]):=by rw[eb.list_fn];rfl
  rw[c,show du k (ps.getD i (0,[])::ps.drop (i+1)) n=_ from List.findSome?_cons]at a;cases b:dM k (ps.getD i (0,[])) n with
  |some q =>
   rw[b]at a;refine aM d [(14,ab),(27,ab)] rfl ?_ (AK.gu (b7.zero rfl ?_))
   .simp[-ai,e,b,h,eb.aR]
   .simp[-ai,e,b,a]
  |none =>
   rw[b]at a;refine aM d [(14,ab),(27,ae)] rfl ?_ (AK.fa (i+1) rfl (by simp) rfl ar ⟨h,a⟩ (by omega));simp[-ai,e,b,h,bq,eb.aR];omega
 .obtain rfl:i=ps.length:=by omega
  refine aV [(14,ae)] rfl (by simp) (AK.leave rfl rfl ?_);exact br rfl ar (AK.bg rfl (by rw[a,tv];simp[du]))
abbrev A5:di:=Ct aI (aL cP) aI (λk ps n=>y0 (du k ps n)) λ_ _ _=>[]
def Jc:dw X 117 A5:=.Ig λk ps n _=>CW k ps n
def Jd(a b:List Bs):Ev X 159 [cS.sl a,cS.sl b] [] (dB (a==b)) []:=by
 refine Ev.bQ Tryz.func159 rfl λk=>?_;have f:=k.sl 0 rfl;by_cases g:a.length=b.length
 rotate_left
 .have:(a==b)=ae:=eF.2 (by grind);exact aV [(10,ab)] rfl (by simp;omega) (AK.bg rfl (by simp[this]))
 refine aV [(10,ae)] rfl (by simp;omega) ?_;refine AK.iM (λi=>i<=a.length/\∀j,j<i->a.getD j []=b.getD j []) (λi:Nat=>[(0,cS.sl a),(1,cS.sl b),(5,dI i)]) (λ_=>[]) (λi=>a.length-i) 0 rfl (by simp) rfl ar ⟨by omega,by omega⟩ ?_;rintro i ⟨hi,d⟩;by_cases h:i<a.length
 .have e:∀l:List Bs,l.getD i cS.bG=l.getD i []:=λ_=>rfl;by_cases c:a.getD i []=b.getD i []
  .refine aV [(14,ab),(25,ae)] rfl ?_ (AK.fa (i+1) rfl (by simp) rfl ar ⟨h,λj m=>?_⟩ (by omega))
   .simp[-ai,e,c,bq];omega
   grind
  .refine aV [(14,ab),(25,ab)] rfl ?_ (AK.gu (b7.zero rfl ?_))
   .simp[-ai,e,c];omega
   .have:(a==b)=ae:=eF.2 (by grind);simp[this]
 .obtain rfl:i=a.length:=by omega
  have:a=b:=tu g λj c n=>by grind
  refine aV [(14,ae)] rfl (by simp) (AK.leave rfl rfl ?_);exact br rfl ar (AK.bg rfl (by simp[this]))
def P0:dw X 159 LL:=.px λa b _=>Jd a b
def sS(t:Bs):∀k f p,p∈eT t k f->p.length<=8
 |0,_,p,h=>by simp[eT]at h
 |k+1,f,p,h=>by
  simp only[eT]at h;split at h
  .rename_i a;rcases dD.1 h with rfl|h
   .grind [mh]
   .exact sS t k _ p h
  grind
def zh{l:List Bs}{p:Bs}(h:p∈l)(b:8<p.length):fI l=af:=by unfold fI;rw[bh];intro a;simp only[bP,gg]at a;have:=sS l.flatten l.flatten.length 0 p (by rw[show eT l.flatten l.flatten.length 0=l from a.2];exact h);omega
def th(l:List Bs)(i:Nat):(l.take i).flatten.length<=l.flatten.length:=by grind[List.take_append_drop]
def CX{l:List Bs}(h:40<(l.take i).flatten.length):fI l=af:=by have:=th l i;unfold fI;rw[bh];intro a;simp only[bP,dO,bc]at a;omega
def Je(l:List Bs):Ev X 118 [cS.sl l] [] (y0 (fI l)) []:=by
 refine Ev.bQ Tryz.func118 rfl λm=>?_;have j:=m.sl 0 rfl;have a:bA X [(111,Mp),(147,Eh),(159,LL)]:=.cons t111 (.cons IM (.cons P0 .nil));refine bR a rfl ar ?_;refine AK.iM (λi=>i<=l.length/\(l.take i).flatten.length<=48) (λi:Nat=>[(0,cS.sl l),(4,dS (l.take i).flatten),(5,dI i)]) (λ_=>[]) (λi=>l.length-i) 0 rfl (by simp) rfl ar ⟨by omega,by simp⟩ ?_;rintro i ⟨hi,f⟩;by_cases h:i<l.length
 .have e:l.getD i cS.bG=l.getD i []:=rfl;have k:(l.take (i+1)).flatten=(l.take i).flatten++l.getD i []:=by grind[bm]
  by_cases b:(l.getD i []).length<=8
  .by_cases c:(l.take i).flatten.length<=40
   .refine aM a [(9,ab),(18,ae),(22,ae)] rfl ?_ (AK.fa (i+1) rfl ?_ rfl ar ⟨h,by grind⟩ (by omega))
    .simp[-ai,-List.length_flatten,e,bq];omega
    .simp only[au.cat,au,k,aF,aE];grind[cn.same]
   .refine aM a [(9,ab),(18,ae),(22,ab)] rfl ?_ (AK.gu (b7.zero rfl ?_))
    .simp[-ai,-List.length_flatten,e];omega
    .simp[CX (l:=l) (i:=i) (by omega)]
  .refine aM a [(9,ab),(18,ab),(22,ab)] rfl ?_ (AK.gu (b7.zero rfl ?_))
   .simp[-ai,e];omega
   .simp[au,au.cat,zh (gz (d:=[]) h) (by omega)]
 .obtain rfl:i=l.length:=by omega
  rw[cB]at f⊢;refine aM a [(9,ae)] rfl (by simp) (AK.leave rfl rfl ?_);have el:=cS.list_fn l;cases b:dO l.flatten with
  |false=>exact aM a [(32,ab),(38,ab)] rfl (by simp[b]) (AK.bg rfl (by simp[fI,b]))
  |true =>
   have g:bX l.flatten=ab:=by simp only[dO,bP]at b;exact b.2
   cases c:(pieces l.flatten==l)with
   |false =>
    refine aM a [(32,ae),(38,ab)] rfl ?_ (AK.bg rfl (by simp[fI,c]));simp[-List.length_flatten,b,g,el,cS.list_fn,cS.aR,by simpa using c];omega
   |true =>
    refine aM a [(32,ae),(38,ae)] rfl ?_ (AK.bg rfl (by simp[fI,b,c]));simp[-List.length_flatten,b,g,el,cS.list_fn,cS.aR,by simpa using c];omega
abbrev Jf:di:=ki (aL cS) (λl=>y0 (fI l)) λ_=>[]
def P1:dw X 118 Jf:=.oe λl _=>Je l
abbrev T8(s:cm):ba:=.cells 39 [.c (.int .i64 s.1),.c (.sl ae 2 s.2.length (cL.fn s.2))]
abbrev Jg(k:Int)(ps:List bw)(ns:List Int):List Bs:=ns.map λn=>(du k ps n).getD []
def Mq{k:Int}{ps:List bw}{ns:List Int}(h:j<ns.length):Jg k ps (ns.take (j+1))=Jg k ps (ns.take j)++[(du k ps (ns.getD j 0)).getD []]:=by grind[bm]
def A6{k:Int}{ps:List bw}{ns:List Int}(h:j<ns.length)(a:du k ps (ns.getD j 0)=af):eg k ps ns=af:=by unfold eg;rw[bh];grind
def zi{k:Int}{ps:List bw}{ns:List Int}(h:∀j,j<ns.length->(du k ps (ns.getD j 0)).isSome=ab):eg k ps ns=aa (Jg k ps ns):=by unfold eg;rw[bt];grind[List.mem_iff_getElem]
def zj(k:Int)(s:cm)(ps:List bw)(I:s.2.length<=4000000)(E:∀x∈s.2,x.2.length<=4000000):
  Ev X 91 [dI k,AJ s,cP.sl ps] [] (LM ((cE k s ps).getD []) (cE k s ps).isSome) []:=by
 refine Ev.bQ Tryz.func91 rfl λK=>?_;have a:bA X [(58,A2),(117,A5),(118,Jf),(104,Mr)]:=.cons En (.cons Jc (.cons P1 (.cons t104 .nil)));cases w:cw k with
 |false =>
  refine aM a [(19,ab)] rfl ?_ (AK.bg rfl ?_)
  .simp[w]
  .simp[cE,w]
 |true =>
 refine aM a [(19,ae),(1000004,ab)] rfl (by simp[w]) ?_;refine AK.g8 8 110 2 rfl rfl ?_;refine bR a rfl ar ?_;refine AK.bS 2 (λi=>i<=s.2.length/\∀j,j<i->(fileOf k ps (s.2.getD j ([],[]))).isSome=ab) (λi:Nat=>[(0,dI k),(2,cP.sl ps),(4,.e (.one (.ptr 0 0))),(8,.e (.one (.vec 1 2 (cX k ps (s.2.take i)).length (cF.fn (cX k ps (s.2.take i)))))),(9,dI i)]) (λi=>[T8 s,.vec 110 2 (cX k ps (s.2.take i)).length (cF.fn (cX k ps (s.2.take i)))]) (λi=>s.2.length-i) 0 rfl (by simp[cX]) rfl (by simp[cX]) rfl ⟨by omega,by omega⟩ ?_;rintro i ⟨hi,C⟩;by_cases h:i<s.2.length
 .have B:=E _ (gz (d:=([],[])) h);have b:=oh (k:=k) (ps:=ps) h;have z:(cX k ps (s.2.take i)).length=i:=by simp[cX];omega
  have f:s.2.getD (i:Int).toNat cL.bG=s.2.getD i ([],[]):=by grind
  have l:=oi (k:=k) (ps:=ps) h;generalize G:s.2.getD i ([],[])=x at B b f l;generalize cX k ps (s.2.take i)=fs at *;refine aM a [(25,ab),(1000008,ab)] rfl (by simp;omega) ?_;refine AK.g8 10 9 1 rfl rfl ?_;refine bR a rfl ar ?_;refine AK.bS 3 (λj=>j<=x.2.length/\∀q,q<j->(du k ps (x.2.getD q 0)).isSome=ab) (λj:Nat=>[(0,dI k),(2,cP.sl ps),(4,.e (.one (.ptr 0 0))),(8,.e (.one (.vec 1 2 fs.length (cF.fn fs)))),(9,dI i),(10,.e (.one (.vec 2 1 (Jg k ps (x.2.take j)).length (cS.fn (Jg k ps (x.2.take j)))))),(11,dI j)]) (λj=>[T8 s,.vec 110 2 fs.length (cF.fn fs),.vec 9 1 (Jg k ps (x.2.take j)).length (cS.fn (Jg k ps (x.2.take j)))]) (λj=>x.2.length-j) 0 rfl (by simp) rfl (by simp) rfl ⟨by omega,by omega⟩ ?_;rintro j ⟨J,y⟩;by_cases A:j<x.2.length
  .have c:x.2.getD (j:Int).toNat cI.bG=x.2.getD j 0:=by grind
   cases m:du k ps (x.2.getD j 0)with
   |none =>
    have e:fileOf k ps x=af:=by simp[fileOf,A6 A m]
    refine aM a [(37,ab),(56,ab)] rfl ?_ (AK.eK (AK.qO (b7.zero rfl ?_)))
    .simp only[au,f,c,m,cP.list_fn,cP.aR];grind
    .rw[l e];simp
   |some q =>
    have g:=Mq (k:=k) (ps:=ps) A;rw[m]at g;have p:(Jg k ps (x.2.take j)).length=j:=by grind
    have o:=cS.cg (Jg k ps (x.2.take j)) q;refine aM a [(37,ab),(56,ae)] rfl ?_ (AK.aQ (j+1) rfl ?_ ?_ ⟨A,λr H=>?_⟩ (by omega))
    .simp only[au,f,c,m,cP.list_fn,cP.aR,p,bq,show i9.bytes=16 from rfl];grind
    .rw[g];simp only[au.cat,au,f,c,m,cP.list_fn,b9,eE,aF,aE];and_intros<;>first|exact cn.same|exact o|rfl|omega
    .rw[g];simp only[au.cat,au,f,c,m,cP.list_fn,b9,eE,aF,aE];and_intros<;>first|exact cn.same|exact o|rfl|omega
    grind
  .obtain rfl:j=x.2.length:=by omega
   have u:=zi y;rw[cB];have p:(Jg k ps x.2).length=x.2.length:=by simp
   refine aM a [(37,ae)] rfl (by simp only[au,f];simp[h]) (AK.leaveD rfl rfl ?_);cases n:fI (Jg k ps x.2)with
   |none =>
    have e:fileOf k ps x=af:=by simp[fileOf,u,n]
    refine aM a [(68,ab)] rfl ?_ (AK.eK (b7.zero rfl ?_))
    .simp only[au,cS.list_fn,cS.aR,n];simp
    .rw[l e];simp
   |some t =>
    have e:fileOf k ps x=aa (x.1,t):=by simp[fileOf,u,n]
    rw[e]at b;have D:=cF.cg fs (x.1,t);refine aM a [(68,ae)] rfl ?_ (AK.aQ (i+1) rfl ?_ ?_ ⟨h,λr H=>?_⟩ (by omega))
    .simp only[au,f,cS.list_fn,cS.aR,n,z,bq,show i110.bytes=32 from rfl];grind
    .rw[b];simp only[au.cat,au,f,cS.list_fn,n,fK,b9,eE,aF,aE];and_intros<;>first|exact cn.same|exact D|rfl|omega
    .rw[b];simp only[au.cat,au,f,cS.list_fn,n,fK,b9,eE,aF,aE];and_intros<;>first|exact cn.same|exact D|rfl|omega
    grind
 .obtain rfl:i=s.2.length:=by omega
  rw[cB];have F:s.2.all (λx=>(fileOf k ps x).isSome)=ab:=List.all_eq_true.2 λx B=>by grind[List.mem_iff_getElem]
  refine aM a [(25,ae)] rfl (by simp) (AK.leaveD rfl rfl ?_);cases v:db (cX k ps s.2)with
  |false =>
   refine aM a [(83,ab)] rfl ?_ (AK.bg rfl ?_)
   .simp[cF.list_fn,cF.aR,v]
   .simp[cE,v]
  |true =>
   refine aM a [(83,ae)] rfl ?_ (AK.bg rfl ?_)
   .simp[cF.list_fn,cF.aR,v]
   .simp[cE,v,w,F]
abbrev vI:di:=Ct aI (BF cL) (aL cP) (λk s ps=>LM ((cE k s ps).getD []) (cE k s ps).isSome) λ_ s _=>[s.2.length<=4000000,∀x∈s.2,x.2.length<=4000000]
def CY:dw X 91 vI:=.Ig λk s ps h=>zj k s ps h.1 h.2
abbrev ra:=Int×Int
def im(h:ra):Bool:=decide (1<=h.1/\h.1<=2)&&decide (1<=h.2/\h.2<=20)
def oq(l:List ra):Bool:=(a9 l.length).all (λi=>im (l.getD i (0,0)))&&decide (l.length<=9)
abbrev V4(h:ra):D:=.e (.agg [.c (.int .i64 h.1),.c (.int .i64 h.2)])
def FV(h:ra):Ev X 92 [V4 h] [] (dB (im h)) []:=by
 refine Ev.bQ Tryz.func92 rfl λb=>?_;have a:bA X [(56,CP)]:=.cons FC .nil;by_cases c:1<=h.1/\h.1<=2
 .exact aM a [(6,ab)] rfl (by simp[c]) (AK.bg rfl (by simp[im,c]))
 .exact aM a [(6,ae)] rfl (by simp;omega) (AK.bg rfl (by simp only[au,im,gf c];simp))
def FW(l:List ra):Ev X 59 [cH.sl l] [] (dB (oq l)) []:=by
 refine Ev.bQ Tryz.func59 rfl λf=>?_;have e:=f.sl 0 rfl;have b:bA X [(92,ki T5 (λh=>dB (im h)) λ_=>[])]:=.cons (.oe λh _=>FV h) .nil;refine bR b rfl ar ?_;unfold oq;refine AK.iM (λi=>i<=l.length/\∀j,j<i->im (l.getD j (0,0))=ab) (λi:Nat=>[(0,cH.sl l),(3,dI i)]) (λ_=>[]) (λi=>l.length-i) 0 rfl (by simp) rfl ar ⟨by omega,by omega⟩ ?_;rintro i ⟨hi,a⟩;by_cases h:i<l.length
 .have d:l.getD i cH.bG=l.getD i (0,0):=rfl;cases c:im (l.getD i (0,0))with
  |false =>
   refine aM b [(7,ab),(15,ab)] rfl ?_ (AK.gu (b7.zero rfl ?_))
   .simp[-ai,d,c,h]
   .rw[fA h c];simp
  |true =>
   refine aM b [(7,ab),(15,ae)] rfl ?_ (AK.fa (i+1) rfl (by simp) rfl ar ⟨h,gJ a c⟩ (by omega));simp[-ai,d,c,h,bq];omega
 .obtain rfl:i=l.length:=by omega
  refine aM b [(7,ae)] rfl (by simp) (AK.leave rfl rfl ?_);exact bR b rfl ar (AK.bg rfl (by rw[c7.2 a];simp;omega))
abbrev tS:di:=ki (aL cH) (λl=>dB (oq l)) λ_=>[]
def Ms:dw X 59 tS:=.oe λl _=>FW l
def bO(ps:List bw):List Int:=ps.flatMap λp=>p.2.map (·.1)
def xE(f:α->Int)(d:α)(l:List α)(i:Nat):Bool:=i==0||decide (f (l.getD (i-1) d)<f (l.getD i d))
def lj(k:Int)(ps:List bw)(i:Nat):Bool:=iG k (ps.getD i (0,[]))&&xE (·.1) (0,[]) ps i
def jf(k:Int)(s:bl)(i:Nat):Bool:=decide (1<=(s.2.1.getD i (0,[])).1/\(s.2.1.getD i (0,[])).1<=20)&&xE (·.1) (0,[]) s.2.1 i&&(cE k (s.2.1.getD i (0,[])) s.1).isSome
def fw(k:Int)(s:bl):Bool:=(a9 s.1.length).all (lj k s.1)&&decide (bO s.1).Nodup&&(a9 s.2.1.length).all (jf k s)&&cw k&&oq s.2.2&&decide (s.1.length<=20)
def vJ{ps:List bw}(h:i<ps.length):bO (ps.take (i+1))=bO (ps.take i)++(ps.getD i (0,[])).2.map (·.1):=by rw[bm h (0,[])];simp[bO]
def FX{ps:List bw}(h:¬(bO (ps.take i)).Nodup):¬(bO ps).Nodup:=λa=>h (by
 have:bO ps=bO (ps.take i)++bO (ps.drop i):=by unfold bO;grind[List.take_append_drop]
 grind)
theorem AV{s r:Bs}(h:bX s=ab)(a:∀b∈r,b∈s):bX r=ab:=by unfold bX at h⊢;grind
def vA{t:Bs}(b:bX t=ab):∀k f,∀p∈eT t k f,bC p=ab
 |0,_,p,a=>by simp[eT]at a
 |k+1,f,p,a=>by
  simp only[eT]at a;split at a
  .rename_i h;have c:=mh t f h;rcases dD.1 a with rfl|a
   .have d:((t.drop f).take (cutAt t f-f)).length=cutAt t f-f:=by grind
    simp only[bC,bP,bc];grind[AV]
   .exact vA b k _ p a
  grind
def rZ{t:Bs}(a:bX t=ab):∀p∈pieces t,bC p=ab:=vA a _ _
def sO(t:Bs):∀k f,(eT t k f).length<=k
 |0,_=>aZ _
 |k+1,f=>by
  simp only[eT];split
  .have:=sO t k (cutAt t f);grind
  .simp
def mZ(t:Bs):(pieces t).length<=t.length:=sO t _ _
def jF(t:List bu):List Bs:=t.flatMap λf=>pieces f.2
def FI{t:List bu}(h:i<t.length):jF (t.take (i+1))=jF (t.take i)++pieces (t.getD i ([],[])).2:=by rw[bm h ([],[])];simp[jF]
def Mf(t:List bu)(i:Nat):(jF (t.take i)).length<=(jF t).length:=by
 have h:jF t=jF (t.take i)++jF (t.drop i):=by unfold jF;grind[List.take_append_drop]
 grind
def xr(k:Int)(l:List dj)(ps:List Bs):∀a:List Bs,(ps.foldl (mn k l) a).length<=a.length+ps.length:=by
 induction ps with
 |nil=>grind
 |cons p r b =>
  intro a;have d:=b (mn k l a p);have c:(mn k l a p).length<=a.length+1:=by unfold mn;split<;>simp
  grind
abbrev I0:di:=mX (aL nE) aI (λl n=>dI (sL l n)) λl _=>[l.length<=4000000]
def PI:dw X 148 I0:=.px λl n h=>IF l n h
abbrev NM:di:=mX (aL cS) aS (λl p=>dB (l.contains p)) λl _=>[l.length<=4000000]
def SR:dw X 149 NM:=.px λl p h=>LZ l p h
abbrev Xs(a:List Bs):D:=.e (.one (.vec 0 1 a.length (cS.fn a)))
structure qT(t:List bu):Prop where
 len:t.length<=4000000
 tg:∀f∈t,bX f.2=ab/\f.2.length<=4000000
 all:(jF t).length<=100000
def IQ(k:Int)(t:List bu)(l:List dj)(s:cw k=ab)(r:qT t)(D:l.length<=4000000):Ev X 106 [dI k,cF.sl t,nE.sl l] [] (cS.sl (jd k t l)) []:=by
 refine Ev.bQ Tryz.func106 rfl λF=>?_;have c:bA X [(147,Eh),(116,vv),(148,I0),(149,NM)]:=.cons IM (.cons vp (.cons PI (.cons SR .nil)));refine bk c [(1000002,ab)] rfl ar ?_;refine AK.g8 7 9 1 rfl rfl ?_;refine cz c rfl ar ?_;refine AK.bS 1 (λi=>i<=t.length) (λi:Nat=>[(0,dI k),(1,cF.sl t),(2,nE.sl l),(7,Xs ((jF (t.take i)).foldl (mn k l) [])),(8,dI i)]) (λi=>[.vec 9 1 ((jF (t.take i)).foldl (mn k l) []).length (cS.fn ((jF (t.take i)).foldl (mn k l) []))]) (λi=>t.length-i) 0 rfl ?_ rfl ?_ rfl (by omega) ?_
 .simp[jF]
 .simp[jF]
 intro i hi;by_cases h:i<t.length
 .have y:t.getD (i:Int).toNat cF.bG=t.getD i ([],[]):=by grind
  have m:t.getD i ([],[])∈t:=by grind
  obtain⟨x,B⟩:=r.tg _ m;have g:=FI h;have u:=Mf t (i+1);have w:=r.all;have A:=r.len;have o:=rZ x;generalize t.getD i ([],[])=f at *;rw[g,b9]at u;refine bk c [(15,ab)] rfl ?_ ?_
  .simp only[au,y,x,bc,aF,aE];and_intros<;>omega
  rw[y];refine AK.bS 1 (λj=>j<=(pieces f.2).length) (λj:Nat=>[(0,dI k),(1,cF.sl t),(2,nE.sl l),(7,Xs ((jF (t.take i)++(pieces f.2).take j).foldl (mn k l) [])),(8,dI i),(9,cS.sl (pieces f.2)),(10,dI j)]) (λj=>[.vec 9 1 ((jF (t.take i)++(pieces f.2).take j).foldl (mn k l) []).length (cS.fn ((jF (t.take i)++(pieces f.2).take j).foldl (mn k l) []))]) (λj=>(pieces f.2).length-j) 0 rfl ?_ rfl ?_ rfl (by omega) ?_
  .simp
  .simp
  intro j E;have q:=xr k l (jF (t.take i)++(pieces f.2).take j) [];simp only[iS,b9,List.length_take]at q;by_cases C:j<(pieces f.2).length
  .have b:(pieces f.2).getD (j:Int).toNat cS.bG=(pieces f.2).getD j []:=by grind
   have d:bC ((pieces f.2).getD j [])=ab:=o _ (by grind);have a:(jF (t.take i)++(pieces f.2).take (j+1)).foldl (mn k l) []=mn k l ((jF (t.take i)++(pieces f.2).take j).foldl (mn k l) []) ((pieces f.2).getD j []):=by grind[bm]
   generalize(jF (t.take i)++(pieces f.2).take j).foldl (mn k l) []=out at *;generalize(pieces f.2).getD j []=p at *;have v:=cS.cg out p;by_cases e:sL l (gv k p)=0
   .cases z:out.contains p with
    |true =>
     rw[mn,bh (by grind)]at a;refine bk c [(27,ab),(38,ab),(45,ab)] rfl ?_ (AK.aQ (j+1) rfl ?_ ?_ ?_ ?_)
     .simp only[au,b,s,d,e,z,bq,cS.list_fn,nE.list_fn,jw,bc,aF,aE];and_intros<;>first|exact cS.aR _|exact nE.aR _|omega
     .rw[a];simp
     .rw[a];simp
     .grind
     .omega
    |false =>
     rw[mn,bt (by grind)]at a;refine bk c [(27,ab),(38,ab),(45,ae)] rfl ?_ (AK.aQ (j+1) rfl ?_ ?_ ?_ ?_)
     .simp only[au,b,s,d,e,z,bq,show i9.bytes=16 from rfl,cS.list_fn,nE.list_fn,jw,bc,aF,aE];and_intros<;>first|exact cS.aR _|exact nE.aR _|omega
     .rw[a];simp only[au.cat,au,b,b9,gd,iS,aF,aE];and_intros<;>first|exactλ_ _=>rfl|exact v|rfl|omega
     .rw[a];simp only[au.cat,au,b,b9,gd,iS,aF,aE];and_intros<;>first|exact v|rfl|omega
     .grind
     .omega
   .rw[mn,bh (by grind)]at a;refine bk c [(27,ab),(38,ae)] rfl ?_ (AK.aQ (j+1) rfl ?_ ?_ ?_ ?_)
    .simp only[au,b,s,d,bq,nE.list_fn,eF,dn,e,nJ,bc,aF,aE];and_intros<;>first|exact nE.aR _|omega
    .rw[a];simp
    .rw[a];simp
    .grind
    .omega
  .have n:j=(pieces f.2).length:=by omega
   refine bk c [(27,ae)] rfl (by simp only[au,bY];omega) (AK.leaveD rfl rfl ?_);refine cz c rfl ?_ (AK.aQ (i+1) rfl ?_ ?_ ?_ ?_)
   .simp only[au,bq];omega
   .rw[g,n,cB];simp
   .rw[g,n,cB];simp
   .grind
   .omega
 .obtain rfl:i=t.length:=by omega
  rw[cB];refine bk c [(15,ae)] rfl (by simp) (AK.leaveD rfl rfl ?_);refine cz c rfl ar (AK.bg rfl ?_);simp[jd,jF]
abbrev qW(k:Int)(ps:List Bs):List Int:=ps.map (gv k)
abbrev vB(k:Int)(t:List bu):List gj:=t.map (vC k)
abbrev NN(no:Int)(ls:List gj):List ba:=[.cells 39 [.c (.int .i64 0),.c (.sl ab 0 0 λ_=>[])],.cells 39 [.c (.int .i64 no),.vec 2 2 ls.length (cL.fn ls)],.vec 95 2 ls.length (cL.fn ls)]
def L9(no k:Int)(t:List bu)(x:cw k=ab)(q:qT t):Ev X 109 [dI no,dI k,cF.sl t] [] (AJ (kn no k t)) []:=by
 refine Ev.As tok Tryz.func109 rfl rfl rfl λB=>?_;have a:bA X [(147,Eh),(116,vv)]:=.cons IM (.cons vp .nil);refine bk a [(1000002,ab)] rfl ar ?_;refine AK.gx 1 1 95 2 (cL.fn []) rfl rfl ?_;refine cz a rfl ar ?_;refine AK.bS 3 (λi=>i<=t.length) (λi:Nat=>[(1,dI k),(2,cF.sl t),(6,.e (.one (.ptr 0 0))),(7,.e (.one (.ptr 1 0))),(8,dI i)]) (λi=>NN no (vB k (t.take i))) (λi=>t.length-i) 0 rfl ?_ rfl ?_ rfl (by omega) ?_
 .simp
 .simp
 intro i hi;by_cases h:i<t.length
 .have n:t.getD (i:Int).toNat cF.bG=t.getD i ([],[]):=by grind
  have g:t.getD i ([],[])∈t:=by grind
  obtain⟨r,z⟩:=q.tg _ g;have v:=q.len;have l:=rZ r;have y:=mZ (t.getD i ([],[])).2;have d:vB k (t.take (i+1))=vB k (t.take i)++[vC k (t.getD i ([],[]))]:=by grind[bm]
  have u:(vB k (t.take i)).length=i:=by grind
  generalize t.getD i ([],[])=f at *;generalize vB k (t.take i)=ls at *;refine bk a [(18,ab),(1000007,ab)] rfl ?_ ?_
  .simp only[au,n,r,bc,aF,aE];and_intros<;>omega
  rw[n];refine AK.g8 10 3 1 rfl rfl ?_;refine cz a rfl ar ?_;refine AK.bS 4 (λj=>j<=(pieces f.2).length) (λj:Nat=>[(1,dI k),(2,cF.sl t),(6,.e (.one (.ptr 0 0))),(7,.e (.one (.ptr 1 0))),(8,dI i),(9,cS.sl (pieces f.2)),(10,.e (.one (.vec 3 1 j (cI.fn (qW k ((pieces f.2).take j)))))),(11,dI j)]) (λj=>NN no ls++[.vec 3 1 j (cI.fn (qW k ((pieces f.2).take j)))]) (λj=>(pieces f.2).length-j) 0 rfl ?_ rfl ?_ rfl (by omega) ?_
  .simp
  .simp
  intro j s;by_cases A:j<(pieces f.2).length
  .have b:(pieces f.2).getD (j:Int).toNat cS.bG=(pieces f.2).getD j []:=by grind
   have m:bC ((pieces f.2).getD j [])=ab:=l _ (by grind);have c:=cI.cg (qW k ((pieces f.2).take j)) (gv k ((pieces f.2).getD j []));rw[show(qW k ((pieces f.2).take j)).length=j by grind,show qW k ((pieces f.2).take j)++[gv k ((pieces f.2).getD j [])]=qW k ((pieces f.2).take (j+1)) by grind[bm]]at c;refine bk a [(31,ab)] rfl ?_ (AK.aQ (j+1) rfl ?_ ?_ ?_ ?_)
   .simp only[au,b,x,m,bq,show i3.bytes=8 from rfl,bc,aF,aE];and_intros<;>omega
   .simp only[au.cat,au,b,aF,aE];and_intros<;>first|exactλ_ _=>rfl|exact c|rfl|omega
   .simp only[au.cat,au,b,aF,aE];and_intros<;>first|exactλ_ _=>rfl|exact c|rfl|omega
   .grind
   .omega
  .have o:j=(pieces f.2).length:=by omega
   rw[o,cB];have c:=cL.cg ls (vC k f);have p:ls.length+1=(ls++[vC k f]).length:=by simp
   have w:cL.enc (vC k f)=[C.str f.1,C.sl ae 1 (pieces f.2).length (cI.fn (qW k (pieces f.2)))]:=by show[C.str f.1,C.sl ae 1 (qW k (pieces f.2)).length (cI.fn (qW k (pieces f.2)))]=_;grind
   rw[w,<-d]at c;rw[<-d]at p;refine bk a [(31,ae)] rfl (by simp only[au,bY];omega) (AK.leaveD rfl rfl ?_);refine cz a rfl ?_ (AK.aQ (i+1) rfl ?_ ?_ ?_ ?_)
   .simp only[au,bq,show i95.bytes=40 from rfl,aF,aE];and_intros<;>omega
   .simp
   .simp only[au.cat,au,n,aF,aE];and_intros<;>first|exact cn.same|exact c|exact p|rfl
   .grind
   .omega
 .obtain rfl:i=t.length:=by omega
  rw[cB];refine bk a [(18,ae)] rfl (by simp) (AK.leaveD rfl rfl ?_);refine cz a rfl ar ?_;refine AK.mg () [] rfl rfl rfl rfl rfl rfl rfl rfl ?_ rfl rfl rfl rfl (λj s=>absurd s (by simp));simp[kn]
def mq(f g:Nat->List C):cD 0 f g=g:=by funext i;simp[cD]
abbrev qX(s:bl):ba:=.cells 27 [.c (.sl ae 2 s.1.length (cP.fn s.1)),.c (.sl ae 2 s.2.1.length (dZ.fn s.2.1)),.c (.sl ae 2 s.2.2.length (cH.fn s.2.2))]
def I1{a b:Int}(m:Int)(h:o.op=.call {callee:=.builtin .max,args:=#[x,y],argTypes:=jK})(n:η x=dI a)(l:η y=dI b)(q:max a b=m)(k:bq .i64 m):bx ag o η σ (dI m) σ:=by
 refine .quiet λs j p d=>?_;have i:=d x;have g:=d y;rw[n]at i;rw[l]at g;replace i:=fp i;replace g:=fp g;generalize f:j x=vx at i;generalize c:j y=vy at g;cases i;cases g;have e:(if a<b then b else a)=m:=by grind
 exact⟨.int .i64 m,by simp[aq,h,resolve,invoke,builtin,f,c,Builtin.max_,Builtin.max2,e],.int k,by simp[aq,h,resolve,invoke,builtin,f,c,Builtin.max_,Builtin.max2]⟩
def fO(s:bl):Int:=if s.1.length=0 then 1 else(s.1.getD (s.1.length-1) (0,[])).1+1
def pz(l:List (Int×Int)):Int:=l.foldl (λm h=>max m (h.2+1)) 1
def gw(s:bl):Int:=if s.2.1.length=0 then pz s.2.2 else max (pz s.2.2) ((s.2.1.getD (s.2.1.length-1) (0,[])).1+1)
structure FJ(st:bl):Prop where
 p:∀x∈st.1,-4000000<=x.1/\x.1<=4000000
 s:∀x∈st.2.1,-4000000<=x.1/\x.1<=4000000
 h:∀x∈st.2.2,-4000000<=x.2/\x.2<=4000000
def qY(l:List (Int×Int))(h:∀x∈l,-4000000<=x.2/\x.2<=4000000):1<=pz l/\pz l<=4000001:=by
 have:∀(l:List (Int×Int)) (m:Int),(∀x∈l,-4000000<=x.2/\x.2<=4000000)->1<=m->m<=4000001->1<=l.foldl (λm h=>max m (h.2+1)) m/\l.foldl (λm h=>max m (h.2+1)) m<=4000001:=by
  intro l;induction l with
  |nil=>grind
  |cons x r a =>
   grind
 exact this l 1 h (by omega) (by omega)
def CU{l:List (Int×Int)}(h:i<l.length):pz (l.take (i+1))=max (pz (l.take i)) ((l.getD i (0,0)).2+1):=by unfold pz;grind[bm]
def fQ{l:List α}(h:i<l.length)(d:α):l.getD i d∈l:=by grind
def FK(s:bl)(d:mm s)(b:FJ s):Ev X 105 [o8 s] [] (.fe [.one (.c (.int .i64 (fO s))),.one (.c (.int .i64 (gw s)))]) []:=by
 refine Ev.bQ Tryz.func105 rfl λo=>?_;have m:=d.p;have j:=d.sn;have k:=d.h;apply AK.join [(1,.e (.one (.ptr 0 0))),(4,dI (fO s)),(5,dI 1)] [qX s]
 .intro out;by_cases h:s.1.length=0
  .refine bE [(10,ae),(1000005,ab)] rfl (by simp only[au,bY];omega) ?_;exact out _ _ rfl (by simp[fO,h])
  .have f:=b.p _ (fQ (show s.1.length-1<s.1.length by omega) (0,[]));have a:s.1.getD ((s.1.length:Int)-1).toNat cP.bG=s.1.getD (s.1.length-1) (0,[]):=by rw[show((s.1.length:Int)-1).toNat=s.1.length-1 by omega];rfl
   refine bE [(10,ab),(1000005,ab)] rfl ?_ ?_
   .simp only[au,a,bq,bc,aF,aE];and_intros<;>omega
   exact out _ _ rfl (by simp only[au.cat,au,fO,bh h,a,aF,aE])
 refine dv rfl ar ?_;refine AK.bS 1 (λi=>i<=s.2.2.length) (λi:Nat=>[(1,.e (.one (.ptr 0 0))),(4,dI (fO s)),(5,dI (pz (s.2.2.take i))),(6,dI i)]) (λi=>[qX s]) (λi=>s.2.2.length-i) 0 rfl ?_ rfl ?_ rfl (by omega) ?_
 .simp[pz]
 .simp
 intro i hi;by_cases h:i<s.2.2.length
 .have f:=b.h _ (fQ h (0,0));have n:=qY (s.2.2.take i) λx l=>b.h x (jr l);have a:s.2.2.getD (i:Int).toNat cH.bG=s.2.2.getD i (0,0):=by grind
  have g:=CU h;refine bE [(25,ab)] rfl ?_ ?_
  .simp only[au,a,bq,bc,aF,aE];and_intros<;>omega
  rw[a];refine AK.law (I1 (pz (s.2.2.take (i+1))) rfl rfl rfl g.symm (by simp only[bq];omega)) rfl rfl ?_;refine dv rfl ?_ (AK.aQ (i+1) rfl ?_ ?_ ?_ ?_)
  .simp only[au,bq];omega
  .simp
  .simp
  .grind
  .omega
 obtain rfl:i=s.2.2.length:=by omega
 rw[cB];refine bE [(25,ae)] rfl (by simp) (AK.leaveD rfl rfl ?_);have n:=qY s.2.2 b.h;by_cases h:s.2.1.length=0
 .refine bE [(40,ae)] rfl (by simp only[au,bY];omega) (AK.bg rfl ?_);simp[gw,h]
 .have f:=b.s _ (fQ (show s.2.1.length-1<s.2.1.length by omega) (0,[]));have a:s.2.1.getD ((s.2.1.length:Int)-1).toNat dZ.bG=s.2.1.getD (s.2.1.length-1) (0,[]):=by rw[show((s.2.1.length:Int)-1).toNat=s.2.1.length-1 by omega];rfl
  refine bE [(40,ab)] rfl ?_ ?_
  .simp only[au,a,bq,bc,aF,aE];and_intros<;>omega
  rw[a];refine AK.law (I1 (gw s) rfl rfl rfl (by rw[gw,bh h]) (by rw[gw,bh h];simp only[bq];omega)) rfl rfl ?_;exact dv rfl ar (AK.bg rfl)
abbrev PK(s:bl)(i:Nat)(p:List bw)(j:Nat)(q:List cm):List ba:=[qX s,.cells 27 [iH,iH,iH],.vec 101 2 s.2.2.length (cH.fn s.2.2),.cells 27 [.vec 4 2 i (cP.fn p),.vec 5 2 j (dZ.fn q),.vec 2 2 s.2.2.length (cH.fn s.2.2)],.vec 43 2 i (cP.fn p),.vec 39 2 j (dZ.fn q)]
def vD(s:bl)(u:s.1.length<=4000000)(d:∀p∈s.1,p.2.length<=4000000)(o:s.2.1.length<=4000000)(f:il s)(r:s.2.2.length<=4000000):
  Ev X 25 [o8 s] [] (.e (.agg [.vec 0 2 s.1.length (cP.fn s.1),.vec 1 2 s.2.1.length (dZ.fn s.2.1),.vec 2 2 s.2.2.length (cH.fn s.2.2)])) [.vec 43 2 s.1.length (cP.fn s.1),.vec 39 2 s.2.1.length (dZ.fn s.2.1),.vec 101 2 s.2.2.length (cH.fn s.2.2)]:=by
 refine Ev.As tok Tryz.func25 rfl rfl rfl λt=>?_;refine bE [(1000002,ab)] rfl ?_ ?_
 .simp only[au,show i101.bytes=16 from rfl,aF,aE,true_or];grind
 refine AK.gx 3 0 43 2 (cP.fn []) rfl rfl ?_;refine AK.gx 3 1 39 2 (dZ.fn []) rfl rfl ?_;refine dv rfl ar ?_;refine AK.bS 6 (λi=>i<=s.1.length) (λi:Nat=>[(1,.e (.one (.ptr 0 0))),(2,.e (.one (.ptr 1 0))),(3,.e (.one (.ptr 3 0))),(4,dI i)]) (λi=>PK s i (s.1.take i) 0 []) (λi=>s.1.length-i) 0 rfl ?_ rfl ?_ rfl (by omega) ?_
 .simp
 .simp[cn,mq]
 intro i hi;by_cases h:i<s.1.length
 .have g:s.1.getD i (0,[])∈s.1:=by grind
  have a:s.1.getD (i:Int).toNat cP.bG=s.1.getD i (0,[]):=by grind
  have q:=d _ g;refine bE [(20,ab),(2000038,ab)] rfl ?_ (AK.aQ (i+1) rfl ?_ ?_ ?_ ?_)
  .simp only[au,a,bq,show i43.bytes=32 from rfl,show i68.bytes=24 from rfl,bc,true_or,aF,aE];and_intros<;>omega
  .simp
  .have e:=cP.lI s.1 h (0,[]);simp only[au.cat,au,a,mq,bo,aE,aF];and_intros<;>first|exactλ_ _=>rfl|exact e|rfl|omega
  .grind
  .omega
 obtain rfl:i=s.1.length:=by omega
 rw[cB];refine bE [(20,ae)] rfl (by simp) (AK.leaveD rfl rfl ?_);refine dv rfl ar ?_;refine AK.bS 6 (λi=>i<=s.2.1.length) (λi:Nat=>[(1,.e (.one (.ptr 0 0))),(2,.e (.one (.ptr 1 0))),(3,.e (.one (.ptr 3 0))),(5,dI i)]) (λi=>PK s s.1.length s.1 i (s.2.1.take i)) (λi=>s.2.1.length-i) 0 rfl ?_ rfl ?_ rfl (by omega) ?_
 .simp
 .simp[cn]
 intro i hi;by_cases h:i<s.2.1.length
 .have g:s.2.1.getD i (0,[])∈s.2.1:=by grind
  have a:s.2.1.getD (i:Int).toNat dZ.bG=s.2.1.getD i (0,[]):=by grind
  have q:=f _ g;have e:=dZ.lI s.2.1 h (0,[]);generalize s.2.1.getD i (0,[])=x at *;refine bE [(47,ab),(1000010,ab)] rfl ?_ ?_
  .simp only[au,a,bc,true_or,aF,aE];and_intros<;>omega
  rw[a];refine AK.gx 6 1 95 2 (cL.fn []) rfl rfl ?_;refine dv rfl ar ?_;refine AK.bS 8 (λj=>j<=x.2.length) (λj:Nat=>[(1,.e (.one (.ptr 0 0))),(2,.e (.one (.ptr 1 0))),(3,.e (.one (.ptr 3 0))),(5,dI i),(6,.e (.one (.ptr 6 0))),(7,dI j)]) (λj=>PK s s.1.length s.1 i (s.2.1.take i)++[.cells 39 [.c (.int .i64 x.1),.vec 7 2 j (cL.fn (x.2.take j))],.vec 95 2 j (cL.fn (x.2.take j))]) (λj=>x.2.length-j) 0 rfl ?_ rfl ?_ rfl (by omega) ?_
  .simp
  .simp[cn]
  intro j k;by_cases m:j<x.2.length
  .have b:x.2.getD (j:Int).toNat cL.bG=x.2.getD j ([],[]):=by grind
   have n:=q.2 (x.2.getD j ([],[])) (by grind);have l:=cL.lI x.2 m ([],[]);refine bE [(66,ab),(2000085,ab)] rfl ?_ (AK.aQ (j+1) rfl ?_ ?_ ?_ ?_)
   .simp only[au,a,b,bq,show i95.bytes=40 from rfl,show i3.bytes=8 from rfl,bc,true_or,aF,aE];and_intros<;>omega
   .simp
   .simp only[au.cat,au,a,b,mq,bo,aE,aF];and_intros<;>first|exactλ_ _=>rfl|exact l|rfl
   .grind
   .omega
  obtain rfl:j=x.2.length:=by omega
  rw[cB];refine bE [(66,ae)] rfl ?_ (AK.leaveD rfl rfl ?_)
  .simp only[au,a,bY];and_intros<;>omega
  refine dv rfl ?_ (AK.aQ (i+1) rfl ?_ ?_ ?_ ?_)
  .simp only[au,a,bq,show i39.bytes=32 from rfl,aF,aE];and_intros<;>omega
  .simp
  .simp only[au.cat,au,aE,aF];and_intros<;>first|exactλ_ _=>rfl|exact e|rfl|omega
  .grind
  .omega
 obtain rfl:i=s.2.1.length:=by omega
 rw[cB];refine bE [(47,ae)] rfl (by simp) (AK.leaveD rfl rfl ?_);refine dv rfl ar ?_;refine AK.mg () [4,5,2] rfl rfl rfl rfl rfl rfl rfl rfl ?_ rfl rfl rfl rfl (λj k=>absurd k (by simp))
 .simp
def IN(a b:Nat):min (a:Int) (b:Int)=((min a b:Nat):Int):=by grind
def gF(k:Int):Nat->Int->List Bs->List bw
 |0,_,_=>[]
 |f+1,no,ps=>if 0<ps.length then om no k (ps.take 4)::gF k f (no+1) (ps.drop 4)else[]
def xq(k:Int)(s:bl)(t:List bu):List bw:=gF k (jd k t (indexOf s.1)).length (fO s) (jd k t (indexOf s.1))
def sM(k:Int)(s:bl)(t:List bu):Bool:=decide (20<s.1.length+(xq k s t).length)||(decide (99<fO s+(xq k s t).length-1)||(decide (20<gw s)||decide (9<=s.2.2.length)))
def gI(k:Int)(s:bl)(by_:Int)(t:List bu):bl:=(s.1++xq k s t,s.2.1++[kn (gw s) k t],s.2.2++[(by_,gw s)])
theorem vr(k:Int):∀f no ps,(gF k f no ps).length<=f
 |0,_,_=>aZ _
 |f+1,no,ps=>by
  simp only[gF];split
  .have:=vr k f (no+1) (ps.drop 4);grind
  .simp
abbrev NI:di:=Ct aI aI (aL cF) (λno k t=>AJ (kn no k t)) λ_ k t=>[cw k=ab,qT t]
def SI:dw X 109 NI:=.Ig λno k t h=>L9 no k t h.1 h.2
abbrev IP:di:=Ct aI (aL cF) (aL nE) (λk t l=>cS.sl (jd k t l)) λk t l=>[cw k=ab,qT t,l.length<=4000000]
def PD:dw X 106 IP:=.Ig λk t l h=>IQ k t l h.1 h.2.1 h.2.2
def vt{k:Int}{t:List bu}{l:List dj}(c:qT t):(∀p∈jd k t l,bC p=ab)/\(jd k t l).length<=100000:=by
 constructor
 .have:∀(ps a:List Bs),(∀p∈ps,bC p=ab)->(∀p∈a,bC p=ab)->∀p∈ps.foldl (mn k l) a,bC p=ab:=by
   intro ps;induction ps with
   |nil=>grind
   |cons q r d =>
    intro a h g;refine d _ (λp b=>h p (pD _ b)) λp b=>?_;unfold mn at b;grind
  refine this _ [] (λp b=>?_) (by simp);obtain⟨f,e,b⟩:=List.mem_flatMap.1 b;exact rZ (c.tg f e).1 p b
 .have:=xr k l (jF t) [];have g:=c.all;unfold jd;simp only[iS]at this;exact gB this (by omega)
def AS{l:List bw}(h:(eC l).length<=100000):(indexOf l).length<=100000:=by unfold indexOf;grind[xt]
abbrev tSt(s:bl)(b:Bool):D:=.fe [.agg [.c (.sl ae 2 s.1.length (cP.fn s.1)),.c (.sl ae 2 s.2.1.length (dZ.fn s.2.1)),.c (.sl ae 2 s.2.2.length (cH.fn s.2.2))],.one (.c (.bool b))]
abbrev Kv(s:bl):ba:=.cells 27 [.c (.sl ae 2 s.1.length (cP.fn s.1)),.c (.sl ae 2 s.2.1.length (dZ.fn s.2.1)),.c (.sl ae 2 s.2.2.length (cH.fn s.2.2))]
def Jh(k:Int)(s:bl)(x:cm)(c:x.2.length<=4000000)(b:∀y∈x.2,y.2.length<=4000000):Ev X 57 [dI k,o8 s,AJ x] [] (dB (cE k x s.1).isSome) []:=by
 refine Ev.bQ Tryz.func57 rfl λd=>?_;have a:bA X [(91,vI)]:=.cons CY .nil;have e:(x.1,cL.list x.2.length (cL.fn x.2))=x:=by rw[cL.list_fn]
 refine bR a rfl ?_ (AK.bg rfl ?_)
 .simp only[au,cL.list_fn,cL.aR,cP.aR,c,aF,aE];exact b
 .simp[cL.list_fn,cP.list_fn]
abbrev Ji:di:=Ct aI Ks (BF cL) (λk s x=>dB (cE k x s.1).isSome) λ_ _ x=>[x.2.length<=4000000,∀y∈x.2,y.2.length<=4000000]
def P2:dw X 57 Ji:=.Ig λk s x h=>Jh k s x h.1 h.2
def m6{f:α->Int}{d:α}{l:List α}(h:i≠0):xE f d l i=decide (f (l.getD (i-1) d)<f (l.getD i d)):=by unfold xE;grind
def A7(k:Int)(s:bl)(L:il s)(P:s.1.length<=4000000)(Q:s.2.1.length<=4000000):Ev X 24 [dI k,o8 s] [] (dB (fw k s)) []:=by
 refine Ev.bQ Tryz.func24 rfl λS=>?_;have c:bA X [(55,A4),(26,Jb),(56,CP),(57,Ji),(58,A2),(59,tS)]:=.cons Ja (.cons NR (.cons FC (.cons P2 (.cons En (.cons Ms .nil)))));refine aM c [(1000002,ab)] rfl ar ?_;refine AK.g8 5 3 1 rfl rfl ?_;refine bR c rfl ar ?_;unfold fw;refine AK.bS 2 (λi=>i<=s.1.length/\(∀j,j<i->lj k s.1 j=ab)/\(bO (s.1.take i)).Nodup/\(bO (s.1.take i)).length<=4*i) (λi:Nat=>[(0,dI k),(3,.e (.one (.ptr 0 0))),(5,.e (.one (.vec 1 1 (bO (s.1.take i)).length (cI.fn (bO (s.1.take i)))))),(6,dI i)]) (λi=>[Kv s,.vec 3 1 (bO (s.1.take i)).length (cI.fn (bO (s.1.take i)))]) (λi=>s.1.length-i) 0 rfl (by simp[bO]) rfl (by simp[bO]) rfl ⟨by omega,by omega,by simp[bO],by simp[bO]⟩ ?_;rintro i ⟨hi,g,z,M⟩;by_cases h:i<s.1.length
 .have w:=vJ h;have H:=FX (ps:=s.1) (i:=i+1);have m:s.1.getD i cP.bG=s.1.getD i (0,[]):=rfl;have n:s.1.getD (i-1) cP.bG=s.1.getD (i-1) (0,[]):=rfl;have b:lj k s.1 i=(iG k (s.1.getD i (0,[]))&&xE (·.1) (0,[]) s.1 i):=rfl;have G:=m6 (f:=λp:bw=>p.1) (d:=(0,[])) (l:=s.1) (i:=i);generalize D:s.1.getD i (0,[])=p at *;generalize s.1.getD (i-1) (0,[])=p' at *;cases u:iG k p with
  |false =>
   rw[u,qq]at b;refine aM c [(14,ab),(25,ab),(44,ab)] rfl ?_ (AK.eK (b7.zero rfl ?_))
   .simp[-ai,m,u,eb.list_fn,eb.aR,h]
   .rw[fA h b];simp
  |true =>
   have O:p.2.length<=4:=by grind[oo]
   rw[u,eZ]at b;cases t:xE (·.1) (0,[]) s.1 i with
   |false =>
    have r:i≠0:=by rintro rfl;cases t
    have A:¬p'.1<p.1:=by grind
    refine aM c [(14,ab),(25,ae),(28,ab),(42,ab),(44,ab)] rfl ?_ (AK.eK (b7.zero rfl ?_))
    .simp[-ai,m,n,u,eb.list_fn,eb.aR,h,bq];omega
    .rw[fA h (b.trans t)];simp
   |true =>
   rw[t]at b;apply AK.join [(0,dI k),(3,.e (.one (.ptr 0 0))),(5,.e (.one (.vec 1 1 (bO (s.1.take i)).length (cI.fn (bO (s.1.take i)))))),(6,dI i),(7,dI 0)] [Kv s,.vec 3 1 (bO (s.1.take i)).length (cI.fn (bO (s.1.take i)))]
   .intro y;by_cases r:i=0
    .subst r;refine aM c [(14,ab),(25,ae),(28,ae),(44,ae)] rfl ?_ (y _ _ rfl ?_)
     .simp[-ai,m,u,eb.list_fn,eb.aR,h]
     .simp
    .have A:p'.1<p.1:=by grind
     refine aM c [(14,ab),(25,ae),(28,ab),(42,ae),(44,ae)] rfl ?_ (y _ _ rfl ?_)
     .simp[-ai,m,n,u,eb.list_fn,eb.aR,h,bq];omega
     .simp
   generalize bO (s.1.take i)=ns at *;refine AK.bS 2 (λj=>j<=p.2.length/\(ns++(p.2.take j).map (·.1)).Nodup) (λj:Nat=>[(0,dI k),(3,.e (.one (.ptr 0 0))),(5,.e (.one (.vec 1 1 (ns++(p.2.take j).map (·.1)).length (cI.fn (ns++(p.2.take j).map (·.1)))))),(6,dI i),(7,dI j)]) (λj=>[Kv s,.vec 3 1 (ns++(p.2.take j).map (·.1)).length (cI.fn (ns++(p.2.take j).map (·.1)))]) (λj=>p.2.length-j) 0 rfl (by simp) rfl (by simp) rfl ⟨by omega,by grind⟩ ?_;rintro j ⟨R,E⟩;by_cases o:j<p.2.length
   .have B:p.2.getD j eb.bG=gk p j:=rfl;have x:ns++(p.2.take (j+1)).map (·.1)=(ns++(p.2.take j).map (·.1))++[(gk p j).1]:=by grind[bm]
    have v:(ns++(p.2.take j).map (·.1)).length=ns.length+j:=by grind
    generalize ns++(p.2.take j).map (·.1)=a at *;cases I:a.contains (gk p j).1 with
    |true =>
     refine aM c [(53,ab),(67,ab)] rfl ?_ (AK.eK (AK.qO (b7.zero rfl ?_)))
     .simp[-ai,-List.contains_eq_mem,m,B,h,o,I,cI.list_fn,cI.aR]
     .have N:¬(bO s.1).Nodup:=H (by
       have e:ns++p.2.map (·.1)=(ns++(p.2.take (j+1)).map (·.1))++(p.2.drop (j+1)).map (·.1):=by grind[List.take_append_drop]
       grind)
      simp[N]
    |false =>
     have K:=cI.cg a (gk p j).1;have F:cI.list (ns.length+j) (cI.fn a)=a:=by rw[<-v];exact cI.list_fn a
     refine aM c [(53,ab),(67,ae)] rfl ?_ (AK.aQ (j+1) rfl ?_ ?_ ⟨o,?_⟩ (by omega))
     .simp[-ai,-List.contains_eq_mem,m,B,h,o,I,cI.list_fn,cI.aR,v,F,bq,show i3.bytes=8 from rfl];omega
     .rw[x];simp only[au.cat,au,bF,m,B,b9,eE,aF,aE];and_intros<;>first|exact cn.same|exact K|rfl|omega
     .rw[x];simp only[au.cat,au,bF,m,B,b9,eE,aF,aE];and_intros<;>first|exact cn.same|exact K|rfl|omega
     grind
   .obtain rfl:j=p.2.length:=by omega
    rw[cB]at E⊢;refine aM c [(53,ae)] rfl ?_ (AK.leaveD rfl rfl ?_)
    .simp[-ai,m,h]
    refine bR c rfl ?_ (AK.aQ (i+1) rfl ?_ ?_ ⟨h,gJ g b,by grind,by grind⟩ (by omega))
    .simp[bq];omega
    .rw[w];simp
    .rw[w];simp
 obtain rfl:i=s.1.length:=by omega
 rw[cB]at z⊢;refine aM c [(14,ae)] rfl (by simp) (AK.leaveD rfl rfl ?_);refine bR c rfl ar ?_;rw[c7.2 g,cV z,eZ,eZ];generalize bO s.1=ns;refine AK.bS 2 (λi=>i<=s.2.1.length/\(∀j,j<i->jf k s j=ab)) (λi:Nat=>[(0,dI k),(3,.e (.one (.ptr 0 0))),(8,dI i)]) (λ_=>[Kv s,.vec 3 1 ns.length (cI.fn ns)]) (λi=>s.2.1.length-i) 0 rfl (by simp) rfl (by simp) rfl ⟨by omega,by omega⟩ ?_;rintro i ⟨hi,g⟩;by_cases h:i<s.2.1.length
 .have m:s.2.1.getD i dZ.bG=s.2.1.getD i (0,[]):=rfl;have n:s.2.1.getD (i-1) dZ.bG=s.2.1.getD (i-1) (0,[]):=rfl;have q:=L _ (gz (d:=(0,[])) h);have b:jf k s i=(decide (1<=(s.2.1.getD i (0,[])).1/\(s.2.1.getD i (0,[])).1<=20)&&xE (·.1) (0,[]) s.2.1 i&&(cE k (s.2.1.getD i (0,[])) s.1).isSome):=rfl;have G:=m6 (f:=λp:cm=>p.1) (d:=(0,[])) (l:=s.2.1) (i:=i);generalize D:s.2.1.getD i (0,[])=p at *;generalize s.2.1.getD (i-1) (0,[])=p' at *;by_cases c1:1<=p.1/\p.1<=20
  rotate_left
  .refine aM c [(85,ab),(96,ab),(116,ab),(126,ab)] rfl ?_ (AK.eK (b7.zero rfl ?_))
   .simp[-ai,m,h];omega
   .rw[fA h (by grind)];simp
  cases t:xE (·.1) (0,[]) s.2.1 i with
  |false =>
   have r:i≠0:=by rintro rfl;cases t
   have A:¬p'.1<p.1:=by grind
   refine aM c [(85,ab),(96,ae),(99,ab),(113,ab),(116,ab),(126,ab)] rfl ?_ (AK.eK (b7.zero rfl ?_))
   .simp[-ai,m,n,h,c1,bq];omega
   .rw[fA h (by grind)];simp
  |true =>
   rw[cV c1,t,eZ,eZ]at b;cases o:(cE k p s.1).isSome with
   |false =>
    by_cases r:i=0
    .subst r;refine aM c [(85,ab),(96,ae),(99,ae),(116,ae),(126,ab)] rfl ?_ (AK.eK (b7.zero rfl ?_))
     .simp[-ai,m,h,c1,cL.list_fn,cL.aR,cP.list_fn,cP.aR,dZ.aR,cH.aR,o,q.1];grind
     .rw[fA h (b.trans o)];simp
    .have A:p'.1<p.1:=by grind
     refine aM c [(85,ab),(96,ae),(99,ab),(113,ae),(116,ae),(126,ab)] rfl ?_ (AK.eK (b7.zero rfl ?_))
     .simp[-ai,m,n,h,c1,bq,cL.list_fn,cL.aR,cP.list_fn,cP.aR,dZ.aR,cH.aR,o,q.1];and_intros<;>first|omega|grind
     .rw[fA h (b.trans o)];simp
   |true =>
    rw[o]at b;by_cases r:i=0
    .subst r;refine aM c [(85,ab),(96,ae),(99,ae),(116,ae),(126,ae)] rfl ?_ (AK.aQ 1 rfl (by simp) (by simp) ⟨h,gJ g b⟩ (by omega));simp[-ai,m,h,c1,bq,cL.list_fn,cL.aR,cP.list_fn,cP.aR,dZ.aR,cH.aR,o,q.1];grind
    .have A:p'.1<p.1:=by grind
     refine aM c [(85,ab),(96,ae),(99,ab),(113,ae),(116,ae),(126,ae)] rfl ?_ (AK.aQ (i+1) rfl (by simp) (by simp) ⟨h,gJ g b⟩ (by omega));simp[-ai,m,n,h,c1,bq,cL.list_fn,cL.aR,cP.list_fn,cP.aR,dZ.aR,cH.aR,o,q.1];and_intros<;>first|omega|grind
 obtain rfl:i=s.2.1.length:=by omega
 refine aM c [(85,ae)] rfl (by simp) (AK.leaveD rfl rfl ?_);rw[c7.2 g,eZ];cases C:cw k
 .exact aM c [(129,ae),(134,ae)] rfl (by simp[C]) (AK.bg rfl)
 cases J:oq s.2.2
 .exact aM c [(129,ab),(134,ae)] rfl (by simp[C,J,cH.list_fn,cH.aR]) (AK.bg rfl)
 exact aM c [(129,ab),(134,ab)] rfl (by simp[C,J,cH.list_fn,cH.aR]) (AK.bg rfl (by simp;omega))
abbrev xF:di:=mX aI Ks (λk s=>dB (fw k s)) λ_ s=>[il s,s.1.length<=4000000,s.2.1.length<=4000000]
def FY:dw X 24 xF:=.px λk s h=>A7 k s h.1 h.2.1 h.2.2
def fZ(n:Int)(a:List Int×Bool)(y:Int):List Int×Bool :=
 if a.2=ab then(if y=n then a else(a.1++[y],ab))else if n<=y then(if y=n then(a.1++[n],ab)else(a.1++[n,y],ab))else(a.1++[y],ae)
abbrev ot(n:Int)(l:List Int)(i:Nat):List Int×Bool:=(l.take i).foldl (fZ n) ([],ae)
def kF(l:List Int)(n:Int):List Int:=if(l.foldl (fZ n) ([],ae)).2=ab then(l.foldl (fZ n) ([],ae)).1 else(l.foldl (fZ n) ([],ae)).1++[n]
def A8{n:Int}{l:List Int}(h:i<l.length):ot n l (i+1)=fZ n (ot n l i) (l.getD i 0):=by grind[bm]
def vK(n:Int)(l:List Int):∀i,i<=l.length->(ot n l i).1.length+(if(ot n l i).2=ab then 0 else 1)<=i+1
 |0,_=>by simp[ot]
 |i+1,h=>by have:=vK n l i (by omega);rw[A8 (by omega)];generalize ot n l i=a at *;obtain⟨a,b⟩:=a;unfold fZ;grind
theorem Jj(l:List Int)(n:Int):(kF l n).length<=l.length+1:=by
 have:=vK n l l.length (aZ _);simp only[ot,cB]at this;unfold kF;split at this<;>rename_i h
 .grind
 grind
def mo{α:Type}(c:jX α)(l:List α)(x y:α):cn (l.length+1+1) (cD (l.length+1) (cD l.length (c.fn l) λq=>[c.enc x].getD q []) λq=>[c.enc y].getD q []) (c.fn (l++[x,y])):=c.mo l x y
def Jk(l:List Int)(n:Int)(r:l.length<=100000000):Ev X 61 [cI.sl l,dI n] [] (cI.sl (kF l n)) []:=by
 refine Ev.bQ Tryz.func61 rfl λp=>?_;refine aV [(1000002,ab)] rfl ar ?_;refine AK.g8 5 3 1 rfl rfl ?_;refine br rfl ar ?_;refine AK.bS 1 (λi=>i<=l.length) (λi:Nat=>[(0,cI.sl l),(1,dI n),(5,.e (.one (.vec 0 1 (ot n l i).1.length (cI.fn (ot n l i).1)))),(6,dB (ot n l i).2),(7,dI i)]) (λi=>[.vec 3 1 (ot n l i).1.length (cI.fn (ot n l i).1)]) (λi=>l.length-i) 0 rfl (by simp[ot]) rfl (by simp[ot]) rfl (by omega) ?_;intro i hi;have j:=vK n l i hi;by_cases h:i<l.length
 .have c:=A8 (n:=n) h;have d:l.getD (i:Int).toNat cI.bG=l.getD i 0:=by rw[bF];rfl
  generalize l.getD i 0=y at *;generalize ot n l i=a at *;obtain⟨a,b⟩:=a;have g:=λy=>cI.cg a y;have o:=λx y=>cI.mo a x y;have q:(a.length+1+1)*8<=140737488355328:=by grind
  have fin:∀a',ot n l (i+1)=a'->True:=λ_ _=>trivial;have k:l.length-(i+1)<l.length-i:=by omega
  by_cases f:y=n
  .cases b with
   |true =>
    rw[show fZ n (a,ab) y=(a,ab) by simp[fZ,f]]at c;refine aV [(12,ab),(34,ae)] rfl ?_ (AK.aQ (i+1) rfl ?_ ?_ h k)
    .simp only[au,d,f,bq];simp;omega
    .rw[c];simp
    .rw[c];simp
   |false =>
    rw[show fZ n (a,ae) y=(a++[n],ab) by simp[fZ,f]]at c;refine aV [(12,ab),(24,ab),(34,ae)] rfl ?_ (AK.aQ (i+1) rfl ?_ ?_ h k)
    .simp only[au,d,f,bq,show i3.bytes=8 from rfl];simp;omega
    .rw[c];simp only[au.cat,au,b9,eE,aF,aE];and_intros<;>first|exact cn.same|exact g n|rfl|omega
    .rw[c];simp only[au.cat,au,b9,eE,aF,aE];and_intros<;>first|exact cn.same|exact g n|rfl|omega
  .cases b with
   |true =>
    rw[show fZ n (a,ab) y=(a++[y],ab) by simp[fZ,f]]at c;refine aV [(12,ab),(34,ab)] rfl ?_ (AK.aQ (i+1) rfl ?_ ?_ h k)
    .simp only[au,d,bq,show i3.bytes=8 from rfl];simp[f];omega
    .rw[c];simp only[au.cat,au,d,b9,eE,aF,aE];and_intros<;>first|exact cn.same|exact g y|rfl|omega
    .rw[c];simp only[au.cat,au,d,b9,eE,aF,aE];and_intros<;>first|exact cn.same|exact g y|rfl|omega
   |false =>
    by_cases m:n<=y
    .rw[show fZ n (a,ae) y=(a++[n,y],ab) by simp[fZ,f,m]]at c;refine aV [(12,ab),(24,ab),(34,ab)] rfl ?_ (AK.aQ (i+1) rfl ?_ ?_ h k)
     .simp only[au,d,bq,show i3.bytes=8 from rfl];simp[f,m];omega
     .rw[c];simp only[au.cat,au,d,b9,gd,iS,aF,aE];and_intros<;>first|exact cn.same|exact o n y|rfl|omega
     .rw[c];simp only[au.cat,au,d,b9,gd,iS,aF,aE];and_intros<;>first|exact cn.same|exact o n y|rfl|omega
    .rw[show fZ n (a,ae) y=(a++[y],ae) by simp[fZ,m]]at c;refine aV [(12,ab),(24,ae),(34,ab)] rfl ?_ (AK.aQ (i+1) rfl ?_ ?_ h k)
     .simp only[au,d,bq,show i3.bytes=8 from rfl];simp[f,m];omega
     .rw[c];simp only[au.cat,au,d,b9,eE,aF,aE];and_intros<;>first|exact cn.same|exact g y|rfl|omega
     .rw[c];simp only[au.cat,au,d,b9,eE,aF,aE];and_intros<;>first|exact cn.same|exact g y|rfl|omega
 .obtain rfl:i=l.length:=by omega
  unfold kF;simp only[ot,cB]at j⊢;generalize l.foldl (fZ n) ([],ae)=a at *;obtain⟨a,b⟩:=a;have g:=cI.cg a n;refine aV [(12,ae)] rfl (by simp) (AK.leaveD rfl rfl ?_);cases b with
  |true=>exact br rfl (by simp) (AK.bg rfl)
  |false =>
   refine br rfl ?_ (AK.bg rfl ?_)
   .simp only[au,show i3.bytes=8 from rfl];simp at j⊢;omega
   .simp only[au,gb,bJ,b9,eE];and_intros<;>first|exact g|trivial
abbrev CZ:di:=mX (aL cI) aI (λl n=>cI.sl (kF l n)) λl _=>[l.length<=100000000]
def Jl:dw X 61 CZ:=.px λl n h=>Jk l n h
theorem jg(a:List Int):∀l:List Int,(l.foldl kF a).length<=a.length+l.length
 |[]=>by simp
 |x::l=>by have:=jg (kF a x) l;grind[Jj]
def xG{b:Type}(f:b->Int->b)(a:b){l:List Int}(h:j<l.length):(l.take (j+1)).foldl f a=f ((l.take j).foldl f a) (l.getD j 0):=by grind[bm]
def fS(l:List gj):List Int:=(bU l).foldl kF []
theorem qa(l:List gj):(fS l).length<=(bU l).length:=by
 have:=jg [] (bU l)
 rwa [iS,bo]at this
def wJ(s:cm)(t:s.2.length<=4000000)(r:(bU s.2).length<=4000000):Ev X 60 [AJ s] [] (cI.sl (fS s.2)) []:=by
 refine Ev.bQ Tryz.func60 rfl λq=>?_;have b:bA X [(61,CZ)]:=.cons Jl .nil;refine bR b rfl ar ?_;refine AK.bS 1 (λi=>i<=s.2.length) (λi:Nat=>[(1,.e (.one (.ptr 0 0))),(3,cI.sl (fS (s.2.take i))),(4,dI i)]) (λ_=>[T8 s]) (λi=>s.2.length-i) 0 rfl (by simp[fS,bU]) rfl (by simp) rfl (by omega) ?_;intro i hi;by_cases h:i<s.2.length
 .have l:s.2.getD i cL.bG=s.2.getD i ([],[]):=rfl;have d:=rb h;have n:=mr s.2 (i+1);have p:=qa (s.2.take i);have m:fS (s.2.take (i+1))=(s.2.getD i ([],[])).2.foldl kF (fS (s.2.take i)):=by simp only[fS,d,List.foldl_append]
  rw[d,b9]at n;generalize s.2.getD i ([],[])=x at *;generalize fS (s.2.take i)=a at *;refine aM b [(11,ab)] rfl (by simp[h]) ?_;refine AK.bS 1 (λj=>j<=x.2.length) (λj:Nat=>[(1,.e (.one (.ptr 0 0))),(3,cI.sl ((x.2.take j).foldl kF a)),(4,dI i),(5,dI j)]) (λ_=>[T8 s]) (λj=>x.2.length-j) 0 rfl (by simp) rfl (by simp) rfl (by omega) ?_;intro j o;by_cases g:j<x.2.length
  .have c:x.2.getD j cI.bG=x.2.getD j 0:=rfl;have f:=xG kF a g;have k:=jg a (x.2.take j);rw[List.length_take]at k;generalize(x.2.take j).foldl kF a=a2 at *;have e:=cI.list_fn a2;refine aM b [(22,ab)] rfl ?_ (AK.aQ (j+1) rfl ?_ ?_ g (by omega))
   .simp[-ai,l,c,h,g,e,cI.aR,bq];omega
   .rw[f];simp[-ai,l,c,e]
   .simp
  .obtain rfl:j=x.2.length:=by omega
   rw[cB,<-m];refine aM b [(22,ae)] rfl ?_ (AK.leaveD rfl rfl ?_)
   .simp[-ai,l,h]
   refine bR b rfl ?_ (AK.aQ (i+1) rfl ?_ ?_ h (by omega))
   .simp[bq];omega
   .simp
   .simp
 .obtain rfl:i=s.2.length:=by omega
  rw[cB];refine aM b [(11,ae)] rfl (by simp) (AK.leaveD rfl rfl ?_);exact bR b rfl ar (AK.bg rfl)
abbrev Ep:di:=ki (BF cL) (λs=>cI.sl (fS s.2)) λs=>[s.2.length<=4000000,(bU s.2).length<=4000000]
def Mt:dw X 60 Ep:=.oe λs h=>wJ s h.1 h.2
def fH(l:List cm):List Int:=l.flatMap λx=>bU x.2
def cY(l:List cm):List Int:=l.foldl (λout x=>(fS x.2).foldl kF out) []
theorem qb{l:List cm}(h:i<l.length):fH (l.take (i+1))=fH (l.take i)++bU (l.getD i (0,[])).2:=by rw[bm h (0,[])];simp[fH]
def A9(l:List cm)(i:Nat):(fH (l.take i)).length<=(fH l).length:=by
 have h:fH l=fH (l.take i)++fH (l.drop i):=by unfold fH;grind[List.take_append_drop]
 grind
theorem vL{l:List cm}(h:i<l.length):cY (l.take (i+1))=(fS (l.getD i (0,[])).2).foldl kF (cY (l.take i)):=by unfold cY;grind[bm]
def r9(l:List cm):∀i,i<=l.length->(cY (l.take i)).length<=(fH (l.take i)).length
 |0,_=>by simp[cY]
 |i+1,h=>by have a:=r9 l i (by omega);grind[jg,qa,vL,qb]
def C0(s:bl)(g:il s)(w:s.2.1.length<=4000000)(u:(fH s.2.1).length<=4000000):Ev X 27 [o8 s] [] (cI.sl (cY s.2.1)) []:=by
 refine Ev.bQ Tryz.func27 rfl λv=>?_;have b:bA X [(61,CZ),(60,Ep)]:=.cons Jl (.cons Mt .nil);refine bR b rfl ar ?_;refine AK.bS 1 (λi=>i<=s.2.1.length) (λi:Nat=>[(1,.e (.one (.ptr 0 0))),(3,cI.sl (cY (s.2.1.take i))),(4,dI i)]) (λ_=>[Kv s]) (λi=>s.2.1.length-i) 0 rfl (by simp[cY]) rfl (by simp) rfl (by omega) ?_;intro i hi;by_cases h:i<s.2.1.length
 .have o:s.2.1.getD i dZ.bG=s.2.1.getD i (0,[]):=rfl;have p:=g _ (gz (d:=(0,[])) h);have m:=qb h;have r:=A9 s.2.1 (i+1);have y:=r9 s.2.1 i hi;have g:=vL h;rw[m,b9]at r;generalize s.2.1.getD i (0,[])=x at *;have q:=qa x.2;generalize cY (s.2.1.take i)=a at *;refine aM b [(12,ab)] rfl ?_ ?_
  .simp[-ai,h,o,cL.list_fn,cL.aR];omega
  have l:s.2.1.getD (i:Int).toNat dZ.bG=x:=by rw[bF];exact o
  rw[l,cL.list_fn];refine AK.bS 1 (λj=>j<=(fS x.2).length) (λj:Nat=>[(1,.e (.one (.ptr 0 0))),(3,cI.sl (((fS x.2).take j).foldl kF a)),(4,dI i),(5,cI.sl (fS x.2)),(6,dI j)]) (λ_=>[Kv s]) (λj=>(fS x.2).length-j) 0 rfl (by simp) rfl (by simp) rfl (by omega) ?_;intro j t;generalize fS x.2=ns at *;by_cases k:j<ns.length
  .have c:ns.getD j cI.bG=ns.getD j 0:=rfl;have f:=xG kF a k;have n:=jg a (ns.take j);rw[List.length_take]at n;generalize(ns.take j).foldl kF a=a2 at *;have e:=cI.list_fn a2;refine aM b [(24,ab)] rfl ?_ (AK.aQ (j+1) rfl ?_ ?_ k (by omega))
   .simp[-ai,c,k,e,cI.aR,bq];omega
   .rw[f];simp[-ai,c,e]
   .simp
  .obtain rfl:j=ns.length:=by omega
   rw[cB,<-g];refine aM b [(24,ae)] rfl (by simp) (AK.leaveD rfl rfl ?_);refine bR b rfl ?_ (AK.aQ (i+1) rfl ?_ ?_ h (by omega))
   .simp[bq];omega
   .simp
   .simp
 .obtain rfl:i=s.2.1.length:=by omega
  rw[cB];refine aM b [(12,ae)] rfl (by simp) (AK.leaveD rfl rfl ?_);exact bR b rfl ar (AK.bg rfl)
abbrev Ba:di:=ki Ks (λs=>cI.sl (cY s.2.1)) λs=>[il s,s.2.1.length<=4000000,(fH s.2.1).length<=4000000]
def Jm:dw X 27 Ba:=.oe λs h=>C0 s h.1 h.2.1 h.2.2
abbrev iJ:=bl×List Int×List Int
abbrev fSt:FA bl:=fP (fL cP) (fP (fL dZ) (fL cH))
abbrev fSw:FA iJ:=fP fSt (fP (fL cI) (fL cI))
abbrev Er(c:jX α)(l:List α):A:=.c (.sl ae c.k l.length (c.fn l))
abbrev V5(w:iJ):List A:=[Er cP w.1.1,Er dZ w.1.2.1,Er cH w.1.2.2,Er cI w.2.1,Er cI w.2.2]
abbrev P3(w:iJ):D:=.e (.agg (V5 w))
structure Xv(s:bl):Prop where
 pN:s.1.length<=4000000
 sm:il s
 sN:s.2.1.length<=4000000
 aN:(fH s.2.1).length<=4000000
def m7(ps:List bw)(l:List Int)(i:Nat):Bool:=(ps.any λp=>p.1==l.getD i 0)&&xE (λx=>x) 0 l i
def pf(k:Int)(w:iJ):Bool:=(cY w.1.2.1).all (λn=>w.2.1.contains n)&&(a9 w.2.2.length).all (m7 w.1.1 w.2.2)&&fw k w.1
abbrev QS(w:iJ):ba:=.cells 32 (V5 w)
def BG(ps:List bw)(q:Nat->aj)(j:Nat):List C:=[.int .i64 (ps.getD j (0,[])).1,.val (q j)]
def zG(ps:List bw)(q:Nat->aj)(i:Nat):Mem->Prop:=λM=>∀j,j<i->Rd M (q j) (.sl ae 2 (ps.getD j (0,[])).2.length (eb.fn (ps.getD j (0,[])).2))
def GC(q:Nat->aj)(i:Nat)(v:aj)(j:Nat):aj:=if j=i then v else q j
def J6{ps:List bw}{q:Nat->aj}:cn (i+1) (cD i (BG ps q) (λj=>([[.int .i64 (ps.getD i (0,[])).1,.val v]]:List (List C)).getD j [])) (BG ps (GC q i v)):=by
 intro j a;by_cases h:j<i
 .simp[cD,h,BG,GC,show j≠i by omega]
 .obtain rfl:j=i:=by omega
  simp[cD,BG,GC]
def zG.up{ps:List bw}{q:Nat->aj}{bf:s9}{xs:List aj}(n:0<(ps.getD i (0,[])).2.length)(k:gZ 2 (ps.getD i (0,[])).2.length (eb.fn (ps.getD i (0,[])).2) xs)(hb:∃b cap,bf=.row b cap/\(ps.getD i (0,[])).2.length<=cap/\cap<=9223372036854775807):
  ∀M M',u6 M M'->zG ps q i M->(∀b cap,bf=.row b cap->∀j v,xs[j]?=aa v->M' b j=aa v)->zG ps (GC q i (rz bf (ps.getD i (0,[])).2.length)) (i+1) M':=by
 intro M M' hle hK hx j hj;by_cases h:j<i
 .have:=(hK j h).mono hle;simpa[GC,show j≠i by omega]using this
 .obtain rfl:j=i:=by omega
  obtain⟨b,cap,rfl,l,f⟩:=hb;rw[GC,bt rfl];have hx:=hx b cap rfl;refine .sl b 0 (λd e=>xs.getD (d*2+e) ah) l f (λh=>by cases h) (λd a=>k.wid d a) (λ_=>rfl) (λd a e c g=>?_) λd a e c g=>?_
  .obtain⟨v,v1,m⟩:=k.at' d a e c g;grind
  .obtain⟨v,v1,m⟩:=k.at' d a e c g;grind
abbrev MR(s:bl)(i:Nat)(es:Nat->List C)(j:Nat)(l:List cm)(K:Mem->Prop):List ba:=[qX s,.cells 27 [iH,iH,iH],.buf 43 2 i es,.buf 39 2 j (dZ.fn l),.buf 101 2 s.2.2.length (cH.fn s.2.2),.cells 27 [.bp 2 (.sl i 2 0 i),.bp 3 (.sl j 2 0 j),.bp 4 (.sl s.2.2.length 2 0 s.2.2.length)],.cp (PM K)]
def Dc(s:bl)(w:∀p∈s.1,0<p.2.length)(G:s.1.length<=4000000)(m:∀p∈s.1,p.2.length<=4000000)(B:s.2.1.length<=4000000)(t:il s)(C:s.2.2.length<=4000000):
  dK (ι:=Nat->aj) X 25 [o8 s] [] (λ_=>.e (.agg [.bp 0 (.sl s.1.length 2 0 s.1.length),.bp 1 (.sl s.2.1.length 2 0 s.2.1.length),.bp 2 (.sl s.2.2.length 2 0 s.2.2.length)]))
   (λq=>[.buf 43 2 s.1.length (BG s.1 q),.buf 39 2 s.2.1.length (dZ.fn s.2.1),.buf 101 2 s.2.2.length (cH.fn s.2.2),.cp (PM (zG s.1 q s.1.length))]):=by
 refine dK.nW tok Tryz.func25 rfl rfl rfl λF=>?_;refine bE [(1000001,ab)] rfl ar ?_;refine AK.region ?_;refine Fl [] 5 rfl ar ?_;refine AK.HG 9 43 2 (cP.fn []) rfl ?_;refine AK.HG 10 39 2 (dZ.fn []) rfl ?_;refine AK.HG 11 101 2 (cH.fn []) rfl ?_;refine bE [(1000002,ab)] rfl ?_ ?_
 .simp only[au,show i101.bytes=16 from rfl,aF,aE];grind
 refine AK.spare 68 2 ?_;refine AK.GN (ι:=Unit) 6 (λ_=>PM (zG s.1 (λ_=>ah) 0)) rfl (λv A h=>⟨(),PM.start (λ_ _ h=>absurd h (gA _)) v A h⟩) λ_=>?_;refine dv rfl ar ?_;refine AK.bS 7 (λx:Nat×(Nat->aj)=>x.1<=s.1.length) (λx=>[(1,.e (.one (.ptr 0 0))),(2,.e (.one (.ptr 1 0))),(3,.e (.one (.ptr 5 0))),(4,dI x.1)]) (λx=>MR s x.1 (BG s.1 x.2) 0 [] (zG s.1 x.2 x.1)) (λx=>s.1.length-x.1) (0,λ_=>ah) rfl ?_ rfl ?_ rfl (jJ _) ?_
 .simp
 .simp[cn,mq];rfl
 rintro⟨i,d⟩ hi;simp only at hi;by_cases h:i<s.1.length
 .have g:s.1.getD i (0,[])∈s.1:=by grind
  have a:s.1.getD (i:Int).toNat cP.bG=s.1.getD i (0,[]):=by grind
  have q:=m _ g;have b:=w _ g;rw[<-a]at b q;refine aV [(20,ab),(1000005,ab)] rfl ?_ ?_
  .simp only[au,bq,bc,aF,aE];omega
  refine AK.OT (ι:=Own (s.1.getD (i:Int).toNat cP.bG).2) de 15 18 8 (λk=>bn k 14)
   (λk=>[.e (.one (.ptr 5 0)),.e (.one (.bp 2 (.sl i 2 0 i))),.e (.one (.ptr 0 0)),cP.sl s.1,dI i,QR [.int .i64 (s.1.getD (i:Int).toNat cP.bG).1,sP (s.1.getD (i:Int).toNat cP.bG)],QR [.int .i64 (s.1.getD (i:Int).toNat cP.bG).1,sP (s.1.getD (i:Int).toNat cP.bG)],dI (s.1.getD (i:Int).toNat cP.bG).1,
    .e (.one (.c (.sl ab 2 0 (λj=>[].getD j [])))),.e (.one (.ptr 0 0)),cP.sl s.1,dI i,QR [.int .i64 (s.1.getD (i:Int).toNat cP.bG).1,sP (s.1.getD (i:Int).toNat cP.bG)],QR [sP (s.1.getD (i:Int).toNat cP.bG)],.e (.one (.c (sP (s.1.getD (i:Int).toNat cP.bG))))].getD k .any)
   (λq k=>[.e (.one (.c (zf _ q))),.e (.agg [.c (.int .i64 (s.1.getD (i:Int).toNat cP.bG).1),.c (zf _ q)]),.e (.one (.c (.sl ab 2 1 (λj=>[[.int .i64 (s.1.getD (i:Int).toNat cP.bG).1,zf _ q]].getD j []))))].getD (k-15) .any)
   (λq=>MR s i (BG s.1 d) 0 [] (zG s.1 d i)++[FL _ q])
   rfl rfl rfl rfl rfl rfl rfl (λk h=>by have:=dy h;omega) rfl
   ⟨OA.dg tok bA.nil rfl,OA.dg tok bA.nil rfl,OA.dg tok bA.nil rfl,OA.dg tok bA.nil rfl,OA.dg tok bA.nil rfl,OA.eval (ds:=[]) tok bA.nil rfl ?_,OA.dg tok bA.nil rfl,OA.dg tok bA.nil rfl,OA.dg tok bA.nil rfl,OA.dg tok bA.nil rfl,OA.dg tok bA.nil rfl,OA.dg tok bA.nil rfl,OA.eval (ds:=[]) tok bA.nil rfl ?_,OA.dg tok bA.nil rfl,OA.dg tok bA.nil rfl,ar,ar,ar,ar,ar,ar,ar⟩
   (λq=>⟨OA.dg tok bA.nil rfl,OA.dg tok bA.nil rfl,OA.dg tok bA.nil rfl,OA.dg tok bA.nil rfl,OA.dg tok bA.nil rfl,OA.eval (ds:=[]) tok bA.nil rfl ?_,OA.dg tok bA.nil rfl,OA.dg tok bA.nil rfl,OA.dg tok bA.nil rfl,OA.dg tok bA.nil rfl,OA.dg tok bA.nil rfl,OA.dg tok bA.nil rfl,OA.eval (ds:=[]) tok bA.nil rfl ?_,OA.dg tok bA.nil rfl,OA.dg tok bA.nil rfl,ar,OA.dg tok bA.nil rfl,OA.dg tok bA.nil rfl,ar⟩)
   (oS.OJ rfl (jk.fresh (SU rfl) rfl rfl rfl b (by show _*24<=_;omega) (Ej _ _))) ?_
  .simp only[au,aE];omega
  .simp only[au,aE];omega
  .simp only[au,aE];omega
  .simp only[au,aE];omega
  rw[a];rw[a]at b q;generalize o:s.1.getD i (0,[])=p at *;intro r;refine aV [(1000004,ab)] rfl ?_ ?_
  .simp only[au,show i43.bytes=32 from rfl,aF,aE];grind
  refine AK.fact (iv.RU (l:=7) (n:=p.2.length) (bf:=r.1.1) (xs:=r.1.2) rfl b) λE=>?_;refine AK.merge 6 7 (by decide) rfl rfl (λ_ _ h=>h.1) (PM.add (zG.up (by grind) (by grind) (by grind))) ?_;have e:=J6 (ps:=s.1) (q:=d) (i:=i) (v:=rz r.1.1 (s.1.getD i (0,[])).2.length);rw[o]at *;refine br rfl ?_ (AK.aQ (i+1,GC d i (rz r.1.1 p.2.length)) rfl ?_ ?_ ?_ ?_)
  .simp only[au,bq,aE];omega
  .simp
  .simp only[au.cat,au,aE,aF];and_intros<;>first|exactλ_ _=>rfl|exact e|rfl
  .grind
  grind
 obtain rfl:i=s.1.length:=by omega
 refine bE [(20,ae)] rfl (by simp) (AK.leaveD rfl rfl ?_);refine dv rfl ar ?_;refine AK.bS 7 (λi=>i<=s.2.1.length) (λi:Nat=>[(1,.e (.one (.ptr 0 0))),(2,.e (.one (.ptr 1 0))),(3,.e (.one (.ptr 5 0))),(5,dI i)]) (λi=>MR s s.1.length (BG s.1 d) i (s.2.1.take i) (zG s.1 d s.1.length)) (λi=>s.2.1.length-i) 0 rfl ?_ rfl ?_ rfl (by omega) ?_
 .simp
 .simp[cn]
 intro i hi;by_cases h:i<s.2.1.length
 .have g:s.2.1.getD i (0,[])∈s.2.1:=by grind
  have a:s.2.1.getD (i:Int).toNat dZ.bG=s.2.1.getD i (0,[]):=by grind
  have q:=t _ g;have e:=dZ.lI s.2.1 h (0,[]);generalize s.2.1.getD i (0,[])=x at *;refine bE [(47,ab),(1000010,ab)] rfl ?_ ?_
  .simp only[au,a,bc,true_or,aF,aE];and_intros<;>omega
  rw[a];refine AK.gx 7 1 95 2 (cL.fn []) rfl rfl ?_;refine dv rfl ar ?_;refine AK.bS 9 (λj=>j<=x.2.length) (λj:Nat=>[(1,.e (.one (.ptr 0 0))),(2,.e (.one (.ptr 1 0))),(3,.e (.one (.ptr 5 0))),(5,dI i),(6,.e (.one (.ptr 7 0))),(7,dI j)]) (λj=>MR s s.1.length (BG s.1 d) i (s.2.1.take i) (zG s.1 d s.1.length)++[.cells 39 [.c (.int .i64 x.1),.vec 8 2 j (cL.fn (x.2.take j))],.vec 95 2 j (cL.fn (x.2.take j))]) (λj=>x.2.length-j) 0 rfl ?_ rfl ?_ rfl (by omega) ?_
  .simp
  .simp[cn]
  intro j u;by_cases z:j<x.2.length
  .have f:x.2.getD (j:Int).toNat cL.bG=x.2.getD j ([],[]):=by grind
   have D:=q.2 (x.2.getD j ([],[])) (by grind);have y:=cL.lI x.2 z ([],[]);refine bE [(66,ab),(2000085,ab)] rfl ?_ (AK.aQ (j+1) rfl ?_ ?_ ?_ ?_)
   .simp only[au,a,f,bq,show i95.bytes=40 from rfl,show i3.bytes=8 from rfl,bc,true_or,aF,aE];and_intros<;>omega
   .simp
   .simp only[au.cat,au,a,f,mq,bo,aE,aF];and_intros<;>first|exactλ_ _=>rfl|exact y|rfl
   .grind
   .omega
  obtain rfl:j=x.2.length:=by omega
  rw[cB];refine bE [(66,ae)] rfl ?_ (AK.leaveD rfl rfl ?_)
  .simp only[au,a,bY];and_intros<;>omega
  refine dv rfl ?_ (AK.aQ (i+1) rfl ?_ ?_ ?_ ?_)
  .simp only[au,a,bq,show i39.bytes=32 from rfl,aF,aE];and_intros<;>omega
  .simp
  .simp only[au.cat,au,aE,aF];and_intros<;>first|exactλ_ _=>rfl|exact e|rfl
  .grind
  .omega
 obtain rfl:i=s.2.1.length:=by omega
 rw[cB];refine bE [(47,ae)] rfl (by simp) (AK.leaveD rfl rfl ?_);refine dv rfl ar ?_;refine AK.mg d [2,3,4,6] rfl rfl rfl rfl rfl rfl rfl rfl ?_ rfl rfl rfl rfl (λj u=>absurd u (by simp))
 .simp
def J7(l:List ck)(x:ck)(s:l.length<=4000000):Ev X 152 [eb.sl l,PG x] [] (.e (.one (.vec 0 2 (lr l x).length (eb.fn (lr l x))))) [.vec 68 2 (lr l x).length (eb.fn (lr l x))]:=by
 refine Ev.bQ Tryz.func152 rfl λr=>?_;refine bE [(1000002,ab)] rfl ar ?_;refine AK.g8 5 68 2 rfl rfl ?_;refine dv rfl ar ?_;refine AK.bS 2 (λi=>i<=l.length) (λi:Nat=>Xr l x i (lX x l i)) (λi=>V2 x (lX x l i).1) (λi=>l.length-i) 0 rfl ?_ rfl ?_ rfl (by omega) ?_
 .simp[lX]
 .simp[lX]
 intro i hi;by_cases h:i<l.length
 .have p:=xy (x:=x) h;have f:=qU x l i;have j:l.getD (i:Int).toNat eb.bG=l.getD i (0,[]):=by grind
  generalize lX x l i=a at p f;obtain⟨a,b⟩:=a;simp only at f;have m:=eb.cg a (l.getD i (0,[]));have o:=eb.mo a x (l.getD i (0,[]));cases b with
  |true =>
   have c:lX x l (i+1)=(a++[l.getD i (0,[])],ab):=p;have k:a.length+1=(a++[l.getD i (0,[])]).length:=by simp
   refine bE [(12,ab)] rfl ?_ (AK.aQ (i+1) rfl ?_ ?_ ?_ ?_)
   .simp only[au,j,bq,show i68.bytes=24 from rfl,bc,aF,aE];and_intros<;>omega
   .rw[c];simp only[au.cat,au,j,aF,aE];and_intros<;>first|exact k|exact m|exactλ_ _=>rfl|rfl|omega
   .rw[c];simp only[au.cat,au,j,aF,aE];and_intros<;>first|exact k|exact m|exactλ_ _=>rfl|rfl|omega
   .grind
   .omega
  |false =>
   by_cases g:x.1<(l.getD i (0,[])).1
   .have c:lX x l (i+1)=(a++[x,l.getD i (0,[])],ab):=by rw[p];simp only[ic,bt g];rfl
    have k:a.length+1+1=(a++[x,l.getD i (0,[])]).length:=by simp
    refine bE [(12,ab),(25,ab)] rfl ?_ (AK.aQ (i+1) rfl ?_ ?_ ?_ ?_)
    .simp only[au,j,bq,show i68.bytes=24 from rfl,g,lx,bc,aF,aE];and_intros<;>omega
    .rw[c];simp only[au.cat,au,j,aF,aE];and_intros<;>first|exact k|exact o|exactλ_ _=>rfl|rfl|omega
    .rw[c];simp only[au.cat,au,j,aF,aE];and_intros<;>first|exact k|exact o|exactλ_ _=>rfl|rfl|omega
    .grind
    .omega
   .have c:lX x l (i+1)=(a++[l.getD i (0,[])],ae):=by rw[p];simp only[ic,bh g];rfl
    have k:a.length+1=(a++[l.getD i (0,[])]).length:=by simp
    refine bE [(12,ab),(25,ae)] rfl ?_ (AK.aQ (i+1) rfl ?_ ?_ ?_ ?_)
    .simp only[au,j,bq,show i68.bytes=24 from rfl,bc,g,kr,nJ,bY,aF,aE];and_intros<;>omega
    .rw[c];simp only[au.cat,au,j,aF,aE];and_intros<;>first|exact k|exact m|exactλ_ _=>rfl|rfl|omega
    .rw[c];simp only[au.cat,au,j,aF,aE];and_intros<;>first|exact k|exact m|exactλ_ _=>rfl|rfl|omega
    .grind
    .omega
 .obtain rfl:i=l.length:=by omega
  have d:=r5 x l [];have f:=qU x l l.length;refine bE [(12,ae)] rfl (by simp) (AK.leaveD rfl rfl ?_);have q:lX x l l.length=l.foldl (ic x) ([],ae):=by grind
  rw[q]at f⊢;generalize l.foldl (ic x) ([],ae)=a at *;obtain⟨a,b⟩:=a;simp only[tw]at d f;cases b with
  |true =>
   simp only[bZ]at d;subst d;refine dv rfl ar (AK.dA [1] rfl ?_ ?_ rfl rfl wE)
   .simp
   .rfl
  |false =>
   simp only[gb,bJ]at d;have m:=eb.cg a x;refine bE [(1000012,ab)] rfl ?_ ?_
   .simp only[au,show i68.bytes=24 from rfl,aF,aE];grind
   have n:(a++[x]).length=a.length+1:=by simp
   refine AK.HE (φ':=[(5,.e (.one (.vec 1 2 (a++[x]).length (eb.fn (a++[x])))))]) (σ':=V2 x (a++[x])) ?_ rfl ?_ rfl ?_
   .rw[<-d];refine dv rfl ar (AK.dA [1] rfl ?_ ?_ rfl rfl wE)
    .simp
    .rfl
   .simp only[au.cat,au,n,aF,aE];and_intros<;>first|exact m|rfl
   .simp only[au.cat,au,n,aF,aE];and_intros<;>first|exact m|rfl
def J8[X.gY](l:List ck)(x:ck)(a:l.length<=4000000):dK (ι:=Own (lr l x)) X 152 [eb.sl l,PG x] [] (λq=>.e (.one (.c (zf (lr l x) q)))) (λq=>[FL (lr l x) q]) :=
 Ev.thaw (J7 l x a) Tryz.func152 rfl (by simp[tM,o0,lH]) λi hi=>⟨rfl,Ej _ _ i hi⟩
def XD(no:Int)(L:List ck):Option (Own L)->List ck->List ba
 |none,l=>[.cells 43 [.c (.int .i64 0),.c (.sl ab 0 0 λ_=>[])],pkB no l,.cp (iv 68 2 (.nil af) 0 [])]
 |some q,_=>[.cells 43 [.c (.int .i64 0),.c (.sl ab 0 0 λ_=>[])],.cells 43 [.c (.int .i64 no),.c (zf L q)],FL L q]
def Gh[X.gY](no k:Int)(ps:List Bs)(s:cw k=ab)(y:∀p∈ps,bC p=ab)(C:ps.length<=4000000)(z:0<ps.length):
  dK (ι:=Own (wi k ps)) X 108 [dI no,dI k,cS.sl ps] [] (λq=>.e (.agg [.c (.int .i64 no),.c (zf (wi k ps) q)])) (λq=>[FL (wi k ps) q]):=by
 refine dK.nW tok Tryz.func108 rfl rfl rfl λB=>?_;have f:bA X [(116,vv),(153,Ei),(152,NK)]:=.cons vp (.cons IX (.cons SP .nil));refine bk f [(1000002,ab)] rfl ar ?_;refine AK.spare 68 2 ?_;refine cz f rfl ar ?_;refine AK.bS 3 (λx:Option (Own (wi k ps))×Nat=>x.2<=ps.length/\(x.1.isSome=ab↔x.2=ps.length)) (λx=>[(1,dI k),(2,cS.sl ps),(6,.e (.one (.ptr 0 0))),(7,.e (.one (.ptr 1 0))),(8,dI x.2)]) (λx=>XD no (wi k ps) x.1 (wi k (ps.take x.2))) (λx=>ps.length-x.2) (af,0) rfl ?_ rfl ?_ rfl ⟨jJ _,by grind⟩ ?_
 .simp
 .simp[wi]
 rintro⟨q,i⟩ ⟨hi,t⟩;simp only at hi t;cases q with
 |some q =>
  obtain rfl:i=ps.length:=t.1 rfl;refine bk f [(15,ae)] rfl (by simp) (AK.leaveD rfl rfl ?_);refine cz f rfl ar ?_;refine AK.mg q [2] rfl rfl rfl rfl rfl rfl rfl rfl ?_ rfl rfl rfl rfl (λj u=>absurd u (by simp));simp
 |none =>
  have h:i<ps.length:=by grind
  have m:ps.getD (i:Int).toNat cS.bG=ps.getD i []:=by grind
  have b:bC (ps.getD i [])=ab:=y _ (by grind);have w:=IZ (k:=k) h;have n:=ze k (ps.take i);rw[List.length_take]at n;by_cases A:i+1<ps.length
  .refine bk f [(15,ab)] rfl ?_ (AK.aQ (af,i+1) rfl ?_ ?_ ?_ ?_)
   .simp only[au,m,s,b,bq,eb.list_fn,bc,aF,aE];and_intros<;>first|exact eb.aR _|omega
   .simp
   .show au _;rw[w];simp only[au.cat,au,m,eb.list_fn,aF,aE];and_intros<;>first|exactλ_ _=>rfl|rfl|omega
   .grind
   grind
  .have v:i+1=ps.length:=by omega
   have d:wi k ps=lr (wi k (ps.take i)) (gv k (ps.getD i []),fY (ps.getD i [])):=by grind
   refine bk f [(15,ab),(1000005,ab)] rfl ?_ ?_
   .simp only[au,bc];omega
   have g:=J8 (X:=X) (wi k (ps.take i)) (gv k (ps.getD i []),fY (ps.getD i [])) (by omega);rw[<-d]at g;have a:bA X [(116,vv),(153,Ei)]:=.cons vp (.cons IX .nil);generalize o:ps.getD i []=p at *;generalize wi k (ps.take i)=l at *;refine AK.OT (ι:=Own (wi k ps)) de 14 15 16 (λj=>bn j 13)
    (λj=>([.e (.one (.ptr 1 1)),eb.sl l,dI k,cS.sl ps,dI i,QR [.str (ps.getD (i:Int).toNat cS.bG)],dS (ps.getD (i:Int).toNat cS.bG),dI (gv k (ps.getD (i:Int).toNat cS.bG)),cS.sl ps,dI i,QR [.str (ps.getD (i:Int).toNat cS.bG)],dS (ps.getD (i:Int).toNat cS.bG),dS (fY (ps.getD (i:Int).toNat cS.bG)),.e (.agg [.c (.int .i64 (gv k (ps.getD (i:Int).toNat cS.bG))),.c (.str (fY (ps.getD (i:Int).toNat cS.bG)))])]:List D).getD j .any)
    (λq _=>.e (.one (.c (zf (wi k ps) q)))) (λq=>XD no (wi k ps) af l++[FL (wi k ps) q])
    rfl rfl rfl rfl rfl rfl rfl (λj h=>by have:=dy h;omega) rfl
    ⟨OA.dg tok a rfl,OA.dg tok a rfl,OA.dg tok a rfl,OA.dg tok a rfl,OA.dg tok a rfl,OA.eval (ds:=[]) tok a rfl ?_,OA.dg tok a rfl,OA.eval (ds:=[]) tok a rfl ?_,OA.dg tok a rfl,OA.dg tok a rfl,OA.eval (ds:=[]) tok a rfl ?_,OA.dg tok a rfl,OA.eval (ds:=[]) tok a rfl ?_,OA.dg tok a rfl,ar,ar,ar,ar⟩
    (λq=>⟨OA.dg tok a rfl,OA.dg tok a rfl,OA.dg tok a rfl,OA.dg tok a rfl,OA.dg tok a rfl,OA.eval (ds:=[]) tok a rfl ?_,OA.dg tok a rfl,OA.eval (ds:=[]) tok a rfl ?_,OA.dg tok a rfl,OA.dg tok a rfl,OA.eval (ds:=[]) tok a rfl ?_,OA.dg tok a rfl,OA.eval (ds:=[]) tok a rfl ?_,OA.dg tok a rfl,ar,ar⟩)
    (oS.yo (o▸g) [] rfl rfl rfl rfl rfl rfl rfl (λ_=>rfl) rfl (λ_=>rfl)) ?_
   all_goals first|(simp only[au,m,s,b,aE,aF];omega)|(simp only[au.cat,au,m,s,b,and_self];done)|skip
   intro r;refine bk a [(1000004,ab)] rfl ar ?_;refine AK.swap 2 3 (by decide) rfl rfl (λ_ _ h=>h.1) (λ_ _ h=>h.1) ?_;refine cz a rfl ?_ (AK.aQ (aa r,i+1) rfl ?_ ?_ ?_ ?_)
   .simp only[au,bq];omega
   .simp
   .simp
   .grind
   grind
def zG.snoc{ps:List bw}{x:bw}{q:Nat->aj}{bf:s9}{xs:List aj}(a:0<x.2.length)(c:gZ 2 x.2.length (eb.fn x.2) xs)(hb:∃b cap,bf=.row b cap/\x.2.length<=cap/\cap<=9223372036854775807):
  ∀M M',u6 M M'->zG ps q ps.length M->(∀b cap,bf=.row b cap->∀j v,xs[j]?=aa v->M' b j=aa v)->zG (ps++[x]) (GC q ps.length (rz bf x.2.length)) (ps++[x]).length M':=by
 intro M M' hle hK hx;have e:(ps++[x]).getD ps.length (0,[])=x:=by simp
 have h:=zG.up (ps:=ps++[x]) (q:=q) (i:=ps.length) (bf:=bf) (xs:=xs) (by grind) (by grind) (by grind) M M' hle (λj hj=>by
  have e2:(ps++[x]).getD j (0,[])=ps.getD j (0,[]):=by grind
  rw[e2];exact hK j hj) hx
 grind
def J9{ps:List bw}{x:bw}{q:Nat->aj}:cn (ps.length+1) (cD ps.length (BG ps q) (λj=>([[.int .i64 x.1,.val v]]:List (List C)).getD j [])) (BG (ps++[x]) (GC q ps.length v)):=by
 intro j b;by_cases h:j<ps.length
 .have a:(ps++[x]).getD j (0,[])=ps.getD j (0,[]):=by grind
  simp only[cD,h,bZ,BG,GC,a,bh (show j≠ps.length by omega)]
 .obtain rfl:j=ps.length:=by omega
  have e:(ps++[x]).getD ps.length (0,[])=x:=by simp
  simp only[cD,BG,GC,e,bZ];simp
abbrev Wp(k by_ no:Int)(s:bl)(t:List bu)(rest:List Bs):Fr:=[(0,dI k),(2,dI by_),(3,cF.sl t),(5,.e (.one (.ptr 0 0))),(8,.e (.one (.ptr 1 0))),(10,.e (.one (.ptr 6 0))),(11,dI no),(12,dI (gw s)),(13,cS.sl rest)]
abbrev MS(s:bl)(ps:List bw)(q:Nat->aj):List ba:=[qX s,.cells 27 [iH,iH,iH],.buf 43 2 ps.length (BG ps q),.buf 39 2 s.2.1.length (dZ.fn s.2.1),.buf 101 2 s.2.2.length (cH.fn s.2.2),.cp (PM (zG ps q ps.length)),.cells 27 [.bp 2 (.sl ps.length 2 0 ps.length),.bp 3 (.sl s.2.1.length 2 0 s.2.1.length),.bp 4 (.sl s.2.2.length 2 0 s.2.2.length)]]
def wa[X.gY](k:Int)(s:bl)(by_:Int)(t:List bu)(G:cw k=ab)(b:mm s)(y:FJ s)(z:qT t)(K:(eC s.1).length<=100000)(V:∀p∈s.1,0<p.2.length){A:Bool}(I:sM k s t=A):
  dK (ι:=Nat->aj) X 85 [dI k,o8 s,dI by_,cF.sl t] [] (λ_=>cond A (tSt s ae) (.fe [.agg [.bp 0 (.sl (gI k s by_ t).1.length 2 0 (gI k s by_ t).1.length),.c (LX (gI k s by_ t).2.1),.c (LY (gI k s by_ t).2.2)],.one (.c (.bool ab))]))
   (λq=>cond A [] [.buf 43 2 (gI k s by_ t).1.length (BG (gI k s by_ t).1 q),.cp (PM (zG (gI k s by_ t).1 q (gI k s by_ t).1.length))]):=by
 refine dK.nW tok Tryz.func85 rfl rfl rfl λhf=>?_;have a:bA X [(107,IW),(106,IP),(109,NI)]:=.cons PH (.cons PD (.cons SI .nil));have h1:=b.p;have h2:=b.sn;have h3:=b.h;have ZN:=AS K;refine cz a rfl ar ?_;refine AK.cP (Dc s V b.p b.p2 b.sn b.s2 b.h) [] rfl (λ_=>rfl) λZ=>?_;refine cz a rfl ar ?_;refine AK.cQ (FK s b y) [] rfl ?_;refine cz a rfl ?_ ?_
 .simp only[au,cP.list_fn,nE.list_fn,cF.list_fn,G,z];and_intros<;>first|exact cP.aR _|exact nE.aR _|exact cF.aR _|trivial|exact z|omega
 simp only[cP.list_fn,nE.list_fn,cF.list_fn];obtain⟨E,hpl⟩:=vt (k:=k) (l:=indexOf s.1) z;have hN:xq k s t=gF k (jd k t (indexOf s.1)).length (fO s) (jd k t (indexOf s.1)):=rfl;generalize jd k t (indexOf s.1)=pc at *;generalize P:xq k s t=np at *;have hpn:-4000000<=fO s/\fO s<=4000001:=by
  unfold fO;split
  .omega
  .rename_i h;have:=y.p _ (fQ (show s.1.length-1<s.1.length by omega) (0,[]));omega
 have QE:np.length<=100000:=by grind[vr]
 refine AK.jW (S2:=Nat->aj) 0 rfl rfl (λ_=>True) (λ_=>[(0,dI k),(2,dI by_),(3,cF.sl t),(5,.e (.one (.ptr 0 0))),(8,.e (.one (.ptr 1 0))),(10,.e (.one (.ptr 6 0))),(11,dI (fO s+np.length)),(12,dI (gw s))]) (λq=>MS s (s.1++np) q) 7
  (λx:List Bs×List bw×(Nat->aj)=>(∀p∈x.1,bC p=ab)/\x.2.1.length+x.1.length<=5000000/\s.1.length<=x.2.1.length/\∃f,x.1.length<=f/\s.1++np=x.2.1++gF k f (fO s+(x.2.1.length-s.1.length:Nat)) x.1) (λx=>Wp k by_ (fO s+(x.2.1.length-s.1.length:Nat)) s t x.1) (λx=>MS s x.2.1 x.2.2) (λx=>x.1.length) (pc,s.1,Z) rfl ?_ rfl ?_ rfl ⟨E,by grind,aZ _,pc.length,aZ _,by grind⟩ ?_ ?_
 .simp
 .simp
 .rintro out ⟨rest,ps,q⟩ ⟨B,g2,g3,f,g4,M⟩;simp only at B g2 g3 g4 M;by_cases h:0<rest.length
  .obtain⟨f,rfl⟩:∃Q,f=Q+1:=⟨f-1,by omega⟩
   simp only[gF,bt h]at M;have R:bq .i64 ((min rest.length 4:Nat):Int):=by simp only[bq];omega
   refine bk a [(30,ab)] rfl (by simp only[au,bc];omega) ?_;refine AK.law (y4 ((min rest.length 4:Nat):Int) rfl rfl rfl (IN rest.length 4) R) rfl rfl ?_;have H:cU rest.length (aa ((min rest.length 4:Nat):Int))-cU 0 af=min rest.length 4:=by simp[cU]
   have T:cn (rest.length-min rest.length 4) (lV (min rest.length 4) (cS.fn rest)) (cS.fn (rest.drop 4)):=by
    intro i hi;have U:min rest.length 4=4:=by omega
    rw[U];simp only[lV,jX.fn,xo,ai,pG]
   have hT:cn (cU rest.length (aa ((min rest.length 4:Nat):Int))-cU 0 af) (lV (cU 0 af) (cS.fn rest)) (cS.fn (rest.take 4)):=by intro i hi;rw[H]at hi;simp only[lV,cU,jX.fn,xo,ai,bo];grind
   have hTl:(rest.take 4).length=min rest.length 4:=by grind
   have L:∀p∈rest.take 4,bC p=ab:=λp N=>B p (jr N);have F:=Gh (X:=X) (fO s+(ps.length-s.1.length:Nat)) k (rest.take 4) G L (by omega) (by omega);have hx0:om (fO s+(ps.length-s.1.length:Nat)) k (rest.take 4)=(fO s+(ps.length-s.1.length:Nat),wi k (rest.take 4)):=rfl;have w:0<(wi k (rest.take 4)).length:=by grind[ze]
   generalize UG:fO s+(ps.length-s.1.length:Nat)=no at *;have O:-5000000<=no/\no<=10000000:=by omega
   generalize S:wi k (rest.take 4)=Ka at *;refine bk a [(1000006,ab)] rfl ar ?_;refine AK.OT (ι:=Own Ka) de 7 9 12 (λj=>bn j 6)
    (λj=>([.e (.one (.ptr 6 0)),.e (.one (.bp 2 (.sl ps.length 2 0 ps.length))),dI no,dI k,cS.sl rest,dI (min rest.length 4:Nat),.e (.one (.c (.sl ae 1 (cU rest.length (aa ((min rest.length 4:Nat):Int))-cU 0 af) (lV (cU 0 af) (cS.fn rest)))))]:List D).getD j .any)
    (λr j=>match j with|7=>.e (.agg [.c (.int .i64 no),.c (zf Ka r)])|_=>.e (.one (.c (.sl ab 2 1 (λj=>([[.int .i64 no,zf Ka r]]:List (List C)).getD j []))))) (λr=>MS s ps q++[FL Ka r])
    rfl rfl rfl rfl rfl rfl rfl (λj h=>by have:=dy h;omega) rfl
    ⟨OA.dg tok a rfl,OA.dg tok a rfl,OA.dg tok a rfl,OA.dg tok a rfl,OA.dg tok a rfl,OA.dg tok a rfl,OA.eval (ds:=[]) tok a rfl ?_,ar,ar,ar,ar,ar,ar⟩
    (λr=>⟨OA.dg tok a rfl,OA.dg tok a rfl,OA.dg tok a rfl,OA.dg tok a rfl,OA.dg tok a rfl,OA.dg tok a rfl,OA.eval (ds:=[]) tok a rfl ?_,ar,OA.dg tok a rfl,ar⟩)
    (oS.mP F [] rfl rfl rfl rfl ?_ rfl rfl rfl (λ_=>rfl) rfl (λ_=>rfl)) ?_
   .simp only[gh,au];omega
   .simp only[gh,au];omega
   .simp only[au.cat,au,aF,aE];grind
   intro r;refine bk a [(1000007,ab)] rfl ?_ ?_
   .simp only[au,show i43.bytes=32 from rfl,aF];omega
   refine AK.fact (iv.RU (l:=7) (n:=Ka.length) (bf:=r.1.1) (xs:=r.1.2) rfl w) λhb=>?_;refine AK.merge 5 7 (by decide) rfl rfl (λ_ _ h=>h.1) (PM.add (zG.snoc (x:=(no,Ka)) w r.2 hb)) ?_;have e:=J9 (ps:=ps) (x:=(no,Ka)) (q:=q) (v:=rz r.1.1 Ka.length);have o:(ps++[(no,Ka)]).length=ps.length+1:=by simp
   refine cz a rfl ?_ (AK.aQ (rest.drop 4,ps++[(no,Ka)],GC q ps.length (rz r.1.1 Ka.length)) rfl ?_ ?_ ?_ ?_)
   .simp only[au,bq,gh];omega
   .simp only[au.cat,au,o,qk,cU,bF,aF,aE];and_intros<;>first|rfl|omega|exactλ_ _=>rfl|exact T
   .simp only[au.cat,au,o,aF,aE];and_intros<;>first|rfl|exactλ_ _=>rfl|exact e|omega
   .refine⟨λp N=>B p (List.mem_of_mem_drop N),by grind,by grind,f,by grind,?_⟩;grind
   grind
  .have e:ps=s.1++np:=by rw[M];cases f<;>simp[gF,h]
   refine bk a [(30,ae)] rfl (by simp only[au,bY];omega) (AK.leaveD rfl rfl ?_);refine out q ar rfl ?_ rfl ?_
   .simp only[au.cat,au,e,b9,aF,aE];and_intros<;>first|rfl|omega|exactλ_ _=>rfl
   .simp[e]
 rintro q -;have d:sM k s t=(decide (20<s.1.length+np.length)||(decide (99<fO s+np.length-1)||(decide (20<gw s)||decide (9<=s.2.2.length)))):=by unfold sM;rw[P]
 rw[I]at d;have g:(s.1++np).length=s.1.length+np.length:=b9;have Wx:-4000000<=gw s/\gw s<=4000001:=by
  have:=qY s.2.2 y.h;unfold gw;split
  .omega
  .have:=y.s _ (fQ (show s.2.1.length-1<s.2.1.length by omega) (0,[]));omega
 cases A with
 |true =>
  apply AK.join [(5,.e (.one (.ptr 0 0))),(8,.e (.one (.ptr 1 0)))] (MS s (s.1++np) q)
  .intro out;by_cases c1:20<s.1.length+np.length
   .refine bk a [(53,ab),(1000010,ab)] rfl ?_ (out _ _ rfl (by simp));simp[g];omega
   by_cases c2:99<fO s+np.length-1
   .refine bk a [(53,ae),(57,ab),(1000010,ab)] rfl ?_ (out _ _ rfl (by simp));simp[g,bq];omega
   by_cases c3:20<gw s
   .refine bk a [(53,ae),(57,ae),(61,ab),(1000010,ab)] rfl ?_ (out _ _ rfl (by simp));simp[g,bq];omega
   refine bk a [(53,ae),(57,ae),(61,ae),(67,ab),(1000010,ab)] rfl ?_ (out _ _ rfl (by simp));simp[g,bq];grind
  refine cz a rfl ar ?_;refine AK.cQ (vD s b.p b.p2 b.sn b.s2 b.h) [] rfl ?_;refine cz a rfl ar ?_;refine AK.Ns q [] rfl rfl rfl rfl rfl rfl rfl rfl rfl ?_ rfl rfl rfl rfl wE;simp
 |false =>
 have d:=d.symm;simp only[Bool.or_eq_false_iff,bY]at d;obtain⟨c1,c2,c3,c4⟩:=d;have H:=dZ.cg s.2.1 (kn (gw s) k t);have Y:=cH.cg s.2.2 (by_,gw s);have J:gI k s by_ t=(s.1++np,s.2.1++[kn (gw s) k t],s.2.2++[(by_,gw s)]):=by unfold gI;rw[P]
 rw[J];refine bk a [(53,ae),(57,ae),(61,ae),(67,ae),(1000013,ab)] rfl ?_ ?_
 .simp only[au,G,cF.list_fn,g,bq,show i39.bytes=32 from rfl,show i101.bytes=16 from rfl,bc,bY,aF,aE];and_intros<;>first|exact z|exact cF.aR _|rfl|omega
 generalize s.1++np=ps at *;generalize W:s.2.1++[kn (gw s) k t]=sw at *;generalize hhw:s.2.2++[(by_,gw s)]=hw at *;have u:sw.length=s.2.1.length+1:=by grind
 have m:hw.length=s.2.2.length+1:=by grind
 refine AK.HE (φ':=[(8,.e (.one (.ptr 1 0))),(10,.e (.one (.ptr 6 0)))]) (σ':=[qX s,.cells 27 [iH,iH,iH],.buf 43 2 ps.length (BG ps q),.buf 39 2 sw.length (dZ.fn sw),.buf 101 2 hw.length (cH.fn hw),.cp (PM (zG ps q ps.length)),.cells 27 [.bp 2 (.sl ps.length 2 0 ps.length),.bp 3 (.sl sw.length 2 0 sw.length),.bp 4 (.sl hw.length 2 0 hw.length)]]) ?_ rfl ?_ rfl ?_
 .refine AK.ur 3 rfl rfl rfl (by simp) (by simp) ?_;refine AK.ur 4 rfl rfl rfl (by simp) (by simp) ?_;refine br rfl ar ?_;refine AK.Ns q [2,5] rfl rfl rfl rfl rfl rfl rfl rfl rfl ?_ rfl rfl rfl rfl (λj hj=>absurd hj (by simp));simp[um]
 .simp
 .simp only[au.cat,au,u,m,cF.list_fn,aF,aE];and_intros<;>first|exact cn.same|exact H|exact Y|rfl
abbrev Qz(v:aj)(ps:List bw):Mem->Prop:=λM=>Rd M v (.sl ae 2 ps.length (cP.fn ps))
def Dd[X.gY](k:Int)(s:bl)(by_:Int)(t:List bu)(o:cw k=ab)(m:mm s)(l:FJ s)(g:qT t)(f:(eC s.1).length<=100000)(i:∀p∈s.1,0<p.2.length)(d:sM k s t=ae):
  dK (ι:=aj) X 85 [dI k,o8 s,dI by_,cF.sl t] [.cp (iv 43 2 (.nil af) 0 [])] (λv=>.fe [.agg [.c (.val v),.c (LX (gI k s by_ t).2.1),.c (LY (gI k s by_ t).2.2)],.one (.c (.bool ab))])
   (λv=>[.cp (PM (Qz v (gI k s by_ t).1))]):=by
 refine dK.RV (dK.zE (cP.fn (gI k s by_ t).1) (wa k s by_ t o m l g f i d) (λq M M' hle hK j b=>(hK j b).mono hle) λq M hK j b=>?_) (λ_ _ _ h=>h.1) (λ_=>rfl) (λ_=>rfl) rfl rfl;have hK:=hK j b;generalize(gI k s by_ t).1=ps at *;have e:cP.fn ps j=[.int .i64 (ps.getD j (0,[])).1,sP (ps.getD j (0,[]))]:=rfl;rw[e];refine⟨rfl,λp c a=>?_⟩
 match p,a with
 |0,a=>cases a;exact⟨_,rfl,λv n h=>by cases h with|int h=>exact .int h⟩
 |1,a=>cases a;exact⟨_,rfl,λv n h=>by grind[Rd.eW]⟩
def FE(l:List Int):Ev X 35 [cI.sl l,cI.sl l] [] (dB ab) []:=by
 refine Ev.bQ Tryz.func35 rfl λa=>?_;have b:=a.sl 0 rfl;refine aV [(10,ae)] rfl (by simp) ?_;refine AK.bS 0 (λi=>i<=l.length) (λi:Nat=>[(0,cI.sl l),(1,cI.sl l),(5,dI i)]) (λ_=>[]) (λi=>l.length-i) 0 rfl (by simp) rfl (by simp) rfl (by omega) ?_;intro i hi;by_cases h:i<l.length
 .refine bE [(14,ab),(25,ae)] rfl ?_ (AK.aQ (i+1) rfl ?_ ?_ ?_ ?_)
  .simp only[au,bq,jw,kP,lQ,bc,aF,aE];and_intros<;>omega
  .simp
  .simp
  .grind
  .omega
 .refine bE [(14,ae)] rfl (by simp;omega) (AK.leaveD rfl rfl ?_);exact dv rfl ar (AK.bg rfl)
abbrev PE:di:=mX (aL cI) (aL cI) (λ_ _=>dB ab) λa b=>[b=a]
def SK:dw X 35 PE:=.px λa b h=>by have:b=a:=h;subst this;exact FE _
def IT(l:List (Int×Int)):Ev X 45 [cH.sl l,cH.sl l] [] (dB ab) []:=by
 refine Ev.bQ Tryz.func45 rfl λa=>?_;have b:=a.sl 0 rfl;refine aV [(10,ae)] rfl (by simp) ?_;refine AK.bS 0 (λi=>i<=l.length) (λi:Nat=>[(0,cH.sl l),(1,cH.sl l),(5,dI i)]) (λ_=>[]) (λi=>l.length-i) 0 rfl (by simp) rfl (by simp) rfl (by omega) ?_;intro i hi;by_cases h:i<l.length
 .refine bE [(14,ab),(25,ae)] rfl ?_ (AK.aQ (i+1) rfl ?_ ?_ ?_ ?_)
  .simp[bq,h];omega
  .simp
  .simp
  .grind
  .omega
 .refine bE [(14,ae)] rfl (by simp;omega) (AK.leaveD rfl rfl ?_);exact dv rfl ar (AK.bg rfl)
abbrev SL:di:=mX (aL cH) (aL cH) (λ_ _=>dB ab) λa b=>[b=a]
def V0:dw X 45 SL:=.px λa b h=>by have:b=a:=h;subst this;exact IT _
abbrev pB(p:bw):ba:=.cells 43 [.c (.int .i64 p.1),.c (.sl ae 2 p.2.length (eb.fn p.2))]
def FF(p:bw):Ev X 13 [D9 p,D9 p] [] (dB ab) []:=by
 refine Ev.bQ Tryz.func13 rfl λl=>?_;by_cases q:p.2.length<=9223372036854775807
 .refine aV [(10,ae),(18,ae)] rfl (by simp) ?_;refine AK.bS 2 (λi=>i<=p.2.length) (λi:Nat=>[(2,.e (.one (.ptr 0 0))),(3,.e (.one (.ptr 1 0))),(5,dI i)]) (λ_=>[pB p,pB p]) (λi=>p.2.length-i) 0 rfl (by simp) rfl (by simp) rfl (by omega) ?_;intro i hi;by_cases h:i<p.2.length
  .refine bE [(24,ab),(37,ae)] rfl ?_ (AK.aQ (i+1) rfl ?_ ?_ ?_ ?_)
   .simp[bq,h];omega
   .simp
   .simp
   .grind
   .omega
  .refine bE [(24,ae)] rfl (by simp;omega) (AK.leaveD rfl rfl ?_);exact dv rfl ar (AK.bg rfl)
 .exfalso;obtain⟨s,vs,d,_⟩:=l;obtain⟨n,k⟩:∃v,dc [] s v (D9 p):=by
   match vs,d with
   |[a,_],d=>exact⟨a,d.1⟩
  obtain⟨m,_,g⟩:=k
  match m,g with
  |[a,c],g =>
   have:=g.2.1;cases(show Rd s.M c (.sl ae 2 p.2.length (eb.fn p.2))from this)with
   |sl b off f j o=>omega
abbrev PF:di:=mX (BF eb) (BF eb) (λ_ _=>dB ab) λa b=>[b=a]
def SM:dw X 13 PF:=.px λa b h=>by have:b=a:=h;subst this;exact FF _
abbrev sB(p:cm):ba:=.cells 39 [.c (.int .i64 p.1),.c (.sl ae 2 p.2.length (cL.fn p.2))]
def FG(x:cm)(b:x.2.length<=4000000):Ev X 46 [AJ x,AJ x] [] (dB ab) []:=by
 refine Ev.bQ Tryz.func46 rfl λc=>?_;have a:bA X [(35,PE)]:=.cons SK .nil;refine aM a [(10,ae),(18,ae)] rfl (by simp) ?_;refine AK.bS 2 (λi=>i<=x.2.length) (λi:Nat=>[(2,.e (.one (.ptr 0 0))),(3,.e (.one (.ptr 1 0))),(5,dI i)]) (λ_=>[sB x,sB x]) (λi=>x.2.length-i) 0 rfl (by simp) rfl (by simp) rfl (by omega) ?_;intro i hi;by_cases h:i<x.2.length
 .refine bk a [(24,ab),(39,ae),(53,ab)] rfl ?_ (AK.aQ (i+1) rfl ?_ ?_ ?_ ?_)
  .simp only[au,bq,jw,kP,lQ,bc,aF,aE];and_intros<;>first|exact cI.aR _|omega
  .simp
  .simp
  .grind
  .omega
 .refine bk a [(24,ae)] rfl (by simp;omega) (AK.leaveD rfl rfl ?_);exact cz a rfl ar (AK.bg rfl)
abbrev SN:di:=mX (BF cL) (BF cL) (λ_ _=>dB ab) λa b=>[b=a,b.2.length<=4000000]
def V1:dw X 46 SN:=.px λa b h=>by obtain⟨rfl,c⟩:b=a/\_:=h;exact FG _ c
abbrev Mc(s:bl):ba:=.cells 27 [.c (.sl ae 2 s.1.length (cP.fn s.1)),.c (.sl ae 2 s.2.1.length (dZ.fn s.2.1)),.c (.sl ae 2 s.2.2.length (cH.fn s.2.2))]
def CQ(s:bl)(b:mm s):Ev X 18 [o8 s,o8 s] [] (dB ab) []:=by
 refine Ev.bQ Tryz.func18 rfl λd=>?_;have a:bA X [(45,SL),(13,PF),(46,SN)]:=.cons V0 (.cons SM (.cons V1 .nil));have j:=b.p;have g:=b.sn;refine bk a [(13,ae),(21,ae),(28,ab)] rfl ?_ ?_
 .simp only[au,bq,jw,kP,lQ,bc,aF,aE];and_intros<;>first|exact cH.aR _|omega
 refine AK.bS 2 (λi=>i<=s.1.length) (λi:Nat=>[(2,.e (.one (.ptr 0 0))),(3,.e (.one (.ptr 1 0))),(5,dI i)]) (λ_=>[Mc s,Mc s]) (λi=>s.1.length-i) 0 rfl (by simp) rfl (by simp) rfl (by omega) ?_;intro i hi;by_cases h:i<s.1.length
 .refine bk a [(35,ab),(48,ab)] rfl ?_ (AK.aQ (i+1) rfl ?_ ?_ ?_ ?_)
  .simp only[au,bq,bc,aF,aE];and_intros<;>first|exact eb.aR _|omega
  .simp
  .simp
  .grind
  .omega
 refine bk a [(35,ae)] rfl (by simp;omega) (AK.leaveD rfl rfl ?_);refine cz a rfl ar ?_;refine AK.bS 2 (λi=>i<=s.2.1.length) (λi:Nat=>[(2,.e (.one (.ptr 0 0))),(3,.e (.one (.ptr 1 0))),(6,dI i)]) (λ_=>[Mc s,Mc s]) (λi=>s.2.1.length-i) 0 rfl (by simp) rfl (by simp) rfl (by omega) ?_;intro i hi;by_cases h:i<s.2.1.length
 .have f:=(b.s2 _ (fQ h (0,[]))).1;have c:s.2.1.getD (i:Int).toNat dZ.bG=s.2.1.getD i (0,[]):=by grind
  refine bk a [(54,ab),(67,ab)] rfl ?_ (AK.aQ (i+1) rfl ?_ ?_ ?_ ?_)
  .simp only[au,bq,c,cL.list_fn,bc,aF,aE];and_intros<;>first|exact cL.aR _|omega
  .simp
  .simp
  .grind
  .omega
 refine bk a [(54,ae)] rfl (by simp;omega) (AK.leaveD rfl rfl ?_);exact cz a rfl ar (AK.bg rfl)
def PX(l:List bu):Ev X 37 [cF.sl l,cF.sl l] [] (dB ab) []:=by
 refine Ev.bQ Tryz.func37 rfl λa=>?_;have b:=a.sl 0 rfl;refine aV [(10,ae)] rfl (by simp) ?_;refine AK.bS 0 (λi=>i<=l.length) (λi:Nat=>[(0,cF.sl l),(1,cF.sl l),(5,dI i)]) (λ_=>[]) (λi=>l.length-i) 0 rfl (by simp) rfl (by simp) rfl (by omega) ?_;intro i hi;by_cases h:i<l.length
 .refine bE [(14,ab),(25,ae)] rfl ?_ (AK.aQ (i+1) rfl ?_ ?_ ?_ ?_)
  .simp[bq,h];omega
  .simp
  .simp
  .show i+1<=_;omega
  .omega
 .refine bE [(14,ae)] rfl (by simp;omega) (AK.leaveD rfl rfl ?_);exact dv rfl ar (AK.bg rfl)
end
def xL{l:List Int}:∀{k:Nat},(ji l k).length=k->∀i,1<=i->i<k->l.getD i 0≠l.getD (i-1) 0
 |0,_,i,_,h=>by omega
 |k+1,h,i,a,b=>by
  have c:=rh l k;rw[ji]at h;split at h
  .omega
  .rename_i d;simp only[b9,eE]at h;by_cases e:i=k
   .grind
   .exact xL (k:=k) (by omega) i a (by omega)
def zo(l:List Int):(j1 l).Pairwise λx y=>x<=y:=by have:=List.pairwise_mergeSort (le:=λx y:Int=>decide (x<=y)) (λa b c e d=>by grind) (λa b=>by grind) l;exact this.imp λh=>by grind
def na(l:List Int):(j1 l).Perm l:=List.mergeSort_perm _ _
def zl(l:List Int):(dG (j1 l)).length=l.length↔l.Nodup:=by
 rw[<-eU l,<-(na l).nodup_iff];have d:=zo l;generalize j1 l=s at *;have a:∀{i:Nat} (h:i<s.length),s.getD i 0=s[i]:=λ{i} h=>by grind
 constructor
 .intro h;have f:=xL h;refine List.Pairwise.imp (R:=λx y=>x<y) (λh e=>by omega) (lO.2 λi j hi hj V8=>?_);have b:=lO.1 d;have c:=f j (by omega) hj;rw[a hj,a (by omega)]at c;have g:=b (j-1) j (by omega) hj (by omega);by_cases e:i=j-1
  .grind
  .have:=b i (j-1) hi (by omega) (by omega);omega
 .intro h;unfold dG;rw[mv (aZ _),cB];grind[List.pairwise_iff_getElem]
structure Tb(x:bw):Prop where
 ex:∃no ps,1<=no/\no<=99/\0<ps.length/\ps.length<=4/\(∀q∈ps,bC q=ab)/\x=om no 7 ps
structure Tc(x:cm):Prop where
 ex:∃no t,1<=no/\no<=20/\db t=ab/\x=kn no 7 t
structure D7(st:bl):Prop where
 p:∀x∈st.1,Tb x
 pl:st.1.length<=20
 s:∀x∈st.2.1,Tc x
 xE:st.2.1.Pairwise λa b=>a.1<b.1
 h:∀x∈st.2.2,(1<=x.1/\x.1<=2)/\1<=x.2/\x.2<=20
 hl:st.2.2.length<=9
 Td:st.1.Pairwise λa b=>a.1<b.1
def lM{t:List bu}(h:db t=ab):qT t:=by
 obtain⟨m,_,_,n⟩:=ou.1 h;have k:∀f∈t,bX f.2=ab/\f.2.length<=40:=λf d=>by have:=(m f d).2;simp only[dO,bP,bc]at this;grind
 refine⟨by omega,λf d=>⟨(k f d).1,by grind⟩,?_⟩;have:∀l:List bu,(∀f∈l,f.2.length<=40)->(jF l).length<=40*l.length:=by
  intro l;induction l with
  |nil=>intro _;simp[jF]
  |cons f r i =>
   intro e;have a:=i λg j=>e g (pD _ j);have b:=e f j6;have c:=mZ f.2;simp only[jF,tr,b9,gd]at a⊢;omega
 grind
theorem Jt(no k:Int)(ps:List Bs):(om no k ps).2.length=ps.length:=ze k ps
def Tb.len{x:bw}(h:Tb x):1<=x.2.length/\x.2.length<=4:=by obtain⟨no,ps,_,_,b,a,_,rfl⟩:=h.ex;grind[Jt]
def Tb.no{x:bw}(h:Tb x):1<=x.1/\x.1<=99:=by obtain⟨no,ps,h1,h2,_,_,_,rfl⟩:=h.ex;exact⟨h1,h2⟩
def Tc.no{x:cm}(h:Tc x):1<=x.1/\x.1<=20:=by obtain⟨no,t,h1,h2,_,rfl⟩:=h.ex;exact⟨h1,h2⟩
def Tc.len{x:cm}(h:Tc x):x.2.length<=6/\∀y∈x.2,y.2.length<=4000000:=by obtain⟨no,t,_,_,b,rfl⟩:=h.ex;have c:=m9 b;refine⟨by simpa[kn]using c,λy a=>?_⟩;simp only[kn,ku]at a;obtain⟨f,d,rfl⟩:=a;have:=((lM b).tg f d).2;have:=mZ f.2;simp only[vC,mH];omega
def Mw{l:List cm}:∀(a:Int),l.Pairwise (λa b=>a.1<b.1)->(∀x∈l,a<=x.1/\x.1<=20)->(l.length:Int)<=max 0 (21-a):=by
 induction l with
 |nil=>grind
 |cons x r d =>
  intro a g c;obtain⟨h,f⟩:=pF.1 g;have i:=c x j6;have:=d (x.1+1) f λy e=>⟨by grind,(c y (pD _ e)).2⟩
  grind
def D7.sl{s:bl}(h:D7 s):s.2.1.length<=20:=by have:=Mw 1 h.xE λx a=>(h.s x a).no;omega
def D7.size{s:bl}(h:D7 s):mm s:=by have h1:=h.pl;have h2:=h.sl;have c:=h.hl;refine⟨by omega,λp a=>by have:=(h.p p a).len;omega,by omega,λx b=>?_,by omega⟩;have:=(h.s x b).len;grind
def D7.num{s:bl}(h:D7 s):FJ s :=
 ⟨λx a=>by have:=(h.p x a).no;omega,λx a=>by have:=(h.s x a).no;omega,λx a=>by have:=(h.h x a).2;omega⟩
def D7.eC{s:bl}(h:D7 s):(eC s.1).length<=100000:=by
 have:∀l:List bw,(∀x∈l,x.2.length<=4)->(R1.eC l).length<=4*l.length:=by
  intro l;induction l with
  |nil=>intro _;simp[R1.eC]
  |cons f r e =>
   intro hl;have a:=e λg d=>hl g (pD _ d);have b:=hl f j6;simp only[R1.eC,tr,b9,mH,gd]at a⊢;omega
 have:=this s.1 λx c=>(h.p x c).len.2;have:=h.pl;omega
def D7.nil:D7 ([],[],[]):=⟨by simp,by simp,by simp,by simp,by simp,by simp,by simp⟩
def xK(k:Int):∀(f:Nat) (no:Int)(ps:List Bs),(∀q∈ps,bC q=ab)->∀x∈gF k f no ps,∃a qs,no<=a/\a<no+(gF k f no ps).length/\0<qs.length/\qs.length<=4/\(∀q∈qs,bC q=ab)/\x=om a k qs
 |0,_,_,_,x,b=>by simp[gF]at b
 |f+1,no,ps,d,x,b=>by
  simp only[gF]at b⊢;split at b
  .rename_i h;rw[bt h];rcases dD.1 b with rfl|b
   .grind
   .obtain⟨a,qs,i,g,e⟩:=xK k f (no+1) (ps.drop 4) (λq c=>d q (List.mem_of_mem_drop c)) x b;grind
  grind
def F7{l:List α}(h:l.length≠0)(d:α):l.getD (l.length-1) d∈l:=fQ (by omega) d
def D7.fO{s:bl}(h:D7 s):1<=fO s:=by
 unfold R1.fO;split
 .omega
 .rename_i a;have:=(h.p _ (F7 a (0,[]))).no;omega
def sh(k:Int):∀(f:Nat) (no:Int)(ps:List Bs),∀x∈gF k f no ps,no<=x.1
 |0,_,_,x,a=>by simp[gF]at a
 |f+1,no,ps,x,a=>by
  simp only[gF]at a;split at a
  .rcases dD.1 a with rfl|a
   .exact Int.le_refl _
   .have:=sh k f (no+1) (ps.drop 4) x a;omega
  grind
def vS(k:Int):∀(f:Nat) (no:Int)(ps:List Bs),(gF k f no ps).Pairwise λa b=>a.1<b.1
 |0,_,_=>by simp[gF]
 |f+1,no,ps=>by
  simp only[gF];split
  .refine pF.2 ⟨λx c=>?_,vS k f (no+1) (ps.drop 4)⟩;have:=sh k f (no+1) (ps.drop 4) x c;show no<x.1;omega
  .simp
def D7.Ju{s:bl}(h:D7 s):∀x∈s.1,x.1<R1.fO s:=by
 unfold R1.fO;split
 .grind
 .rename_i e;intro x d;obtain⟨i,hi,rfl⟩:=dz d;have a:s.1.getD (s.1.length-1) (0,[])=s.1[s.1.length-1]:=by grind
  rw[a];rcases cv i (s.1.length-1)with b|c
  .have:=lO.1 h.Td i (s.1.length-1) hi (by omega) b;omega
  grind
def D7.Jv{s:bl}(h:D7 s):1<=gw s/\∀x∈s.2.1,x.1<gw s:=by
 have hb:=qY s.2.2 h.num.h;unfold gw;split
 .grind
 .rename_i e;refine⟨by omega,λx d=>?_⟩;obtain⟨i,hi,rfl⟩:=dz d;have a:s.2.1.getD (s.2.1.length-1) (0,[])=s.2.1[s.2.1.length-1]:=by grind
  rw[a];rcases cv i (s.2.1.length-1)with b|c
  .have:=lO.1 h.xE i (s.2.1.length-1) hi (by omega) b;omega
  grind
def D7.save{s:bl}{t:List bu}{by_:Int}(h:D7 s)(i:db t=ab)(hb:1<=by_/\by_<=2)(j:sM 7 s t=ae):D7 (gI 7 s by_ t):=by
 simp only[sM,Bool.or_eq_false_iff,bY]at j;obtain⟨m,n,r,o⟩:=j;have q:=h.fO;obtain⟨e,g⟩:=h.Jv;refine⟨λx c=>?_,by simp only[gI,b9];omega,λx c=>?_,?_,λx c=>?_,by simp only[gI,b9,eE];omega,?_⟩
 .simp only[gI]at c;rcases eO.1 c with c|c
  .exact h.p x c
  .obtain⟨d,qs,a1,a2,a3,a4,a5,a6⟩:=xK 7 _ _ _ (vt (k:=7) (l:=indexOf s.1) (lM i)).1 x c;have a2:d<R1.fO s+(xq 7 s t).length:=a2;exact⟨d,qs,by omega,by omega,a3,a4,a5,a6⟩
 .simp only[gI]at c;rcases eO.1 c with c|c
  .exact h.s x c
  .rw[gQ]at c;exact⟨gw s,t,e,by omega,i,c⟩
 .simp only[gI];rw[ox];refine⟨h.xE,by simp,λa f b hb=>?_⟩;rw[gQ]at hb;subst hb;exact g a f
 .simp only[gI]at c;rcases eO.1 c with c|c
  .exact h.h x c
  grind
 .simp only[gI];rw[ox];refine⟨h.Td,vS _ _ _ _,λa f b hb=>?_⟩;have h1:=h.Ju a f;have h2:=sh _ _ _ _ b hb;omega
def xM(n m:Int):∀(l:List Int)(a:List Int)(b:Bool),(b=ab->n∈a) ->
  ((m∈(l.foldl (fZ n) (a,b)).1∨(m=n/\(l.foldl (fZ n) (a,b)).2=ae))↔((m∈a∨(m=n/\b=ae))∨m∈l))
 |[],a,b,_=>by simp
 |y::l,a,b,h=>by
  rw[iT];have one:∀a' b',fZ n (a,b) y=(a',b')->(b'=ab->n∈a')/\((m∈a'∨(m=n/\b'=ae))↔((m∈a∨(m=n/\b=ae))∨m=y)):=λa' b' e=>by unfold fZ at e;grind
  cases f:fZ n (a,b) y with
  |mk a' b' =>
   obtain⟨d,c⟩:=one a' b' f;rw[xM n m l a' b' d,c,dD,or_assoc]
def Jw{l:List Int}{n m:Int}:m∈kF l n↔m∈l∨m=n:=by have:=xM n m l [] ae (by simp);unfold kF;grind
def si{m:Int}:∀{l a:List Int},m∈l.foldl kF a↔m∈a∨m∈l
 |[],a=>by simp
 |x::l,a=>by rw[iT,si,Jw,dD,or_assoc]
def C6{l:List gj}{m:Int}:m∈fS l↔m∈bU l:=by unfold fS;rw[si];simp
def xN{m:Int}:∀{l:List cm}{a:List Int},m∈l.foldl (λout x=>(fS x.2).foldl kF out) a↔m∈a∨∃x∈l,m∈bU x.2
 |[],a=>by simp
 |x::l,a=>by rw[iT,xN,si,C6,or_assoc];simp
def jG{l:List cm}{m:Int}:m∈cY l↔∃x∈l,m∈bU x.2:=by unfold cY;rw[xN];simp
def Bf{l:List Int}{m:Int}:∀{j:Nat},j<=l.length->(m∈ji l j↔m∈l.take j)
 |0,_=>by simp[ji]
 |j+1,h=>by
  have c:=Bf (l:=l) (m:=m) (j:=j) (by omega);rw[ji,bm (by omega) 0];split
  .rename_i b;rw[c,eO];constructor
   .exact .inl
   .rintro(a|a)
    .exact a
    .simp only[gQ]at a;subst a;rw[b.2,ai,bd (by omega)];exact kN.2 ⟨j-1,by simp;omega,by simp⟩
  grind
def nb{x:cm}{m:Int}:m∈cR x↔m∈bU x.2:=by unfold cR dG;rw[Bf (aZ _),cB];exact(na _).mem_iff
def F5{l:List cm}{p:Int->Bool}:(cY l).all p=(a9 l.length).all λi=>!(cR (l.getD i (0,[]))).any λn=>!p n:=by
 rw[oC,List.all_eq_true,c7];constructor
 .intro h i hi;rw[iC,List.any_eq_false];intro n a;have:=h n (jG.2 ⟨_,gz hi,nb.1 a⟩);simp[this]
 .intro h n a;obtain⟨x,d,c⟩:=jG.1 a;obtain⟨i,hi,rfl⟩:=kN.1 d;have b:=h i hi;rw[ai,bd hi,fK,iC,List.any_eq_false]at b;simpa using b n (nb.2 c)
def tT{l:List α}(h:i<l.length)(d:α):l.getD i d=l[i]:=by grind
def tU{f:α->Int}{d:α}{l:List α}:(∀i,i<l.length->xE f d l i=ab)↔l.Pairwise λx y=>f x<f y:=by
 constructor
 .intro h;have key:∀n i j (hi:i<l.length) (a:j<l.length),j=i+n->0<n->f l[i]<f l[j]:=by
   intro n;induction n with
   |zero=>grind
   |succ n g =>
    intro i j hi a b _;have c:=h j a;rw[m6 (by omega),decide_eq_true_iff,tT (by omega),tT a]at c;by_cases e:n=0
    .subst e;grind
    grind
  exact lO.2 λi j hi a b=>key (j-i) i j hi a (by omega) (by omega)
 .intro h i hi;by_cases e:i=0
  .subst e;rfl
  .rw[m6 e,decide_eq_true_iff,tT (by omega),tT hi];exact(lO.1 h) (i-1) i (by omega) hi (by omega)
def tV{l:List α}{p:α->Bool}{d:α}:(∀i,i<l.length->p (l.getD i d)=ab)↔∀x∈l,p x=ab:=by grind[List.mem_iff_getElem]
structure Ew(k:Int)(p:bw):Prop where
 no:1<=p.1/\p.1<=99
 key:cw k=ab
 len:1<=p.2.length/\p.2.length<=4
 rt:∀x∈p.2,right k x=ab
 xE:p.2.Pairwise λx y=>x.1<y.1
def vT{k:Int}{p:bw}:iG k p=ab↔Ew k p:=by
 rw[oo];simp only[bP,bc,c7];have e:(∀i,i<p.2.length->ia k p i=ab)↔(∀x∈p.2,right k x=ab)/\p.2.Pairwise λx y=>x.1<y.1:=by
  rw[<-tV (d:=(0,[])),<-tU (f:=λx:ck=>x.1) (d:=(0,[]))];constructor
  .intro h;exact⟨λi hi=>by have:=h i hi;simp only[ia,bP]at this;exact this.1,λi hi=>by have:=h i hi;simp only[ia,bP]at this;exact this.2⟩
  .intro h i hi;simp only[ia,bP];exact⟨h.1 i hi,h.2 i hi⟩
 rw[e];constructor
 .rintro⟨⟨⟨j,g⟩,c⟩,b,a⟩;exact⟨j,g,c,b,a⟩
 .rintro⟨j,g,c,b,a⟩;grind
structure zp(k:Int)(s:bl):Prop where
 pk:∀p∈s.1,Ew k p
 pa:s.1.Pairwise λp q=>p.1<q.1
 nd:(bO s.1).Nodup
 sn:∀x∈s.2.1,(1<=x.1/\x.1<=20)/\(cE k x s.1).isSome=ab
 sa:s.2.1.Pairwise λx y=>x.1<y.1
 key:cw k=ab
 log:oq s.2.2=ab
 len:s.1.length<=20
def sT{k:Int}{s:bl}:fw k s=ab↔zp k s:=by
 unfold fw;simp only[bP,bc,c7];have o:(∀i,i<s.1.length->lj k s.1 i=ab)↔(∀p∈s.1,Ew k p)/\s.1.Pairwise λp q=>p.1<q.1:=by
  rw[<-tU (f:=λp:bw=>p.1) (d:=(0,[]))];have:(∀p∈s.1,Ew k p)↔∀p∈s.1,iG k p=ab:=⟨λh p b=>vT.2 (h p b),λh p b=>vT.1 (h p b)⟩
  rw[this,<-tV (d:=(0,[]))];constructor
  .intro h;exact⟨λi hi=>by have:=h i hi;simp only[lj,bP]at this;exact this.1,λi hi=>by have:=h i hi;simp only[lj,bP]at this;exact this.2⟩
  .intro h i hi;simp only[lj,bP];grind
 have r:(∀i,i<s.2.1.length->jf k s i=ab)↔(∀x∈s.2.1,(1<=x.1/\x.1<=20)/\(cE k x s.1).isSome=ab)/\s.2.1.Pairwise λx y=>x.1<y.1:=by
  rw[<-tU (f:=λp:cm=>p.1) (d:=(0,[]))];have:(∀x∈s.2.1,(1<=x.1/\x.1<=20)/\(cE k x s.1).isSome=ab)↔∀x∈s.2.1,(decide (1<=x.1/\x.1<=20)&&(cE k x s.1).isSome)=ab:=by grind
  rw[this,<-tV (d:=(0,[]))];constructor
  .intro h;exact⟨λi hi=>by have:=h i hi;simp only[jf,bP]at this⊢;grind,λi hi=>by have:=h i hi;simp only[jf,bP]at this;exact this.1.2⟩
  .intro h i hi;have a:=h.1 i hi;simp only[jf,bP]at a⊢;grind
 rw[o,r];constructor
 .rintro⟨⟨⟨⟨⟨⟨a,m⟩,j⟩,g,e⟩,n⟩,l⟩,c⟩;exact⟨a,m,j,g,e,n,l,c⟩
 .rintro⟨a,m,j,g,e,n,l,c⟩;grind
structure Jx(k:Int)(w:iJ):Prop extends zp k w.1 where
 mk':∀x∈w.1.2.1,∀n∈bU x.2,n∈w.2.1
 lp:∀n∈w.2.2,∃p∈w.1.1,p.1=n
 la:w.2.2.Pairwise λx y=>x<y
def Bg{k:Int}{w:iJ}:pf k w=ab↔Jx k w:=by
 unfold pf;simp only[bP,sT,c7];have l:(cY w.1.2.1).all (λn=>w.2.1.contains n)=ab↔∀x∈w.1.2.1,∀n∈bU x.2,n∈w.2.1:=by
  rw[List.all_eq_true];constructor
  .intro h x e n a;simpa using h n (jG.2 ⟨x,e,a⟩)
  .intro h n a;obtain⟨x,e,a⟩:=jG.1 a;grind
 have m:(∀i,i<w.2.2.length->m7 w.1.1 w.2.2 i=ab)↔(∀n∈w.2.2,∃p∈w.1.1,p.1=n)/\w.2.2.Pairwise λx y=>x<y:=by
  rw[<-tU (f:=λn:Int=>n) (d:=0)];have:(∀n∈w.2.2,∃p∈w.1.1,p.1=n)↔∀n∈w.2.2,(w.1.1.any λp=>p.1==n)=ab:=by simp
  rw[this,<-tV (d:=0)];constructor
  .intro h;exact⟨λi hi=>by have:=h i hi;simp only[m7,bP]at this;exact this.1,λi hi=>by have:=h i hi;simp only[m7,bP]at this;exact this.2⟩
  .intro h i hi;simp only[m7,bP];grind
 rw[l,m];constructor
 .rintro⟨⟨j,g,c⟩,b⟩;exact⟨b,j,g,c⟩
 .rintro⟨b,j,g,c⟩;grind
section
variable {X:Cx ag}[X.gY]
abbrev NJ:List bu:=[([97],[104,101,108,108,111])]
def IS:db NJ=ab:=by decide +kernel
abbrev SJ(k:Nat):={q:List bu×Nat // db q.1=ab/\k<=q.2/\q.2<=k+400}
def Ma(m:Nat)(b:Nat->Int)(j:Bytes b)(k:Nat)(h:k<=50000)(g:m<=1048576):
  dK (ι:=SJ k) X 84 [.e (.one (.ptr 0 0))] [j0 m b k] (λq=>cF.sl q.1.1) (λq=>[j0 m b q.1.2]):=by
 refine dK.nw Tryz.func84 rfl rfl rfl λf=>?_;refine br rfl ar ?_;refine AK.cP (Mb m b j k h g) [0] rfl (λ_=>rfl) ?_;rintro⟨t,bf,xs,k1,fl,l,a,c⟩;refine aV [(1000002,ab)] rfl ar ?_;refine AK.ue 3 1 (cF.fn t) rfl rfl fl.rd ?_;refine br rfl ar ?_;refine AK.cQ (xu t) [] rfl ?_;cases d:db t with
 |true =>
  refine br rfl ar (AK.kl ⟨(t,k1),d,a,c⟩ (AK.dA [0] rfl ?_ rfl rfl rfl gM));simp
 |false =>
  refine br rfl ar (AK.kl ⟨(NJ,k1),IS,a,c⟩ (AK.dA [0] rfl ?_ rfl rfl rfl gM));refine⟨rfl,λi hi=>?_⟩;have:i=0:=by grind
  subst this;rfl
end
end R1
def dK.die{X:Cx P}{f:aP}{args:List D}{E:Nat}{b:Nat->List C}{w:BP}{es:ι->Nat->List C}{m:ι->Nat}(h:dK X f args [.buf E k n b] (λ_=>.e (.one (.bp 0 w))) (λi=>[.buf E k (m i) (es i)])):Ev X f args [.buf E k n b] (.e (.one (.bp 0 w))) [.dead] :=
 ⟨h.1,λs vs hr hh S cs hS=>h.2 s vs hr hh S cs λi fr v s' hl l5 iQ st=>hS fr v s' hl (by
  obtain⟨lv,h1,_,_⟩:fU _ _ _ (.bp 0 w):=l5;exact(⟨lv,h1,by simp,λ_ _ _ _ hb=>by grind⟩:fU [.dead] s' v (.bp 0 w))) iQ.kz
  ⟨st.size,st.keep,st.mem,st.iq,st.tB,λl B L a c=>by
   obtain⟨B',L',h1,h2,d⟩:=st.box l B L a c;cases l with
   |zero=>simp at a;subst a;exact⟨.dead,L',rfl,h2,ar⟩
   |succ l=>grind,st.os,st.tape,st.output,st.own⟩⟩
namespace R1
variable {X:Cx ag}
def C1(h:ra):Ev X 83 [V4 h] [] (dB (im h)) []:=by
 refine Ev.bQ Tryz.func83 rfl λb=>?_;have a:bA X []:=.nil;unfold im;by_cases c1:h.1=1
 .by_cases c3:1<=h.2
  .exact aM a [(6,ab),(11,ab),(16,ab)] rfl (by simp[c1,c3]) (AK.bg rfl (by simp[c1,c3]))
  .exact aM a [(6,ab),(11,ab),(16,ae)] rfl (by simp[c1];omega) (AK.bg rfl (by simp[c3]))
 .by_cases c2:h.1=2
  .by_cases c3:1<=h.2
   .exact aM a [(6,ae),(11,ab),(16,ab)] rfl (by simp[c2,c3]) (AK.bg rfl (by simp[c2,c3]))
   .exact aM a [(6,ae),(11,ab),(16,ae)] rfl (by simp[c2];omega) (AK.bg rfl (by simp[c3]))
  .exact aM a [(6,ae),(11,ae),(16,ae)] rfl (by simp[c1,c2]) (AK.bg rfl (by
    have:¬(1<=h.1/\h.1<=2):=by omega
    simp only[au,gf this];simp))
def FZ(h:ra):Ev X 82 [V4 h] [] (dB (!im h)) []:=by refine Ev.bQ Tryz.func82 rfl λb=>?_;have a:bA X [(83,ki T5 (λh=>dB (im h)) λ_=>[])]:=.cons (.oe λh _=>C1 h) .nil;exact bR a rfl ar (AK.bg rfl)
def F0(l:List ra):oq l=(decide (l.length<=9)&&!l.any λh=>!im h):=by
 have:(a9 l.length).all (λi=>im (l.getD i (0,0)))=!l.any λh=>!im h:=by rw[oC,c7,iC,List.any_eq_false];grind[List.mem_iff_getElem]
 rw[oq,this,Bool.and_comm]
def F1(l:List ra):Ev X 52 [cH.sl l] [] (dB (oq l)) []:=by
 refine Ev.bQ Tryz.func52 rfl λd=>?_;have a:=I4 (X:=X) l 82 (λh=>!im h) λx _=>FZ x;have b:bA X [(81,wF [cH.sl l,.e (.one (.c (.fn (.func 82) [] [])))] (dB (l.any λh=>!im h)))]:=.cons (AH a) .nil;rw[F0];by_cases h:l.length<=9
 .exact aM b [(6,ab)] rfl ⟨rfl,cV (by omega)⟩ (AK.bg rfl (by simp[h]))
 .exact aM b [(6,ae)] rfl (by simp;omega) (AK.bg rfl (by simp[gf h]))
def Mv:dw X 52 tS:=.oe λl _=>F1 l
def zk(p:bw)(f:p.2.length<=4000000):Ev X 79 [D9 p] [] (cI.sl (p.2.map (·.1))) []:=by
 refine Ev.bQ Tryz.func79 rfl λd=>?_;refine aV [(1000002,ab)] rfl ar ?_;refine AK.g8 3 3 1 rfl rfl ?_;refine br rfl ar ?_;refine AK.bS 2 (λi=>i<=p.2.length) (λi:Nat=>[(1,.e (.one (.ptr 0 0))),(3,.e (.one (.vec 1 1 i (cI.fn ((p.2.take i).map (·.1)))))),(7,eb.sl p.2),(8,dI p.2.length),(9,dI i)]) (λi=>[PZ p,.vec 3 1 i (cI.fn ((p.2.take i).map (·.1)))]) (λi=>p.2.length-i) 0 rfl (by simp) rfl (by simp) rfl (by omega) ?_;intro i hi;by_cases h:i<p.2.length
 .have b:p.2.getD (i:Int).toNat eb.bG=gk p i:=by grind
  have a:(p.2.take (i+1)).map (·.1)=(p.2.take i).map (·.1)++[(gk p i).1]:=by grind[bm]
  have c:((p.2.take i).map (·.1)).length=i:=by grind
  have e:=cI.cg ((p.2.take i).map (·.1)) (gk p i).1;rw[c]at e;refine aV [(10,ab)] rfl ?_ (AK.aQ (i+1) rfl ?_ ?_ h (by omega))
  .simp only[au,bq,show i3.bytes=8 from rfl];grind
  .rw[a];simp only[au.cat,au,b,aF,aE];and_intros<;>first|exact cn.same|exact e|rfl|omega
  .rw[a];simp only[au.cat,au,b,aF,aE];and_intros<;>first|exact cn.same|exact e|rfl|omega
 obtain rfl:i=p.2.length:=by omega
 rw[cB];refine aV [(10,ae)] rfl (by simp) (AK.leaveD rfl rfl ?_);exact br rfl ar (AK.bg rfl)
abbrev Bb:di:=ki (BF eb) (λp=>cI.sl (p.2.map (·.1))) λp=>[p.2.length<=4000000]
def Jn:dw X 79 Bb:=.oe λp h=>zk p h
def F2(ps:List bw)(i:Nat):(bO (ps.take i)).length<=(bO ps).length:=by
 have:bO ps=bO (ps.take i)++bO (ps.drop i):=by unfold bO;grind[List.take_append_drop]
 grind
abbrev V6(l:List Int):D:=.e (.one (.bp 0 (.sl l.length 1 0 l.length)))
def Bc(ps:List bw)(o:∀p∈ps,p.2.length<=4000000)(q:(bO ps).length<=4000000):Ev X 48 [cP.sl ps] [] (V6 (bO ps)) [zF (bO ps).length (bO ps)]:=by
 refine Ev.bQ Tryz.func48 rfl λn=>?_;have k:=n.sl 0 rfl;have c:bA X [(79,Bb)]:=.cons Jn .nil;refine aM c [(1000002,ab)] rfl ar ?_;refine AK.R9 3 3 1 (cI.fn []) rfl ?_;refine bR c rfl ar ?_;refine AK.bS 1 (λi=>i<=ps.length) (λi:Nat=>[(3,.e (.one (.bp 0 (.sl (bO (ps.take i)).length 1 0 (bO (ps.take i)).length)))),(6,cP.sl ps),(7,dI ps.length),(8,dI i)]) (λi=>[zF (bO (ps.take i)).length (bO (ps.take i))]) (λi=>ps.length-i) 0 rfl (by simp[bO]) rfl (by simp[cn,bO]) rfl (by omega) ?_;intro i hi;by_cases h:i<ps.length
 .have g:ps.getD (i:Int).toNat cP.bG=ps.getD i (0,[]):=by grind
  have b:=vJ h;have f:=F2 ps (i+1);have m:=o _ (gz (d:=(0,[])) h);generalize ps.getD i (0,[])=p at *;rw[b]at f;generalize bO (ps.take i)=a at *;have e:=cI.Jo a (p.2.map (·.1)) _ rfl;simp only[b9,mH]at f e;refine aM c [(9,ab)] rfl ?_ (AK.aQ (i+1) rfl ?_ ?_ h (by omega))
  .simp only[au,g,bq,eb.list_fn,eb.aR,mH,show i3.bytes=8 from rfl];grind
  .rw[b];simp only[au.cat,au,g,eb.list_fn,b9,mH,aF,aE];and_intros<;>first|exact cn.same|rfl|omega
  .rw[b];simp only[au.cat,au,g,eb.list_fn,b9,mH,aF,aE];grind
 obtain rfl:i=ps.length:=by omega
 rw[cB];refine aM c [(9,ae)] rfl (by simp) (AK.leaveD rfl rfl ?_);refine bR c rfl ar (AK.dA [0] rfl ?_ rfl rfl rfl (λj l=>absurd l (by simp)));simp
def F3(ps:List bw)(b:∀p∈ps,p.2.length<=4000000)(a:(bO ps).length<=4000000):Ev X 48 [cP.sl ps] [] (cI.sl (bO ps)) [] :=
 Ev.Ax (σ1:=[]) (E:=3) (k:=1) (n:=(bO ps).length) (es:=cI.fn (bO ps)) (Bc ps b a) rfl (by simp) rfl (aZ _)
end R1
section
namespace R1
variable {X:Cx ag}[X.gY]
abbrev iI:ba:=.cells 27 [iH,iH,iH]
abbrev f92(t:List bu)(n:Nat):Fr:=[(0,.e (.one (.ptr 0 0))),(2,.e (.one (.ptr 1 0))),(3,.e (.one (.ptr 2 0))),(4,cF.sl t),(5,dI n)]
end R1
end
namespace R1
section
variable {X:Cx ag}
def C2(s:bl):Ev X 47 [o8 s] [] (o8 s) []:=by refine Ev.nW Tryz.func47 rfl rfl rfl λa=>?_;refine br rfl (by simp) ?_;refine AK.freeze 2 1 rfl rfl rfl ?_;exact AK.BU tok [] rfl (by simp) rfl rfl rfl (λj b=>absurd b (by simp))
abbrev Jp:di:=ki Ks (λs=>o8 s) λ_=>[]
def P4:dw X 47 Jp:=.oe λs _=>C2 s
abbrev Gv(s:bl):ba:=.cells 85 [.c (.sl ae 2 s.1.length (cP.fn s.1)),.c (.sl ae 2 s.2.1.length (dZ.fn s.2.1)),.c (.sl ae 2 s.2.2.length (cH.fn s.2.2))]
structure Jq(s:bl):Prop extends Xv s where
 pk:∀p∈s.1,p.2.length<=4000000
 nm:(bO s.1).length<=4000000
def xH(k:Int)(s:bl):Bool:=(a9 s.1.length).all (lj k s.1)&&decide (s.1.length<=20)&&decide (bO s.1).Nodup
def C3(k:Int)(s:bl)(v:cw k=ab)(g:Jq s):Ev X 50 [o8 s,dI k] [] (dB (xH k s)) []:=by
 refine Ev.bQ Tryz.func50 rfl λG=>?_;have E:=g.pN;have y:=g.pk;have z:=F3 (X:=X) s.1 g.pk g.nm;have n:bA X [(80,Ec)]:=.cons LN .nil;refine bR n rfl ar ?_;unfold xH;refine AK.bS 1 (λi=>i<=s.1.length/\∀j,j<i->lj k s.1 j=ab) (λi:Nat=>[(1,dI k),(2,.e (.one (.ptr 0 0))),(9,cP.sl s.1),(10,dI s.1.length),(11,dI i)]) (λ_=>[Gv s]) (λi=>s.1.length-i) 0 rfl (by simp) rfl (by simp) rfl ⟨by omega,by omega⟩ ?_;rintro i ⟨hi,a⟩;by_cases h:i<s.1.length
 .have w:s.1.getD i cP.bG=s.1.getD i (0,[]):=rfl;have r:s.1.getD (i-1) cP.bG=s.1.getD (i-1) (0,[]):=rfl;have b:lj k s.1 i=(iG k (s.1.getD i (0,[]))&&xE (·.1) (0,[]) s.1 i):=rfl;have u:=m6 (f:=λp:bw=>p.1) (d:=(0,[])) (l:=s.1) (i:=i);have c:=y _ (gz (d:=(0,[])) h);generalize s.1.getD i (0,[])=p at *;generalize s.1.getD (i-1) (0,[])=p' at *;cases o:iG k p with
  |false =>
   rw[o,qq]at b;refine aM n [(12,ab),(20,ab),(35,ab)] rfl ?_ (AK.eK (b7.zero rfl ?_))
   .simp[-ai,w,v,c,o,eb.list_fn,eb.aR];omega
   .rw[fA h b];simp
  |true =>
   rw[o,eZ]at b;by_cases A:i=0
   .subst A;refine aM n [(12,ab),(20,ae),(23,ae),(35,ae)] rfl ?_ (AK.aQ 1 rfl (by simp) (by simp) ⟨h,gJ a (by rw[b];rfl)⟩ (by omega));simp[-ai,w,v,c,o,eb.list_fn,eb.aR,bq];omega
   have u:=u A;by_cases D:p'.1<p.1
   .refine aM n [(12,ab),(20,ae),(23,ab),(33,ae),(35,ae)] rfl ?_ (AK.aQ (i+1) rfl (by simp) (by simp) ⟨h,gJ a (by grind)⟩ (by omega));simp[-ai,w,r,v,c,o,eb.list_fn,eb.aR,bq];omega
   .refine aM n [(12,ab),(20,ae),(23,ab),(33,ab),(35,ab)] rfl ?_ (AK.eK (b7.zero rfl ?_))
    .simp[-ai,w,r,v,c,o,eb.list_fn,eb.aR,bq];omega
    .rw[fA h (by grind)];simp
 obtain rfl:i=s.1.length:=by omega
 rw[c7.2 a,eZ];refine aM n [(12,ae)] rfl (by simp) (AK.leaveD rfl rfl ?_);refine bR n rfl ar ?_;refine AK.cQ (Bc s.1 g.pk g.nm) [] rfl ?_;refine bR n rfl ar ?_;refine AK.cQ (vN (bO s.1) g.nm) [1] rfl ?_;have C:=zl (bO s.1);have q:=(vO (X:=X) (j1 (bO s.1)) (by rw[eU];exact g.nm)).die;rw[eU]at q;have x:=m8 (j1 (bO s.1));rw[eU]at x;have B:=g.nm;generalize dG (j1 (bO s.1))=cs at *;generalize j1 (bO s.1)=so at *;have o7:bA X [(72,Nz [jN (bO s.1).length] [zF (bO s.1).length so] (.e (.one (.bp 0 (.sl (bO s.1).length 1 0 cs.length)))) [.dead]),(48,wF [cP.sl s.1] (cI.sl (bO s.1)))]:=.cons (Sk q) (.cons (AH z) .nil);refine aM o7 [(1000009,ab)] rfl ar ?_;by_cases t:s.1.length<=20
 rotate_left
 .refine aM o7 [(46,ae)] rfl ?_ (AK.bg rfl ?_)
  .simp;omega
  .simp[t]
 have m:(s.1.length:Int)<=20:=by omega
 generalize F:bO s.1=N at *;refine AK.Kq (ι:=Unit) de 6 (λi=>match bn i 5 with|true=>ab|false=>match av i 8 with|true=>ab|false=>av i 9) (λi=>[.e (.one (.ptr 0 0)),cP.sl s.1,dI s.1.length,dB (decide ((s.1.length:Int)<=20)),dB ab,.e (.one (.bp 1 (.sl N.length 1 0 N.length))),.any,.any,.e (.one (.ptr 0 0)),cP.sl s.1].getD i .any)
  (λ_ i=>[.any,.any,.any,.any,.any,.any,.e (.one (.bp 1 (.sl N.length 1 0 cs.length))),dI cs.length,.any,.any,cI.sl N,dI N.length,dB ((cs.length:Int)==N.length),dB ((cs.length:Int)==N.length),dB ((cs.length:Int)==N.length)].getD i .any) (λ_=>[Gv s,.dead]) rfl rfl rfl rfl rfl rfl ?_ ?_ ?_ ?_
 .exact⟨.dg tok o7 rfl,.dg tok o7 rfl,.dg tok o7 rfl,.dg tok o7 rfl,.eval tok o7 (ds:=[(46,ab)]) rfl (cV m),.dg tok o7 rfl,ar,ar,.dg tok o7 rfl,.dg tok o7 rfl,ar,ar,ar,ar,ar,ar⟩
 .intro _;exact⟨.dg tok o7 rfl,.dg tok o7 rfl,.dg tok o7 rfl,.dg tok o7 rfl,.eval tok o7 (ds:=[(46,ab)]) rfl (cV m),.dg tok o7 rfl,ar,.dg tok o7 rfl,.dg tok o7 rfl,.dg tok o7 rfl,.eval tok o7 (ds:=[]) rfl rfl,.dg tok o7 rfl,.dg tok o7 rfl,.dg tok o7 rfl,.dg tok o7 rfl,ar⟩
 .exact .yN (gD tok o7 (ds:=[]) (σ':=aa [Gv s,.dead]) rfl ⟨rfl,rfl⟩)
 .intro _;refine bR o7 rfl ar (AK.bg rfl ?_);have:((cs.length:Int)==N.length)=decide N.Nodup:=by grind
  simp[this,t]
def lk:List (Int×Int)->C
 |[]=>.nQ
 |h::t=>.rp [.int .i64 h.1,.int .i64 h.2,lk t]
end
abbrev cTr:List (Nat×di):=[(70,rW)]
def C4(k:Int)(s:bl)(u:Jq s):Ev (Cx.beside ag) 51 [o8 s,dI k] [] (dB ((a9 s.2.1.length).all (jf k s))) []:=by
 refine Ev.bQ Tryz.func51 rfl λw=>?_;have x:=u.sN;have r:=u.sm;have c:bA (Cx.beside ag) cTr:=.cons xm .nil;refine bR c rfl ar ?_;refine AK.bS 1 (λi=>i<=s.2.1.length/\∀j,j<i->jf k s j=ab) (λi:Nat=>[(1,dI k),(2,.e (.one (.ptr 0 0))),(10,dZ.sl s.2.1),(11,dI s.2.1.length),(12,dI i)]) (λ_=>[Gv s]) (λi=>s.2.1.length-i) 0 rfl (by simp) rfl (by simp) rfl ⟨by omega,by omega⟩ ?_;rintro i ⟨hi,b⟩;by_cases h:i<s.2.1.length
 .have o:s.2.1.getD i dZ.bG=s.2.1.getD i (0,[]):=rfl;have n:s.2.1.getD (i-1) dZ.bG=s.2.1.getD (i-1) (0,[]):=rfl;have a:jf k s i=(decide (1<=(s.2.1.getD i (0,[])).1/\(s.2.1.getD i (0,[])).1<=20)&&xE (·.1) (0,[]) s.2.1 i&&(cE k (s.2.1.getD i (0,[])) s.1).isSome):=rfl;have q:=m6 (f:=λp:cm=>p.1) (d:=(0,[])) (l:=s.2.1) (i:=i);have g:=r _ (gz (d:=(0,[])) h);generalize s.2.1.getD i (0,[])=p at *;generalize s.2.1.getD (i-1) (0,[])=p' at *;by_cases c1:1<=p.1
  rotate_left
  .refine aM c [(13,ab),(20,ab),(25,ab),(40,ab)] rfl ?_ (AK.eK (b7.zero rfl ?_))
   .simp[-ai,o];omega
   .rw[fA h (by grind)];simp
  by_cases c2:p.1<=20
  rotate_left
  .refine aM c [(13,ab),(20,ae),(25,ab),(40,ab)] rfl ?_ (AK.eK (b7.zero rfl ?_))
   .simp[-ai,o];omega
   .rw[fA h (by grind)];simp
  rw[cV ⟨c1,c2⟩,eZ]at a;by_cases t:i=0
  .subst t;rw[show xE (·.1) (0,[]) s.2.1 0=ab from rfl,eZ]at a;cases m:(cE k p s.1).isSome with
   |false =>
    refine aM c [(13,ab),(20,ae),(25,ae),(27,ae),(40,ae),(50,ab)] rfl ?_ (AK.eK (b7.zero rfl ?_))
    .simp[-ai,o,bq,cL.list_fn,cL.aR,cP.list_fn,cP.aR,m,g.1];and_intros<;>first|omega|grind
    .rw[fA h (a.trans m)];simp
   |true =>
    refine aM c [(13,ab),(20,ae),(25,ae),(27,ae),(40,ae),(50,ae)] rfl ?_ (AK.aQ 1 rfl (by simp) (by simp) ⟨h,gJ b (a.trans m)⟩ (by omega));simp[-ai,o,bq,cL.list_fn,cL.aR,cP.list_fn,cP.aR,m,g.1];and_intros<;>first|omega|grind
  rw[q t]at a;by_cases v:p'.1<p.1
  rotate_left
  .refine aM c [(13,ab),(20,ae),(25,ae),(28,ab),(38,ab),(40,ab)] rfl ?_ (AK.eK (b7.zero rfl ?_))
   .simp[-ai,o,n,bq];omega
   .rw[fA h (by grind)];simp
  rw[cV v,eZ]at a;cases m:(cE k p s.1).isSome with
  |false =>
   refine aM c [(13,ab),(20,ae),(25,ae),(28,ab),(38,ae),(40,ae),(50,ab)] rfl ?_ (AK.eK (b7.zero rfl ?_))
   .simp[-ai,o,n,bq,cL.list_fn,cL.aR,cP.list_fn,cP.aR,m,g.1];and_intros<;>first|omega|grind
   .rw[fA h (a.trans m)];simp
  |true =>
   refine aM c [(13,ab),(20,ae),(25,ae),(28,ab),(38,ae),(40,ae),(50,ae)] rfl ?_ (AK.aQ (i+1) rfl (by simp) (by simp) ⟨h,gJ b (a.trans m)⟩ (by omega));simp[-ai,o,n,bq,cL.list_fn,cL.aR,cP.list_fn,cP.aR,m,g.1];and_intros<;>first|omega|grind
 obtain rfl:i=s.2.1.length:=by omega
 rw[c7.2 b];refine aM c [(13,ae)] rfl (by simp) (AK.leaveD rfl rfl ?_);exact bR c rfl ar (AK.bg rfl)
def wK(k:Int)(s:bl):fw k s=(cw k&&xH k s&&(a9 s.2.1.length).all (jf k s)&&oq s.2.2):=by unfold fw xH;cases(a9 s.1.length).all (lj k s.1)<;>cases decide (bO s.1).Nodup<;>cases(a9 s.2.1.length).all (jf k s)<;>cases cw k<;>cases oq s.2.2<;>cases decide (s.1.length<=20)<;>rfl
abbrev P5:di:=mX Ks aI (λs k=>dB (xH k s)) λs k=>[cw k=ab,Jq s]
abbrev P6:di:=mX Ks aI (λs k=>dB ((a9 s.2.1.length).all (jf k s))) λs _=>[Jq s]
def Bd(k:Int)(s:bl)(f:Jq s):Ev (Cx.beside ag) 20 [dI k,o8 s] [] (dB (fw k s)) []:=by
 refine Ev.bQ Tryz.func20 rfl λj=>?_;have d:bA (Cx.beside ag) [(47,Jp),(49,ki aI (λk=>dB (cw k)) λ_=>[]),(50,P5),(51,P6),(52,tS)]:=.cons P4 (.cons t49 (.cons (.px λs k h=>C3 k s h.1 h.2) (.cons (.px λs k h=>C4 k s h) (.cons Mv .nil))));have b:=cP.list_fn s.1;have c:=dZ.list_fn s.2.1;have a:=cH.list_fn s.2.2;rw[wK];cases e:cw k
 .exact aM d [(10,ae),(15,ae),(20,ae)] rfl (by simp[e,b,c,a,cP.aR,dZ.aR,cH.aR]) (AK.bg rfl)
 cases g:xH k s
 .exact aM d [(10,ab),(15,ae),(20,ae)] rfl (by simp[e,b,c,a,cP.aR,dZ.aR,cH.aR,f,g]) (AK.bg rfl)
 cases i:(a9 s.2.1.length).all (jf k s)
 .exact aM d [(10,ab),(15,ab),(20,ae)] rfl (by simp[-List.all_eq_true,-List.all_eq_false,e,b,c,a,cP.aR,dZ.aR,cH.aR,f,g,i]) (AK.bg rfl)
 exact aM d [(10,ab),(15,ab),(20,ab)] rfl (by simp[-List.all_eq_true,-List.all_eq_false,e,b,c,a,cP.aR,dZ.aR,cH.aR,f,g,i]) (AK.bg rfl (by simp[a]))
abbrev sd:di:=mX aI Ks (λk s=>dB (fw k s)) λ_ s=>[Jq s]
def xI:dw (Cx.beside ag) 20 sd:=.px λk s h=>Bd k s h
structure Te(s:bl):Prop where
 a1:s.1.length<=20
 a2:∀p∈s.1,(1<=p.1/\p.1<=99)/\p.2.length<=4
 a3:s.2.1.length<=21
 a4:∀x∈s.2.1,(1<=x.1/\x.1<=20)/\x.2.length<=6/\∀y∈x.2,y.2.length<=40
 a5:s.2.2.length<=9
 a6:∀h∈s.2.2,1<=h.2/\h.2<=20
def nc{α a:Type}{f:α->List a}{n:Nat}:∀{l:List α},(∀x∈l,(f x).length<=n)->(l.flatMap f).length<=n*l.length
 |[],_=>by simp
 |x::l,h=>by have d:=h x j6;have c:=nc (l:=l) λy b=>h y (pD _ b);grind[Nat.mul_succ]
def C7{x:cm}(h:x.2.length<=6/\∀y∈x.2,y.2.length<=40):(bU x.2).length<=240:=by have:=nc (f:=λy:gj=>y.2) (n:=40) h.2;unfold bU;omega
structure TA(s:bl):Prop extends Te s where
 pa:s.1.Pairwise λp q=>p.1<q.1
 sa:s.2.1.Pairwise λx y=>x.1<y.1
 hb:∀h∈s.2.2,1<=h.1/\h.1<=2
structure TW(n:Nat)(w:iJ):Prop where
 s:TA w.1
 m:w.2.1.length<=n
 l:w.2.2.length<=20
abbrev Uc:iJ:=(([],[],[]),[],[])
def Dh(k:Int)(s:bl)(keep:List Int):iJ×Bool :=
 if fw k s=ab then(((s.1,s.2.1.filter λx=>keep.contains x.1,s.2.2),cY (s.2.1.filter λx=>keep.contains x.1),s.1.map (·.1)),ab)else(Uc,ae)
section
variable {X:Cx ag}
end
def Df(k:Int)(s x:bl)(c:il s)(d:il x)(g:s.2.1.length<=4000000)(h:∀y∈s.2.1,eB k x y.1=eB k s y.1):Ev (Cx.beside ag) 14 [dI k,o8 s,o8 x] [] (dB ab) []:=by
 refine Ev.bQ Tryz.func14 rfl λj=>?_;refine br rfl ar ?_;refine AK.loop (λi=>i<=s.2.1.length) (λi:Nat=>[(0,dI k),(4,.e (.one (.ptr 0 0))),(5,.e (.one (.ptr 1 0))),(7,dI i)]) (λ_=>[qX s,qX x]) (λi=>s.2.1.length-i) 0 (by omega) (cG rfl (by simp)) rfl ?_;intro i hi;by_cases a:i<s.2.1.length
 .have f:s.2.1.getD (i:Int).toNat dZ.bG=s.2.1.getD i (0,[]):=rfl;have e:=h _ (fQ a (0,[]));generalize s.2.1.getD i (0,[])=y at *;have b:bA (Cx.beside ag) [(36,vj),(37,wF [cF.sl ((eB k s y.1).getD []),cF.sl ((eB k s y.1).getD [])] (dB ab))]:=.cons CG (.cons (AH (PX _)) .nil);refine bk b [(16,ab),(46,ae),(51,ae)] rfl ?_ ⟨i+1,a,by omega,cG rfl (by simp),rfl⟩;simp only[au,f,cP.list_fn,dZ.list_fn,cH.list_fn,e,bq];and_intros<;>first|rfl|exact cP.aR _|exact dZ.aR _|exact cH.aR _|exact c|exact d|omega|simp;omega|simp
 obtain rfl:i=s.2.1.length:=by omega
 refine aV [(16,ae)] rfl (by simp) (AK.leave rfl rfl ?_);exact br rfl ar (AK.bg rfl)
section
variable {X:Cx ag}
def i63:TI:=⟨1,8,ae,TypeDesc.map 3 4,[.val (.map af)],[]⟩
def g63:dq ag 63 i63:=⟨Tryz.underlying63,rfl,⟨Tryz.t63,_,ff Tryz.type63,rfl,rfl,rfl,rfl,⟨#[],rfl⟩,rfl⟩,λh=>absurd rfl h⟩
def ek:c6 ag ((63,i63)::tt):=c6.cons g63 tok
abbrev QT(v:aj):D:=.e (.one (.v v))
abbrev nG(a:aj)(l:List Int):ba:=.cp (nF a l)
def Jr(c:aj)(a l:List Int):Ev X 32 [QT c,cI.sl l] [nG c a] (.fe []) [nG c (a++l)]:=by
 refine Ev.bQ Tryz.func32 rfl λf=>?_;have d:=f.sl 1 rfl;refine AK.c8 de ek bA.nil [] 100 rfl ar ?_;refine AK.bS 1 (λi=>i<=l.length) (λi:Nat=>[(0,QT c),(6,cI.sl l),(7,dI l.length),(8,dI i)]) (λi=>[nG c (a++l.take i)]) (λi=>l.length-i) 0 rfl (by simp) rfl (by simp) rfl (by omega) ?_;intro i hi;by_cases h:i<l.length
 .have e:l.getD (i:Int).toNat cI.bG=l.getD i 0:=by rw[bF];rfl
  refine AK.c8 de ek bA.nil [(9,ab)] 100 rfl (by simp;omega) ?_;refine AK.law (bx.PY rfl Tryz.underlying63 Tryz.underlying3 (b:=0) rfl rfl rfl rfl) rfl rfl ?_;refine AK.c8 de ek bA.nil [] 100 rfl ?_ (AK.aQ (i+1) rfl ?_ ?_ h (by omega))
  .simp[bq];omega
  .simp
  .rw[bm h 0,<-ju];simp only[au.cat,au,e,aE]
 obtain rfl:i=l.length:=by omega
 rw[cB];refine AK.c8 de ek bA.nil [(9,ae)] 100 rfl (by simp) (AK.leaveD rfl rfl ?_);exact b7.rQ [0] rfl (by simp) rfl rfl rfl mW
def zm(a:aj)(l:List Int)(n:Int):Ev X 40 [dI n,.e (.one (.c (.rp [.val a])))] [nG a l] (dB (!l.contains n)) [nG a l]:=by refine Ev.bQ Tryz.func40 rfl λd=>?_;refine AK.c8 de ek bA.nil [] 100 rfl ar ?_;refine AK.law (bx.Mh rfl Tryz.underlying63 Tryz.underlying3 (λw=>Tryz.zeroValue4 w) (b:=0) rfl rfl rfl) rfl rfl ?_;exact AK.c8 de ek bA.nil [] 100 rfl ar (AK.dA [0] rfl (by simp) rfl rfl rfl mW)
def F4(p:bw)(n:Int):Ev X 42 [D9 p,.e (.one (.c (.rp [.int .i64 n])))] [] (dB (p.1==n)) []:=by refine Ev.bQ Tryz.func42 rfl λa=>?_;exact br rfl ar (AK.bg rfl)
def vP(x:cm)(b:x.2.length<=4000000)(a:(bU x.2).length<=4000000):Ev X 33 [AJ x] [] (cI.sl (cR x)) []:=by refine Ev.bQ Tryz.func33 rfl λc=>?_;refine br rfl ar ?_;refine AK.cQ (rf x b a) [] rfl ?_;exact br rfl ar (AK.bg rfl)
def zy(d:aj)(r:Nat)(es:Array MapEntry)(c:Nat):aj->(Nat->Option Obj)->Prop:=λv a=>v=d/\∀b,a b=if b=r then aa (.map es c)else af
def nn(e:MapEntry):Int:=match e.key with|.int _ n=>n|_=>0
structure zz(d:aj)(l:List Int)(r:Nat)(es:Array MapEntry)(c:Nat):Prop where
 m:d=.map (aa r)
 st:MapKept.Stamped es c
 kv:∀e∈es.toList,e.key=.int .i64 (nn e)/\bq .i64 (nn e)/\e.val=.bool ab
 mem:∀n,n∈l↔n∈es.toList.map nn
def nF.tell{d:aj}{l:List Int}{ch:Nat->Option Obj}(h:nF d l v ch):∃q:{q:Nat×Array MapEntry×Nat // zz d l q.1 q.2.1 q.2.2},zy d q.1.1 q.1.2.1 q.1.2.2 v ch:=by
 obtain⟨h1,r,es,c,h2,i,g,f,m⟩:=h;have b:∀e∈es.toList,e.key=.int .i64 (nn e)/\bq .i64 (nn e)/\e.val=.bool ab:=λe a=>by
  obtain⟨n,k1,o,j⟩:=f e a;have:nn e=n:=by simp[nn,k1]
  rw[this];exact⟨k1,j,o⟩
 refine⟨⟨(r,es,c),h2,g,b,λn=>?_⟩,h1,i⟩;rw[m,ku];constructor
 .rintro⟨e,a,k⟩;exact⟨e,a,by simp[nn,k]⟩
 .rintro⟨e,a,rfl⟩;exact⟨e,a,(b e a).1⟩
def zz.back{d:aj}{l:List Int}{r:Nat}{es:Array MapEntry}{c:Nat}{ch:Nat->Option Obj}(q:zz d l r es c)(h:zy d r es c v ch):nF d l v ch:=by
 refine⟨h.1,r,es,c,q.m,h.2,q.st,λe a=>⟨_,(q.kv e a).1,(q.kv e a).2.2,(q.kv e a).2.1⟩,λn=>?_⟩;rw[q.mem,ku];constructor
 .rintro⟨e,a,rfl⟩;exact⟨e,a,(q.kv e a).1⟩
 .rintro⟨e,a,k⟩;exact⟨e,a,by simp[nn,k]⟩
def Kh(es:Array MapEntry)(pre:List Int)(sn:Array Nat):Prop:=pre.Nodup/\(∀x∈pre,x∈es.toList.map nn)/\∀e∈es.toList,e.born∈sn↔nn e∈pre
section
variable {d:aj}{l:List Int}{r c:Nat}{es:Array MapEntry}(q:zz d l r es c)
include q
def zz.nd:(es.toList.map nn).Nodup:=by
 have h:es.toList.map (·.key)=(es.toList.map nn).map (Value.int .i64):=by rw[List.map_map];exact List.map_congr_left λe a=>(q.kv e a).1
 have:=q.st.2.2;rw[h]at this;rw[List.Nodup,List.pairwise_map]at this;exact this.imp λh e=>h (dm (Value.int .i64) e)
def zz.step{pre:List Int}{sn:Array Nat}(h:Kh es pre sn){e:MapEntry}(b:e∈es.toList)(g:e.born∉sn):Kh es (pre++[nn e]) (sn.push e.born)/\nn e∉pre:=by
 have f:nn e∉pre:=λi=>g ((h.2.2 e b).2 i);refine⟨⟨by grind[Kh],λx a=>?_,λe2 M4=>?_⟩,f⟩
 .rcases eO.1 a with a|a
  .exact h.2.1 x a
  .rw[gQ.1 a];exact List.mem_map_of_mem b
 .simp only[Array.mem_push,eO,gQ,h.2.2 e2 M4];refine or_congr_right ⟨λh1=>?_,λh1=>?_⟩
  .rw[rM q.st.2.1 M4 b h1]
  .rw[rM q.nd M4 b h1]
def zz.over{pre:List Int}{sn:Array Nat}(h:Kh es pre sn)(f:∀e∈es.toList,e.born∈sn):pre.Nodup/\∀n,n∈pre↔n∈l:=by refine⟨h.1,λn=>⟨λa=>(q.mem n).2 (h.2.1 n a),λa=>?_⟩⟩;obtain⟨e,b,rfl⟩:=ku.1 ((q.mem n).1 a);exact(h.2.2 e b).1 (f e b)
end
def EF{a:List Nat}:∀j,j<1->(0::a)[j]?=aa j:=λj b=>by
 obtain rfl:j=0:=by omega
 rfl
abbrev zA(d:aj):C:=.fn (.func 95) [] [.rp [.val d]]
def Ki(d:aj):Ev X 68 [QT d] [] (.e (.one (.c (zA d)))) []:=by refine Ev.bQ Tryz.func68 rfl λa=>?_;refine AK.c8 de ek bA.nil [(1000001,ab)] 100 rfl ar ?_;refine AK.freeze 1 0 rfl rfl rfl ?_;exact AK.c8 de ek bA.nil [] 100 rfl ar (AK.bg rfl)
set_option maxRecDepth 20000 in
def Di{T:Type}{d:aj}{l:List Int}{r:Nat}{es:Array MapEntry}{c:Nat}(q:zz d l r es c){k:Nat}{a:Fr}{j:Loop}(B1 B2:T->ba)(R:List Int->T->Prop)(o:T)(G:R [] o)(D:∀t,B1 t≠.pK/\B2 t≠.pK)(b:∀pre x t C,x∉pre->pre.Nodup->(∀y∈pre++[x],y∈l)->R pre t->Yields (ι:={f:T // R (pre++[x]) f}) X 3 [dI x] [.cp (zy d r es c),B1 t,B2 t,.loop k a j,.cp C] ab (λf=>[.cp (zy d r es c),B1 f.1,B2 f.1,.loop k a j,.cp C])):
  dK (ι:={p:T×List Int×Array Nat // (p.2.1.Nodup/\∀n,n∈p.2.1↔n∈l)/\R p.2.1 p.1}) X 95 [.e (.one (.ref 3)),.e (.one (.c (.rp [.val d])))] [.cp (zy d r es c),B1 o,B2 o,.loop k a j] (λ_=>.fe []) (λi=>[.cp (zy d r es c),B1 i.1.1,B2 i.1.1,.loop k a j,.cp (D1 r c i.1.2.2)]):=by
 obtain rfl:=q.m;have z:HS (zy (.map (aa r)) r es c) r es c:=λv K h=>by rw[h.2];simp
 refine dK.Hz Tryz.func95 rfl rfl rfl (AK.of_code ?_);refine AK.c8 de ek bA.nil [] 100 rfl ar ?_;refine AK.range (mb:=0) (r:=r) rfl rfl rfl rfl Tryz.underlying63 (cf.R0 rfl) rfl z ?_;refine AK.c8 de ek bA.nil [] 100 rfl ar ?_;show AW X _ (.loop _) _ _ _;refine AW.loop (S:=T×List Int×Array Nat) (λx=>Kh es x.2.1 x.2.2/\R x.2.1 x.1) (λ_=>[(0,.e (.one (.ref 3))),(5,.e (.one (.ref 4)))]) (λx=>[.cp (zy (.map (aa r)) r es c),B1 x.1,B2 x.1,.loop k a j,.cp (D1 r c x.2.2)]) (λx=>es.toList.length-x.2.1.length) (o,[],#[]) ⟨⟨List.nodup_nil,by simp,by simp⟩,G⟩ (cG rfl (by simp)) rfl ?_;rintro⟨t,pre,sn⟩ ⟨w,A⟩;refine AK.of_code ?_;refine AK.c8 de ek bA.nil [] 100 rfl ar ?_;refine AK.next (mb:=0) (ib:=4) (r:=r) (c:=c) (sn:=sn) (es:=es) rfl rfl rfl rfl rfl rfl rfl rfl z q.st (λe g=>⟨by rw[(q.kv e g).1];rfl,by rw[(q.kv e g).2.2];rfl⟩) λi=>?_;cases i with
 |over ha =>
  refine AK.c8 de ek bA.nil [(7,ae)] 100 rfl (by simp) ?_;refine AK.HF rfl rfl ?_;exact⟨⟨(t,pre,sn),q.over w ha,A⟩,.inr rfl,rfl,jE (B:=.cp _) (by simp) (jE (D t).1 (jE (D t).2 rfl)),[],.fe [],[],rfl,rfl,rfl,ar⟩
 |one e g E =>
  refine AK.c8 de ek bA.nil [(7,ab)] 100 rfl (by simp) ?_;obtain⟨k1,J,I⟩:=q.kv e g;obtain⟨u,F⟩:=q.step w g E;refine AK.entry (mb:=0) (ib:=4) (r:=r) (c:=c) (sn:=sn) (es:=es) (e:=e) (y:=.fe [.one (.c (.int .i64 (nn e))),.one .any]) rfl rfl rfl rfl rfl rfl rfl z q.st g (λs=>⟨[e.key,e.val],rfl,?_,by rw[I];rfl,ar⟩) ?_
  .rw[k1];exact Rd.int J
  refine AK.c8 de ek bA.nil [] 100 rfl ar ?_;refine AK.yield (b pre (nn e) t _ F w.1 (λy H=>(q.mem y).2 (u.2.1 y H)) A) rfl rfl rfl rfl rfl rfl λf=>?_;refine AK.c8 de ek bA.nil [(13,ae)] 100 rfl (by simp) ?_;refine⟨(f.1,pre++[nn e],sn.push e.born),⟨u,f.2⟩,?_,cG rfl (by simp),rfl⟩;have:=vM _ _ u.1 u.2.1;simp at this⊢;omega
abbrev QC(l:List Int):Type:={q:List Int // q.Nodup/\∀n,n∈q↔n∈l}
set_option maxRecDepth 20000 in
def wS(d:aj)(l:List Int)(p:l.length<=4000000):
  dK (ι:=QC l) X 119 [.e (.one (.c (.sl ab 0 0 λ_=>[]))),.e (.one (.c (zA d)))] [nG d l] (λq=>.e (.one (.bp 1 (.sl q.1.length 1 0 q.1.length)))) (λq=>[nG d l,zF q.1.length q.1]):=by
 refine dK.yL Tryz.func119 rfl rfl rfl λn=>?_;refine mT.seq (AW.top (AK.of_code ?_));refine br rfl ar ?_;refine mT.seq (mT.seq (AW.top (AK.of_code ?_)));refine AK.GN 0 (λq:{q:Nat×Array MapEntry×Nat // zz d l q.1 q.2.1 q.2.2}=>zy d q.1.1 q.1.2.1 q.1.2.2) rfl (λv k h=>nF.tell h) ?_;rintro⟨⟨r,es,c⟩,q⟩;refine AK.u7 1 0 3 1 (cI.fn []) rfl rfl ?_;refine br rfl ar ?_;refine mT.block ?_;refine mT.rangeFunc (capD:=fu [.rp [.val d]]) (cf.callee rfl) (Di (T:=List Int) q (λt=>.cells 28 [.bp 2 (.sl t.length 1 0 t.length)]) (λt=>zF t.length t) (λpre t=>t=pre) [] rfl (λt=>⟨by simp,by simp⟩) ?_) (λi=>⟨rfl,by simp⟩) λi=>⟨.normal,rfl,?_⟩
 .rintro pre x t s b f a rfl;have m:t.length+1<=4000000:=by have:=vM (t++[x]) l (by grind) a;simp at this;omega
  refine Yields.intro (j:=af) rfl rfl rfl rfl (AK.of_code ?_);refine br rfl ar ?_;refine⟨rfl,rfl,AK.of_code ?_⟩;refine br rfl (by simp[bq,show i3.bytes=8 from rfl];omega) ?_;have e:=cI.cg t x;refine⟨rfl,rfl,⟨t++[x],rfl⟩,kD rfl ?_⟩;simp only[au.cat,au,b9,eE,aF,aE];and_intros<;>first|exact e|rfl|exact cn.same
 .show mT X _ _ _ _ _;obtain⟨⟨t,pre,sn⟩,o,g⟩:=i;obtain rfl:t=pre:=g;refine AW.top (AK.of_code ?_);refine AK.GN (ι:=Unit) 0 (λ_=>nF d l) rfl (λv k h=>⟨(),q.back h⟩) λ_=>?_;refine br rfl ar ?_;refine AK.g9 (λe φ σ q=>⟨⟨t,o⟩,q⟩) (AK.dA [0,2] rfl ?_ rfl rfl rfl EF);simp
def Bz(d:aj)(l:List Int)(a:l.length<=4000000):
  dK (ι:=QC l) X 94 [.e (.one (.c (zA d)))] [nG d l] (λq=>.e (.one (.bp 1 (.sl q.1.length 1 0 q.1.length)))) (λq=>[nG d l,zF q.1.length q.1]):=by refine dK.nw Tryz.func94 rfl rfl rfl λb=>?_;refine br rfl ar ?_;refine AK.mP (wS d l a) [0] rfl rfl rfl rfl (by simp) rfl rfl rfl (λ_=>rfl) rfl (λ_=>rfl) rfl λq=>?_;refine br rfl ar (AK.kl q (AK.dA [0,1] rfl ?_ rfl rfl rfl EF));simp
def Gl{l Q:List Int}(g:Q.Pairwise (· < ·))(i:∀n,n∈Q↔n∈l)(q:QC l):j1 q.1=Q:=by
 have e:(j1 q.1).Pairwise λa b=>a<=b:=(List.pairwise_mergeSort (λa b c e f=>by grind) (λa b=>by grind) q.1).imp λh=>by grind
 have f:(j1 q.1).Nodup:=(na _).nodup_iff.2 q.2.1;refine Et ?_ g λn=>by rw[(na _).mem_iff,q.2.2,i]
 exact(e.and f).imp λh=>by omega
def Dj(d:aj)(l Q:List Int)(i:l.length<=4000000)(g:Q.Pairwise (· < ·))(h:∀n,n∈Q↔n∈l):
  Ev X 67 [.e (.one (.c (zA d)))] [nG d l] (.e (.one (.bp 1 (.sl Q.length 1 0 Q.length)))) [nG d l,zF Q.length Q]:=by
 refine Ev.bQ Tryz.func67 rfl λk=>?_;refine br rfl ar ?_;refine AK.cP (Bz d l i) [0] rfl (λ_=>rfl) λq=>?_;have e:=Gl g h q;have j:=vM q.1 l q.2.1 λn f=>(q.2.2 n).1 f;have b:=vN (X:=X) q.1 (by omega);have a:q.1.length=Q.length:=by rw[<-e,eU]
 rw[e,a]at b;rw[a];refine br rfl ar ?_;refine AK.cQ b [1] rfl ?_;refine br rfl ar (AK.dA [0,1] rfl ?_ rfl rfl rfl EF);simp
def Kj(d:aj)(l Q:List Int)(b:l.length<=4000000)(a:Q.Pairwise (· < ·))(f:∀n,n∈Q↔n∈l):
  Ev X 34 [QT d] [nG d l] (cI.sl Q) [nG d l]:=by
 have h:Ev X 34 [QT d] [nG d l] (.e (.one (.bp 1 (.sl Q.length 1 0 Q.length)))) ([nG d l]++[zF Q.length Q]):=by refine Ev.bQ Tryz.func34 rfl λg=>?_;refine AK.c8 de ek bA.nil [] 100 rfl ar ?_;refine AK.cQ (Ki d) [] rfl ?_;refine AK.c8 de ek bA.nil [] 100 rfl ar ?_;refine AK.cQ (Dj d l Q b a f) [0] rfl ?_;refine AK.c8 de ek bA.nil [] 100 rfl ar (AK.dA [0,1] rfl ?_ rfl rfl rfl EF);simp
 exact Ev.Ax h rfl (by simp) rfl (aZ _)
def Dg(s:bl)(a:mm s):Ev X 25 [o8 s] [] (o8 s) []:=by refine(vD s a.p a.p2 a.sn a.s2 a.h).forget rfl ?_ rfl;simp
abbrev EE:di:=ki Ks (λs=>o8 s) λs=>[mm s]
def MU:dw X 25 EE:=.oe λs h=>Dg s h
def wc{l:List α}{q:α->Bool}(h:i<l.length)(d:α):(l.take (i+1)).filter q=if q (l.getD i d)=ab then(l.take i).filter q++[l.getD i d]else(l.take i).filter q:=by rw[bm h d,List.filter_append,List.filter_cons];split<;>simp
def filter_le(l:List α)(q:α->Bool)(h:i<=l.length):((l.take i).filter q).length<=i:=gB (ru _ _) (by simp;omega)
abbrev XJ(w:iJ)(b:Bool):D:=.fe [.agg (V5 w),.one (.c (.bool b))]
abbrev QB:List A:=[iH,iH,iH,iH,iH]
abbrev Tw(s:bl)(a:List cm)(l:List Int):List ba:=[qX s,.cells 32 QB,.cells 32 [Er cP s.1,.vec 4 2 a.length (dZ.fn a),Er cH s.2.2,iH,.vec 5 1 l.length (cI.fn l)],qX s,.vec 39 2 a.length (dZ.fn a),.vec 3 1 l.length (cI.fn l)]
def map_take{a:Type}{l:List α}{f:α->a}(h:i<l.length)(d:α):(l.take (i+1)).map f=(l.take i).map f++[f (l.getD i d)]:=by rw[bm h d,List.map_append];rfl
def nk(l:List cm)(q:cm->Bool):(fH (l.filter q)).length<=(fH l).length:=by
 induction l with
 |nil=>simp
 |cons x l a =>
  unfold fH at *;grind
def Gj(k:Int)(s:bl)(keep:List Int)(d:mm s)(o:Xv s):Ev X 9 [dI k,o8 s,cI.sl keep] [] (XJ (Dh k s keep).1 (Dh k s keep).2) []:=by
 refine Ev.nW Tryz.func9 rfl rfl rfl λw=>?_;have c:bA X [(24,xF),(25,EE),(26,Jb),(27,Ba)]:=.cons FY (.cons MU (.cons NR (.cons Jm .nil)));have y:=d.p;have r:=d.sn;unfold Dh;cases q:fw k s with
 |false =>
  refine bk c [(15,ab)] rfl ?_ ?_
  .simp only[au,cP.list_fn,cP.aR,dZ.list_fn,dZ.aR,cH.list_fn,cH.aR,q,d.p,d.sn,aF,aE,lu];exact o.sm
  refine AK.freeze 6 1 rfl rfl rfl ?_;refine AK.BU tok [] rfl ?_ rfl rfl rfl wE;simp
 |true =>
 rw[bt rfl];refine bk c [(15,ae),(1000006,ab)] rfl ?_ ?_
 .simp only[au,cP.list_fn,cP.aR,dZ.list_fn,dZ.aR,cH.list_fn,cH.aR,q,d.p,d.sn,d,aF,aE,kP];exact o.sm
 refine AK.gx 2 1 39 2 (dZ.fn []) rfl rfl ?_;refine AK.gx 2 4 3 1 (cI.fn []) rfl rfl ?_;refine cz c rfl ar ?_;refine AK.bS 6 (λi=>i<=s.2.1.length) (λi:Nat=>[(2,cI.sl keep),(4,.e (.one (.ptr 0 0))),(6,.e (.one (.ptr 1 0))),(8,.e (.one (.ptr 2 0))),(9,.e (.one (.ptr 3 0))),(10,dI i)])
  (λi=>Tw s ((s.2.1.take i).filter λx=>keep.contains x.1) []) (λi=>s.2.1.length-i) 0 rfl ?_ rfl ?_ rfl (by omega) ?_
 .simp
 .simp[cP.list_fn,dZ.list_fn,cH.list_fn]
 .intro i hi;have n:=filter_le s.2.1 (λx=>keep.contains x.1) hi;by_cases h:i<s.2.1.length
  .have g:s.2.1.getD i dZ.bG=s.2.1.getD i (0,[]):=rfl;have b:(s.2.1.take (i+1)).filter (λx=>keep.contains x.1)=if keep.contains (s.2.1.getD i (0,[])).1=ab then(s.2.1.take i).filter (λx=>keep.contains x.1)++[s.2.1.getD i (0,[])]else(s.2.1.take i).filter (λx=>keep.contains x.1):=wc h (0,[]);generalize(s.2.1.take i).filter (λx=>keep.contains x.1)=a at *;generalize s.2.1.getD i (0,[])=x at *;cases l:keep.contains x.1 with
   |true =>
    rw[bt l]at b;have j:=dZ.cg a x;refine bk c [(30,ab),(40,ab)] rfl ?_ (AK.aQ (i+1) rfl (by simp) ?_ h (by omega))
    .simp[-ai,-List.contains_eq_mem,g,h,l,cI.list_fn,cI.aR,bq,show i39.bytes=32 from rfl];omega
    .rw[b];simp only[au.cat,au,bF,g,b9,eE,aF,aE];and_intros<;>first|exact cn.same|exact j|rfl|omega
   |false =>
    rw[bh (by rw[l];simp)]at b;refine bk c [(30,ab),(40,ae)] rfl ?_ (AK.aQ (i+1) rfl (by simp) ?_ h (by omega))
    .simp[-ai,-List.contains_eq_mem,g,h,l,cI.list_fn,cI.aR,bq];omega
    .rw[b];simp
  obtain rfl:i=s.2.1.length:=by omega
  rw[cB]at n⊢;have u:=nk s.2.1 λx=>keep.contains x.1;have m:il (s.1,s.2.1.filter (λx=>keep.contains x.1),s.2.2):=λx j=>d.s2 x (mG.1 j).1;have v:=o.aN;generalize s.2.1.filter (λx=>keep.contains x.1)=sn at *;refine bk c [(30,ae)] rfl (by simp) (AK.leaveD rfl rfl ?_);refine cz c rfl ar ?_;refine AK.bS 6 (λi=>i<=s.1.length) (λi:Nat=>[(2,cI.sl keep),(4,.e (.one (.ptr 0 0))),(6,.e (.one (.ptr 1 0))),(8,.e (.one (.ptr 2 0))),(11,dI i)])
   (λi=>Tw s sn ((s.1.take i).map (·.1))) (λi=>s.1.length-i) 0 rfl (by simp) rfl (by simp) rfl (by omega) ?_
  intro i hi;have t:((s.1.take i).map (·.1)).length=i:=by simp;omega
  by_cases h:i<s.1.length
  .have g:s.1.getD i cP.bG=s.1.getD i (0,[]):=rfl;have b:=map_take (f:=λp:bw=>p.1) h (0,[]);generalize(s.1.take i).map (λp:bw=>p.1)=a at *;generalize s.1.getD i (0,[])=p at *;have j:=cI.cg a p.1;refine bk c [(57,ab)] rfl ?_ (AK.aQ (i+1) rfl (by simp) ?_ h (by omega))
   .simp[-ai,g,h,bq,show i3.bytes=8 from rfl];omega
   .rw[b];simp only[au.cat,au,bF,g,b9,eE,aF,aE];and_intros<;>first|exact cn.same|exact j|rfl|omega
  obtain rfl:i=s.1.length:=by omega
  rw[cB];refine bk c [(57,ae)] rfl (by simp) (AK.leaveD rfl rfl ?_);refine cz c rfl ?_ ?_
  .simp only[au,cP.list_fn,cP.aR,dZ.list_fn,dZ.aR,cH.list_fn,cH.aR,aF,aE];exact⟨m,by omega,by omega⟩
  refine AK.freeze 8 2 rfl rfl rfl ?_;refine AK.freeze 6 1 rfl rfl rfl ?_;refine AK.BU tok [] rfl ?_ rfl rfl rfl wE;simp[dZ.list_fn]
end
structure V7(w:iJ):Prop extends Jq w.1 where
 mrk:w.2.1.length<=4000000
 lft:w.2.2.length<=4000000
def se{l:List cm}(h:i<l.length):(bU (l.getD i (0,[])).2).length<=(fH l).length:=by have:=A9 l (i+1);grind[qb]
def wL(k:Int)(w:iJ):pf k w=(fw k w.1&&(a9 w.1.2.1.length).all (λi=>!(cR (w.1.2.1.getD i (0,[]))).any λn=>!w.2.1.contains n)&&(a9 w.2.2.length).all (m7 w.1.1 w.2.2)):=by rw[pf,F5];cases fw k w.1<;>simp
def Be(k:Int)(w:iJ)(q:V7 w):Ev (Cx.beside ag) 16 [dI k,P3 w] [] (dB (pf k w)) []:=by
 refine Ev.bQ Tryz.func16 rfl λM=>?_;have b:bA (Cx.beside ag) [(20,sd)]:=.cons xI .nil;have z:=cP.list_fn w.1.1;have A:=dZ.list_fn w.1.2.1;have v:=cH.list_fn w.1.2.2;have r:=q.toJq;rw[wL];cases y:fw k w.1
 .exact AK.c8 de ek b [(14,ab)] 100 rfl (by simp[y,z,A,v,cP.aR,dZ.aR,cH.aR,r]) (AK.bg rfl)
 refine AK.c8 de ek b [(14,ae)] 100 rfl (by simp[y,z,A,v,cP.aR,dZ.aR,cH.aR,r]) ?_;rw[eZ];refine AK.I9 rfl rfl rfl λo=>?_;refine AK.c8 de ek b [] 100 rfl ar ?_;refine AK.cQ (Jr o [] w.2.1) [1] rfl ?_;rw[tw];refine AK.c8 de ek b [(1000005,ab)] 100 rfl ar ?_;refine AK.freeze 5 2 rfl rfl rfl ?_;refine AK.c8 de ek b [] 100 rfl ar ?_;refine AK.bS 3 (λi=>i<=w.1.2.1.length/\∀j,j<i->(!(cR (w.1.2.1.getD j (0,[]))).any λn=>!w.2.1.contains n)=ab) (λi:Nat=>[(0,dI k),(3,.e (.one (.ptr 0 0))),(5,.e (.one (.c (.rp [.val o])))),(22,dZ.sl w.1.2.1),(23,dI w.1.2.1.length),(24,dI i)]) (λ_=>[QS w,nG o w.2.1,.dead]) (λi=>w.1.2.1.length-i) 0 rfl (by simp) rfl (by simp) rfl ⟨by omega,by omega⟩ ?_;have C:=q.sN;rintro i ⟨hi,a⟩;by_cases h:i<w.1.2.1.length
 .have t:w.1.2.1.getD (i:Int).toNat dZ.bG=w.1.2.1.getD i (0,[]):=by grind
  have u:=q.sm _ (gz (d:=(0,[])) h);have G:=se h;have E:=q.aN;have B:=fA (p:=λj=>!(cR (w.1.2.1.getD j (0,[]))).any λn=>!w.2.1.contains n) h;have s:=gJ (p:=λj=>!(cR (w.1.2.1.getD j (0,[]))).any λn=>!w.2.1.contains n) (i:=i);generalize w.1.2.1.getD i (0,[])=x at *;refine AK.c8 de ek b [(25,ab)] 100 rfl (by simp;omega) ?_;rw[t];refine AK.cQ (vP x u.1 (by omega)) [] rfl ?_;refine AK.c8 de ek b [] 100 rfl ar ?_;refine AK.cQ (I8 (cR x) 40 [.val o] (nF o w.2.1) (λn=>!w.2.1.contains n) λn _=>zm o w.2.1 n) [1] rfl ?_;cases H:(cR x).any λn=>!w.2.1.contains n with
  |true =>
   refine AK.c8 de ek b [] 100 rfl ar (AK.eK (b7.zero rfl ?_));rw[B (by grind)];simp
  |false =>
   refine AK.c8 de ek b [] 100 rfl ?_ (AK.aQ (i+1) rfl (by simp) (by simp) ⟨h,s a (by grind)⟩ (by omega));simp[bq];omega
 obtain rfl:i=w.1.2.1.length:=by omega
 rw[c7.2 a,eZ];refine AK.c8 de ek b [(25,ae)] 100 rfl (by simp) (AK.leaveD rfl rfl ?_);refine AK.c8 de ek b [] 100 rfl ar ?_;have D:=q.lft;refine AK.bS 3 (λi=>i<=w.2.2.length/\∀j,j<i->m7 w.1.1 w.2.2 j=ab) (λi:Nat=>[(0,dI k),(3,.e (.one (.ptr 0 0))),(34,cI.sl w.2.2),(35,dI w.2.2.length),(36,dI i)]) (λ_=>[QS w,nG o w.2.1,.dead]) (λi=>w.2.2.length-i) 0 rfl (by simp) rfl (by simp) rfl ⟨by omega,by omega⟩ ?_;rintro i ⟨hi,a⟩;by_cases h:i<w.2.2.length
 .have t:w.2.2.getD (i:Int).toNat cI.bG=w.2.2.getD i 0:=by grind
  have m:w.2.2.getD (i-1) cI.bG=w.2.2.getD (i-1) 0:=rfl;have F:m7 w.1.1 w.2.2 i=((w.1.1.any λp=>p.1==w.2.2.getD i 0)&&xE (λx=>x) 0 w.2.2 i):=rfl;have J:=m6 (f:=λx:Int=>x) (d:=0) (l:=w.2.2) (i:=i);generalize w.2.2.getD i 0=n at *;generalize w.2.2.getD (i-1) 0=n' at *;have o7:bA (Cx.beside ag) [(41,wF [cP.sl w.1.1,.e (.one (.c (.fn (.func 42) [] [.rp [.int .i64 n]])))] (dB (w.1.1.any λp=>p.1==n)))]:=.cons (AH (I6 w.1.1 42 [.int .i64 n] (λp=>p.1==n) λp _=>F4 p n)) .nil;refine AK.c8 de ek b [(37,ab),(1000014,ab)] 100 rfl (by simp;omega) ?_;rw[t];refine AK.freeze 9 3 rfl rfl rfl ?_;have fin:w.1.1.any (λp=>p.1==n)=ab->xE (λx=>x) 0 w.2.2 i=ab->m7 w.1.1 w.2.2 i=ab:=λH L=>by grind
  by_cases I:i=0
  .subst I;cases g:w.1.1.any (λp=>p.1==n)with
   |true =>
    refine AK.c8 de ek o7 [(43,ae),(60,ae)] 100 rfl ?_ (AK.aQ 1 rfl (by simp) (by simp) ⟨h,gJ a (fin g rfl)⟩ (by omega));simp[bq,g,jX.sl]
   |false =>
    refine AK.c8 de ek o7 [(43,ae),(60,ab)] 100 rfl ?_ (AK.eK (b7.zero rfl ?_))
    .simp[g,jX.sl]
    .rw[fA h (by grind)];simp
  by_cases K:n'<n
  rotate_left
  .refine AK.c8 de ek o7 [(43,ab),(51,ab),(60,ab)] 100 rfl ?_ (AK.eK (b7.zero rfl ?_))
   .simp[-ai,m,bq];omega
   .rw[fA h (by grind)];simp
  cases g:w.1.1.any (λp=>p.1==n)with
  |true =>
   refine AK.c8 de ek o7 [(43,ab),(51,ae),(60,ae)] 100 rfl ?_ (AK.aQ (i+1) rfl (by simp) (by simp) ⟨h,gJ a (fin g (by grind))⟩ (by omega));simp[-ai,m,bq,g,jX.sl];omega
  |false =>
   refine AK.c8 de ek o7 [(43,ab),(51,ae),(60,ab)] 100 rfl ?_ (AK.eK (b7.zero rfl ?_))
   .simp[-ai,m,bq,g,jX.sl];omega
   .rw[fA h (by grind)];simp
 obtain rfl:i=w.2.2.length:=by omega
 rw[c7.2 a];refine AK.c8 de ek b [(37,ae)] 100 rfl (by simp) (AK.leaveD rfl rfl ?_);exact AK.c8 de ek b [] 100 rfl ar (AK.bg rfl)
abbrev xJ:di:=mX aI (aAg fSw) (λk w=>dB (pf k w)) λ_ w=>[V7 w]
def F6:dw (Cx.beside ag) 16 xJ:=.px λk w h=>Be k w h
section
variable {X:Cx ag}
abbrev KpI:={q:List Int // q.length<=5}
def Gk(m:Nat)(b:Nat->Int)(i:Bytes b)(k:Nat)(p:k<=500000)(g:m<=1048576):
  dK (ι:=KpI) X 23 [.e (.one (.ptr 0 0))] [j0 m b k] (λq=>cI.sl q.1) (λ_=>[j0 m b (k+5:Nat)]):=by
 refine dK.nw Tryz.func23 rfl rfl rfl λo=>?_;refine aV [(1000002,ab)] rfl ar ?_;refine AK.g8 3 3 1 rfl rfl ?_;refine br rfl ar ?_;refine AK.bS 2 (λs:Nat×List Int=>1<=s.1/\s.1<=6/\s.2.length+1<=s.1) (λs=>[(0,.e (.one (.ptr 0 0))),(3,.e (.one (.vec 1 1 s.2.length (cI.fn s.2)))),(4,dI s.1)]) (λs=>[j0 m b (k+(s.1-1):Nat),.vec 3 1 s.2.length (cI.fn s.2)]) (λs=>6-s.1) (1,[]) rfl ?_ rfl ?_ rfl ⟨by decide,by decide,by decide⟩ ?_
 .simp
 .simp
 rintro⟨n,a⟩ ⟨l,j,f⟩;simp only at l j f;by_cases h:n<=5
 .refine aV [(7,ab)] rfl (by simp only[au,bc];omega) ?_;refine AK.cP (gm m b i (k+(n-1)) 2 (by omega) g (by omega)) [0] rfl (λ_=>rfl) ?_;rintro⟨v,v0,v1⟩;by_cases c:v=0
  .have d:=cI.cg a (n:Int);refine aV [(12,ab)] rfl ?_ (AK.aQ (n+1,a++[(n:Int)]) rfl ?_ ?_ ⟨by simp only;omega,by simp only;omega,by grind⟩ (by simp only;omega))
   .simp only[au,c,bq,show i3.bytes=8 from rfl,jw,aF,aE];and_intros<;>omega
   .simp only[au.cat,au,b9,eE,aF,aE];and_intros<;>first|exact cn.same|exact d|rfl|omega
   .simp only[au.cat,au,b9,eE,aF,aE];and_intros<;>first|exact cn.same|exact d|rfl|omega
  .refine aV [(12,ae)] rfl ?_ (AK.aQ (n+1,a) rfl ?_ ?_ ⟨by simp only;omega,by simp only;omega,by simp only;omega⟩ (by simp only;omega))
   .simp only[au,bq,eF,dn,aF,aE];and_intros<;>first|exact c|omega
   .simp only[au.cat,au,aF,aE];and_intros<;>first|exact cn.same|rfl|omega
   .simp only[au.cat,au,aF,aE];and_intros<;>first|exact cn.same|rfl|omega
 obtain rfl:n=6:=by omega
 refine aV [(7,ae)] rfl (by simp) (AK.leaveD rfl rfl ?_);refine br rfl ar ?_;refine AK.kl ⟨a,by omega⟩ (AK.dA [0] rfl ?_ rfl rfl rfl wM);simp
end
section
variable {X:Cx ag}
def kM(n:Int):∀(l a:List Int)(b:Bool),(a++l).Pairwise (· < ·)->(if b=ab then True else ∀x∈a,x<n)->(b=ab->∀x∈l,n<=x/\(n∈a)) ->
  (if(l.foldl (fZ n) (a,b)).2=ab then(l.foldl (fZ n) (a,b)).1 else(l.foldl (fZ n) (a,b)).1++[n]).Pairwise (· < ·)
 |[],a,b,h,f,_=>by
  simp only[j7]at h;cases b<;>simp at f⊢
  .exact ox.2 ⟨h,by simp,by simpa using f⟩
  .exact h
 |y::l,a,b,h,f,i=>by
  rw[iT];obtain⟨k,j,g⟩:=ox.1 h;obtain⟨p4,m⟩:=pF.1 j;have o:∀x∈a,x<y:=λx c=>g x c y j6;have p2:((a++[y])++l).Pairwise (· < ·):=by simpa using h
  have p3:(a++l).Pairwise (· < ·):=ox.2 ⟨k,m,λx c z d=>g x c z (pD _ d)⟩;unfold fZ;cases b with
  |true =>
   simp only[bZ];split
   .exact kM n l a ab p3 (by simp) λ_ x c=>⟨by grind,(i rfl y j6).2⟩
   .exact kM n l (a++[y]) ab p2 (by simp) λ_ x c=>⟨by grind,List.mem_append_left _ (i rfl y j6).2⟩
  |false =>
   simp only[gb,bJ]at f⊢;split
   .split
    .rename_i e;subst e;exact kM y l (a++[y]) ab p2 (by simp) λ_ x c=>⟨by grind,by simp⟩
    .refine kM n l (a++[n,y]) ab ?_ (by simp) λ_ x c=>⟨by grind,by simp⟩
     rw[ju];refine ox.2 ⟨k,pF.2 ⟨λz d=>?_,j⟩,λx c z d=>?_⟩
     .rcases dD.1 d with rfl|d
      .omega
      .have:=p4 z d;omega
     .rcases dD.1 d with rfl|d
      .exact f x c
      .exact g x c z d
   .exact kM n l (a++[y]) ae p2 (by simp;grind) (by simp)
def Kk{l:List Int}{n:Int}(h:l.Pairwise (· < ·)):(kF l n).Pairwise (· < ·):=kM n l [] ae (by simpa using h) (by simp) (by simp)
def xT:∀{l a:List Int},a.Pairwise (· < ·)->(l.foldl kF a).Pairwise (· < ·)
 |[],a,h=>h
 |x::l,a,h=>xT (l:=l) (Kk h)
def xU(l:List cm):(cY l).Pairwise (· < ·):=by
 unfold cY;have:∀(l:List cm) (a:List Int),a.Pairwise (· < ·)->(l.foldl (λout x=>(fS x.2).foldl kF out) a).Pairwise (· < ·):=λl=>by
  induction l with
  |nil=>exactλa h=>h
  |cons x l b=>exactλa h=>b _ (xT h)
 exact this l [] List.Pairwise.nil
def we(l:List cm):(l.flatMap cR).length<=(fH l).length:=by
 induction l with
 |nil=>simp
 |cons x l a =>
  have:(cR x).length<=(bU x.2).length:=by unfold cR;rw[<-eU (bU x.2)];exact m8 _
  simp only[fH,tr,b9]at a⊢;omega
def qd(l:List Int)(v:Int):Int:=match l.findIdx? (λx=>x==v)with
 |some i=>i
 |none=>-1
def Gm(l:List Int)(v:Int):Ev X 66 [cI.sl l,dI v] [] (dI (qd l v)) []:=by
 refine Ev.bQ Tryz.func66 rfl λe=>?_;have f:=e.sl 0 rfl;refine br rfl ar ?_;refine AK.bS 0 (λi=>i<=l.length/\∀j,j<i->l.getD j 0≠v) (λi:Nat=>[(0,cI.sl l),(1,dI v),(7,dI l.length),(8,dI i)]) (λ_=>[]) (λi=>l.length-i) 0 rfl (by simp) rfl ar rfl ⟨by omega,by omega⟩ ?_;rintro i ⟨hi,a⟩;by_cases h:i<l.length
 .have b:l.getD (i:Int).toNat cI.bG=l.getD i 0:=rfl;by_cases d:l.getD i 0=v
  .have:qd l v=i:=by
    have:l.findIdx? (λx=>x==v)=aa i:=by rw[nH];exact⟨h,by grind,λj c=>by grind⟩
    simp only[qd,this]
   rw[this];refine aV [(9,ab),(16,ab)] rfl ?_ (AK.eK (b7.zero rfl));simp only[au,b,bc,gg,aF,aE];and_intros<;>first|exact d.symm|omega
  .refine aV [(9,ab),(16,ae)] rfl ?_ (AK.aQ (i+1) rfl ?_ ar ⟨h,λj c=>?_⟩ (by omega))
   .simp only[au,b,bq,bc,eF,aF,aE];and_intros<;>first|grind|omega
   .simp
   grind
 .have:qd l v=-1:=by
   have:l.findIdx? (λx=>x==v)=af:=by grind[List.getElem_of_mem]
   simp only[qd,this]
  rw[this];refine aV [(9,ae)] rfl (by simp only[au,bY];omega) (AK.leaveD rfl rfl ?_);exact br rfl ar (AK.bg rfl)
abbrev EG:di:=mX (aL cI) aI (λl v=>dB (l.contains v)) λ_ _=>[]
def MV:dw X 31 EG:=.px λl v _=>by refine Ev.bQ Tryz.func31 rfl λb=>?_;have a:bA X [(66,mX (aL cI) aI (λl v=>dI (qd l v)) λ_ _=>[])]:=.cons (.px λl v _=>Gm l v) .nil;refine bR a rfl (by simp only[au];exact cI.aR _) (AK.bg rfl ?_);simp only[au,cI.list_fn,aE];unfold qd;grind
def MW(x:cm)(keep:List Int):Ev X 30 [AJ x,.e (.one (.c (.rp [.sl ae 1 keep.length (cI.fn keep)])))] [] (dB (!keep.contains x.1)) []:=by refine Ev.bQ Tryz.func30 rfl λb=>?_;have a:bA X [(31,EG)]:=.cons MV .nil;refine bR a rfl (by simp only[au];exact cI.aR _) (AK.bg rfl ?_);simp only[cI.list_fn];simp
abbrev Tx(s:bl)(fl:List cm)(b:A)(l:List Int)(c:aj)(a:List Int):List ba:=[qX s,.dead,.cells 32 QB,.dead,.dead,.cells 32 [Er cP s.1,Er dZ fl,Er cH s.2.2,b,.vec 6 1 l.length (cI.fn l)],.vec 3 1 l.length (cI.fn l),nG c a]
def Gn(k:Int)(s:bl)(keep:List Int)(c:mm s)(l:Jq s):Ev (Cx.beside ag) 10 [dI k,o8 s,cI.sl keep] [] (XJ (Dh k s keep).1 (Dh k s keep).2) []:=by
 refine Ev.nW Tryz.func10 rfl rfl rfl λC=>?_;have b:bA (Cx.beside ag) [(20,sd)]:=.cons xI .nil;have D:=c.p;have A:=c.sn;unfold Dh;cases v:fw k s with
 |false =>
  refine AK.c8 de ek b [(17,ab)] 200 rfl ?_ ?_
  .simp only[au,cP.list_fn,cP.aR,dZ.list_fn,dZ.aR,cH.list_fn,cH.aR,v,l,aF,aE,lu]
  refine AK.freeze 6 2 rfl rfl rfl ?_;refine AK.BU ek [] rfl ?_ rfl rfl rfl wE;simp
 |true =>
 rw[bt rfl];refine AK.c8 de ek b [(17,ae)] 200 rfl ?_ ?_
 .simp only[au,cP.list_fn,cP.aR,dZ.list_fn,dZ.aR,cH.list_fn,cH.aR,v,l,aF,aE,kP]
 refine AK.cQ (vn s c.p c.p2 c.sn c.s2 c.h) [] rfl ?_;refine AK.c8 de ek b [(1000004,ab)] 200 rfl ar ?_;refine AK.freeze 5 1 rfl rfl rfl ?_;refine AK.c8 de ek b [] 200 rfl ar ?_;refine AK.cP (LW s.2.1 c.sn 30 [.sl ae 1 keep.length (cI.fn keep)] (λx=>!keep.contains x.1) λx _=>MW x keep) [4] rfl (λ_=>rfl) ?_;rintro⟨es,r⟩;simp only[Bool.not_not]at r⊢;have j:(s.2.1.filter λx=>keep.contains x.1).length<=s.2.1.length:=ru _ _;have o:∀x∈s.2.1.filter (λx=>keep.contains x.1),x∈s.2.1:=λx m=>(mG.1 m).1;have y:(fH (s.2.1.filter λx=>keep.contains x.1)).length<=(fH s.2.1).length:=nk s.2.1 λx=>keep.contains x.1;generalize s.2.1.filter (λx=>keep.contains x.1)=fl at *;refine AK.c8 de ek b [(1000005,ab)] 200 rfl ar ?_;refine AK.ur 4 rfl rfl rfl (by simp;exact j) (by simp;exact⟨ar,j⟩) ?_;refine AK.ur 3 rfl rfl rfl (by simp) (by simp;exact ar) ?_;refine AK.gx 5 4 3 1 (cI.fn []) rfl rfl ?_;refine AK.norm [qX s,.dead,.cells 32 QB,.dead,.dead,.cells 32 [Er cP s.1,Er dZ fl,Er cH s.2.2,iH,.vec 6 1 0 (cI.fn [])],.vec 3 1 0 (cI.fn [])] rfl ?_ ?_
 .simp only[au.cat,au,aF,aE];and_intros<;>first|exact cn.same|exactλi hi=>r i hi|rfl|simp
 refine AK.c8 de ek b [] 200 rfl ar ?_;refine AK.I9 rfl rfl rfl λq=>?_;refine AK.c8 de ek b [] 200 rfl ar ?_;refine AK.bS 8 (λi=>i<=fl.length) (λi:Nat=>[(4,.e (.one (.ptr 0 0))),(6,.e (.one (.ptr 2 0))),(8,.e (.one (.ptr 5 0))),(9,QT q),(32,dZ.sl fl),(33,dI fl.length),(34,dI i)])
  (λi=>Tx s fl iH [] q ((fl.take i).flatMap cR)) (λi=>fl.length-i) 0 rfl (by simp) rfl (by simp) rfl (by omega) ?_
 .intro i hi;by_cases h:i<fl.length
  .have t:fl.getD i dZ.bG=fl.getD i (0,[]):=rfl;have m:=l.sm _ (o _ (gz (d:=(0,[])) h));have z:=se h;have u:=l.aN;have g:(fl.take (i+1)).flatMap cR=(fl.take i).flatMap cR++cR (fl.getD i (0,[])):=by rw[bm h (0,[])];simp
   generalize fl.getD i (0,[])=x at *;refine AK.c8 de ek b [(35,ab)] 200 rfl (by simp;omega) ?_;simp only[bF,t];refine AK.cQ (vP x m.1 (by omega)) [] rfl ?_;refine AK.c8 de ek b [] 200 rfl ar ?_;refine AK.cQ (Jr q ((fl.take i).flatMap cR) (cR x)) [7] rfl ?_;rw[<-g];refine AK.c8 de ek b [] 200 rfl ?_ (AK.aQ (i+1) rfl (by simp) (by simp) h (by omega));simp[bq];omega
  obtain rfl:i=fl.length:=by omega
  rw[cB];have w:=we fl;have u:=l.aN;refine AK.c8 de ek b [(35,ae)] 200 rfl (by simp) (AK.leaveD rfl rfl ?_);refine AK.c8 de ek b [] 200 rfl ar ?_;refine AK.cQ (Kj q (fl.flatMap cR) (cY fl) (by omega) (xU fl) λn=>by rw[jG];simp[nb]) [7] rfl ?_;refine AK.c8 de ek b [] 200 rfl ar ?_;refine AK.bS 8 (λi=>i<=s.1.length) (λi:Nat=>[(4,.e (.one (.ptr 0 0))),(6,.e (.one (.ptr 2 0))),(8,.e (.one (.ptr 5 0))),(47,cP.sl s.1),(48,dI s.1.length),(49,dI i)])
   (λi=>Tx s fl (Er cI (cY fl)) ((s.1.take i).map (·.1)) q (fl.flatMap cR)) (λi=>s.1.length-i) 0 rfl (by simp) rfl (by simp) rfl (by omega) ?_
  intro i hi;have B:((s.1.take i).map (·.1)).length=i:=by simp;omega
  by_cases h:i<s.1.length
  .have t:s.1.getD i cP.bG=s.1.getD i (0,[]):=rfl;have g:=map_take (f:=λp:bw=>p.1) h (0,[]);generalize(s.1.take i).map (λp:bw=>p.1)=a at *;generalize s.1.getD i (0,[])=p at *;have m:=cI.cg a p.1;refine AK.c8 de ek b [(50,ab)] 200 rfl ?_ (AK.aQ (i+1) rfl (by simp) ?_ h (by omega))
   .simp[-ai,t,h,bq,show i3.bytes=8 from rfl];omega
   .rw[g];simp only[au.cat,au,bF,t,b9,eE,aF,aE];and_intros<;>first|exact cn.same|exact m|rfl|omega
  obtain rfl:i=s.1.length:=by omega
  rw[cB];refine AK.c8 de ek b [(50,ae)] 200 rfl (by simp) (AK.leaveD rfl rfl ?_);refine AK.c8 de ek b [] 200 rfl ar ?_;refine AK.freeze 8 5 rfl rfl rfl ?_;refine AK.freeze 6 2 rfl rfl rfl ?_;refine AK.BU ek [] rfl ?_ rfl rfl rfl wE;simp[dZ.list_fn]
end
section
variable {X:Cx ag}[X.gY]
abbrev wQ:ba:=.cp (iv 43 2 (.nil af) 0 [])
abbrev Kb(v:aj)(s:bl):ba:=.cells 27 [.c (.val v),.c (LX s.2.1),.c (LY s.2.2)]
abbrev QA(v:aj)(s:bl):D:=.e (.agg [.c (.val v),.c (LX s.2.1),.c (LY s.2.2)])
abbrev Kc:ba:=.cells 27 [.any,.any,.any]
abbrev zE(v:aj)(s:bl):ba:=.cp (PM (Qz v s.1))
def XE(m:Nat)(b:Nat->Int)(k:Int)(s s':bl)(e:Option aj)(a c d:Bool):List ba :=
 match e with
 |none=>match a,c with
  |false,ae=>[j0 m b k,iI,qX s,wQ]
  |true,ae=>[j0 m b (k+1),iI,qX s,wQ]
  |false,ab=>[j0 m b k,iI,qX s,wQ,iI]
  |true,ab=>[j0 m b (k+1),iI,qX s,wQ,iI]
 |some v=>match a,c,d with
  |true,ae,_=>[j0 m b (k+1),iI,qX s,zE v s']
  |true,ab,ae=>[j0 m b (k+1),iI,qX s,zE v s',iI]
  |true,ab,ab=>[j0 m b (k+1),iI,qX s,zE v s',Kb v s']
  |false,ae,_=>[j0 m b k,iI,qX s,zE v s']
  |false,ab,_=>[j0 m b k,iI,qX s,zE v s',iI]
def x9P(u:Int)(s s':bl)(t:List bu)(a:Option aj)(i:Nat):D :=
 [o8 s,.e (.one (.ptr 0 0)),dI u,dI (1+u),cF.sl t,
  (match a with|none=>.any|some v=>.fe [.agg [.c (.val v),.c (LX s'.2.1),.c (LY s'.2.2)],.one (.c (.bool ab))]),
  (match a with|none=>.any|some v=>.fe [.agg [.c (.val v),.c (LX s'.2.1),.c (LY s'.2.2)],.one (.c (.bool ab))]),
  (match a with|none=>.any|some v=>QA v s'),dB ab,.e (.one (.ptr 4 0)),.any,dB ab].getD i .any
def XF(m:Nat)(b:Nat->Int)(k:Int)(v:aj)(s:bl)(a c d:Bool):List ba :=
 match a,c,d with
 |false,ae,_=>[j0 m b k,iI,Kb v s,zE v s]
 |true,ae,_=>[j0 m b (k+1),iI,Kb v s,zE v s]
 |false,ab,ae=>[j0 m b k,iI,Kb v s,zE v s,iI]
 |true,ab,ae=>[j0 m b (k+1),iI,Kb v s,zE v s,iI]
 |false,ab,ab=>[j0 m b k,iI,Kb v s,zE v s,Kc]
 |true,ab,ab=>[j0 m b (k+1),iI,Kb v s,zE v s,Kc]
abbrev Kd:D:=.fe [.agg [.any,.any,.any],.one (.c (.bool ae))]
def x9F(u:Int)(v:aj)(s:bl)(t:List bu)(i:Nat):D:=[QA v s,.e (.one (.ptr 0 0)),dI u,dI (1+u),cF.sl t,Kd,Kd,.e (.agg [.any,.any,.any]),dB ae,.e (.one (.ptr 4 0)),.any,dB ae].getD i .any
abbrev StJ(k:Nat):={q:bl×aj×Nat // D7 q.1/\k<=q.2.2/\q.2.2<=k+1000}
def D7.ne{s:bl}(h:D7 s):∀p∈s.1,0<p.2.length:=λp a=>(h.p p a).len.1
def Tu:∀j,j<1->([0,3]:List Nat)[j]?=aa j:=λj a=>by grind
def De(s:bl)(by_:Int)(t:List bu)(a:D7 s)(c:qT t)(b:sM 7 s t=ab):dK (ι:=Nat->aj) X 85 [dI 7,o8 s,dI by_,cF.sl t] [] (λ_=>Kd) (λ_=>[]) :=
 (wa (X:=X) 7 s by_ t (by decide) a.size a.num c a.eC a.ne b).le (λ_=>rfl) (λ_=>by simp)
set_option maxRecDepth 20000 in
def Bx(m:Nat)(b:Nat->Int)(A:Bytes b)(k:Nat)(hk:k<=40000)(C:m<=1048576):
  dK (ι:=StJ k) X 53 [.e (.one (.ptr 0 0))] [j0 m b k] (λq=>QA q.1.2.1 q.1.1) (λq=>[j0 m b q.1.2.2,zE q.1.2.1 q.1.1]):=by
 refine dK.nW tok Tryz.func53 rfl rfl rfl λhf=>?_;refine aV [(1000002,ab)] rfl ar ?_;refine AK.spare 43 2 ?_;refine AK.RX 3 2 0 2 (cP.fn []) (by decide) rfl rfl rfl λv0=>?_;refine br rfl ar ?_;refine AK.cP (Ma m b A k (by omega) C) [0] rfl (λ_=>rfl) ?_;rintro⟨⟨t0,k1⟩,M,U,I⟩;simp only at M U I;refine br rfl ar ?_;refine AK.cP (gm m b A k1 5 (by omega) C (by omega)) [0] rfl (λ_=>rfl) ?_;rintro⟨u,u0,u1⟩;refine br rfl ar ?_;refine AK.bS 4 (λq:bl×aj×List bu×Nat×Nat=>D7 q.1/\db q.2.2.1=ab/\q.2.2.2.1<=4/\k<=q.2.2.2.2/\q.2.2.2.2+100*q.2.2.2.1<=k+900) (λq=>f92 q.2.2.1 q.2.2.2.1) (λq=>[j0 m b q.2.2.2.2,iI,Kb q.2.1 q.1,zE q.2.1 q.1]) (λq=>q.2.2.2.1) (([],[],[]),v0,t0,u.toNat,k1+1) rfl ?_ rfl ?_ rfl ⟨D7.nil,M,by grind,by grind,by grind⟩ ?_
 .simp only[au.cat,au,aF,aE];and_intros<;>first|exactλ_ _=>rfl|omega
 .simp;rfl
 rintro⟨s,v,t,n,l⟩ ⟨z,Q,Y,N,P⟩;simp only at z Q Y N P;by_cases hn:0<n
 .have hv:=sU m b l 2 (by omega);have r:au [(l:Int)=(l:Int).toNat,Gz b=Gz (Qc (Gz b)),Bytes (Qc (Gz b)),(l:Int)<=4000000,m<=1048576,(1:Int)<=2,(2:Int)<=4000000]:=⟨rfl,rfl,A,by omega,C,by omega,(by decide:(2:Int)<=4000000)⟩
  have B:au [bq .i64 (1+ln m b l 2)]:=by simp only[au,bq];omega
  have g:bA X [(54,Wh)]:=.cons t54 .nil;refine bE [(19,ab),(1000006,ab)] rfl (by simp only[au,bc];omega) ?_;apply AK.RZ (ι:={q:bl×aj // D7 q.1}) (λ_=>f92 t n) (λq=>[j0 m b (l+1:Nat),iI,Kb q.1.2 q.1.1,zE q.1.2 q.1.1,Kc])
  .intro out;cases H:sM 7 s t with
   |true =>
    have F:=De (X:=X) s (1+ln m b l 2) t z (lM Q) H;refine AK.flags de (x9F (ln m b l 2) v s t) (uI (XF m b l v s) 2 9 10) rfl rfl rfl rfl
     ⟨.OB tok g,
     .OB tok g,
     fV.e1 rfl rfl rfl rfl (λc d=>by cases c<;>cases d<;>exact gD (ds:=[]) tok g (σ':=aa _) rfl r),
     .WG tok g B,
     .OB tok g,
     fV.q3 rfl rfl rfl (λa c d=>by cases a<;>cases c<;>cases d<;>exactλs a f hh b kk cs S i rest A hi hK=>oS.oX F rfl rfl rfl (iX.agg 1 0 3 rfl rfl (PM.Du rfl λ_ h=>h)) rfl (by simp) rfl (λ_=>rfl) (λ_=>rfl) s a f hh b kk cs S i rest A hi λ_=>hK),
     .OB tok g,
     .OB tok g,
     .OB tok g,
     fV.e2 rfl rfl rfl rfl rfl (λa=>by cases a<;>exact gD (ds:=[]) tok g (σ':=aa _) rfl ar),
     fV.e3 rfl rfl rfl rfl rfl (λa=>by cases a<;>exact gD (ds:=[]) tok g (σ':=aa _) rfl ar),
     .OB tok g,ar⟩ ?_
    intro D o;show AK X _ _ _ _ _ (XF m b l v s (D 2) (D 9) (D 10));rw[o 2 (by decide),o 9 (by decide),o 10 (by decide)];refine bE [(1000009,ab)] rfl ar ?_;exact out ⟨(s,v),z⟩ _ _ rfl (by simp)
   |false =>
    have J:=z.save (by_:=1+ln m b l 2) Q (by omega) H;have F:=Dd (X:=X) 7 s (1+ln m b l 2) t (by decide) z.size z.num (lM Q) z.eC z.ne H;generalize gI 7 s (1+ln m b l 2) t=s' at *;refine AK.rU 3 2 0 (E:=43) (k:=2) (cl:=Pu s.1) (by decide) rfl rfl rfl (λ_ h=>h) ?_;refine AK.OC de (x9P (ln m b l 2) s s' t) (SO (XE m b l s s') 2 9 10) (uK aj 5) af rfl rfl rfl rfl rfl
     ⟨.qe tok g,
     .qe tok g,
     gL.pre rfl rfl rfl rfl rfl (λc=>by cases c<;>exact gD (ds:=[]) tok g (σ':=aa _) rfl r),
     .qo tok g B,
     .qe tok g,
     gL.Vt rfl rfl rfl rfl rfl (λj q=>by
      match q with
      |0=>exact .inr (.inr rfl)
      |1=>exact .inr (.inr rfl)
      |2=>exact .inr (.inr rfl)
      |3=>exact .inr (.inr rfl)
      |4=>exact .inr (.inr rfl)
      |5=>grind
      |6=>exact .inr (.inl rfl)
      |7=>exact .inr (.inl rfl)
      |8=>exact .inr (.inr rfl)
      |9=>exact .inr (.inr rfl)
      |10=>exact .inr (.inr rfl)
      |11=>exact .inr (.inr rfl)
      |q+12=>exact .inr (.inr rfl)) (λc=>by cases c<;>exact oS.mP F [3] rfl rfl rfl rfl (by simp) rfl rfl rfl (λ_=>rfl) rfl (λ_=>rfl)),
     .qs tok g,
     .qs tok g,
     .qs tok g,
     gL.UR rfl rfl rfl rfl (λR a=>by cases R<;>cases a<;>exact gD (ds:=[]) tok g (σ':=aa _) rfl ar),
     gL.last rfl rfl rfl rfl rfl rfl (λv'=>gD (ds:=[]) tok g (σ':=aa _) rfl ar),
     .qs tok g,ar⟩ ?_
    intro R D T o;have T:R.isSome=ab:=T.trans (o 5 (by decide));rcases R with _|v'
    .cases T
    show AK X _ _ _ _ _ (XE m b l s s' (aa v') (D 2) (D 9) (D 10));rw[o 2 (by decide),o 9 (by decide),o 10 (by decide)];refine bE [(1000009,ab)] rfl ar ?_;refine AK.HE (φ':=f92 t n) (σ':=[j0 m b (l+1:Nat),iI,Kb v' s',zE v' s',Kc]) ?_ rfl ?_ rfl ?_
    .exact out ⟨(s',v'),J⟩ _ _ rfl (by simp)
    .simp
    .simp
  rintro⟨⟨s',v'⟩,J⟩;refine dv rfl ar ?_;refine AK.cP (tX m b A (l+1) (by omega) C) [0] rfl (λ_=>rfl) ?_;rintro⟨p,hp⟩;refine dv rfl ar ?_;refine AK.cP (Ey m b A (l+1+1+1) (by omega) C) [0] rfl (λ_=>rfl) ?_;rintro⟨⟨x,O⟩,hx,V,L⟩;simp only at hx V L;refine dv rfl ar ?_;refine AK.cQ (vV t p x) [] rfl ?_;have aaQ:=C5 (t:=t) (p:=p) (x:=x);obtain⟨G,y⟩:∃G,G=if(dN t p x).2=ab then(dN t p x).1 else t:=⟨_,rfl⟩
  have W:db G=ab:=by grind
  apply AK.join (f92 G n) [j0 m b O,iI,Kb v' s',zE v' s',Kc]
  .intro out;cases K:(dN t p x).2 with
   |true =>
    rw[K,bt rfl]at y;rw[<-y];refine bE [(1000012,ab)] rfl ar ?_;exact out _ _ rfl (by simp)
   |false =>
    rw[K,bh (by simp)]at y;rw[y]at out;refine bE [(1000012,ab)] rfl ar ?_;exact out _ _ rfl (by simp)
  clear y;refine dv rfl ar ?_;refine AK.cP (gm m b A O 3 (by omega) C (by omega)) [0] rfl (λ_=>rfl) ?_;rintro⟨w,w0,w1⟩;by_cases Z:w=0
  .refine bE [(46,ab)] rfl (by simp[Z]) ?_;refine AK.cP (tX m b A (O+1) (by omega) C) [0] rfl (λ_=>rfl) ?_;rintro⟨p2,YM⟩;have RL:=m9 W;refine dv rfl ar ?_;refine AK.cQ (Ez G p2 (by omega)) [] rfl ?_;refine dv rfl ?_ (AK.aQ (s',v',ll G p2,n-1,O+1+1+1) rfl ?_ ?_ ?_ ?_)
   .simp only[au,bq];omega
   .simp only[au.cat,au,aF,aE];and_intros<;>first|exactλ_ _=>rfl|omega
   .simp
   .grind [Js]
   grind
  .refine bE [(46,ae)] rfl (by simp[Z,bq];omega) (AK.aQ (s',v',G,n-1,O+1) rfl ?_ ?_ ?_ ?_)
   .simp only[au.cat,au,aF,aE];and_intros<;>first|exactλ_ _=>rfl|omega
   .simp
   .grind
   grind
 .refine bE [(19,ae)] rfl (by simp only[au,bY];omega) (AK.leaveD rfl rfl ?_);refine dv rfl ar ?_;refine AK.mg ⟨(s,v,l),z,N,by grind⟩ [0,3] rfl rfl rfl rfl rfl rfl rfl rfl ?_ rfl rfl rfl rfl Tu;simp
end
end R1
def Ke{α:Type}(d:α){P:Nat->α->Prop}:∀n:Nat,(∀i,i<n->∃x,P i x)->∃l:List α,l.length=n/\∀i,i<n->P i (l.getD i d)
 |0,_=>⟨[],rfl,λi hi=>absurd hi (gA _)⟩
 |n+1,h=>by obtain⟨l,b,a⟩:=Ke d n λi hi=>h i (by omega);obtain⟨x,c⟩:=h n (by omega);refine⟨l++[x],by grind,λi hi=>?_⟩;grind
inductive Fit (M:Mem) (b o:Nat) (u:aj) (x:Int):Prop
 |int (n:Int) (h:M b o=aa (.int .i64 n)) (hu:∀M',Rd M' u (.int .i64 x))
 |str (s:ByteArray) (h:M b o=aa (.string s)) (l:List UInt8) (hu:∀M',Rd M' u (.str l))
section
variable {o m g:Nat}{u:aj}{x:Int}
def Fit.fi(h:Fit M b o u x){n:Int}(c:M m g=aa v)(d:Rd M v (.int .i64 n)):∃a v',M.up b o u m g=aa v'/\(∀M',Rd M' v' (.int .i64 a))/\(a=n∨a=x):=by
 unfold Mem.up;by_cases e:m=b/\g=o
 .obtain⟨rfl,rfl⟩:=e;rw[bt ⟨rfl,rfl⟩];cases h with
  |int _ _ f=>exact⟨x,u,rfl,f,.inr rfl⟩
  |str s h=>rw[h]at c;cases c;cases d
 .rw[bh e,c];cases d with
  |int h=>exact⟨n,_,rfl,λ_=>.int h,.inl rfl⟩
def Fit.fs(h:Fit M b o u x){l:List UInt8}(a:M m g=aa v)(c:Rd M v (.str l)):∃l' v',M.up b o u m g=aa v'/\∀M',Rd M' v' (.str l'):=by
 unfold Mem.up;by_cases e:m=b/\g=o
 .obtain⟨rfl,rfl⟩:=e;rw[bt ⟨rfl,rfl⟩];cases h with
  |int n h=>rw[h]at a;cases a;cases c
  |str _ _ l' hu=>exact⟨l',u,rfl,hu⟩
 .rw[bh e,a];cases c with
  |str h1 h2=>exact⟨l,_,rfl,λ_=>.str h1 h2⟩
def Fit.fl(h:Fit M b o u x){t:Bool}(a:M m g=aa v)(c:Rd M v (.sl t k n es)):M.up b o u m g=aa v:=by
 unfold Mem.up;by_cases e:m=b/\g=o
 .obtain⟨rfl,rfl⟩:=e;cases h with
  |int n h=>rw[h]at a;cases a;cases c
  |str s h=>rw[h]at a;cases a;cases c
 grind
end
namespace R1
def two{P:Nat->α->Prop}{x y:α}(b:P 0 x)(a:P 1 y):∀j c,[x,y][j]?=aa c->P j c
 |0,_,h=>by grind
 |1,_,h=>by grind
def MT{o:Nat}{u:aj}{x:Int}(h:Fit M b o u x){e:List ck}(H:Rd M v (.sl ae 2 e.length (eb.fn e))):∃d:List ck,d.length=e.length/\Rd (M.up b o u) v (.sl ae 2 d.length (eb.fn d)):=by
 obtain⟨a,cap,p,n,rfl,z,F,E,J,f⟩:=H.Ff;obtain⟨l,k,B⟩:=Ke (0,[]) (P:=λi (y:ck)=>∀(j:Nat) (c:C),[C.int .i64 y.1,.str y.2][j]?=aa c->∃w,M.up b o u p (n+i*2+j)=aa w/\Rd (M.up b o u) w c) e.length λi hi=>by obtain⟨K,D,r0⟩:=f i hi 0 _ rfl;obtain⟨w1,A,r⟩:=f i hi 1 _ rfl;obtain⟨t,v0,G,s,_⟩:=h.fi D r0;obtain⟨l',v1,I,q⟩:=h.fs A r;exact⟨(t,l'),two (P:=λj c=>∃w,M.up b o u p (n+i*2+j)=aa w/\Rd (M.up b o u) w c) ⟨v0,G,s _⟩ ⟨v1,I,q _⟩⟩
 exact⟨l,k,by rw[k];exact .RY z F E (λ_ _=>rfl) B⟩
structure T9(x:Int)(ps Ua:List bw):Prop where
 len:Ua.length=ps.length
 at':∀i,i<ps.length->(Ua.getD i (0,[])).2.length=(ps.getD i (0,[])).2.length/\((Ua.getD i (0,[])).1=(ps.getD i (0,[])).1∨(Ua.getD i (0,[])).1=x)
def Kf{o:Nat}{u:aj}{x:Int}(h:Fit M b o u x){ps:List bw}(J:Qz v ps M):∃d,T9 x ps d/\Qz v d (M.up b o u):=by
 obtain⟨a,cap,r,q,rfl,B,G,F,L,f⟩:=Rd.Ff J;obtain⟨l,n,p⟩:=Ke (0,[]) (P:=λi (y:bw)=>(y.2.length=(ps.getD i (0,[])).2.length/\(y.1=(ps.getD i (0,[])).1∨y.1=x))/\∀(j:Nat) (c:C),[C.int .i64 y.1,sP y][j]?=aa c->∃w,M.up b o u r (q+i*2+j)=aa w/\Rd (M.up b o u) w c) ps.length λi hi=>by obtain⟨N,E,r0⟩:=f i hi 0 _ rfl;obtain⟨w1,D,k⟩:=f i hi 1 _ rfl;obtain⟨A,v0,H,z,s⟩:=h.fi E r0;have K:=h.fl D k;obtain⟨e,I,t⟩:=MT h k;exact⟨(A,e),⟨I,s⟩,two (P:=λj c=>∃w,M.up b o u r (q+i*2+j)=aa w/\Rd (M.up b o u) w c) ⟨v0,H,z _⟩ ⟨w1,K,t⟩⟩
 refine⟨l,⟨n,λi hi=>(p i hi).1⟩,?_⟩;show Rd _ _ (.sl ae 2 l.length (cP.fn l));rw[n];exact .RY B G F (λ_ _=>rfl) λi hi=>(p i hi).2
structure zx(s:bl):Prop where
 p:∀p∈s.1,p.2.length<=4/\0<=p.1/\p.1<=99
 pl:s.1.length<=20
 ex:∃ps,D7 (ps,s.2)
def D7.Tv{s:bl}(h:D7 s):zx s:=⟨λp a=>by have h1:=(h.p p a).len;have h2:=(h.p p a).no;omega,h.pl,s.1,h⟩
def zx.XG{s:bl}(h:zx s){a:List bw}(c:T9 0 s.1 a):zx (a,s.2):=by
 refine⟨λp d=>?_,by rw[c.len];exact h.pl,h.ex⟩;obtain⟨i,hi,rfl⟩:=kN.1 d;have b:i<s.1.length:=by rw[<-c.len];exact hi
 have h1:=c.at' i b;have h2:=h.p _ (fQ b (0,[]));grind
def zx.sub{s:bl}(h:zx s){a:List bw}(c:∀p∈a,p∈s.1)(hl:a.length<=s.1.length):zx (a,s.2):=⟨λp b=>h.p p (c p b),gB hl h.pl,h.ex⟩
def zx.size{s:bl}(h:zx s):mm s:=by obtain⟨ps,b⟩:=h.ex;have a:=b.size;have h1:=h.pl;exact⟨by omega,λp c=>by have:=(h.p p c).1;omega,a.sn,a.s2,a.h⟩
def zx.num{s:bl}(h:zx s):FJ s:=by obtain⟨ps,b⟩:=h.ex;have a:=b.num;exact⟨λp c=>by have:=(h.p p c).2;omega,a.s,a.h⟩
def Gi{no k:Int}{t:List bu}(b:db t=ab):(bU (kn no k t).2).length<=240:=by have a:=ou.1 b;refine C7 ⟨by simpa[kn]using a.2.2.2,λy c=>?_⟩;obtain⟨f,d,rfl⟩:=ku.1 c;have e:=(a.1 f d).2;simp only[dO,bP,bc]at e;have h:=mZ f.2;show((pieces f.2).map _).length<=40;grind
def zx.an{s:bl}(h:zx s):(fH s.2.1).length<=4800:=by
 obtain⟨ps,a⟩:=h.ex;have c:=a.sl;have e:(fH s.2.1).length<=240*s.2.1.length:=nc λx d=>by obtain⟨no,t,_,_,b,rfl⟩:=(a.s x d).ex;exact Gi b
 grind
def zx.smT{s:bl}(h:zx s):Jq s:=by
 have a:=h.size;have h1:=h.pl;have h2:=h.an;have c:(bO s.1).length<=4*s.1.length:=nc λp b=>by rw[mH];exact(h.p p b).1
 exact⟨⟨a.p,a.s2,a.sn,by omega⟩,a.p2,by omega⟩
end R1
def fV.XH{X:Cx P}{x:Nat->D}{e:Bool->Bool->Bool->Bool->List ba}{f g j d:Nat}(h1:av f i=ae)(h2:av g i=ae)(n:av j i=ae)(l:av d i=ae)(m:fM all d i=ab)(h:∀a b c,OA X N all o (kC all φ x i) (e a b c ae) (x i) (e a b c ae)):fV X N all φ x (qL e f g j d) i o:=by intro D p k;grind[pV]
namespace R1
variable {X:Cx ag}[X.gY]
abbrev SpI(k:Nat):={q:bl×Nat // zx q.1/\k<=q.2/\q.2<=k+1100}
def zx.del{s:bl}(h:zx s)(i:Nat):zx (s.1.take i++s.1.drop (i+1),s.2):=h.sub (λp a=>by grind) (by grind)
def ph{b o cap:Nat}{ps:List bw}(h:Qz (.slice (aa ⟨b,o,af⟩) ps.length cap) ps M)(hi:i<ps.length):(∃n,M b (o+i*2)=aa (.int .i64 n))/\∃w,M b (o+i*2+1)=aa w/\Rd M w (sP (ps.getD i (0,[]))):=by obtain⟨a,c2,l,k,e,_,_,d,_,c⟩:=Rd.Ff h;cases e;cases d (by omega);obtain⟨m,j,r0⟩:=c i hi 0 _ rfl;obtain⟨w1,g,f⟩:=c i hi 1 _ rfl;refine⟨?_,w1,g,f⟩;cases r0;grind
theorem ED{c o cap:Nat}{b:List ck}(h:Rd M (.slice (aa ⟨c,o,af⟩) b.length cap) (.sl ae 2 b.length (eb.fn b)))(hi:0<b.length):∃s,M c (o+0*2+1)=aa (.string s):=by obtain⟨a,c2,k,i,e,_,_,f,_,d⟩:=h.Ff;cases e;cases f hi;obtain⟨w1,j,g⟩:=d 0 hi 1 _ rfl;cases g;grind
abbrev mD(s:bl)(i:Nat):Nat:=cU s.1.length (aa (i:Int))-cU 0 af
abbrev wR(s:bl)(i:Nat):Nat:=cU s.1.length af-cU 0 (aa ((i:Int)+1))
abbrev Cc(s:bl):Nat->List C:=lV (cU 0 af) (cP.fn s.1)
abbrev yb(s:bl)(i:Nat):Nat->List C:=lV (cU 0 (aa ((i:Int)+1))) (cP.fn s.1)
abbrev bf1(s:bl)(i:Nat):ba:=.buf 43 2 (0+mD s i) (cD 0 (λi=>([]:List (List C)).getD i []) (Cc s))
abbrev Ub(s:bl)(i:Nat):ba:=.buf 43 2 (0+mD s i+wR s i) (cD (0+mD s i) (cD 0 (λi=>([]:List (List C)).getD i []) (Cc s)) (yb s i))
def XI(m:Nat)(b:Nat->Int)(k:Int)(s:bl)(i:Nat)(a c d e:Bool):List ba :=
 match a,c,d,e with
 |true,ab,ab,ab=>[j0 m b k,iI,wQ,.cells 27 [.bp 4 (.sl (0+mD s i+wR s i) 2 0 (0+mD s i+wR s i)),.c (LX s.2.1),.c (LY s.2.2)],Ub s i]
 |true,ab,ab,ae=>[j0 m b k,iI,wQ,qX s,Ub s i]
 |true,ab,ae,_=>[j0 m b k,iI,wQ,qX s,Ub s i]
 |true,ae,_,_=>[j0 m b k,iI,wQ,qX s,bf1 s i]
 |false,_,_,_=>[j0 m b k,iI,wQ,qX s]
abbrev x9S(s:bl)(i j:Nat):D :=
 [.e (.one (.c (.sl ab 2 0 λi=>([]:List (List C)).getD i []))),.e (.one (.ptr 3 0)),cP.sl s.1,dI i,.e (.one (.c (.sl ae 2 (mD s i) (Cc s)))),.e (.one (.bp 4 (.sl (0+mD s i) 2 0 (0+mD s i)))),
  .e (.one (.ptr 3 0)),cP.sl s.1,dI i,dI ((i:Int)+1),.e (.one (.c (.sl ae 2 (wR s i) (yb s i)))),.e (.one (.bp 4 (.sl (0+mD s i+wR s i) 2 0 (0+mD s i+wR s i)))),.e (.one (.ptr 3 0)),.any].getD j .any
set_option maxRecDepth 20000 in
def By(m:Nat)(b:Nat->Int)(P:Bytes b)(k:Nat)(hk:k<=40000)(L:m<=1048576):
  dK (ι:=SpI k) X 22 [.e (.one (.ptr 0 0))] [j0 m b k] (λq=>o8 q.1.1) (λq=>[j0 m b q.1.2]):=by
 refine dK.nW tok Tryz.func22 rfl rfl rfl λhf=>?_;refine br rfl ar ?_;refine AK.cP (Bx m b P k hk L) [0] rfl (λ_=>rfl) ?_;rintro⟨⟨s,v,k1⟩,y,H,A⟩;simp only at y H A;refine aV [(1000002,ab)] rfl ar ?_;have hpl:=y.pl;by_cases Y:s.1.length=0
 .refine AK.rU 2 3 0 (E:=43) (k:=2) (cl:=Pu s.1) (by decide) rfl rfl rfl (λ_ h=>h) ?_;refine aV [(10,ab)] rfl (by simp[Y]) ?_;refine AK.mg ⟨(s,k1),y.Tv,H,by grind⟩ [0] rfl rfl rfl rfl rfl rfl rfl rfl ?_ rfl rfl rfl rfl gM;simp
 refine AK.fact (PM.of (l:=2) (p:=∃a cap b' o,v=.slice a s.1.length cap/\(0<s.1.length->a=aa ⟨b',o,af⟩)) rfl λM f=>?_) ?_
 .grind [Rd.Ff]
 rintro⟨a,cap,b',o,rfl,ha⟩;obtain rfl:=ha (by omega);refine aV [(10,ae)] rfl (by simp[Y];omega) ?_;refine AK.cP (gm m b P k1 s.1.length (by omega) L (by omega)) [0] rfl (λ_=>rfl) ?_;rintro⟨i,i0,t⟩;obtain⟨i,rfl⟩:=Int.eq_ofNat_of_zero_le i0;have t:i<s.1.length:=by omega
 refine br rfl ar ?_;refine AK.cP (gm m b P (k1+1) 24 (by omega) L (by omega)) [0] rfl (λ_=>rfl) ?_;rintro⟨w,w0,w1⟩;refine aV [(1000006,ab)] rfl ar ?_;have I:0<(s.1.getD i (0,[])).2.length:=y.ne _ (fQ t (0,[]));by_cases B:w=0
 .have o4:au (gh s.1.length af (aa (i:Int))):=by simp only[gh,au];omega
  have o9:au [bq .i64 ((i:Int)+1)]:=by simp only[au,bq];omega
  have Q:au (gh s.1.length (aa ((i:Int)+1)) af):=by simp only[gh,au];omega
  have W:mD s i=i:=by show((i:Int)).toNat-0=i;omega
  have e2:wR s i=s.1.length-(i+1):=by show s.1.length-((i:Int)+1).toNat=_;omega
  have o5:au [(0+mD s i)*i43.bytes<=140737488355328]:=by rw[show i43.bytes=32 from rfl,W];simp only[au];omega
  have T:au [0+mD s i=0+mD s i,0+mD s i=0+mD s i,(0+mD s i+wR s i)*i43.bytes<=140737488355328]:=by refine⟨rfl,rfl,?_⟩;rw[show i43.bytes=32 from rfl];simp only[au];omega
  refine AK.rU 2 3 0 (E:=43) (k:=2) (cl:=Pu s.1) (by decide) rfl rfl rfl (λ_ h=>h) ?_;refine aV [(20,ab),(1000007,ab)] rfl (by simp[B]) ?_;refine AK.flags de (x9S s i) (qL (XI m b (k1+1+1:Nat) s i) 5 11 12 13) rfl rfl rfl rfl
   ⟨.Rt tok bA.nil,
   .Rt tok bA.nil,
   fV.XH rfl rfl rfl rfl rfl (λa b c=>by cases a<;>cases b<;>cases c<;>exact OA.dg tok bA.nil rfl),
   .Rt tok bA.nil,
   .TT tok bA.nil o4,
   fV.c1 rfl rfl rfl rfl rfl rfl (gD (ds:=[(3000026,ab)]) tok bA.nil (σ':=aa _) rfl o5),
   .Rt tok bA.nil,
   fV.XH rfl rfl rfl rfl rfl (λa b c=>by cases a<;>cases b<;>cases c<;>exact OA.dg tok bA.nil rfl),
   .Rt tok bA.nil,
   .TT tok bA.nil o9,
   .TT tok bA.nil Q,
   fV.c2 rfl rfl rfl rfl rfl rfl (gD (ds:=[]) tok bA.nil (σ':=aa _) rfl T),
   fV.c3 rfl rfl rfl rfl rfl rfl (OA.dg tok bA.nil rfl),
   fV.c4 rfl rfl rfl rfl rfl rfl (gD (ds:=[]) tok bA.nil (σ':=aa _) rfl ar),ar⟩ ?_
  intro D r;show AK X _ _ _ _ _ (XI m b (k1+1+1:Nat) s i (D 5) (D 11) (D 12) (D 13));rw[r 5 (by decide),r 11 (by decide),r 12 (by decide),r 13 (by decide)];refine AK.HE (φ':=[(2,.e (.one (.ptr 1 0))),(3,.e (.one (.ptr 3 0)))]) (σ':=[j0 m b (k1+1+1:Nat),iI,wQ,.cells 27 [.bp 4 (.sl (0+mD s i+wR s i) 2 0 (0+mD s i+wR s i)),.c (LX s.2.1),.c (LY s.2.2)],Ub s i]) ?_ rfl (by simp) rfl (by simp);refine AK.ur 4 rfl rfl rfl (by simp) (by simp) ?_;refine br rfl ar ?_;refine AK.mg ⟨((s.1.take i++s.1.drop (i+1),s.2),k1+1+1),y.Tv.del i,by grind,by grind⟩ [0] rfl rfl rfl rfl rfl rfl rfl rfl ?_ rfl rfl rfl rfl gM;simp only[au.cat,au];refine⟨⟨by grind,λj hj=>?_⟩,⟨ar,.same⟩,⟨ar,.same⟩,ar⟩;show cD (0+mD s i) (cD 0 (λi=>([]:List (List C)).getD i []) (Cc s)) (yb s i) j=_;rw[W,bo];simp only[cD,Cc,yb,lV,cU,bo,gA,bJ,kt,jX.fn,xo,show((i:Int)+1).toNat=i+1 by omega];grind
 by_cases J:w=1
 .refine aV [(20,ae),(35,ab)] rfl (by simp[J];omega) ?_;refine AK.hand _ _ rfl rfl (jk.OW tok 2 rfl rfl (λ_=>rfl) rfl rfl (λM f=>?_)) λw1=>?_
  .obtain⟨_,w,g,F⟩:=ph f t;exact⟨w,g,F.cell⟩
  refine AK.M6 (PM.of (l:=2) (p:=∃b2 V c2,w1=.slice (aa ⟨b2,V,af⟩) (s.1.getD i (0,[])).2.length c2) rfl λM f=>?_) ?_
  .obtain⟨_,w,g,F⟩:=ph f.1 t;cases g.symm.trans f.2;grind[Rd.Ff]
  rintro⟨b2,V,c2,rfl⟩;refine br rfl (by simp only[au];omega) ?_;refine AK.hand _ _ rfl rfl (jk.DZ tok 2 rfl rfl rfl rfl rfl rfl rfl (λM f=>?_)) ?_
  .obtain⟨_,w,g,F⟩:=ph f.1 t;cases g.symm.trans f.2;grind[ED]
  rintro⟨u,O⟩;refine aV [(1000012,ab)] rfl ar ?_;refine AK.GN (ι:={d:List bw // T9 0 s.1 d}) 2 (λq=>PM (Qz (.slice (aa ⟨b',o,af⟩) s.1.length cap) q.1)) rfl (λ_ ch N=>?_) ?_
  .obtain⟨K,U,M,f,Z⟩:=N;obtain⟨_,w,g,F⟩:=ph f.1 t;cases g.symm.trans f.2;obtain⟨s0,R⟩:=ED F I;obtain⟨d,S,p2⟩:=Kf (x:=0) (Fit.str s0 R _ O) f.1;exact⟨⟨d,S⟩,K,U,by grind⟩
  rintro⟨d,z⟩;refine AK.rU 2 3 0 (E:=43) (k:=2) (cl:=Pu d) (by decide) rfl rfl rfl (λ_ h=>by grind) ?_;refine br rfl ar ?_;refine AK.mg ⟨((d,s.2),k1+1+1),y.Tv.XG z,by grind,by grind⟩ [0] rfl rfl rfl rfl rfl rfl rfl rfl ?_ rfl rfl rfl rfl gM;simp
 by_cases G:w=2
 .refine aV [(20,ae),(35,ae),(45,ab)] rfl (by simp[G];omega) ?_;refine AK.hand _ _ rfl rfl (jk.DZ tok 2 rfl rfl rfl rfl rfl rfl rfl (λM f=>?_)) ?_
  .obtain⟨⟨n,g⟩,_⟩:=ph f t;exact⟨_,g⟩
  rintro⟨u,O⟩;refine aV [(1000012,ab)] rfl ar ?_;refine AK.GN (ι:={d:List bw // T9 0 s.1 d}) 2 (λq=>PM (Qz (.slice (aa ⟨b',o,af⟩) s.1.length cap) q.1)) rfl (λ_ ch N=>?_) ?_
  .obtain⟨K,U,M,f,Z⟩:=N;obtain⟨⟨n,g⟩,_⟩:=ph f t;obtain⟨d,S,p2⟩:=Kf (x:=0) (Fit.int n g O) f;exact⟨⟨d,S⟩,K,U,by rw[Z];exact p2⟩
  rintro⟨d,z⟩;refine AK.rU 2 3 0 (E:=43) (k:=2) (cl:=Pu d) (by decide) rfl rfl rfl (λ_ h=>by grind) ?_;refine br rfl ar ?_;refine AK.mg ⟨((d,s.2),k1+1+1),y.Tv.XG z,by grind,by grind⟩ [0] rfl rfl rfl rfl rfl rfl rfl rfl ?_ rfl rfl rfl rfl gM;simp
 refine AK.rU 2 3 0 (E:=43) (k:=2) (cl:=Pu s.1) (by decide) rfl rfl rfl (λ_ h=>h) ?_;refine aV [(20,ae),(35,ae),(45,ae)] rfl (by simp[B,J,G]) ?_;refine AK.mg ⟨(s,k1+1+1),y.Tv,by grind,by grind⟩ [0] rfl rfl rfl rfl rfl rfl rfl rfl ?_ rfl rfl rfl rfl gM;simp
end R1
namespace R1
section
variable {X:Cx ag}
def MX(l:List Int)(n:Int):Ev X 12 [cI.sl l,dI n] [] (dB (l.contains n)) []:=by
 refine Ev.bQ Tryz.func12 rfl λd=>?_;have f:=d.sl 0 rfl;refine br rfl ar ?_;refine AK.bS 0 (λi=>i<=l.length/\∀j,j<i->l.getD j 0≠n) (λi:Nat=>[(0,cI.sl l),(1,dI n),(5,dI i)]) (λ_=>[]) (λi=>l.length-i) 0 rfl (by simp) rfl ar rfl ⟨by omega,by omega⟩ ?_;rintro i ⟨hi,a⟩;by_cases h:i<l.length
 .have b:l.getD (i:Int).toNat cI.bG=l.getD i 0:=rfl;by_cases c:l.getD i 0=n
  .have:l.contains n=ab:=by grind
   rw[this];refine aV [(9,ab),(17,ab)] rfl ?_ (AK.eK (b7.zero rfl));simp only[au,b,bc,gg,aF,aE];and_intros<;>first|exact c|omega
  .refine aV [(9,ab),(17,ae)] rfl ?_ (AK.aQ (i+1) rfl ?_ ar ⟨h,λj e=>?_⟩ (by omega))
   .simp only[au,b,bq,bc,eF,aF,aE];and_intros<;>first|grind|omega
   .simp
   grind
 .have:l.contains n=ae:=by grind[List.getElem_of_mem]
  rw[this];refine aV [(9,ae)] rfl (by simp only[au,bY];omega) (AK.leaveD rfl rfl ?_);exact br rfl ar (AK.bg rfl)
abbrev Kl:di:=mX (aL cI) aI (λl n=>dB (l.contains n)) λ_ _=>[]
def NY:dw X 12 Kl:=.px λl n _=>MX l n
def wh(w:iJ)(b:mm w.1):Ev X 11 [P3 w,P3 w] [] (dB ab) []:=by refine Ev.bQ Tryz.func11 rfl λc=>?_;have a:bA X [(18,wF [o8 w.1,o8 w.1] (dB ab)),(35,PE)]:=.cons (AH (CQ w.1 b)) (.cons SK .nil);refine bk a [(10,ab),(17,ab)] rfl ?_ (AK.bg rfl);simp[cI.aR];exact⟨rfl,rfl,rfl⟩
structure xV(l:List cm)(ns:List Int)(i:Nat)(all:List Int):Prop where
 nd:all.Nodup
 mem:∀n,n∈all↔n∈l.flatMap cR∨n∈ns.take i
def xV.len{l:List cm}{all:List Int}(h:xV l [] 0 all):all.length=(cY l).length:=by
 have b:=xU l;have e:∀n,n∈all↔n∈cY l:=λn=>by rw[h.mem,jG];simp[nb]
 exact Nat.le_antisymm (vM _ _ h.nd λn a=>(e n).1 a) (vM _ _ (b.imp λh=>by omega) λn a=>(e n).2 a)
def xV.le{l:List cm}{ns:List Int}{all:List Int}(h:xV l ns i all):all.length<=(l.flatMap cR).length+ns.length:=by
 have:=vM all (l.flatMap cR++ns) h.nd λn a=>by
  rcases(h.mem n).1 a with h|h
  .exact List.mem_append_left _ h
  .exact List.mem_append_right _ (jr h)
 simpa using this
def Gp(s:bl)(A:il s)(G:s.2.1.length<=4000000)(u:(fH s.2.1).length<=4000000):Ev X 15 [o8 s] [] (dI (cY s.2.1).length) []:=by
 refine Ev.bQ Tryz.func15 rfl λH=>?_;have c:bA X [(12,Kl)]:=.cons NY .nil;have w:=we s.2.1;refine aM c [(1000002,ab)] rfl ar ?_;refine AK.g8 3 3 1 rfl rfl ?_;refine bR c rfl ar ?_;refine AK.bS 2 (λq:Nat×List Int=>q.1<=s.2.1.length/\xV (s.2.1.take q.1) [] 0 q.2) (λq=>[(1,.e (.one (.ptr 0 0))),(3,.e (.one (.vec 1 1 q.2.length (cI.fn q.2)))),(4,dI q.1)]) (λq=>[qX s,.vec 3 1 q.2.length (cI.fn q.2)]) (λq=>s.2.1.length-q.1) (0,[]) rfl (by simp) rfl (by simp) rfl ⟨by simp,⟨by simp,by simp⟩⟩ ?_;rintro⟨i,all⟩ ⟨hi,m⟩;simp only at hi m;by_cases h:i<s.2.1.length
 .have D:s.2.1.getD i dZ.bG=s.2.1.getD i (0,[]):=rfl;have y:=A _ (fQ h (0,[]));have B:=se h;have l:(s.2.1.take (i+1)).flatMap cR=(s.2.1.take i).flatMap cR++cR (s.2.1.getD i (0,[])):=by rw[bm h (0,[])];simp
  have F:((s.2.1.take i).flatMap cR).length+(cR (s.2.1.getD i (0,[]))).length<=(s.2.1.flatMap cR).length:=by
   have C:s.2.1.flatMap cR=(s.2.1.take (i+1)).flatMap cR++(s.2.1.drop (i+1)).flatMap cR:=by rw[<-List.flatMap_append,iR]
   rw[<-b9,<-l,C,b9];omega
  generalize s.2.1.getD i (0,[])=x at *;refine aM c [(12,ab)] rfl (by simp;omega) ?_;simp only[bF,D];refine AK.cQ (rf x y.1 (by omega)) [] rfl ?_;refine bR c rfl ar ?_;generalize cR x=ns at *;refine AK.bS 2 (λq:Nat×List Int=>q.1<=ns.length/\xV (s.2.1.take i) ns q.1 q.2) (λq=>[(1,.e (.one (.ptr 0 0))),(3,.e (.one (.vec 1 1 q.2.length (cI.fn q.2)))),(4,dI i),(5,cI.sl ns),(6,dI q.1)]) (λq=>[qX s,.vec 3 1 q.2.length (cI.fn q.2)]) (λq=>ns.length-q.1) (0,all) rfl (by simp) rfl (by simp) rfl ⟨by simp,⟨m.nd,by simpa using m.mem⟩⟩ ?_;rintro⟨j,g⟩ ⟨E,d⟩;simp only at E d;have t:=d.le;by_cases p:j<ns.length
  .have f:ns.getD (j:Int).toNat cI.bG=ns.getD j 0:=rfl;have o:=bm p 0;have e:=cI.cg g (ns.getD j 0);by_cases k:g.contains (ns.getD j 0)=ab
   .refine aM c [(24,ab),(33,ae)] rfl ?_ (AK.aQ (j+1,g) rfl (by simp) (by simp) ⟨p,⟨d.nd,λn=>?_⟩⟩ (by simp only;omega))
    .simp[-ai,-List.contains_eq_mem,f,show cI.bG=0 from rfl,p,k,cI.list_fn,cI.aR,bq];omega
    .rw[o,d.mem,eO,gQ];have:=(d.mem (ns.getD j 0)).1 (by simpa using k);grind
   .have z:ns.getD j 0∉g:=by simpa[-ai]using k
    have k:g.contains (ns.getD j 0)=ae:=by simpa using k
    have r:(g++[ns.getD j 0]).Nodup:=List.nodup_append.2 ⟨d.nd,by simp,λa u b v e=>z (by rw[gQ]at v;rw[<-v,<-e];exact u)⟩;refine aM c [(24,ab),(33,ab)] rfl ?_ (AK.aQ (j+1,g++[ns.getD j 0]) rfl ?_ ?_ ⟨p,⟨r,λn=>?_⟩⟩ (by simp only;omega))
    .simp[-ai,-List.contains_eq_mem,f,show cI.bG=0 from rfl,p,k,cI.list_fn,cI.aR,bq,show i3.bytes=8 from rfl];omega
    .simp only[au.cat,au,f,b9,eE,aF,aE];and_intros<;>first|exact cn.same|exact e|rfl|omega
    .simp only[au.cat,au,f,b9,eE,aF,aE];and_intros<;>first|exact cn.same|exact e|rfl|omega
    .rw[o,eO,eO,gQ,d.mem];grind
  obtain rfl:j=ns.length:=by omega
  refine aM c [(24,ae)] rfl (by simp) (AK.leaveD rfl rfl ?_);refine bR c rfl (by simp[bq];omega) (AK.aQ (i+1,g) rfl (by simp) (by simp) ⟨h,⟨d.nd,λn=>?_⟩⟩ (by simp only;omega));rw[l,d.mem,cB,eO];simp
 obtain rfl:i=s.2.1.length:=by omega
 rw[cB]at m;refine aM c [(12,ae)] rfl (by simp) (AK.leaveD rfl rfl ?_);refine bR c rfl ar (AK.bg rfl ?_);simp[m.len]
abbrev NZ:di:=ki Ks (λs=>dI (cY s.2.1).length) λs=>[il s,s.2.1.length<=4000000,(fH s.2.1).length<=4000000]
def Ty:dw X 15 NZ:=.oe λs h=>Gp s h.1 h.2.1 h.2.2
structure Tz(s:bl):Prop where
 sz:mm s
 sm:Jq s
 nu:FJ s
 an:(fH s.2.1).length<=4800
abbrev DrB:={q:bl×List Int // Tz q.1/\q.2.length<=5}
def zB(m:Nat)(b:Nat->Int)(f:Bytes b)(j:m<=1048576):dK (ι:=DrB) (Cx.beside ag) 8 [.e (.one (.c (.sl ae 1 m (Gz b))))] [] (λq=>.fe [.one (.c (.int .i64 7)),.agg [.c (Pu q.1.1.1),.c (LX q.1.1.2.1),.c (LY q.1.1.2.2)],.one (.c (.sl ae 1 q.1.2.length (cI.fn q.1.2)))]) (λ_=>[]):=by refine dK.GR Tryz.func8 rfl rfl (dy rfl) (AK.of_code ?_);refine br rfl ar ?_;refine AK.cP (Mz m b j) [] rfl (λ_=>rfl) ?_;rintro⟨g,hm'⟩;refine br rfl ar ?_;refine AK.cP (By g b f 0 (by omega) hm') [1] rfl (λ_=>rfl) ?_;rintro⟨⟨s,k⟩,a,_,l⟩;simp only at a l;refine br rfl ar ?_;refine AK.cP (Gk g b f k (by omega) hm') [1] rfl (λ_=>rfl) ?_;rintro⟨i,d⟩;refine br rfl ar ?_;refine AK.freeze 3 0 rfl rfl rfl ?_;refine AK.g9 (λ_ _ _ h=>⟨⟨(s,i),⟨a.size,a.smT,a.num,a.an⟩,d⟩,h⟩) ?_;refine AK.BU tok [] rfl ?_ rfl rfl rfl wE;simp
end
def MY{k:Int}{s:bl}{keep:List Int}(h:zp k s):Jx k ((s.1,s.2.1.filter λx=>keep.contains x.1,s.2.2),cY (s.2.1.filter λx=>keep.contains x.1),s.1.map (·.1)):=by refine⟨⟨h.pk,h.pa,h.nd,λx b=>h.sn x (mG.1 b).1,h.sa.filter _,h.key,h.log,h.len⟩,λx b n a=>jG.2 ⟨x,b,a⟩,λn a=>?_,List.pairwise_map.2 h.pa⟩;obtain⟨p,c,rfl⟩:=ku.1 a;exact⟨p,c,rfl⟩
def ss:∀{l:List cm}{x:cm},(l.Pairwise λa b=>a.1<b.1)->x∈l->l.find? (λy=>y.1==x.1)=aa x
 |y::l,x,h,c=>by
  obtain⟨e,d⟩:=pF.1 h;rw[List.find?_cons];rcases dD.1 c with rfl|c
  .simp
  .have:=e x c;rw[show(y.1==x.1)=ae by simp;omega];exact ss d c
def BA{k:Int}{s:bl}{keep:List Int}(h:zp k s){x:cm}(a:x∈s.2.1.filter λx=>keep.contains x.1):eB k s x.1=eB k (s.1,s.2.1.filter λx=>keep.contains x.1,s.2.2) x.1:=by simp only[eB,ss h.sa (mG.1 a).1,ss (h.sa.filter _) a]
def r7(m:Nat)(b:Nat->Int)(O:Bytes b)(_:m<=9223372036854775807):Ev (Cx.beside ag) 3 [.e (.one (.c (.sl ae 1 m (Gz b))))] [] (dB ab) []:=by
 refine Ev.bQ Tryz.func3 rfl λT=>?_;by_cases S:1048576<m
 .refine aV [(15,ab)] rfl (by simp;omega) (AK.bg rfl ?_);simp
 refine aV [(15,ae)] rfl (by simp;omega) ?_;refine AK.cP (zB m b O (by omega)) [] rfl (λ_=>rfl) ?_;rintro⟨⟨s,keep⟩,z,D⟩;simp only at z D;have a:=z.sz;have d:=z.sm;have K:=z.an;have w:=Gj (X:=Cx.beside ag) 7 s keep a d.toXv;have t:=Gn 7 s keep a d;have n:=MY (k:=7) (s:=s) (keep:=keep);have r:=λh x l=>BA (k:=7) (s:=s) (keep:=keep) h (x:=x) l;have G:(s.2.1.filter λx=>keep.contains x.1).length<=s.2.1.length:=ru _ _;have j:∀x∈s.2.1.filter (λx=>keep.contains x.1),x∈s.2.1:=λx l=>(mG.1 l).1;have J:(fH (s.2.1.filter λx=>keep.contains x.1)).length<=(fH s.2.1).length:=nk s.2.1 λx=>keep.contains x.1;unfold Dh at w t;refine br rfl ar ?_;cases C:fw 7 s with
 |false =>
  simp only[C,gb,bJ]at w t;refine AK.cQ w [] rfl ?_;refine br rfl ar ?_;refine AK.cQ t [] rfl ?_;have c1:bA (Cx.beside ag) [(11,wF [P3 Uc,P3 Uc] (dB ab))]:=.cons (AH (wh Uc ⟨by simp,by simp,by simp,λx h=>absurd h (by simp),by simp⟩)) .nil;refine bk c1 [(39,ae),(45,ae),(48,ab),(52,ab)] rfl (by simp) (AK.bg rfl ?_);simp
 |true =>
  simp only[C,bZ]at w t;have E:=sT.1 C;have n:=n E;have r:=r E;have R:(s.2.1.filter λx=>keep.contains x.1)=s.2.1.filter λx=>keep.contains x.1:=rfl;generalize B:(s.2.1.filter λx=>keep.contains x.1)=fl at *;have f:mm (s.1,fl,s.2.2):=⟨a.p,a.p2,by have:=a.sn;simp only;omega,λx l=>a.s2 x (j x l),a.h⟩
  have q:Jq (s.1,fl,s.2.2):=⟨⟨d.pN,λx l=>a.s2 x (j x l),by have:=a.sn;simp only;omega,by simp only;omega⟩,d.pk,d.nm⟩
  refine AK.cQ w [] rfl ?_;refine br rfl ar ?_;refine AK.cQ t [] rfl ?_;have c1:bA (Cx.beside ag) [(11,wF [P3 ((s.1,fl,s.2.2),cY fl,s.1.map (·.1)),P3 ((s.1,fl,s.2.2),cY fl,s.1.map (·.1))] (dB ab)),(12,Kl),(13,PF)]:=.cons (AH (wh _ f)) (.cons NY (.cons SM .nil));refine bk c1 [(39,ae),(45,ae),(48,ae)] rfl (by simp) ?_;have M:=a.sn;have H:=a.p;refine AK.loop (λi=>i<=s.2.1.length) (λi:Nat=>[(3,dI 7),(4,.e (.one (.ptr 0 0))),(5,cI.sl keep),(8,.e (.one (.ptr 2 0))),(10,dI ((s.2.1.take i).filter λx=>keep.contains x.1).length),(11,dI i)]) (λ_=>[qX s,QS ((s.1,fl,s.2.2),cY fl,s.1.map (·.1)),QS ((s.1,fl,s.2.2),cY fl,s.1.map (·.1))]) (λi=>s.2.1.length-i) 0 (by omega) (cG rfl (by simp)) rfl ?_;intro i hi;by_cases o:i<s.2.1.length
  .have F:s.2.1.getD (i:Int).toNat dZ.bG=s.2.1.getD i (0,[]):=rfl;have g:(s.2.1.take (i+1)).filter (λx=>keep.contains x.1)=if keep.contains (s.2.1.getD i (0,[])).1=ab then(s.2.1.take i).filter (λx=>keep.contains x.1)++[s.2.1.getD i (0,[])]else(s.2.1.take i).filter (λx=>keep.contains x.1):=wc o (0,[]);have Q:=filter_le s.2.1 (λx=>keep.contains x.1) hi;cases A:keep.contains (s.2.1.getD i (0,[])).1 with
   |true =>
    rw[bt A]at g;refine bk c1 [(61,ab),(71,ab)] rfl ?_ ⟨i+1,o,by omega,cG rfl ?_,rfl⟩
    .simp[-ai,-List.contains_eq_mem,F,show dZ.bG=(0,[])from rfl,o,A,cI.list_fn,cI.aR,bq];omega
    .rw[g];simp
   |false =>
    rw[bh (by rw[A];simp)]at g;refine bk c1 [(61,ab),(71,ae)] rfl ?_ ⟨i+1,o,by omega,cG rfl ?_,rfl⟩
    .simp[-ai,-List.contains_eq_mem,F,show dZ.bG=(0,[])from rfl,o,A,cI.list_fn,cI.aR,bq];omega
    .rw[g];simp
  obtain rfl:i=s.2.1.length:=by omega
  rw[cB,B];refine bk c1 [(61,ae)] rfl (by simp) (AK.leave rfl rfl ?_);refine cz c1 rfl ar ?_;refine AK.loop (λi=>i<=s.1.length) (λi:Nat=>[(3,dI 7),(4,.e (.one (.ptr 0 0))),(8,.e (.one (.ptr 2 0))),(10,dI fl.length),(12,dI i)]) (λ_=>[qX s,QS ((s.1,fl,s.2.2),cY fl,s.1.map (·.1)),QS ((s.1,fl,s.2.2),cY fl,s.1.map (·.1))]) (λi=>s.1.length-i) 0 (by omega) (cG rfl (by simp)) rfl ?_;intro i hi;by_cases o:i<s.1.length
  .have L:s.1.getD (i:Int).toNat cP.bG=s.1.getD i (0,[]):=rfl;have I:(s.1.map (·.1)).getD (i:Int).toNat cI.bG=(s.1.getD i (0,[])).1:=by grind
   refine bk c1 [(78,ab),(94,ae),(107,ae)] rfl ?_ ⟨i+1,o,by omega,cG rfl (by simp),rfl⟩;simp only[au,L,I,eb.list_fn,bq];and_intros<;>first|rfl|exact eb.aR _|omega|(simp<;>omega)
  obtain rfl:i=s.1.length:=by omega
  have P:=Df 7 (s.1,fl,s.2.2) s f.s2 a.s2 f.sn λy N=>r y N;have u:V7 ((s.1,fl,s.2.2),cY fl,s.1.map (·.1)):=by refine⟨q,?_,by simp;omega⟩;have:=r9 fl _ (aZ _);rw[cB]at this;have:=q.aN;simp only at *;omega
  have c2:bA (Cx.beside ag) [(14,wF [dI 7,o8 (s.1,fl,s.2.2),o8 s] (dB ab)),(15,NZ),(16,xJ)]:=.cons (AH P) (.cons Ty (.cons F6 .nil));have v:=Bg.2 n;refine bk c1 [(78,ae)] rfl (by simp) (AK.leave rfl rfl ?_);refine bk c2 [(114,ab),(121,ab),(130,ab),(139,ab)] rfl ?_ (AK.bg rfl ?_)
  .simp only[au,cP.list_fn,dZ.list_fn,cH.list_fn,cI.list_fn,bq];and_intros<;>first|rfl|exact True.intro|exact cP.aR _|exact dZ.aR _|exact cH.aR _|exact cI.aR _|exact f.s2|exact f.sn|exact q.aN|exact u|exact v|(simp;done)|omega
  .simp only[au,cP.list_fn,dZ.list_fn,cH.list_fn,cI.list_fn];exact v
end R1
end Go.AM
