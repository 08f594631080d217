/- Part 4. No condition. -/
import Derived.Test.YtaaemhhkoipeoaaGreatDoorA3
import Derived.Lib.Bytealg
import Derived.Sort.AssemblyPlain
import Derived.Sort.LotD5
import Derived.Sort.Walk13a
import Derived.Conc.DeferLaws
set_option linter.all false
set_option maxHeartbeats 8000000
open Go.Proofs
open Go renaming Value → aj, TypeId → av, Frame → aU, FuncId → aM, execOp → an, undef → ai, Operand → aE, World → aA, Program → aK, Oper → aD, Goroutine → ak, stepG → aH
open Option renaming some → aa, none → af
open Bool renaming true → ab, false → ae
open Go.World renaming cell? → aR
open List renaming getD_eq_getElem?_getD → ah, range → bg
open Go.Sem renaming events_bind → aP
open Go.Result renaming evThen_ok → aV
open Nat renaming beq → az, ble → bC
open Go.Op renaming bytesLess → bd
open Go.Proofs.Tryz renaming prog → ag, underlying22 → aJ
open Go.Conc renaming stepG_seq → ay, stepG_region_end → aw
namespace Go.AM
variable {n k l b i j:Nat}{E:av}{L:Array Bool}{M:Mem}{N:Nat}{P:aK}{S:ak->St->Prop}{c:Code}{g:ak}{o:aD}{s:St}{t:av}{v:aj}{w:aA}{x y:aE}{α:Type}{η:aE->D}{ι:Type}{σ:List bm}{φ:Fr}{all:List aD}{jN:Array av}{cap:List C}{cy:List D}{cs:List aU}{ds:List (Nat×Bool)}{es:Nat->List C}{fo:aE}{gs:Array ak}{obs:List Prop}{off:Nat}{op:BinOp}{ops:Array aD}{ps:List Prop}{rest:List aD}{s':St}{tx:Bool}{ty:av}{val:Nat->Nat->aj}{vs:List aj}{w':aA}{xs:Array aE}{σ' σs:List bm}{res:ι->D}{σ1:ι->List bm}
variable {CT:List (Nat×dv)}{K:List It}{Qf:Post}{T:List (Nat×TI)}{ie:TI}
namespace R1
section
open Go.Proofs Go.Conc.Lib
def OZ:WgLink:={add:=130,done:=132,wait:=134,relMerge:=166,disable:=167,enable:=168,inBubble:=169,associate:=170,fatal:=171,uOr:=172,uAdd:=173,raceRead:=174,uLoad:=175,uStore:=176,disassociate:=177,semrelease:=178,acquire:=180,isAssociated:=181,uCas:=182,raceWrite:=183,semacquire:=184,orU64:=204,addU64:=205,loadU64:=206,storeU64:=207,casU64:=210,tWgP:=207,tUP:=209,tAssoc:=211,tWg:=175,tAU:=173,tU64:=166,tUint:=131,tU32:=164,tPU32:=215,tPAU:=244,tPU64:=246,tNoCopy:=169,tANoCopy:=170,tAlign64:=171}
def B4:WgLib ag OZ where
 f_add:=Tryz.func130.trans (dA aa (by kernel_rfl))
 f_done:=Tryz.func132.trans (dA aa (by kernel_rfl))
 f_wait:=Tryz.func134.trans (dA aa (by kernel_rfl))
 f_relMerge:=Tryz.func166.trans (dA aa (by kernel_rfl))
 f_disable:=Tryz.func167.trans (dA aa (by kernel_rfl))
 f_enable:=Tryz.func168.trans (dA aa (by kernel_rfl))
 f_inBubble:=Tryz.func169.trans (dA aa (by kernel_rfl))
 f_associate:=Tryz.func170.trans (dA aa (by kernel_rfl))
 f_fatal:=Tryz.func171.trans (dA aa (by kernel_rfl))
 f_uOr:=Tryz.func172.trans (dA aa (by kernel_rfl))
 f_uAdd:=Tryz.func173.trans (dA aa (by kernel_rfl))
 f_raceRead:=Tryz.func174.trans (dA aa (by kernel_rfl))
 f_uLoad:=Tryz.func175.trans (dA aa (by kernel_rfl))
 f_uStore:=Tryz.func176.trans (dA aa (by kernel_rfl))
 f_disassociate:=Tryz.func177.trans (dA aa (by kernel_rfl))
 f_semrelease:=Tryz.func178.trans (dA aa (by kernel_rfl))
 f_acquire:=Tryz.func180.trans (dA aa (by kernel_rfl))
 f_isAssociated:=Tryz.func181.trans (dA aa (by kernel_rfl))
 f_uCas:=Tryz.func182.trans (dA aa (by kernel_rfl))
 f_raceWrite:=Tryz.func183.trans (dA aa (by kernel_rfl))
 f_semacquire:=Tryz.func184.trans (dA aa (by kernel_rfl))
 f_orU64:=Tryz.func204.trans (dA aa (by kernel_rfl))
 f_addU64:=Tryz.func205.trans (dA aa (by kernel_rfl))
 f_loadU64:=Tryz.func206.trans (dA aa (by kernel_rfl))
 f_storeU64:=Tryz.func207.trans (dA aa (by kernel_rfl))
 f_casU64:=Tryz.func210.trans (dA aa (by kernel_rfl))
 underlying_tWgP:=Tryz.underlying207
 runUnderlying_tWgP:=Tryz.runUnderlying207
 sizeOf_tWgP:=Tryz.sizeOf207
 isAgg_tWgP:=Tryz.isAgg207
 zeroValue_tWgP:=Tryz.zeroValue207
 underlying_tUP:=Tryz.underlying209
 runUnderlying_tUP:=Tryz.runUnderlying209
 sizeOf_tUP:=Tryz.sizeOf209
 isAgg_tUP:=Tryz.isAgg209
 zeroValue_tUP:=Tryz.zeroValue209
 underlying_tI32:=Tryz.underlying211
 runUnderlying_tI32:=Tryz.runUnderlying211
 sizeOf_tI32:=Tryz.sizeOf211
 isAgg_tI32:=Tryz.isAgg211
 zeroValue_tI32:=Tryz.zeroValue211
 underlying_tWg:=Tryz.underlying175
 runUnderlying_tWg:=Tryz.runUnderlying175
 sizeOf_tWg:=Tryz.sizeOf175
 isAgg_tWg:=Tryz.isAgg175
 zeroValue_tWg:=Tryz.zeroValue175
 underlying_tAU:=Tryz.underlying173
 runUnderlying_tAU:=Tryz.runUnderlying173
 sizeOf_tAU:=Tryz.sizeOf173
 isAgg_tAU:=Tryz.isAgg173
 zeroValue_tAU:=Tryz.zeroValue173
 underlying_tU64:=Tryz.underlying166
 runUnderlying_tU64:=Tryz.runUnderlying166
 sizeOf_tU64:=Tryz.sizeOf166
 isAgg_tU64:=Tryz.isAgg166
 zeroValue_tU64:=Tryz.zeroValue166
 underlying_tSh:=Tryz.underlying131
 runUnderlying_tSh:=Tryz.runUnderlying131
 sizeOf_tSh:=Tryz.sizeOf131
 isAgg_tSh:=Tryz.isAgg131
 zeroValue_tSh:=Tryz.zeroValue131
 underlying_tU32:=Tryz.underlying164
 runUnderlying_tU32:=Tryz.runUnderlying164
 sizeOf_tU32:=Tryz.sizeOf164
 isAgg_tU32:=Tryz.isAgg164
 zeroValue_tU32:=Tryz.zeroValue164
 underlying_tPU32:=Tryz.underlying215
 runUnderlying_tPU32:=Tryz.runUnderlying215
 sizeOf_tPU32:=Tryz.sizeOf215
 isAgg_tPU32:=Tryz.isAgg215
 zeroValue_tPU32:=Tryz.zeroValue215
 underlying_tPAU:=Tryz.underlying244
 runUnderlying_tPAU:=Tryz.runUnderlying244
 sizeOf_tPAU:=Tryz.sizeOf244
 isAgg_tPAU:=Tryz.isAgg244
 zeroValue_tPAU:=Tryz.zeroValue244
 underlying_tPU64:=Tryz.underlying246
 runUnderlying_tPU64:=Tryz.runUnderlying246
 sizeOf_tPU64:=Tryz.sizeOf246
 isAgg_tPU64:=Tryz.isAgg246
 zeroValue_tPU64:=Tryz.zeroValue246
 underlying_t0:=Tryz.underlying0
 runUnderlying_t0:=Tryz.runUnderlying0
 sizeOf_t0:=Tryz.sizeOf0
 isAgg_t0:=Tryz.isAgg0
 zeroValue_t0:=Tryz.zeroValue0
 underlying_t3:=Tryz.underlying3
 runUnderlying_t3:=Tryz.runUnderlying3
 sizeOf_t3:=Tryz.sizeOf3
 isAgg_t3:=Tryz.isAgg3
 zeroValue_t3:=Tryz.zeroValue3
 underlying_t4:=Tryz.underlying4
 runUnderlying_t4:=Tryz.runUnderlying4
 sizeOf_t4:=Tryz.sizeOf4
 isAgg_t4:=Tryz.isAgg4
 zeroValue_t4:=Tryz.zeroValue4
 underlying_t9:=Tryz.underlying9
 runUnderlying_t9:=Tryz.runUnderlying9
 sizeOf_t9:=Tryz.sizeOf9
 isAgg_t9:=Tryz.isAgg9
 zeroValue_t9:=Tryz.zeroValue9
 underlying_t20:=Tryz.underlying20
 runUnderlying_t20:=Tryz.runUnderlying20
 sizeOf_t20:=Tryz.sizeOf20
 isAgg_t20:=Tryz.isAgg20
 zeroValue_t20:=Tryz.zeroValue20
 underlying_t21:=Tryz.underlying21
 runUnderlying_t21:=Tryz.runUnderlying21
 sizeOf_t21:=Tryz.sizeOf21
 isAgg_t21:=Tryz.isAgg21
 zeroValue_t21:=Tryz.zeroValue21
 room_tWg:=by kernel_rfl
 room_tU32:=by kernel_rfl
end
end R1
def cn.imp{d a:D}{ds Fo:List D}(h:∀v,dk σ s v d->dk σ s v a)(k:∀vs,cn σ s vs ds->cn σ s vs Fo):∀vs,cn σ s vs (d::ds)->cn σ s vs (a::Fo)
 |[],r=>r.elim
 |v::vs,r=>⟨h v r.1,k vs r.2⟩
abbrev dP(f:bu):D:=.e (.agg [.c (.str f.1),.c (.str f.2)])
abbrev Nn(a:List bu)(b:Bool):D:=.fK [.one (.c (.sl ae 2 a.length (cF.fn a))),.one (.c (.bool b))]
namespace R1
variable {X:Cx ag}
def R8:dv:=λargs σ=>match args,σ with
 |[c],[]=>match jO 2 c with
  |none=>af
  |some (a,b)=>aa (dB (cE (cF.list a b)),[],[cF.fits a b])
 |_,_=>af
def t85:dH X 85 R8:=by
 intro args σ res σ' obs h ho;unfold R8 at h;split at h
 .split at h
  .cases h
  rename_i b c a;cases h;exact(yC _ ).args (λ_ vs=>cn.imp (λ_=>cF.jb a ho) (λ_ r=>r) vs)
 grind
def YD:List (Nat×dv):=(85,R8)::YC
def Xe:bR X YD:=bR.cons t85 tA
end R1
def iT.cm(c:iT α)(l:List α)(x:α):cq (l.length+1) (cR l.length (c.fn l) (λi=>[c.enc x].getD i [])) (c.fn (l++[x])):=by intro i hi;unfold cR iT.fn xS;grind
@[simp] theorem cq.same{f:Nat->List C}:cq n f f:=λ_ _=>rfl
@[simp] theorem cq.nil{f g:Nat->List C}:cq 0 f g:=λi h=>by omega
namespace R1
variable {X:Cx ag}
def lQ(t:List bu)(p:Bs):List bu:=t.filter λf=>!(f.1==p)
def EN{t:List bu}{p:Bs}(h:i<t.length):lQ (t.take (i+1)) p=lQ (t.take i) p++(if fe t i=p then[]else[(fe t i,uy t i)]):=by
 have e:t.getD i ([],[])=t[i]:=by grind
 have a:(fe t i,uy t i)=t[i]:=by simp only[fe,uy,e]
 rw[lq,bn h,a];simp only[lQ,uL,Option.toList_some];grind
theorem HR(t:List bu)(p:Bs):(lQ t p).length<=t.length:=sG _ _
def Gd(t:List bu)(p:Bs)(c:t.length<=4000000):Ev X 84 [cF.sl t,dS p] [] (cF.sl (lQ t p)) []:=by
 refine Ev.bQ Tryz.func84 rfl λd=>?_;refine bA rfl aq ?_;refine AK.ik 5 115 2 rfl rfl ?_;refine AK.jf (λi=>i<=t.length) (λi:Nat=>[(0,cF.sl t),(1,dS p),(6,dI i),(5,.e (.one (.vec 0 2 (lQ (t.take i) p).length (cF.fn (lQ (t.take i) p)))))]) (λi=>[.vec 115 2 (lQ (t.take i) p).length (cF.fn (lQ (t.take i) p))]) (λi=>t.length-i) 0 rfl ?_ rfl ?_ (by omega) ?_
 .simp[cq,lQ]
 .simp[cq,lQ]
 intro i hi;by_cases h:i<t.length
 .have a:=EN (p:=p) h;have f:(lQ (t.take i) p).length<=4000000:=by grind[HR]
  by_cases b:fe t i=p
  .rw[bc b,lr]at a;refine aY [(11,ab),(20,ae)] rfl ?_ (AK.fH (i+1) rfl ?_ rfl ?_ ?_ ?_)
   .simp[-ah,h,gC,b,bt];omega
   .rw[a];simp[cq]
   .rw[a];simp[cq]
   .omega
   .omega
  .rw[aW b]at a;refine aY [(11,ab),(20,ab)] rfl ?_ (AK.fH (i+1) rfl ?_ rfl ?_ ?_ ?_)
   .simp[-ah,h,gC,b,bt,i115];omega
   .rw[a];simp[-ah];exact cF.cm _ (fe t i,uy t i)
   .rw[a];simp[-ah];exact cF.cm _ (fe t i,uy t i)
   .omega
   .omega
 .have:i=t.length:=by omega
  subst this;refine aY [(11,ae)] rfl (by simp) (AK.leave rfl rfl ?_);refine bA rfl aq (AK.bq rfl ?_);simp[cq]
def Xf:dv:=λargs σ=>match args,σ with
 |[f,.e (.one (.c (.str b)))],[]=>match jO 2 f with
  |none=>af
  |some (a,d)=>aa (cF.sl (lQ (cF.list a d) b),[],[cF.fits a d,((cF.list a d)).length<=4000000])
 |_,_=>af
def t84:dH X 84 Xf:=by
 intro args σ res σ' obs h ho;unfold Xf at h;split at h
 .split at h
  .cases h
  rename_i b c a;cases h;exact(Gd _ _ (ho.2)).args (λ_ vs=>cn.imp (λ_=>cF.jb a ho.1) (cn.imp (λ_ r=>r) (λ_ r=>r)) vs)
 grind
def YE:List (Nat×dv):=(84,Xf)::YD
def Xg:bR X YE:=bR.cons t84 Xe
end R1
def Fits.KJ{args:List D}(h:Fits args σ)(k:Nat){cs:List A}(a:args[k]?=aa (.e (.agg cs)))(j:Nat){t:Bool}{q:Nat}(hj:cs[j]?=aa (A.c (.sl t q n es))):n<=9223372036854775807:=by obtain⟨s,v,b⟩:=h.at a;obtain⟨vs,_,h2⟩:=b;obtain⟨u,_,d⟩:=dT.get h2 hj;cases d<;>omega
namespace R1
def ft{p:Nat->Bool}(hi:i<n)(h:p i=ae):(bg n).all p=ae:=by grind
def gb{p:Nat->Bool}(a:∀j,j<i->p j=ab)(h:p i=ab):∀j,j<i+1->p j=ab:=λj b=>by grind
end R1
namespace R1
section
variable {X:Cx ag}
def rb(f:bu)(acc:List bu×Bool)(g:Bs):List bu×Bool:=if acc.2=ab then acc else if bd g f.1=ab then acc else(acc.1++[f],ab)
def N2(f:bu)(a:List bu×Bool)(g:bu):List bu×Bool:=if g.1=f.1 then a else(a.1++[g],a.2)
def oa(f:bu)(acc:List bu×Bool)(g:bu):List bu×Bool:=N2 f (rb f acc g.1) g
def kT(f:bu)(t:List bu):List bu×Bool:=t.foldl (oa f) ([],ae)
def sx(t:List bu)(f:bu):List bu:=if(kT f t).2=ab then(kT f t).1 else(kT f t).1++[f]
theorem fileAt{t:List bu}(h:i<t.length):t[i]=(fe t i,uy t i):=by
 have e:t.getD i ([],[])=t[i]:=by grind
 simp only[fe,uy,e]
def CU{f:bu}{t:List bu}(h:i<t.length):kT f (t.take (i+1))=oa f (kT f (t.take i)) (fe t i,uy t i):=by rw[lq,bn h,fileAt h];simp[kT]
def CV(f:bu)(acc:List bu×Bool)(g:Bs):(rb f acc g).1.length<=acc.1.length+1:=by unfold rb;grind
def Lf(f:bu)(acc:List bu×Bool)(g:bu):(N2 f acc g).1.length<=acc.1.length+1:=by unfold N2;grind
def xr(f:bu):∀(t:List bu)(acc:List bu×Bool),(t.foldl (oa f) acc).1.length<=acc.1.length+2*t.length
 |[],acc=>by simp
 |g::r,acc=>by
  have b:=xr f r (oa f acc g);have a:=CV f acc g.1;have c:=Lf f (rb f acc g.1) g;simp only[jq,en];have:(oa f acc g).1.length<=acc.1.length+2:=by unfold oa;omega
  omega
abbrev dV(l:Nat)(t:List bu):D:=.e (.one (.vec l 2 t.length (cF.fn t)))
abbrev bV(t:List bu):bm:=.vec 115 2 t.length (cF.fn t)
def N3(t:List bu)(f:bu)(s:t.length<=4000000):Ev X 108 [cF.sl t,dP f] [] (dV 0 (sx t f)) [bV (sx t f)]:=by
 refine Ev.bQ Tryz.func108 rfl λu=>?_;refine bA rfl aq ?_;refine AK.ik 5 115 2 rfl rfl ?_;let A:Nat->List bu×Bool:=λi=>kT f (t.take i);have d:∀i,i<=t.length->(A i).1.length<=8000000:=by intro i hi;have:=xr f (t.take i) ([],ae);simp at this;show(kT f (t.take i)).1.length<=_;unfold kT;omega
 refine AK.jf (λi=>i<=t.length) (λi:Nat=>[(0,cF.sl t),(3,.e (.one (.ptr 0 0))),(7,dI i),(5,dV 1 (A i).1),(6,dB (A i).2)]) (λi=>[.cells 115 [.c (.str f.1),.c (.str f.2)],bV (A i).1]) (λi=>t.length-i) 0 rfl ?_ rfl ?_ (by omega) ?_
 .simp[cq,A,kT]
 .simp[cq,A,kT]
 intro i hi;by_cases h:i<t.length
 .have q:A (i+1)=oa f (A i) (fe t i,uy t i):=CU h;have r:=d i hi;generalize A i=acc at *;have p:=CV f acc (fe t i);apply AK.join [(0,cF.sl t),(3,.e (.one (.ptr 0 0))),(7,dI i),(5,dV 1 (rb f acc (fe t i)).1),(6,dB (rb f acc (fe t i)).2)] [.cells 115 [.c (.str f.1),.c (.str f.2)],bV (rb f acc (fe t i)).1]
  .intro g;cases a:acc.2 with
   |true =>
    have m:rb f acc (fe t i)=acc:=by unfold rb;grind
    rw[m]at g;refine bE [(12,ab),(15,ab),(1000009,ab)] rfl ?_ (g _ _ rfl ?_)
    .simp[h]
    .simp[a]
   |false =>
    cases k:bd (fe t i) f.1 with
    |true =>
     have m:rb f acc (fe t i)=acc:=by unfold rb;grind
     rw[m]at g;refine bE [(12,ab),(15,ae),(25,ae),(1000009,ab)] rfl ?_ (g _ _ rfl ?_)
     .simp[-ah,h,gC,k]
     .simp[a]
    |false =>
     have m:rb f acc (fe t i)=(acc.1++[f],ab):=by unfold rb;grind
     rw[m]at g;refine bE [(12,ab),(15,ae),(25,ab),(1000009,ab)] rfl ?_ (AK.norm _ rfl ?_ (g _ _ rfl ?_))
     .simp[-ah,h,gC,k,i115];omega
     .simp[-ah];exact cF.cm _ f
     .simp[-ah];exact cF.cm _ f
  .have l:A (i+1)=N2 f (rb f acc (fe t i)) (fe t i,uy t i):=q;generalize rb f acc (fe t i)=a1 at *;by_cases n:fe t i=f.1
   .have b:A (i+1)=a1:=by rw[l];exact bc n
    refine bE [(38,ae)] rfl ?_ (AK.fH (i+1) rfl ?_ rfl ?_ ?_ ?_)
    .simp[-ah,h,gC,n,bt];omega
    .rw[b];simp
    .rw[b];simp
    .omega
    .omega
   .have b:A (i+1)=(a1.1++[(fe t i,uy t i)],a1.2):=by rw[l];exact aW n
    refine bE [(38,ab)] rfl ?_ (AK.fH (i+1) rfl ?_ rfl ?_ ?_ ?_)
    .simp[-ah,h,gC,n,bt,i115];omega
    .rw[b];simp[-ah];exact cF.cm _ (fe t i,uy t i)
    .rw[b];simp[-ah];exact cF.cm _ (fe t i,uy t i)
    .omega
    .omega
 .have:i=t.length:=by omega
  subst this;have o:A t.length=kT f t:=by grind
  have r:=d t.length (ba _);refine aY [(12,ae)] rfl (by simp) (AK.leave rfl rfl ?_);have j:sx t f=if(A t.length).2=ab then(A t.length).1 else(A t.length).1++[f]:=by rw[o];rfl
  cases a:(A t.length).2 with
  |true =>
   rw[a,bc rfl]at j;refine aY [(46,ab)] rfl ?_ (AK.norm [.cells 115 [.c (.str f.1),.c (.str f.2)],bV (sx t f)] rfl ?_ (AK.dY [1] rfl ?_ rfl rfl rfl ?_))
   .simp
   .rw[j];simp
   .rw[j];simp
   grind
  |false =>
   rw[a,aW (by simp)]at j;refine aY [(46,ae)] rfl ?_ (AK.norm [.cells 115 [.c (.str f.1),.c (.str f.2)],bV (sx t f)] rfl ?_ (AK.dY [1] rfl ?_ rfl rfl rfl ?_))
   .simp[i115];omega
   .rw[j];simp[-ah];exact cF.cm _ f
   .rw[j];simp[-ah];exact cF.cm _ f
   grind
end
end R1
def cq.app0{f g:Nat->List C}:cq n (cR 0 f g) g:=λi _=>by simp[cR]
namespace R1
variable {X:Cx ag}
def Rt:dv:=λargs σ=>match args,σ with
 |[d,.e (.agg [.c (.str b0),.c (.str b1)])],[]=>match jO 2 d with
  |none=>af
  |some (a,b)=>aa (dV 0 (sx (cF.list a b) (b0,b1)) ,[ bV (sx (cF.list a b) (b0,b1))],[cF.fits a b,((cF.list a b)).length<=4000000])
 |_,_=>af
def t108:dH X 108 Rt:=by
 intro args σ res σ' obs h ho;unfold Rt at h;split at h
 .split at h
  .cases h
  rename_i b c a;cases h;exact(N3 _ _ (ho.2)).args (λ_ vs=>cn.imp (λ_=>cF.jb a ho.1) (cn.imp (λ_ r=>r) (λ_ r=>r)) vs)
 .cases h
def YF:List (Nat×dv):=(108,Rt)::YE
def HS:bR X YF:=bR.cons t108 (Xg)
def dZ(t:List bu)(p x:Bs):List bu×Bool :=
 if cE t=ab/\dF p=ab/\dN x=ab then(if cE (sx t (p,x))=ab then(sx t (p,x),ab)else(t,ae))else([],ae)
abbrev tVB(l:Nat)(t:List bu)(b:Bool):D:=.fK [.one (.vec l 2 t.length (cF.fn t)),.one (.c (.bool b))]
def lP{t:List bu}(h:cE t=ab):t.length<=6:=by simp only[cE,bJ,bh]at h;exact h.2
def ug(t:List bu)(p x:Bs):Ev X 81 [cF.sl t,dS p,dS x] [] (tVB 0 (dZ t p x).1 (dZ t p x).2) [bV (dZ t p x).1]:=by
 refine Ev.bQ Tryz.func81 rfl λf=>?_;have bad:¬(cE t=ab/\dF p=ab/\dN x=ab)->dZ t p x=([],ae):=λh=>aW h;cases a:cE t with
 |false =>
  rw[bad (by grind)];refine aO HS [(10,ae)] rfl ?_ ?_
  .simp[cF.list_fn,cF.au,a]
  .refine AK.ik 6 115 2 rfl rfl (AK.norm [bV []] rfl ?_ (AK.dY [0] rfl ?_ rfl rfl rfl ?_))
   .simp[cq]
   .simp[cq]
   grind
 |true =>
  have g:=lP a;cases b:dF p with
  |false =>
   rw[bad (by grind)];refine aO HS [(10,ab),(14,ae)] rfl ?_ ?_
   .simp[cF.list_fn,cF.au,a,b]
   .refine AK.ik 6 115 2 rfl rfl (AK.norm [bV []] rfl ?_ (AK.dY [0] rfl ?_ rfl rfl rfl ?_))
    .simp[cq]
    .simp[cq]
    grind
  |true =>
   cases c:dN x with
   |false =>
    rw[bad (by grind)];refine aO HS [(10,ab),(14,ab),(19,ae)] rfl ?_ ?_
    .simp[cF.list_fn,cF.au,a,b,c]
    .refine AK.ik 6 115 2 rfl rfl (AK.norm [bV []] rfl ?_ (AK.dY [0] rfl ?_ rfl rfl rfl ?_))
     .simp[cq]
     .simp[cq]
     grind
   |true =>
    have d:dZ t p x=if cE (sx t (p,x))=ab then(sx t (p,x),ab)else(t,ae):=bc ⟨a,b,c⟩;cases e:cE (sx t (p,x))with
    |true =>
     rw[e,bc rfl]at d;rw[d];refine aO HS [(10,ab),(14,ab),(19,ab),(29,ab)] rfl ?_ (AK.norm [bV (sx t (p,x))] rfl ?_ (AK.dY [0] rfl ?_ rfl rfl rfl ?_))
     .simp[cF.list_fn,cF.au,a,b,c,e];omega
     .simp[cF.list_fn]
     .simp[cF.list_fn]
     grind
    |false =>
     rw[e,aW (by simp)]at d;rw[d];refine aO HS [(10,ab),(14,ab),(19,ab),(29,ae)] rfl ?_ (AK.norm [bV (sx t (p,x)),bV t] rfl ?_ (AK.dY [1] rfl ?_ rfl rfl rfl ?_))
     .simp[cF.list_fn,cF.au,a,b,c,e,i115];omega
     .simp[cF.list_fn,cq.app0]
     .simp[cq.app0]
     grind
def wO(t:List bu)(p x:Bs):Ev X 81 [cF.sl t,dS p,dS x] [] (Nn (dZ t p x).1 (dZ t p x).2) [] :=
 (ug t p x).forget rfl (by simp) rfl
def Xh:dv:=λargs σ=>match args,σ with
 |[f,.e (.one (.c (.str b))),.e (.one (.c (.str c)))],[]=>match jO 2 f with
  |none=>af
  |some (a,d)=>aa (Nn (dZ (cF.list a d) b c).1 (dZ (cF.list a d) b c).2,[],[cF.fits a d])
 |_,_=>af
def t81:dH X 81 Xh:=by
 intro args σ res σ' obs h ho;unfold Xh at h;split at h
 .split at h
  .cases h
  rename_i b c a;cases h;exact(wO _ _ _ ).args (λ_ vs=>cn.imp (λ_=>cF.jb a ho) (cn.imp (λ_ r=>r) (cn.imp (λ_ r=>r) (λ_ r=>r))) vs)
 .cases h
def YG:List (Nat×dv):=(81,Xh)::YF
def Xi:bR X YG:=bR.cons t81 (HS)
end R1
def G9(cs:List C)(j:Nat):Nat×(Nat->List C):=match eB j cs with|some (.sl _ _ n es)=>(n,es)|_=>(0,λ_=>[])
def cI:iT Int:={k:=1,enc:=λn=>[.int .i64 n],dec:=λcs=>wE cs 0,b8:=0,inv:=λ_=>rfl,len:=λ_=>rfl}
def cS:iT Bs:={k:=1,enc:=λs=>[.str s],dec:=λcs=>BW cs 0,b8:=[],inv:=λ_=>rfl,len:=λ_=>rfl}
namespace R1
def ef:iT db:={k:=2,enc:=λx=>[.int .i64 x.1,.str x.2],dec:=λcs=>(wE cs 0,BW cs 1),b8:=(0,[]),inv:=λ_=>rfl,len:=λ_=>rfl}
def oA:iT dy:={k:=2,enc:=λx=>[.int .i64 x.1,.int .i64 x.2],dec:=λcs=>(wE cs 0,wE cs 1),b8:=(0,0),inv:=λ_=>rfl,len:=λ_=>rfl}
abbrev sP(p:bo):C:=.sl ae 2 p.2.length (ef.fn p.2)
def cP:iT bo:={k:=2,enc:=λp=>[.int .i64 p.1,sP p],dec:=λcs=>(wE cs 0,ef.list (G9 cs 1).1 (G9 cs 1).2),b8:=(0,[]),inv:=λp=>by show(p.1,ef.list p.2.length (ef.fn p.2))=p;rw[ef.list_fn],len:=λ_=>rfl}
def cL:iT gK:={k:=2,enc:=λx=>[.str x.1,.sl ae 1 x.2.length (cI.fn x.2)],dec:=λcs=>(BW cs 0,cI.list (G9 cs 1).1 (G9 cs 1).2),b8:=([],[]),inv:=λp=>by show(p.1,cI.list p.2.length (cI.fn p.2))=p;rw[cI.list_fn],len:=λ_=>rfl}
def cX:iT cW:={k:=2,enc:=λx=>[.int .i64 x.1,.sl ae 2 x.2.length (cL.fn x.2)],dec:=λcs=>(wE cs 0,cL.list (G9 cs 1).1 (G9 cs 1).2),b8:=(0,[]),inv:=λp=>by show(p.1,cL.list p.2.length (cL.fn p.2))=p;rw[cL.list_fn],len:=λ_=>rfl}
def cH:iT (Int×Int):=oA
abbrev qo(p:bo):D:=.e (.agg [.c (.int .i64 p.1),.c (sP p)])
abbrev U3(r:Option Bs):D:=.e (.agg [.c (.str (r.getD [])),.c (.bool r.isSome)])
end R1
structure Arg(α:Type) where
 enc:α->D
 arg:D->Option (α×List Prop)
 ok:∀{d a o},arg d=aa (a,o)->ar o->∀{σ:List bm} {s:St} {v:aj},dk σ s v d->dk σ s v (enc a)
def aI:Arg Int:=⟨dI,λd=>match d with|.e (.one (.c (.int .i64 n)))=>aa (n,[])|_=>af,λ{d a o} h _ _ _ _ r=>by grind⟩
def aS:Arg Bs:=⟨dS,λd=>match d with|.e (.one (.c (.str n)))=>aa (n,[])|_=>af,λ{d a o} h _ _ _ _ r=>by grind⟩
def aL(c:iT α):Arg (List α):=⟨c.sl,λd=>match jO c.k d with|some (n,es)=>aa (c.list n es,[c.fits n es])|none=>af,λ{d a o} h ho _ _ _ r=>by
 split at h
 .rename_i n es he;cases h;exact c.jb he ho r
 .cases h⟩
def R5:Arg (Int×Bs):=⟨λx=>.e (.agg [.c (.int .i64 x.1),.c (.str x.2)]),λd=>match d with|.e (.agg [.c (.int .i64 a),.c (.str b)])=>aa ((a,b),[])|_=>af,λ{d a o} h _ _ _ _ r=>by grind⟩
def U4:Arg (Int×Int):=⟨λx=>.e (.agg [.c (.int .i64 x.1),.c (.int .i64 x.2)]),λd=>match d with|.e (.agg [.c (.int .i64 a),.c (.int .i64 b)])=>aa ((a,b),[])|_=>af,λ{d a o} h _ _ _ _ r=>by grind⟩
def BV(c:iT α):Arg (Int×List α):=⟨λx=>.e (.agg [.c (.int .i64 x.1),.c (.sl ae c.k x.2.length (c.fn x.2))]),λd=>match d with
 |.e (.agg [.c (.int .i64 a),.c b])=>match jO c.k (.e (.one (.c b)))with|some (n,es)=>aa ((a,c.list n es),[c.fits n es])|none=>af
 |_=>af,λ{d a o} h ho _ s _ r=>by
 split at h
 .split at h
  .rename_i n es he;cases h;obtain⟨vs,l,g⟩:=r
   match vs,g with
   |[],g=>exact g.elim
   |[_],g=>exact g.2.elim
   |_::_::_::_,g=>exact g.2.2.elim
   |[p,m],g=>exact⟨_,l,g.1,c.jb (σ:=[]) (s:=s) (v:=m) he ho g.2.1,aq⟩
  .cases h
 .cases h⟩
def kF(A:Arg α)(res:α->D)(pre:α->List Prop):dv:=λargs σ=>match args,σ with
 |[d],[]=>match A.arg d with
  |some (a,o)=>aa (res a,[],jY o (pre a))
  |none=>af
 |_,_=>af
def nt{i:Type}(A:Arg α)(B:Arg i)(res:α->i->D)(pre:α->i->List Prop):dv:=λargs σ=>match args,σ with
 |[d,e],[]=>match A.arg d with
  |some (a,o)=>match B.arg e with
   |some (b,p)=>aa (res a b,[],jY o (jY p (pre a b)))
   |none=>af
  |none=>af
 |_,_=>af
def Dj{i j:Type}(A:Arg α)(B:Arg i)(C:Arg j)(res:α->i->j->D)(pre:α->i->j->List Prop):dv:=λargs σ=>match args,σ with
 |[d,e,f],[]=>match A.arg d with
  |some (a,o)=>match B.arg e with
   |some (b,p)=>match C.arg f with
    |some (c,q)=>aa (res a b c,[],jY o (jY p (jY q (pre a b c))))
    |none=>af
   |none=>af
  |none=>af
 |_,_=>af
section
variable {X:Cx P}{f:aM}{i j:Type}{A:Arg α}{B:Arg i}{C:Arg j}
def dH.oz{res:α->D}{pre:α->List Prop}(h:∀a,ar (pre a)->Ev X f [A.enc a] [] (res a) []):dH X f (kF A res pre):=by
 intro args σ r σ' obs h1 ho;unfold kF at h1;split at h1
 .split at h1
  .rename_i d a o b;cases h1;rw[ar.cat]at ho;exact(h a ho.2).args λs vs=>cn.imp (λ_ r=>A.ok b ho.1 r) (λ_ r=>r) vs
  .cases h1
 .cases h1
def dH.qn{res:α->i->D}{pre:α->i->List Prop}(h:∀a b,ar (pre a b)->Ev X f [A.enc a,B.enc b] [] (res a b) []):dH X f (nt A B res pre):=by
 intro args σ r σ' obs h1 ho;unfold nt at h1;split at h1
 .split at h1
  .rename_i d e a o c;split at h1
   .rename_i b p hb;cases h1;rw[ar.cat,ar.cat]at ho;exact(h a b ho.2.2).args λs vs=>cn.imp (λ_ r=>A.ok c ho.1 r) (cn.imp (λ_ r=>B.ok hb ho.2.1 r) (λ_ r=>r)) vs
   .cases h1
  .cases h1
 .cases h1
def dH.Ih{res:α->i->j->D}{pre:α->i->j->List Prop}(h:∀a b c,ar (pre a b c)->Ev X f [A.enc a,B.enc b,C.enc c] [] (res a b c) []):dH X f (Dj A B C res pre):=by
 intro args σ r σ' obs h1 ho;unfold Dj at h1;split at h1
 .split at h1
  .rename_i d e g a o k;split at h1
   .rename_i b p hb;split at h1
    .rename_i c q l;cases h1;rw[ar.cat,ar.cat,ar.cat]at ho;exact(h a b c ho.2.2.2).args λs vs=>cn.imp (λ_ r=>A.ok k ho.1 r) (cn.imp (λ_ r=>B.ok hb ho.2.1 r) (cn.imp (λ_ r=>C.ok l ho.2.2.1 r) (λ_ r=>r))) vs
    .cases h1
   .cases h1
  .cases h1
 .cases h1
end
namespace R1
def mH(a:List D)(res:D):dv:=λargs σ=>match σ with|[]=>aa (res,[],[args=a])|_=>af
def nZ{X:Cx ag}{f:aM}{a:List D}{res:D}(h:Ev X f a [] res []):dH X f (mH a res):=by
 intro args σ r σ' obs he ho;unfold mH at he;split at he
 .cases he;have:args=a:=ho;subst this;exact h
 .cases he
def yu(a:List D)(σ0:List bm)(res:D)(σ1:List bm):dv:=λargs σ=>aa (res,σ1,[args=a,σ=σ0])
def yv{X:Cx ag}{f:aM}{a:List D}{σ0 σ1:List bm}{res:D}(h:Ev X f a σ0 res σ1):dH X f (yu a σ0 res σ1):=by intro args σ r σ' obs he ho;cases he;obtain⟨b,c⟩:args=a/\σ=σ0:=ho;subst b c;exact h
end R1
def Hk(M:Mem):List aj->List C->Prop
 |[],[]=>True
 |v::vs,c::cs=>Rd M v c/\Hk M vs cs
 |_,_=>False
structure FA(α:Type) where
 enc:α->List C
 dec:List C->Option (α×List Prop×List C)
 ok:∀{cs a o r},dec cs=aa (a,o,r)->ar o->∀{M:Mem} {vs:List aj},Hk M vs cs->∃v1 v2,vs=v1++v2/\Hk M v1 (enc a)/\Hk M v2 r
def Hk.app{M:Mem}:∀{v1 v2:List aj}{c1 c2:List C},Hk M v1 c1->Hk M v2 c2->Hk M (v1++v2) (c1++c2)
 |[],_,[],_,_,h=>h
 |_::_,_,_::_,_,h1,h2=>⟨h1.1,h1.2.app h2⟩
 |[],_,_::_,_,h,_=>h.elim
 |_::_,_,[],_,h,_=>h.elim
def Hk.one{c:C}{r:List C}(h:Hk M vs (c::r)):∃v a,vs=v::a/\Rd M v c/\Hk M a r:=by
 cases vs with
 |nil=>exact h.elim
 |cons v vs=>exact⟨v,vs,rfl,h⟩
def fL(c:iT α):FA (List α):=⟨λl=>[.sl ae c.k l.length (c.fn l)],λcs=>match cs with
 |d::r=>match jO c.k (.e (.one (.c d)))with|some (n,es)=>aa (c.list n es,[c.fits n es],r)|none=>af
 |_=>af,λ{cs a o r} h ho M vs hr=>by
 split at h
 .split at h
  .rename_i n es he;cases h;obtain⟨v,b,rfl,g,f⟩:=hr.one;exact⟨[v],b,rfl,⟨c.jb (σ:=[]) (s:=⟨[],M,default,λ_=>True⟩) (v:=v) he ho g,aq⟩,f⟩
  .cases h
 .cases h⟩
def fP{c:Type}(A:FA α)(B:FA c):FA (α×c):=⟨λx=>A.enc x.1++B.enc x.2,λcs=>match A.dec cs with
 |some (a,o,r)=>match B.dec r with|some (b,p,q)=>aa ((a,b),jY o p,q)|none=>af
 |none=>af,λ{cs a o r} h ho M vs hr=>by
 split at h
 .rename_i j;split at h
  .rename_i g;cases h;rw[ar.cat]at ho;obtain⟨v1,k,rfl,d,g2⟩:=A.ok j ho.1 hr;obtain⟨e,v4,rfl,i,f⟩:=B.ok g ho.2 g2;exact⟨v1++e,v4,(jo _ _ _).symm,d.app i,f⟩
  .cases h
 .cases h⟩
def U6:List A->Option (List C)
 |[]=>aa []
 |.c x::r=>match U6 r with|some q=>aa (x::q)|none=>af
 |_=>af
def WU:List C->List A
 |[]=>[]
 |x::r=>.c x::WU r
def Kb{σ:List bm}{s:St}:∀{cs:List A}{q:List C}{vs:List aj},U6 cs=aa q->dT σ s vs cs->Hk s.M vs q
 |[],q,vs,h,a=>by cases h;cases vs with|nil=>trivial|cons=>exact a.elim
 |.c x::r,q,vs,h,a=>by
  simp only[U6]at h;split at h
  .rename_i b;cases h;cases vs with
   |nil=>exact a.elim
   |cons v vs=>exact⟨a.1,Kb b a.2⟩
  .cases h
 |.ptr ..::_,_,_,h,_=>by cases h
 |.vec ..::_,_,_,h,_=>by cases h
 |.ref ..::_,_,_,h,_=>by cases h
 |.bp ..::_,_,_,h,_=>by cases h
 |.any::_,_,_,h,_=>by cases h
def Kc{σ:List bm}{s:St}:∀{q:List C}{vs:List aj},Hk s.M vs q->dT σ s vs (WU q)
 |[],[],_=>trivial
 |_::_,_::_,h=>⟨h.1,Kc h.2⟩
 |[],_::_,h=>h.elim
 |_::_,[],h=>h.elim
def WV(F:FA α):Arg α:=⟨λa=>.e (.agg (WU (F.enc a))),λd=>match d with
 |.e (.agg xs)=>match U6 xs with
  |some cs=>match F.dec cs with|some (a,o,[])=>aa (a,o)|_=>af
  |none=>af
 |_=>af,λ{d a o} h ho σ s v r=>by
 split at h
 .split at h
  .rename_i i;split at h
   .rename_i g;cases h;obtain⟨vs,rfl,f⟩:=r;obtain⟨v1,b,rfl,c,g2⟩:=F.ok g ho (Kb i f);cases b with
    |nil=>exact⟨v1,by rw[lr],Kc c⟩
    |cons=>exact g2.elim
   .cases h
  .cases h
 .cases h⟩
namespace R1
section
variable {X:Cx ag}
def JP(k:Int):Ev X 35 [dI k] [] (dB (cD k)) []:=by
 refine Ev.bQ Tryz.func35 rfl λc=>?_;by_cases a:1<=k
 .by_cases b:k<=99
  .refine aY [(4,ab),(7,ab)] rfl ?_ (AK.bq rfl ?_)
   .simp[a,b]
   .simp[cD,a,b]
  .refine aY [(4,ab),(7,ae)] rfl ?_ (AK.bq rfl ?_)
   .simp[a];omega
   .simp[cD,a,b]
 .refine aY [(4,ae)] rfl ?_ (AK.bq rfl ?_)
  .simp;omega
  .simp[cD,a]
def t35:dH X 35 (kF aI (λk=>dB (cD k)) λ_=>[]):=.oz λk _=>JP k
def Ad{s:Bs}(h:i<s.length):b9 (s.take (i+1))=(b9 (s.take i)&&eJ (s.getD i 0)):=by unfold b9;grind[List.take_add_one]
def o4{b:UInt8}:eJ b=ab↔97<=(b.toNat:Int)/\(b.toNat:Int)<=122:=by simp[eJ];omega
def wz{s:Bs}(h:i<s.length)(b:eJ (s.getD i 0)=ae):b9 s=ae:=by
 cases a:b9 s with
 |false=>rfl
 |true =>
  have:=List.all_eq_true.1 a (s.getD i 0) (by grind);grind
def BO(s:Bs):Ev X 188 [dS s] [] (dB (b9 s)) []:=by
 refine Ev.bQ Tryz.func188 rfl λg=>?_;have f:=g.str 0 rfl;refine bA rfl aq ?_;refine AK.wa (λi=>i<=s.length/\b9 (s.take i)=ab) (λi:Nat=>[(0,dS s),(5,dI s.length),(6,dI i)]) (λ_=>[]) (λi=>s.length-i) 0 rfl (by simp) ⟨by omega,by simp[b9]⟩ rfl ?_;rintro i ⟨hi,a⟩;by_cases h:i<s.length
 .by_cases b:cz s i<97
  .refine aY [(7,ab),(12,ab)] rfl ?_ (AK.gO (cg.zero rfl ?_))
   .simp[-ah,h,cC,b]
   .have:eJ (s.getD i 0)=ae:=by
     cases c:eJ (s.getD i 0)with
     |false=>rfl
     |true=>have:=o4.1 c;unfold cz at b;omega
    simp[wz h this]
  .by_cases d:cz s i<=122
   .refine aY [(7,ab),(12,ae),(17,ae)] rfl ?_ (AK.again (i+1) rfl ?_ ?_ ?_ rfl)
    .simp[-ah,h,cC,b,d,bt];grind
    .simp
    .refine⟨by omega,?_⟩;rw[Ad h,a,eL];exact o4.2 (by unfold cz at b d;omega)
    .omega
   .refine aY [(7,ab),(12,ae),(17,ab)] rfl ?_ (AK.gO (cg.zero rfl ?_))
    .simp[-ah,h,cC,b];grind
    .have:eJ (s.getD i 0)=ae:=by
      cases c:eJ (s.getD i 0)with
      |false=>rfl
      |true=>have:=o4.1 c;unfold cz at d;omega
     simp[wz h this]
 .have e:i=s.length:=by omega
  subst e;refine aY [(7,ae)] rfl (by simp) (AK.leave rfl rfl ?_);refine bA rfl aq (AK.bq rfl ?_);rw[cB]at a;simp[a]
def Tu:dH X 188 (kF aS (λs=>dB (b9 s)) λ_=>[]):=.oz λk _=>BO k
abbrev tb1:List (Nat×dv):=[(35,kF aI (λk=>dB (cD k)) λ_=>[]),(188,kF aS (λs=>dB (b9 s)) λ_=>[])]
def WC:bR X tb1:=.cons t35 (.cons Tu .nil)
def BQ(p:Bs):Ev X 157 [dS p] [] (dB (bH p)) []:=by
 refine Ev.bQ Tryz.func157 rfl λc=>?_;by_cases a:1<=p.length
 .by_cases b:p.length<=8
  .refine aO WC [(5,ab),(9,ab),(11,ab)] rfl ?_ (AK.bq rfl ?_)
   .simp;omega
   .simp[bH,a,b]
  .refine aO WC [(5,ab),(9,ae),(11,ae)] rfl ?_ (AK.bq rfl ?_)
   .simp;omega
   .simp[bH,a,b]
 .refine aO WC [(5,ae),(11,ae)] rfl ?_ (AK.bq rfl ?_)
  .simp;omega
  .simp[bH,a]
def t157:dH X 157 (kF aS (λs=>dB (bH s)) λ_=>[]):=.oz λk _=>BQ k
def BR(n:Nat)(h:n<=4000000):Ev X 202 [dI n] [] (dI (cJ n)) []:=by
 refine Ev.bQ Tryz.func202 rfl λd=>?_;by_cases c:n<1
 .refine aY [(5,ab),(9,ab)] rfl ?_ (AK.bq rfl ?_)
  .simp;omega
  .simp[cJ,c]
 .by_cases b:8<n
  .refine aY [(5,ae),(8,ab)] rfl ?_ (AK.bq rfl ?_)
   .simp;omega
   .simp[cJ,b]
  .refine aY [(5,ae),(8,ae)] rfl ?_ ?_
   .simp;omega
   have e:cJ n=2∨cJ n=4∨cJ n=8:=by unfold cJ;grind
   refine AK.wa (λi:Nat=>(i=2∨i=4∨i=8)/\i<=cJ n) (λi:Nat=>[(0,dI n),(3,dI i)]) (λ_=>[]) (λi=>8-i) 2 rfl (by simp) ⟨by simp,by omega⟩ rfl ?_;rintro i ⟨hi,a⟩;by_cases h:i<n
   .refine aY [(12,ab)] rfl ?_ (AK.again (2*i) rfl ?_ ?_ ?_ rfl)
    .simp[bt];omega
    .simp;omega
    .unfold cJ at a⊢;grind
    .omega
   .refine aY [(12,ae)] rfl (by simp;omega) (AK.leave rfl rfl ?_);refine bA rfl aq (AK.bq rfl ?_);have:i=cJ n:=by unfold cJ at a⊢;grind
    simp[this]
theorem D9(s:Bs)(b:UInt8):strip (s++[b])=if b=46 then strip s else s++[b]:=by unfold strip;grind[List.dropWhile_cons]
def wA{s:Bs}(h:n<s.length):strip (s.take (n+1))=if s.getD n 0=46 then strip (s.take n)else s.take (n+1):=by grind[List.take_add_one,D9]
theorem BS(s:Bs):Ev X 197 [dS s,dU 46] [] (dS (strip s)) []:=by
 refine Ev.bQ Tryz.func197 rfl λj=>?_;have f:=j.str 0 rfl;refine bA rfl aq ?_;refine AK.wa (λn=>n<=s.length/\strip (s.take n)=strip s) (λn:Nat=>[(0,dS (s.take n)),(1,dU 46)]) (λ_=>[]) (λn=>n) s.length rfl (by simp) ⟨by omega,by simp⟩ rfl ?_;rintro n ⟨k,a⟩;cases n with
 |zero =>
  refine aY [(7,ae),(16,ae)] rfl ?_ (AK.leave rfl rfl ?_)
  .simp
  refine bA rfl aq (AK.bq rfl ?_);have:strip s=[]:=by rw[<-a];rfl
  simp[this]
 |succ n =>
  have h:(s.take (n+1)).length=n+1:=by grind
  have g:cz (s.take (n+1)) n=cz s n:=by simp[cz,ah,eK]
  have i:=wA (s:=s) (n:=n) (by omega);have b:((n:Int)+1-1).toNat=n:=by omega
  by_cases d:s.getD n 0=46
  .refine aY [(7,ab),(15,ab),(16,ab)] rfl ?_ (AK.again n rfl ?_ ?_ ?_ rfl)
   .have c:cz s n=46:=by unfold cz;rw[d];rfl
    simp[-ah,-List.length_take,h,cC,b,g,c,bt];omega
   .simp;show(s.take (n+1)).take _=_;grind
   .grind
   .omega
  .refine aY [(7,ab),(15,ae),(16,ae)] rfl ?_ (AK.leave rfl rfl ?_)
   .have c:cz s n≠46:=by unfold cz;intro e;exact d (pC.1 (by grind))
    simp[-ah,-List.length_take,h,cC,b,g,c,bt];omega
   refine bA rfl aq (AK.bq rfl ?_);rw[i,aW d]at a;simp[a]
def Tv:dv:=λargs σ=>match args,σ with
 |[.e (.one (.c (.str s))),.e (.one (.c (.int .u8 46)))],[]=>aa (dS (strip s),[],[])
 |_,_=>af
def t197:dH X 197 Tv:=by intro args σ res σ' obs h _;unfold Tv at h;grind[BS]
theorem Nd(s:Bs):Ev X 156 [dS s,dS [46]] [] (dS (strip s)) []:=by
 refine Ev.bQ Tryz.func156 rfl λb=>?_;by_cases h:s=[]
 .subst h;refine aO (bR.cons t197 .nil) [(8,ab),(12,ab)] rfl ?_ (AK.bq rfl ?_)
  .simp
  .simp[strip]
 .refine aO (bR.cons t197 .nil) [(8,ae),(11,ae),(12,ae),(16,ab),(20,ab),(21,ab)] rfl ?_ (AK.bq rfl)
  .cases s with
   |nil=>grind
   |cons a r=>simp;decide
def Qz:dv:=λargs σ=>match args,σ with
 |[.e (.one (.c (.str s))),.e (.one (.c (.str [46])))],[]=>aa (dS (strip s),[],[])
 |_,_=>af
def t156:dH X 156 Qz:=by intro args σ res σ' obs h _;unfold Qz at h;grind[Nd]
def tX{p:Bs}(h:i<p.length):codeOf (p.take (i+1))=27*codeOf (p.take i)+(cz p i-97) % 256+1:=by unfold codeOf;rw[lq,bn h];simp only[uM,Option.toList_some,jq,List.foldl_nil,cz,ah,bn h,gx]
def jE{p:Bs}(h:bH p=ab)(hi:i<=p.length):0<=codeOf (p.take i)/\codeOf (p.take i)<282429536481:=by simp only[bH,bJ,bh]at h;obtain⟨c,q2⟩:=wB (p.take i) 0 1 0 (λb a=>kG h.2 b (jR a)) (by omega) (by omega) (by omega);have:=OW (n:=(p.take i).length) (by grind);rw[Int.one_mul]at q2;exact⟨c,Int.lt_of_lt_of_le q2 this⟩
def wC{p:Bs}(h:i<p.length):p.getD i 0∈p:=by grind
abbrev tb2:List (Nat×dv):=[(35,kF aI (λk=>dB (cD k)) λ_=>[]),(157,kF aS (λs=>dB (bH s)) λ_=>[])]
def oC:bR X tb2:=.cons t35 (.cons t157 .nil)
abbrev Yr(n:Int):D:=.fK [.one (.c (.int .i64 n)),.one (.c .oN)]
def JS(k:Int)(p:Bs)(f:cD k=ab)(b:bH p=ab):Ev X 159 [dI k,dS p] [] (Yr (iM k p)) []:=by
 refine Ev.bQ Tryz.func159 rfl λq=>?_;have a:=b;simp only[bH,bJ,bh]at a;have d:=f;simp only[cD,bJ,bh]at d;refine aO oC [(8,ae),(13,ae)] rfl (by simp[f,b]) ?_;refine AK.wa (λi=>i<=p.length) (λi:Nat=>[(0,dI k),(1,dS p),(6,dI (codeOf (p.take i))),(19,dI p.length),(20,dI i)]) (λ_=>[]) (λi=>p.length-i) 0 rfl (by simp[codeOf]) (by omega) rfl ?_;intro i hi;by_cases h:i<p.length
 .have g:=jE b hi;have r:=jE b (i:=i+1) (by omega);have e:=tX h;refine aY [(21,ab)] rfl ?_ (AK.again (i+1) rfl ?_ ?_ ?_ rfl)
  .simp only[ar,cC,bt];simp[-ah,h,cC];have l:=kG a.2 (p.getD i 0) (wC h);have c:97<=cz p i/\cz p i<=122:=by unfold cz;omega
   omega
  .have l:=kG a.2 (p.getD i 0) (wC h);have c:97<=cz p i/\cz p i<=122:=by unfold cz;omega
   have o:(cz p i-97) % 256=cz p i-97:=Int.emod_eq_of_lt (by omega) (by omega);rw[o]at e;simp[-ah,cC,e]
  .grind
  grind
 .have e:i=p.length:=by omega
  subst e;have g:=yt b;refine aY [(21,ae)] rfl (by simp) (AK.leave rfl rfl ?_);refine bA rfl ?_ (AK.bq rfl ?_)
  .rw[cB];have j:0<=codeOf p*(2*k+1):=Int.mul_nonneg g.1 (by omega);have n:codeOf p*(2*k+1)<=282429536481*199:=Int.mul_le_mul (by omega) (by omega) (by omega) (by omega);generalize codeOf p*(2*k+1)=m at j n;simp only[ar,bt];simp;omega
  .rw[cB];refine ar.cat.2 ⟨?_,ar.cat.2 ⟨rfl,aq⟩⟩;show(_:Int)=_;rw[Int.mul_comm 7919 k];rfl
def t159:dH X 159 (nt aI aS (λk p=>Yr (iM k p)) λk p=>[cD k=ab,bH p=ab]):=.qn λk p h=>JS k p h.1 h.2
def QB(h:o.op=.binOp op t x (.const .nilIface) ty){c:Bool}{ms:Array (String×av)}(k:P.underlying t=aa (.interface ms))(p:η x=.e (.one (.c .oN)))(n:η (.const .nilIface)=.e (.one (.c .oN)))(j:lF op ab=aa c):bF P o η σ (.e (.one (.c (.bool c)))) σ:=by
 refine .quiet λs m q l=>?_;have g:=l x;have d:=l (.const .nilIface);rw[p]at g;rw[n]at d;replace g:=fM g;replace d:=fM d;generalize a:m x=vx at g;generalize b:m (.const .nilIface)=vy at d;cases g;cases d;have i:(Op.equal t .nilIface .nilIface).run P s.w=.ok ab s.w:=by show(Op.equalIn (9999+1) t _ _).run P s.w=_;unfold Op.equalIn;simp[underlying,k]
 have f:∀es,(Op.equal t .nilIface .nilIface).events P s.w es=es:=λes=>by show(Op.equalIn (9999+1) t _ _).events P s.w es=es;unfold Op.equalIn;simp[underlying,k]
 cases op<;>simp only[lF,reduceCtorEq,dm]at j
 .subst j;exact⟨.bool ab,by simp[an,h,a,b,eqGuard,binOp,i],Rd.bool,by simp[an,h,a,b,eqGuard,binOp,i,f]⟩
 .subst j;exact⟨.bool ae,by simp[an,h,a,b,eqGuard,binOp,i],Rd.bool,by simp[an,h,a,b,eqGuard,binOp,i,f]⟩
def G7(k:Int)(p:Bs)(n:Int)(a:cD k=ab)(b:bH p=ab):Ev X 118 [dI k,dS p,dI n] [] (dB (iM k p==n)) []:=by
 refine Ev.bQ Tryz.func118 rfl λc=>?_;refine aO (bR.cons t159 .nil) [(17,ab)] rfl ?_ ?_
 .simp[a,b]
 refine AK.law (QB rfl Tryz.underlying198 rfl rfl rfl) rfl rfl ?_;refine aO (bR.cons t159 .nil) [(17,ab)] rfl ?_ (AK.bq rfl ?_)
 .rfl
 .rfl
def t118:dH X 118 (Dj aI aS aI (λk p n=>dB (iM k p==n)) λk p _=>[cD k=ab,bH p=ab]):=.Ih λk p n h=>G7 k p n h.1 h.2
abbrev dQ(n:Int):D:=.e (.one (.c (.int .u64 n)))
def _root_.Go.AM.AW.F2{X:Cx P}{Q:Post}{x y:Code}(h:AW X N y Q φ σ):AW X N (.cond (.const (.bool ae)) x y) Q φ σ:=by intro s a f hh b k cs S hb hQ;refine .ctl hh rfl (λ_=>uQ (t:=ae) rfl) λd h1=>?_;exact h d a (f.rely h1 hh) (hh.rely h1) b k cs S hb λe φ' σ' s' a' q g c st=>hQ e φ' σ' s' a' q g c (h1.stepW.trans st)
def _root_.Go.AM.AK.F2{P:aK}{X:Cx P}{N:Nat}{Qf:Post}{K:List It}{φ:Fr}{σ:List bm}{x y:Code}(h:AK X N Qf (.code y::K) .normal φ σ):AK X N Qf (.code (.cond (.const (.bool ae)) x y)::K) .normal φ σ:=AW.F2 h
def JH{k l:IntKind}{a b:Int}(c:Int)(h:o.op=.binOp op t x y ty)(u:η x=.e (.one (.c (.int k a))))(r:η y=.e (.one (.c (.int l b))))(m:bt k c)(d:∀w,(binOp op t (.int k a) (.int l b)).run P w=.ok (.int k c) w)(n:∀w,(binOp op t (.int k a) (.int l b)).events P w #[]=#[]):
  bF P o η σ (.e (.one (.c (.int k c)))) σ:=by refine .quiet λs q v p=>?_;have j:=p x;have f:=p y;rw[u]at j;rw[r]at f;replace j:=fM j;replace f:=fM f;generalize g:q x=vx at j;generalize i:q y=vy at f;cases j;cases f;exact⟨.int k c,by simp only[an,h,bU,g,i,gE,cw,d,cY],.int m,by simp[an,h,g,i,gE,jy,d,n]⟩
def Ef:Ev X 231 [dQ 1,dQ 2] [] (.fK [.one (.c (.int .u64 0)),.one (.c (.int .u64 2))]) []:=by refine Ev.bQ Tryz.func231 rfl λa=>?_;exact c6 rfl (by simp[bt]) (AK.bq rfl)
def Eg:Ev X 231 [dQ 1,dQ 3] [] (.fK [.one (.c (.int .u64 0)),.one (.c (.int .u64 3))]) []:=by refine Ev.bQ Tryz.func231 rfl λa=>?_;exact c6 rfl (by simp[bt]) (AK.bq rfl)
def Tx:dv:=λargs σ=>match args,σ with
 |[.e (.one (.c (.int .u64 1))),.e (.one (.c (.int .u64 c)))],[]=>aa (.fK [.one (.c (.int .u64 0)),.one (.c (.int .u64 c))],[],[c=2∨c=3])
 |_,_=>af
def t231:dH X 231 Tx:=by
 intro args σ res σ' obs h ho;unfold Tx at h;split at h
 .cases h;rcases ho with rfl|rfl
  .exact Ef
  .exact Eg
 grind
def QH(c:Int)(a:c=2∨c=3):Ev X 220 [dQ 1,dQ c] [] (.fK [.one (.c (.int .u64 0)),.one (.c (.int .u64 c))]) []:=by
 refine Ev.bQ Tryz.func220 rfl λb=>?_;refine bX (bR.cons t231 .nil) rfl aq ?_;refine AK.F2 ?_;refine bX (bR.cons t231 .nil) rfl ?_ (AK.bq rfl)
 .simp[a]
def Qy:dv:=λargs σ=>match args,σ with
 |[.e (.one (.c (.int .u64 1))),.e (.one (.c (.int .u64 c)))],[]=>aa (.fK [.one (.c (.int .u64 0)),.one (.c (.int .u64 c))],[],[c=2∨c=3])
 |_,_=>af
def t220:dH X 220 Qy:=by
 intro args σ res σ' obs h ho;unfold Qy at h;split at h
 .cases h;exact QH _ ho
 grind
abbrev o0:dv:=kF aS (λp=>dS (iA p)) λ_=>[]
abbrev Ae(r:Option Bs):D:=.fK [.one (.c (.str (r.getD []))),.one (.c (.bool r.isSome))]
def Eb(c:dH X 158 o0)(b:Bs):Ev X 117 [dS b] [] (Ae (fj b)) []:=by
 refine Ev.bQ Tryz.func117 rfl λf=>?_;have e:bR X [(156,Qz),(157,kF aS (λs=>dB (bH s)) λ_=>[]),(158,o0)]:=.cons t156 (.cons t157 (.cons c .nil));by_cases a:bH (strip b)=ab
 .by_cases d:iA (strip b)=b
  .refine aO e [(10,ae),(15,ae)] rfl ?_ (AK.bq rfl ?_)
   .simp[a,d]
   .simp[fj,a,d]
  .refine aO e [(10,ae),(15,ab)] rfl ?_ (AK.bq rfl ?_)
   .simp[a,d]
   .simp[fj,a,d]
 .refine aO e [(10,ab),(15,ab)] rfl ?_ (AK.bq rfl ?_)
  .simp[a]
  .simp[fj,a]
def Tw(a:dH X 158 o0):dH X 117 (kF aS (λb=>Ae (fj b)) λ_=>[]):=.oz λb _=>Eb a b
def wD{b p:Bs}(h:fj b=aa p):bH p=ab:=by unfold fj at h;grind
abbrev WH(x:db):D:=R5.enc x
def JU(c:dH X 158 o0)(x:db)(k:Int)(d:cD k=ab):Ev X 93 [WH x,dI k] [] (Ae (chunk k x)) []:=by
 refine Ev.bQ Tryz.func93 rfl λh=>?_;have f:bR X [(117,kF aS (λb=>Ae (fj b)) λ_=>[]),(118,Dj aI aS aI (λk p n=>dB (iM k p==n)) λk p _=>[cD k=ab,bH p=ab])]:=.cons (Tw c) (.cons t118 .nil);cases a:fj x.2 with
 |none =>
  refine aO f [(16,ab),(23,ab)] rfl ?_ (AK.bq rfl ?_)
  .simp[a]
  .simp[chunk,a]
 |some p =>
  have g:=wD a;by_cases e:iM k p=x.1
  .refine aO f [(16,ae),(23,ae)] rfl ?_ (AK.bq rfl ?_)
   .simp[a,e,d,g]
   .simp[chunk,a,e,d]
  .refine aO f [(16,ae),(23,ab)] rfl ?_ (AK.bq rfl ?_)
   .simp[a,e,d,g]
   .simp[chunk,a,e,d]
def JV(a:dH X 158 o0):dH X 93 (nt R5 aI (λx k=>Ae (chunk k x)) λ_ k=>[cD k=ab]):=.qn λx k h=>JU a x k h
def QC(x:db)(n:Int):Ev X 209 [WH x,.e (.one (.c (.rp [.int .i64 n])))] [] (dB (x.1==n)) []:=by refine Ev.bQ Tryz.func209 rfl λa=>?_;exact bA rfl aq (AK.bq rfl)
def QD:dv:=λargs σ=>match args,σ with
 |[.e (.agg [.c (.int .i64 a0),.c (.str a1)]),.e (.one (.c (.rp [.int .i64 n])))],[]=>aa (dB (a0==n),[],[a1=a1])
 |_,_=>af
def t209:dH X 209 QD:=by
 intro args σ res σ' obs h ho;unfold QD at h;split at h
 .rename_i a b n;cases h;exact QC (a,b) n
 grind
abbrev JW(n:Int):D:=.e (.one (.c (.fn (.func 209) [] [.rp [.int .i64 n]])))
def Af(l:List db)(n:Int):Int:=match l.findIdx? (λx=>x.1==n)with|some i=>i|none=>-1
def Ng{t:List db}{n:Int}(hi:i<t.length)(h:(t.getD i (0,[])).1=n)(a:∀j,j<i->(t.getD j (0,[])).1≠n):Af t n=i:=by
 have:t.findIdx? (λf=>f.1==n)=aa i:=by
  rw[qA];refine⟨hi,?_,λj b=>?_⟩
  .grind
  grind
 rw[Af,this]
def G8{t:List db}{n:Int}(a:∀j,j<t.length->(t.getD j (0,[])).1≠n):Af t n=-1:=by
 have:t.findIdx? (λf=>f.1==n)=af:=by grind[List.getElem_of_mem]
 rw[Af,this]
def Nh(t:List db)(n:Int):Ev X 208 [ef.sl t,JW n] [] (dI (Af t n)) []:=by
 refine Ev.bQ Tryz.func208 rfl λe=>?_;have c:=e.sl 0 rfl;have b:bR X [(209,QD)]:=.cons t209 .nil;refine bX b rfl aq ?_;refine AK.jf (λi=>i<=t.length/\∀j,j<i->(t.getD j (0,[])).1≠n) (λi:Nat=>[(0,ef.sl t),(1,JW n),(7,dI t.length),(8,dI i)]) (λ_=>[]) (λi=>t.length-i) 0 rfl ?_ rfl aq ⟨by omega,by omega⟩ ?_
 .simp
 rintro i ⟨hi,a⟩;by_cases h:i<t.length
 .by_cases d:(t.getD i (0,[])).1=n
  .refine aO b [(9,ab),(16,ab)] rfl ?_ (AK.gO (cg.zero rfl ?_))
   .simp only[ar,bD];grind
   .simp[Ng h d a]
  .refine aO b [(9,ab),(16,ae)] rfl ?_ (AK.fH (i+1) rfl ?_ rfl aq ?_ ?_)
   .simp only[ar,bD];exact⟨by simp only[bt];omega,aq,dG.2 d,by omega,by omega,dc (by omega)⟩
   .simp
   .grind
   .omega
 .refine aO b [(9,ae)] rfl (by simp;omega) (AK.leave rfl rfl ?_);refine bX b rfl aq (AK.bq rfl ?_);simp[G8 (λj f=>a j (by omega))]
def QE:dv:=λargs σ=>match args,σ with
 |[d,.e (.one (.c (.fn (.func 209) [] [.rp [.int .i64 n]])))],[]=>match jO 2 d with
  |none=>af
  |some (m,es)=>aa (dI (Af (ef.list m es) n),[],[ef.fits m es])
 |_,_=>af
def t208:dH X 208 QE:=by
 intro args σ res σ' obs h ho;unfold QE at h;split at h
 .rename_i d n;split at h
  .cases h
  rename_i m es hd;cases h;exact(Nh _ n).args (λ_ vs=>cn.imp (λ_=>ef.jb hd ho) (cn.imp (λ_ r=>r) (λ_ r=>r)) vs)
 grind
def Ec(t:List db)(n:Int):(Af t n=-1/\t.find? (λx=>x.1==n)=af)∨∃i:Nat,i<t.length/\Af t n=i/\t.find? (λx=>x.1==n)=aa (t.getD i (0,[])):=by unfold Af;grind[List.findIdx?_eq_some_iff_getElem,List.find?_eq_some_iff_getElem]
def Ed(a:dH X 158 o0)(k:Int)(p:bo)(n:Int)(g:cD k=ab):Ev X 179 [dI k,qo p,dI n] [] (Ae (dx k p n)) []:=by
 refine Ev.bQ Tryz.func179 rfl λh=>?_;have f:bR X [(208,QE),(93,nt R5 aI (λx k=>Ae (chunk k x)) λ_ k=>[cD k=ab])]:=.cons t208 (.cons (JV a) .nil);have d:ef.list p.2.length (ef.fn p.2)=p.2:=ef.list_fn _;refine BU [] 7 rfl aq ?_;refine AK.freeze 5 1 rfl rfl rfl ?_;rcases Ec p.2 n with⟨b,c⟩|⟨i,hi,b,c⟩
 .refine aO f [(14,ab)] rfl ?_ (AK.bq rfl ?_)
  .simp only[ar,d,b];exact⟨rfl,ef.au _⟩
  .simp[dx,c]
 .refine aO f [(14,ae)] rfl ?_ (AK.bq rfl ?_)
  .simp only[ar,d,b];exact⟨g,by omega,by omega,gH (by omega),ef.au _⟩
  .have e:dx k p n=chunk k (p.2.getD i (0,[])):=by simp only[dx,c]
   rw[e,d,b];simp only[bD];exact ar.cat.2 ⟨rfl,ar.cat.2 ⟨rfl,aq⟩⟩
def QF(a:dH X 158 o0):dH X 179 (Dj aI (BV ef) aI (λk p n=>Ae (dx k p n)) λk _ _=>[cD k=ab]):=.Ih λk p n h=>Ed a k p n h
def lg:∀(l:List UInt8)(c:UInt8),Lib.indexByte l c<l.length∨Lib.indexByte l c=-1
 |[],c=>.inr (by rw[Lib.indexByte.eq_def])
 |b::l,c=>by have a:=lg l c;grind[Lib.indexByte.eq_def]
set_option maxRecDepth 20000 in
theorem AL(s:Bs)(c:UInt8):Ev X 232 [dS s,dU c.toNat] [] (dI (Lib.indexByte s c)) []:=by
 refine Ev.bQ Tryz.func232 rfl λq=>?_;have r:=q.str 0 rfl;refine bA rfl aq ?_;refine AK.one (x:=dI (Lib.indexByte s c)) (σ':=[]) ?_ rfl ?_
 .refine OA.mN (λ_ _ _ _=>dD (by rfl)) ?_;refine bF.nL λst ρ A l=>?_;have p:=fM (l (.tmp 5));have n:=fM (l (.tmp 6));generalize g:ρ (.tmp 5)=v1 at p;generalize i:ρ (.tmp 6)=v2 at n;cases p with
  |str e1 l1 =>
  cases n with
  |int l2 =>
  have h:ρ (.func 239)=.func (.func 239) #[] #[]:=by
   have:=fM (l (.func 239));generalize ρ (.func 239)=v at this;cases this with
   |fn fs cs a b u y c1 c2 d1 d2 =>
    grind
  have f:(callFunc 239 #[.string ‹ByteArray›,.int .u8 c.toNat]).run ag st.w=.ok (.value (.int .i64 (Lib.indexByte s c))) st.w:=by rw[run_callFunc_extern Tryz.func239 (by kernel_rfl) (by kernel_rfl) (by kernel_rfl) (e:=Extern.BytealgIndexByte.indexByte) (by kernel_rfl),Lib.run_indexByteString];subst e1;simp
  have k:c9 ag (Extern.BytealgIndexByte.indexByte #[.string ‹ByteArray›,.int .u8 c.toNat]):=by
   refine c9.bind (m:=Extern.Bytes.bytesOf (.string ‹ByteArray›)) (λ_ _=>rfl) λb=>c9.bind (m:=Extern.Bytes.asByte (.int .u8 c.toNat)) (λ_ _=>?_) λd=>?_
   .simp[Extern.Bytes.asByte]
   .skip
    split<;>exact .pure
  have j:=lB Tryz.func239 (by kernel_rfl) (by kernel_rfl) (by kernel_rfl) (e:=Extern.BytealgIndexByte.indexByte) (by kernel_rfl) _ k st.w #[];refine⟨.int .i64 (Lib.indexByte s c),?_,Rd.int ?_,?_⟩
  rotate_left 2
  .intro z o;simp[an,resolve,Deferred.ofValue,invoke,g,i,h,j]at o;subst o;exact .inr ⟨_,rfl⟩
  .simp[an,resolve,Deferred.ofValue,invoke,g,i,h,f]
  .have t:=Lib.indexByte_ge s c;have B:=lg s c;simp only[bt];omega
 .exact bA rfl aq (AK.bq rfl)
def Nf(a:Int)(b:C)(n:Int):Ev X 77 [.e (.agg [.c (.int .i64 a),.c b]),.e (.one (.c (.rp [.int .i64 n])))] [] (dB (a==n)) []:=by refine Ev.bQ Tryz.func77 rfl λd=>?_;exact bA rfl aq (AK.bq rfl)
def WE:dv:=λargs σ=>match args,σ with
 |[.e (.agg [.c (.int .i64 a0),.c b]),.e (.one (.c (.rp [.int .i64 n])))],[]=>aa (dB (a0==n),[],[])
 |_,_=>af
def t77:dH X 77 WE:=by
 intro args σ res σ' obs h ho;unfold WE at h;split at h
 .cases h;exact Nf _ _ _
 .cases h
abbrev OV(n:Int):D:=.e (.one (.c (.fn (.func 77) [] [.rp [.int .i64 n]])))
def qw(l:List cW)(n:Int):Int:=match l.findIdx? (λx=>x.1==n)with|some i=>i|none=>-1
def JQ{t:List cW}{n:Int}(hi:i<t.length)(h:(t.getD i (0,[])).1=n)(a:∀j,j<i->(t.getD j (0,[])).1≠n):qw t n=i:=by
 have:t.findIdx? (λf=>f.1==n)=aa i:=by
  rw[qA];refine⟨hi,?_,λj c=>?_⟩
  .simpa[ah,bn hi]using h
  .have b:j<t.length:=by omega
   simpa[ah,bn b]using a j c
 rw[qw,this]
def Ea{t:List cW}{n:Int}(a:∀j,j<t.length->(t.getD j (0,[])).1≠n):qw t n=-1:=by
 have:t.findIdx? (λf=>f.1==n)=af:=by rw[y0];intro f c;obtain⟨j,b,rfl⟩:=dL c;simpa[ah,bn b]using a j b
 rw[qw,this]
def JR(t:List cW)(n:Int):Ev X 76 [cX.sl t,OV n] [] (dI (qw t n)) []:=by
 refine Ev.bQ Tryz.func76 rfl λf=>?_;have e:=f.sl 0 rfl;have b:bR X [(77,WE)]:=.cons t77 .nil;refine bX b rfl aq ?_;refine AK.jf (λi=>i<=t.length/\∀j,j<i->(t.getD j (0,[])).1≠n) (λi:Nat=>[(0,cX.sl t),(1,OV n),(7,dI t.length),(8,dI i)]) (λ_=>[]) (λi=>t.length-i) 0 rfl ?_ rfl aq ⟨by omega,by omega⟩ ?_
 .simp
 rintro i ⟨hi,a⟩;by_cases h:i<t.length
 .by_cases d:(t.getD i (0,[])).1=n
  .refine aO b [(9,ab),(16,ab)] rfl ?_ (AK.gO (cg.zero rfl ?_))
   .simp only[ar,bD];exact⟨eG.2 d,by omega,by omega,dc (by omega)⟩
   .simp[JQ h d a]
  .refine aO b [(9,ab),(16,ae)] rfl ?_ (AK.fH (i+1) rfl ?_ rfl aq ?_ ?_)
   .simp only[ar,bD];exact⟨by simp only[bt];omega,dG.2 d,by omega,by omega,dc (by omega)⟩
   .simp
   .refine⟨by omega,λj c=>?_⟩;rcases uG.1 c with c|rfl
    .exact a j c
    .exact d
   .omega
 .refine aO b [(9,ae)] rfl (by simp;omega) (AK.leave rfl rfl ?_);refine bX b rfl aq (AK.bq rfl ?_);simp[Ea (λj c=>a j (by omega))]
def WG:dv:=λargs σ=>match args,σ with
 |[d,.e (.one (.c (.fn (.func 77) [] [.rp [.int .i64 n]])))],[]=>match jO 2 d with
  |none=>af
  |some (m,es)=>aa (dI (qw (cX.list m es) n),[],[cX.fits m es])
 |_,_=>af
def t76:dH X 76 WG:=by
 intro args σ res σ' obs h ho;unfold WG at h;split at h
 .rename_i d n;split at h
  .cases h
  rename_i m es hd;cases h;exact(JR _ n).args (λ_ vs=>cn.imp (λ_=>cX.jb hd ho) (cn.imp (λ_ r=>r) (λ_ r=>r)) vs)
 .cases h
def BT(t:List cW)(n:Int):(qw t n=-1/\t.find? (λx=>x.1==n)=af)∨∃i:Nat,i<t.length/\qw t n=i/\t.find? (λx=>x.1==n)=aa (t.getD i (0,[])):=by
 unfold qw;cases h:t.findIdx? (λx=>x.1==n)with
 |none =>
  refine .inl ⟨rfl,?_⟩;rw[y0]at h;exact List.find?_eq_none.2 λx c=>by simp[h x c]
 |some i =>
  rw[qA]at h;obtain⟨hi,d,b⟩:=h;refine .inr ⟨i,hi,rfl,?_⟩;rw[yY];refine⟨?_,i,hi,?_,λj a=>?_⟩
  .simpa[ah,bn hi]using d
  .simp[ah,bn hi]
  .have:=b j a;simpa using this
def uz(b:Nat->Int):Nat->List C:=λi=>[.int .u8 (b i)]
def Bytes(b:Nat->Int):Prop:=∀i,0<=b i/\b i<=255
abbrev mJ(m:Nat)(b:Nat->Int)(k:Int):bm:=.cells 93 [.c (.sl ae 1 m (uz b)),.c (.int .i64 k)]
def dW.qy{f:aM}{fn:Func}{args:List D}{σ':ι->List bm}(d:Tryz.prog.funcs[f]?=aa fn)(a:(fn.name== "runtime.NumGoroutine")=ae)(hb:fn.body=aa c)(b:bC args.length fn.ntmps=ab)(h:Fits args σ->AK X fn.ntmps (λe φ σ1=>∃j,cg fn σ.length (res j) (σ' j) e φ σ1) [.code c] .normal (je 0 args) σ):dW X f args σ res σ' :=
 dW.DS d a hb b λg=>AW.top (AK.of_code (h g))
def AK.l5{fn:Func}{a:Nat}{σ':ι->List bm}(i:ι)(k:AK X N (cg fn a (res i) (σ' i)) K .normal φ σ):AK X N (λe φ σ1=>∃j,cg fn a (res j) (σ' j) e φ σ1) K .normal φ σ :=
 AK.il (λ_ _ _ q=>⟨i,q⟩) k
def kI(m:Nat)(b:Nat->Int)(k:Nat)(n:Int):Int :=
 if m=0 then 0 else if k<m then b k % n else
  ((b ((k:Int) % m).toNat*131+b (((k:Int)*7+3) % m).toNat*1117+k*29+(k:Int) / m*53).toNat ^^^ ((b ((k:Int) % m).toNat*131+b (((k:Int)*7+3) % m).toNat*1117+k*29+(k:Int) / m*53) / 64).toNat:Nat) % n
set_option maxRecDepth 20000 in
def CQ(m:Nat)(b:Nat->Int)(d:Bytes b)(k:Nat)(n:Int)(p:k<=4000000)(t:m<=1048576)(y:1<=n/\n<=4000000):
  Ev X 50 [.e (.one (.ptr 0 0)),dI n] [mJ m b k] (dI (kI m b k n)) [mJ m b (k+1)]:=by
 refine Ev.bQ Tryz.func50 rfl λi=>?_;have f:∀j,j<([mJ m b k]:List bm).length->([0]:List Nat)[j]?=aa j:=λj x=>by grind
 by_cases c:m=0
 .subst c;refine aY [(17,ae),(24,ab)] rfl ?_ (AK.dY [0] rfl ?_ rfl rfl rfl f)
  .simp[bt];omega
  .simp[kI]
 have g:((k:Int)+1-1)=k:=by omega
 have l:((k:Int)+1-1).toNat=k:=by omega
 have h:=d k;by_cases z:(k:Int)<m
 .refine aY [(17,ae),(24,ae),(36,ab)] rfl ?_ (AK.dY [0] rfl ?_ rfl rfl rfl f)
  .simp only[ar,g,bD,bh,bM,dG,bt];omega
  .have:k<m:=by omega
   simp[kI,c,this]
 .refine bE [(17,ae),(24,ae),(36,ae)] rfl ?_ (AK.dY [0] rfl ?_ rfl rfl rfl f)
  .simp only[ar,g,bM,dG,bt];have a:(0:Int)<m:=by omega
   have A:=rz (k:Int) (by omega:(m:Int)≠0);have o:=rm (k:Int) a;have v1:=rz ((k:Int)*7+3) (by omega:(m:Int)≠0);have r:=rm ((k:Int)*7+3) a;have w1:0<=(k:Int) / m:=Int.ediv_nonneg (by omega) (by omega);have w2:(k:Int) / m<=k:=Int.ediv_le_self _ (by omega);generalize(k:Int) % m=u at *;generalize((k:Int)*7+3) % m=v at *;generalize(k:Int) / m=w at *;have s:=d u.toNat;have q:=d v.toNat;grind
  .have:¬k<m:=by omega
   simp[kI,c,this,g]
def pd(m:Nat)(b:Nat->Int)(k:Nat)(n:Int)(a:1<=n):0<=kI m b k n/\kI m b k n<n:=by
 unfold kI;split
 .omega
 .split
  .exact⟨rz _ (by omega),rm _ (by omega)⟩
  .exact⟨rz _ (by omega),rm _ (by omega)⟩
def gv(m:Nat)(b:Nat->Int)(d:Bytes b)(k:Nat)(n:Int)(f:k<=4000000)(c:m<=1048576)(a:1<=n/\n<=4000000):
  dW (ι:={v:Int // 0<=v/\v<n}) X 50 [.e (.one (.ptr 0 0)),dI n] [mJ m b k] (λv=>dI v.1) (λ_=>[mJ m b (k+1)]):=by have h:=CQ (X:=X) m b d k n f c a;exact⟨h.1,λs vs hr hh S cs hS=>h.2 s vs hr hh S cs (hS ⟨_,pd m b k n a.1⟩)⟩
def NF(es:Nat->List C):Nat->Int:=λi=>wE (es i) 0
def U7:dv:=λargs σ=>match args,σ with
 |[.e (.one (.ptr 0 0)),.e (.one (.c (.int .i64 n)))],[.cells 93 [.c (.sl ae 1 m es),.c (.int .i64 k)]] =>
  aa (dI (kI m (NF es) k.toNat n),[mJ m (NF es) (k+1)],[k=k.toNat,es=uz (NF es),Bytes (NF es),k<=4000000,m<=1048576,1<=n,n<=4000000])
 |_,_=>af
def t50:dH X 50 U7:=by
 intro args σ res σ' obs h ho;unfold U7 at h;split at h
 .rename_i n m es k;cases h;obtain⟨g,e,b,f,a,d,c⟩:=ho;have:=CQ (X:=X) m (NF es) b k.toNat n (by omega) a ⟨d,c⟩;grind
 grind
def xY:∀j,j<1->([0]:List Nat)[j]?=aa j:=λj a=>by grind
set_option maxRecDepth 20000 in
def La(m:Nat)(b:Nat->Int)(d:Bytes b)(k:Nat)(c:k<=4000000)(g:m<=1048576)(l:List Bs)(h:1<=l.length/\l.length<=1000):
  dW (ι:={p:Bs // p∈l}) X 109 [.e (.one (.ptr 0 0)),cS.sl l] [mJ m b k] (λp=>dS p.1) (λ_=>[mJ m b (k+1)]):=by
 refine dW.qy Tryz.func109 rfl rfl rfl λf=>?_;refine bA rfl aq ?_;refine AK.cP (gv m b d k l.length c g (by omega)) [0] rfl (λ_=>rfl) ?_;rintro⟨v,v0,v1⟩;refine bA rfl ?_ ?_
 .simp;omega
 have a:l.getD v.toNat cS.b8∈l:=by grind
 refine AK.l5 ⟨l.getD v.toNat cS.b8,a⟩ (AK.dY [0] rfl ?_ rfl rfl rfl xY);simp
def Lb:List Bs:=[[],[102],[97,47],[97,98],[97,47,98,47,99],[47,97]]
def Lc:List Bs:=[[97],[98],[99,47,97],[99,47,98],[100,47,97],[101],[97,47,98],[100]]
set_option maxRecDepth 20000 in
def va(m:Nat)(b:Nat->Int)(a:Bytes b)(k:Nat)(g:k<=100000)(c:m<=1048576):
  dW (ι:={p:Bs // p.length<=8}) X 82 [.e (.one (.ptr 0 0))] [mJ m b k] (λp=>dS p.1) (λ_=>[mJ m b (k+1+1)]):=by
 refine dW.qy Tryz.func82 rfl rfl rfl λf=>?_;refine bA rfl aq ?_;refine AK.cP (gv m b a k 40 (by omega) c (by omega)) [0] rfl (λ_=>rfl) ?_;rintro⟨v,v0,v1⟩;by_cases h:v=0
 .refine aY [(5,ab)] rfl ?_ ?_
  .simp[h]
  have:=La (X:=X) m b a (k+1) (by omega) c Lb (by decide);refine AK.pO this [0] rfl rfl rfl rfl ?_ rfl rfl rfl (λ_=>rfl) rfl (λ_=>rfl) rfl ?_
  .refine⟨rfl,λi hi=>?_⟩;rcases i with _|_|_|_|_|_|i<;>first|rfl|omega
  rintro⟨p,d⟩;refine bA rfl aq (AK.l5 ⟨p,(by decide:∀p∈Lb,p.length<=8) p d⟩ (AK.dY [0] rfl ?_ rfl rfl rfl xY));simp
 .refine aY [(5,ae)] rfl ?_ ?_
  .simp[h]
  have:=La (X:=X) m b a (k+1) (by omega) c Lc (by decide);refine AK.pO this [0] rfl rfl rfl rfl ?_ rfl rfl rfl (λ_=>rfl) rfl (λ_=>rfl) rfl ?_
  .refine⟨rfl,λi hi=>?_⟩;rcases i with _|_|_|_|_|_|_|_|i<;>first|rfl|omega
  rintro⟨p,d⟩;refine bA rfl aq (AK.l5 ⟨p,(by decide:∀p∈Lc,p.length<=8) p d⟩ (AK.dY [0] rfl ?_ rfl rfl rfl xY));simp
def words:List Bs:=[[97,98,99],[104,101,108,108,111],[119,111,114,108,100],[97,97,97,97],[107,101,101,112],[122,122],[98,97,99,107,117,112],[113]]
abbrev Uh(k:Nat):={q:Bs×Nat // q.1.length<=100000/\k<=q.2/\q.2<=k+60}
def Gp(s:Bs)(n:Int)(b:s.length<=10)(l:0<=n/\n<=100):dW (ι:={p:Bs // p.length<=100000}) X 110 [dS s,dI n] [] (λp=>dS p.1) (λ_=>[]):=by
 refine dW.qy Tryz.func110 rfl rfl rfl λd=>?_;refine bA rfl aq ?_;refine AK.jf (λx:Nat×Bs×Bs=>x.1<=100/\x.2.2.length+x.2.1.length*x.1<=1010) (λx=>[(0,dS x.2.1),(1,dI x.1),(5,dS x.2.2)]) (λ_=>[]) (λx=>x.1) (n.toNat,s,[]) rfl ?_ rfl aq ⟨by grind,?_⟩ ?_
 .simp;omega
 .have:s.length*n.toNat<=10*100:=Nat.mul_le_mul b (by omega);grind
 rintro⟨k,t,out⟩ ⟨g,c⟩;simp only at g c;by_cases a:0<k
 .have h:t.length<=t.length*k:=uH _ a;have j:((k:Int) / 2)=((k / 2:Nat):Int):=by omega
  by_cases i:k % 2=1
  .have f:(t++t).length*(k / 2)+t.length=t.length*k:=by
    have e:k=2*(k / 2)+1:=by omega
    grind
   refine aY [(7,ab),(10,ab)] rfl ?_ (AK.fH (k / 2,t++t,out++t) rfl ?_ rfl aq ?_ ?_)
   .simp[a];omega
   .simp
   .grind
   grind
  .have f:(t++t).length*(k / 2)=t.length*k:=by
    have e:k=2*(k / 2):=by omega
    grind
   refine aY [(7,ab),(10,ae)] rfl ?_ (AK.fH (k / 2,t++t,out) rfl ?_ rfl aq ?_ ?_)
   .simp[a];omega
   .simp
   .grind
   grind
 .obtain rfl:k=0:=by omega
  refine aY [(7,ae)] rfl (by simp) (AK.leave rfl rfl ?_);exact bA rfl aq (AK.l5 ⟨out,by omega⟩ (AK.bq rfl))
set_option maxRecDepth 20000 in
def Gc(m:Nat)(b:Nat->Int)(d:Bytes b)(k:Nat)(H:k<=100000)(c:m<=1048576):
  dW (ι:=Uh k) X 83 [.e (.one (.ptr 0 0))] [mJ m b k] (λq=>dS q.1.1) (λq=>[mJ m b q.1.2]):=by
 refine dW.qy Tryz.func83 rfl rfl rfl λD=>?_;refine bA rfl aq ?_;refine AK.cP (gv m b d k 5 (by omega) c (by omega)) [0] rfl (λ_=>rfl) ?_;rintro⟨v,v0,v1⟩;refine bA rfl aq ?_;refine AK.bS 1 (λs:Nat×Bs×Nat=>s.1<=4/\s.2.1.length+6*s.1<=24/\k<=s.2.2/\s.2.2+s.1<=k+5) (λs=>[(0,.e (.one (.ptr 0 0))),(4,dI s.1),(3,dS s.2.1)]) (λs=>[mJ m b s.2.2]) (λs=>s.1) (v.toNat,[],k+1) rfl ?_ rfl ?_ rfl ⟨by omega,by grind,by simp,by grind⟩ ?_
 .simp;omega
 .simp
 rintro⟨n,s,k1⟩ ⟨z,o,r,F⟩;simp only at z o r F;by_cases j:0<n
 .refine aY [(9,ab)] rfl ?_ ?_
  .simp[j]
  have:=La (X:=X) m b d k1 (by omega) c words (by decide);refine AK.pO this [0] rfl rfl rfl rfl ?_ rfl rfl rfl (λ_=>rfl) rfl (λ_=>rfl) rfl ?_
  .refine⟨rfl,λi hi=>?_⟩;rcases i with _|_|_|_|_|_|_|_|i<;>first|rfl|omega
  rintro⟨p,h⟩;have G:p.length<=6:=(by decide:∀p∈words,p.length<=6) p h;refine bA rfl ?_ (AK.aQ (n-1,s++p,k1+1) rfl ?_ ?_ ?_ ?_)
  .simp[bt];omega
  .simp;omega
  .simp
  .grind
  grind
 .obtain rfl:n=0:=by omega
  refine aY [(9,ae)] rfl (by simp) (AK.leaveD rfl rfl ?_);refine bA rfl aq ?_;refine AK.cP (gv m b d k1 4 (by omega) c (by omega)) [0] rfl (λ_=>rfl) ?_;rintro⟨u,I,M⟩;by_cases l:u=0
  .refine aY [(19,ab)] rfl (by simp[l]) ?_;refine AK.cP (gv m b d (k1+1) 12 (by omega) c (by omega)) [0] rfl (λ_=>rfl) ?_;rintro⟨w,L,w1⟩;refine bA rfl aq ?_;refine AK.bS 1 (λs:Nat×Bs×Nat=>s.1<=11/\s.2.1.length+s.1<=36/\k<=s.2.2/\s.2.2+s.1<=k+20) (λs=>[(0,.e (.one (.ptr 0 0))),(5,dI s.1),(3,dS s.2.1)]) (λs=>[mJ m b s.2.2]) (λs=>s.1) (w.toNat,s,k1+2) rfl ?_ rfl ?_ rfl ⟨by omega,by grind,by grind,by grind⟩ ?_
   .simp;omega
   .simp;omega
   rintro⟨n,s2,f⟩ ⟨B,g2,t,C⟩;simp only at B g2 t C;by_cases j:0<n
   .refine aY [(23,ab)] rfl ?_ ?_
    .simp[j]
    refine AK.cP (gv m b d f 26 (by omega) c (by omega)) [0] rfl (λ_=>rfl) ?_;rintro⟨x,J,K⟩;refine bA rfl ?_ (AK.aQ (n-1,s2++[UInt8.ofNat (97+x).toNat],f+1) rfl ?_ ?_ ?_ ?_)
    .simp[bt];omega
    .simp;omega
    .simp
    .grind
    grind
   .obtain rfl:n=0:=by omega
    refine aY [(23,ae)] rfl (by simp) (AK.leaveD rfl rfl ?_);refine aY [(36,ae)] rfl ?_ ?_
    .simp;omega
    refine AK.cP (gv m b d f 60 (by omega) c (by omega)) [0] rfl (λ_=>rfl) ?_;rintro⟨y,E,A⟩;by_cases g:y=0
    .refine aY [(41,ab)] rfl ?_ (AK.l5 ⟨(s2++[65],f+1),by grind,by grind,by grind⟩ (AK.dY [0] rfl ?_ rfl rfl rfl xY))
     .simp[g];omega
     .simp
    by_cases a:y=1
    .refine aY [(41,ae),(45,ab)] rfl ?_ ?_
     .simp[a]
     refine AK.cP (Gp [97,98,99,100,101] 9 (by decide) (by decide)) [] rfl (λ_=>rfl) ?_;rintro⟨p,h⟩;refine bA rfl aq (AK.l5 ⟨(p,f+1),h,by grind,by grind⟩ (AK.dY [0] rfl ?_ rfl rfl rfl xY));simp
    .refine aY [(41,ae),(45,ae)] rfl ?_ (AK.l5 ⟨(s2,f+1),by grind,by grind,by grind⟩ (AK.dY [0] rfl ?_ rfl rfl rfl xY))
     .simp[g,a]
     .simp
  .refine BU [(19,ae)] 2 rfl (by simp[l]) ?_;refine aY [(36,ae)] rfl ?_ ?_
   .simp;omega
   refine AK.cP (gv m b d (k1+1) 60 (by omega) c (by omega)) [0] rfl (λ_=>rfl) ?_;rintro⟨y,E,A⟩;by_cases g:y=0
   .refine aY [(41,ab)] rfl ?_ (AK.l5 ⟨(s++[65],(k1+1)+1),by grind,by grind,by grind⟩ (AK.dY [0] rfl ?_ rfl rfl rfl xY))
    .simp[g];omega
    .simp
   by_cases a:y=1
   .refine aY [(41,ae),(45,ab)] rfl ?_ ?_
    .simp[a]
    refine AK.cP (Gp [97,98,99,100,101] 9 (by decide) (by decide)) [] rfl (λ_=>rfl) ?_;rintro⟨p,h⟩;refine bA rfl aq (AK.l5 ⟨(p,(k1+1)+1),h,by grind,by grind⟩ (AK.dY [0] rfl ?_ rfl rfl rfl xY));simp
   .refine aY [(41,ae),(45,ae)] rfl ?_ (AK.l5 ⟨(s,(k1+1)+1),by grind,by grind,by grind⟩ (AK.dY [0] rfl ?_ rfl rfl rfl xY))
    .simp[g,a]
    .simp
def Gq(m:Nat)(b:Nat->Int)(f:m<=1048576):dW (ι:={n:Nat // n<=1048576}) X 23 [.e (.one (.c (.sl ae 1 m (uz b))))] [] (λ_=>.e (.one (.ptr 0 0))) (λn=>[mJ n.1 b 0]):=by
 refine dW.qy Tryz.func23 rfl rfl rfl λd=>?_;by_cases h:2000<m
 .refine aY [(5,ab)] rfl ?_ (AK.norm [mJ 2000 b 0] rfl ?_ (AK.l5 ⟨2000,by decide⟩ (AK.dY [0] rfl ?_ rfl rfl rfl (λj a=>by grind))))
  .simp;omega
  .simp[cq,k9,cr]
  .simp
 .refine aY [(5,ae)] rfl ?_ (AK.l5 ⟨m,f⟩ (AK.dY [0] rfl ?_ rfl rfl rfl (λj a=>by grind)))
  .simp;omega
  .simp
end
section
open Go.Sort (swp insInner insOuter ltInt)
variable {X:Cx ag}
def Lo(n:Int):Ev X 165 [dI n] [] (dB ae) []:=by refine Ev.bQ Tryz.func165 rfl λa=>?_;exact aY [(5,ae)] rfl (by simp) (AK.bq rfl)
abbrev Ut:dv:=kF aI (λ_=>dB ae) λ_=>[]
def Xk:dH X 165 Ut:=.oz λn _=>Lo n
def N8(x y:Int):Ev X 125 [dI x,dI y] [] (dB (ltInt x y)) []:=by have a:bR X [(165,Ut)]:=.cons Xk .nil;refine Ev.bQ Tryz.func125 rfl λb=>?_;refine bX a rfl (by simp) (AK.bq rfl ?_);simp[ltInt]
abbrev uh:dv:=nt aI aI (λx y=>dB (ltInt x y)) λ_ _=>[]
def xt:dH X 125 uh:=.qn λx y _=>N8 x y
def eI(d:Array Int)(j:Nat):List C:=[.int .i64 d[j]!]
abbrev ko(n:Nat):D:=.e (.one (.bp 0 (.sl n 1 0 n)))
abbrev bI(n:Nat)(d:Array Int):bm:=.buf 3 1 n (eI d)
def iq:∀j,j<1->([0]:List Nat)[j]?=aa j:=λj a=>by grind
end
section
open Go.Sort (swp insInner insOuter insertionSort ltInt)
variable {X:Cx ag}
def gZ{d:Array Int}(e:d.size=n)(hi:i<n)(g:j<n){f:Nat->List C}(b:cq n f (eI d)):cq n (mZ j [.int .i64 d[i]!] (mZ i [.int .i64 d[j]!] f)) (eI (swp d i j)):=by
 intro k a;have h:(swp d i j)[k]! = if k=j then d[i]! else if k=i then d[j]! else d[k]! := by unfold swp;grind
 have c:=b k a;simp only[eI,mZ]at c⊢;grind
theorem size_swp(d:Array Int)(i j:Nat):(swp d i j).size=d.size:=by simp[swp]
theorem AP{a:Nat}{d:Array Int}(h:a<j)(b:ltInt d[j]! d[j-1]! = ab):insInner ltInt a j d=insInner ltInt a (j-1) (swp d j (j-1)):=by
 cases j with
 |zero=>omega
 |succ j =>
  simp only[px]at b⊢;rw[insInner,bc];grind
def sC{a:Nat}{d:Array Int}(h:a<j->ltInt d[j]! d[j-1]! = ae):insInner ltInt a j d=d:=by
 cases j with
 |zero=>rfl
 |succ j =>
  simp only[px]at h;rw[insInner,aW];grind
theorem RJ(n:Nat)(d:Array Int)(a b:Nat)(q:d.size=n)(t:b<=n)(v:a<=n)(w:n<=4000000):
  Ev X 119 [ko n,dI a,dI b] [bI n d] (.fK []) [bI n (insertionSort ltInt d a b)]:=by
 have g:bR X [(125,uh)]:=.cons xt .nil;refine Ev.bQ Tryz.func119 rfl λu=>?_;refine bA rfl (by simp[bt];omega) ?_;refine AK.bS 1 (λs:Nat×Array Int=>s.2.size=n/\a+1<=s.1/\s.1<=n+1/\insOuter ltInt a b s.1 s.2=insertionSort ltInt d a b) (λs=>[(0,ko n),(1,dI a),(2,dI b),(6,dI s.1)]) (λs=>[bI n s.2]) (λs=>b-s.1) (a+1,d) rfl ?_ rfl ?_ rfl ⟨q,by omega,by grind,rfl⟩ ?_
 .simp[cq]
 .simp[cq]
 rintro⟨i,d1⟩ ⟨m,hi,k,e⟩;simp only at m hi k e;by_cases h:i<b
 .refine aY [(12,ab)] rfl (by simp;omega) ?_;refine AK.bS 1 (λs:Nat×Array Int=>s.2.size=n/\s.1<=i/\insInner ltInt a s.1 s.2=insInner ltInt a i d1) (λs=>[(0,ko n),(1,dI a),(2,dI b),(6,dI i),(7,dI s.1)]) (λs=>[bI n s.2]) (λs=>s.1) (i,d1) rfl ?_ rfl ?_ rfl ⟨m,by simp,rfl⟩ ?_
  .simp[cq]
  .simp[cq]
  rintro⟨j,d2⟩ ⟨f,p,c⟩;simp only at f p c;by_cases r:a<j
  .have l:((j:Int)-1).toNat=j-1:=by omega
   by_cases o:ltInt d2[j]! d2[j-1]! = ab
   .refine aO g [(18,ab),(29,ab)] rfl ?_ ?_
    .simp[bt,l,o];omega
    refine AK.aQ (j-1,swp d2 j (j-1)) rfl ?_ ?_ ?_ ?_
    .simp;omega
    .simp only[ar.cat,ar,l,bz,bD,aB,aC];exact gZ f (by omega) (by omega) (λ_ _=>rfl)
    .refine⟨by grind[size_swp],by omega,?_⟩;grind[AP]
    .simp;omega
   .refine aO g [(18,ab),(29,ae)] rfl ?_ (AK.leaveD rfl rfl ?_)
    .simp[bt,l,o];omega
    refine bA rfl ?_ (AK.aQ (i+1,d2) rfl ?_ ?_ ?_ ?_)
    .simp[bt];omega
    .simp
    .simp[cq]
    .refine⟨f,by omega,by grind,?_⟩;simp only;rw[<-e,insOuter.eq_1 ltInt a b i,bc h,<-c,sC λ_=>by grind]
    .simp;omega
  .refine aO g [(18,ae)] rfl ?_ (AK.leaveD rfl rfl ?_)
   .simp[bt];omega
   refine bA rfl ?_ (AK.aQ (i+1,d2) rfl ?_ ?_ ?_ ?_)
   .simp[bt];omega
   .simp
   .simp[cq]
   .refine⟨f,by omega,by grind,?_⟩;simp only;rw[<-e,insOuter.eq_1 ltInt a b i,bc h,<-c,sC λx=>absurd x r]
   .simp;omega
 .refine aY [(12,ae)] rfl (by simp;omega) (AK.leaveD rfl rfl ?_);have:insertionSort ltInt d a b=d1:=by rw[<-e,insOuter,aW h]
  rw[this];exact cg.sW [0] rfl aq rfl rfl rfl iq
end
section
open Go.Sort (swp siftDown ltInt)
variable {X:Cx ag}
def Lx{hi first root:Nat}{d:Array Int}(h:¬2*root+1<hi):siftDown ltInt hi first root d=d:=by rw[siftDown,dif_pos (by omega)]
theorem Ly{hi first root:Nat}{d:Array Int}(h:2*root+1<hi)(a:2*root+1+1<hi->ltInt d[first+(2*root+1)]! d[first+(2*root+1)+1]! = ae)(b:ltInt d[first+root]! d[first+(2*root+1)]! = ab):
  siftDown ltInt hi first root d=siftDown ltInt hi first (2*root+1) (swp d (first+root) (first+(2*root+1))):=by rw[siftDown.eq_1 ltInt hi first root d,dif_neg (by omega),aW (by grind),aW (by grind)]
theorem Gs{hi first root:Nat}{d:Array Int}(h:2*root+1<hi)(a:2*root+1+1<hi->ltInt d[first+(2*root+1)]! d[first+(2*root+1)+1]! = ae)(b:ltInt d[first+root]! d[first+(2*root+1)]! = ae):
  siftDown ltInt hi first root d=d:=by rw[siftDown.eq_1 ltInt hi first root d,dif_neg (by omega),aW (by grind),bc (by grind)]
theorem RM{hi first root:Nat}{d:Array Int}(h:2*root+1+1<hi)(a:ltInt d[first+(2*root+1)]! d[first+(2*root+1+1)]! = ab)(b:ltInt d[first+root]! d[first+(2*root+1+1)]! = ab):
  siftDown ltInt hi first root d=siftDown ltInt hi first (2*root+1+1) (swp d (first+root) (first+(2*root+1+1))):=by rw[siftDown.eq_1 ltInt hi first root d,dif_neg (by omega),bc (by grind),aW (by grind),dif_pos (by omega)]
theorem Od{hi first root:Nat}{d:Array Int}(h:2*root+1+1<hi)(a:ltInt d[first+(2*root+1)]! d[first+(2*root+1+1)]! = ab)(b:ltInt d[first+root]! d[first+(2*root+1+1)]! = ae):
  siftDown ltInt hi first root d=d:=by rw[siftDown.eq_1 ltInt hi first root d,dif_neg (by omega),bc (by grind),bc (by grind)]
theorem Oe(n:Nat)(d:Array Int)(lo hi first:Nat)(m:d.size=n)(p:first+hi<=n)(o:lo<=n)(r:n<=4000000):
  Ev X 160 [ko n,dI lo,dI hi,dI first] [bI n d] (.fK []) [bI n (siftDown ltInt hi first lo d)]:=by
 have g:bR X [(125,uh)]:=.cons xt .nil;refine Ev.bQ Tryz.func160 rfl λq=>?_;refine bA rfl aq ?_;refine AK.bS 1 (λs:Nat×Array Int=>s.2.size=n/\s.1<=n/\siftDown ltInt hi first s.1 s.2=siftDown ltInt hi first lo d) (λs=>[(0,ko n),(1,dI lo),(2,dI hi),(3,dI first),(8,dI s.1)]) (λs=>[bI n s.2]) (λs=>hi-s.1) (lo,d) rfl ?_ rfl ?_ rfl ⟨m,o,rfl⟩ ?_
 .simp[cq]
 .simp[cq]
 rintro⟨root,d1⟩ ⟨j,l,f⟩;simp only at j l f;by_cases h:2*root+1<hi
 .have e:((first:Int)+(2*(root:Int)+1)).toNat=first+(2*root+1):=by omega
  have c:((first:Int)+(2*(root:Int)+1)+1).toNat=first+(2*root+1+1):=by omega
  by_cases t:2*root+1+1<hi
  .by_cases i:ltInt d1[first+(2*root+1)]! d1[first+(2*root+1+1)]! = ab
   .have k:((first:Int)+(2*(root:Int)+1+1)).toNat=first+(2*root+1+1):=by omega
    have b:((first:Int)+(root:Int)).toNat=first+root:=by omega
    by_cases a:ltInt d1[first+root]! d1[first+(2*root+1+1)]! = ab
    .refine aZ g [(16,ae),(20,ab),(35,ab),(51,ab)] rfl ?_ (AK.aQ (2*root+1+1,swp d1 (first+root) (first+(2*root+1+1))) rfl ?_ ?_ ?_ ?_)
     .simp only[ar,bz,e,c,b,k,i,a,bt,bh,bM,aC,aB];and_intros<;>omega
     .simp only[ar.cat,ar,aC,aB];grind
     .simp only[ar.cat,ar,bz,e,c,b,k,aB,aC];exact gZ j (by omega) (by omega) (λ_ _=>rfl)
     .grind [size_swp,RM]
     grind
    .rw[oG]at a;rw[show siftDown ltInt hi first lo d=d1 by grind[Od]];refine aZ g [(16,ae),(20,ab),(35,ab),(51,ae)] rfl ?_ (AK.eP (cg.mk [0] rfl aq rfl rfl rfl iq));simp only[ar,bz,e,c,b,k,i,a,bt,bh,bM,aC,aB];and_intros<;>omega
   .rw[oG]at i;have b:((first:Int)+(root:Int)).toNat=first+root:=by omega
    by_cases a:ltInt d1[first+root]! d1[first+(2*root+1)]! = ab
    .refine aZ g [(16,ae),(20,ab),(35,ae),(51,ab)] rfl ?_ (AK.aQ (2*root+1,swp d1 (first+root) (first+(2*root+1))) rfl ?_ ?_ ?_ ?_)
     .simp only[ar,bz,e,c,b,i,a,bt,bh,bM,aC,aB];and_intros<;>omega
     .simp only[ar.cat,ar,aC,aB];grind
     .simp only[ar.cat,ar,bz,e,c,b,aB,aC];exact gZ j (by omega) (by omega) (λ_ _=>rfl)
     .grind [size_swp,Ly]
     grind
    .rw[oG]at a;rw[show siftDown ltInt hi first lo d=d1 by grind[Gs]];refine aZ g [(16,ae),(20,ab),(35,ae),(51,ae)] rfl ?_ (AK.eP (cg.mk [0] rfl aq rfl rfl rfl iq));simp only[ar,bz,e,c,b,i,a,bt,bh,bM,aC,aB];and_intros<;>omega
  .have i:True:=aq;have b:((first:Int)+(root:Int)).toNat=first+root:=by omega
   by_cases a:ltInt d1[first+root]! d1[first+(2*root+1)]! = ab
   .refine aZ g [(16,ae),(20,ae),(51,ab)] rfl ?_ (AK.aQ (2*root+1,swp d1 (first+root) (first+(2*root+1))) rfl ?_ ?_ ?_ ?_)
    .simp only[ar,bz,e,c,b,a,bt,bh,bM,aC,aB];and_intros<;>omega
    .simp only[ar.cat,ar,aC,aB];grind
    .simp only[ar.cat,ar,bz,e,c,b,aB,aC];exact gZ j (by omega) (by omega) (λ_ _=>rfl)
    .grind [size_swp,Ly]
    grind
   .rw[oG]at a;rw[show siftDown ltInt hi first lo d=d1 by grind[Gs]];refine aZ g [(16,ae),(20,ae),(51,ae)] rfl ?_ (AK.eP (cg.mk [0] rfl aq rfl rfl rfl iq));simp only[ar,bz,e,c,b,a,bt,bh,bM,aC,aB];and_intros<;>omega
 .refine aY [(16,ab)] rfl (by simp only[ar,bt,bh,aC,aB];and_intros<;>omega) (AK.leaveD rfl rfl ?_);rw[<-f,Lx h];exact cg.sW [0] rfl aq rfl rfl rfl iq
end
section
open Go.Sort (swp order2 median medianAdjacent choosePivot Hint ltInt)
variable {X:Cx ag}
abbrev bN(k:Nat):bm:=.cells 3 [.c (.int .i64 k)]
abbrev Sb:D:=.e (.one (.ptr 1 0))
abbrev tII(a b:Nat):D:=.fK [.one (.c (.int .i64 a)),.one (.c (.int .i64 b))]
def Gt:∀j,j<2->([0,1]:List Nat)[j]?=aa j:=λj a=>by grind
def tC(n:Nat)(d:Array Int)(a b sw:Nat)(j:a<n)(g:b<n)(k:n<=4000000)(f:sw<=1000):
  Ev X 203 [ko n,dI a,dI b,Sb] [bI n d,bN sw] (tII (order2 ltInt d a b sw).1 (order2 ltInt d a b sw).2.1) [bI n d,bN (order2 ltInt d a b sw).2.2]:=by
 have c:bR X [(125,uh)]:=.cons xt .nil;refine Ev.bQ Tryz.func203 rfl λi=>?_;by_cases h:ltInt d[b]! d[a]! = ab
 .have e:order2 ltInt d a b sw=(b,a,sw+1):=by simp[order2,h]
  rw[e];refine aZ c [(18,ab)] rfl ?_ (AK.dY [0,1] rfl ?_ rfl rfl rfl Gt)
  .simp only[ar,bz,bD,h,bt,aC,aB];and_intros<;>omega
  .simp
 .have e:order2 ltInt d a b sw=(a,b,sw):=by simp[order2,h]
  rw[e];rw[oG]at h;refine aZ c [(18,ae)] rfl ?_ (AK.dY [0,1] rfl ?_ rfl rfl rfl Gt)
  .simp only[ar,bz,bD,h,bt,aC,aB];and_intros<;>omega
  .simp
def nk{d:Array Int}{a sw:Nat}(c:a<n)(e:b<n):(order2 ltInt d a b sw).1<n/\(order2 ltInt d a b sw).2.1<n/\(order2 ltInt d a b sw).2.2<=sw+1:=by unfold order2;split<;>simp only<;>omega
theorem yT(n:Nat)(d:Array Int)(a b c sw:Nat)(i:a<n)(g:b<n)(h:c<n)(e:n<=4000000)(k:sw<=900):
  Ev X 164 [ko n,dI a,dI b,dI c,Sb] [bI n d,bN sw] (dI (median ltInt d a b c sw).1) [bI n d,bN (median ltInt d a b c sw).2]:=by refine Ev.bQ Tryz.func164 rfl λl=>?_;have f:=nk (d:=d) (sw:=sw) i g;have j:=nk (d:=d) (sw:=(order2 ltInt d a b sw).2.2) f.2.1 h;refine c6 rfl aq ?_;refine AK.cQ (tC n d a b sw i g e (by omega)) [0,1] rfl ?_;refine c6 rfl aq ?_;refine AK.cQ (tC n d (order2 ltInt d a b sw).2.1 c (order2 ltInt d a b sw).2.2 f.2.1 h e (by omega)) [0,1] rfl ?_;refine c6 rfl aq ?_;refine AK.cQ (tC n d (order2 ltInt d a b sw).1 (order2 ltInt d (order2 ltInt d a b sw).2.1 c (order2 ltInt d a b sw).2.2).1 (order2 ltInt d (order2 ltInt d a b sw).2.1 c (order2 ltInt d a b sw).2.2).2.2 f.1 j.1 e (by omega)) [0,1] rfl ?_;refine c6 rfl aq (AK.dY [0,1] rfl ?_ rfl rfl rfl Gt);simp[median]
def HW{d:Array Int}{a c sw:Nat}(i:a<n)(f:b<n)(h:c<n):(median ltInt d a b c sw).1<n/\(median ltInt d a b c sw).2<=sw+3:=by have e:=nk (d:=d) (sw:=sw) i f;have g:=nk (d:=d) (sw:=(order2 ltInt d a b sw).2.2) e.2.1 h;have j:=nk (d:=d) (sw:=(order2 ltInt d (order2 ltInt d a b sw).2.1 c (order2 ltInt d a b sw).2.2).2.2) e.1 g.1;unfold median;grind
theorem AQ(n:Nat)(d:Array Int)(a sw:Nat)(g:1<=a)(e:a+1<n)(c:n<=4000000)(b:sw<=900):
  Ev X 163 [ko n,dI a,Sb] [bI n d,bN sw] (dI (medianAdjacent ltInt d a sw).1) [bI n d,bN (medianAdjacent ltInt d a sw).2]:=by
 refine Ev.bQ Tryz.func163 rfl λf=>?_;obtain⟨a,rfl⟩:∃a',a=a'+1:=⟨a-1,by omega⟩
 refine c6 rfl (by simp only[ar,bt];and_intros<;>omega) ?_;have key:∀x y z:Int,x=(a:Int)->y=((a+1:Nat):Int)->z=((a+1+1:Nat):Int)->Ev X 164 [ko n,dI x,dI y,dI z,Sb] [bI n d,bN sw] (dI (median ltInt d a (a+1) (a+1+1) sw).1) [bI n d,bN (median ltInt d a (a+1) (a+1+1) sw).2]:=by rintro x y z rfl rfl rfl;exact yT n d a (a+1) (a+1+1) sw (by omega) (by omega) (by omega) c b
 refine AK.cQ (key (((a+1:Nat):Int)-1) _ (((a+1:Nat):Int)+1) (by omega) rfl (by omega)) [0,1] rfl ?_;refine c6 rfl aq (AK.dY [0,1] rfl ?_ rfl rfl rfl Gt);simp[medianAdjacent]
def nj:Hint->Int|.unknown=>0|.increasing=>1|.decreasing=>2
def xx(n:Nat)(d:Array Int){a c:Nat}(sw:Nat)(k:a<n)(g:b<n)(i:c<n)(l:n<=4000000)(e:sw<=900){x y z:Int}(h:x=a)(f:y=b)(j:z=c):
  Ev X 164 [ko n,dI x,dI y,dI z,Sb] [bI n d,bN sw] (dI (median ltInt d a b c sw).1) [bI n d,bN (median ltInt d a b c sw).2]:=by grind[yT]
def mL(n:Nat)(d:Array Int){a:Nat}(sw:Nat)(f:1<=a)(c:a+1<n)(g:n<=4000000)(b:sw<=900){x:Int}(e:x=a):
  Ev X 163 [ko n,dI x,Sb] [bI n d,bN sw] (dI (medianAdjacent ltInt d a sw).1) [bI n d,bN (medianAdjacent ltInt d a sw).2]:=by grind[AQ]
def od{d:Array Int}{a sw:Nat}(b:1<=a)(c:a+1<n):(medianAdjacent ltInt d a sw).1<n/\(medianAdjacent ltInt d a sw).2<=sw+3 :=
 HW (by omega) (by omega) (by omega)
abbrev pt(k:Nat):Hint:=if k=0 then .increasing else if k=12 then .decreasing else .unknown
def Lz{d:Array Int}{a:Nat}(c:8<=l)(b:l<50):choosePivot ltInt d a (a+l)=((median ltInt d (a+l / 4*1) (a+l / 4*2) (a+l / 4*3) 0).1,pt (median ltInt d (a+l / 4*1) (a+l / 4*2) (a+l / 4*3) 0).2):=by unfold choosePivot;grind
abbrev mA(d:Array Int)(a l:Nat):=medianAdjacent ltInt d (a+l / 4*1) 0
abbrev mB(d:Array Int)(a l:Nat):=medianAdjacent ltInt d (a+l / 4*2) (mA d a l).2
abbrev mC(d:Array Int)(a l:Nat):=medianAdjacent ltInt d (a+l / 4*3) (mB d a l).2
def LA{d:Array Int}{a:Nat}(b:50<=l):choosePivot ltInt d a (a+l)=((median ltInt d (mA d a l).1 (mB d a l).1 (mC d a l).1 (mC d a l).2).1,pt (median ltInt d (mA d a l).1 (mB d a l).1 (mC d a l).1 (mC d a l).2).2):=by unfold choosePivot;grind
def HU(n:Nat)(d:Array Int)(a b:Nat)(j:a<=b)(m:b<=n)(i:8<=b-a)(g:n<=4000000):
  Ev X 122 [ko n,dI a,dI b] [bI n d] (.fK [.one (.c (.int .i64 (choosePivot ltInt d a b).1)),.one (.c (.int .i64 (nj (choosePivot ltInt d a b).2)))]) [bI n d]:=by
 refine Ev.bQ Tryz.func122 rfl λo=>?_;obtain⟨l,rfl⟩:∃l,b=a+l:=⟨b-a,by omega⟩
 rw[y3]at i;by_cases h:l<50
 .refine bE [(32,ab),(34,ae)] rfl ?_ ?_
  .simp only[ar,bt,bh,bM,aC,aB];and_intros<;>omega
  refine AK.cQ (xx n d (a:=a+l / 4*1) (b:=a+l / 4*2) (c:=a+l / 4*3) 0 (by omega) (by omega) (by omega) g (by omega) (by omega) (by omega) (by omega)) [0,1] rfl ?_;rw[Lz i h];generalize median ltInt d (a+l / 4*1) (a+l / 4*2) (a+l / 4*3) 0=r;by_cases e:r.2=0
  .refine bE [(52,ab)] rfl (by simp[e]) (AK.dY [0] rfl ?_ rfl rfl rfl iq);simp[e,nj,pt]
  by_cases f:r.2=12
  .refine bE [(52,ae),(55,ab)] rfl (by simp[f]) (AK.dY [0] rfl ?_ rfl rfl rfl iq);simp[f,nj,pt]
  .refine bE [(52,ae),(55,ae)] rfl (by simp[e];omega) (AK.dY [0] rfl ?_ rfl rfl rfl iq);simp[e,f,nj,pt]
 .refine bE [(32,ab),(34,ab)] rfl ?_ ?_
  .simp only[ar,bt,bh,bM,aC,aB];and_intros<;>omega
  have p:(mA d a l).1<n/\(mA d a l).2<=0+3:=od (d:=d) (a:=a+l / 4*1) (sw:=0) (n:=n) (by omega) (by omega);have k:(mB d a l).1<n/\(mB d a l).2<=(mA d a l).2+3:=od (d:=d) (a:=a+l / 4*2) (sw:=(mA d a l).2) (n:=n) (by omega) (by omega);have q:(mC d a l).1<n/\(mC d a l).2<=(mB d a l).2+3:=od (d:=d) (a:=a+l / 4*3) (sw:=(mB d a l).2) (n:=n) (by omega) (by omega);refine AK.cQ (mL n d (a:=a+l / 4*1) 0 (by omega) (by omega) g (by omega) (by omega)) [0,1] rfl ?_;refine c6 rfl aq ?_;refine AK.cQ (mL n d (a:=a+l / 4*2) (mA d a l).2 (by omega) (by omega) g (by omega) (by omega)) [0,1] rfl ?_;refine c6 rfl aq ?_;refine AK.cQ (mL n d (a:=a+l / 4*3) (mB d a l).2 (by omega) (by omega) g (by omega) (by omega)) [0,1] rfl ?_;refine c6 rfl aq ?_;refine AK.cQ (xx n d (a:=(mA d a l).1) (b:=(mB d a l).1) (c:=(mC d a l).1) (mC d a l).2 (by omega) (by omega) (by omega) g (by omega) rfl rfl rfl) [0,1] rfl ?_;rw[LA (by omega)];generalize median ltInt d (mA d a l).1 (mB d a l).1 (mC d a l).1 (mC d a l).2=r;by_cases e:r.2=0
  .refine bE [(52,ab)] rfl (by simp[e]) (AK.dY [0] rfl ?_ rfl rfl rfl iq);simp[e,nj,pt]
  by_cases f:r.2=12
  .refine bE [(52,ae),(55,ab)] rfl (by simp[f]) (AK.dY [0] rfl ?_ rfl rfl rfl iq);simp[f,nj,pt]
  .refine bE [(52,ae),(55,ae)] rfl (by simp[e];omega) (AK.dY [0] rfl ?_ rfl rfl rfl iq);simp[e,f,nj,pt]
end
section
open Go.Sort (swp reverseLoop reverseRange siftDown heapBuild heapPop heapSort ltInt)
variable {X:Cx ag}
def RL(n:Nat)(d:Array Int)(a b:Nat)(k:d.size=n)(q:1<=b)(o:a<=n)(l:b<=n)(p:n<=4000000):Ev X 123 [ko n,dI a,dI b] [bI n d] (.fK []) [bI n (reverseRange d a b)]:=by
 refine Ev.bQ Tryz.func123 rfl λm=>?_;refine bA rfl (by simp[bt];omega) ?_;refine AK.bS 1 (λs:Nat×Nat×Array Int=>s.2.2.size=n/\s.1<=n/\s.2.1<n+1/\s.2.1<n/\reverseLoop s.1 s.2.1 s.2.2=reverseRange d a b) (λs=>[(0,ko n),(6,dI s.1),(7,dI s.2.1)]) (λs=>[bI n s.2.2]) (λs=>s.2.1-s.1) (a,b-1,d) rfl ?_ rfl ?_ rfl ⟨k,by grind,by grind,by grind,rfl⟩ ?_
 .simp;omega
 .simp[cq]
 rintro⟨i,j,d1⟩ ⟨f,hi,_,g,c⟩;simp only at f hi g c;by_cases h:i<j
 .refine bE [(13,ab)] rfl ?_ (AK.aQ (i+1,j-1,swp d1 i j) rfl ?_ ?_ ?_ ?_)
  .simp only[ar,bz,bD,bt,bh,aC,aB];and_intros<;>omega
  .simp only[ar.cat,ar,aC,aB];and_intros<;>omega
  .simp only[ar.cat,ar,bz,bD,aB,aC];exact gZ f (by omega) (by omega) (λ_ _=>rfl)
  .refine⟨by grind[size_swp],by grind,by grind,by grind,?_⟩;rw[<-c,reverseLoop.eq_1 i j d1,bc h]
  grind
 .have e:reverseRange d a b=d1:=by rw[<-c,reverseLoop,aW h]
  rw[e];refine aY [(13,ae)] rfl (by simp;omega) (AK.leaveD rfl rfl ?_);exact cg.sW [0] rfl aq rfl rfl rfl iq
def C2(n:Nat)(d:Array Int){lo hi first:Nat}(g:d.size=n)(b:first+hi<=n)(h:lo<=n)(f:n<=4000000){x y z:Int}(c:x=lo)(a:y=hi)(e:z=first):
  Ev X 160 [ko n,dI x,dI y,dI z] [bI n d] (.fK []) [bI n (siftDown ltInt hi first lo d)]:=by grind[Oe]
def yU(hi first:Nat):∀(m root:Nat)(d:Array Int),hi-root<=m->(siftDown ltInt hi first root d).size=d.size:=by
 intro m;induction m with
 |zero=>intro root d h;rw[siftDown,dif_pos (by omega)]
 |succ m a =>
  intro root d h;rw[siftDown];grind[size_swp]
theorem Ob(n:Nat)(d:Array Int)(a b:Nat)(q:d.size=n)(t:a<=b)(r:1<=b-a)(p:b<=n)(m:n<=4000000):Ev X 120 [ko n,dI a,dI b] [bI n d] (.fK []) [bI n (heapSort ltInt d a b)]:=by
 refine Ev.bQ Tryz.func120 rfl λu=>?_;obtain⟨l,rfl⟩:∃l,b=a+l:=⟨b-a,by omega⟩
 rw[y3]at r;refine c6 rfl (by simp only[ar,bt,aC,aB];and_intros<;>omega) ?_;refine AK.kE (S2:=Array Int) 0 rfl rfl (λd2=>d2.size=n/\d2=heapBuild ltInt l a ((l-1) / 2+1) d) (λ_=>[(0,ko n),(6,dI a),(7,dI 0),(8,dI l)]) (λd2=>[bI n d2]) 1 (λs:Nat×Array Int=>s.2.size=n/\s.1<=(l-1) / 2+1/\heapBuild ltInt l a s.1 s.2=heapBuild ltInt l a ((l-1) / 2+1) d) (λs=>[(0,ko n),(6,dI a),(7,dI 0),(8,dI l),(9,dI ((s.1:Int)-1))]) (λs=>[bI n s.2]) (λs=>s.1) ((l-1) / 2+1,d) rfl ?_ rfl ?_ rfl ⟨q,ba _,rfl⟩ ?_ ?_
 .simp;omega
 .simp[cq]
 .rintro out ⟨k,d1⟩ ⟨e,g,c⟩;simp only at e g c;cases k with
  |zero =>
   refine aY [(19,ae)] rfl (by simp) (AK.leaveD rfl rfl ?_);exact out d1 ⟨e,c⟩ rfl (by simp) rfl (by simp[cq])
  |succ k =>
   refine aY [(19,ab)] rfl (by simp only[ar,bh];omega) ?_;refine AK.cQ (C2 n d1 (lo:=k) (hi:=l) (first:=a) e p (by omega) m (by omega) rfl rfl) [0] rfl ?_;refine c6 rfl ?_ (AK.aQ (k,siftDown ltInt l a k d1) rfl ?_ ?_ ?_ ?_)
   .simp only[ar,bt];omega
   .simp only[ar.cat,ar,aC,aB];omega
   .simp[cq]
   .exact⟨by rw[yU _ _ _ _ _ (ba _)];exact e,by grind,c⟩
   .simp
 rintro h ⟨i,o⟩;refine c6 rfl (by simp only[ar,bt];omega) ?_;have f:heapSort ltInt d a (a+l)=heapPop ltInt a l h:=by unfold heapSort;grind
 rw[f];refine AK.bS 1 (λs:Nat×Array Int=>s.2.size=n/\s.1<=l/\heapPop ltInt a s.1 s.2=heapPop ltInt a l h) (λs=>[(0,ko n),(6,dI a),(7,dI 0),(8,dI l),(10,dI ((s.1:Int)-1))]) (λs=>[bI n s.2]) (λs=>s.1) (l,h) rfl ?_ rfl ?_ rfl ⟨i,ba _,rfl⟩ ?_
 .simp
 .simp[cq]
 rintro⟨k,d1⟩ ⟨e,g,c⟩;simp only at e g c;cases k with
 |zero =>
  rw[<-c];refine aY [(30,ae)] rfl (by simp) (AK.leaveD rfl rfl ?_);exact cg.sW [0] rfl aq rfl rfl rfl iq
 |succ k =>
  have j:((a:Int)+(((k+1:Nat):Int)-1)).toNat=a+k:=by omega
  refine bE [(30,ab),(1000011,ab)] rfl ?_ ?_
  .simp only[ar,bz,bD,j,bt,bh,aC,aB];and_intros<;>omega
  refine AK.norm [bI n (swp d1 a (a+k))] rfl ?_ ?_
  .simp only[ar.cat,ar,bz,bD,j,aB,aC];exact gZ e (by omega) (by omega) (λ_ _=>rfl)
  refine c6 rfl aq ?_;refine AK.cQ (C2 n (swp d1 a (a+k)) (lo:=0) (hi:=k) (first:=a) (by grind[size_swp]) (by omega) (by omega) m rfl (by omega) rfl) [0] rfl ?_;refine c6 rfl ?_ (AK.aQ (k,siftDown ltInt k a 0 (swp d1 a (a+k))) rfl ?_ ?_ ?_ ?_)
  .simp only[ar,bt];omega
  .simp only[ar.cat,ar,aC,aB];omega
  .simp[cq]
  .exact⟨by rw[yU _ _ _ _ _ (ba _),size_swp];exact e,by grind,c⟩
  .simp
end
section
open Go.Sort (bitsLen)
variable {X:Cx ag}
def x3:List UInt8:=(bg 256).map λi=>UInt8.ofNat (bitsLen i)
def j8{x:Nat}(h:x<2 ^ k):bitsLen x<=k:=by
 unfold bitsLen;split
 .omega
 .rename_i a;have:=(Nat.log2_lt a).2 h;omega
theorem Of{x:Nat}(h:x<256):(iH x3 x).toNat=bitsLen x:=by unfold iH x3;rw[bD,ah,nD,List.getElem?_range h];have:=j8 (x:=x) (k:=8) h;grind[UInt8.toNat_ofNat']
def ui(h:2 ^ k<=n):bitsLen n=k+bitsLen (n / 2 ^ k):=by
 have b:0<2 ^ k:=Nat.two_pow_pos k;have e:0<n / 2 ^ k:=Nat.div_pos h b;unfold bitsLen;rw[aW (by omega),aW (by omega)];have c:Nat.log2 n=k+Nat.log2 (n / 2 ^ k):=by
  rw[Nat.log2_eq_iff (by omega)];have a:=Nat.log2_self_le (n:=n / 2 ^ k) (by omega);have d:=Nat.lt_log2_self (n:=n / 2 ^ k);constructor
  .rw[Nat.pow_add,Nat.mul_comm];exact fG (ek _ a) (Nat.div_mul_le_self n _)
  .rw[show k+Nat.log2 (n / 2 ^ k)+1=k+(Nat.log2 (n / 2 ^ k)+1) by omega,Nat.pow_add];grind[Nat.div_lt_iff_lt_mul]
 omega
set_option maxRecDepth 100000 in
def LB(n:Nat)(j:n<=4000000):Ev X 129 [dQ n] [] (dI (bitsLen n)) []:=by
 refine Ev.bQ Tryz.func129 rfl λh=>?_;have fin:∀{T:List UInt8} {x:Nat},T=x3->x<256->(iH T (x:Int)).toNat=bitsLen x:=λb i=>by grind[Of]
 have fl:∀{T:List UInt8},T=x3->T.length=256:=λb=>by rw[b];rfl
 by_cases g:65536<=n
 .have c:((n:Int).toNat / 2 ^ Int.toNat 16)=n / 65536:=by simp
  have e:bitsLen n=16+bitsLen (n / 65536):=ui (n:=n) (k:=16) g;have d:=j8 (x:=n / 65536) (k:=8) (by grind);refine bE [(4,ae),(8,ab),(14,ae)] rfl ?_ (AK.bq rfl ?_)
  .generalize b:(ByteArray.data _).toList=T;have a:T=x3:=by rw[<-b];decide +kernel
   simp only[ar,c,fin a (show n / 65536<256 by omega),fl a,bt,bh,bM];and_intros<;>omega
  .generalize b:(ByteArray.data _).toList=T;have a:T=x3:=by rw[<-b];decide +kernel
   simp only[ar,ar.cat,c,fin a (show n / 65536<256 by omega),aC,aB];omega
 by_cases f:256<=n
 .have c:((n:Int).toNat / 2 ^ Int.toNat 8)=n / 256:=by simp
  have e:bitsLen n=8+bitsLen (n / 256):=ui (n:=n) (k:=8) f;have d:=j8 (x:=n / 256) (k:=8) (by grind);refine bE [(4,ae),(8,ae),(14,ab)] rfl ?_ (AK.bq rfl ?_)
  .generalize b:(ByteArray.data _).toList=T;have a:T=x3:=by rw[<-b];decide +kernel
   simp only[ar,c,fin a (show n / 256<256 by omega),fl a,bt,bh,bM];and_intros<;>omega
  .generalize b:(ByteArray.data _).toList=T;have a:T=x3:=by rw[<-b];decide +kernel
   simp only[ar,ar.cat,c,fin a (show n / 256<256 by omega),aC,aB];omega
 .have d:=j8 (x:=n) (k:=8) (by grind);refine bE [(4,ae),(8,ae),(14,ae)] rfl ?_ (AK.bq rfl ?_)
  .generalize b:(ByteArray.data _).toList=T;have a:T=x3:=by rw[<-b];decide +kernel
   simp only[ar,fin a (show n<256 by omega),fl a,bt,bh,bM];and_intros<;>omega
  .generalize b:(ByteArray.data _).toList=T;have a:T=x3:=by rw[<-b];decide +kernel
   simp only[ar,ar.cat,fin a (show n<256 by omega),aC,aB];omega
def Lv(n:Nat)(a:n<=4000000):Ev X 96 [dQ n] [] (dI (bitsLen n)) []:=by refine Ev.bQ Tryz.func96 rfl λb=>?_;refine c6 rfl aq ?_;refine AK.F2 ?_;refine c6 rfl aq ?_;refine AK.cQ (LB n a) [] rfl ?_;exact c6 rfl aq (AK.bq rfl)
end
section
open Go.Sort (swp bitsLen xorNextN xorNextN_lt xorNext xorNext_toNat breakStep breakPatterns)
variable {X:Cx ag}
abbrev bQ(r:Nat):bm:=.cells 201 [.c (.int .u64 r)]
def Og(r:Nat):Ev X 162 [.e (.one (.ptr 0 0))] [bQ r] (dQ (xorNextN r)) [bQ (xorNextN r)]:=by
 refine Ev.bQ Tryz.func162 rfl λd=>?_;have a:(2:Nat) ^ Int.toNat 13=8192:=by decide
 have c:(2:Nat) ^ Int.toNat 7=128:=by decide
 have b:(2:Nat) ^ Int.toNat 17=131072:=by decide
 refine c6 rfl ?_ ?_
 .simp only[ar];omega
 refine AK.norm [bQ (xorNextN r)] rfl ?_ (AK.dY [0] rfl ?_ rfl rfl rfl iq)
 .simp only[ar,ar.cat,xorNextN,bD,a,c,b,aB]
 .simp only[ar,ar.cat,xorNextN,bD,a,c,b]
theorem Oh(n:Nat)(a:n<=4000000):Ev X 161 [dI n] [] (dQ ((1 <<< bitsLen n:Nat):Int)) []:=by
 refine Ev.bQ Tryz.func161 rfl λc=>?_;have l:=j8 (x:=n) (k:=22) (by grind);refine c6 rfl (by simp only[ar,bt];and_intros<;>omega) ?_;refine AK.cQ (Lv n a) [] rfl ?_;refine c6 rfl ?_ (AK.bq rfl ?_)
 .simp only[ar];omega
 .have b:2 ^ bitsLen n<=2 ^ 22:=Nat.pow_le_pow_right (by omega) l;simp only[ar,ar.cat,Nat.shiftLeft_eq,bD];grind
def C3{L:Nat}(h:0<L):1 <<< bitsLen L<=2*L:=by rw[Nat.shiftLeft_eq,Nat.one_mul];unfold bitsLen;rw[aW (by omega),Nat.pow_succ];grind[Nat.log2_self_le]
def LC(L:Nat):1<=1 <<< bitsLen L:=by rw[Nat.shiftLeft_eq,Nat.one_mul];grind
def Sc(a L M:Nat):Nat->Nat->UInt64×Array Int->UInt64×Array Int
 |0,_,st=>st
 |k+1,idx,st=>Sc a L M k (idx+1) (breakStep a L M st idx)
def tD{d:Array Int}{a L:Nat}(h:8<=L):breakPatterns d a (a+L)=(Sc a L (1 <<< bitsLen L) 3 (a+L / 4*2-1) (UInt64.ofNat L,d)).2:=by unfold breakPatterns;simp only[y3];rw[bc h];rfl
def AR{a L M idx:Nat}{r:UInt64}{d:Array Int}:breakStep a L M (r,d) idx=(xorNext r,swp d idx (a+if(xorNextN r.toNat &&& (M-1))≥L then(xorNextN r.toNat &&& (M-1))-L else(xorNextN r.toNat &&& (M-1)))):=by unfold breakStep;simp only[xorNext_toNat]
abbrev Xl(n a L M:Nat)(k:Nat):Fr:=[(0,ko n),(1,dI a),(6,dI L),(7,.e (.one (.ptr 1 0))),(8,dQ M),(9,dI ((a+L / 4*2-1+(3-k):Nat):Int))]
def Lt(n:Nat)(d:Array Int)(a b:Nat)(q:d.size=n)(w:a<=b)(z:b<=n)(A:n<=4000000):
  Ev X 121 [ko n,dI a,dI b] [bI n d] (.fK []) [bI n (breakPatterns d a b)]:=by
 refine Ev.bQ Tryz.func121 rfl λC=>?_;obtain⟨L,rfl⟩:∃L,b=a+L:=⟨b-a,by omega⟩
 by_cases u:8<=L
 .rw[tD u];have B:=C3 (L:=L) (by omega);have t:=LC L;have m:(UInt64.ofNat L).toNat=L:=by grind[UInt64.toNat_ofNat']
  refine bE [(15,ab)] rfl ?_ ?_
  .simp only[ar,bt,bh,aC,aB];and_intros<;>omega
  have key:∀x:Int,x=(L:Int)->Ev X 161 [dI x] [] (dQ ((1 <<< bitsLen L:Nat):Int)) []:=by grind[Oh]
  refine AK.cQ (key _ (by omega)) [] rfl ?_;refine c6 rfl ?_ ?_
  .simp only[ar,bt,bh,aC,aB];and_intros<;>omega
  generalize v:1 <<< bitsLen L=M at *;refine AK.bS 2 (λs:Nat×UInt64×Array Int=>s.2.2.size=n/\s.1<=3/\(Sc a L M s.1 (a+L / 4*2-1+(3-s.1)) s.2).2=(Sc a L M 3 (a+L / 4*2-1) (UInt64.ofNat L,d)).2) (λs=>Xl n a L M s.1) (λs=>[bI n s.2.2,bQ s.2.1.toNat]) (λs=>s.1) (3,UInt64.ofNat L,d) rfl ?_ rfl ?_ rfl ⟨q,ba _,rfl⟩ ?_
  .simp only[ar.cat,ar,aC,aB];and_intros<;>omega
  .simp only[ar.cat,ar,cq,m,aC,aB];grind
  rintro⟨k,r,d1⟩ ⟨l,p,c⟩;simp only at l p c;cases k with
  |zero =>
   rw[<-c];refine bE [(33,ae)] rfl ?_ (AK.leaveD rfl rfl ?_)
   .simp only[ar,bt,bM,aC,aB];and_intros<;>omega
   exact cg.sW [0] rfl aq rfl rfl rfl iq
  |succ k =>
   have y:xorNextN r.toNat<18446744073709551616:=xorNextN_lt _ (UInt64.toNat_lt r);have o:xorNextN r.toNat &&& (M-1)<=M-1:=Nat.and_le_right;have i:((M:Int)-1).toNat=M-1:=by omega
   refine bE [(33,ab)] rfl ?_ ?_
   .simp only[ar,bt,bh,aC,aB];and_intros<;>omega
   refine AK.cQ (Og r.toNat) [1] rfl ?_;have f:=AR (a:=a) (L:=L) (M:=M) (idx:=a+L / 4*2-1+(3-(k+1))) (r:=r) (d:=d1);generalize j:xorNextN r.toNat &&& (M-1)=O at *;by_cases h:L<=O
   .rw[bc h]at f;have g:((a:Int)+((O:Int)-(L:Int))).toNat=a+(O-L):=by omega
    refine bE [(43,ab)] rfl ?_ (AK.aQ (k,xorNext r,swp d1 (a+L / 4*2-1+(3-(k+1))) (a+(O-L))) rfl ?_ ?_ ?_ ?_)
    .simp only[ar,bz,bD,i,j,g,bt,bh,aC,aB];and_intros<;>omega
    .simp only[ar.cat,ar,aC,aB];omega
    .simp only[ar.cat,ar,bz,bD,i,j,g,xorNext_toNat,aB,aC];exact gZ l (by omega) (by omega) (λ_ _=>rfl)
    .refine⟨by grind[size_swp],by grind,?_⟩;rw[<-c,Sc,f,show a+L / 4*2-1+(3-(k+1))+1=a+L / 4*2-1+(3-k) by omega]
    .simp
   .rw[aW h]at f;have g:((a:Int)+(O:Int)).toNat=a+O:=by omega
    refine bE [(43,ae)] rfl ?_ (AK.aQ (k,xorNext r,swp d1 (a+L / 4*2-1+(3-(k+1))) (a+O)) rfl ?_ ?_ ?_ ?_)
    .simp only[ar,bz,bD,i,j,g,bt,bM,aC,aB];and_intros<;>omega
    .simp only[ar.cat,ar,aC,aB];omega
    .simp only[ar.cat,ar,bz,bD,i,j,g,xorNext_toNat,aB,aC];exact gZ l (by omega) (by omega) (λ_ _=>rfl)
    .refine⟨by grind[size_swp],by grind,?_⟩;rw[<-c,Sc,f,show a+L / 4*2-1+(3-(k+1))+1=a+L / 4*2-1+(3-k) by omega]
    .simp
 .have e:breakPatterns d a (a+L)=d:=by unfold breakPatterns;grind
  rw[e];refine bE [(15,ae)] rfl ?_ ?_
  .simp only[ar,bt,bM,aC,aB];and_intros<;>omega
  exact cg.sW [0] rfl aq rfl rfl rfl iq
end
section
open Go.Sort (swp scanUp scanDown partLoop partEqLoop partition partitionEqual ltInt)
variable {X:Cx ag}
theorem mq{p:Int->Bool}{d:Array Int}(h:i<=j)(a:p d[i]! = ab):scanUp p d j i=scanUp p d j (i+1):=by rw[scanUp.eq_1 p d j i,bc (by grind)]
theorem gG{p:Int->Bool}{d:Array Int}(h:i<=j->p d[i]! = ae):scanUp p d j i=i:=by rw[scanUp,aW];grind
theorem kt{p:Int->Bool}{d:Array Int}(b:1<=j)(h:i<=j)(c:p d[j]! = ab):scanDown p d i j=scanDown p d i (j-1):=by
 obtain⟨j,rfl⟩:∃a,j=a+1:=⟨j-1,by omega⟩
 rw[scanDown,bc (by grind),px]
theorem fz{p:Int->Bool}{d:Array Int}(h:i<=j->p d[j]! = ae):scanDown p d i j=j:=by
 cases j with
 |zero=>rfl
 |succ j =>
  rw[scanDown,aW];grind
def nn{p:Int->Bool}{d:Array Int}:∀(m i:Nat),j+1-i<=m->i<=scanUp p d j i/\(scanUp p d j i<=j+1∨scanUp p d j i=i):=by
 intro m;induction m with
 |zero=>intro i h;rw[gG (λa=>by omega)];omega
 |succ m b =>
  intro i h;by_cases c:i<=j
  .cases a:p d[i]! with
   |true=>grind[mq]
   |false=>grind[gG]
  grind
def kJ{p:Int->Bool}{d:Array Int}:∀j:Nat,scanDown p d i j<=j/\(i<=scanDown p d i j+1∨scanDown p d i j=j):=by
 intro j;induction j with
 |zero=>rw[show scanDown p d i 0=0 from rfl];omega
 |succ j c =>
  by_cases b:i<=j+1
  .cases a:p d[j+1]! with
   |true=>grind[kt]
   |false=>grind[fz]
  grind[fz]
def partLoop_eq{a:Nat}{d:Array Int}{i2 j2:Nat}(f:1<=i)(hi:i2=scanUp (λx=>ltInt x d[a]!) d j i)(b:j2=scanDown (λx=>!ltInt x d[a]!) d i2 j):
  partLoop ltInt a i j d=if i2>j2 then(j2,d)else partLoop ltInt a (i2+1) (j2-1) (swp d i2 j2):=by have e:=nn (p:=λx=>ltInt x d[a]!) (d:=d) (j:=j) (j+1-i) i (ba _);have c:=kJ (p:=λx=>!ltInt x d[a]!) (d:=d) (i:=i2) j;rw[<-hi]at e;rw[<-b]at c;rw[partLoop.eq_1,<-hi,<-b];grind
def C4{d c:Array Int}{a v:Nat}(e:c=swp d a v)(hi:i=scanUp (λx=>ltInt x c[a]!) c (b-1) (a+1))(f:j=scanDown (λx=>!ltInt x c[a]!) c i (b-1))(h:i>j):partition ltInt d a b v=(j,ab,swp c j a):=by unfold partition;grind
def C5{d c:Array Int}{a v:Nat}(f:c=swp d a v)(hi:i=scanUp (λx=>ltInt x c[a]!) c (b-1) (a+1))(g:j=scanDown (λx=>!ltInt x c[a]!) c i (b-1))(h:¬i>j){r:Nat×Array Int}(e:partLoop ltInt a (i+1) (j-1) (swp c i j)=r):partition ltInt d a b v=(r.1,ae,swp r.2 r.1 a):=by subst e;unfold partition;grind
def Oc(n:Nat)(d:Array Int)(a b v:Nat)(Q:d.size=n)(U:a<b)(V:b<=n)(W:v<n)(Y:n<=4000000):
  Ev X 127 [ko n,dI a,dI b,dI v] [bI n d] (.fK [.one (.c (.int .i64 (partition ltInt d a b v).1)),.one (.c (.bool (partition ltInt d a b v).2.1))]) [bI n (partition ltInt d a b v).2.2]:=by
 have h:bR X [(125,uh)]:=.cons xt .nil;refine Ev.bQ Tryz.func127 rfl λZ=>?_;refine aZ h [(1000002,ab)] rfl ?_ ?_
 .simp only[ar,bz,bD,bt,aC,aB];and_intros<;>omega
 refine AK.norm [bI n (swp d a v)] rfl ?_ ?_
 .simp only[ar.cat,ar,bz,bD,aB,aC];exact gZ Q (by omega) (by omega) (λ_ _=>rfl)
 have u:(swp d a v).size=n:=by grind[size_swp]
 obtain⟨f,L⟩:∃f,f=swp d a v:=⟨_,rfl⟩;rw[<-L]at u⊢;refine cu h rfl ?_ ?_
 .simp only[ar,bt];and_intros<;>omega
 refine AK.kE (S2:=Unit) 0 rfl rfl (λ_=>True) (λ_=>[(0,ko n),(1,dI a),(10,dI ((scanUp (λx=>ltInt x f[a]!) f (b-1) (a+1)):Nat)),(11,dI (b-1:Nat))]) (λ_=>[bI n f]) 1 (λk:Nat=>a+1<=k/\k<=n+1/\scanUp (λx=>ltInt x f[a]!) f (b-1) k=scanUp (λx=>ltInt x f[a]!) f (b-1) (a+1)) (λk=>[(0,ko n),(1,dI a),(10,dI (k:Nat)),(11,dI (b-1:Nat))]) (λ_=>[bI n f]) (λk=>b-1+1-k) (a+1) rfl ?_ rfl ?_ rfl ⟨ba _,by omega,rfl⟩ ?_ ?_
 .simp[cq]<;>omega
 .simp[cq]
 .rintro out k ⟨t,y,o⟩;by_cases w:k<=b-1
  .by_cases O:(λx=>ltInt x f[a]!) f[k]! = ab
   .have g:ltInt f[k]! f[a]! = ab:=by grind
    refine aZ h [(32,ab),(42,ab)] rfl ?_ (AK.aQ (k+1) rfl ?_ ?_ ?_ ?_)
    .simp only[ar,bz,bD,g,bt,bh,aC,aB];and_intros<;>omega
    .simp only[ar.cat,ar,aC,aB];omega
    .simp[cq]
    .grind [mq]
    .omega
   .have g:ltInt f[k]! f[a]! = ae:=by grind
    refine aZ h [(32,ab),(42,ae)] rfl ?_ (AK.leaveD rfl rfl ?_)
    .simp only[ar,bz,bD,g,bt,bh,aC,aB];and_intros<;>omega
    have e:scanUp (λx=>ltInt x f[a]!) f (b-1) (a+1)=k:=by grind[gG]
    exact out () aq rfl (by simp only[ar.cat,ar,e,aC,aB]) rfl (by simp[cq])
  .refine aZ h [(32,ae)] rfl ?_ (AK.leaveD rfl rfl ?_)
   .simp only[ar,bt,bM,aC,aB];omega
   have e:scanUp (λx=>ltInt x f[a]!) f (b-1) (a+1)=k:=by grind[gG]
   exact out () aq rfl (by simp only[ar.cat,ar,e,aC,aB]) rfl (by simp[cq])
 rintro⟨⟩ -;have R:=nn (p:=λx=>ltInt x f[a]!) (d:=f) (j:=b-1) (b-1+1-(a+1)) (a+1) (ba _);obtain⟨i,hi⟩:∃i,i=scanUp (λx=>ltInt x f[a]!) f (b-1) (a+1):=⟨_,rfl⟩
 rw[<-hi]at R⊢;refine cu h rfl aq ?_;refine AK.kE (S2:=Unit) 2 rfl rfl (λ_=>True) (λ_=>[(0,ko n),(1,dI a),(10,dI (i:Nat)),(11,dI ((scanDown (λx=>!ltInt x f[a]!) f (i) (b-1)):Nat))]) (λ_=>[bI n f]) 1 (λk:Nat=>k<=b-1/\k<=n/\scanDown (λx=>!ltInt x f[a]!) f (i) k=scanDown (λx=>!ltInt x f[a]!) f (i) (b-1)) (λk=>[(0,ko n),(1,dI a),(10,dI (i:Nat)),(11,dI (k:Nat))]) (λ_=>[bI n f]) (λk=>k) (b-1) rfl ?_ rfl ?_ rfl ⟨ba _,by omega,rfl⟩ ?_ ?_
 .simp[cq]<;>omega
 .simp[cq]
 .rintro out k ⟨t,y,o⟩;by_cases w:i<=k
  .by_cases O:(λx=>!ltInt x f[a]!) f[k]! = ab
   .have g:ltInt f[k]! f[a]! = ae:=by grind
    refine aZ h [(48,ab),(58,ae)] rfl ?_ (AK.aQ (k-1) rfl ?_ ?_ ?_ ?_)
    .simp only[ar,bz,bD,g,bt,bh,aC,aB];and_intros<;>omega
    .simp only[ar.cat,ar,aC,aB];omega
    .simp[cq]
    .exact⟨by omega,by omega,by grind[kt]⟩
    .omega
   .have g:ltInt f[k]! f[a]! = ab:=by grind
    refine aZ h [(48,ab),(58,ab)] rfl ?_ (AK.leaveD rfl rfl ?_)
    .simp only[ar,bz,bD,g,bt,bh,aC,aB];and_intros<;>omega
    have e:scanDown (λx=>!ltInt x f[a]!) f (i) (b-1)=k:=by grind[fz]
    exact out () aq rfl (by simp only[ar.cat,ar,e,aC,aB]) rfl (by simp[cq])
  .refine aZ h [(48,ae)] rfl ?_ (AK.leaveD rfl rfl ?_)
   .simp only[ar,bt,bM,aC,aB];omega
   have e:scanDown (λx=>!ltInt x f[a]!) f (i) (b-1)=k:=by grind[fz]
   exact out () aq rfl (by simp only[ar.cat,ar,e,aC,aB]) rfl (by simp[cq])
 rintro⟨⟩ -;have T:=kJ (p:=λx=>!ltInt x f[a]!) (d:=f) (i:=i) (b-1);obtain⟨j,N⟩:∃j,j=scanDown (λx=>!ltInt x f[a]!) f i (b-1):=⟨_,rfl⟩
 rw[<-N]at T⊢;by_cases H:j<i
 .rw[C4 L hi N H];refine aZ h [(65,ab),(1000009,ab)] rfl ?_ ?_
  .simp only[ar,bz,bD,bt,bh,aC,aB];and_intros<;>omega
  refine AK.norm [bI n (swp f j a)] rfl ?_ ?_
  .simp only[ar.cat,ar,bz,bD,aB,aC];exact gZ u (by omega) (by omega) (λ_ _=>rfl)
  refine cu h rfl aq (AK.dY [0] rfl ?_ rfl rfl rfl iq);simp
 refine aZ h [(65,ae),(1000011,ab)] rfl ?_ ?_
 .simp only[ar,bz,bD,bt,bM,aC,aB];and_intros<;>omega
 refine AK.norm [bI n (swp f i j)] rfl ?_ ?_
 .simp only[ar.cat,ar,bz,bD,aB,aC];exact gZ u (by omega) (by omega) (λ_ _=>rfl)
 refine cu h rfl ?_ ?_
 .simp only[ar,bt];and_intros<;>omega
 have F:(swp f i j).size=n:=by grind[size_swp]
 obtain⟨r,J⟩:∃r,partLoop ltInt a (i+1) (j-1) (swp f i j)=r:=⟨_,rfl⟩;rw[C5 L hi N (by omega) J]
 obtain⟨d1,K⟩:∃d1,d1=swp f i j:=⟨_,rfl⟩;rw[<-K]at F J⊢;refine AK.kE (S2:=Unit) 4 rfl rfl (λ_=>r.1<n/\r.2.size=n) (λ_=>[(0,ko n),(1,dI a),(11,dI r.1)]) (λ_=>[bI n r.2]) 1 (λs:Nat×Nat×Array Int=>s.2.2.size=n/\a+1<=s.1/\s.1<=n+1/\s.2.1<n/\partLoop ltInt a s.1 s.2.1 s.2.2=r) (λs=>[(0,ko n),(1,dI a),(10,dI s.1),(11,dI s.2.1)]) (λs=>[bI n s.2.2]) (λs=>s.2.1+1-s.1) (i+1,j-1,d1) rfl ?_ rfl ?_ rfl ⟨F,by grind,by grind,by grind,J⟩ ?_ ?_
 .simp only[ar.cat,ar,aC,aB];and_intros<;>omega
 .simp[cq]
 .rintro D ⟨i3,l,d2⟩ ⟨B,M,C,I,m⟩;simp only at B M C I m;refine cu h rfl aq ?_;refine AK.kE (S2:=Unit) 6 rfl rfl (λ_=>True) (λ_=>[(0,ko n),(1,dI a),(10,dI ((scanUp (λx=>ltInt x d2[a]!) d2 (l) (i3)):Nat)),(11,dI (l:Nat))]) (λ_=>[bI n d2]) 1 (λk:Nat=>i3<=k/\k<=n+1/\scanUp (λx=>ltInt x d2[a]!) d2 (l) k=scanUp (λx=>ltInt x d2[a]!) d2 (l) (i3)) (λk=>[(0,ko n),(1,dI a),(10,dI (k:Nat)),(11,dI (l:Nat))]) (λ_=>[bI n d2]) (λk=>l+1-k) (i3) rfl ?_ rfl ?_ rfl ⟨ba _,by omega,rfl⟩ ?_ ?_
  .simp[cq]<;>omega
  .simp[cq]
  .rintro out k ⟨t,y,o⟩;by_cases w:k<=l
   .by_cases O:(λx=>ltInt x d2[a]!) d2[k]! = ab
    .have g:ltInt d2[k]! d2[a]! = ab:=by grind
     refine aZ h [(101,ab),(111,ab)] rfl ?_ (AK.aQ (k+1) rfl ?_ ?_ ?_ ?_)
     .simp only[ar,bz,bD,g,bt,bh,aC,aB];and_intros<;>omega
     .simp only[ar.cat,ar,aC,aB];omega
     .simp[cq]
     .grind [mq]
     .omega
    .have g:ltInt d2[k]! d2[a]! = ae:=by grind
     refine aZ h [(101,ab),(111,ae)] rfl ?_ (AK.leaveD rfl rfl ?_)
     .simp only[ar,bz,bD,g,bt,bh,aC,aB];and_intros<;>omega
     have e:scanUp (λx=>ltInt x d2[a]!) d2 (l) (i3)=k:=by grind[gG]
     exact out () aq rfl (by simp only[ar.cat,ar,e,aC,aB]) rfl (by simp[cq])
   .refine aZ h [(101,ae)] rfl ?_ (AK.leaveD rfl rfl ?_)
    .simp only[ar,bt,bM,aC,aB];omega
    have e:scanUp (λx=>ltInt x d2[a]!) d2 (l) (i3)=k:=by grind[gG]
    exact out () aq rfl (by simp only[ar.cat,ar,e,aC,aB]) rfl (by simp[cq])
  rintro⟨⟩ -;have c1:=nn (p:=λx=>ltInt x d2[a]!) (d:=d2) (j:=l) (l+1-i3) i3 (ba _);obtain⟨i4,E⟩:∃i4,i4=scanUp (λx=>ltInt x d2[a]!) d2 l i3:=⟨_,rfl⟩
  rw[<-E]at c1⊢;refine cu h rfl aq ?_;refine AK.kE (S2:=Unit) 8 rfl rfl (λ_=>True) (λ_=>[(0,ko n),(1,dI a),(10,dI (i4:Nat)),(11,dI ((scanDown (λx=>!ltInt x d2[a]!) d2 (i4) (l)):Nat))]) (λ_=>[bI n d2]) 1 (λk:Nat=>k<=l/\k<=n/\scanDown (λx=>!ltInt x d2[a]!) d2 (i4) k=scanDown (λx=>!ltInt x d2[a]!) d2 (i4) (l)) (λk=>[(0,ko n),(1,dI a),(10,dI (i4:Nat)),(11,dI (k:Nat))]) (λ_=>[bI n d2]) (λk=>k) (l) rfl ?_ rfl ?_ rfl ⟨ba _,by omega,rfl⟩ ?_ ?_
  .simp[cq]<;>omega
  .simp[cq]
  .rintro out k ⟨t,y,o⟩;by_cases w:i4<=k
   .by_cases O:(λx=>!ltInt x d2[a]!) d2[k]! = ab
    .have g:ltInt d2[k]! d2[a]! = ae:=by grind
     refine aZ h [(117,ab),(127,ae)] rfl ?_ (AK.aQ (k-1) rfl ?_ ?_ ?_ ?_)
     .simp only[ar,bz,bD,g,bt,bh,aC,aB];and_intros<;>omega
     .simp only[ar.cat,ar,aC,aB];omega
     .simp[cq]
     .exact⟨by omega,by omega,by grind[kt]⟩
     .omega
    .have g:ltInt d2[k]! d2[a]! = ab:=by grind
     refine aZ h [(117,ab),(127,ab)] rfl ?_ (AK.leaveD rfl rfl ?_)
     .simp only[ar,bz,bD,g,bt,bh,aC,aB];and_intros<;>omega
     have e:scanDown (λx=>!ltInt x d2[a]!) d2 (i4) (l)=k:=by grind[fz]
     exact out () aq rfl (by simp only[ar.cat,ar,e,aC,aB]) rfl (by simp[cq])
   .refine aZ h [(117,ae)] rfl ?_ (AK.leaveD rfl rfl ?_)
    .simp only[ar,bt,bM,aC,aB];omega
    have e:scanDown (λx=>!ltInt x d2[a]!) d2 (i4) (l)=k:=by grind[fz]
    exact out () aq rfl (by simp only[ar.cat,ar,e,aC,aB]) rfl (by simp[cq])
  rintro⟨⟩ -;have c2:=kJ (p:=λx=>!ltInt x d2[a]!) (d:=d2) (i:=i4) l;obtain⟨z,A⟩:∃z,z=scanDown (λx=>!ltInt x d2[a]!) d2 i4 l:=⟨_,rfl⟩
  rw[<-A]at c2⊢;have q:=partLoop_eq (by omega) E A;by_cases G:z<i4
  .have e:=q;rw[m,bc G]at e;refine aZ h [(134,ab)] rfl ?_ (AK.leaveD rfl rfl ?_)
   .simp only[ar,bt,bh];omega
   exact D () (by grind) rfl (by simp only[ar.cat,ar,e,aC,aB]) rfl (by simp[cq,e])
  .have e:=q;rw[m,aW (by omega)]at e;refine aZ h [(134,ae),(1000019,ab)] rfl ?_ ?_
   .simp only[ar,bz,bD,bt,bM,aC,aB];and_intros<;>omega
   refine AK.norm [bI n (swp d2 i4 z)] rfl ?_ ?_
   .simp only[ar.cat,ar,bz,bD,aB,aC];exact gZ B (by omega) (by omega) (λ_ _=>rfl)
   refine cu h rfl ?_ (AK.aQ (i4+1,z-1,swp d2 i4 z) rfl ?_ ?_ ?_ ?_)
   .simp only[ar,bt];and_intros<;>omega
   .simp only[ar.cat,ar,aC,aB];and_intros<;>omega
   .simp[cq]
   .grind [size_swp]
   grind
 rintro⟨⟩ ⟨S,P⟩;refine aZ h [(1000022,ab)] rfl ?_ ?_
 .simp only[ar,bz,bD,bt,aC,aB];and_intros<;>omega
 refine AK.norm [bI n (swp r.2 r.1 a)] rfl ?_ ?_
 .simp only[ar.cat,ar,bz,bD,aB,aC];exact gZ P (by omega) (by omega) (λ_ _=>rfl)
 refine cu h rfl aq (AK.dY [0] rfl ?_ rfl rfl rfl iq);simp
def partEqLoop_eq{a:Nat}{d:Array Int}{i2 j2:Nat}(f:1<=i)(hi:i2=scanUp (λx=>!ltInt d[a]! x) d j i)(b:j2=scanDown (λx=>ltInt d[a]! x) d i2 j):
  partEqLoop ltInt a i j d=if i2>j2 then(i2,d)else partEqLoop ltInt a (i2+1) (j2-1) (swp d i2 j2):=by have e:=nn (p:=λx=>!ltInt d[a]! x) (d:=d) (j:=j) (j+1-i) i (ba _);have c:=kJ (p:=λx=>ltInt d[a]! x) (d:=d) (i:=i2) j;rw[<-hi]at e;rw[<-b]at c;rw[partEqLoop.eq_1,<-hi,<-b];grind
def HV(n:Nat)(d:Array Int)(a b v:Nat)(H:d.size=n)(L:a<b)(M:b<=n)(N:v<n)(O:n<=4000000):
  Ev X 126 [ko n,dI a,dI b,dI v] [bI n d] (dI (partitionEqual ltInt d a b v).1) [bI n (partitionEqual ltInt d a b v).2]:=by
 have g:bR X [(125,uh)]:=.cons xt .nil;refine Ev.bQ Tryz.func126 rfl λP=>?_;refine aZ g [(1000002,ab)] rfl ?_ ?_
 .simp only[ar,bz,bD,bt,aC,aB];and_intros<;>omega
 refine AK.norm [bI n (swp d a v)] rfl ?_ ?_
 .simp only[ar.cat,ar,bz,bD,aB,aC];exact gZ H (by omega) (by omega) (λ_ _=>rfl)
 have E:(swp d a v).size=n:=by grind[size_swp]
 unfold partitionEqual;generalize swp d a v=d1 at *;obtain⟨r,G⟩:∃r,partEqLoop ltInt a (a+1) (b-1) d1=r:=⟨_,rfl⟩;rw[G];refine cu g rfl ?_ ?_
 .simp only[ar,bt];and_intros<;>omega
 refine AK.kE (S2:=Unit) 0 rfl rfl (λ_=>r.1<=n+1/\r.2.size=n) (λ_=>[(0,ko n),(1,dI a),(9,dI r.1)]) (λ_=>[bI n r.2]) 1 (λs:Nat×Nat×Array Int=>s.2.2.size=n/\a+1<=s.1/\s.1<=n+1/\s.2.1<n/\partEqLoop ltInt a s.1 s.2.1 s.2.2=r) (λs=>[(0,ko n),(1,dI a),(9,dI s.1),(10,dI s.2.1)]) (λs=>[bI n s.2.2]) (λs=>s.2.1+1-s.1) (a+1,b-1,d1) rfl ?_ rfl ?_ rfl ⟨E,by grind,by grind,by grind,G⟩ ?_ ?_
 .simp only[ar.cat,ar,aC,aB];and_intros<;>omega
 .simp[cq]
 .rintro u ⟨i3,c,d2⟩ ⟨o,C,t,A,h⟩;simp only at o C t A h;refine cu g rfl aq ?_;refine AK.kE (S2:=Unit) 2 rfl rfl (λ_=>True) (λ_=>[(0,ko n),(1,dI a),(9,dI ((scanUp (λx=>!ltInt d2[a]! x) d2 (c) (i3)):Nat)),(10,dI (c:Nat))]) (λ_=>[bI n d2]) 1 (λk:Nat=>i3<=k/\k<=n+1/\scanUp (λx=>!ltInt d2[a]! x) d2 (c) k=scanUp (λx=>!ltInt d2[a]! x) d2 (c) (i3)) (λk=>[(0,ko n),(1,dI a),(9,dI (k:Nat)),(10,dI (c:Nat))]) (λ_=>[bI n d2]) (λk=>c+1-k) (i3) rfl ?_ rfl ?_ rfl ⟨ba _,by omega,rfl⟩ ?_ ?_
  .simp[cq]<;>omega
  .simp[cq]
  .rintro out k ⟨B,F,z⟩;by_cases D:k<=c
   .by_cases J:(λx=>!ltInt d2[a]! x) d2[k]! = ab
    .have f:ltInt d2[a]! d2[k]! = ae:=by grind
     refine aZ g [(31,ab),(41,ae)] rfl ?_ (AK.aQ (k+1) rfl ?_ ?_ ?_ ?_)
     .simp only[ar,bz,bD,f,bt,bh,aC,aB];and_intros<;>omega
     .simp only[ar.cat,ar,aC,aB];omega
     .simp[cq]
     .grind [mq]
     .omega
    .have f:ltInt d2[a]! d2[k]! = ab:=by grind
     refine aZ g [(31,ab),(41,ab)] rfl ?_ (AK.leaveD rfl rfl ?_)
     .simp only[ar,bz,bD,f,bt,bh,aC,aB];and_intros<;>omega
     have e:scanUp (λx=>!ltInt d2[a]! x) d2 (c) (i3)=k:=by grind[gG]
     exact out () aq rfl (by simp only[ar.cat,ar,e,aC,aB]) rfl (by simp[cq])
   .refine aZ g [(31,ae)] rfl ?_ (AK.leaveD rfl rfl ?_)
    .simp only[ar,bt,bM,aC,aB];omega
    have e:scanUp (λx=>!ltInt d2[a]! x) d2 (c) (i3)=k:=by grind[gG]
    exact out () aq rfl (by simp only[ar.cat,ar,e,aC,aB]) rfl (by simp[cq])
  rintro⟨⟩ -;have c1:=nn (p:=λx=>!ltInt d2[a]! x) (d:=d2) (j:=c) (c+1-i3) i3 (ba _);obtain⟨i4,w⟩:∃i4,i4=scanUp (λx=>!ltInt d2[a]! x) d2 c i3:=⟨_,rfl⟩
  rw[<-w]at c1⊢;refine cu g rfl aq ?_;refine AK.kE (S2:=Unit) 4 rfl rfl (λ_=>True) (λ_=>[(0,ko n),(1,dI a),(9,dI (i4:Nat)),(10,dI ((scanDown (λx=>ltInt d2[a]! x) d2 (i4) (c)):Nat))]) (λ_=>[bI n d2]) 1 (λk:Nat=>k<=c/\k<=n/\scanDown (λx=>ltInt d2[a]! x) d2 (i4) k=scanDown (λx=>ltInt d2[a]! x) d2 (i4) (c)) (λk=>[(0,ko n),(1,dI a),(9,dI (i4:Nat)),(10,dI (k:Nat))]) (λ_=>[bI n d2]) (λk=>k) (c) rfl ?_ rfl ?_ rfl ⟨ba _,by omega,rfl⟩ ?_ ?_
  .simp[cq]<;>omega
  .simp[cq]
  .rintro out k ⟨B,F,z⟩;by_cases D:i4<=k
   .by_cases J:(λx=>ltInt d2[a]! x) d2[k]! = ab
    .have f:ltInt d2[a]! d2[k]! = ab:=by grind
     refine aZ g [(48,ab),(58,ab)] rfl ?_ (AK.aQ (k-1) rfl ?_ ?_ ?_ ?_)
     .simp only[ar,bz,bD,f,bt,bh,aC,aB];and_intros<;>omega
     .simp only[ar.cat,ar,aC,aB];omega
     .simp[cq]
     .exact⟨by omega,by omega,by grind[kt]⟩
     .omega
    .have f:ltInt d2[a]! d2[k]! = ae:=by grind
     refine aZ g [(48,ab),(58,ae)] rfl ?_ (AK.leaveD rfl rfl ?_)
     .simp only[ar,bz,bD,f,bt,bh,aC,aB];and_intros<;>omega
     have e:scanDown (λx=>ltInt d2[a]! x) d2 (i4) (c)=k:=by grind[fz]
     exact out () aq rfl (by simp only[ar.cat,ar,e,aC,aB]) rfl (by simp[cq])
   .refine aZ g [(48,ae)] rfl ?_ (AK.leaveD rfl rfl ?_)
    .simp only[ar,bt,bM,aC,aB];omega
    have e:scanDown (λx=>ltInt d2[a]! x) d2 (i4) (c)=k:=by grind[fz]
    exact out () aq rfl (by simp only[ar.cat,ar,e,aC,aB]) rfl (by simp[cq])
  rintro⟨⟩ -;have c2:=kJ (p:=λx=>ltInt d2[a]! x) (d:=d2) (i:=i4) c;obtain⟨l,m⟩:∃l,l=scanDown (λx=>ltInt d2[a]! x) d2 i4 c:=⟨_,rfl⟩
  rw[<-m]at c2⊢;have q:=partEqLoop_eq (by omega) w m;by_cases y:l<i4
  .have e:=q;rw[h,bc y]at e;refine aZ g [(64,ab)] rfl ?_ (AK.leaveD rfl rfl ?_)
   .simp only[ar,bt,bh];omega
   exact u () (by grind) rfl (by simp only[ar.cat,ar,e,aC,aB]) rfl (by simp[cq,e])
  .have e:=q;rw[h,aW (by omega)]at e;refine aZ g [(64,ae),(1000009,ab)] rfl ?_ ?_
   .simp only[ar,bz,bD,bt,bM,aC,aB];and_intros<;>omega
   refine AK.norm [bI n (swp d2 i4 l)] rfl ?_ ?_
   .simp only[ar.cat,ar,bz,bD,aB,aC];exact gZ o (by omega) (by omega) (λ_ _=>rfl)
   refine cu g rfl ?_ (AK.aQ (i4+1,l-1,swp d2 i4 l) rfl ?_ ?_ ?_ ?_)
   .simp only[ar,bt];and_intros<;>omega
   .simp only[ar.cat,ar,aC,aB];and_intros<;>omega
   .simp[cq]
   .grind [size_swp]
   grind
 rintro⟨⟩ ⟨I,K⟩;refine cu g rfl aq (AK.dY [0] rfl ?_ rfl rfl rfl iq);simp
end
section
open Go.Sort (swp scanSorted shiftDown shiftUp partialIns partialInsertionSort ltInt)
variable {X:Cx ag}
theorem xu{d:Array Int}(h:i<b)(a:ltInt d[i]! d[i-1]! = ae):scanSorted ltInt d b i=scanSorted ltInt d b (i+1):=by rw[scanSorted.eq_1 ltInt d b i,bc (by grind)]
theorem oc{d:Array Int}(h:i<b->ltInt d[i]! d[i-1]! = ab):scanSorted ltInt d b i=i:=by rw[scanSorted,aW];grind
def Lp{d:Array Int}:∀(m i:Nat),b-i<=m->i<=b->i<=scanSorted ltInt d b i/\scanSorted ltInt d b i<=b:=by
 intro m;induction m with
 |zero=>grind[oc]
 |succ m e =>
  intro i h a;by_cases f:i<b
  .cases c:ltInt d[i]! d[i-1]! with
   |false=>grind[xu]
   |true=>grind[oc]
  grind
theorem Lq{d:Array Int}(b:1<=j)(h:ltInt d[j]! d[j-1]! = ab):shiftDown ltInt j d=shiftDown ltInt (j-1) (swp d j (j-1)):=by
 obtain⟨j,rfl⟩:∃a,j=a+1:=⟨j-1,by omega⟩
 simp only[px]at h⊢;rw[shiftDown,aW (by simp[h])]
theorem C0{d:Array Int}(h:1<=j->ltInt d[j]! d[j-1]! = ae):shiftDown ltInt j d=d:=by
 cases j with
 |zero=>rfl
 |succ j =>
  have:=h (by omega);simp only[px]at this;rw[shiftDown,bc (by grind)]
theorem Lr{d:Array Int}(a:j<b)(h:ltInt d[j]! d[j-1]! = ab):shiftUp ltInt b j d=shiftUp ltInt b (j+1) (swp d j (j-1)):=by rw[shiftUp.eq_1 ltInt b j d,bc a,aW (by simp[h])]
theorem C1{d:Array Int}(h:j<b->ltInt d[j]! d[j-1]! = ae):shiftUp ltInt b j d=d:=by rw[shiftUp];grind
abbrev Pj(n a b i s:Nat):Fr:=[(0,ko n),(1,dI a),(2,dI b),(7,dI i),(8,dI (5-(s:Int)))]
def N9{a s:Nat}{d:Array Int}:partialIns ltInt a b (s+1) i d=(if scanSorted ltInt d b i=b then(d,ab)else if b-a<50 then(d,ae)else
  partialIns ltInt a b s (scanSorted ltInt d b i) (if b-scanSorted ltInt d b i≥2 then shiftUp ltInt b (scanSorted ltInt d b i+1) (if scanSorted ltInt d b i-a≥2 then shiftDown ltInt (scanSorted ltInt d b i-1) (swp d (scanSorted ltInt d b i) (scanSorted ltInt d b i-1))else swp d (scanSorted ltInt d b i) (scanSorted ltInt d b i-1))else(if scanSorted ltInt d b i-a≥2 then shiftDown ltInt (scanSorted ltInt d b i-1) (swp d (scanSorted ltInt d b i) (scanSorted ltInt d b i-1))else swp d (scanSorted ltInt d b i) (scanSorted ltInt d b i-1)))):=rfl
def xw(n:Nat)(d:Array Int)(a b:Nat)(O:d.size=n)(S:a<b)(U:b<=n)(W:n<=4000000):
  Ev X 124 [ko n,dI a,dI b] [bI n d] (dB (partialInsertionSort ltInt d a b).2) [bI n (partialInsertionSort ltInt d a b).1]:=by
 have g:bR X [(125,uh)]:=.cons xt .nil;refine Ev.bQ Tryz.func124 rfl λY=>?_;obtain⟨r,J⟩:∃r,partialIns ltInt a b 5 (a+1) d=r:=⟨_,rfl⟩;have E:partialInsertionSort ltInt d a b=r:=J;rw[E];refine cu g rfl (by simp only[ar,bt];omega) ?_
 refine AK.kE (S2:=Unit) 0 rfl rfl (λ_=>r.2=ae) (λ_=>[(0,ko n)]) (λ_=>[bI n r.1]) 1 (λs:Nat×Nat×Array Int=>s.2.2.size=n/\s.1<=5/\a+1<=s.2.1/\s.2.1<=b/\partialIns ltInt a b s.1 s.2.1 s.2.2=r) (λs=>Pj n a b s.2.1 s.1) (λs=>[bI n s.2.2]) (λs=>s.1) (5,a+1,d) rfl ?_ rfl ?_ rfl ⟨O,by grind,by grind,by grind,J⟩ ?_ ?_
 .simp
 .simp[cq]
 .rintro z ⟨s,i,d1⟩ ⟨K,v,hi,q,f⟩;simp only at K v hi q f;cases s with
  |zero =>
   rw[partialIns]at f;refine aZ g [(14,ae)] rfl ?_ (AK.leaveD rfl rfl ?_)
   .simp
   exact z () (by grind) rfl (by simp) rfl (by simp[cq,<-f])
  |succ s =>
   rw[N9]at f;refine aZ g [(14,ab)] rfl (by simp only[ar,bh];omega) ?_;refine AK.kE (S2:=Unit) 2 rfl rfl (λ_=>True) (λ_=>Pj n a b (scanSorted ltInt d1 b i) (s+1)) (λ_=>[bI n d1]) 1 (λk:Nat=>i<=k/\k<=b/\scanSorted ltInt d1 b k=scanSorted ltInt d1 b i) (λk=>Pj n a b k (s+1)) (λ_=>[bI n d1]) (λk=>b-k) i rfl ?_ rfl ?_ rfl ⟨ba _,q,rfl⟩ ?_ ?_
   .simp
   .simp[cq]
   .rintro out k ⟨N,R,M⟩;by_cases P:k<b
    .have x:((k:Int)-1).toNat=k-1:=by omega
     cases p:ltInt d1[k]! d1[k-1]! with
     |false =>
      refine aZ g [(19,ab),(30,ae)] rfl ?_ (AK.aQ (k+1) rfl ?_ ?_ ?_ ?_)
      .simp only[ar,bz,bD,x,p,bt,bh,aC,aB];and_intros<;>omega
      .simp only[ar.cat,ar,aC,aB];omega
      .simp[cq]
      .grind [xu]
      .omega
     |true =>
      refine aZ g [(19,ab),(30,ab)] rfl ?_ (AK.leaveD rfl rfl ?_)
      .simp only[ar,bz,bD,x,p,bt,bh,aC,aB];and_intros<;>omega
      have e:scanSorted ltInt d1 b i=k:=by grind[oc]
      exact out () aq rfl (by simp only[ar.cat,ar,e,aC,aB]) rfl (by simp[cq])
    .refine aZ g [(19,ae)] rfl ?_ (AK.leaveD rfl rfl ?_)
     .simp only[ar,bt,bM,aC,aB];omega
     have e:scanSorted ltInt d1 b i=k:=by grind[oc]
     exact out () aq rfl (by simp only[ar.cat,ar,e,aC,aB]) rfl (by simp[cq])
   rintro⟨⟩ -;have c:=Lp (d:=d1) (b:=b) (b-i) i (ba _) q;obtain⟨i2,C⟩:∃i2,i2=scanSorted ltInt d1 b i:=⟨_,rfl⟩;rw[<-C]at c f⊢
   by_cases u:i2=b
   .rw[bc u]at f;rw[<-f];refine aZ g [(37,ab)] rfl ?_ (AK.eP (cg.mk [0] rfl ?_ rfl rfl rfl iq))
    .simp[u]
    .simp
   rw[aW u]at f;by_cases B:b-a<50
   .rw[bc B]at f;rw[<-f];refine aZ g [(37,ae),(41,ab)] rfl ?_ (AK.eP (cg.mk [0] rfl ?_ rfl rfl rfl iq))
    .simp[bt];omega
    .simp
   rw[aW B]at f;have x:((i2:Int)-1).toNat=i2-1:=by omega
   refine aZ g [(37,ae),(41,ae),(1000012,ab)] rfl ?_ ?_
   .simp only[ar,bz,bD,x,bt,bM,dG,cT,aC,aB];and_intros<;>omega
   refine AK.norm [bI n (swp d1 i2 (i2-1))] rfl ?_ ?_
   .simp only[ar.cat,ar,bz,bD,x,aB,aC];exact gZ K (by omega) (by omega) (λ_ _=>rfl)
   have A:(swp d1 i2 (i2-1)).size=n:=by grind[size_swp]
   obtain⟨d2,D⟩:∃d2,d2=swp d1 i2 (i2-1):=⟨_,rfl⟩;rw[<-D]at A f⊢;obtain⟨d3,m⟩:∃d3,d3=if i2-a≥2 then shiftDown ltInt (i2-1) d2 else d2:=⟨_,rfl⟩
   rw[<-m]at f;have V:∀(j:Nat) (d:Array Int),(shiftDown ltInt j d).size=d.size:=by
    intro j;induction j with
    |zero=>intro d;rfl
    |succ j T =>
     intro d;rw[shiftDown];grind[size_swp]
   have H:d3.size=n:=by grind
   apply AK.join (Pj n a b i2 (s+1)) [bI n d3]
   .intro out;by_cases I:i2-a≥2
    .rw[bc I]at m;refine aZ g [(61,ab)] rfl ?_ ?_
     .simp only[ar,bt,bh,aC,aB];and_intros<;>omega
     refine AK.kE (S2:=Unit) 4 rfl rfl (λ_=>True) (λ_=>Pj n a b i2 (s+1)) (λ_=>[bI n d3]) 1 (λs:Nat×Array Int=>s.2.size=n/\s.1<b/\shiftDown ltInt s.1 s.2=d3) (λs2=>Pj n a b i2 (s+1)++[(9,dI s2.1)]) (λs=>[bI n s.2]) (λs=>s.1) (i2-1,d2) rfl ?_ rfl ?_ rfl ⟨A,by grind,m.symm⟩ ?_ ?_
     .simp only[ar.cat,ar,aC,aB];omega
     .simp[cq]
     .rintro h ⟨j,d4⟩ ⟨o,F,l⟩;simp only at o F l;by_cases w:1<=j
      .have t:((j:Int)-1).toNat=j-1:=by omega
       cases p:ltInt d4[j]! d4[j-1]! with
       |true =>
        refine aZ g [(65,ab),(77,ab)] rfl ?_ (AK.aQ (j-1,swp d4 j (j-1)) rfl ?_ ?_ ?_ ?_)
        .simp only[ar,bz,bD,t,p,bt,bh,aC,aB];and_intros<;>omega
        .simp only[ar.cat,ar,aC,aB];omega
        .simp only[ar.cat,ar,bz,bD,t,aB,aC];exact gZ o (by omega) (by omega) (λ_ _=>rfl)
        .grind [Lq]
        grind
       |false =>
        refine aZ g [(65,ab),(77,ae)] rfl ?_ (AK.leaveD rfl rfl ?_)
        .simp only[ar,bz,bD,t,p,bt,bh,aC,aB];and_intros<;>omega
        have e:d3=d4:=by grind[C0]
        exact h () aq rfl (by simp) rfl (by simp[cq,e])
      .refine aZ g [(65,ae)] rfl ?_ (AK.leaveD rfl rfl ?_)
       .simp only[ar,bM];omega
       have e:d3=d4:=by grind[C0]
       exact h () aq rfl (by simp) rfl (by simp[cq,e])
     rintro⟨⟩ -;refine aZ g [(1000018,ab)] rfl aq ?_;exact out _ _ rfl (by simp)
    .rw[aW I]at m;rw[<-m];refine aZ g [(61,ae),(1000018,ab)] rfl ?_ ?_
     .simp only[ar,bt,bM,aC,aB];and_intros<;>omega
     exact out _ _ rfl (by simp)
   by_cases L:b-i2≥2
   .rw[bc L]at f;obtain⟨d5,y⟩:∃d5,shiftUp ltInt b (i2+1) d3=d5:=⟨_,rfl⟩;rw[y]at f;refine aZ g [(98,ab)] rfl ?_ ?_
    .simp only[ar,bt,bh,aC,aB];and_intros<;>omega
    refine AK.kE (S2:=Unit) 6 rfl rfl (λ_=>d5.size=n) (λ_=>Pj n a b i2 (s+1)) (λ_=>[bI n d5]) 1 (λs:Nat×Array Int=>s.2.size=n/\1<=s.1/\s.1<=b/\shiftUp ltInt b s.1 s.2=d5) (λs2=>Pj n a b i2 (s+1)++[(10,dI s2.1)]) (λs=>[bI n s.2]) (λs=>b-s.1) (i2+1,d3) rfl ?_ rfl ?_ rfl ⟨H,by grind,by grind,y⟩ ?_ ?_
    .simp only[ar.cat,ar,aC,aB];omega
    .simp[cq]
    .rintro h ⟨j,d4⟩ ⟨o,w,F,l⟩;simp only at o w F l;by_cases Q:j<b
     .have t:((j:Int)-1).toNat=j-1:=by omega
      cases p:ltInt d4[j]! d4[j-1]! with
      |true =>
       refine aZ g [(103,ab),(115,ab)] rfl ?_ (AK.aQ (j+1,swp d4 j (j-1)) rfl ?_ ?_ ?_ ?_)
       .simp only[ar,bz,bD,t,p,bt,bh,aC,aB];and_intros<;>omega
       .simp only[ar.cat,ar,aC,aB];omega
       .simp only[ar.cat,ar,bz,bD,t,aB,aC];exact gZ o (by omega) (by omega) (λ_ _=>rfl)
       .grind [size_swp,Lr]
       grind
      |false =>
       refine aZ g [(103,ab),(115,ae)] rfl ?_ (AK.leaveD rfl rfl ?_)
       .simp only[ar,bz,bD,t,p,bt,bh,aC,aB];and_intros<;>omega
       have e:d5=d4:=by grind[C1]
       exact h () (by grind) rfl (by simp) rfl (by simp[cq,e])
     .refine aZ g [(103,ae)] rfl ?_ (AK.leaveD rfl rfl ?_)
      .simp only[ar,bM];omega
      have e:d5=d4:=by grind[C1]
      exact h () (by grind) rfl (by simp) rfl (by simp[cq,e])
    rintro⟨⟩ v;refine cu g rfl ?_ (AK.aQ (s,i2,d5) rfl ?_ ?_ ?_ ?_)
    .simp only[ar,bt];omega
    .simp only[ar.cat,ar,aC,aB];omega
    .simp[cq]
    .grind
    grind
   .rw[aW L]at f;refine aZ g [(98,ae)] rfl ?_ (AK.aQ (s,i2,d3) rfl ?_ ?_ ?_ ?_)
    .simp only[ar,bt,bM,aC,aB];and_intros<;>omega
    .simp only[ar.cat,ar,aC,aB];omega
    .simp[cq]
    .grind
    grind
 rintro⟨⟩ G;refine cu g rfl aq (AK.dY [0] rfl ?_ rfl rfl rfl iq);simp[G]
end
section
open Go.Sort (swp pdq rd Rd Below SWO insertionSort heapSort breakPatterns choosePivot reverseRange partialInsertionSort partition partitionEqual Hint ltInt PermIn SortedIn)
variable {X:Cx ag}
abbrev Uu(n a b c:Nat)(wb wp:Bool):Fr:=[(0,ko n),(1,dI a),(2,dI b),(3,dI c),(8,dB wb),(9,dB wp)]
def yS{h:Hint}:nj h=2↔h=.decreasing:=by cases h<;>simp[nj]
def tB{h:Hint}:nj h=1↔h=.increasing:=by cases h<;>simp[nj]
structure PqS where
 a:Nat
 b:Nat
 lim:Nat
 wb:Bool
 wp:Bool
 d:Array Int
def Oa(n:Nat)(d:Array Int){a:Nat}(e:d.size=n)(c:b<=n)(f:a<=n)(g:n<=4000000){r:Array Int}(h:r=insertionSort ltInt d a b):Ev X 119 [ko n,dI a,dI b] [bI n d] (.fK []) [bI n r]:=by grind[RJ]
def Ls(n:Nat)(d:Array Int){a:Nat}(h:d.size=n)(c:a<=b)(i:1<=b-a)(f:b<=n)(g:n<=4000000){r:Array Int}(e:r=heapSort ltInt d a b):Ev X 120 [ko n,dI a,dI b] [bI n d] (.fK []) [bI n r]:=by grind[Ob]
def RK(n:Nat)(G:n<=4000000):∀(m:Nat)(d:Array Int)(a b lim:Nat),b-a<=m->d.size=n->a<=b->b<=n->lim<=100->Below ltInt a b d ->
  ∀{x y z:Int},x=a->y=b->z=lim->∀{R:Array Int},R=pdq ltInt d a b lim ab ab->Ev X 95 [ko n,dI x,dI y,dI z] [bI n d] (.fK []) [bI n R]:=by
 have i:bR X [(125,uh)]:=.cons xt .nil;have D:SWO ltInt:=Go.Sort.swo_ltInt;have hpi:=Go.Sort.partialInsertionSort_holds (lt:=ltInt);have hpt:=Go.Sort.partition_holds ltInt;have Z:=Go.Sort.partitionEqual_holds ltInt;have O:=Go.Sort.reverseRange_holds (α:=Int);have Q:=Go.Sort.pdq_sorts ltInt;intro m;induction m using Nat.strongRecOn with
 |_ m ih =>
 intro d a b lim hm hd hab hb hl hB x y z hx hy hz R hR;subst hx hy hz;refine Ev.bQ Tryz.func95 rfl λhf=>?_;refine cu i rfl aq ?_;refine AK.bS 1 (λs:PqS=>s.d.size=n/\s.a<=s.b/\s.b<=n/\s.lim<=100/\s.b-s.a<=b-a/\Below ltInt s.a s.b s.d/\pdq ltInt s.d s.a s.b s.lim s.wb s.wp=R) (λs=>Uu n s.a s.b s.lim s.wb s.wp) (λs=>[bI n s.d]) (λs=>s.b-s.a) ⟨a,b,lim,ab,ab,d⟩ rfl ?_ rfl ?_ rfl ⟨hd,hab,hb,hl,ba _,hB,hR.symm⟩ ?_
 .simp
 .simp[cq]
 clear hf hB hd hR;rintro⟨f,h,t,wb,wp,d1⟩ ⟨N,u,j,S6,Wx,hB,k⟩;simp only at N u j S6 Wx hB k;by_cases B:h-f<=12
 .rw[Go.Sort.pdq_small B]at k;refine aZ i [(23,ab)] rfl ?_ ?_
  .simp only[ar,bt,bh];and_intros<;>omega
  refine AK.cQ (Oa n d1 (a:=f) (b:=h) N j (by omega) G k.symm) [0] rfl ?_;refine cu i rfl aq (AK.eP (cg.mk [0] rfl aq rfl rfl rfl iq))
 by_cases M:t=0
 .rw[Go.Sort.pdq_heap B M]at k;refine aZ i [(23,ae),(29,ab)] rfl ?_ ?_
  .simp only[ar,bt,bM,eG];and_intros<;>omega
  refine AK.cQ (Ls n d1 (a:=f) (b:=h) N u (by omega) j G k.symm) [0] rfl ?_;refine cu i rfl aq (AK.eP (cg.mk [0] rfl aq rfl rfl rfl iq))
 have l:f<h:=by omega
 obtain⟨f1,f2,f3,f4,f5,W,V,f8⟩:=Go.Sort.rd_facts (limit:=t) (wb:=wb) (wp:=wp) D hpi O l (by grind) hB;have fl:=Go.Sort.rd_lim_le (lt:=ltInt) (d:=d1) (a:=f) (b:=h) (limit:=t) (wb:=wb) (wp:=wp);have S:=Go.Sort.rd_dec (lt:=ltInt) (d:=d1) (a:=f) (b:=h) (limit:=t) (wb:=wb) (wp:=wp);have T:=Go.Sort.rd_not (lt:=ltInt) (d:=d1) (a:=f) (b:=h) (limit:=t) (wb:=wb) (wp:=wp);have H:=Go.Sort.rd_pi_yes (lt:=ltInt) (d:=d1) (a:=f) (b:=h) (limit:=t) (wb:=wb) (wp:=wp);have fno:=Go.Sort.rd_pi_no (lt:=ltInt) (d:=d1) (a:=f) (b:=h) (limit:=t) (wb:=wb) (wp:=wp);have fc:=Go.Sort.rd_c (lt:=ltInt) (d:=d1) (a:=f) (b:=h) (limit:=t) (wb:=wb) (wp:=wp);have fd1:wb=ae->(rd ltInt d1 f h t wb wp).d1=breakPatterns d1 f h/\(rd ltInt d1 f h t wb wp).lim=t-1:=by grind[Go.Sort.rd_false]
 have fd2:wb=ab->(rd ltInt d1 f h t wb wp).d1=d1/\(rd ltInt d1 f h t wb wp).lim=t:=by grind[Go.Sort.rd_true]
 have E:=Go.Sort.pdq_done (lt:=ltInt) (d:=d1) (wb:=wb) (wp:=wp) B M;have geq:=Go.Sort.pdq_eq (lt:=ltInt) (d:=d1) (wb:=wb) (wp:=wp) B M;have F:=Go.Sort.pdq_left (lt:=ltInt) (d:=d1) (wb:=wb) (wp:=wp) B M;have w:=Go.Sort.pdq_right (lt:=ltInt) (d:=d1) (wb:=wb) (wp:=wp) B M;rw[N]at f1 f4 V;rw[k]at E geq F w;generalize rd ltInt d1 f h t wb wp=r at *;apply AK.join (Uu n f h r.lim wb wp++[(10,dI ((h-f:Nat):Int))]) [bI n r.d1]
 .intro out;cases wb with
  |false =>
   obtain⟨J,I⟩:=fd1 rfl;refine aZ i [(23,ae),(29,ae)] rfl ?_ ?_
   .simp only[ar,bt,bM,dG,cT];and_intros<;>omega
   refine AK.cQ (Lt n d1 f h N u j G) [0] rfl ?_;rw[<-J];refine aZ i [(1000010,ab)] rfl ?_ ?_
   .simp only[ar,bt];and_intros<;>omega
   exact out _ _ rfl (by simp only[ar.cat,ar,I,aC,aB];and_intros<;>omega)
  |true =>
   obtain⟨J,I⟩:=fd2 rfl;subst J;refine aZ i [(23,ae),(29,ae),(1000010,ab)] rfl ?_ ?_
   .simp only[ar,bt,bM,dG,cT];and_intros<;>omega
   exact out _ _ rfl (by simp only[ar.cat,ar,I,aC,aB];and_intros<;>omega)
 refine cu i rfl aq ?_;refine AK.cQ (HU n r.d1 f h u j (by omega) G) [0] rfl ?_;rw[<-fc];apply AK.join (Uu n f h r.lim wb wp++[(10,dI ((h-f:Nat):Int)),(11,dI r.pivot),(12,dI (nj r.hint))]) [bI n r.d2]
 .intro out;by_cases v:r.c.2=.decreasing
  .obtain⟨J,I,e3⟩:=S v;refine aZ i [(50,ab)] rfl ?_ ?_
   .simp only[ar,eG,yS];exact v
   refine AK.cQ (RL n r.d1 f h f1 (by omega) (by omega) j G) [0] rfl ?_;rw[<-J];refine aZ i [(1000015,ab)] rfl ?_ ?_
   .simp only[ar,bt];and_intros<;>omega
   exact out _ _ rfl (by simp only[ar.cat,ar,I,e3,nj,aC,aB];and_intros<;>omega)
  .obtain⟨J,I,e3⟩:=T v;rw[<-J];refine aZ i [(50,ae),(1000015,ab)] rfl ?_ ?_
   .simp only[ar,dG,cT,yS];exact v
   exact out _ _ rfl (by simp only[ar.cat,ar,I,e3,aC,aB])
 by_cases p:r.pi.2=ab
 ·
  have q:(wb&&wp&&decide (r.hint=.increasing))=ab:=by grind
  have e:=H q;simp only[bJ,bh]at q;obtain⟨⟨rfl,rfl⟩,C⟩:=q;refine aZ i [(67,ab)] rfl ?_ ?_
  .simp only[ar,eG,tB];exact C
  refine AK.cQ (xw n r.d2 f h f4 l j G) [0] rfl ?_;rw[<-e,p,<-E p];refine cu i rfl aq (AK.eP (cg.mk [0] rfl aq rfl rfl rfl iq))
 rw[oG]at p;apply AK.join (Uu n f h r.lim wb wp++[(10,dI ((h-f:Nat):Int)),(11,dI r.pivot)]) [bI n r.pi.1]
 .intro out;cases o:(wb&&wp&&decide (r.hint=.increasing))with
  |true =>
   have e:=H o;simp only[bJ,bh]at o;obtain⟨⟨rfl,rfl⟩,C⟩:=o;refine aZ i [(67,ab)] rfl ?_ ?_
   .simp only[ar,eG,tB];exact C
   refine AK.cQ (xw n r.d2 f h f4 l j G) [0] rfl ?_;rw[<-e,p];refine aZ i [(1000017,ab)] rfl aq ?_;exact out _ _ rfl (by simp)
  |false =>
   have e:r.d2=r.pi.1:=by grind
   rw[e];cases wb with
   |false =>
    refine aZ i [(1000017,ab)] rfl aq ?_;exact out _ _ rfl (by simp)
   |true =>
    cases wp with
    |false =>
     refine aZ i [(1000017,ab)] rfl aq ?_;exact out _ _ rfl (by simp)
    |true =>
     refine aZ i [(67,ae),(1000017,ab)] rfl ?_ ?_
     .simp only[ar,dG,cT,tB];grind
     exact out _ _ rfl (by simp)
 have ep:((f:Int)-1).toNat=f-1:=by omega
 cases o:(decide (f>0)&&!ltInt r.pi.1[f-1]! r.pi.1[r.pivot]!)with
 |true =>
  have A:=o;simp only[bJ,bh,hI]at A;obtain⟨L,q2,K,q4,_⟩:=Go.Sort.round_eq (mid:=(partitionEqual ltInt r.pi.1 f h r.pivot).1) (d4:=(partitionEqual ltInt r.pi.1 f h r.pivot).2) D Z A.1 W.1 W.2 (by grind) f8 A.2 rfl;have g:=geq p o ⟨L,q2⟩;refine aZ i [(74,ab),(85,ae)] rfl ?_ ?_
  .simp only[ar,bz,bD,ep,A.2,bt,bh,aC,aB];and_intros<;>omega
  refine AK.cQ (HV n r.pi.1 f h r.pivot V l j (by omega) G) [0] rfl ?_;refine cu i rfl aq (AK.aQ ⟨(partitionEqual ltInt r.pi.1 f h r.pivot).1,h,r.lim,wb,wp,(partitionEqual ltInt r.pi.1 f h r.pivot).2⟩ rfl ?_ ?_ ?_ ?_)
  .simp
  .simp[cq]
  .grind
  grind
 |false =>
  obtain⟨L,q2,K,q4,q5,q6,q7⟩:=Go.Sort.round_part (mid:=(partition ltInt r.pi.1 f h r.pivot).1) (ap:=(partition ltInt r.pi.1 f h r.pivot).2.1) (d4:=(partition ltInt r.pi.1 f h r.pivot).2.2) D hpt W.1 W.2 (by grind) f8 rfl;apply AK.join (Uu n f h r.lim wb wp++[(10,dI ((h-f:Nat):Int)),(11,dI r.pivot)]) [bI n r.pi.1]
  .intro out;by_cases ha0:0<f
   .have Y:ltInt r.pi.1[f-1]! r.pi.1[r.pivot]! = ab:=by grind
    refine aZ i [(74,ab),(85,ab),(1000020,ab)] rfl ?_ ?_
    .simp only[ar,bz,bD,ep,Y,bt,bh,aC,aB];and_intros<;>omega
    exact out _ _ rfl (by simp)
   .refine aZ i [(74,ae),(1000020,ab)] rfl ?_ ?_
    .simp only[ar,bM];omega
    exact out _ _ rfl (by simp)
  refine cu i rfl aq ?_;refine AK.cQ (Oc n r.pi.1 f h r.pivot V l j (by omega) G) [0] rfl ?_;have gl:=F p o ⟨L,q2⟩;have gr:=w p o ⟨L,q2⟩;generalize partition ltInt r.pi.1 f h r.pivot=P at *;rw[V]at K;by_cases U:P.1-f<h-P.1
  .have g:=gl U;obtain⟨w1,w2⟩:=Q D P.2.2 f P.1 r.lim ab ab L (by grind) q4;obtain⟨w3,_⟩:=q6 _ w1 w2;refine aZ i [(113,ab)] rfl ?_ ?_
   .simp only[ar,bt,bh,aC,aB];and_intros<;>omega
   refine AK.cQ (ih (P.1-f) (by omega) P.2.2 f P.1 r.lim (ba _) K L (by omega) (by omega) q4 rfl rfl rfl rfl) [0] rfl ?_;refine cu i rfl ?_ (AK.aQ ⟨P.1+1,h,r.lim,decide (P.1-f≥(h-f) / 8),P.2.1,pdq ltInt P.2.2 f P.1 r.lim ab ab⟩ rfl ?_ ?_ ?_ ?_)
   .simp only[ar,bt,aC,aB];and_intros<;>omega
   .simp only[ar.cat,ar,aC,aB];grind
   .simp[cq]
   .exact⟨by simp only;rw[w1.1,K],by grind,j,by grind,by grind,w3,g.symm⟩
   grind
  .have g:=gr U;obtain⟨w1,w2⟩:=Q D P.2.2 (P.1+1) h r.lim ab ab (by omega) (by grind) q5;obtain⟨w3,_⟩:=q7 _ w1 w2;refine aZ i [(113,ae)] rfl ?_ ?_
   .simp only[ar,bt,bM,aC,aB];and_intros<;>omega
   refine AK.cQ (ih (h-(P.1+1)) (by omega) P.2.2 (P.1+1) h r.lim (ba _) K (by omega) j (by omega) q5 (x:=(P.1:Int)+1) (by omega) rfl rfl rfl) [0] rfl ?_;refine cu i rfl ?_ (AK.aQ ⟨f,P.1,r.lim,decide (h-P.1≥(h-f) / 8),P.2.1,pdq ltInt P.2.2 (P.1+1) h r.lim ab ab⟩ rfl ?_ ?_ ?_ ?_)
   .trivial
   .simp only[ar.cat,ar,aC,aB];grind
   .simp[cq]
   .exact⟨by simp only;rw[w1.1,K],by grind,by grind,by grind,by grind,w3,g.symm⟩
   grind
end
section
open Go.Proofs Go.Conc Go.Conc.Lib
open Go.ConcN (WgLive PayAt Has RW AtR0)
open Go.ConcR (KK WgAt stA smA rd wr mk Payload DC0)
instance pay:Payload:=⟨177⟩
def lN(g:Int):dv:=λargs σ=>match args,σ with
 |[.e (.one (.c (.int .i64 k))),f,.e (.one (.c (.int .i64 n)))],[]=>match jO 2 f with
  |none=>af
  |some (b,d)=>aa (U3 (di k (cP.list b d) n),[],[cP.fits b d,k=g])
 |_,_=>af
noncomputable def O0:Code:=(Tryz.f131.body).getD .skip
noncomputable def J3:Array aD:=match O0 with|.seq (.region _ o _) _=>o|_=>#[]
noncomputable def J4:Array aD:=match O0 with|.seq _ (.region _ o _)=>o|_=>#[]
def J5:Tryz.f131.body=aa (.seq (.region 0 J3 ae) (.region 1 J4 ab)):=by kernel_rfl
def oW(d:Option Nat)(op:Op)(ty:av)(b:Array Edge):aD:={dst:=d,op:=op,type:=ty,pos:= "l12_snap.go:82",after:=b,guard:=af}
def uv:List aD:=[oW (aa 6) (.load 167 (.tmp 4)) 167 #[],oW (aa 7) (.load 3 (.tmp 5)) 3 #[],oW (aa 8) (.load 3 (.tmp 1)) 3 #[],oW (aa 9) (.load 23 (.tmp 2)) 23 #[],oW (aa 10) (.load 3 (.tmp 3)) 3 #[],
 oW (aa 11) (.call {callee:=.value (.func 133),args:=#[.tmp 8,.tmp 9,.tmp 10],argTypes:=#[3,23,3]}) 177 #[⟨2,.data⟩,⟨3,.data⟩,⟨4,.data⟩],
 oW (aa 12) (.indexAddr 167 (.tmp 6) (.tmp 7)) 0 #[⟨0,.data⟩,⟨1,.data⟩,⟨0,.phase⟩,⟨1,.phase⟩,⟨2,.phase⟩,⟨3,.phase⟩,⟨4,.phase⟩,⟨5,.phase⟩],
 oW af (.store 177 (.tmp 12) (.tmp 11)) 0 #[⟨6,.data⟩,⟨5,.data⟩,⟨5,.chain⟩,⟨0,.phase⟩,⟨1,.phase⟩,⟨2,.phase⟩,⟨3,.phase⟩,⟨4,.phase⟩,⟨5,.phase⟩]]
def Nq:J4=uv.toArray:=by kernel_rfl
def n5(h:uv[i]?=aa o):i<8:=(cf.1 h).1
section
variable (k:Int)(ps:List bo)(a:Int)(n x C:Nat)
def Tz(b:aj):Fr:=[(0,.e (.one (.v b))),(1,.e (.one (.c (.rp [.int .i64 k])))),(2,.e (.one (.c (.rp [.sl ae 2 ps.length (cP.fn ps)])))),(3,.e (.one (.c (.rp [.int .i64 a])))),(4,.e (.one (.c (.rp [.val (.slice (aa ⟨C,0,af⟩) n n)])))),(5,.e (.one (.c (.rp [.int .i64 x]))))]
def xW:Nat->D
 |0=>.e (.one (.v (.slice (aa ⟨C,0,af⟩) n n)))
 |1=>dI x
 |2=>dI k
 |3=>cP.sl ps
 |4=>dI a
 |5=>U3 (di k ps a)
 |6=>.e (.one (.v (.pointer (aa ⟨C,x*2,af⟩))))
 |_=>.any
def El:Nat->Option Nat
 |6=>aa 0|7=>aa 1|8=>aa 2|9=>aa 3|10=>aa 4|11=>aa 5|12=>aa 6|_=>af
def Ys(b:aj):Nat->Fr
 |5=>[(8,dI k),(9,cP.sl ps),(10,dI a)]
 |6=>[(6,.e (.one (.v (.slice (aa ⟨C,0,af⟩) n n)))),(7,dI x)]
 |_=>Tz k ps a n x C b
end
def Nr{X:Cx ag}{n x C:Nat}(g:x<n):OA X 13 uv (oW (aa 12) (.indexAddr 167 (.tmp 6) (.tmp 7)) 0 #[⟨0,.data⟩,⟨1,.data⟩,⟨0,.phase⟩,⟨1,.phase⟩,⟨2,.phase⟩,⟨3,.phase⟩,⟨4,.phase⟩,⟨5,.phase⟩]) [(6,.e (.one (.v (.slice (aa ⟨C,0,af⟩) n n)))),(7,dI x)] [] (.e (.one (.v (.pointer (aa ⟨C,x*2,af⟩))))) []:=by
 refine .mN (λ_ _ _ _=>dD rfl) (bF.quiet λs l m h=>?_);have b:=h (.tmp 6);have c:=h (.tmp 7);have j:bO [(6,D.e (.one (.v (.slice (aa ⟨C,0,af⟩) n n)))),(7,dI x)] (.tmp 6)=.e (.one (.v (.slice (aa ⟨C,0,af⟩) n n))):=rfl;have i:bO [(6,D.e (.one (.v (.slice (aa ⟨C,0,af⟩) n n)))),(7,dI x)] (.tmp 7)=dI x:=rfl;rw[j]at b;rw[i]at c;have b:=Rd.fN b;have c:=fM c;generalize d:l (.tmp 7)=vy at c;cases c;have f:=(tok 167 i167 rfl).run_underlying (w:=s.w);refine⟨.pointer (aa ⟨C,x*2,af⟩),?_,Rd.val rfl,?_⟩
 .simp[an,oW,b,d,Instr.indexAt,asIntOf,f,i167,(tok 177 i177 rfl).run_sizeOf,i177,de,g]
 .simp[an,oW,b,d,Instr.indexAt,asIntOf,f,i167,de,g]
def TB{X:Cx ag}{k:Int}(f:dH X 133 (lN k))(ps:List bo)(a:Int)(n x C:Nat)(p:x<n)(l:aj):
  JE X 13 uv.toArray (Tz k ps a n x C l) [] (xW k ps a n x C) (Ys k ps a n x C l) El 7:=by
 have m:bR X [(133,lN k)]:=bR.cons f bR.nil;have c:∀(i:Nat) (o:aD) (φ:Fr) (d:D) (obs:List Prop),uv[i]?=aa o->vH tt [(133,lN k)] [] uv φ [] o=aa (d,af,obs)->ar obs->OA X 13 uv o φ [] d [] :=
  λi o φ d obs _ h ho=>eZ tok m h ho
 refine⟨?_,?_,?_,?_,?_,?_,by decide⟩
 .intro i o ho e g _;simp only[gT]at ho;have hi:=n5 ho
  match i,hi with
  |0,_|1,_|2,_|3,_|4,_|5,_|6,_|7,_ =>
   cases ho;simp[oW]at g;try (rcases g with rfl|rfl|rfl|rfl|rfl|rfl|rfl|rfl|rfl<;>decide)
   try (rcases g with rfl|rfl|rfl<;>decide)
 .intro i o d ho hd;simp only[gT]at ho;have hi:=n5 ho
  match i,hi with
  |0,_|1,_|2,_|3,_|4,_|5,_|6,_|7,_ =>
   cases ho;cases hd;try exact⟨rfl,by decide⟩
 .intro d i h;unfold El at h;split at h<;>cases h<;>exact⟨_,rfl,rfl⟩
 .intro i o ho Bi;simp only[gT]at ho;have hi:=n5 ho
  match i,hi with
  |0,_=>cases ho;exact c 0 _ _ _ _ rfl rfl aq
  |1,_=>cases ho;exact c 1 _ _ _ _ rfl rfl aq
  |2,_=>cases ho;exact c 2 _ _ _ _ rfl rfl aq
  |3,_=>cases ho;exact c 3 _ _ _ _ rfl rfl aq
  |4,_=>cases ho;exact c 4 _ _ _ _ rfl rfl aq
  |5,_ =>
   cases ho;have:=c 5 _ (Ys k ps a n x C l 5) _ _ rfl rfl (by simp[cP.au]);rw[cP.list_fn]at this;exact this
  |6,_=>cases ho;exact Nr p
  |7,_=>grind
 .intro i o ho Bi t σ s v b;simp only[gT]at ho;have hi:=n5 ho
  match i,hi with
  |0,_|1,_|2,_|3,_|4,_ =>
   match t with
   |0|1|2|3|4|5=>exact b
   |t+6=>trivial
  |5,_ =>
   cases ho
   match t with
   |8=>exact(show dk σ s v (xW k ps a n x C 2)from by simpa[El,oW,dh,Region.binds]using b)
   |9=>exact(show dk σ s v (xW k ps a n x C 3)from by simpa[El,oW,dh,Region.binds]using b)
   |10=>exact(show dk σ s v (xW k ps a n x C 4)from by simpa[El,oW,dh,Region.binds]using b)
   |0|1|2|3|4|5|6|7=>trivial
   |t+11=>trivial
  |6,_ =>
   cases ho
   match t with
   |6=>exact(show dk σ s v (xW k ps a n x C 0)from by simpa[El,oW,dh,Region.binds]using b)
   |7=>exact(show dk σ s v (xW k ps a n x C 1)from by simpa[El,oW,dh,Region.binds]using b)
   |0|1|2|3|4|5=>trivial
   |t+8=>trivial
  |7,_=>grind
 .intro o ho j q Bi;simp only[gT]at ho;cases ho
  match j,q with
  |0,_=>exact⟨⟨0,.phase⟩,by simp[oW],rfl,rfl⟩
  |1,_=>exact⟨⟨1,.phase⟩,by simp[oW],rfl,rfl⟩
  |2,_=>exact⟨⟨2,.phase⟩,by simp[oW],rfl,rfl⟩
  |3,_=>exact⟨⟨3,.phase⟩,by simp[oW],rfl,rfl⟩
  |4,_=>exact⟨⟨4,.phase⟩,by simp[oW],rfl,rfl⟩
  |5,_=>exact⟨⟨5,.phase⟩,by simp[oW],rfl,rfl⟩
  |6,_=>exact⟨⟨6,.data⟩,by simp[oW],rfl,rfl⟩
  |7,_=>grind
noncomputable def uw:aU:={(default:aU)with fn:=Tryz.prog.funcs.size,defers:=[],mode:=.panicking [goexitEntry]}
def wH(vs:Array aj):Deferred:={target:=.fn (.func 131) vs,args:=#[]}
def Hh(v0 v1 v2 v3 v4 v5:aj)(w:aA):aH ag ae (born ag (wH #[v0,v1,v2,v3,v4,v5])) w =
  .go (G ((baseD 131).at ⟨#[v0,v1,v2,v3,v4,v5,ai,ai,ai,ai,ai,ai,ai],[]⟩ [.code (.seq (.region 0 J3 ae) (.region 1 J4 ab))]) [uw]) w #[]:=by
 have c:=J5;have d:Tryz.f131.ntmps=13:=by kernel_rfl
 have b:¬Tryz.f131.name= "runtime.NumGoroutine":=by
  have:(Tryz.f131.name== "runtime.NumGoroutine")=ae:=by kernel_rfl
  grind
 simp[born,wH,aH,unwind,callDeferred,invoke,callFunc,Tryz.func131,c,d,b,seen,GStep.after,G,Frame.enter,Frame.at,baseD,uw]
end
section
variable {X:Cx ag}
abbrev pk(ps:List bo)(i:Nat):bo:=ps.getD i (0,[])
def JX{k n:Int}{ps:List bo}{r:Bs}(hi:i<ps.length)(h:dx k (pk ps i) n=aa r)(a:∀j,j<i->dx k (pk ps j) n=af):di k ps n=aa r:=by
 unfold di;induction ps generalizing i with
 |nil=>grind
 |cons p ps ih =>
  cases i with
  |zero=>grind
  |succ i =>
   have b:=a 0 (by omega);grind
def Ee{k n:Int}{ps:List bo}(a:∀j,j<ps.length->dx k (pk ps j) n=af):di k ps n=af:=by unfold di;grind[List.getElem_of_mem]
theorem Bh.UK{P:aK}{φ:Fr}{σ:List bm}{T:List (Nat×TI)}(g:dj P T){fn:Func}{c:Nat}{res:D}{σ':List bm}(ks:List Nat){ps:List Prop}(h:Mm T fn.results.toList ks φ res=aa ps)(l:ar ps)(f:kh ks σ=aa σ')(a:kP σ'=ab)(i:dX ks=ab)(e:∀j,j<c->ks[j]?=aa j):
  Bh P fn c res σ' .ret φ σ:=by
 refine⟨.inl rfl,ks,?_⟩;unfold Mm at h;split at h
 .rename_i ds We;split at h
  .rename_i d k;split at h
   .rename_i b;exact⟨d,ps,Bg.UK g We k,h,l,b,f,a,i,e⟩
   grind
  grind
 grind
def jF{a:List Nat}:∀j,j<0->a[j]?=aa j:=λ_ h=>absurd h (iY _)
def JY(d:dH X 158 o0)(k:Int)(ps:List bo)(n:Int)(g:cD k=ab):Ev X 133 [dI k,cP.sl ps,dI n] [] (U3 (di k ps n)) []:=by
 refine Ev.mb Tryz.func133 rfl rfl rfl λm=>?_;have f:=m.sl 1 rfl;have b:bR X [(179,Dj aI (BV ef) aI (λk p n=>Ae (dx k p n)) λk _ _=>[cD k=ab])]:=.cons (QF d) .nil;refine bX b rfl aq ?_;refine AK.bS 1 (λi=>i<=ps.length/\∀j,j<i->dx k (pk ps j) n=af) (λi:Nat=>[(0,dI k),(2,dI n),(6,.e (.one (.ptr 0 0))),(11,cP.sl ps),(12,dI ps.length),(13,dI i)]) (λ_=>[.cells 177 [.c (.str []),.c (.bool ae)]]) (λi=>ps.length-i) 0 rfl ?_ rfl ?_ rfl ⟨by omega,by omega⟩ ?_
 .simp
 .simp
 rintro i ⟨hi,a⟩;by_cases h:i<ps.length
 .cases l:dx k (pk ps i) n with
  |some r =>
   refine aO b [(14,ab),(24,ab)] rfl ?_ (AK.freeze 6 0 rfl rfl rfl (AK.eP ?_))
   .simp only[ar,bD,ef.list_fn];refine⟨?_,ef.au _,g,by omega,by omega,dc (by omega)⟩;grind
   .refine Bh.UK tok [] rfl ?_ rfl rfl rfl jF;rw[JX h l a];simp only[bD,ef.list_fn];have e:dx k ((ps.getD i cP.b8).1,(ps.getD i cP.b8).2) n=aa r:=l;rw[e];simp
  |none =>
   refine aO b [(14,ab),(24,ae)] rfl ?_ (AK.aQ (i+1) rfl ?_ ?_ ?_ ?_)
   .simp only[ar,bD,ef.list_fn];refine⟨by simp only[bt];omega,?_,ef.au _,g,by omega,by omega,dc (by omega)⟩;grind
   .simp
   .simp
   .grind
   grind
 .refine aO b [(14,ae)] rfl (by simp;omega) (AK.leaveD rfl rfl ?_);refine bX b rfl aq ?_;refine AK.freeze 6 0 rfl rfl rfl ?_;refine AK.lD tok [] rfl ?_ rfl rfl rfl jF;rw[Ee λj o=>a j (by omega)];simp
def QG(a:dH X 158 o0){k:Int}(b:cD k=ab):dH X 133 (lN k):=by
 intro args σ res σ' obs h ho;unfold lN at h;split at h
 .rename_i k1 da n;split at h
  .cases h
  .rename_i e f d;cases h;obtain⟨c,rfl⟩:=ho;exact(JY a _ _ n b).args λs vs=>cn.imp (λ_ r=>r) (cn.imp (λ_ r=>cP.jb d c r) (cn.imp (λ_ r=>r) (λ_ r=>r))) vs
 grind
def G6:dv:=λargs σ=>match args,σ with
 |[.e (.one (.c (.str [46]))),.e (.one (.c (.int .i64 c)))],[]=>aa (dS (List.replicate c.toNat 46),[],[0<=c/\c<=3])
 |_,_=>af
def t202:dH X 202 (kF aI (λn=>dI (cJ n.toNat)) λn=>[0<=n/\n<=4000000]):=.oz λn h=>by
 have a:0<=n/\n<=4000000:=h;obtain⟨m,rfl⟩:∃m:Nat,n=m:=⟨n.toNat,by omega⟩
 exact BR (X:=X) m (by omega)
def JZ(b:1<=n)(a:n<=8):n<=cJ n/\cJ n<=n+3:=by unfold cJ;grind
def J0(a:dH X 201 G6)(p:Bs):Ev X 158 [dS p] [] (dS (iA p)) []:=by
 refine Ev.bQ Tryz.func158 rfl λf=>?_;have d:bR X [(157,kF aS (λs=>dB (bH s)) λ_=>[]),(202,kF aI (λn=>dI (cJ n.toNat)) λn=>[0<=n/\n<=4000000]),(201,G6)]:=.cons t157 (.cons t202 (.cons a .nil));by_cases b:bH p=ab
 .have c:=b;simp only[bH,bJ,bh]at c;have e:=JZ c.1.1 c.1.2;refine aO d [(5,ae)] rfl ?_ (AK.bq rfl ?_)
  .simp[b,bt];omega
  .simp[iA,b]
 .refine aO d [(5,ab)] rfl ?_ (AK.bq rfl ?_)
  .simp[b]
  .simp[iA,b]
def Ts(a:dH X 201 G6):dH X 158 o0:=.oz λp _=>J0 a p
def Ni:Ev X 201 [dS [46],dI 0] [] (dS []) []:=by
 refine Ev.bQ Tryz.func201 rfl λa=>?_;refine aY [(12,ab)] rfl ?_ (AK.bq rfl)
 .simp
def Nj:Ev X 201 [dS [46],dI 1] [] (dS [46]) []:=by
 refine Ev.bQ Tryz.func201 rfl λa=>?_;refine aY [(12,ae),(14,ab)] rfl ?_ (AK.bq rfl)
 .simp
def Tq(a:Ev X 201 [dS [46],dI 2] [] (dS [46,46]) [])(b:Ev X 201 [dS [46],dI 3] [] (dS [46,46,46]) []):dH X 201 G6:=by
 intro args σ res σ' obs h ho;unfold G6 at h;split at h
 .rename_i c;cases h;have:c=0∨c=1∨c=2∨c=3:=by have:0<=c/\c<=3:=ho;omega
  rcases this with rfl|rfl|rfl|rfl
  .exact Ni
  .exact Nj
  .exact a
  grind
 grind
def QA(a b:List Bs):Ev X 137 [cS.sl a,cS.sl b] [] (dB (a==b)) []:=by
 refine Ev.bQ Tryz.func137 rfl λk=>?_;have d:=k.sl 0 rfl;by_cases c:a.length=b.length
 .refine aY [(10,ae)] rfl (by simp[c]) ?_;refine AK.jf (λi=>i<=a.length/\∀j,j<i->a.getD j []=b.getD j []) (λi:Nat=>[(0,cS.sl a),(1,cS.sl b),(12,dI a.length),(13,dI i)]) (λ_=>[]) (λi=>a.length-i) 0 rfl ?_ rfl aq ⟨by omega,by omega⟩ ?_
  .simp
  rintro i ⟨hi,f⟩;by_cases h:i<a.length
  .by_cases g:a.getD i []=b.getD i []
   .refine aY [(14,ab),(24,ae)] rfl ?_ (AK.fH (i+1) rfl ?_ rfl aq ?_ ?_)
    .simp only[ar,bD];have e:(a.getD i cS.b8==b.getD i cS.b8)=ab:=eG.2 g;exact⟨by simp only[bt];omega,by grind,by omega,by omega,by omega,by omega,dc (by omega)⟩
    .simp
    .grind
    .omega
   .refine aY [(14,ab),(24,ab)] rfl ?_ (AK.gO (cg.zero rfl ?_))
    .simp only[ar,bD];grind
    .have:(a==b)=ae:=dG.2 (by grind);simp[this]
  .refine aY [(14,ae)] rfl (by simp;omega) (AK.leave rfl rfl ?_);refine bA rfl aq (AK.bq rfl ?_);have:a=b:=ry c λj g l=>by grind
   simp[this]
 .refine aY [(10,ab)] rfl ?_ (AK.bq rfl ?_)
  .simp;omega
  .have:(a==b)=ae:=dG.2 (by grind);simp[this]
end
def Eh(h:o.op=.binOp op t x y ty){e:av}(A:P.underlying t=aa (.pointer e)){b c:Bool}(r:∀s u v,aF σ s->dk σ s u (η x)->dk σ s v (η y)->∃p q,u=.pointer p/\v=.pointer q/\(p==q)=b/\(eqGuard op t x y u v).run P s.w=.ok () s.w/\(∀es,(eqGuard op t x y u v).events P s.w es=es) /\
   (Op.equal t u v).run P s.w=.ok b s.w/\∀es,(Op.equal t u v).events P s.w es=es)(m:lF op b=aa c):bF P o η σ (.e (.one (.c (.bool c)))) σ:=by
 refine .quiet λs C z n=>?_;obtain⟨p,q,g,f,B,i,l,j,k⟩:=r s _ _ z (n x) (n y);rw[g,f]at i j;have d:=l #[];have a:=k #[];rw[g,f]at d a;cases op<;>simp only[lF,reduceCtorEq,dm]at m
 .subst m;exact⟨.bool b,by simp[an,h,g,f,i,binOp,j],Rd.bool,by simp[an,h,g,f,i,d,binOp,j,a]⟩
 .subst m;exact⟨.bool (!b),by simp[an,h,g,f,i,binOp,j],Rd.bool,by simp[an,h,g,f,i,d,binOp,j,a]⟩
def Qv(h:o.op=.binOp op t x (.const (.pointer af)) ty){e:av}(f:P.underlying t=aa (.pointer e)){c:Bool}(j:η x=.e (.one (.c .oK)))(i:η (.const (.pointer af))=.e (.one (.c .oK)))(l:lF op ab=aa c):bF P o η σ (.e (.one (.c (.bool c)))) σ:=by
 refine Eh h f (b:=ab) ?_ l;intro s u v _ d a;rw[j]at d;rw[i]at a;replace d:=fM d;replace a:=fM a;cases d;cases a;have k:(Op.equal t (.pointer af) (.pointer af)).run P s.w=.ok ab s.w:=by show(Op.equalIn (9999+1) t _ _).run P s.w=_;unfold Op.equalIn;simp[underlying,f]
 have g:∀es,(Op.equal t (.pointer af) (.pointer af)).events P s.w es=es:=λes=>by show(Op.equalIn (9999+1) t _ _).events P s.w es=es;unfold Op.equalIn;simp[underlying,f]
 exact⟨af,af,rfl,rfl,rfl,by cases op<;>simp[eqGuard],λes=>by cases op<;>simp[eqGuard],k,g⟩
def Qw(h:o.op=.binOp op t x (.const (.pointer af)) ty){e:av}(d:P.underlying t=aa (.pointer e)){c:Bool}(j:η x=.e (.one (.ptr l off)))(i:η (.const (.pointer af))=.e (.one (.c .oK)))(m:lF op ae=aa c):bF P o η σ (.e (.one (.c (.bool c)))) σ:=by
 refine Eh h d (b:=ae) ?_ m;intro s u v _ g a;rw[j]at g;rw[i]at a;replace a:=fM a;cases a;obtain⟨_,L,b,_,_,rfl⟩:=(g:gD σ s u (.ptr l off));have k:(Op.equal t (.pointer (aa ⟨b,off,af⟩)) (.pointer af)).run P s.w=.ok ae s.w:=by show(Op.equalIn (9999+1) t _ _).run P s.w=_;unfold Op.equalIn;simp[underlying,d]
 have f:∀es,(Op.equal t (.pointer (aa ⟨b,off,af⟩)) (.pointer af)).events P s.w es=es:=λes=>by show(Op.equalIn (9999+1) t _ _).events P s.w es=es;unfold Op.equalIn;simp[underlying,d]
 exact⟨_,af,rfl,rfl,rfl,by cases op<;>simp[eqGuard],λes=>by cases op<;>simp[eqGuard],k,f⟩
def M8(h:o.op=.binOp op t x y ty){e:av}(f:P.underlying t=aa (.pointer e))(q:n≠0)(k:∀w,(sizeOf e).run P w=.ok n w)(g:∀w es,(sizeOf e).events P w es=es){c:Bool}(A:η x=.e (.one (.ptr l off)))(r:η y=.e (.one (.ptr l off)))(C:lF op ab=aa c):bF P o η σ (.e (.one (.c (.bool c)))) σ:=by
 refine Eh h f (b:=ab) ?_ C;intro s u v _ p m;rw[A]at p;rw[r]at m;obtain⟨_,L,b,z,j,rfl⟩:=(p:gD σ s u (.ptr l off));obtain⟨_,E,D,d,a,rfl⟩:=(m:gD σ s v (.ptr l off));rw[z]at d;cases d;rw[j]at a;cases a;have B:(Op.equal t (.pointer (aa ⟨b,off,af⟩)) (.pointer (aa ⟨b,off,af⟩))).run P s.w=.ok ab s.w:=by show(Op.equalIn (9999+1) t _ _).run P s.w=_;unfold Op.equalIn;simp[underlying,f,k,q,sameAddr]
 have i:∀es,(Op.equal t (.pointer (aa ⟨b,off,af⟩)) (.pointer (aa ⟨b,off,af⟩))).events P s.w es=es:=λes=>by show(Op.equalIn (9999+1) t _ _).events P s.w es=es;unfold Op.equalIn;simp[underlying,f,k,g,q,sameAddr]
 exact⟨_,_,rfl,rfl,by simp,by cases op<;>simp[eqGuard],λes=>by cases op<;>simp[eqGuard],B,i⟩
section
variable {X:Cx ag}
abbrev bB(a:Bool)(v1:aj)(bf:Option (Nat×Nat))(xs:Bs)(b:Nat):bm:=.dg (BB 224 5 a v1 bf xs b)
def BM(v1:aj)(b:dn v1=ab)(bf:Option (Nat×Nat))(xs:Bs)(a:Nat):Ev X 211 [.e (.one (.ptr 0 0))] [bB ae v1 bf xs a] (.fK []) [bB ab v1 bf xs a]:=by
 refine Ev.bQ Tryz.func211 rfl λd=>?_;refine bA rfl aq ?_;refine AK.law (bF.Pq tok rfl rfl rfl rfl rfl) rfl rfl ?_;refine AK.law (Qv rfl Tryz.underlying222 rfl rfl rfl) rfl rfl ?_;refine bA rfl aq ?_;refine AK.law (bF.Y9 rfl rfl Tryz.underlying222 Tryz.underlying209 (fi Tryz.type224) (by simp[Tryz.t224]) rfl) rfl rfl ?_;refine AK.law (bF.Su Tryz.func222 (by kernel_rfl) (by kernel_rfl) (by kernel_rfl) (by kernel_rfl) rfl rfl rfl) rfl rfl ?_;refine AK.law (bF.Ss rfl rfl Tryz.underlying209 Tryz.underlying222 (fi Tryz.type224) (by simp[Tryz.t224]) (by kernel_rfl) rfl) rfl rfl ?_
 refine bA rfl aq ?_;refine AK.law (bF.Ma tok rfl rfl rfl rfl rfl rfl b) rfl rfl ?_;refine bA rfl aq ?_;exact cg.sW [0] rfl aq rfl rfl rfl (λj c=>by grind)
def BN(v1:aj)(bf:Option (Nat×Nat))(xs:Bs)(a:Nat):Ev X 211 [.e (.one (.ptr 0 0))] [bB ab v1 bf xs a] (.fK []) [bB ab v1 bf xs a]:=by
 refine Ev.bQ Tryz.func211 rfl λc=>?_;refine bA rfl aq ?_;refine AK.law (bF.Ir tok rfl rfl rfl rfl rfl) rfl rfl ?_;refine AK.law (Qw rfl Tryz.underlying222 rfl rfl rfl) rfl rfl ?_;refine bA rfl aq ?_;refine AK.law (bF.Ir tok rfl rfl rfl rfl rfl) rfl rfl ?_;refine bA rfl aq ?_;refine AK.law (M8 rfl Tryz.underlying222 (n:=2) (by decide) (λw=>by simp[sizeOf,typeInfo,fi Tryz.type224,Tryz.t224]) (λw es=>by simp[sizeOf,typeInfo,fi Tryz.type224]) rfl rfl rfl) rfl rfl ?_
 refine bA rfl aq ?_;exact cg.sW [0] rfl aq rfl rfl rfl (λj b=>by grind)
abbrev bb(a:Bool)(bf:Option (Nat×Nat))(xs:Bs)(b:Nat):bm:=bB a (oJ bf xs.length) bf xs b
def nY:∀j,j<1->([0]:List Nat)[j]?=aa j:=λj a=>by grind
def Ac(a:Bool)(bf:Option (Nat×Nat))(xs:Bs)(b:Nat)(d:xs.length<=9223372036854775807)(c:bf=af->xs=[]):Ev X 221 [.e (.one (.ptr 0 0))] [bb a bf xs b] (dI xs.length) [bb a bf xs b]:=by
 refine Ev.bQ Tryz.func221 rfl λf=>?_;refine bA rfl aq ?_;refine AK.law (bF.fg tok rfl rfl rfl rfl rfl) rfl rfl ?_;cases bf with
 |none =>
  have:=c rfl;subst this;refine AK.law (bF.uo rfl rfl aJ rfl (by simp)) rfl rfl ?_;refine bA rfl aq (AK.dY [0] rfl ?_ rfl rfl rfl nY);simp
 |some p =>
  refine AK.law (bF.uo rfl rfl aJ rfl d) rfl rfl ?_;refine bA rfl aq (AK.dY [0] rfl ?_ rfl rfl rfl nY);simp
def D5(g cap:Nat)(xs s:Bs)(a:Nat)(f:s.length<=9223372036854775807)(b:xs.length+s.length<=cap):Ev X 186 [.e (.one (.ptr 0 0)),dS s] [bb ab (aa (g,cap)) xs a] (.fK [.one (.c (.int .i64 s.length)),.one (.c .oN)]) [bb ab (aa (g,cap)) (xs++s) a]:=by
 refine Ev.bQ Tryz.func186 rfl λd=>?_;refine bA rfl aq ?_;refine AK.cQ (BN (oJ (aa (g,cap)) xs.length) (aa (g,cap)) xs a) [0] rfl ?_;refine bA rfl aq ?_;refine AK.law (bF.fg tok rfl rfl rfl rfl rfl) rfl rfl ?_;refine bA rfl aq ?_;refine AK.law (bF.Mb (l:=0) (g:=g) (cap:=cap) (xs:=xs) rfl aJ Tryz.underlying9 (fi Tryz.type5) (by simp[Tryz.t5]) rfl rfl rfl rfl b) rfl rfl ?_;refine bA rfl aq ?_;refine AK.law (bF.zk tok rfl rfl rfl rfl rfl rfl rfl) rfl rfl ?_;have e:bb ab (aa (g,cap)) (xs++s) a=.dg (BB 224 5 ab (oJ (aa (g,cap)) (xs.length+s.length)) (aa (g,cap)) (xs++s) a):=by grind
 rw[e];refine bA rfl aq (AK.dY [0] rfl ?_ rfl rfl rfl nY);simp
theorem Qx:Ev X 186 [.e (.one (.ptr 0 0)),dS []] [bb ab af [] 0] (.fK [.one (.c (.int .i64 0)),.one (.c .oN)]) [bb ab af [] 0]:=by refine Ev.bQ Tryz.func186 rfl λa=>?_;refine bA rfl aq ?_;refine AK.cQ (BN (oJ af 0) af [] 0) [0] rfl ?_;refine bA rfl aq ?_;refine AK.law (bF.fg tok rfl rfl rfl rfl rfl) rfl rfl ?_;refine bA rfl aq ?_;refine AK.law (bF.Iv rfl aJ Tryz.underlying9 (fi Tryz.type5) rfl rfl) rfl rfl ?_;refine bA rfl aq ?_;refine AK.law (bF.zk tok rfl rfl rfl rfl rfl rfl rfl) rfl rfl ?_;refine bA rfl aq (AK.dY [0] rfl ?_ rfl rfl rfl nY);simp
abbrev dp:D:=.e (.one (.ptr 0 0))
abbrev LY:D:=.e (.one (.ptr 0 1))
def D6(g cap:Nat)(xs:Bs)(c:Nat)(a:xs.length<=9223372036854775807)(b:cap≠0):Ev X 187 [.e (.one (.ptr 0 0))] [bb ab (aa (g,cap)) xs c] (dS xs) [bb ab (aa (g,cap)) xs xs.length]:=by
 refine Ev.bQ Tryz.func187 rfl λd=>?_;refine aY [(1000001,ab)] rfl aq ?_;refine AK.MW fC 10 (λi=>bC i 9) (λi=>[dp,dp,LY,.e (.one (.v (.slice (aa ⟨g,0,af⟩) xs.length cap))),.e (.one (.v (.pointer (aa ⟨g,0,af⟩)))),dp,dp,LY,.e (.one (.v (.slice (aa ⟨g,0,af⟩) xs.length cap))),dI xs.length].getD i .any) (λ(_:Unit) _=>dS xs)
  (λ_=>[bb ab (aa (g,cap)) xs xs.length]) rfl rfl rfl rfl rfl rfl ?_ ?_ ?_ ?_
 .refine⟨.fW tok bR.nil rfl,.fW tok bR.nil rfl,.fW tok bR.nil rfl,?_,?_,.fW tok bR.nil rfl,.fW tok bR.nil rfl,.fW tok bR.nil rfl,?_,?_,aq,aq,aq⟩
  .exact .law (bF.fg (l:=0) tok rfl rfl rfl rfl rfl) rfl
  .exact .law (bF.Sp rfl rfl b) rfl
  .exact .law (bF.fg (l:=0) tok rfl rfl rfl rfl rfl) rfl
  .exact .law (bF.uo rfl rfl aJ rfl a) rfl
 .intro _;refine⟨.fW tok bR.nil rfl,.fW tok bR.nil rfl,.fW tok bR.nil rfl,?_,?_,.fW tok bR.nil rfl,.fW tok bR.nil rfl,.fW tok bR.nil rfl,?_,?_,aq,.fW tok bR.nil rfl,aq⟩
  .exact .law (bF.fg (l:=0) tok rfl rfl rfl rfl rfl) rfl
  .exact .law (bF.Sp rfl rfl b) rfl
  .exact .law (bF.fg (l:=0) tok rfl rfl rfl rfl rfl) rfl
  .exact .law (bF.uo rfl rfl aJ rfl a) rfl
 .exact .zQ (.law (Sn (l:=0) rfl Tryz.underlying252 (by kernel_rfl) rfl rfl rfl) rfl)
 .intro _;refine bA rfl aq (AK.dY [0] rfl ?_ rfl rfl rfl nY);simp
def Tp(h:o.op=.binOp .add t x y ty){b:Int}(e:η x=dI 0)(d:η y=dI b)(a:bt .i64 b):bF ag o η σ (dI b) σ:=by have:=bF.binOp (P:=ag) (σ:=σ) h e d (c:=.int .i64 (0+b)) (obs:=[bt .i64 (0+b)]) rfl (by rw[Int.zero_add];exact a);grind
def dW.OU{f:aM}{fn:Func}{args:List D}{σ':ι->List bm}(d:Tryz.prog.funcs[f]?=aa fn)(a:(fn.name== "runtime.NumGoroutine")=ae)(hb:fn.body=aa c)(b:bC args.length fn.ntmps=ab)(h:AK X fn.ntmps (λe φ σ1=>∃j,cg fn σ.length (res j) (σ' j) e φ σ1) [.code c] .normal (je 0 args) σ):dW X f args σ res σ' :=
 dW.intro d a hb (ez b) (AK.of_code h)
def M9:Ev X 187 [.e (.one (.ptr 0 0))] [bb ab af [] 0] (dS []) [bb ab af [] 0]:=by
 refine Ev.bQ Tryz.func187 rfl λa=>?_;refine aY [(1000001,ab)] rfl aq ?_;refine AK.MW fC 10 (λi=>bC i 9) (λi=>[dp,dp,LY,.e (.one (.v (.slice af 0 0))),.e (.one (.v (.pointer af))),dp,dp,LY,.e (.one (.v (.slice af 0 0))),dI (0:Nat)].getD i .any) (λ(_:Unit) _=>dS [])
  (λ_=>[bb ab af [] 0]) rfl rfl rfl rfl rfl rfl ?_ ?_ ?_ ?_
 .refine⟨.fW tok bR.nil rfl,.fW tok bR.nil rfl,.fW tok bR.nil rfl,?_,?_,.fW tok bR.nil rfl,.fW tok bR.nil rfl,.fW tok bR.nil rfl,?_,?_,aq,aq,aq⟩
  .exact .law (bF.fg (l:=0) tok rfl rfl rfl rfl rfl) rfl
  .exact .law (bF.So rfl rfl) rfl
  .exact .law (bF.fg (l:=0) tok rfl rfl rfl rfl rfl) rfl
  .exact .law (bF.uo rfl rfl aJ rfl (by decide)) rfl
 .intro _;refine⟨.fW tok bR.nil rfl,.fW tok bR.nil rfl,.fW tok bR.nil rfl,?_,?_,.fW tok bR.nil rfl,.fW tok bR.nil rfl,.fW tok bR.nil rfl,?_,?_,aq,.fW tok bR.nil rfl,aq⟩
  .exact .law (bF.fg (l:=0) tok rfl rfl rfl rfl rfl) rfl
  .exact .law (bF.So rfl rfl) rfl
  .exact .law (bF.fg (l:=0) tok rfl rfl rfl rfl rfl) rfl
  .exact .law (bF.uo rfl rfl aJ rfl (by decide)) rfl
 .exact .zQ (.law (bF.Sr rfl rfl rfl) rfl)
 .intro _;refine bA rfl aq (AK.dY [0] rfl ?_ rfl rfl rfl nY);simp
def Na(n:Nat)(b:0<n)(d:n<=140737488355328):dW (ι:={p:Nat×Nat // n<=p.2}) X 212 [.e (.one (.ptr 0 0)),dI n] [bb ab af [] 0] (λ_=>.fK []) (λj=>[bb ab (aa j.1) [] 0]):=by
 refine dW.OU Tryz.func212 rfl rfl rfl ?_;refine aY [(1000000,ab)] rfl aq ?_;have a:bt .i64 (n:Int):=by simp only[bt];omega
 have v0:D:=.e (.one (.v (.slice af 0 0)));refine AK.MW (ι:={p:Nat×Nat // n<=p.2}) fC 8 (λi=>bC i 7||(bC 9 i&&bC i 13)) (λi=>[dp,dp,LY,.e (.one (.v (.slice af 0 0))),dI (0:Nat),dI 0,dI n,dI n,.any,dp,dp,LY,.e (.one (.v (.slice af 0 0))),dI (0:Nat)].getD i .any)
  (λj i=>[.e (.one (.v (oJ (aa j.1) n))),.any,.any,.any,.any,.any,.e (.one (.v (.slice (aa ⟨j.1.1,0,af⟩) 0 j.1.2))),.e (.one (.v (.slice (aa ⟨j.1.1,0,af⟩) 0 j.1.2)))].getD (i-8) .any)
  (λj=>[bB ab (.slice af 0 0) (aa j.1) [] 0]) rfl rfl rfl rfl rfl rfl ?_ ?_ ?_ ?_
 .refine⟨.fW tok bR.nil rfl,.fW tok bR.nil rfl,.fW tok bR.nil rfl,?_,?_,?_,.fW tok bR.nil rfl,?_,aq,.fW tok bR.nil rfl,.fW tok bR.nil rfl,.fW tok bR.nil rfl,?_,?_,aq,aq,aq⟩
  .exact .law (bF.fg (l:=0) tok rfl rfl rfl rfl rfl) rfl
  .exact .law (bF.Md rfl rfl aJ rfl (by decide)) rfl
  .exact .law (JH 0 rfl rfl rfl (by simp[bt]) (λw=>rfl) (λw=>rfl)) rfl
  .exact .law (Tp rfl rfl rfl a) rfl
  .exact .law (bF.fg (l:=0) tok rfl rfl rfl rfl rfl) rfl
  .exact .law (bF.uo rfl rfl aJ rfl (by decide)) rfl
 .intro j;have c:j.1.2≠0:=by grind
  refine⟨.fW tok bR.nil rfl,.fW tok bR.nil rfl,.fW tok bR.nil rfl,?_,?_,?_,.fW tok bR.nil rfl,?_,aq,.fW tok bR.nil rfl,.fW tok bR.nil rfl,.fW tok bR.nil rfl,?_,?_,?_,.fW tok bR.nil rfl,aq⟩
  .exact .law (bF.fg (l:=0) tok rfl rfl rfl rfl rfl) rfl
  .exact .law (bF.Md rfl rfl aJ rfl (by decide)) rfl
  .exact .law (JH 0 rfl rfl rfl (by simp[bt]) (λw=>rfl) (λw=>rfl)) rfl
  .exact .law (Tp rfl rfl rfl a) rfl
  .exact .law (bF.fg (l:=0) tok rfl rfl rfl rfl rfl) rfl
  .exact .law (bF.uo rfl rfl aJ rfl (by decide)) rfl
  .exact .law (bF.Sq (k:=0) rfl aJ (fi Tryz.type5) rfl rfl (j9 _) j.2 c (de _ _ _)) rfl
 .exact .mN rfl (Sm (l:=0) (ps:=#[3]) aJ Tryz.func223 (by kernel_rfl) (by kernel_rfl) (by kernel_rfl) (by kernel_rfl) rfl rfl rfl b d rfl)
 .intro j;refine bA rfl aq ?_;refine AK.law (bF.fg (l:=0) tok rfl rfl rfl rfl rfl) rfl rfl ?_;refine AK.law (bF.copyV rfl aJ (fi Tryz.type5) rfl rfl) rfl rfl ?_;refine bA rfl aq ?_;refine AK.law (bF.zk (l:=0) tok rfl rfl rfl rfl rfl rfl rfl) rfl rfl ?_;refine bA rfl aq ?_;exact⟨j,cg.sW [0] rfl aq rfl rfl rfl nY⟩
def F0(n:Nat)(a:0<n)(b:n<=140737488355328):dW (ι:={p:Nat×Nat // n<=p.2}) X 185 [.e (.one (.ptr 0 0)),dI n] [bb ae af [] 0] (λ_=>.fK []) (λj=>[bb ab (aa j.1) [] 0]):=by
 refine dW.OU Tryz.func185 rfl rfl rfl ?_;refine bA rfl aq ?_;refine AK.cQ (BM (oJ af 0) rfl af [] 0) [0] rfl ?_;refine aY [(7,ae),(1000003,ab)] rfl ?_ ?_
 .simp
 refine AK.MW fC 4 (λi=>bC i 3||(bC 5 i&&bC i 9)||az i 11) (λi=>[dp,dp,LY,.e (.one (.v (.slice af 0 0))),.any,dp,dp,LY,.e (.one (.v (.slice af 0 0))),dI (0:Nat),.any,dI n].getD i .any)
  (λ(_:Unit) i=>[dI (0:Nat),.any,.any,.any,.any,.any,dI (0-0),.any,dB ab].getD (i-4) .any)
  (λ_=>[bb ab af [] 0]) rfl rfl rfl rfl rfl rfl ?_ ?_ ?_ ?_
 .refine⟨.fW tok bR.nil rfl,.fW tok bR.nil rfl,.fW tok bR.nil rfl,?_,aq,.fW tok bR.nil rfl,.fW tok bR.nil rfl,.fW tok bR.nil rfl,?_,?_,aq,.fW tok bR.nil rfl,aq,aq⟩
  .exact .law (bF.fg (l:=0) tok rfl rfl rfl rfl rfl) rfl
  .exact .law (bF.fg (l:=0) tok rfl rfl rfl rfl rfl) rfl
  .exact .law (bF.uo rfl rfl aJ rfl (by decide)) rfl
 .intro _;refine⟨.fW tok bR.nil rfl,.fW tok bR.nil rfl,.fW tok bR.nil rfl,?_,aq,.fW tok bR.nil rfl,.fW tok bR.nil rfl,.fW tok bR.nil rfl,?_,?_,?_,.fW tok bR.nil rfl,?_,aq⟩
  .exact .law (bF.fg (l:=0) tok rfl rfl rfl rfl rfl) rfl
  .exact .law (bF.fg (l:=0) tok rfl rfl rfl rfl rfl) rfl
  .exact .law (bF.uo rfl rfl aJ rfl (by decide)) rfl
  .exact .eval (ds:=[]) tok bR.nil (obs:=[bt .i64 (((0:Nat):Int)-((0:Nat):Int))]) rfl (by simp[bt])
  .exact .eval (ds:=[(21,ab)]) tok bR.nil (obs:=[decide ((0:Int)-0<(n:Int))=ab]) rfl (by simp;omega)
 .exact .zQ (.law (bF.Md rfl rfl aJ rfl (by decide)) rfl)
 .intro _;refine bA rfl aq ?_;refine AK.cP (Na n a b) [0] rfl (λ_=>rfl) λj=>?_;refine bA rfl aq ?_;exact⟨j,cg.sW [0] rfl aq rfl rfl rfl nY⟩
def JI:Ev X 185 [.e (.one (.ptr 0 0)),dI (0:Nat)] [bb ae af [] 0] (.fK []) [bb ab af [] 0]:=by
 refine Ev.bQ Tryz.func185 rfl λa=>?_;refine bA rfl aq ?_;refine AK.cQ (BM (oJ af 0) rfl af [] 0) [0] rfl ?_;refine aY [(7,ae),(1000003,ab)] rfl ?_ ?_
 .simp
 refine AK.MW fC 4 (λi=>bC i 3||(bC 5 i&&bC i 9)||az i 11) (λi=>[dp,dp,LY,.e (.one (.v (.slice af 0 0))),.any,dp,dp,LY,.e (.one (.v (.slice af 0 0))),dI (0:Nat),.any,dI (0:Nat)].getD i .any)
  (λ(_:Unit) i=>[dI (0:Nat),.any,.any,.any,.any,.any,dI (0-0),.any,dB ae].getD (i-4) .any)
  (λ_=>[bb ab af [] 0]) rfl rfl rfl rfl rfl rfl ?_ ?_ ?_ ?_
 .refine⟨.fW tok bR.nil rfl,.fW tok bR.nil rfl,.fW tok bR.nil rfl,?_,aq,.fW tok bR.nil rfl,.fW tok bR.nil rfl,.fW tok bR.nil rfl,?_,?_,aq,.fW tok bR.nil rfl,aq,aq⟩
  .exact .law (bF.fg (l:=0) tok rfl rfl rfl rfl rfl) rfl
  .exact .law (bF.fg (l:=0) tok rfl rfl rfl rfl rfl) rfl
  .exact .law (bF.uo rfl rfl aJ rfl (by decide)) rfl
 .intro _;refine⟨.fW tok bR.nil rfl,.fW tok bR.nil rfl,.fW tok bR.nil rfl,?_,aq,.fW tok bR.nil rfl,.fW tok bR.nil rfl,.fW tok bR.nil rfl,?_,?_,?_,.fW tok bR.nil rfl,?_,aq⟩
  .exact .law (bF.fg (l:=0) tok rfl rfl rfl rfl rfl) rfl
  .exact .law (bF.fg (l:=0) tok rfl rfl rfl rfl rfl) rfl
  .exact .law (bF.uo rfl rfl aJ rfl (by decide)) rfl
  .exact .eval (ds:=[]) tok bR.nil (obs:=[bt .i64 (((0:Nat):Int)-((0:Nat):Int))]) rfl (by simp[bt])
  .exact .eval (ds:=[(21,ae)]) tok bR.nil (obs:=[decide ((0:Int)-0<((0:Nat):Int))=ae]) rfl (by simp)
 .exact .zQ (.law (bF.Md rfl rfl aJ rfl (by decide)) rfl)
 .intro _;refine bA rfl aq ?_;exact cg.sW [0] rfl aq rfl rfl rfl nY
def JJ(h:o.op=.alloc 224):bF ag o η σ (.e (.one (.ptr σ.length 0))) (σ++[bb ae af [] 0]) :=
 bF.Pr h (λw=>by simp[zeroValue,typeInfo,fi Tryz.type224,Tryz.t224]) (λw es=>by simp)
def JK{z:aE}{a b c:Int}(m:Int)(h:o.op=.call {callee:=.builtin .min,args:=#[x,y,z],argTypes:=jN})(r:η x=dI a)(p:η y=dI b)(q:η z=dI c)(v:min (min a b) c=m)(t:bt .i64 m):bF ag o η σ (dI m) σ:=by
 refine .quiet λs n u d=>?_;have l:=d x;have i:=d y;have g:=d z;rw[r]at l;rw[p]at i;rw[q]at g;replace l:=fM l;replace i:=fM i;replace g:=fM g;generalize j:n x=vx at l;generalize k:n y=vy at i;generalize f:n z=vz at g;cases l;cases i;cases g;have e:(if c<(if b<a then b else a)then c else if b<a then b else a)=m:=by grind
 exact⟨.int .i64 m,by simp[an,h,resolve,invoke,builtin,j,k,f,Builtin.min_,Builtin.min2,e],.int t,by simp[an,h,resolve,invoke,builtin,j,k,f,Builtin.min_,Builtin.min2]⟩
def JL(n:Nat)(q:2<=n)(o:n<=3):Ev X 201 [dS [46],dI n] [] (dS (List.replicate n 46)) []:=by
 refine Ev.bQ Tryz.func201 rfl λp=>?_;have a:bR X [(220,Qy)]:=.cons t220 .nil;refine aZ a [(13,ae),(15,ae),(18,ae),(30,ae),(33,ae),(40,ae),(44,ae),(45,ae),(46,ae),(47,ae),(48,ae),(96,ae),(1000035,ab)] rfl ?_ ?_
 .have h:(n:Int)=2∨(n:Int)=3:=by omega
  have e:(iH [46] 0).toNat=46:=rfl;simp[bt,e,h];omega
 refine AK.region ?_;refine AK.law (JJ rfl) rfl rfl ?_;refine cu a rfl aq ?_;refine AK.cP (F0 n (by omega) (by omega)) [0] rfl (λ_=>rfl) λj=>?_;obtain⟨⟨g,cap⟩,b⟩:=j;have b:n<=cap:=b;refine cu a rfl aq ?_;refine AK.cQ (D5 g cap [] [46] 0 (by simp) (by simp;omega)) [0] rfl ?_;refine cu a rfl aq ?_;refine AK.jf (λk=>1<=k/\k<=n) (λk:Nat=>[(0,dS [46]),(7,dI n),(8,dI n),(9,.e (.one (.ptr 0 0)))]) (λk=>[bb ab (aa (g,cap)) (List.replicate k 46) (k-1)]) (λk=>n-k) 1 rfl ?_ rfl ?_ ⟨by omega,by omega⟩ ?_
 .simp
 .exact ar.cat.2 ⟨rfl,aq⟩
 rintro k ⟨c,i⟩;refine cu a rfl aq ?_;refine AK.cQ (Ac ab (aa (g,cap)) (List.replicate k 46) (k-1) (by simp;omega) (by simp)) [0] rfl ?_;by_cases l:k<n
 .refine aZ a [(113,ab)] rfl ?_ ?_
  .simp;omega
  refine AK.cQ (Ac ab (aa (g,cap)) (List.replicate k 46) (k-1) (by simp;omega) (by simp)) [0] rfl ?_;refine cu a rfl ?_ ?_
  .simp[bt];omega
  refine AK.cQ (Ac ab (aa (g,cap)) (List.replicate k 46) (k-1) (by simp;omega) (by simp)) [0] rfl ?_;refine cu a rfl aq ?_;refine AK.law (JK 1 rfl rfl rfl rfl (by simp;omega) (by simp[bt])) rfl rfl ?_;refine cu a rfl aq ?_;refine AK.cQ (D6 g cap (List.replicate k 46) (k-1) (by simp;omega) (by omega)) [0] rfl ?_;have d:rR (List.replicate k (46:UInt8)) af (aa 1)=[46]:=by
   obtain⟨m,rfl⟩:∃m,k=m+1:=⟨k-1,by omega⟩
   simp[rR,List.replicate_succ]
  refine cu a rfl ?_ ?_
  .simp;omega
  rw[d];refine AK.cQ (D5 g cap (List.replicate k 46) [46] (List.replicate k 46).length (by simp) (by simp;omega)) [0] rfl ?_;have f:List.replicate k (46:UInt8)++[46]=List.replicate (k+1) 46:=by rw[List.replicate_succ']
  rw[f];refine cu a rfl aq (AK.fH (k+1) rfl ?_ rfl ?_ ⟨by omega,by omega⟩ (by omega))
  .simp
  .refine ar.cat.2 ⟨?_,aq⟩;simp
 .refine aZ a [(113,ae)] rfl ?_ (AK.leave rfl rfl ?_)
  .simp;omega
  have e:k=n:=by omega
  subst e;refine cu a rfl aq ?_;refine AK.cQ (D6 g cap (List.replicate k 46) (k-1) (by simp;omega) (by omega)) [0] rfl ?_;exact cu a rfl aq (AK.bq rfl)
def WB:dH X 201 G6:=Tq (JL 2 (by omega) (by omega)) (JL 3 (by omega) (by omega))
def Tr:dH X 158 o0:=Ts WB
def Room(bf:Option (Nat×Nat))(n:Nat):Prop:=match bf with|none=>n=0|some (_,cap)=>n<=cap/\0<cap
def _root_.Go.AM.dW.re{b:Type}{X:Cx P}{f:aM}{args:List D}{σ':ι->List bm}{a:b->D}{σ2:b->List bm}(h:dW X f args σ res σ')(g:ι->b)(d:∀i,a (g i)=res i)(c:∀i,σ2 (g i)=σ' i):dW X f args σ a σ2 :=
 ⟨h.1,λs vs h1 h2 S cs hS=>h.2 s vs h1 h2 S cs λi fr v s' k1 k2 k3 k4=>hS (g i) fr v s' k1 (by grind) (by grind) (by grind)⟩
def JM(n:Nat)(a:n<=140737488355328):dW (ι:={bf:Option (Nat×Nat) // Room bf n}) X 185 [.e (.one (.ptr 0 0)),dI n] [bb ae af [] 0] (λ_=>.fK []) (λj=>[bb ab j.1 [] 0]):=by
 by_cases h:n=0
 .subst h;exact JI.Dx.re (λ_=>⟨af,rfl⟩) (λ_=>rfl) (λ_=>rfl)
 .exact(F0 n (by omega) a).re (λp=>⟨aa p.1,p.2,by grind⟩) (λ_=>rfl) (λ_=>rfl)
def D8(bf:Option (Nat×Nat))(xs s:Bs)(a:s.length<=9223372036854775807)(h:Room bf (xs.length+s.length)):Ev X 186 [.e (.one (.ptr 0 0)),dS s] [bb ab bf xs 0] (.fK [.one (.c (.int .i64 s.length)),.one (.c .oN)]) [bb ab bf (xs++s) 0]:=by
 cases bf with
 |none =>
  have h:xs.length+s.length=0:=h;grind[Qx]
 |some p=>exact D5 p.1 p.2 xs s 0 a h.1
def shown(bf:Option (Nat×Nat))(xs:Bs):Nat:=match bf with|none=>0|some _=>xs.length
def Nb(bf:Option (Nat×Nat))(xs:Bs)(a:xs.length<=9223372036854775807)(h:Room bf xs.length):Ev X 187 [.e (.one (.ptr 0 0))] [bb ab bf xs 0] (dS xs) [bb ab bf xs (shown bf xs)]:=by
 cases bf with
 |none =>
  have h:xs.length=0:=h;have b:xs=[]:=iV h;subst b;exact M9
 |some p=>exact D6 p.1 p.2 xs 0 a (by have:=h.2;omega)
def F1(l:List Bs)(i:Nat):Bs:=(l.take i).flatten
def JN{l:List Bs}(h:i<l.length):F1 l (i+1)=F1 l i++l.getD i []:=by unfold F1;grind[List.take_add_one]
def Tt{l:List Bs}:F1 l l.length=l.flatten:=by simp[F1]
def JO{l:List Bs}(i:Nat):(F1 l i).length<=l.flatten.length:=by
 have e:l.flatten=(l.take i).flatten++(l.drop i).flatten:=by grind[List.take_append_drop]
 rw[e,bT];simp only[F1];omega
def Nc(l:List Bs)(s:l.flatten.length<=140737488355328):Ev X 135 [cS.sl l,dS []] [] (dS l.flatten) []:=by
 refine Ev.bQ Tryz.func135 rfl λo=>?_;have k:=o.sl 0 rfl;by_cases g:l=[]
 .subst g;refine aY [(14,ab)] rfl ?_ (AK.bq rfl)
  .simp
 by_cases t:l.length=1
 .obtain⟨x,rfl⟩:=List.length_eq_one_iff.1 t;refine aY [(14,ae),(16,ab)] rfl ?_ (AK.bq rfl ?_)
  .simp
  .simp[cS,iT.fn]
 have v:2<=l.length:=by
  have:l.length≠0:=by grind
  omega
 refine aY [(14,ae),(16,ae),(22,ae)] rfl ?_ ?_
 .simp[g];omega
 refine AK.jf (λi=>i<=l.length) (λi:Nat=>[(0,cS.sl l),(1,dS []),(5,dI (F1 l i).length),(39,cS.sl l),(40,dI l.length),(41,dI i)]) (λ_=>[]) (λi=>l.length-i) 0 rfl ?_ rfl aq (by omega) ?_
 .simp[F1]
 .intro i hi;have u:=JO (l:=l) i;by_cases h:i<l.length
  .have b:=JO (l:=l) (i+1);rw[JN h,bT]at b;refine aY [(42,ab),(49,ae)] rfl ?_ (AK.fH (i+1) rfl ?_ rfl aq (by omega) (by omega))
   .have e:(l.getD (i:Int).toNat cS.b8)=l.getD i []:=rfl;simp only[ar,bt,e];grind
   .have e:(l.getD (i:Int).toNat cS.b8)=l.getD i []:=rfl;rw[JN h];rw[e];simp
  .have e:i=l.length:=by omega
   subst e;refine aY [(42,ae),(1000018,ab)] rfl ?_ (AK.leave rfl rfl ?_)
   .simp
   refine aY [(1000018,ab)] rfl aq ?_;refine AK.region ?_;refine AK.law (JJ rfl) rfl rfl ?_;refine c6 rfl aq ?_;rw[Tt];refine AK.cP (JM l.flatten.length s) [0] rfl (λ_=>rfl) λj=>?_;obtain⟨bf,f⟩:=j;refine c6 rfl ?_ ?_
   .exact⟨by omega,show(0:Int)<(l.length:Int) by omega⟩
   have room:∀n,n<=l.flatten.length->Room bf n:=λn r=>by
    cases bf with
    |none =>
     have:l.flatten.length=0:=f;grind
    |some p=>exact⟨fG r f.1,f.2⟩
   have m:F1 l 1=l.getD 0 []:=by rw[JN (by omega)];simp[F1]
   have d:=JO (l:=l) 1;rw[m]at d;refine AK.cQ (D8 bf [] (l.getD 0 []) (by omega) (room _ (by grind))) [0] rfl ?_;refine c6 rfl ?_ ?_
   .exact⟨by omega,show(1:Int)<=(l.length:Int) by omega⟩
   refine AK.jf (λi=>i+1<=l.length) (λi:Nat=>[(1,dS []),(8,.e (.one (.ptr 0 0))),(63,.e (.one (.c (.sl ae 1 (l.length-1) (k9 1 (cS.fn l)))))),(64,dI (l.length-1:Nat)),(65,dI i)]) (λi=>[bb ab bf (F1 l (i+1)) 0]) (λi=>l.length-i) 0 rfl ?_ rfl ?_ (by omega) ?_
   .simp[cr]
   .refine ar.cat.2 ⟨?_,aq⟩;rw[bz,m];exact rfl
   intro i hi;have q:=JO (l:=l) (i+1);by_cases h:i+1<l.length
   .have a:=JO (l:=l) (i+2);rw[JN h,bT]at a;refine aY [(66,ab)] rfl ?_ ?_
    .exact⟨by omega,by omega,dc (by omega)⟩
    refine AK.cQ (D8 bf (F1 l (i+1)) [] (by simp) (room _ (by grind))) [0] rfl ?_;rw[lr];refine bA rfl aq ?_;refine AK.cQ (D8 bf (F1 l (i+1)) (l.getD (1+i) []) (by grind) (room _ (by grind))) [0] rfl ?_;refine bA rfl ?_ (AK.fH (i+1) rfl ?_ rfl ?_ (by omega) (by omega))
    .simp only[ar,bt];omega
    .simp
    .refine ar.cat.2 ⟨?_,aq⟩;rw[JN h,Nat.add_comm 1 i];exact rfl
   .have e:i+1=l.length:=by omega
    refine aY [(66,ae)] rfl ?_ (AK.leave rfl rfl ?_)
    .exact gH (by omega)
    rw[e,Tt];refine bA rfl aq ?_;refine AK.cQ (Nb bf l.flatten (by omega) (room _ (by omega))) [0] rfl ?_;exact bA rfl aq (AK.bq rfl)
def Ha{s:Bs}(h:b9 s=ab)(i:Nat)(hi:i<s.length):97<=cz s i/\cz s i<=122:=by have a:=List.all_eq_true.1 h (s.getD i 0) (by grind);simp only[eJ,bJ,bh]at a;unfold cz;omega
def BX(s:Bs)(i:Nat)(a:b9 s=ab)(e:3<=i)(hi:i<=s.length)(k:s.length<=4000000):Ev X 224 [dS s,dI i] [] (dB (jk s i)) []:=by
 refine Ev.bQ Tryz.func224 rfl λg=>?_;have h:=Ha a (i-1) (by omega);have f:=Ha a (i-2) (by omega);have j:=Ha a (i-3) (by omega);have c:((iH s ((i:Int)-1)).toNat:Int)=cz s (i-1):=by grind[cC]
 have d:((iH s ((i:Int)-2)).toNat:Int)=cz s (i-2):=by grind[cC]
 have b:((iH s ((i:Int)-3)).toNat:Int)=cz s (i-3):=by grind[cC]
 refine bA rfl ?_ (AK.bq rfl ?_)
 .simp only[ar,bt,c,d,b];omega
 .simp only[ar,ar.cat,c,d,b,jk,dl,aB];grind
def Hb:dH X 224 (nt aS aI (λs i=>dB (jk s i.toNat)) λs i=>[b9 s=ab,3<=i,i<=s.length,s.length<=4000000]):=.qn λs i h=>by
 obtain⟨b,c,d,a⟩:=h;obtain⟨m,rfl⟩:∃m:Nat,i=m:=⟨i.toNat,by omega⟩
 exact BX s m b (by omega) (by omega) a
def Ag{a b:Int}(m:Int)(h:o.op=.call {callee:=.builtin .min,args:=#[x,y],argTypes:=jN})(l:η x=dI a)(k:η y=dI b)(q:min a b=m)(n:bt .i64 m):bF ag o η σ (dI m) σ:=by
 refine .quiet λs j p c=>?_;have i:=c x;have d:=c y;rw[l]at i;rw[k]at d;replace i:=fM i;replace d:=fM d;generalize f:j x=vx at i;generalize g:j y=vy at d;cases i;cases d;have e:(if b<a then b else a)=m:=by grind
 exact⟨.int .i64 m,by simp[an,h,resolve,invoke,builtin,f,g,Builtin.min_,Builtin.min2,e],.int n,by simp[an,h,resolve,invoke,builtin,f,g,Builtin.min_,Builtin.min2]⟩
theorem J1{t:Bs}{f:Nat}(h:t.length<=f+3+j)(c:j<=5):tb t f (5-j)=min (f+8) t.length:=by
 rcases cM j 5 with b|b
 .obtain⟨k,a⟩:∃k,5-j=k+1:=⟨4-j,by omega⟩
  rw[a];simp only[tb];grind
 .rw[show 5-j=0 by omega];rfl
def Hc(t:Bs)(f:Nat)(l:b9 t=ab)(o:f<=t.length)(r:t.length<=4000000):Ev X 214 [dS t,dI f] [] (dI (cutAt t f)) []:=by
 refine Ev.bQ Tryz.func214 rfl λp=>?_;have a:bR X [(224,nt aS aI (λs i=>dB (jk s i.toNat)) λs i=>[b9 s=ab,3<=i,i<=s.length,s.length<=4000000])]:=.cons Hb .nil;refine bX a rfl ?_ ?_
 .simp[bt];omega
 refine AK.jf (λj=>j<=5/\tb t f (5-j)=cutAt t f) (λj:Nat=>[(0,dS t),(1,dI f),(5,dI (f+3+j))]) (λ_=>[]) (λj=>5-j) 0 rfl ?_ rfl aq ⟨by omega,rfl⟩ ?_
 .simp
 rintro j ⟨q,b⟩;by_cases h:j<5/\f+3+j<t.length
 .obtain⟨k,n⟩:∃k,5-j=k+1:=⟨4-j,by omega⟩
  have g:f+(7-k)=f+3+j:=by omega
  rw[n]at b;simp only[tb,g]at b;rw[aW (by omega)]at b;have e:((f:Int)+3+j).toNat=f+3+j:=by omega
  cases c:jk t (f+3+j)with
  |true =>
   rw[c,bc rfl]at b;refine aO a [(11,ab),(16,ab),(22,ab)] rfl ?_ (AK.gO (cg.zero rfl ?_))
   .simp only[ar,bt,e,c,l,bh,eq_self,aC,aB];omega
   .simp[<-b]
  |false =>
   rw[c,aW (by simp)]at b;refine aO a [(11,ab),(16,ab),(22,ae)] rfl ?_ (AK.fH (j+1) rfl ?_ rfl aq ⟨by omega,by grind⟩ (by omega))
   .simp only[ar,bt,e,c,l,bh,eq_self,aC,aB];omega
   .simp;omega
 .have e:cutAt t f=min (f+8) t.length:=by
   rw[<-b];rcases cM j 5 with d|d
   .grind [J1]
   .rw[show 5-j=0 by omega];rfl
  have m:bt .i64 ((min (f+8) t.length:Nat):Int):=by simp only[bt];omega
  rcases cM j 5 with d|d
  .refine aO a [(11,ab),(16,ae)] rfl ?_ (AK.leave rfl rfl ?_)
   .simp only[ar,bt,bh,bM];omega
   refine bX a rfl ?_ ?_
   .simp only[ar,bt];omega
   refine AK.law (Ag ((min (f+8) t.length:Nat):Int) rfl rfl rfl (by omega) m) rfl rfl ?_;refine bX a rfl aq (AK.bq rfl ?_);simp[e]
  .refine aO a [(11,ae)] rfl ?_ (AK.leave rfl rfl ?_)
   .simp only[ar,bt,bh,bM];omega
   refine bX a rfl ?_ ?_
   .simp only[ar,bt];omega
   refine AK.law (Ag ((min (f+8) t.length:Nat):Int) rfl rfl rfl (by omega) m) rfl rfl ?_;refine bX a rfl aq (AK.bq rfl ?_);simp[e]
def QI:dH X 214 (nt aS aI (λs i=>dI (cutAt s i.toNat)) λs i=>[b9 s=ab,0<=i,i<=s.length,s.length<=4000000]):=.qn λs i h=>by
 obtain⟨b,c,d,a⟩:=h;obtain⟨m,rfl⟩:∃m:Nat,i=m:=⟨i.toNat,by omega⟩
 exact Hc s m b (by omega) a
abbrev OX(t:Bs):C:=.fn (.func 213) [] [.rp [.str t]]
theorem Nk(t:Bs):Ev X 189 [dS t] [] (.e (.one (.c (OX t)))) []:=by refine Ev.bQ Tryz.func189 rfl λa=>?_;refine BU [] 5 rfl aq ?_;refine AK.freeze 1 0 rfl rfl rfl ?_;exact bA rfl aq (AK.bq rfl)
def Hd{T:Type}(text:Bs)(r:b9 text=ab)(v:text.length<=4000000){k:Nat}{a:Fr}{l:Loop}(g B1 B2:T->bm)(R:Nat->T->Prop)(j:T)(q:R 0 j)(n:∀t,g t≠.rG/\B1 t≠.rG/\B2 t≠.rG)(b:∀f t,f<text.length->R f t->Yields (ι:={d:T // R (cutAt text f) d}) X 3 [dI f,dI (cutAt text f)] [g t,B1 t,B2 t,.loop k a l] ab (λd=>[g d.1,B1 d.1,B2 d.1,.loop k a l])):
  dW (ι:={t:T // R text.length t}) X 213 [.e (.one (.ref 3)),.e (.one (.c (.rp [.str text])))] [g j,B1 j,B2 j,.loop k a l] (λ_=>.fK []) (λi=>[g i.1,B1 i.1,B2 i.1,.loop k a l]):=by
 refine dW.DT Tryz.func213 rfl rfl rfl (AK.of_code ?_);have m:bR X [(214,nt aS aI (λs i=>dI (cutAt s i.toNat)) λs i=>[b9 s=ab,0<=i,i<=s.length,s.length<=4000000])]:=.cons QI .nil;refine bX m rfl aq ?_;show AW X _ (.loop _) _ _ _;refine AW.loop (S:=T×Nat) (λx=>x.2<=text.length/\R x.2 x.1) (λx=>[(0,.e (.one (.ref 3))),(1,.e (.one (.c (.rp [.str text])))),(3,dI x.2)]) (λx=>[g x.1,B1 x.1,B2 x.1,.loop k a l]) (λx=>text.length-x.2) (j,0) ⟨j9 _,q⟩ (dw rfl (by simp)) rfl ?_;rintro⟨t,f⟩ ⟨u,p⟩;simp only at u p;refine AK.of_code ?_;by_cases h:f<text.length
 .have o:=m8 text f h;refine aO m [(8,ab)] rfl ?_ ?_
  .simp only[ar,r,bh,eq_self,aC,aB];omega
  refine AK.yield (b f t h p) rfl rfl rfl rfl rfl rfl λd=>?_;refine aO m [(16,ae)] rfl ?_ ?_
  .simp
  refine⟨(d.1,cutAt text f),⟨o.2.1,d.2⟩,?_,dw rfl (by simp),rfl⟩;grind
 .have e:f=text.length:=by omega
  subst e;refine aO m [(8,ae)] rfl ?_ ?_
  .simp
  refine AK.Qb rfl rfl ?_;exact⟨⟨t,p⟩,.inr rfl,rfl,qQ (n t).1 (qQ (n t).2.1 (qQ (n t).2.2 rfl)),[],.fK [],[],rfl,rfl,rfl,aq⟩
end
section
open Go.Proofs Go.Conc Go.Conc.Lib Go.ConcR.Gen
open Go.ConcN (WgLive PayAt Has RW AtR0)
open Go.ConcN.Gen
open Go.ConcR (KK WgAt stA smA rd wr mk Payload DC0)
def J6:J3=#[{dst:=af,op:=.defer {callee:=.value (.func 132),args:=#[.tmp 0],argTypes:=#[175]},type:=0,pos:= "l12_snap.go:81",after:=#[],guard:=af}]:=by kernel_rfl
def bW(a:aj):aU:={baseD 131 with defers:=[dcall 132 #[a]]}
abbrev tW(v0 v1 v2 v3 v4 v5:aj):Array aj:=#[v0,v1,v2,v3,v4,v5,ai,ai,ai,ai,ai,ai,ai]
def QK(v0 v1 v2 v3 v4 v5:aj)(w:aA):Goes ag ae (λ_ _=>True) DC0 (λg _=>g=G ((bW v0).aT ⟨tW v0 v1 v2 v3 v4 v5,[]⟩ [.code (.region 1 J4 ab)]) [uw]) 8 (born ag (wH #[v0,v1,v2,v3,v4,v5])) w:=by
  have b:True:=aq;have a:True->True->True:=λ_ _=>trivial;refine Goes.step rfl (λw1 h1=>?_);rw[Hh];simp only[goes_go];refine⟨⟨rfl,rfl⟩,?_⟩;clear h1;rw[J6]
  u_c ay a b
  u_reg a b
  u_defer a b
  u_c aw a b
  exact Goes.stop λ_ _=>rfl
def WJ(T:Array aj):QuitsD ag 2 0 (G {(baseD 131).at ⟨T,[]⟩ []with mode:=.returning} [uw]):=by
  have a:Tryz.f131.results=#[]:=by kernel_rfl
  refine QuitsD.ctl (g':=G uw []) rfl (λw=>?_) ?_
  · simp[G,aH,unwind,doReturn,results,Frame.at,baseD,uw,Tryz.func131,a,seen,GStep.after,goexitEntry]
  refine QuitsD.ctl (g':={G uw []with status:=.finished}) rfl (λw=>?_) ⟨rfl,rfl⟩;simp[G,aH,unwind,uw,goexitEntry,Frame.catches];rfl
section
variable {Y:Lay}
def tailW(x:Nat)(d:Y.kc=2)(T:Array aj)(w:aA)(a:WgLive 175 Y.Wg w/\Has Y.C (Y.kc*x+1-1) (val x 0) w):
    ∃m,Goes ag ae (RW 175 Y.Wg Y.C (2*n) 0 (Y.kc*x+1-1)) DC0 (AtR0 ag 175 Y.Wg Y.C (2*n) 0 (Y.kc*x+1) (val x 0)) m (G ((bW (.pointer (aa ⟨Y.Wg,0,af⟩))).aT ⟨T,[]⟩ [.inRegion uv.toArray []]) [uw]) w:=by
  refine⟨26,?_⟩;have e:(bW (.pointer (aa ⟨Y.Wg,0,af⟩))).aT ⟨T,[]⟩ [.inRegion uv.toArray []]=(baseD 131).at ⟨T,[dcall 132 #[.pointer (aa ⟨Y.Wg,0,af⟩)]]⟩ [.inRegion uv.toArray []]:=rfl;rw[e]
  u_c aw kn_rely a
  u_c stepG_end kn_rely a
  u_in kn_rely a
  rw[stepG_unwind_enter (c:=body_done OZ) rfl B4.f_done (by kernel_rfl) (by kernel_rfl)];simp only[goes_go];refine⟨by u_nil,?_⟩;have b:=TC (P:=ag) (L:=OZ) (Wg:=Y.Wg) (C:=Y.C) (n:=2*n) (Low:=0) (x:=Y.kc*x+1) (val:=val x 0) (c:={(baseD 131).at ⟨T,[]⟩ []with mode:=.returning}) (cs:=[uw]) B4 rfl (WJ T) _ a;exact b
def rd_str{l:Bs}(h:Rd M v (.str l)):v=.string ⟨l.toArray⟩:=by
  cases h with
  | str h1 h2=>rw[<-h1]
def rd_bool{b:Bool}(h:Rd M v (.bool b)):v=.bool b:=by cases h;rfl
def R6:aD:=oW af (.store 177 (.tmp 12) (.tmp 11)) 0 #[⟨6,.data⟩,⟨5,.data⟩,⟨5,.chain⟩,⟨0,.phase⟩,⟨1,.phase⟩,⟨2,.phase⟩,⟨3,.phase⟩,⟨4,.phase⟩,⟨5,.phase⟩]
def TD{x:Nat}(hx:x<n)(D:Y.kc=2){k:Int}{ps:List bo}{I:Int}(F:val x 0=.string ⟨((di k ps I).getD []).toArray⟩)(A:val x 1=.bool (di k ps I).isSome){T:Array aj}(g:dk [] s (T.getD 12 ai) (xW k ps I n x Y.C 6))(l:dk [] s (T.getD 11 ai) (U3 (di k ps I))):
    I3 ag 175 Y (2*n) val x (G ((bW (.pointer (aa ⟨Y.Wg,0,af⟩))).aT ⟨T,[]⟩ [.inRegion uv.toArray [7]]) [uw]) s:=by
  have g:T.getD 12 ai=.pointer (aa ⟨Y.C,x*2,af⟩):=Rd.fN g;have l:T.getD 11 ai=.agg #[val x 0,val x 1]:=by
    obtain⟨vs,U,d⟩:=l
    match vs,d with
    | [],d=>exact d.elim
    | [_],d=>exact d.2.elim
    | _::_::_::_,d=>exact d.2.2.elim
    | [u0,u1],d =>
      rw[U,rd_str d.1,rd_bool d.2.1,F,A]
  refine⟨rfl,λw1 hr Ja J7=>?_⟩;obtain⟨cs,c,V⟩:=Ja;have L:Y.kc*x=x*2:=by grind
  have z:∀v∈[val x 0,val x 1],v.oneCell'=ab:=by
    intro v M;simp only[eY,pz,or_false]at M;rcases M with rfl|rfl
    · rw[F];rfl
    · rw[A];rfl
  have q:x*2+0+[val x 0,val x 1].length<=cs.size:=by grind
  have p:=run_storeCells_at ag Y.C (x*2) 177 [val x 0,val x 1] 0 cs w1 c q z;simp only[fS,en,hO,bz]at p;generalize r:(cs.toList.take (x*2)++[val x 0,val x 1]++cs.toList.drop (x*2+2)).toArray=new at p;have Z:new.size=cs.size:=by grind
  have y:=setRow_heap w1 Y.C cs new 177 (0,0) c;have u:∀o,(w1.setRow Y.C new).cell? ⟨Y.C,o,af⟩=new[o]?:=λo=>cell_setRow_same w1 Y.C o cs new 177 (0,0) c;have J:∀o,w1.cell? ⟨Y.C,o,af⟩=cs[o]?:=λo=>by simp[aR,c]
  have X:∀i,i<2->new[x*2+i]?=aa (val x i):=by
    intro i hi;rw[<-r];have K:(cs.toList.take (x*2)).length=x*2:=by grind
    rw[jo];simp only[gT];rw[fR (by omega),K]
    match i,hi with
    | 0,_=>simp
    | 1,_=>simp
  have N:∀o,(o<x*2∨x*2+2<=o)->new[o]?=cs[o]?:=by
    intro o ho;rw[<-r];have K:(cs.toList.take (x*2)).length=x*2:=by grind
    rw[jo];simp only[gT];rcases ho with ho|ho
    · grind
    · rw[fR (by omega),K,fR (by grind)]
      simp only[en,hO,oF];rw[show x*2+2+(o-x*2-(0+1+1))=o by omega];simp
  have B:(Value.agg #[val x 0,val x 1]).cells=#[val x 0,val x 1]:=rfl;have H:(an (⟨T,[]⟩:Act).eval R6).run ag w1=.ok .skip (w1.setRow Y.C new):=by have t:(⟨T,[]⟩:Act).eval (.tmp 12)=.pointer (aa ⟨Y.C,x*2,af⟩):=g;have w:(⟨T,[]⟩:Act).eval (.tmp 11)=.agg #[val x 0,val x 1]:=l;simp[an,R6,oW,t,w,Instr.storeAt,Instr.sureAddr,storeVar,(tok 177 i177 rfl).run_sizeOf,i177,B,p]
  have f:∀e∈(an (⟨T,[]⟩:Act).eval R6).events ag w1 #[],∃j,j<2/\e=GF Y.C (x*2+j):=by
    intro P f;have t:(⟨T,[]⟩:Act).eval (.tmp 12)=.pointer (aa ⟨Y.C,x*2,af⟩):=g;have w:(⟨T,[]⟩:Act).eval (.tmp 11)=.agg #[val x 0,val x 1]:=l;have e:an (⟨T,[]⟩:Act).eval R6=(do storeVar 177 ⟨Y.C,x*2,af⟩ (.agg #[val x 0,val x 1]);pure .skip):=by simp[an,R6,oW,t,w,Instr.storeAt,Instr.sureAddr]
    rw[e]at f;have E:P∈(storeCells ⟨Y.C,x*2,af⟩ [val x 0,val x 1]).events ag w1 #[]:=by simp only[storeVar,aP,(tok 177 i177 rfl).run_sizeOf,i177,B,aV,events_sizeOf,cT,b6,bU,cw,Sem.events_pure]at f;simpa[p]using f
    rcases eh [val x 0,val x 1] 0 cs w1 #[] c q z P E with Q|⟨j,_,S,rfl⟩
    · grind
    grind
  have m:WgLive 175 Y.Wg (w1.setRow Y.C new):=by
    obtain⟨st,O,h⟩:=J7;refine⟨st,O,?_⟩;show(w1.setRow Y.C new).heap[Y.Wg]?=_;rw[setRow_other w1 Y.C Y.Wg new ?_]
    · exact h
    · intro e
      have d:w1.heap[Y.Wg]?=aa (Go.ConcR.wgBlock 175 st O):=h;rw[e,c]at d;simp[Go.ConcR.wgBlock]at d;exact absurd d.2 (by decide)
  refine⟨_,w1.setRow Y.C new,_,Fg (b:=bW (.pointer (aa ⟨Y.Wg,0,af⟩))) (a:=⟨T,[]⟩) (k:=[]) (ops:=uv.toArray) (i:=7) (rest:=[]) (o:=R6) rfl rfl (by simp[bW,baseD]) H,?_,?_,?_⟩
  · refine⟨rfl,rfl,rfl,by simp,λb R=>setRow_other w1 Y.C b new R,⟨new,y,by grind⟩,λo ho=>?_,λi hi=>?_⟩
    · grind
    · rw[D]at hi
      rw[u,L];grind
  · intro e W
    obtain⟨j,S,rfl⟩:=f e (Go.Conc.mem_seen W);exact⟨x*2+j,rfl,by omega,by omega⟩
  · exact tailW x D T _ ⟨m,by show(w1.setRow Y.C new).cell? _=_;grind⟩
def worker{k:Int}(i:dH (Cx.work ag) 133 (lN k)){x:Nat}(r:x<n)(f:Y.kc=2){ps:List bo}{d:Int}(j:val x 0=.string ⟨((di k ps d).getD []).toArray⟩)(e:val x 1=.bool (di k ps d).isSome)(E:aF [] s)(F:s.β=[]){v1 v2 v3 v4 v5:aj}(q:Rd s.M v1 (.rp [.int .i64 k]))(m:Rd s.M v2 (.rp [.sl ae 2 ps.length (cP.fn ps)]))(p:Rd s.M v3 (.rp [.int .i64 d]))(u:Rd s.M v4 (.rp [.val (.slice (aa ⟨Y.C,0,af⟩) n n)]))(v:Rd s.M v5 (.rp [.int .i64 x])):
    eg (Cx.work ag) E0 (I3 ag 175 Y (2*n) val x) (born ag (wH #[.pointer (aa ⟨Y.Wg,0,af⟩),v1,v2,v3,v4,v5])) s:=by
  refine eg.goes (X:=Cx.work ag) (R:=λ_ _=>True) (D:=DC0) (Stop:=λg _=>g=G ((bW (.pointer (aa ⟨Y.Wg,0,af⟩))).aT ⟨tW (.pointer (aa ⟨Y.Wg,0,af⟩)) v1 v2 v3 v4 v5,[]⟩ [.code (.region 1 J4 ab)]) [uw])
    (λb=>aF [] b/\b.M=s.M) (λb s2 h o=>⟨h.1.rely o,o.M.trans h.2⟩) (λ_ _ _ _=>trivial) ?_ (λb h=>bZ.vV h.1.mem) ?_ 8 _ s ⟨E,rfl⟩ (QK _ _ _ _ _ _ _)
  · rintro b es h w' ⟨rfl,rfl⟩
    exact⟨rfl,.inl (.quiet h.1)⟩
  · rintro g b ⟨l,B⟩ rfl
    rw[Nq];refine fA.ZK (λ_ _ _ h=>h) ?_;refine(TB i ps d n x Y.C r (.pointer (aa ⟨Y.Wg,0,af⟩))).region (by kernel_rfl) (by simp[bW,baseD]) ⟨by simp[tW],⟨[],aq⟩,λt=>?_⟩ rfl l λs2 a A c w z st=>.stop ?_
    · rw[<-B]at q m p u v
      match t with
      | 0=>exact Rd.val rfl
      | 1=>exact q
      | 2=>exact m
      | 3=>exact p
      | 4=>exact u
      | 5=>exact v
      | t+6=>trivial
    · obtain⟨T,y⟩:=a
      obtain rfl:y=[]:=w;exact TD r f j e (c 12) (c 11)
end
end
section
open Go.Proofs Go.Conc Go.Conc.Lib
open Go.ConcN (WgLive PayAt Has RW AtR0)
open Go.ConcR (KK WgAt stA smA rd wr mk Payload DC0)
def wI:Code->Code|.seq a _=>a|c=>c
def kH:Code->Code|.seq _ a=>a|c=>c
def TE:Code->Code|.block _ a=>a|c=>c
def WK:Code->Code|.loop a=>a|c=>c
def QL:Code->Array aD|.region _ o _=>o|_=>#[]
noncomputable def Em:Code:=(Tryz.f97.body).getD .skip
noncomputable def im:Code:=WK (TE (kH (wI (kH (kH (kH Em))))))
noncomputable def Yt:Code:=wI im
noncomputable def QM:Code:=TE (wI (kH (kH im)))
noncomputable def Yu:Code:=wI QM
noncomputable def Aj:Array aD:=QL (wI (kH QM))
noncomputable def xQ:Array aD:=QL (kH (kH QM))
noncomputable def LZ:Code:=kH (kH (kH im))
noncomputable def m9:Code:=kH (kH (kH (kH Em)))
noncomputable def xR:Array aD:=QL (wI m9)
noncomputable def qx:Code:=kH m9
def B5:im=.seq Yt (.seq (.cond (.tmp 21) .skip (.exit 0)) (.seq (.block 1 (.seq Yu (.seq (.region 6 Aj ae) (.region 7 xQ ae)))) LZ)):=by kernel_rfl
def J8:m9=.seq (.region 9 xR ae) qx:=by kernel_rfl
def NQ(j:Fr)(σ1:List bm):Post:=λe φ σ=>e=.normal/\rY φ j/\σ=σ1
structure At(σ0:List bm)(s0:St)(φ:Fr)(σ:List bm)(a:Act)(s:St):Prop where
 fr:cx 45 σ s φ a
 hh:aF σ s
 st:cO σ0 s0 σ s
section
variable {σ0:List bm}{s0:St}{φ j:Fr}{σ σ1:List bm}{a:Act}{s:St}
def At.rely(h:At σ0 s0 φ σ a s){d:St}(c:bZ s d):At σ0 s0 φ σ a d:=⟨h.fr.rely c h.hh,h.hh.rely c,h.st.trans c.stepW⟩
structure L4(b:Nat)(s:St):Prop where
 own:¬s.own b
 β:∀L∈s.β,b∉L.bs
 M:∀o,s.M b o=af
 lt:b<s.w.heap.size
def L4.step{b:Nat}(h:L4 b s0)(st:cO σ0 s0 σ s):L4 b s :=
 ⟨by rw[st.own];exact h.own,λL c hb=>by
  rcases st.uP L c b hb with h1|⟨e,d,h1⟩
  .have:=h.lt;omega
  .exact h.β e d h1,λo=>by rw[st.iI b h.lt h.β];exact h.M o,cA h.lt st.size⟩
def At.apart{Wg:Nat}(e:L4 Wg s0):Apart Wg (At σ0 s0 φ σ a) :=
 ⟨λ_ _ h d=>h.rely d,λ_ h=>⟨σ,h.hh⟩,λ_ h=>let c:=e.step h.st;⟨c.own,c.β,c.M⟩⟩
variable {X:Cx ag}{S:ak->St->Prop}{b:aU}{k:List Item}{cs:List aU}
def At.ctl(h:At σ0 s0 φ σ a s){g g':ak}(e:g.status=.running)(d:∀w,aH ag X.main g w=.go g' w #[])(kk:∀c,At σ0 s0 φ σ a c->fA X S g' c):fA X S g s :=
 .ctl h.hh e d λc h1=>kk c (h.rely h1)
def At.code(h:At σ0 s0 φ σ a s)(hb:b.kind≠.early){c:Code}(i:AW X 45 c (NQ j σ1) φ σ)(kk:∀a1 s1,At σ0 s0 j σ1 a1 s1->fA X S (G (b.aT a1 k) cs) s1):fA X S (G (b.aT a (.code c::k)) cs) s:=by refine i s a h.fr h.hh b k cs S hb ?_;rintro e φ' σ' s' a' ⟨rfl,hl,rfl⟩ g f d;exact kk a' s' ⟨g.le hl,f,h.st.trans d⟩
end
def fA.live{Wg:Nat}{E:St->St->Array Event->Prop}{S:ak->St->Prop}{g:ak}{s:St}(h:fA (Cx.lead ag 175 Wg) S g s)(e:Clear (λb=>b=Wg) s)(hl:WgLive 175 Wg s.w):
  eg (Cx.lead ag 175 Wg) E (λg s=>S g s/\WgLive 175 Wg s.w) g s:=by
 induction h with
 |stop h=>exact⟨.leaf,h,hl⟩
 |@step g s q ns ne hr h1 h2 _ n =>
  refine .step hr λf c=>?_;have i:=c.2 hl;have d:Clear (λb=>b=Wg) f:=⟨λb hb=>by rw[c.1.own];exact e.own b hb,λb hb=>by rw[c.1.β];exact e.β b hb,λb hb o=>by rw[c.1.M];exact e.M b hb o,λb hb=>cA (e.lt b hb) c.1.size⟩
  obtain⟨⟨σ,σ',hh,m,st⟩,l⟩:=h2 f c;refine⟨_,_,_,h1 f c,.inl ⟨⟨σ,σ',hh,m,st⟩,l⟩,n f c (d.step st) ?_⟩;obtain⟨x,y,p⟩:=i;exact⟨x,y,by show(ns f).w.heap[Wg]?=_;rw[st.keep Wg (d.lt Wg rfl) (d.β Wg rfl)];exact p⟩
 |ghost hg _ n=>exact .ghost hg (n (e.ghost hg) (by rw[hg.w];exact hl))
 |forget hx _ _ _=>exact hx.elim
 |vl hj _ _=>exact hj.elim
def L4.clear{Wg:Nat}{s:St}(h:L4 Wg s):Clear (λb=>b=Wg) s:=⟨λb e=>e▸h.own,λb e=>e▸h.β,λb e=>e▸h.M,λb e=>e▸h.lt⟩
section
variable (k:Int)(ps:List bo)(ns:List Int)(C Wg:Nat)
def mI(i:Nat):Fr:=[(3,.e (.one (.c (.rp [.int .i64 k])))),(4,.e (.one (.c (.rp [.sl ae 2 ps.length (cP.fn ps)])))),(8,.e (.one (.c (.rp [.val (.slice (aa ⟨C,0,af⟩) ns.length ns.length)])))),(9,.e (.one (.v (.pointer (aa ⟨Wg,0,af⟩))))),
 (18,cI.sl ns),(19,dI ns.length),(20,dI i)]
variable {k ps ns C Wg}{X:Cx ag}{σ:List bm}
def Yv{i:Nat}(hi:i<=ns.length):AW X 45 Yt (NQ ((21,dB (decide (i<ns.length)))::mI k ps ns C Wg i) σ) (mI k ps ns C Wg i) σ:=by
 refine AK.of_code ?_;by_cases h:i<ns.length
 .refine aY [(21,ab)] rfl ?_ ⟨rfl,dw rfl ?_,rfl⟩
  .simp;omega
  .simp[h]
 .refine aY [(21,ae)] rfl ?_ ⟨rfl,dw rfl ?_,rfl⟩
  .simp;omega
  .simp[h]
abbrev d5:List bm:=[.dead,.dead,.dead,.dead,.dead]
def pR5{i:Nat}(hi:i<ns.length):AW X 45 Yu (NQ ((10,.e (.one (.ptr 5 0)))::(11,.e (.one (.ptr 6 0)))::mI k ps ns C Wg i) [.dead,.dead,.dead,.dead,.dead,.cells 3 [.c (.int .i64 i)],.cells 3 [.c (.int .i64 (ns.getD i 0))]]) (mI k ps ns C Wg i) d5:=by
 refine AK.of_code ?_;refine bA rfl ?_ ⟨rfl,dw rfl ?_,?_⟩
 .simp;omega
 .simp
 grind
def pR8{i:Nat}(hi:i<ns.length)(c:ns.length<=4000000):AW X 45 LZ (NQ (mI k ps ns C Wg (i+1)) d5) (mI k ps ns C Wg i) d5:=by
 refine AK.of_code ?_;refine bA rfl ?_ ⟨rfl,dw rfl ?_,rfl⟩
 .simp[bt];omega
 .simp
variable {σ0:List bm}{s0:St}{S:ak->St->Prop}{b:aU}{kk:List Item}{cs:List aU}
abbrev d7:List bm:=[.dead,.dead,.dead,.dead,.dead,.dead,.dead]
variable (k ps ns C Wg)in
abbrev qT(i:Nat):Fr:=(11,.e (.one (.c (.rp [.int .i64 (ns.getD i 0)]))))::(10,.e (.one (.c (.rp [.int .i64 i]))))::mI k ps ns C Wg i
noncomputable abbrev tf(kk:List Item):List Item:=.code (.region 7 xQ ae)::.inBlock 1::.code LZ::.inLoop im::.inBlock 0::kk
def u7{P:aK}{main:Bool}{b:aU}{a:Act}{k:List Item}{cs:List aU}{w:aA}{c x y:Code}(h:c=.seq x y):aH P main (G (b.aT a (.code c::k)) cs) w=.go (G (b.aT a (.code x::.code y::k)) cs) w:=by grind[nK]
def toAdd{i:Nat}(hi:i<ns.length)(m:b.kind≠.early){a:Act}{s:St}(h:At σ0 s0 (mI k ps ns C Wg i) d5 a s)(K:∀n l,At σ0 s0 (qT k ps ns C Wg i) d7 n l->fA X S (G (b.aT n (.inRegion Aj [0]::tf kk)) cs) l):
  fA X S (G (b.aT a (.code im::.inLoop im::.inBlock 0::kk)) cs) s:=by
 refine h.ctl rfl (λw=>u7 B5) λs h=>?_;refine h.code m (Yv (Nat.le_of_lt hi)) λa s h=>?_;refine h.ctl rfl (λw=>nK) λs h=>?_;have q:a.eval (.tmp 21)=.bool ab:=by have:=h.fr.slot 21;simp only[hi,js]at this;exact rd_bool (fM this)
 refine h.ctl rfl (λw=>uQ q) λs h=>?_;refine h.ctl rfl (λw=>Fe) λs h=>?_;refine h.ctl rfl (λw=>nK) λs h=>?_;refine h.ctl rfl (λw=>rH) λs h=>?_;refine h.ctl rfl (λw=>nK) λs h=>?_;have h:At σ0 s0 (mI k ps ns C Wg i) d5 a s:=⟨h.fr.le (dw rfl (by simp)),h.hh,h.st⟩
 refine h.code m (pR5 hi) λa s h=>?_;obtain⟨l,w1,o,d,f⟩:=cx.freeze 10 5 (E:=3) (cs:=[.c (.int .i64 i)]) (cc:=[.int .i64 i]) rfl rfl rfl h.fr h.hh;refine .ghost (.of h.hh d w1 (f.oe h.hh)) ?_;obtain⟨s2,w2,p,e,g⟩:=cx.freeze 11 6 (E:=3) (cs:=[.c (.int .i64 (ns.getD i 0))]) (cc:=[.int .i64 (ns.getD i 0)]) rfl rfl rfl o d;refine .ghost (.of d e w2 (g.oe d)) ?_;have h:At σ0 s0 (qT k ps ns C Wg i) d7 a s2:=⟨p.le (dw rfl (by simp)),e,h.st.trans ((f.oe h.hh).trans (g.oe d))⟩
 refine h.ctl rfl (λw=>nK) λs h=>?_;refine h.ctl rfl (λw=>pK) λs h=>?_;exact K a s h
def o6:aD:={dst:=aa 25,op:=.call {callee:=.value (.func 130),args:=#[.tmp 9,.const (.int .i64 1)],argTypes:=#[175,3]},type:=0,pos:= "l12_snap.go:79",after:=#[],guard:=af}
theorem F6:Aj=#[o6]:=by kernel_rfl
def J9{i:Nat}(g:b.kind≠.early){a:Act}{s:St}(h:At σ0 s0 (qT k ps ns C Wg i) d7 a s)(K:∀c,At σ0 s0 (qT k ps ns C Wg i) d7 a c->fA X S (G (Frame.enter ag 130 #[.pointer (aa ⟨Wg,0,af⟩),.int .i64 1] .normal) (b.aT a (.inRegion Aj [0]::tf kk)::cs)) c):
  fA X S (G (b.aT a (.inRegion Aj [0]::tf kk)) cs) s:=by
 refine .next rfl λc d=>?_;have e:=h.rely (X.hZ d);have l:a.eval (.tmp 9)=.pointer (aa ⟨Wg,0,af⟩):=Rd.fN (e.fr.slot 9);have m:(an a.eval o6).run ag c.w=.ok (.enter 130 #[.pointer (aa ⟨Wg,0,af⟩),.int .i64 1]) c.w:=by have:=run_call_body (P:=ag) (a:=a) (w:=c.w) (o:=o6) (f:=130) (fn:=Tryz.f130) rfl Tryz.func130 (by kernel_rfl) (by kernel_rfl);rw[this,<-l];simp only[List.map_toArray,kZ,List.map_nil];rfl
 have p:(an a.eval o6).events ag c.w #[]=#[]:=events_call_body (P:=ag) (a:=a) (w:=c.w) (o:=o6) (f:=130) (fn:=Tryz.f130) rfl Tryz.func130 (by kernel_rfl) (by kernel_rfl) #[];have n:listed ag b.fn a o6 c.w=#[]:=by unfold listed;grind[seen_none]
 refine⟨_,c,#[],?_,.quiet e.hh,K c e⟩;have:=oH (P:=ag) (main:=X.main) (b:=b) (a:=a) (k:=tf kk) (cs:=cs) (w:=c.w) (ops:=Aj) (i:=0) (rest:=[]) (o:=o6) (by grind[F6]) rfl g m;grind
def TG:aD:={dst:=aa 26,op:=.makeFunc (.func 131) #[] #[.tmp 9,.tmp 3,.tmp 4,.tmp 11,.tmp 8,.tmp 10],type:=1,pos:= "l12_snap.go:80",after:=#[],guard:=af}
def Ns:aD:={dst:=af,op:=.go {callee:=.value (.tmp 26),args:=#[],argTypes:=#[]},type:=0,pos:= "l12_snap.go:80",after:=#[⟨0,.data⟩],guard:=af}
theorem F7:xQ=[TG,Ns].toArray:=by kernel_rfl
variable (k ps ns C Wg)in
abbrev En(i:Nat):AM.C:=.fn (.func 131) [] [.val (.pointer (aa ⟨Wg,0,af⟩)),.rp [.int .i64 k],.rp [.sl ae 2 ps.length (cP.fn ps)],.rp [.int .i64 (ns.getD i 0)],.rp [.val (.slice (aa ⟨C,0,af⟩) ns.length ns.length)],.rp [.int .i64 i]]
def TH{i:Nat}:OA X 45 [TG,Ns] TG ((25,.any)::qT k ps ns C Wg i) d7 (.e (.one (.c (En k ps ns C Wg i)))) d7:=by have h:vH tt [] [] [TG,Ns] ((25,.any)::qT k ps ns C Wg i) d7 TG=aa (.e (.one (.c (En k ps ns C Wg i))),af,[]):=rfl;exact eZ tok bR.nil h aq
def WL{i:Nat}(p:b.kind≠.early){a:Act}{s:St}(h:At σ0 s0 (qT k ps ns C Wg i) d7 a s)(K:∀v l c,At σ0 s0 (qT k ps ns C Wg i) d7 l c->Rd c.M v (En k ps ns C Wg i)->l.tmps.getD 26 ai=v->fA X S (G (b.aT l (.inRegion xQ [1]::.inBlock 1::.code LZ::.inLoop im::.inBlock 0::kk)) cs) c):
  fA X S (G (b.aT (a.put (aa 25) (.tuple #[])) (.inRegion Aj []::tf kk)) cs) s:=by
 have n:At σ0 s0 ((25,.any)::qT k ps ns C Wg i) d7 (a.put (aa 25) (.tuple #[])) s:=⟨h.fr.put (by decide) aq,h.hh,h.st⟩
 refine n.ctl rfl (λw=>iK) λs h=>?_;refine h.ctl rfl (λw=>pK) λs h=>?_;rw[F7];refine TH s _ h.fr h.hh b _ cs S 0 [1] p rfl λv c g m e=>?_;have g:Rd c.M v (En k ps ns C Wg i):=fM g;have o:=((h.fr.mono e h.hh.len).put (d:=26) (v:=v) (x:=.any) (by decide) aq)
 have f:26<(a.put (aa 25) (.tuple #[])).tmps.size:=by rw[h.fr.size];decide
 refine K v _ c ⟨o.le (dw rfl ?_),m,h.st.trans e⟩ g (Jd f);simp
def QN{i:Nat}(hi:i<ns.length)(o:ns.length<=4000000)(d:b.kind≠.early)(c:σ0.length<=5){a:Act}{s:St}(h:At σ0 s0 (qT k ps ns C Wg i) d7 a s)(K:∀l m,At σ0 s0 (mI k ps ns C Wg (i+1)) d5 l m->fA X S (G (b.aT l (.code im::.inLoop im::.inBlock 0::kk)) cs) m):
  fA X S (G (b.aT a (.inRegion xQ []::.inBlock 1::.code LZ::.inLoop im::.inBlock 0::kk)) cs) s:=by
 have f:cx 45 (d5++[.dead,.dead]) s (mI k ps ns C Wg i) a:=h.fr.le (dw rfl (by simp));have e:aF (d5++[.dead,.dead]) s:=h.hh;have g:cO σ0 s0 (d5++[.dead,.dead]) s:=h.st;have q:eR s (s.cut d5.length):=⟨rfl,λ_ _ _ h=>h,λ_ _ _=>rfl,e.mem,λb d=>d.imp id λ⟨L,n,d⟩=>⟨L,jR n,d⟩⟩
 refine .ghost q ?_;have h:At σ0 s0 (mI k ps ns C Wg i) d5 a (s.cut d5.length):=⟨⟨f.size,f.defers.imp λ_ p=>p.drop rfl,λt=>(f.slot t).drop (pW rfl)⟩,e.drop rfl,g.drop c⟩
 refine h.ctl rfl (λw=>iK) λs h=>?_;refine h.ctl rfl (λw=>qG) λs h=>?_;refine h.code d (pR8 hi o) λa s h=>?_;exact h.ctl rfl (λw=>x9) λs h=>K a s h
end
theorem wJ{b:aU}(c:b.roundOf=af)(a:Act)(t:List Item):b.aT a t=b.at ⟨a.tmps,a.defers++b.defers⟩ t:=by cases b;simp only at c;subst c;rfl
section
variable {k:Int}{ps:List bo}{ns:List Int}{Y:Lay}{val:Nat->Nat->aj}{σ0:List bm}{s0:St}{b:aU}{kk:List Item}{cs:List aU}
def O1{a:Act}{w:aA}{c c1 c2 c3 c4 c5:aj}(d:a.tmps.getD 26 ai=.func (.func 131) #[] #[c,c1,c2,c3,c4,c5]):(an a.eval Ns).run ag w=.ok (.spawn (wH #[c,c1,c2,c3,c4,c5])) w/\(an a.eval Ns).events ag w #[]=#[]:=by
 have e:a.eval (.tmp 26)=.func (.func 131) #[] #[c,c1,c2,c3,c4,c5]:=d;constructor
 .simp[an,Ns,resolve,Deferred.ofValue,e,wH]
 .simp[an,Ns,resolve,Deferred.ofValue,e]
def TJ(q:dH (Cx.work ag) 133 (lN k))(p:Y.kc=2)(f:b.roundOf=af)(A:b.kind≠.early){i:Nat}(hi:i<ns.length)(r:val i 0=.string ⟨((di k ps (ns.getD i 0)).getD []).toArray⟩)(l:val i 1=.bool (di k ps (ns.getD i 0)).isSome){v:aj}{a:Act}{s:St}(h:At σ0 s0 (qT k ps ns Y.C Y.Wg i) d7 a s)(z:WgLive 175 Y.Wg s.w)(y:Rd s.M v (En k ps ns Y.C Y.Wg i))(u:a.tmps.getD 26 ai=v){Next:ak->St->Prop}(K:∀d,At σ0 s0 (qT k ps ns Y.C Y.Wg i) d7 a d->WgLive 175 Y.Wg d.w->Next (G (b.aT a (.inRegion xQ []::.inBlock 1::.code LZ::.inLoop im::.inBlock 0::kk)) cs) d):
  AtGo ag 175 Y (2*ns.length) val i Next (G (b.aT a (.inRegion xQ [1]::.inBlock 1::.code LZ::.inLoop im::.inBlock 0::kk)) cs) s:=by
 refine⟨rfl,λd c=>?_⟩;have x:=h.rely c.1;have n:Rd d.M v (En k ps ns Y.C Y.Wg i):=by rw[c.1.M];exact y
 cases n with
 |fn fs cc S6 UZ f1 f2 g1 g2 r1 r2 =>
 have g:fs=[]:=iV S6;subst g;have t:cc=[f2 0,f2 1,f2 2,f2 3,f2 4,f2 5]:=by
  apply g9;intro j;have UZ:cc.length=6:=UZ
  match j with
  |0=>grind
  |1=>grind
  |2=>grind
  |3=>grind
  |4=>grind
  |5=>grind
  |j+6=>grind
 subst t;have D:f2 0=.pointer (aa ⟨Y.Wg,0,af⟩):=Rd.fN (r2 0 _ rfl);obtain⟨B,q2⟩:=O1 (a:=a) (w:=d.w) u;have e:Go.Conc.listed ag b.fn ⟨a.tmps,a.defers++b.defers⟩ Ns d.w=#[]:=by unfold Go.Conc.listed;have:=(O1 (a:=⟨a.tmps,a.defers++b.defers⟩) (w:=d.w) u).2;grind[seen_none]
 have m:=stepG_spawn (P:=ag) (main:=ab) (b:=b) (a:=⟨a.tmps,a.defers++b.defers⟩) (k:=.inBlock 1::.code LZ::.inLoop im::.inBlock 0::kk) (cs:=cs) (w:=d.w) (ops:=xQ) (i:=1) (rest:=[]) (o:=Ns) (by grind[F7]) rfl A B rfl;refine⟨G (b.aT a (.inRegion xQ []::.inBlock 1::.code LZ::.inLoop im::.inBlock 0::kk)) cs,born ag (wH #[f2 0,f2 1,f2 2,f2 3,f2 4,f2 5]),?_,rfl,?_,K d x (c.2 z)⟩
 .rw[wJ f,wJ f,m,e];rfl
 .rw[D];exact worker q hi p r l (s:=d.child) ⟨x.hh.mem,rfl,by simp,by simp[St.child],by simp[St.child],by simp[St.child]⟩ rfl (r2 1 _ rfl) (r2 2 _ rfl) (r2 3 _ rfl) (r2 4 _ rfl) (r2 5 _ rfl)
def o9:aD:={dst:=aa 28,op:=.call {callee:=.value (.func 134),args:=#[.tmp 9],argTypes:=#[175]},type:=0,pos:= "l12_snap.go:85",after:=#[],guard:=af}
theorem F8:xR=#[o9]:=by kernel_rfl
variable {X:Cx ag}{S:ak->St->Prop}
def QO(g:b.kind≠.early){C Wg:Nat}{a:Act}{s:St}(h:At σ0 s0 (mI k ps ns C Wg ns.length) d5 a s)(K:∀j c,At σ0 s0 (mI k ps ns C Wg ns.length) d5 j c->fA X S (G (Frame.enter ag 134 #[.pointer (aa ⟨Wg,0,af⟩)] .normal) (b.aT j (.inRegion xR [0]::.code qx::kk)::cs)) c):
  fA X S (G (b.aT a (.code im::.inLoop im::.inBlock 0::.code m9::kk)) cs) s:=by
 refine h.ctl rfl (λw=>u7 B5) λs h=>?_;refine h.code g (Yv (ba _)) λa s h=>?_;refine h.ctl rfl (λw=>nK) λs h=>?_;have m:a.eval (.tmp 21)=.bool ae:=by have:=h.fr.slot 21;simp only[Nat.lt_irrefl,l7]at this;exact rd_bool (fM this)
 refine h.ctl rfl (λw=>uQ m) λs h=>?_;refine h.ctl rfl (λw=>zj (k':=.code m9::kk) rfl) λs h=>?_;refine h.ctl rfl (λw=>u7 J8) λs h=>?_;refine h.ctl rfl (λw=>pK) λs h=>?_;have h:At σ0 s0 (mI k ps ns C Wg ns.length) d5 a s:=⟨h.fr.le (dw rfl (by simp)),h.hh,h.st⟩
 refine .next rfl λc d=>?_;have e:=h.rely (X.hZ d);have p:a.eval (.tmp 9)=.pointer (aa ⟨Wg,0,af⟩):=Rd.fN (e.fr.slot 9);have n:(an a.eval o9).run ag c.w=.ok (.enter 134 #[.pointer (aa ⟨Wg,0,af⟩)]) c.w:=by have:=run_call_body (P:=ag) (a:=a) (w:=c.w) (o:=o9) (f:=134) (fn:=Tryz.f134) rfl Tryz.func134 (by kernel_rfl) (by kernel_rfl);grind
 have q:(an a.eval o9).events ag c.w #[]=#[]:=events_call_body (P:=ag) (a:=a) (w:=c.w) (o:=o9) (f:=134) (fn:=Tryz.f134) rfl Tryz.func134 (by kernel_rfl) (by kernel_rfl) #[];have l:Go.Conc.listed ag b.fn a o9 c.w=#[]:=by unfold Go.Conc.listed;grind[seen_none]
 refine⟨_,c,#[],?_,.quiet e.hh,K a c e⟩;have:=oH (P:=ag) (main:=X.main) (b:=b) (a:=a) (k:=.code qx::kk) (cs:=cs) (w:=c.w) (ops:=xR) (i:=0) (rest:=[]) (o:=o9) (by grind[F8]) rfl g n;rw[l]at this;exact this
section
variable (k ps ns Y σ0 s0 b kk cs)
def U5(g:ak)(s:St):Prop:=∃a,FY ag OZ Y (At σ0 s0 (mI k ps ns Y.C Y.Wg ns.length) d5 a) (b.aT a (.inRegion xR [0]::.code qx::kk)) cs g s
def TF(g:ak)(s:St):Prop:=∃a,TW ag OZ Y (At σ0 s0 (mI k ps ns Y.C Y.Wg ns.length) d5 a) (G (b.aT (a.put (aa 28) (.tuple #[])) (.inRegion xR []::.code qx::kk)) cs) g s
end
def anF(f:L4 Y.Wg s0)(c:b.roundOf=af){g:ak}{s:St}(h:U5 k ps ns Y σ0 s0 b kk cs g s):
  eg (Cx.lead ag 175 Y.Wg) (Es Y.Wg) (AtW1 ag 175 Y (TF k ps ns Y σ0 s0 b kk cs) (U5 k ps ns Y σ0 s0 b kk cs)) g s:=by
 obtain⟨a,h⟩:=h;have e:(xR[0]?).bind (·.dst)=aa 28:=by rw[F8];rfl
 rw[wJ c]at h;refine Tm (P:=ag) (L:=OZ) (b₀:=b) (a₀:=⟨a.tmps,a.defers++b.defers⟩) (ops₀:=xR) (i₀:=0) (rest₀:=[]) (k₀:=.code qx::kk) (cs:=cs) B4 (At.apart f) (λg s d=>⟨a,?_⟩) (λg s i=>⟨a,?_⟩) h
 .rw[wJ c];rw[e]at d;exact d
 grind[wJ]
def Hi{P:aK}{ty:av}{N n:Nat}{a:ak->St->Prop}:∀(r:Nat){g:ak}{s:St},eg (Cx.lead P ty Y.Wg) (Es Y.Wg) (λg s=>Spawns P ty Y N val n a r g s) g s->Spawns P ty Y N val n a r g s
 |0,_,_,h=>eg.bind h λ_ _ x=>x
 |_+1,_,_,h=>eg.bind h λ_ _ x=>x
def Nt(y:dH (Cx.work ag) 133 (lN k))(x:Y.kc=2)(m:L4 Y.Wg s0)(j:b.roundOf=af)(l:b.kind≠.early)(n:σ0.length<=5)(I:ns.length<=4000000)(z:∀i,i<ns.length->val i 0=.string ⟨((di k ps (ns.getD i 0)).getD []).toArray⟩)(p:∀i,i<ns.length->val i 1=.bool (di k ps (ns.getD i 0)).isSome):
  ∀(r:Nat),r<=ns.length->∀(a:Act) (s:St),At σ0 s0 (mI k ps ns Y.C Y.Wg (ns.length-r)) d5 a s->WgLive 175 Y.Wg s.w ->
   Spawns ag 175 Y (2*ns.length) val ns.length (U5 k ps ns Y σ0 s0 b kk cs) r (G (b.aT a (.code im::.inLoop im::.inBlock 0::.code m9::kk)) cs) s:=by
 intro r;induction r with
 |zero =>
  intro _ a s h c;rw[l8]at h;have:=fA.live (E:=Es Y.Wg) (QO (X:=Cx.lead ag 175 Y.Wg) (kk:=kk) (cs:=cs) (S:=λg s=>∃a,g=G (Frame.enter ag 134 #[.pointer (aa ⟨Y.Wg,0,af⟩)] .normal) (b.aT a (.inRegion xR [0]::.code qx::kk)::cs)/\At σ0 s0 (mI k ps ns Y.C Y.Wg ns.length) d5 a s) l h λe o d=>.stop ⟨e,rfl,d⟩) (m.step h.st).clear c;refine eg.bind this ?_;rintro g s ⟨⟨a,rfl,h⟩,c⟩;exact To (P:=ag) (L:=OZ) (Y:=Y) B4 (At.apart m) (λg s H=>⟨a,H⟩) ⟨h,c⟩
 |succ r D =>
  intro J a s h c;have hi:ns.length-(r+1)<ns.length:=by omega
  generalize A:ns.length-(r+1)=i at h hi;have:=fA.live (E:=Es Y.Wg) (toAdd (X:=Cx.lead ag 175 Y.Wg) (kk:=.code m9::kk) (cs:=cs) (S:=λg s=>∃a,g=G (Frame.enter ag 130 #[.pointer (aa ⟨Y.Wg,0,af⟩),.int .i64 1] .normal) (b.aT a (.inRegion Aj [0]::tf (.code m9::kk))::cs)/\At σ0 s0 (qT k ps ns Y.C Y.Wg i) d7 a s) hi l h λe o d=>J9 l d λs2 h2=>.stop ⟨e,rfl,h2⟩) (m.step h.st).clear c;refine eg.bind this ?_;rintro g s ⟨⟨a,rfl,h⟩,c⟩;have B:(Aj[0]?).bind (·.dst)=aa 25:=by rw[F6];rfl
  rw[wJ j];refine Wy (P:=ag) (L:=OZ) (Y:=Y) (F:=At σ0 s0 (qT k ps ns Y.C Y.Wg i) d7 a) B4 (At.apart m) (λs q=>?_) ⟨h,c⟩;rw[B];have:=fA.live (E:=Es Y.Wg) (WL (X:=Cx.lead ag 175 Y.Wg) (kk:=.code m9::kk) (cs:=cs) (S:=λg s=>∃v a,g=G (b.aT a (.inRegion xQ [1]::.inBlock 1::.code LZ::.inLoop im::.inBlock 0::.code m9::kk)) cs/\At σ0 s0 (qT k ps ns Y.C Y.Wg i) d7 a s/\Rd s.M v (En k ps ns Y.C Y.Wg i)/\a.tmps.getD 26 ai=v) l q.1 λv e o d u f=>.stop ⟨v,e,rfl,d,u,f⟩) (m.step q.1.st).clear q.2;rw[wJ j]at this;refine eg.bind this ?_;rintro g s ⟨⟨v,a,rfl,h,u,f⟩,c⟩;rw[A];refine⟨.leaf,TJ y x j l hi (z i hi) (p i hi) h c u f λo d t=>?_⟩;refine Hi r ?_;have:=fA.live (E:=Es Y.Wg) (QN (X:=Cx.lead ag 175 Y.Wg) (kk:=.code m9::kk) (cs:=cs) (S:=λg s=>∃a,g=G (b.aT a (.code im::.inLoop im::.inBlock 0::.code m9::kk)) cs/\At σ0 s0 (mI k ps ns Y.C Y.Wg (i+1)) d5 a s) hi I l n d λe o d=>.stop ⟨e,rfl,d⟩) (m.step d.st).clear t;refine eg.bind this ?_;rintro g s ⟨⟨a,rfl,h⟩,c⟩;refine⟨.leaf,D (by omega) a s ?_ c⟩;grind
end
end
section
variable {X:Cx ag}[X.jw]
def Rs(t:List bu):∀i,i<t.length->(cF.fn t i).length=2/\∀c∈cF.fn t i,A5 c=ab:=by intro i _;refine⟨rfl,λc a=>?_⟩;simp only[iT.fn,xS,cF,eY,pz,or_false]at a;rcases a with rfl|rfl<;>rfl
abbrev Ld(t:List bu)(xs:List aj):Prop:=kz 2 t.length (cF.fn t) xs
abbrev bK(bf:AY)(n:Nat)(xs:List aj):bm:=.dg (jX 115 2 bf n xs)
abbrev tKB(bf:AY)(n:Nat)(b:Bool):D:=.fK [.one (.v (AZ bf n)),.one (.c (.bool b))]
def CR(t:List bu)(p x:Bs):dW (ι:={q:AY×List aj // Ld (dZ t p x).1 q.2}) X 81 [cF.sl t,dS p,dS x] [] (λq=>tKB q.1.1 (dZ t p x).1.length (dZ t p x).2) (λq=>[bK q.1.1 (dZ t p x).1.length q.1.2]) :=
 (ug t p x).thaw Tryz.func81 rfl (by simp[z8,oZ,r6,nW,vo,A5]) (Rs _)
def kz.nil:kz k 0 es []:=⟨by simp,λi hi=>by omega,λi hi=>by omega⟩
def HQ{t:List bu}{p x:Bs}(h:(dZ t p x).2=ab):(dZ t p x).1.length<=6:=by
 unfold dZ at h⊢;split at h
 .rename_i b;rw[bc b];split at h
  .rename_i a;rw[bc a];exact lP a
  grind
 grind
def Ui(h:o.op=.call {callee:=.builtin .append,args:=#[x,y],argTypes:=#[75,75]}):ly ag o x y 115 i115 :=
 ⟨⟨75,75,i75,i75,h,(tok _ _ rfl),rfl,(tok _ _ rfl),rfl⟩,(tok _ _ rfl),by decide,by decide⟩
def Le{p:Bs}(h:p.length<=9223372036854775807):Rd M (Ij p) (.str p):=Rd.str rfl h
def Ld.snoc{t:List bu}{xs:List aj}(h:Ld t xs)(p x:Bs)(d:p.length<=9223372036854775807)(b:x.length<=9223372036854775807):Ld (t++[(p,x)]) (xs++[Ij p,Ij x]):=by
 unfold Ld;rw[bT];refine kz.snoc h (λi hi=>?_) rfl rfl λq c a=>?_
 .simp[iT.fn,xS,ah,iE hi]
 .have e:cF.fn (t++[(p,x)]) t.length=[.str p,.str x]:=by simp[iT.fn,xS,cF]
  rw[e]at a;rcases q with _|_|q
  .simp at a;subst a;exact⟨Ij p,rfl,λM=>Le d⟩
  .simp at a;subst a;exact⟨Ij x,rfl,λM=>Le b⟩
  grind
def Ld.N1{t:List bu}{xs:List aj}(h:Ld t xs)(i:Nat)(hi:i<t.length)(x:Bs)(d:nO vs [.c (.str x)]):Ld (t.set i ((t.getD i cF.b8).1,x)) (xs.take (i*2+1)++vs++xs.drop (i*2+1+vs.length)):=by
 unfold Ld;rw[List.length_set];refine kz.fh h i 1 hi d (ba _) (λg f a=>?_) rfl λq c b=>?_
 .simp[iT.fn,xS,ah,Ne.symm a]
 .have e:cF.fn (t.set i ((t.getD i cF.b8).1,x)) i=[.str (t.getD i cF.b8).1,.str x]:=by simp[iT.fn,xS,cF,ah,hi]
  rw[e]at b;rcases q with _|_|q
  .right;simp at b;subst b;exact⟨by omega,rfl⟩
  .grind
  grind
structure Uj(k c:Nat) where
 t:List bu
 bf:AY
 xs:List aj
 k1:Nat
 fl:Ld t xs
 hl:t.length<=7
 h1:k<=k1
 h2:k1<=k+c
set_option maxRecDepth 20000 in
def ND(m:Nat)(b:Nat->Int)(o:Bytes b)(k:Nat)(R:k<=50000)(i:m<=1048576):
  dW (ι:=Uj k 400) X 86 [.e (.one (.ptr 0 0))] [mJ m b k] (λq=>.e (.one (.v (AZ q.bf q.t.length)))) (λq=>[mJ m b q.k1,bK q.bf q.t.length q.xs]):=by
 refine dW.qy Tryz.func86 rfl rfl rfl λK=>?_;refine BU [] 9 rfl aq ?_;refine AK.Mj 3 115 2 rfl λz=>?_;refine bA rfl aq ?_;refine AK.cP (gv m b o k 6 (by omega) i (by omega)) [0] rfl (λ_=>rfl) ?_;rintro⟨v,v0,v1⟩;refine bA rfl aq ?_;refine AK.bS 2 (λs:Nat×List bu×AY×List aj×Nat=>s.1<=5/\Ld s.2.1 s.2.2.2.1/\s.2.1.length<=6/\k<=s.2.2.2.2/\s.2.2.2.2+70*s.1<=k+351) (λs=>[(0,.e (.one (.ptr 0 0))),(4,dI s.1),(3,.e (.one (.v (AZ s.2.2.1 s.2.1.length))))]) (λs=>[mJ m b s.2.2.2.2,bK s.2.2.1 s.2.1.length s.2.2.2.1]) (λs=>s.1) (v.toNat,[],z,[],k+1) rfl ?_ rfl ?_ rfl ⟨by omega,kz.nil,by simp,by simp,by grind⟩ ?_
 .simp;omega
 .simp
 rintro⟨n,t,bf,xs,k1⟩ ⟨J,f,H,O,Q⟩;simp only at J f H O Q;by_cases N:0<n
 .refine aY [(11,ab)] rfl (by simp[N]) ?_;refine AK.cP (va m b o k1 (by omega) i) [0] rfl (λ_=>rfl) ?_;rintro⟨p,P⟩;refine bA rfl aq ?_;refine AK.cP (Gc m b o (k1+1+1) (by omega) i) [0] rfl (λ_=>rfl) ?_;rintro⟨⟨x,E⟩,L,D,g⟩;simp only at L D g;refine bA rfl aq ?_;refine AK.Jm (CR t p x) 1 0 rfl rfl rfl rfl (jX.Bb rfl (cF.fn t) f.rd) rfl ?_ rfl (λ_=>rfl) (λ_=>rfl) rfl ?_
  .simp
  rintro⟨⟨a,xs'⟩,w⟩;simp only at w⊢;cases B:(dZ t p x).2 with
  |true =>
   have C:=HQ B;generalize(dZ t p x).1=t' at w C⊢;refine BU [] 6 rfl aq ?_;refine AK.swap 1 2 (by decide) rfl rfl (λv G h=>h.1) (λv G h=>h.1) ?_;refine aY [(23,ab)] rfl ?_ (AK.aQ (n-1,t',a,xs',E) rfl ?_ ?_ ?_ ?_)
   .simp[bt];omega
   .simp;omega
   .simp
   .grind
   grind
  |false =>
   refine aY [(23,ae)] rfl ?_ (AK.aQ (n-1,t,bf,xs,E) rfl ?_ ?_ ?_ ?_)
   .simp[bt];omega
   .simp;omega
   .simp
   .grind
   grind
 .obtain rfl:n=0:=by omega
  refine aY [(11,ae)] rfl (by simp) (AK.leaveD rfl rfl ?_);refine bA rfl aq ?_;refine AK.cP (gv m b o k1 40 (by omega) i (by omega)) [0] rfl (λ_=>rfl) ?_;rintro⟨u,U,V⟩;by_cases F:u=0
  .refine aY [(27,ab)] rfl (by simp[F]) ?_;refine AK.cP (va m b o (k1+1) (by omega) i) [0] rfl (λ_=>rfl) ?_;rintro⟨p,P⟩;refine bA rfl aq ?_;refine AK.qH (l:=1) (bf:=bf) (xs:=xs) (n:=t.length) (xv:=[Ij p,Ij [97]]) (Ui rfl) rfl rfl rfl rfl rfl rfl rfl rfl (λM v j c T S=>?_) (by show _*32<=_;omega) λa=>?_
   .grind [str_val]
   refine bA rfl aq (AK.l5 ⟨t++[(p,[97])],a,xs++[Ij p,Ij [97]],k1+1+1+1,f.snoc p [97] (by omega) (by decide),by grind,by omega,by omega⟩ (AK.dY [0,1] rfl ?_ ?_ rfl rfl ?_))
   .simp
   .simp;rfl
   grind
  by_cases d:u=1
  .by_cases y:0<t.length
   .refine AK.Sy (jX.len (l:=1) rfl) λA=>?_;obtain⟨I,cap,rfl⟩:=A.2.2.1 y;refine aY [(27,ae),(35,ab),(39,ab)] rfl ?_ ?_
    .simp[y,d];omega
    refine AK.Dv tok 1 rfl rfl rfl rfl rfl rfl rfl ?_ rfl rfl λvs Ow=>?_
    .grind
    have r:=f.N1 0 y [65] Ow;refine bA rfl aq (AK.l5 ⟨t.set 0 ((t.getD 0 cF.b8).1,[65]),.row I cap,_,k1+1,r,by grind,by omega,by omega⟩ (AK.dY [0,1] rfl ?_ ?_ rfl rfl ?_))
    .simp
    .simp;rfl
    grind
   .cases bf;all_goals
     refine aY [(27,ae),(35,ab),(39,ae)] rfl ?_ (AK.l5 ⟨t,_,xs,k1+1,f,by omega,by omega,by omega⟩ (AK.dY [0,1] rfl ?_ rfl rfl rfl ?_))
     .simp[y,d]<;>omega
     .simp
     grind
  .refine aY [(27,ae),(35,ae)] rfl (by simp[F,d]) (AK.l5 ⟨t,bf,xs,k1+1,f,by omega,by omega,by omega⟩ (AK.dY [0,1] rfl ?_ rfl rfl rfl ?_))
   .simp
   grind
end
end R1
abbrev N4(a b:Bs)(c:Bool):D:=.fK [.one (.c (.str a)),.one (.c (.str b)),.one (.c (.bool c))]
namespace R1
variable {X:Cx ag}
def xZ(s:Bs)(c:Int)(h:0<=c/\c<=255):Ev X 232 [dS s,dU c] [] (dI (Lib.indexByte s (UInt8.ofNat (Int.toNat c)))) []:=by
 have e:c=((UInt8.ofNat c.toNat).toNat:Int):=by grind[UInt8.toNat_ofNat']
 grind[AL]
def Ru:dv:=λargs σ=>match args,σ with
 |[.e (.one (.c (.str a))),.e (.one (.c (.int .u8 b)))],[]=>aa (dI (Lib.indexByte a (UInt8.ofNat (Int.toNat b))),[],[0<=b/\b<=255])
 |_,_=>af
def t232:dH X 232 Ru:=by
 intro args σ res σ' obs h ho;unfold Ru at h;split at h
 .cases h;exact(xZ _ _ (ho)).args (λ_ _ r=>r)
 .cases h
def Uk:List (Nat×dv):=(232,Ru)::YG
def Lg:bR X Uk:=bR.cons t232 (Xi)
def ir(s:Bs):Int:=Lib.indexByte s 47
theorem Lh(s:Bs):Ev X 225 [dS s,dS [47]] [] (dI (ir s)) []:=by
 refine Ev.bQ Tryz.func225 rfl λa=>?_;by_cases h:s=[47]
 .subst h;refine aO Lg [(18,ae),(22,ab)] rfl ?_ (AK.bq rfl ?_)
  .simp
  .simp[ir,Lib.indexByte.eq_def]
 .refine aO Lg [(18,ae),(22,ae),(26,ab)] rfl ?_ (AK.bq rfl ?_)
  .simp[cC,cz];grind
  .simp[ir,iH]
def Rv:dv:=λargs σ=>match args,σ with
 |[.e (.one (.c (.str a))),.e (.one (.c (.str [47])))],[]=>aa (dI (ir a),[],[])
 |_,_=>af
def t225:dH X 225 Rv:=by intro args σ res σ' obs h ho;unfold Rv at h;grind[Lh]
def Ul:List (Nat×dv):=(225,Rv)::Uk
def Lj:bR X Ul:=bR.cons t225 (Lg)
def jh(s:Bs):Bs:=if 0<=ir s then s.take (ir s).toNat else s
def ml(s:Bs):Bs:=if 0<=ir s then s.drop ((ir s).toNat+1)else[]
def jQ(s:Bs):Bool:=decide (0<=ir s)
theorem Lk(s:Bs):Ev X 215 [dS s,dS [47]] [] (N4 (jh s) (ml s) (jQ s)) []:=by
 refine Ev.bQ Tryz.func215 rfl λb=>?_;have d:=b.str 0 rfl;have a:=lg s 47;change ir s<s.length∨ir s=-1 at a;by_cases h:0<=ir s
 .have c:(ir s+1).toNat=(ir s).toNat+1:=by omega
  refine aO Lj [(12,ab)] rfl ?_ (AK.bq rfl ?_)
  .simp[h,bt];omega
  .simp[jh,ml,jQ,h,rR,c]
 .refine aO Lj [(12,ae)] rfl ?_ (AK.bq rfl ?_)
  .simp;omega
  .simp[jh,ml,jQ,h]
def Rw:dv:=λargs σ=>match args,σ with
 |[.e (.one (.c (.str a))),.e (.one (.c (.str [47])))],[]=>aa (N4 (jh a) (ml a) (jQ a),[],[])
 |_,_=>af
def t215:dH X 215 Rw:=by intro args σ res σ' obs h ho;unfold Rw at h;grind[Lk]
def Um:List (Nat×dv):=(215,Rw)::Ul
def Pe:bR X Um:=bR.cons t215 (Lj)
theorem Rx(s:Bs):Ev X 190 [dS s,dS [47]] [] (N4 (jh s) (ml s) (jQ s)) []:=by refine Ev.bQ Tryz.func190 rfl λa=>?_;exact bX Pe rfl aq (AK.bq rfl)
def Ry:dv:=λargs σ=>match args,σ with
 |[.e (.one (.c (.str a))),.e (.one (.c (.str [47])))],[]=>aa (N4 (jh a) (ml a) (jQ a),[],[])
 |_,_=>af
def t190:dH X 190 Ry:=by intro args σ res σ' obs h ho;unfold Ry at h;grind[Rx]
def cv(s:Bs):Bool:=decide (s.length=1)&&decide (97<=cz s 0)&&decide (cz s 0<=101)
theorem uE(s:Bs):Ev X 191 [dS s] [] (dB (cv s)) []:=by
 refine Ev.bQ Tryz.func191 rfl λc=>?_;by_cases b:s.length=1
 .by_cases a:97<=cz s 0
  .refine aY [(5,ab),(9,ab)] rfl ?_ (AK.bq rfl ?_)
   .simp only[ar,bh];grind[cC]
   .show decide (cz s 0<=101)=cv s;simp[cv,b,a]
  .refine aY [(5,ab),(9,ae)] rfl ?_ (AK.bq rfl ?_)
   .simp only[ar,bM];grind[cC]
   .simp[cv,a]
 .refine aY [(5,ae)] rfl ?_ (AK.bq rfl ?_)
  .simp;omega
  .simp[cv,b]
def Rz:dv:=λargs σ=>match args,σ with
 |[.e (.one (.c (.str a)))],[]=>aa (dB (cv a),[],[])
 |_,_=>af
def t191:dH X 191 Rz:=by intro args σ res σ' obs h ho;unfold Rz at h;grind[uE]
def Un:List (Nat×dv):=(190,Ry)::(191,Rz)::Um
def Gr:bR X Un:=bR.cons t190 (bR.cons t191 (Pe))
def eW(s:Bs):Bool:=cv (jh s)&&(!jQ s||cv (ml s))
theorem EO(s:Bs):Ev X 139 [dS s] [] (dB (eW s)) []:=by
 refine Ev.bQ Tryz.func139 rfl λc=>?_;cases a:cv (jh s)with
 |false =>
  refine aO Gr [(13,ae)] rfl ?_ (AK.bq rfl ?_)
  .simp[a]
  .simp[eW,a]
 |true =>
  cases b:jQ s with
  |false =>
   refine aO Gr [(13,ab),(15,ae)] rfl ?_ (AK.bq rfl ?_)
   .simp[a,b]
   .simp[eW,a,b]
  |true =>
   refine aO Gr [(13,ab),(15,ab)] rfl ?_ (AK.bq rfl ?_)
   .simp[a,b]
   .simp[eW,a,b]
def RA:dv:=λargs σ=>match args,σ with
 |[.e (.one (.c (.str a)))],[]=>aa (dB (eW a),[],[])
 |_,_=>af
def t139:dH X 139 RA:=by intro args σ res σ' obs h ho;unfold RA at h;grind[EO]
theorem CW(s:Bs):Ev X 188 [dS s] [] (dB (b9 s)) []:=by
 refine Ev.bQ Tryz.func188 rfl λe=>?_;have f:=e.str 0 rfl;refine bA rfl aq ?_;refine AK.jf (λi=>i<=s.length/\∀j,j<i->eJ (s.getD j 0)=ab) (λi:Nat=>[(0,dS s),(5,dI s.length),(6,dI i)]) (λ_=>[]) (λi=>s.length-i) 0 rfl ?_ rfl aq ⟨by omega,by omega⟩ ?_
 .simp
 rintro i ⟨hi,c⟩;by_cases h:i<s.length
 .generalize a:s.getD i 0=b;by_cases k:b.toNat<97
  .refine aY [(7,ab),(12,ab)] rfl ?_ (AK.gO (cg.zero rfl ?_))
   .simp only[ar,j7,bh,a];omega
   .rw[ar,kq h (by rw[a];simp only[eJ,rj,bM];omega)]
  .by_cases g:b.toNat>122
   .refine aY [(7,ab),(12,ae),(17,ab)] rfl ?_ (AK.gO (cg.zero rfl ?_))
    .simp only[ar,j7,bh,bM,a];omega
    .rw[ar,kq h (by rw[a];simp only[eJ,rj,bM];omega)]
   .refine aY [(7,ab),(12,ae),(17,ae)] rfl ?_ (AK.fH (i+1) rfl ?_ rfl aq ?_ ?_)
    .simp only[ar,j7,bh,bM,a,bt];omega
    .simp
    .refine⟨by omega,λj d=>?_⟩;rcases uG.1 d with d|rfl
     .grind
     .rw[a];simp only[eJ,bJ,bh];omega
    .omega
 .refine aY [(7,ae)] rfl (by simp;omega) (AK.leave rfl rfl ?_);refine bA rfl aq (AK.bq rfl ?_);rw[ar,sv (λj d=>c j (by omega))]
def RB:dv:=λargs σ=>match args,σ with
 |[.e (.one (.c (.str a)))],[]=>aa (dB (b9 a),[],[])
 |_,_=>af
def t188:dH X 188 RB:=by intro args σ res σ' obs h ho;unfold RB at h;grind[CW]
def Uo:List (Nat×dv):=(139,RA)::(188,RB)::Un
def Ll:bR X Uo:=bR.cons t139 (bR.cons t188 (Gr))
theorem wF(s:Bs):Ev X 136 [dS s] [] (dB (dN s)) []:=by
 refine Ev.bQ Tryz.func136 rfl λb=>?_;by_cases a:s.length<=40
 .refine aO Ll [(5,ab)] rfl ?_ (AK.bq rfl ?_)
  .simp;omega
  .simp[dN,a]
 .refine aO Ll [(5,ae)] rfl ?_ (AK.bq rfl ?_)
  .simp;omega
  .simp[dN,a]
def RD:dv:=λargs σ=>match args,σ with
 |[.e (.one (.c (.str a)))],[]=>aa (dB (dN a),[],[])
 |_,_=>af
def t136:dH X 136 RD:=by intro args σ res σ' obs h ho;unfold RD at h;grind[wF]
def kR(s p:Bs):Bool:=decide (p.length<=s.length)&&(s.take p.length==p)
theorem CX(s p:Bs):Ev X 193 [dS s,dS p] [] (dB (kR s p)) []:=by
 refine Ev.bQ Tryz.func193 rfl λb=>?_;by_cases a:p.length<=s.length
 .refine aY [(9,ab)] rfl ?_ (AK.bq rfl ?_)
  .simp[a]
  .simp[kR,a,rR]
 .refine aY [(9,ae)] rfl ?_ (AK.bq rfl ?_)
  .simp;omega
  .simp[kR,a]
def RE:dv:=λargs σ=>match args,σ with
 |[.e (.one (.c (.str a))),.e (.one (.c (.str b)))],[]=>aa (dB (kR a b),[],[])
 |_,_=>af
def t193:dH X 193 RE:=by intro args σ res σ' obs h ho;unfold RE at h;grind[CX]
def Up:List (Nat×dv):=(136,RD)::(193,RE)::Uo
def Pf:bR X Up:=bR.cons t136 (bR.cons t193 (Ll))
theorem HT(s p:Bs):Ev X 142 [dS s,dS p] [] (dB (kR s p)) []:=by refine Ev.bQ Tryz.func142 rfl λa=>?_;exact bX Pf rfl aq (AK.bq rfl)
def RF:dv:=λargs σ=>match args,σ with
 |[.e (.one (.c (.str a))),.e (.one (.c (.str b)))],[]=>aa (dB (kR a b),[],[])
 |_,_=>af
def t142:dH X 142 RF:=by intro args σ res σ' obs h ho;unfold RF at h;grind[HT]
def Uq:List (Nat×dv):=(142,RF)::Up
def Pg:bR X Uq:=bR.cons t142 (Pf)
end R1
def iT.CY(c:iT α)(l:List α)(k n:Nat)(h:k+n<=l.length):c.list n (k9 k (c.fn l))=(l.drop k).take n:=by
 apply ry
 .simp[iT.list];omega
 .intro i h1 h2;have hi:i<n:=by grind
  simp[iT.list,k9,iT.fn,xS,ah,bn (by omega:k+i<l.length),c.inv]
def iT.CZ(c:iT α)(l:List α):c.fits n (k9 k (c.fn l)):=λi _=>by simp[k9,iT.fn,xS,c.inv]
abbrev dR(p x:Bs):D:=.e (.one (.c (.rp [.str p,.str x])))
namespace R1
variable {X:Cx ag}
def under(p q:Bs):Bool:=kR p (q++[47])
def Lm(a:bu)(p x:Bs)(h:a.1.length<=4000000):Ev X 141 [dP a,dR p x] [] (dB (under p a.1)) []:=by
 refine Ev.bQ Tryz.func141 rfl λb=>?_;refine bX Pg rfl ?_ (AK.bq rfl ?_)
 .simp;omega
 .simp[under]
def RG:dv:=λargs σ=>match args,σ with
 |[.e (.agg [.c (.str a0),.c (.str a1)]),.e (.one (.c (.rp [.str p,.str x])))],[]=>aa (dB (under p a0),[],[a0.length<=4000000/\a1=a1/\x=x])
 |_,_=>af
def t141:dH X 141 RG:=by
 intro args σ res σ' obs h ho;unfold RG at h;split at h
 .rename_i a b p x;cases h;exact Lm (a,b) p x ho.1
 grind
def Ur:List (Nat×dv):=(141,RG)::Uq
def yQ:bR X Ur:=bR.cons t141 (Pg)
abbrev Ln(p x:Bs):D:=.e (.one (.c (.fn (.func 141) [] [.rp [.str p,.str x]])))
def uF(t:List bu)(p:Bs):Int:=match t.findIdx? (λf=>under p f.1)with|some i=>i|none=>-1
def N5{t:List bu}{p:Bs}(hi:i<t.length)(h:under p (fe t i)=ab)(a:∀j,j<i->under p (fe t j)=ae):uF t p=i:=by
 have:t.findIdx? (λf=>under p f.1)=aa i:=by grind[List.findIdx?_eq_some_iff_getElem,fileAt]
 rw[uF,this]
theorem yR{t:List bu}{p:Bs}(a:∀j,j<t.length->under p (fe t j)=ae):uF t p=-1:=by
 have:t.findIdx? (λf=>under p f.1)=af:=by grind[List.getElem_of_mem,fileAt]
 rw[uF,this]
def N6(t:List bu)(p x:Bs)(d:∀j,j<t.length->(fe t j).length<=4000000):Ev X 192 [cF.sl t,Ln p x] [] (dI (uF t p)) []:=by
 refine Ev.bQ Tryz.func192 rfl λe=>?_;have c:=e.sl 0 rfl;refine bX yQ rfl aq ?_;refine AK.jf (λi=>i<=t.length/\∀j,j<i->under p (fe t j)=ae) (λi:Nat=>[(0,cF.sl t),(1,Ln p x),(7,dI t.length),(8,dI i)]) (λ_=>[]) (λi=>t.length-i) 0 rfl ?_ rfl aq ⟨by omega,by omega⟩ ?_
 .simp
 rintro i ⟨hi,a⟩;by_cases h:i<t.length
 .have f:=d i h;cases b:under p (fe t i)with
  |true =>
   refine aO yQ [(9,ab),(16,ab)] rfl ?_ (AK.gO (cg.zero rfl ?_))
   .simp[-ah,h,gC,b];omega
   .simp[N5 h b a]
  |false =>
   refine aO yQ [(9,ab),(16,ae)] rfl ?_ (AK.fH (i+1) rfl ?_ rfl aq ?_ ?_)
   .simp[-ah,h,gC,b,bt];omega
   .simp
   .grind
   .omega
 .refine aO yQ [(9,ae)] rfl (by simp;omega) (AK.leave rfl rfl ?_);refine bX yQ rfl aq (AK.bq rfl ?_);simp[yR (λj g=>a j (by omega))]
def AN(t:List bu):Prop:=∀j,j<t.length->(fe t j).length<=4000000
def RH:dv:=λargs σ=>match args,σ with
 |[d,.e (.one (.c (.fn (.func 141) [] [.rp [.str p,.str x]])))],[]=>match jO 2 d with
  |none=>af
  |some (n,es)=>aa (dI (uF (cF.list n es) p),[],[cF.fits n es,AN (cF.list n es),x=x])
 |_,_=>af
def t192:dH X 192 RH:=by
 intro args σ res σ' obs h ho;unfold RH at h;split at h
 .rename_i d p x;split at h
  .cases h
  rename_i n es hd;cases h;exact(N6 _ p x ho.2.1).args (λ_ vs=>cn.imp (λ_=>cF.jb hd ho.1) (cn.imp (λ_ r=>r) (λ_ r=>r)) vs)
 grind
def Us:List (Nat×dv):=(192,RH)::Ur
def Ph:bR X Us:=bR.cons t192 (yQ)
def N7(t:List bu)(p x:Bs)(a:AN t):Ev X 140 [cF.sl t,Ln p x] [] (dB (decide (0<=uF t p))) []:=by
 refine Ev.bQ Tryz.func140 rfl λb=>?_;refine bX Ph rfl ?_ (AK.bq rfl ?_)
 .simp[cF.au,cF.list_fn,a]
 .simp[cF.list_fn]
def RI:dv:=λargs σ=>match args,σ with
 |[d,.e (.one (.c (.fn (.func 141) [] [.rp [.str p,.str x]])))],[]=>match jO 2 d with
  |none=>af
  |some (n,es)=>aa (dB (decide (0<=uF (cF.list n es) p)),[],[cF.fits n es,AN (cF.list n es),x=x])
 |_,_=>af
def t140:dH X 140 RI:=by
 intro args σ res σ' obs h ho;unfold RI at h;split at h
 .rename_i d p x;split at h
  .cases h
  rename_i n es hd;cases h;exact(N7 _ p x ho.2.1).args (λ_ vs=>cn.imp (λ_=>cF.jb hd ho.1) (cn.imp (λ_ r=>r) (λ_ r=>r)) vs)
 grind
def Xj:List (Nat×dv):=(140,RI)::Us
def qz:bR X Xj:=bR.cons t140 (Ph)
def iU(t:List bu)(i:Nat):Bool :=
 eW (fe t i)&&dN (uy t i)&&(i==0||!(bd (fe t i) (fe t (i-1))||fe t i==fe t (i-1)))&&(bg i).all λj=>!under (fe t i) (fe t j)
def n8(t:List bu):Bool:=(bg t.length).all (iU t)&&decide (t.length<=6)
def kr{t:List bu}(hi:i<t.length)(h:iU t i=ae):n8 t=ae:=by
 cases a:n8 t with
 |false=>rfl
 |true =>
  simp only[n8,bJ]at a;grind
theorem uc{s:Bs}(h:eW s=ab):s.length<=3:=by
 simp only[eW,cv,bJ,mD,bh,hI]at h;obtain⟨⟨⟨d,_⟩,_⟩,a⟩:=h;have c:=lg s 47;change ir s<s.length∨ir s=-1 at c;by_cases b:0<=ir s
 .simp only[jh,b,bY,List.length_take]at d;rcases a with a|a
  .simp[jQ,b]at a
  .have:=a.1.1;simp only[ml,b,bY,ru]at this;omega
 .simp only[jh,b,b6]at d;omega
def EP{t:List bu}{p:Bs}(hi:i<=t.length):decide (0<=uF (t.take i) p)=!(bg i).all λj=>!under p (fe t j):=by
 have e:∀j,j<i->fe (t.take i) j=fe t j:=by intro j d;simp[fe,ah,d]
 cases h:(bg i).all λj=>!under p (fe t j)with
 |true =>
  grind[yR]
 |false =>
  have a:∃j,j<i/\under p (fe t j)=ab:=by grind
  have:∃k:Nat,uF (t.take i) p=k:=by
   unfold uF;cases c:(t.take i).findIdx? (λf=>under p f.1)with
   |some k=>grind
   |none =>
    obtain⟨j,d,g⟩:=a;rw[y0]at c;have b:j<(t.take i).length:=by grind
    have:=c _ (nz b);grind[fileAt]
  grind
def Ej(t:List bu):Ev X 99 [cF.sl t] [] (dB (n8 t)) []:=by
 refine Ev.bQ Tryz.func99 rfl λz=>?_;have q:=z.sl 0 rfl;refine bX qz rfl aq ?_;refine AK.bS 0 (λi=>i<=t.length/\∀j,j<i->iU t j=ab) (λi:Nat=>[(0,cF.sl t),(5,cF.sl t),(6,dI t.length),(7,dI i)]) (λ_=>[]) (λi=>t.length-i) 0 rfl ?_ rfl aq rfl ⟨by omega,by omega⟩ ?_
 .simp
 rintro i ⟨hi,k⟩;by_cases h:i<t.length
 .cases b:eW (fe t i)with
  |false =>
   refine aZ qz [(8,ab),(14,ae)] rfl ?_ (AK.eP (cg.zero rfl ?_))
   .simp[-ah,h,gC,b]
   .simp[ar,kr h (by simp[iU,b])]
  |true =>
   cases f:dN (uy t i)with
   |false =>
    refine aZ qz [(8,ab),(14,ab),(19,ae)] rfl ?_ (AK.eP (cg.zero rfl ?_))
    .simp[-ah,h,gC,pr,b,f]
    .simp[ar,kr h (by simp[iU,f])]
   |true =>
    have x:AN (t.take i):=by
     intro j y;simp only[List.length_take]at y;have e:fe (t.take i) j=fe t j:=by simp[fe,ah,(by omega:j<i)]
     rw[e];have:=k j (by omega);simp only[iU,bJ]at this;grind[uc]
    have w:cF.list ((i:Int).toNat-0) (k9 0 (cF.fn t))=t.take i:=by rw[cF.CY t 0 _ (by grind)];simp
    cases u:(i==0||!(bd (fe t i) (fe t (i-1))||fe t i==fe t (i-1)))with
    |false =>
     have a:iU t i=ae:=by simp only[iU,u];simp
     have l:i≠0:=by grind
     have m:(bd (fe t i) (fe t (i-1))||fe t i==fe t (i-1))=ab:=by grind
     have d:bt .i64 ((i:Int)-1):=by simp only[bt];omega
     have n:((i:Int)-1).toNat=i-1:=by omega
     refine aZ qz [(8,ab),(14,ab),(19,ab),(24,ab),(34,ab)] rfl ?_ (AK.eP (cg.zero rfl ?_))
     .simp only[ar,gC,pr,bD,n,m,b,f,bh,d];grind
     .simp[kr h a]
    |true =>
     have a:iU t i=(bg i).all λj=>!under (fe t i) (fe t j):=by simp only[iU,u,b,f];simp
     apply AK.join [(0,cF.sl t),(3,dI i),(5,cF.sl t),(6,dI t.length),(7,dI i),(4,.e (.one (.ptr 0 0)))] [.cells 115 [.c (.str (fe t i)),.c (.str (uy t i))]]
     .intro r;by_cases l:i=0
      .refine aZ qz [(8,ab),(14,ab),(19,ab),(24,ae),(1000006,ab)] rfl ?_ (r _ _ rfl ?_)
       .simp only[ar,gC,pr,bD,b,f,bh,bM];grind
       .simp
      .have m:(bd (fe t i) (fe t (i-1))||fe t i==fe t (i-1))=ae:=by grind
       have d:bt .i64 ((i:Int)-1):=by simp only[bt];omega
       have n:((i:Int)-1).toNat=i-1:=by omega
       refine aZ qz [(8,ab),(14,ab),(19,ab),(24,ab),(34,ae),(1000006,ab)] rfl ?_ (r _ _ rfl ?_)
       .simp only[ar,gC,pr,bD,n,m,b,f,bh,d];grind
       .simp
     .refine AK.freeze 4 0 rfl rfl rfl ?_;have s:=EP (t:=t) (p:=fe t i) (i:=i) hi;have g:cF.fits ((i:Int).toNat-0) (k9 0 (cF.fn t)):=cF.CZ t;cases v:(bg i).all λj=>!under (fe t i) (fe t j)with
      |false =>
       rw[v]at s a;refine aZ qz [(41,ab)] rfl ?_ (AK.eP (cg.zero rfl ?_))
       .simp only[ar,cr];grind
       .simp[kr h a]
      |true =>
       rw[v]at s a;refine aZ qz [(41,ae)] rfl ?_ (AK.aQ (i+1) rfl ?_ ?_ ?_ ?_)
       .simp only[ar,cr];have o:decide (0<=uF (cF.list ((i:Int).toNat-0) (k9 0 (cF.fn t))) (fe t i))=ae:=by grind
        exact⟨by simp only[bt];omega,g,by grind,aq,o,by omega,by omega⟩
       .simp
       .trivial
       .grind
       .omega
 .have:i=t.length:=by omega
  subst this;refine aO qz [(8,ae)] rfl (by simp) (AK.leaveD rfl rfl ?_);refine bX qz rfl aq (AK.bq rfl ?_);simp only[ar,n8];grind
end R1
section
open Go.Conc
def aF.TK(hh:aF σ s){B:bm}{L:Loc}(k:σ[l]?=aa B)(j:s.β[l]?=aa L)(m:(∃E cs,B=.cells E cs)∨∃H,B=.dg H):
  aF (σ.set l .dead) {s with β:=s.β.set l ⟨L.v,[]⟩}/\Step σ s (σ.set l .dead) {s with β:=s.β.set l ⟨L.v,[]⟩}:=by
 have d:l<σ.length:=(cf.1 k).1;have g:l<s.β.length:=(cf.1 j).1;have c:∀l',(s.β.set l ⟨L.v,[]⟩)[l']?=if l=l' then aa ⟨L.v,[]⟩else s.β[l']?:=by grind
 have a:∀L'∈s.β.set l ⟨L.v,[]⟩,∀b∈L'.bs,L'∈s.β:=by grind
 have st:Step σ s (σ.set l .dead) {s with β:=s.β.set l ⟨L.v,[]⟩}:=by
  refine⟨ba _,λ_ _ _=>rfl,λ_ _ _ h=>h,λ_ _ _ _=>rfl,λL' gh b hb=>.inr ⟨L',a L' gh b hb,hb⟩,?_,rfl,rfl,rfl,rfl⟩;intro l' B' L' lW gh;by_cases e:l=l'
  .subst e;rw[k]at lW;cases lW;rw[j]at gh;cases gh;refine⟨.dead,⟨L.v,[]⟩,by grind,by grind,?_⟩;rcases m with⟨E,cs,rfl⟩|⟨H,rfl⟩<;>rfl
  .exact⟨B',L',by grind,by grind,.refl _ _⟩
 refine⟨⟨hh.mem,by simp[hh.len],?_,?_,λL' gh b hb=>hh.lt L' (a L' gh b hb) b hb,λb hb=>⟨(hh.own b hb).1,λL' gh oB=>(hh.own b hb).2 L' (a L' gh b oB) oB⟩⟩,st⟩
 .intro l' B' L' lW gh;by_cases e:l=l'
  .subst e;rw[gw d]at lW;cases lW;trivial
  .rw[kM e]at lW;rw[c,aW e]at gh;exact(hh.box l' B' L' lW gh).carry st.ext hh.len λb hb=>⟨rfl,λo=>rfl⟩
 .intro p n L1 L2 h1 h2 b i f;rw[c]at h1 h2;split at h1
  .grind
  .split at h2
   .grind
   .exact hh.fY p n L1 L2 h1 h2 b i f
def dk.closed(a:s'.M=s.M){d:D}(h:dk σ s v d)(c:vt 0 d=ab):dk σ' s' v d:=by have h1:=dk.drop (σ1:=[]) (rest:=σ) h c;refine dk.mono (σ:=[]) (s:=s.cut 0) ⟨λb o v hm=>by rw[a];exact hm,λl B L e _=>by grind⟩ (by simp[St.cut]) h1
end
namespace R1
section
variable {X:Cx ag}
def lb(t:Bs):List Bs:=if dN t then pieces t else[]
def OY(t:Bs)(f:Nat)(acc:List Bs):Prop:=∃k,fp t t.length 0=acc++fp t k f/\t.length<=f+k/\acc.length<=f
def F3:dH X 136 (kF aS (λs=>dB (dN s)) λ_=>[]):=.oz λs _=>wF s
def J2:dv:=λargs σ=>match args,σ with
 |[.e (.one (.c (.str t)))],[]=>aa (.e (.one (.c (OX t))),[],[])
 |_,_=>af
def QJ:dH X 189 J2:=by intro args σ res σ' obs h ho;unfold J2 at h;grind[Nk]
def He(t:Bs):Ev X 138 [dS t] [] (cS.sl (lb t)) []:=by
 refine(dW.DS (ι:=Unit) (σ':=λ_=>[]) (res:=λ_=>cS.sl (lb t)) Tryz.func138 rfl rfl rfl λr=>?_).GI;have l:bR X [(136,kF aS (λs=>dB (dN s)) λ_=>[])]:=.cons F3 .nil;refine ql.seq (AW.top (AK.of_code ?_));refine bX l rfl aq ?_;refine ql.seq (AW.top (AK.of_code ?_));cases b:dN t with
 |false =>
  refine aO l [(8,ab)] rfl ?_ (AK.ret ⟨(),cg.zero rfl ?_⟩)
  .simp[b]
  .simp[lb,b]
 |true =>
  have d:=b;simp only[dN,bJ,bh]at d;refine aO l [(8,ae)] rfl ?_ ?_
  .simp[b]
  refine ql.seq (AW.top (AK.of_code ?_));refine bX l rfl aq ?_;refine ql.seq (ql.seq (AW.top (AK.of_code (AK.iv 1 0 9 1 (cS.fn []) rfl rfl ?_))));refine bX (.cons QJ .nil) rfl aq ?_;refine ql.block ?_;refine ql.rangeFunc (capD:=fX [.rp [.str t]]) (cx.callee rfl) (Hd (T:=List Bs) t d.2 (by omega) (λ_=>.cells 9 [.c (.str t)]) (λacc=>.cells 132 [.vec 2 1 acc.length (cS.fn acc)]) (λacc=>.vec 9 1 acc.length (cS.fn acc)) (OY t) [] ?_ (λt=>⟨by simp,by simp,by simp⟩) ?_) (λi=>⟨rfl,by simp⟩) λi=>⟨.normal,rfl,?_⟩
  .exact⟨t.length,by simp,by omega,by simp⟩
  .rintro f acc hf hR;have g:=m8 t f hf;refine Yields.intro (j:=af) rfl rfl rfl rfl (AK.of_code ?_);refine bA rfl aq ?_;refine⟨rfl,rfl,AK.of_code ?_⟩;refine bA rfl ?_ ?_
   .obtain⟨k,_,_,o⟩:=hR;have q:=g.1;have q2:=g.2.1;refine⟨rfl,rfl,?_,Int.natCast_nonneg _,Int.ofNat_le.2 (Nat.le_of_lt q),Int.ofNat_le.2 q2⟩;show(acc.length+1)*16<=_;omega
   have n:OY t (cutAt t f) (acc++[(t.drop f).take (cutAt t f-f)]):=by
    obtain⟨k,m,u,o⟩:=hR;obtain⟨k',rfl⟩:∃k',k=k'+1:=⟨k-1,by omega⟩
    refine⟨k',?_,by omega,by grind⟩;rw[m];simp only[fp];grind
   refine⟨rfl,rfl,⟨_,n⟩,mf rfl ?_⟩;have e:rR t (aa (f:Int)) (aa (cutAt t f:Int))=(t.drop f).take (cutAt t f-f):=by simp[rR,List.drop_take]
   have p:cq (acc.length+1) (cR acc.length (cS.fn acc) λi=>[[C.str (rR t (aa (f:Int)) (aa (cutAt t f:Int)))]].getD i []) (cS.fn (acc++[(t.drop f).take (cutAt t f-f)])):=by rw[e];exact iT.cm cS acc _
   have a:acc.length+1=(acc++[(t.drop f).take (cutAt t f-f)]).length:=by simp
   refine ar.cat.2 ⟨by simp,ar.cat.2 ⟨ar.cat.2 ⟨⟨a,p⟩,aq⟩,ar.cat.2 ⟨⟨a,p⟩,ar.cat.2 ⟨rfl,aq⟩⟩⟩⟩
  .obtain⟨acc,k,m,u,o⟩:=i;have h:fp t k t.length=[]:=by cases k<;>simp[fp]
   rw[h,lr]at m;have e:lb t=acc:=by simp only[lb,b,bY,pieces,m]
   rw[e];show ql X _ _ _ _ _;refine AW.top (AK.of_code ?_);refine bA rfl aq ?_;refine AK.ret ⟨(),cg.zero rfl ?_⟩;exact⟨rfl,cq.same⟩
def Nl:dH X 138 (kF aS (λs=>cS.sl (lb s)) λ_=>[]):=.oz λs _=>He s
def Ty:dH X 135 (nt (aL cS) aS (λl _=>dS l.flatten) λl s=>[s=[],l.flatten.length<=140737488355328]):=.qn λl s h=>by obtain⟨rfl,h⟩:=h;exact Nc l h
def Nm:dv:=nt (aL cS) (aL cS) (λa b=>dB (a==b)) λ_ _=>[]
def WI:dH X 137 Nm:=.qn λa b _=>QA a b
def Ei(l:List Bs)(h:l.flatten.length<=140737488355328):Ev X 98 [cS.sl l] [] (Ae (fZ l)) []:=by
 refine Ev.bQ Tryz.func98 rfl λd=>?_;have c:bR X [(135,nt (aL cS) aS (λl _=>dS l.flatten) λl s=>[s=[],l.flatten.length<=140737488355328]),(136,kF aS (λs=>dB (dN s)) λ_=>[]),(137,Nm),(138,kF aS (λs=>cS.sl (lb s)) λ_=>[])]:=.cons Ty (.cons F3 (.cons WI (.cons Nl .nil)));have el:cS.list l.length (cS.fn l)=l:=cS.list_fn l;cases a:dN l.flatten with
 |false =>
  refine aO c [(8,ae),(9,ab),(16,ab)] rfl ?_ (AK.bq rfl ?_)
  .simp only[ar,el,a,cS.au,eq_self,aC,aB];grind
  .simp[fZ,a]
 |true =>
  cases b:(pieces l.flatten==l)with
  |false =>
   refine aO c [(8,ab),(9,ae),(14,ae),(16,ab)] rfl ?_ (AK.bq rfl ?_)
   .simp only[ar,el,cS.list_fn,a,cS.au];simp[h,lb,a,b,-List.length_flatten]
   .simp[fZ,b]
  |true =>
   refine aO c [(8,ab),(9,ae),(14,ab),(16,ae)] rfl ?_ (AK.bq rfl ?_)
   .simp only[ar,el,cS.list_fn,a,cS.au];simp[h,lb,a,b,-List.length_flatten]
   .simp[fZ,a,b,el]
end
section
open Go.Proofs Go.Conc Go.Conc.Lib
open Go.ConcN (WgLive PayAt Has RW AtR0)
open Go.ConcR (KK WgAt stA smA rd wr mk Payload DC0)
noncomputable def TM:Code:=wI (kH (kH (kH Em)))
noncomputable def Yw:Code:=wI TM
noncomputable def WM:Code:=kH (kH (kH Em))
def QP:WM=.seq (.seq Yw (.block 0 (.loop im))) m9:=by kernel_rfl
section
variable {σ0:List bm}{s0:St}{φ:Fr}{σ:List bm}{a:Act}{s:St}{S:ak->St->Prop}
def At.goes{Wg:Nat}{j:ak}:∀(m:Nat)(g:ak)(s:St),At σ0 s0 φ σ a s->WgLive 175 Wg s.w->Goes ag ab (fy 175 Wg) DC0 (λg _=>g=j) m g s.w ->
  (∀c,At σ0 s0 φ σ a c->fA (Cx.beside ag) S j c)->fA (Cx.beside ag) S g s
 |0,g,s,h,_,e,K=>by obtain rfl:g=j:=e s.w (.refl _);grind
 |m+1,g,s,h,hl,e,K=>by
  rcases e with e|⟨o,e⟩
  .obtain rfl:g=j:=e s.w (.refl _);grind
  .refine .next o λc b=>?_;have h1:=h.rely b.1;obtain⟨d,n⟩:=b.2;have i:WgLive 175 Wg c.w:=by rw[n];exact hl
   have h2:=e c.w (λ_=>i);cases f:aH ag ab g c.w with
   |go g' w' es =>
    rw[f,goes_go]at h2;obtain⟨⟨rfl,rfl⟩,l⟩:=h2;exact⟨g',c,#[],f,.quiet h1.hh,At.goes m g' c h1 i l K⟩
   |_=>rw[f]at h2;exact h2.elim
def kg{σ:List bm}{s:St}(b:∀B∈σ,B=.dead){ds:List Deferred}{ls:List Nat}(h:ov σ s ds ls):ds=[]:=by
 cases ds with
 |nil=>rfl
 |cons d ds =>
  cases ls with
  |nil=>exact h.elim
  |cons l ls =>
   have:=b _ (bL h.1.1);cases this
end
section
variable {k:Int}{ps:List bo}{ns:List Int}{C:Nat}{xs:List aj}
variable (k ps ns C)in
def Nu:Fr:=[(2,cI.sl ns),(3,.e (.one (.ptr 0 0))),(4,.e (.one (.ptr 1 0))),(8,.e (.one (.ptr 3 0))),(9,.e (.one (.ptr 4 0)))]
variable (k ps ns C xs)in
def Ak:List bm:=[.cells 3 [.c (.int .i64 k)],.cells 23 [.c (.sl ae 2 ps.length (cP.fn ps))],.dg (jX 177 2 (.row C ns.length) ns.length xs),.cells 167 [.c (.val (.slice (aa ⟨C,0,af⟩) ns.length ns.length))],.cells 175 [.c (.int .u64 0),.c (.int .u32 0)]]
variable (k ps ns)in
def Mh(x i:Nat):aj:=if i=0 then .string ⟨((di k ps (ns.getD x 0)).getD []).toArray⟩else .bool (di k ps (ns.getD x 0)).isSome
variable (k ps ns)in
def lO:List aj:=ns.flatMap λn=>[.string ⟨((di k ps n).getD []).toArray⟩,.bool (di k ps n).isSome]
variable (k ps ns C)in
def Eo:List bm:=[.dead,.dead,.dg (jX 177 2 (.row C ns.length) ns.length (lO k ps ns)),.dead,.dead]
def pR3{X:Cx ag}:AW X 45 Yw (NQ ((18,cI.sl ns)::(19,dI ns.length)::(20,dI 0)::Nu ns) (Ak k ps ns C xs)) (Nu ns) (Ak k ps ns C xs):=by refine AK.of_code ?_;refine bA rfl aq ⟨rfl,dw rfl ?_,rfl⟩;simp
theorem B6:(lO k ps ns).length=ns.length*2:=by
 unfold lO;induction ns with
 |nil=>rfl
 |cons n r b=>grind
def Al:∀{ns:List Int}{x i:Nat},x<ns.length->i<2->(lO k ps ns)[2*x+i]?=aa (Mh k ps ns x i)
 |[],x,i,h,_=>by grind
 |n::r,0,i,_,hi=>by
  match i,hi with
  |0,_=>rfl
  |1,_=>rfl
 |n::r,x+1,i,h,hi=>by have:=Al (ns:=r) (x:=x) (i:=i) (by grind) hi;unfold lO at this⊢;rw[rq,fR (by grind)];rw[show 2*(x+1)+i - [Value.string ⟨((di k ps n).getD []).toArray⟩,Value.bool (di k ps n).isSome].length=2*x+i by grind];rw[this];simp[Mh]
def _root_.Go.AM.cx.seen{N b:Nat}{d:D}{σ:List bm}{s:St}{φ:Fr}{a:Act}(f:cx N σ s φ a)(h:dk σ s (a.tmps.getD b ai) d):cx N σ s ((b,d)::φ) a:=by
 refine⟨f.size,f.defers,λt=>?_⟩;simp only[look];cases hb:az b t with
 |false=>exact f.slot t
 |true=>grind[Nat.eq_of_beq_eq_true]
abbrev Ka(n C:Nat):Fr:=[(8,.e (.one (.c (.rp [.val (.slice (aa ⟨C,0,af⟩) n n)]))))]
variable (k ps ns C)in
abbrev TN:Fr:=(8,.e (.one (.c (.rp [.val (.slice (aa ⟨C,0,af⟩) ns.length ns.length)]))))::(4,.e (.one (.c (.rp [.sl ae 2 ps.length (cP.fn ps)]))))::(3,.e (.one (.c (.rp [.int .i64 k]))))::(18,cI.sl ns)::(19,dI ns.length)::(20,dI 0)::[(9,.e (.one (.ptr 4 0)))]
def TO(hfe:dH (Cx.work ag) 133 (lN k)){Q:Post}(hn:ns.length<=4000000)(TP:ql (Cx.beside ag) 45 qx Q (Ka ns.length C) (Eo k ps ns C)):ql (Cx.beside ag) 45 WM Q (Nu ns) (Ak k ps ns C xs):=by
 intro so ao hf hho b kk cs S hb LX hQ;have h:At (Ak k ps ns C xs) so (Nu ns) (Ak k ps ns C xs) ao so:=⟨hf,hho,.refl _ _⟩;refine h.ctl rfl (λw=>u7 QP) λs h=>?_
 refine h.ctl rfl (λw=>nK) λs h=>?_;refine h.code hb pR3 λa s h=>?_;obtain⟨s1,w1,f1,D,PF⟩:=cx.freeze 3 0 (E:=3) (cs:=[.c (.int .i64 k)]) (cc:=[.int .i64 k]) rfl rfl rfl h.fr h.hh;refine .ghost (.of h.hh D w1 (PF.oe h.hh)) ?_;obtain⟨s2,w2,f2,A,oq⟩:=cx.freeze 4 1 (E:=23) (cs:=[.c (.sl ae 2 ps.length (cP.fn ps))]) (cc:=[.sl ae 2 ps.length (cP.fn ps)]) rfl rfl rfl f1 D;refine .ghost (.of D A w2 (oq.oe D)) ?_;obtain⟨s3,w3,f3,R4,Tk⟩:=cx.freeze 8 3 (E:=167) (cs:=[.c (.val (.slice (aa ⟨C,0,af⟩) ns.length ns.length))]) (cc:=[.val (.slice (aa ⟨C,0,af⟩) ns.length ns.length)]) rfl rfl rfl f2 A;refine .ghost (.of A R4 w3 (Tk.oe A)) ?_;have h:At (Ak k ps ns C xs) so (TN k ps ns C)
   [.dead,.dead,.dg (jX 177 2 (.row C ns.length) ns.length xs),.dead,.cells 175 [.c (.int .u64 0),.c (.int .u32 0)]] a s3 :=
  ⟨f3.le (dw rfl (by simp)),R4,h.st.trans ((PF.oe h.hh).trans ((oq.oe D).trans (Tk.oe A)))⟩
 clear PF oq Tk f1 f2 f3 D A R4;refine h.ctl rfl (λw=>rH) λs h=>?_;refine h.ctl rfl (λw=>Ff) λs h=>?_;have hlen:=h.hh.len;simp only[en,hO]at hlen;obtain⟨F,y⟩:∃L,s.β[2]?=aa L:=⟨_,bn (by omega)⟩
 obtain⟨W,O⟩:∃L,s.β[4]?=aa L:=⟨_,bn (by omega)⟩
 obtain⟨ch,hH,TQ,Sk,Ww⟩:=h.hh.box 2 _ F rfl y;obtain⟨zs,Xz,Pt,Sw⟩:=jX.lookup hH;obtain⟨Yx,_,XA,_,_,_⟩:=hH;have R:C∈F.bs:=(Sk C).2 (by grind);have TR:=TQ C _ Pt;obtain⟨Wg,vs,aa1,K,Ow,hM4⟩:=h.hh.box 4 _ W rfl O;have WN:vs=[.int .u64 0,.int .u32 0]:=by
  match vs,Ow with
  |[],r=>exact r.elim
  |[_],r=>exact r.2.elim
  |_::_::_::_,r=>exact r.2.2.elim
  |[u0,u1],r =>
   have r0:Rd s.M u0 (.int .u64 0):=r.1;have r1:Rd s.M u1 (.int .u32 0):=r.2.1;cases r0;cases r1;rfl
 subst WN;have Bi:C≠Wg:=by grind
 have hv9:a.tmps.getD 9 ai=.pointer (aa ⟨Wg,0,af⟩):=by obtain⟨_,L,bb,q1,q2,q3⟩:=h.fr.slot 9;grind
 obtain⟨g1,t1⟩:=h.hh.TK (l:=2) rfl y (.inr ⟨_,rfl⟩);have WO:(s.β.set 2 ⟨F.v,[]⟩)[4]?=aa W:=by grind
 obtain⟨g2,t2⟩:=g1.TK (l:=4) (B:=.cells 175 [.c (.int .u64 0),.c (.int .u32 0)]) rfl WO (.inl ⟨_,_,rfl⟩);generalize hsB:({s with β:=(s.β.set 2 ⟨F.v,[]⟩).set 4 ⟨W.v,[]⟩}:St)=sB at g2 t2;have eβ:sB.β=(s.β.set 2 ⟨F.v,[]⟩).set 4 ⟨W.v,[]⟩:=by grind
 have eM:sB.M=s.M:=by grind
 have ew:sB.w=s.w:=by grind
 have eo:sB.own=s.own:=by grind
 have Yy:aF d5 sB:=g2;have L5:=(t1.oe h.hh).trans (t2.oe g1);have WQ:sB.β[2]?=aa ⟨F.v,[]⟩:=by grind
 have u:∀L∈sB.β,∀x∈L.bs,∃l,l≠2/\l≠4/\s.β[l]?=aa L:=by grind[List.mem_iff_getElem?]
 have Di:C<s.w.heap.size:=h.hh.lt F (bL y) C R;have A0:Wg<s.w.heap.size:=h.hh.lt W (bL O) Wg (by grind)
 have Z:L4 C sB:=⟨by rw[eo];exactλho=>(h.hh.own C ho).2 F (bL y) R,λL d f=>by obtain⟨l,n2,n4,hl⟩:=u L d C f;exact n2 (h.hh.fY l 2 L F hl y C f R),λo=>by rw[eM];grind,by grind⟩
 have H:L4 Wg sB:=⟨by rw[eo];exactλho=>(h.hh.own Wg ho).2 W (bL O) (by grind),λL d f=>by obtain⟨l,n2,n4,hl⟩:=u L d Wg f;exact n4 (h.hh.fY l 4 L W hl O Wg f (by grind)),λo=>by rw[eM];grind,by grind⟩
 have fB:cx 45 d5 sB (mI k ps ns C Wg 0) a:=by have q:=h.fr.mono L5 h.hh.len;have q9:cx 45 d5 sB ((9,.e (.one (.v (.pointer (aa ⟨Wg,0,af⟩)))))::TN k ps ns C) a:=q.seen (by rw[hv9];exact Rd.val rfl);exact q9.le (dw rfl (by simp))
 have V:(xs++zs).toArray.size=2*ns.length:=by grind
 have MP:∀x,(s.own x∨∃L∈s.β,x∈L.bs)->x<s.w.heap.size:=λx f=>f.elim (λq=>(h.hh.own x q).1) λ⟨L,d,q⟩=>h.hh.lt L d x q;refine .vl (T:=λg' s'=>∃a4 m,At (Ak k ps ns C xs) so (Ka ns.length C) (Eo k ps ns C) a4 s'/\WgLive 175 Wg s'.w/\Goes ag ab (fy 175 Wg) DC0 (λg _=>g=G (b.aT (a4.put (aa 28) (.tuple #[])) (.inRegion xR []::.code qx::kk)) cs) m g' s'.w)
  (AX.fork (n:=ns.length) (ty:=175) (val:=Mh k ps ns) (N:=2*ns.length) (s0:=sB) 2 (by omega) Wg C (by omega) Bi (.of h.hh Yy ew L5) rfl ⟨F,bL y,R⟩ ⟨W,bL O,by grind⟩ MP ?_ K ⟨_,TR,V⟩ ?_) ?_
 .rintro x (rfl|rfl)
  .exact⟨Z.own,Z.β,Z.M⟩
  .exact⟨H.own,H.β,H.M⟩
 .intro Y hYW hYC hYk;subst hYW hYC;refine⟨TF k ps ns Y d5 sB b kk cs,U5 k ps ns Y d5 sB b kk cs,λg s f=>anF H LX f,?_,?_⟩
  .refine Nt hfe hYk H LX hb (by decide) hn (λi hi=>rfl) (λi hi=>rfl) ns.length (ba _) a sB ⟨by grind,Yy,.refl _ _⟩ ⟨_,_,by rw[ew];exact K⟩
  .rintro g' s' ⟨a4,⟨j,J7⟩,m,hgo⟩ hm' TS QQ S5 FB;obtain⟨o1,o2,o3⟩:=FB Y.C (.inl rfl);obtain⟨lZ,J,aa6⟩:=TS;have UX:lZ=(lO k ps ns).toArray:=by
    apply Array.ext_getElem?;intro o;have eo':(lO k ps ns).toArray[o]?=(lO k ps ns)[o]?:=by simp
    rw[eo'];rcases cM o (2*ns.length)with ho|ho
    .have q1:=QQ (o / 2) (by omega) (o % 2) (by omega);have q2:=Al (k:=k) (ps:=ps) (ns:=ns) (x:=o / 2) (i:=o % 2) (by omega) (by omega);rw[show 2*(o / 2)+o % 2=o by omega]at q1 q2;rw[q2];simpa[aR,J]using q1
    grind[B6]
   subst UX;have Df:s'.β.length=5:=j.hh.len;obtain⟨B2',Yz,p1,p2,p3⟩:=j.st.box 2 .dead ⟨F.v,[]⟩ rfl WQ;have aa8:Yz.v=.nilFunc:=by cases p1;exact(show Yz.v=F.v from p3).trans Yx
   have P:∀(l:Nat) (B:bm),d5[l]?=aa B->B=.dead:=by
    intro l B p
    match l,p with
    |0,p|1,p|2,p|3,p|4,p=>cases p;rfl
   have X:∀l,(s'.β.set 2 ⟨.nilFunc,[Y.C]⟩)[l]?=if l=2 then aa ⟨.nilFunc,[Y.C]⟩else s'.β[l]?:=by grind
   have z:∀L∈s'.β.set 2 ⟨.nilFunc,[Y.C]⟩,L=⟨.nilFunc,[Y.C]⟩∨L∈s'.β:=λL d=>by grind
   have hh4:aF (Eo k ps ns Y.C) {s' with β:=s'.β.set 2 ⟨.nilFunc,[Y.C]⟩}:=by
    refine⟨j.hh.mem,by simp[Df,Eo],?_,?_,?_,λx f=>⟨(j.hh.own x f).1,λL d I=>?_⟩⟩
    .intro l B L p d;rw[X]at d;by_cases e:l=2
     .subst e;rw[bc rfl]at d;cases d;cases p;refine⟨λb'=>if b'=Y.C then aa (.cells (lO k ps ns++[]).toArray 177 (0,0))else af,⟨rfl,?_,B6,ba _,by omega,[],by grind,rfl⟩,λb' ob oB=>?_,λb'=>?_,λb' oB o=>?_⟩
      .intro x f;simp only[lO,List.mem_flatMap]at f;obtain⟨_,_,f⟩:=f;simp only[eY,pz,or_false]at f;rcases f with rfl|rfl<;>rfl
      .by_cases e:b'=Y.C
       .subst e;simp only[bY]at oB;cases oB;rw[lr];exact J
       grind
      .by_cases e:b'=Y.C<;>simp[e]
      grind
     .match l,p,e with
      |0,p,_|1,p,_|3,p,_|4,p,_=>cases p;trivial
      |2,_,e=>grind
    .intro l l' L L' d gh x f OL;rw[X]at d gh;by_cases e:l=2
     .grind
     .rw[aW e]at d;by_cases e':l'=2
      .grind
      .rw[aW e']at gh;exact j.hh.fY l l' L L' d gh x f OL
    .intro L d x f;rcases z L d with rfl|d
     .grind
     .exact j.hh.lt L d x f
    .rcases z L d with rfl|d
     .grind
     .exact(j.hh.own x f).2 L d I
   have WR:cO [.dead,.dead,.dg (jX 177 2 (.row Y.C ns.length) ns.length xs),.dead,.cells 175 [.c (.int .u64 0),.c (.int .u32 0)]] s (Eo k ps ns Y.C) {s' with β:=s'.β.set 2 ⟨.nilFunc,[Y.C]⟩}:=by
    have q:=j.st;refine⟨by have:=q.size;grind,λx f=>by have:=q.keep x (by grind);grind,λx o v f=>q.mem x o v (by grind),λx f Y2 o=>?_,λL d x f=>?_,?_,by rw[q.os,ew],by rw[q.tape,ew],by rw[q.output,ew],by rw[q.own,eo]⟩
    .rw[q.iI x (by grind) (λL d I=>by
      obtain⟨l,_,_,hl⟩:=u L d x I
      grind) o,eM]
    .rcases z L d with rfl|d
     .grind
     .rcases q.uP L d x f with r1|⟨L0,r1,r2⟩
      .grind
      .obtain⟨l,_,_,hl⟩:=u L0 r1 x r2;grind
    .intro l B L p d;obtain⟨B1,L1,r1,r2,r3⟩:=L5.box l B L p d;obtain⟨B3,L3,u1,u2,u3⟩:=q.box l B1 L1 r1 r2;have eB1:=P l B1 r1;have eB3:=P l B3 u1;subst eB1 eB3;by_cases e:l=2
     .subst e;cases p;rw[y]at d;cases d;exact⟨_,⟨.nilFunc,[Y.C]⟩,rfl,by grind,Yx.symm⟩
     .refine⟨.dead,L3,?_,by grind,r3.trans u3⟩
      match l,u1,e with
      |0,_,_|1,_,_|3,_,_|4,_,_=>rfl
      |2,_,e=>grind
   refine⟨{s' with β:=s'.β.set 2 ⟨.nilFunc,[Y.C]⟩},⟨a4,m,⟨⟨j.fr.size,⟨[],?_⟩,λt=>?_⟩,hh4,h.st.trans WR⟩,J7,hgo⟩,rfl,hm',λSh U hnC=>⟨U.own,λx f L d I=>?_,U.M,U.lt⟩⟩
   .obtain⟨ls,P8⟩:=j.fr.defers;rw[kg (λB p=>by grind) P8];trivial
   .have fq:cx 45 d5 s' (Ka ns.length Y.C) a4:=j.fr.le (dw rfl (by simp));exact dk.closed (s:=s') (s':={s' with β:=s'.β.set 2 ⟨.nilFunc,[Y.C]⟩}) rfl (fq.slot t) (pW rfl)
   .rcases z L d with rfl|d
    .grind
    .exact U.β x f L d I
 .rintro g' s' ⟨a4,m,h4,hl4,hgo⟩;refine At.goes m g' s' h4 hl4 hgo λs1 h1=>?_;have h2:At (Ak k ps ns C xs) so ((28,.any)::Ka ns.length C) (Eo k ps ns C) (a4.put (aa 28) (.tuple #[])) s1:=⟨h1.fr.put (by decide) aq,h1.hh,h1.st⟩
  refine h2.ctl rfl (λw=>iK) λs2 h3=>?_;refine TP s2 _ (h3.fr.le (dw rfl (by simp))) h3.hh b kk cs S hb LX λe φ' σ' s' a' q f' h' qk=>hQ e φ' σ' s' a' q f' h' (h3.st.trans qk)
end
end
abbrev WT(a:List Bs)(b:Bool):D:=.fK [.one (.c (.sl ae 1 a.length (cS.fn a))),.one (.c (.bool b))]
def dJ(k:Int)(ps:List bo)(ns:List Int):Option (List Bs):=if ns.all (λn=>(di k ps n).isSome)then aa (ns.map λn=>(di k ps n).getD [])else af
noncomputable def cR0:Code:=wI Em
noncomputable def cR1:Code:=wI (kH Em)
noncomputable def cR2:Code:=wI (kH (kH Em))
def Nv:Tryz.f97.body=aa (.seq cR0 (.seq cR1 (.seq cR2 WM))):=by kernel_rfl
def QR(k:Int)(ps:List bo)(ns:List Int)(i:Nat):List AM.C:=[.str ((di k ps (ns.getD i 0)).getD []),.bool (di k ps (ns.getD i 0)).isSome]
def ux(k:Int)(ps:List bo)(ns:List Int):List Bs:=ns.map λn=>(di k ps n).getD []
theorem B7{b p:Bs}(h:fj b=aa p):p.length<=8:=by
 unfold fj at h;split at h
 .rename_i a;cases h;simp only[bJ,bH,bh]at a;omega
 grind
theorem Hj{k:Int}{x:db}{p:Bs}(h:chunk k x=aa p):p.length<=8:=by unfold chunk at h;grind[B7]
theorem yw{k:Int}{ps:List bo}{n:Int}:((di k ps n).getD []).length<=8:=by
 cases h:di k ps n with
 |none=>simp
 |some p =>
  obtain⟨q,_,a⟩:=List.exists_of_findSome?_eq_some h;unfold dx at a;grind[Hj]
theorem QS{k:Int}{ps:List bo}{ns:List Int}(hi:i<ns.length){c:AM.C}{x:aj}(a:(QR k ps ns i)[j]?=aa c)(d:(lO k ps ns)[i*2+j]?=aa x):Rd M x c:=by
 have b:j<2:=(cf.1 a).1;have:=Al (k:=k) (ps:=ps) hi b;rw[Nat.mul_comm,this]at d;cases d
 match j,b with
 |0,_ =>
  cases a;have:=yw (k:=k) (ps:=ps) (n:=ns.getD i 0);exact .str rfl (by omega)
 |1,_=>cases a;exact .bool
def _root_.Go.AM.ql.le{P:aK}{X:Cx P}{N:Nat}{Q:Post}{φ φ':Fr}{σ:List bm}{c:Code}(h:ql X N c Q φ' σ)(hl:rY φ φ'):ql X N c Q φ σ:=λs a f hh=>h s a (f.le hl) hh
def BZ{k:Int}(f:dH (Cx.work ag) 133 (lN k))(ps:List bo)(ns:List Int)(r:ns.length<=4000000):
  Ev (Cx.beside ag) 97 [dI k,cP.sl ps,cI.sl ns] [] (WT ((dJ k ps ns).getD []) (dJ k ps ns).isSome) []:=by
 refine dW.GI (dW.DS (ι:=Unit) Tryz.func97 rfl Nv rfl λs=>?_);show ql _ 45 _ _ _ _;refine ql.seq (AW.top (AK.of_code ?_));refine bA rfl aq ?_;show ql _ 45 _ _ _ _;refine ql.seq (AW.top (AK.of_code ?_));refine bA rfl aq ?_;refine AK.Iy (E:=177) (n:=ns.length) tok rfl rfl rfl rfl rfl rfl (by show _*24<=_;omega) (by omega) rfl rfl λC xs=>?_;refine bA rfl aq ?_;show ql _ 45 _ _ _ _;refine ql.seq (AW.top (AK.of_code ?_));refine bA rfl aq ?_;show ql _ 45 _ _ _ _;have a:ql (Cx.beside ag) 45 qx (λe φ σ1=>∃_:Unit,cg Tryz.f97 0 (WT ((dJ k ps ns).getD []) (dJ k ps ns).isSome) [] e φ σ1) (Ka ns.length C) (Eo k ps ns C):=by
  refine AW.top (AW.mono (Q:=cg Tryz.f97 0 (WT ((dJ k ps ns).getD []) (dJ k ps ns).isSome) []) (AK.of_code ?_) λ_ _ _ q=>⟨(),q⟩);refine bA rfl (show _<=_ by omega) ?_;refine AK.vp 29 2 (bf:=.row C ns.length) (n:=ns.length) (k:=2) (QR k ps ns) rfl rfl (λi hi=>⟨rfl,λM j c x u t=>?_⟩) ?_
  .grind [QS]
  refine AK.ik 12 9 1 rfl rfl ?_;refine AK.bS 6 (λi=>i<=ns.length/\∀j,j<i->(di k ps (ns.getD j 0)).isSome=ab) (λi:Nat=>[(29,.e (.one (.c (.sl ae 2 ns.length (QR k ps ns))))),(30,dI ns.length),(31,dI i),(12,.e (.one (.vec 5 1 (ux k ps (ns.take i)).length (cS.fn (ux k ps (ns.take i))))))]) (λi=>[.dead,.dead,.dead,.dead,.dead,.vec 9 1 (ux k ps (ns.take i)).length (cS.fn (ux k ps (ns.take i)))]) (λi=>ns.length-i) 0 rfl ?_ rfl ?_ rfl ⟨by omega,by omega⟩ ?_
  .simp[cq,ux]
  .simp[cq,ux]
  rintro i ⟨hi,m⟩;by_cases h:i<ns.length
  .cases o:(di k ps (ns.getD i 0)).isSome with
   |true =>
    have b:ux k ps (ns.take (i+1))=ux k ps (ns.take i)++[(di k ps (ns.getD i 0)).getD []]:=by unfold ux;grind[List.take_add_one]
    have p:(ux k ps (ns.take i)).length<=4000000:=by simp[ux];omega
    refine bE [(32,ab),(37,ae)] rfl ?_ (AK.aQ (i+1) rfl ?_ ?_ ?_ ?_)
    .simp[-ah,h,QR,o,bt];have:i9.bytes=16:=rfl;grind
    .rw[b];simp[-ah,QR];exact cS.cm _ _
    .rw[b];simp[-ah,QR];exact cS.cm _ _
    .grind
    .omega
   |false =>
    refine bE [(32,ab),(37,ab)] rfl ?_ (AK.eP (cg.zero rfl ?_))
    .simp[-ah,h,QR,o]
    .have l:dJ k ps ns=af:=by unfold dJ;rw[aW];grind
     simp[l]
  .have g:i=ns.length:=by omega
   subst g;refine bE [(32,ae)] rfl (by simp) (AK.leaveD rfl rfl ?_);refine c6 rfl aq (AK.bq rfl ?_);have d:dJ k ps ns=aa (ux k ps ns):=by
    unfold dJ;rw[bc]
    .rfl
    grind[List.mem_iff_getElem]
   simp[d]
 exact ql.le (σ:=Ak k ps ns C xs) (TO (xs:=xs) f r a) (dw rfl (by simp))
end R1
end Go.AM
namespace Go.AM.R1
def jI(a:UInt8)(s:Bs):ir (a::s)=if a=47 then 0 else if ir s=-1 then -1 else ir s+1:=by unfold ir;grind[Lib.indexByte.eq_def]
def vb:ir []=-1:=by unfold ir;rw[Lib.indexByte.eq_def]
def Hu(s:Bs):eW s=dF s:=by
 by_cases i:s.length<=3
 .match s,i with
  |[],_=>simp[eW,dF,cv,jh,vb]
  |[a],_ =>
   by_cases d:a=47
   .subst d;simp[eW,dF,cv,jh,ml,jQ,jI,lR,cz]
   .simp[eW,dF,cv,jh,jQ,jI,vb,d,lR,cz]
  |[a,b],_ =>
   by_cases d:a=47
   .subst d;simp[eW,dF,cv,jh,ml,jQ,jI]
   .by_cases e:b=47
    .subst e;simp[eW,dF,cv,jh,ml,jQ,jI,d]
    .simp[eW,dF,cv,jh,jQ,jI,vb,d,e]
  |[a,b,c],_ =>
   by_cases d:a=47
   .subst d;simp[eW,dF,cv,jh,ml,jQ,jI,lR,cz]
   .by_cases e:b=47
    .subst e;simp[eW,dF,cv,jh,ml,jQ,jI,d,lR,cz]
    .have f:¬(b.toNat:Int)=47:=by intro h;apply e;apply pC.1;grind
     by_cases g:c=47
     .subst g;simp[eW,dF,cv,jh,ml,jQ,jI,d,e,lR,cz]
     .simp[eW,dF,cv,jh,jQ,jI,vb,d,e,g,f,lR,cz]
  |_::_::_::_::_,h=>grind
 .have j:dF s=ae:=by unfold dF;grind
  grind[uc]
end Go.AM.R1
namespace Go.AM
theorem sh(a:Bs):bd a []=ae:=by rw[Op.bytesLess.eq_def]
def w7(b:UInt8)(l:Bs):bd [] (b::l)=ab:=by rw[Op.bytesLess.eq_def]
theorem si(a b:UInt8)(x y:Bs):bd (a::x) (b::y)=(decide (a<b)||a==b&&bd x y):=by rw[Op.bytesLess.eq_def]
theorem qa:∀a:Bs,bd a a=ae
 |[]=>sh []
 |a::l=>by rw[si,qa l];simp
def Cp:∀a b:Bs,bd a b=ab∨a=b∨bd b a=ab
 |[],[]=>.inr (.inl rfl)
 |[],b::y=>.inl (w7 b y)
 |a::x,[]=>.inr (.inr (w7 a x))
 |a::x,b::y=>by
  rw[si,si];rcases Cp x y with h|h|h
  .grind
  .grind
  grind
theorem w8:∀{a b c:Bs},bd a b=ab->bd b c=ab->bd a c=ab
 |a,b,[],_,d=>by grind[sh]
 |a,[],c::z,e,_=>by grind[sh]
 |[],b::y,c::z,_,_=>w7 c z
 |a::x,b::y,c::z,e,d=>by
  rw[si,mD,bJ,bh,eG]at e d⊢;rcases e with e|⟨rfl,e⟩
  .grind
  .rcases d with d|⟨rfl,d⟩
   .grind
   .exact .inr ⟨rfl,w8 e d⟩
theorem Cq{a b:Bs}(h:bd a b=ab):bd b a=ae:=by grind[w8,qa]
def Q8{a b:Bs}:(!(bd b a||b==a))=bd a b:=by
 rcases Cp a b with h|h|h
 .have c:(b==a)=ae:=by simp only[dG,cT];grind[qa]
  grind[Cq]
 .grind [qa]
 grind[Cq]
namespace R1
def T8{t:List bu}{i:Nat}(h:∀k,0<k->k<=i->bd (fe t (k-1)) (fe t k)=ab):∀j,j<i->bd (fe t j) (fe t i)=ab:=by
 intro j f;induction i with
 |zero=>omega
 |succ i d =>
  have c:=h (i+1) (by omega) (ba _);simp only[px]at c;by_cases e:j=i
  .grind
  .exact w8 (d (λk a b=>h k a (by omega)) (by omega)) c
def ud{s:Bs}(h:dF s=ab):(∃a,s=[a])∨∃a b,s=[a,47,b]:=by
 unfold dF at h;split at h
 .rename_i d
  match s,d with
  |[a],_=>grind
 .split at h
  .rename_i d
   match s,d with
   |[a,b,c],_ =>
    right;simp[lR,cz]at h;have e:b=47:=by apply pC.1;grind
    grind
  grind
theorem Cr{p q:Bs}(i:dF p=ab)(g:dF q=ab)(f:bd p q=ab):clash p q=under q p:=by
 rcases ud i with⟨a,rfl⟩|⟨a,b,rfl⟩<;>rcases ud g with⟨c,rfl⟩|⟨c,d,rfl⟩
 .simp[clash,under,kR]
 .by_cases e:a=c
  .subst e;simp[clash,under,kR,cz]
  .have:¬(a.toNat:Int)=c.toNat:=λh=>e (pC.1 (by omega));have k:((a.toNat:Int)==(c.toNat:Int))=ae:=by grind
   have j:(c==a)=ae:=by grind
   simp[clash,under,kR,cz];grind
 .have:¬(a.toNat:Int)=c.toNat:=by grind[UInt8.toNat_inj,si,sh]
  simp[clash,under,kR,cz,this]
 .simp[clash,under,kR]
theorem yI{t:List bu}{i:Nat}(a:∀j,j<i->gB t j=ab):iU t i=gB t i:=by
 unfold iU gB;rw[Hu,Q8];cases n:dF (fe t i)with
 |false=>simp
 |true =>
  cases h:dN (uy t i)with
  |false=>simp
  |true =>
   cases g:(i==0||bd (fe t (i-1)) (fe t i))with
   |false=>simp
   |true =>
    simp only[eL];have m:∀j,j<i->bd (fe t j) (fe t i)=ab:=by
     apply T8;intro k f b;by_cases e:k=i
     .grind
     .have:=a k (by omega);simp only[gB,bJ,mD,eG]at this;grind
    rw[nF,cK,cK];have l:∀j,j<i->clash (fe t j) (fe t i)=under (fe t i) (fe t j):=by
     intro j d;have c:dF (fe t j)=ab:=by have:=a j d;simp only[gB,bJ]at this;exact this.1.1.1
     grind[Cr]
    grind
def Hf(t:List bu):n8 t=cE t:=by
 unfold n8 cE;congr 1;rw[nF,cK,cK];constructor
 .intro h i;induction i using Nat.strongRecOn with
  |_ i a=>grind[yI]
 grind[yI]
end R1
end Go.AM
