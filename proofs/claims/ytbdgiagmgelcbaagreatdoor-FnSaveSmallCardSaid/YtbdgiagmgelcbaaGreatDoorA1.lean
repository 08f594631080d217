/- Part 1. No condition. -/
import Derived.KernelRfl
import Derived.Tactics2
import Derived.LaidSub
import Derived.LaidLaws
import Derived.LaidHandle
import Derived.Conc.Own
import Derived.Conc.Events
import Derived.Conc.Listed
import Derived.Laws.CopyRow
import Derived.Laws.AppendOwn
import Derived.Laws.Rows
import Derived.Laws.Strings
import Derived.Laws.Cells
import Derived.Lib.Strings
import Derived.Laws.Slices
import Derived.Orders
import Derived.Laws.StructEq
set_option linter.all false
set_option maxHeartbeats 8000000
open Go.Conc (G)
open List renaming length → c, range → aI, replicate → aW, getD_eq_getElem?_getD → av
open Go renaming Value → I, TypeId → ab, Event → ay, undef → E, World → af, Operand → Z, execOp → W, Program → aw, Oper → ah, Goroutine → ae, stepG → ap, Frame → az, FuncId → ar
open Option renaming some → b, none → k
open Bool renaming true → i, false → m
open Nat renaming beq → aa, ble → aD
open Go.World renaming cell? → aJ
open Go.Sem renaming events_pure → aT, events_bind → aE
open Go.Region renaming wanted → aS, ready → aQ
open Go.Op renaming bytesLess → aK, equalIn → aM
open Go.Result renaming evThen_ok → aH
open Go.Instr renaming sureAddr → aU, sliceBounds → aV
set_option linter.defProp false
set_option linter.deprecated false
namespace Go
def M:=@_root_.trivial
def bu:=@_root_.List.getElem?_eq_getElem
def bM:=@_root_.decide_eq_true_eq
def bZ:=@_root_.List.mem_of_getElem?
def cD:=@_root_.List.getElem?_eq_some_iff
def c1:=@_root_.Nat.eq_of_beq_eq_true
def bl:=@_root_.and_true
def bn:=@_root_.true_and
def d6:=@_root_.decide_eq_false_iff_not
def ct:=@_root_.Bool.and_eq_true
def bE:=@_root_.Nat.le_refl
def cM:=@_root_.Go.Result.andThen_ok
def dB:=@_root_.Int.toNat_natCast
def cn:=@_root_.Go.Sem.run_bind
def cX:=@_root_.Nat.zero_add
def dZ:=@_root_.List.length_append
def gJ:=@_root_.Array.getD_eq_getD_getElem?
def ej:=@_root_.Nat.lt_of_lt_of_le
def e':=@_root_.Nat.le_of_ble_eq_true
def ft:=@_root_.List.getElem_of_mem
def bp:=@_root_.if_neg
def eN:=@_root_.List.mem_singleton
def eA:=@_root_.Option.some.injEq
def dv:=@_root_.Go.Sem.run_pure
def bF:=@_root_.if_pos
def eB:=@_root_.List.take_length
def gW:=@_root_.Array.getElem?_eq_getElem
def cr:=@_root_.if_false
def gK:=@_root_.List.getElem?_append_right
def gn:=@_root_.beq_eq_false_iff_ne
def gC:=@_root_.Nat.mul_le_mul_right
def dJ:=@_root_.Nat.lt_or_ge
def ef:=@_root_.List.mem_cons
def j5:=@_root_.List.eq_nil_of_length_eq_zero
def hM:=@_root_.Array.getElem?_eq_some_iff
def gD:=@_root_.not_true_eq_false
def gE:=@_root_.List.mem_of_mem_take
def fR:=@_root_.List.length_cons
def hN:=@_root_.List.getElem?_set_self
def iE:=@_root_.List.length_singleton
def fu:=@_root_.List.mem_append
def cN:=@_root_.if_true
def k0:=@_root_.List.pairwise_iff_getElem
def gf:=@_root_.decide_eq_true
def jE:=@_root_.List.getElem?_append_left
def ia:=@_root_.List.pairwise_cons
def iF:=@_root_.List.getElem?_toArray
def gX:=@_root_.List.length_nil
def iG:=@_root_.Bool.not_eq_true'
def fF:=@_root_.List.mem_map
def gY:=@_root_.Nat.not_lt_zero
def j6:=@_root_.List.getElem?_cons_zero
def hO:=@_root_.Option.getD_some
def iH:=@_root_.List.mem_cons_self
def sS:=@_root_.List.take_append_drop
def hx:=@_root_.List.foldl_cons
def hP:=@_root_.Bool.or_eq_true
def gL:=@_root_.Bool.true_and
def sT:=@_root_.List.ext_getElem?
def er:=@_root_.congrArg
def iI:=@_root_.List.length_map
def j7:=@_root_.List.getElem?_set_ne
def nz:=@_root_.Array.getElem?_setIfInBounds_ne
def j8:=@_root_.beq_self_eq_true
def jF:=@_root_.Bool.false_eq_true
def pJ:=@_root_.Array.getElem?_setIfInBounds_self_of_lt
def iJ:=@_root_.List.append_nil
def kw:=@_root_.List.getElem?_take
def lV:=@_root_.Array.length_toList
def k2:=@_root_.List.mem_cons_of_mem
def u_:=@_root_.Array.getElem?_replicate
def qM:=@_root_.List.take_add_one
def gZ:=@_root_.beq_iff_eq
def mN:=@_root_.bne_self_eq_false
def nA:=@_root_.List.getElem?_cons_succ
def nB:=@_root_.not_false_eq_true
def iK:=@_root_.Nat.add_zero
def k3:=@_root_.Bool.not_true
def i_:=@_root_.Nat.le_trans
def sU:=@_root_.Nat.beq_refl
def lW:=@_root_.List.getElem?_map
def mO:=@_root_.List.append_assoc
def mP:=@_root_.Nat.eq_zero_or_pos
def iL:=@_root_.Nat.add_mul
def CL:=@_root_.List.mem_iff_getElem
def u':=@_root_.Array.mapM_eq_mapM_toList
def pK:=@_root_.Array.mem_of_getElem?
def lX:=@_root_.decide_false
def lY:=@_root_.Option.map_some
def lZ:=@_root_.List.mem_filter
def l0:=@_root_.decide_true
def jG:=@_root_.Nat.zero_le
def va:=@_root_.Array.toArray_toList
def CM:=@_root_.List.findIdx?_eq_some_iff_getElem
def k4:=@_root_.Prod.mk.injEq
def e3:=@_root_.ne_eq
def pL:=@_root_.Option.map_eq_some_iff
def l1:=@_root_.Bool.not_false
def nC:=@_root_.Option.bind_some
def qN:=@_root_.Nat.add_sub_cancel
def nw:=@_root_.List.mem_flatMap
def ow:=@_root_.List.getElem?_drop
def x_:=@_root_.Option.isSome_iff_exists
def ox:=@_root_.Nat.succ_mul
def pz:=@_root_.List.pairwise_append
def pA:=@_root_.List.mem_of_mem_drop
def oy:=@_root_.List.flatMap_cons
def nx:=@_root_.List.nil_append
def pB:=@_root_.List.map_congr_left
def oz:=@_root_.List.not_mem_nil
def oA:=@_root_.Nat.mod_lt
def ny:=@_root_.List.mapM_cons
def x':=@_root_.Bool.and_eq_false_iff
def qD:=@_root_.Nat.div_lt_of_lt_mul
def qE:=@_root_.Bool.or_eq_false_iff
def sI:=@_root_.Array.mem_toList_iff
def pC:=@_root_.List.mem_range
def pD:=@_root_.List.ext_getElem
def pE:=@_root_.Bool.not_eq_true
def pF:=@_root_.Nat.sub_zero
def qF:=@_root_.Int.emod_lt_of_pos
def ya:=@_root_.Bool.not_eq_false'
def sJ:=@_root_.UInt8.toNat_inj
def pG:=@_root_.Bool.eq_iff_iff
def oB:=@_root_.List.map_cons
def yb:=@_root_.Nat.ble_eq_true_of_le
def qG:=@_root_.List.pairwise_map
def qH:=@_root_.List.nodup_append
def sK:=@_root_.Array.toList_push
def pH:=@_root_.bne_iff_ne
def sL:=@_root_.Nat.div_add_mod'
def qI:=@_root_.List.getElem_mem
def uX:=@_root_.List.mem_of_find?_eq_some
def sM:=@_root_.Int.toNat_of_nonneg
def qJ:=@_root_.decide_eq_false
def qK:=@_root_.Int.emod_nonneg
def uY:=@_root_.Nat.le_mul_of_pos_right
def sN:=@_root_.of_decide_eq_true
def uZ:=@_root_.List.range_succ_eq_map
def u0:=@_root_.Array.getElem?_push_lt
def u1:=@_root_.List.getElem?_eq_none
def oC:=@_root_.Nat.not_lt
def u2:=@_root_.List.length_drop
def sO:=@_root_.List.cons_append
def u3:=@_root_.Nat.mul_le_mul_left
def u4:=@_root_.List.flatMap_append
def u5:=@_root_.List.filter_eq_self
def sP:=@_root_.Bool.false_and
def W4:=@_root_.List.drop_eq_getElem_cons
def yc:=@_root_.Nat.lt_succ_iff_lt_or_eq
def yd:=@_root_.Nat.add_sub_cancel_left
def u6:=@_root_.List.drop_length
def sQ:=@_root_.List.map_map
def CJ:=@_root_.List.drop_eq_nil_of_le
def ye:=@_root_.Array.getElem?_eq_none
def qL:=@_root_.Array.ext'
def u7:=@_root_.Option.some.inj
def u9:=@_root_.List.nodup_cons
def yf:=@_root_.Array.mem_iff_getElem
def CK:=@_root_.Array.getElem?_toList
def pI:=@_root_.or_false
def yg:=@_root_.List.mem_append_left
def yh:=@_root_.List.getElem?_of_mem
def yi:=@_root_.Array.getElem_modify
def oD:=@_root_.true_or
def yj:=@_root_.Nat.add_sub_cancel'
def yk:=@_root_.List.length_pos_iff
def sR:=@_root_.Go.Sem.run_ite
def bN{α:Sort _}{β:α→Sort _}{ac:(A:α)→β A}:∀A,ac A=ac A:=λ_=>rfl
def a{α:Sort _}{t:α}:t=t:=rfl
section
variable{U:Prop}
abbrev e.{bk}(α:Type bk):=List α
def x(n:U:=by omega):=n
def J(n:U:=by grind):=n
def Q(n:U:=by simp):=n
def bO(n:U:=by kernel_rfl):=n
def cb(n:U:=by simp;omega):=n
def cz(n:U:=by decide):=n
def fk(n:U:=by rw[bc.len];grind):=n
def dX(n:U:=by simp_all):=n
def qv(n:U:=by simp only[V,a9,bM,bn,bl];and_intros<;>omega):=n
def pn(n:U:=by simp[G,ap,stepG.exec,Frame.i]):=n
def kS(n:U:=by simp only[phi];omega):=n
def lK(n:U:=by grind[ni]):=n
def Jc(n:U:=by have o:A.data.toList.length=A.size:=lV;have y:cd.data.toList.length=cd.size:=lV;have ak:IntKind.i64.max=9223372036854775807:=rfl;have X:A.data.toList.length+cd.data.toList.length<=9223372036854775807:=cO;grind):=n
def kT(n:U:=by apply sT;grind):=n
def mw(n:U:=by simp only[a9];omega):=n
def B7(n:U:=by show(aM (9999+1) w _ _).run P d.a=_;unfold aM;simp[underlying,X]):=n
def hc(n:U:=by simp[n]):=n
def kU(n:U:=by simp[a9]):=n
def pk(n:U:=by simp only[V,a9];omega):=n
def W2(n:U:=by rw[t];simp only[iq,x',d6];omega):=n
def sk(n:U:=by rw[<-aG];decide +kernel):=n
def oo(n:U:=by grind[og]):=n
def uG(n:U:=by simp only[ib,V];omega):=n
def pm(n:U:=by cases he):=n
def xJ(n:U:=by grind[HO]):=n
def Cf(n:U:=by rw[<-touchAt_old (u:=bk) (ej bL n.bA)];exact p):=n
def Cg(n:U:=by rw[<-touchAt_old (u:=bk) (ej bL n.bA)];exact o):=n
def Ch(n:U:=by grind[Bl]):=n
def K9(n:U:=by simp[-aX,-List.all_eq_false,cI,j,u,t,br.ad,cG.ad,bV.ad,ac,ak,X]):=n
def xK(n:U:=by intro s aG W7;grind[uv,lJ]):=n
def Ls(n:U:=by show(aM (9999+1) w _ _).run P d.a=_;unfold aM;simp[underlying,U]):=n
def nk(n:U:=by rfl):=n
def Lx(n:U:=by rw[CK,gW (by omega:f<L.size)];simpa[gJ,gW (by omega:f<L.size)]using H):=n
def sl(n:U:=by grind[ja]):=n
def Ly(n:U:=by refine ad.E Tryz.func236 rfl λt=>?_;exact cq rfl (by simp[a9]) (g.an rfl)):=n
def Ci(n:U:=by simp[G,ap,stepG.exec,Frame.i,n]):=n
def Lz(n:U:=by intro g8 ak u;match g8,u with|0,_=>exact .inr (by simp[deafBehind])|g8+1,u=>grind):=n
def xL(n:U:=by grind[List.getElem_of_mem]):=n
def sm(n:U:=by simp[a9];omega):=n
def mx(n:U:=by simp[t]):=n
def xM(n:U:=by simp[b4]):=n
def Cj(n:U:=by show(d.a.drew.heap.push _).size=_;simp):=n
def sn(n:U:=by simp[<-bc.len]):=n
def LA(n:U:=by unfold gy;rw[mO];congr 1;rw[ni (by grind) (0,0)];grind):=n
def Ck(n:U:=by simp only[gJ];grind):=n
def so(n:U:=by simpa using n):=n
def LB(n:U:=by simp[W,cO,resolve,invoke,builtin,Builtin.len_,ac,a2,goInt,X]):=n
def xN(n:U:=by simp only[du,sU]):=n
def LC(n:U:=by grind[Array.mapM_eq_mapM_toList,Sem.run_map,Go.Result.andThen_ok]):=n
def LD(n:U:=by rw[show((d.2.1.length:Int)-1).toNat=d.2.1.length-1 by omega];rfl):=n
def Cl(n:U:=by rw[<-ox];exact gC _ bL):=n
def qs(n:U:=by grind[mr]):=n
def uH(n:U:=by grind[lk]):=n
def xO(n:U:=by simp[World.freeze,ac]):=n
def sq(n:U:=by simp[b4,ak]):=n
def Cm(n:U:=by grind[List.take_append_drop]):=n
def LF(n:U:=by simp[W,n,bk,Instr.loadAt,aU]):=n
def xP(n:U:=by unfold jt;grind):=n
def Cn(n:U:=by simp[gU,h8,mi,iw]):=n
def qt(n:U:=by simp[cI]):=n
def qu(n:U:=by simp;rfl):=n
def Co(n:U:=by unfold io;split<;>omega):=n
def LG(n:U:=by simp only[V,a9,bn,bl];and_intros<;>omega):=n
def LH(n:U:=by intro ak u;simp at u;subst u;exact bk_cell _ _ rfl):=n
def xQ(n:U:=by simp[ak]):=n
def Cp(n:U:=by rw[Op.bytesLess.eq_def]):=n
def LI(n:U:=by have:=bc.len;exact⟨_,bu (by rw[this];simp)⟩):=n
def LJ(n:U:=by rw[<-o.ba j (λL T eM=>u ⟨L,T,eM⟩)];exact be):=n
def xR(n:U:=by decide +kernel):=n
def xS(n:U:=by cases op<;>rfl):=n
def LK(n:U:=by simp[W,cO,resolve,invoke,builtin]):=n
def LL(n:U:=by simp only[V,a9,d6,bn,bl];omega):=n
def LM(n:U:=by simp only[V,a9,bM,bn,bl];omega):=n
def LN(n:U:=by rw[show IntKind.u64.bits=64 from rfl];omega):=n
def LO(n:U:=by unfold b9;grind[List.take_append_drop]):=n
def LP(n:U:=by simp[W,n,resolve,invoke,builtin]):=n
def LQ(n:U:=by unfold dk;grind[List.take_append_drop]):=n
def Cq(n:U:=by unfold eT;grind):=n
def xT(n:U:=by simp[fb]):=n
def LR(n:U:=by simp only[look];cases aa bk w<;>rfl):=n
def Cr(n:U:=by rw[cm.al.size];omega):=n
def Cs(n:U:=by simp only[c7,t]):=n
def LS(n:U:=by simp only[V.W,V,ak,bn,bl]):=n
def LU(n:U:=by have:=G1 dt;simp only[a9];omega):=n
def Ct(n:U:=by unfold c9;omega):=n
def Cu(n:U:=by simp[Act.eval,stA]):=n
def Cv(n:U:=by simp only[du,cY]):=n
def Cw(n:U:=by simp only[du,b8]):=n
def Cx(n:U:=by show _*24<=_;omega):=n
def LV(n:U:=by have:=Vc_upd s (⟨1,0,1⟩:WD) gu;grind):=n
def uI(n:U:=by simp[mk]):=n
def LW(n:U:=by simp only[fI,hP,bM];grind):=n
def uJ(n:U:=by rw[upd_same];simp):=n
def LX(n:U:=by simp[World.shape?,a1.heap _ _ a1.cm]):=n
def LY(n:U:=by grind[run_store,setCell_eq_setRow]):=n
def W3(n:U:=by simp[deafBehind]):=n
def LZ(n:U:=by unfold g5;rw[bp];grind):=n
def L0(n:U:=by unfold eD Region.binds;grind):=n
def L2(n:U:=by simp[cI,F,bV.aa,bV.ad]):=n
def L3(n:U:=by grind[List.drop_eq_getElem_cons]):=n
def uz(n:U:=by simp[N]):=n
def I2(n:U:=by rintro rfl;rw[bL]at b8;cases b8):=n
def BY(n:U:=by grind[Option.isSome_iff_exists]):=n
def I3(n:U:=by rw[<-ox];exact gC _ X):=n
def W1(n:U:=by rw[<-ox];exact gC _ dt):=n
def I4(n:U:=by simpa using List.find?_some j):=n
def BZ(n:U:=by grind[IL]):=n
def I5(n:U:=by simp only[cE,dB];omega):=n
def uA(n:U:=by grind[Nat.eq_of_beq_eq_true]):=n
def B0(n:U:=by simpa using N):=n
def I6(n:U:=by simp[aJ,X,bL]):=n
def I7(n:U:=by simp only[W,cO,y]):=n
def I8(n:U:=by rw[sI];exact pK b8):=n
def I9(n:U:=by rw[<-o];simp only[KK];omega):=n
def I_(n:U:=by unfold eT at t⊢;grind):=n
def I'(n:U:=by simp[deafBehind,semEvents]):=n
def B1(n:U:=by simp[b9]):=n
def Ja(n:U:=by simp[lb,List.drop_take]):=n
def B2(n:U:=by rw[hN bR]):=n
def Jb(n:U:=by rw[<-ak,insOuter,bp n]):=n
def e_(n:U:=by and_intros<;>omega):=n
def hI(n:U:=by exact .aI (aR.eF (l:=0) bv rfl rfl rfl rfl rfl) rfl):=n
def pg(n:U:=by exact .aI (aR.fj rfl rfl Tryz.underlying22 rfl cz) rfl):=n
def ph(n:U:=by rw[mQ n J];simp):=n
def pj(n:U:=by simp only[V,cX,dB,ac,a9,bM,bn,bl];and_intros<;>omega):=n
def qq(n:U:=by exact b3.b_ [0] rfl M rfl rfl rfl gN):=n
def qr(n:U:=by simp only[V,a9];and_intros<;>omega):=n
def sf(n:U:=by exact g.aQ [0] rfl Q rl):=n
def sg(n:U:=by exact c8 _ _ rfl Q):=n
def sh(n:U:=by and_intros<;>first|rfl|omega):=n
def si(n:U:=by exact Rd.val rfl):=n
def sj(n:U:=by exact a8 rfl M (g.an rfl)):=n
def uB(n:U:=by refine g.dD () [] ?_ ro;simp):=n
def uC(n:U:=by simp only[V,t,a9,bM,bn,bl];and_intros<;>omega):=n
def uD(n:U:=by simp[gJ,u_];split<;>simp):=n
def uE(n:U:=by refine g.dD () [0,1,2] ?_ oQ;simp):=n
def uF(n:U:=by rw[va]at this;exact this):=n
def xA(n:U:=by refine g.an rfl ?_;simp[b4,b_]):=n
def xB(n:U:=by rw[ofEvent_loc_mark be]at u;cases u):=n
def xC(n:U:=by exact⟨bR,b7,by grind,iQ,.refl _ _⟩):=n
def xD(n:U:=by grind [MQ,a0.aT,aR.bits]):=n
def xE(n:U:=by obtain rfl:=j5 (t rfl);refine a8 rfl M ?_;refine g.an rfl ?_;simp):=n
def xF(n:U:=by simp only[V,cX,dB,bk,be,a9,bM,bn,bl];and_intros<;>omega):=n
def xG(n:U:=by simp only[V,a9,d6,bn,bl];and_intros<;>omega):=n
def xH(n:U:=by rw[V,Sr n W2]):=n
def xI(n:U:=by simp only[V,cX,dB,X,a9,bM,bn,bl];and_intros<;>omega):=n
def B3(n:U:=by exact⟨by omega,by omega,by grind[HN]⟩):=n
def B4(n:U:=by simp only[V,ac,a9,show nR.bytes=16 from rfl,bM,d6,iG,ya,gZ,gn,pH,e3,ak,heq,gD,nB,j8,k3,mN,l0,lX,bn,bl];and_intros<;>omega):=n
def B5(n:U:=by grind[jh,il]):=n
def B6(n:U:=by grind [Go.Conc.mem_ofEvents]):=n
def B8(n:U:=by refine bs f [917] rfl M ?_;exact c8 _ _ rfl Q):=n
def B9(n:U:=by refine g.bH 6 74 2 rfl rfl (g.bq [l3 []] rfl Q (g.aQ [0] rfl Q ?_));grind):=n
def B_(n:U:=by obtain⟨_,N⟩:=F2 bL;simp only[pF]at N;have ak:f<bb.length:=(cD.1 N).1;exact⟨by simp[ju,ki,N],yb ak⟩):=n
def B'(n:U:=by exact c0 t rfl M (g.an rfl)):=n
def Ca(n:U:=by grind[List.pairwise_iff_getElem]):=n
def Cb(n:U:=by exact⟨λ_ _ _ _ he=>pm,λ_=>⟨λ_ _ _ _ he=>pm,.inl rfl⟩⟩):=n
def Cc(n:U:=by intro f r cO bL;simp[gJ,u_]at bL;split at bL<;>simp at bL):=n
def Cd(n:U:=by refine c0 f rfl M (g.aV (b3.mk [0] rfl M rfl rfl rfl gN))):=n
def Ce(n:U:=by have:(t==j)=m:=gn.2 J;simp[this]):=n
def Jd(n:U:=by exact mk _ (b ⟨j,0,k⟩) cap rfl x jb jc wb wa):=n
def Je(n:U:=by rw[t];simp only[V.W,V,j,bn,bl];and_intros<;>first|exact b4.same|exact ak|rfl|omega):=n
def Jf(n:U:=by refine cq rfl M ?_;exact b3.b_ [0] rfl M rfl rfl rfl z4):=n
def Jg(n:U:=by refine a8 rfl M ?_;exact⟨y,b3.b_ [0] rfl M rfl rfl rfl rm⟩):=n
def Jh(n:U:=by rw[t];simp only[V.W,V,dZ,fR,gX,bn,bl];and_intros<;>first|exactλ_ _=>rfl|exact a1|rfl|omega):=n
def Ji(n:U:=by obtain⟨rfl,rfl⟩:=n;obtain⟨j,t⟩:=cO;replace t:0<cd:=t;simp only[binOp,e3,gD,cr,Op.intDiv,show cd≠0 by omega];rfl):=n
def Jj(n:U:=by have ak:=cG.dj d.2.1 n (0,[]);simp only[V.W,V,j,cP.aa,bl,bn];exact⟨⟨b4.same,b4.same,b4.same⟩,⟨b4.same,b4.same,b4.same⟩,⟨rfl,b4.same⟩,b4.same,ak⟩):=n
def Jk(n:U:=by simp only[V.W,V,r,bn,bl];and_intros<;>first|exact a2|rfl):=n
def Jl(n:U:=by obtain⟨jC,qA,CI⟩:=n.last C cI Ag m2 bc cK;grind):=n
def Jm(n:U:=by simp only[qN]at n;rw[insInner,bp];grind):=n
def Jn(n:U:=by refine a8 rfl M (g.aQ [0,1] rfl Q rn (N:=bH))):=n
def Jo(n:U:=by rw[Deaf_other w x _ g_of_ofEvents];exact n.above f bL):=n
def Jp(n:U:=by simp only[V,t,a9,show we.bytes=32 from rfl,bn,bl];and_intros<;>omega):=n
def Jq(n:U:=by simp only[V,show kk.bytes=24 from rfl,bn,bl];grind):=n
def Jr(n:U:=by simp[-av,p,a9,cP.aa,cP.ad,br.aa,br.ad,a2,X.1];and_intros<;>first|omega|grind):=n
def Js(n:U:=by rintro⟨N,eM⟩;refine g.eA 2 3 0 (T:=61) (o:=2) (oK:=kO N) cz rfl rfl rfl (λ_ n=>by grind) ?_;refine a8 rfl M ?_;refine g.cc ⟨((N,d.2),k1+1+1),w.fz.j2 eM,by grind,by grind⟩ [0] ?_ gN;simp):=n
def Jt(n:U:=by simp only[V,cX,dB,bR,be,a9,bM,bn,bl];and_intros<;>omega):=n
def Ju(n:U:=by intro _;refine a8 rfl M (g.aQ [0] rfl ?_ rm);simp):=n
def Jv(n:U:=by refine a_ [-7] rfl cb (g.a_ rfl rfl ?_);refine a8 rfl M (g.an rfl ?_);rw[V,Su (λy N=>u y x)]):=n
def Jw(n:U:=by refine g.cq 4 0 2 3 (lt:=_) (da:=.aq ac l y u) rfl rfl (λ_=>rfl) (λ_=>rfl) (λ_ _=>by decide) ?_;exact g.aQ [0] rfl Q rl):=n
def Jx(n:U:=by simp only[na,t,gx,ak];grind[Nat.eq_of_beq_eq_true]):=n
def Jy(n:U:=by simp only[V,zB,bD.aa,t,bD.ad];simp[n,iO,t,j,-List.length_flatten]):=n
def Jz(n:U:=by simp only[hl,eA]at ed;rw[<-ed,f2,n.cH]at fH;omega):=n
def JA(n:U:=by refine g.cE 1 rfl rfl rfl Q Q ?_;exact g.an rfl (by simp[t,kn])):=n
def JB(n:U:=by have ak:scanUp (λA=>!ltInt d2[t]! A) d2 (u) (fh)=o:=Ch;exact c8 () M rfl bx rfl Q):=n
def JC(n:U:=by intro p n;rw[fR,List.range'_succ];refine⟨by simpa using n 0 r rfl,t (p+1) λy j FT=>?_⟩;have:=n (y+1) j J;grind):=n
def JD(n:U:=by simp only[V,cX,u,ak,t,o,X,j,a9,bM,d6,bn,bl];and_intros<;>omega):=n
def JE(n:U:=by have ak:scanUp (λA=>ltInt A d0[t]!) d0 (j-1) (t+1)=o:=Ch;exact c8 () M rfl bx rfl Q):=n
def JF(n:U:=by have ak:scanDown (λA=>!ltInt A d2[t]!) d2 (l) (n)=o:=xJ;exact c8 () M rfl bx rfl Q):=n
def JG(n:U:=by simp only[be]at K⊢;obtain⟨tR,Xb,W'⟩:=n.dp _ _ be;grind[lk]):=n
def JH(n:U:=by refine g.cq 4 0 9 2 (lt:=.nil) (da:=.aq ac l y u) rfl rfl (λn=>absurd rfl n) (λ_=>rfl) (λn=>absurd rfl n) ?_;exact g.aQ [0] rfl Q rl):=n
def JI(n:U:=by simp only[V,a9,show wc.bytes=40 from rfl,bn,bl];and_intros<;>omega):=n
def JJ(n:U:=by rename_i X;cases n;rw[X]at u;have j:=b2 u;generalize ak:t.tmps.getD N E=ai at j;cases j;rw[key _ ak (by simp[E])]):=n
def JK(n:U:=by rw[u];simp only[V.W,V,ac,bn,bl];and_intros<;>first|exact y|simp|simp|simp|rfl|omega|simp):=n
def JL(n:U:=by have ak:=c1 f;subst ak;exact AI (T:=T) (es:=dh) (b2 ac) Q sn):=n
def JM(n:U:=by simp only[gy,List.take_zero,iJ,w,V.W,V,bn,bl];and_intros<;>first|simp|rfl|omega):=n
def JN(n:U:=by exact b3.b_ [0,1] rfl M bH rfl rfl rn):=n
def JO(n:U:=by exact b6 [14,-25] rfl ky (g.av (f+1) rfl Q Q J x)):=n
def JP(n:U:=by simp[t]at n;subst n;obtain⟨j,N⟩:=Bw t;grind):=n
def JQ(n:U:=by exact .aI (aR.gE rfl rfl Tryz.underlying22 rfl cz) rfl):=n
def JR(n:U:=by rw[eM];simp only[V.W,V,dB,a2,C,dZ,iE,bn,bl];and_intros<;>first|exact b4.same|exact H|rfl|omega):=n
def JS(n:U:=by simp only[V,cX,u,ak,t,j,a9,bM,d6,bn,bl];and_intros<;>omega):=n
def JT(n:U:=by refine c0 X rfl M (g.aQ [0] rfl ?_ gN);simp):=n
def JU(n:U:=by simp[G,ap,stepG.exec,Frame.i,X,N,ac,GStep.after,doReturn,cI]):=n
def JV(n:U:=by rename_i bR;cases n;exact a0.aT a1 (aR.pick be bR)):=n
def JW(n:U:=by rename_i ak;subst ak;intro pre tA;refine .ctl ac rfl (λ_=>HR (fJ:=o) (by rw[tA];simp[exitTo])) λcv cY=>?_;exact f .normal c' aO cv fl be (X.rely cY ac) (ac.rely cY) (N.trans cY.aH)):=n
def JX(n:U:=by simp only[V.W,V,j,bn,bl];and_intros<;>first|exactλ_ _=>rfl|exact u|rfl|omega):=n
def JY(n:U:=by have ak:scanUp (λA=>ltInt A d2[t]!) d2 (n) (fh)=o:=Ch;exact c8 () M rfl bx rfl Q):=n
def JZ(n:U:=by rw[u];simp only[V.W,V,X,bn,bl];and_intros<;>first|exact o|exact a2|simp|rfl|omega):=n
def J0(n:U:=by simp only[qN]at j⊢;rw[insInner,bF];grind):=n
def J1(n:U:=by rw[l];simp[-av];exact bf.aZ _ ac):=n
def J2(n:U:=by simp only[V,a9,ak,u,a2,bM,eq_self,bn,bl];omega):=n
def J3(n:U:=by rw[t];simp[-av];exact bf.aZ _ (b1 w f,ga w f)):=n
def J4(n:U:=by exact cq rfl M (g.aQ [1] rfl Q ro (N:=nk))):=n
def J5(n:U:=by exact⟨by simp[aN,MemAct.low],λj u=>by simp[aN,MemAct.touch?]at u,λj u=>by simp[aN,MemAct.touch?]at u,⟨by simp,by simp⟩,by simp⟩):=n
def J6(n:U:=by simp[-av,ja,ac,N,a9];omega):=n
def J7(n:U:=by refine il ?_;change cR d (Sem.events P (asInt (.int .i64 0) >>= _) _ _);simp[asInt,asIntOf,IntKind.max];exact .nil):=n
def J8(n:U:=by exact .dY (.aI (aR.gE rfl rfl Tryz.underlying22 rfl cz) rfl)):=n
def J9(n:U:=by have be:=X _ ac;simp only[V,j,bS.aa,a9];exact⟨by omega,M,M,show(f+1)*32<=_ by omega,bS.ad _,be,by omega,by omega,gf x⟩):=n
def J_(n:U:=by simp[-av,n,iY,j,a9];omega):=n
def J'(n:U:=by exact .ctl ac rfl (λ_=>HS) λcv cY=>f .normal c' aO cv fl be (X.rely cY ac) (ac.rely cY) (N.trans cY.aH)):=n
def Ka(n:U:=by have ak:scanDown (λA=>ltInt d2[t]! A) d2 (ac) (u)=o:=xJ;exact c8 () M rfl bx rfl Q):=n
def Kb(n:U:=by refine a8 rfl M (g.ret (.freeze 8 4 rfl rfl rfl (.freeze 9 5 rfl rfl rfl (.of ⟨(),j4.cells bv [0,1] rfl ?_ rfl rfl rfl oP⟩))));simp):=n
def Kc(n:U:=by simp only[V,a9,ak,u,f,bM,d6,bn,bl];omega):=n
def Kd(n:U:=by simp only[V,br.aa,cG.aa,bV.aa,bf.aa,f,lI,p];and_intros<;>first|rfl|exact True.intro|exact br.ad _|exact cG.ad _|exact bV.ad _|exact bf.ad _|exact a1):=n
def Ke(n:U:=by exact .eval (bK:=[]) bv a3.nil (cl:=[a9 .i64 (((0:Nat):Int)-((0:Nat):Int))]) rfl kU):=n
def Kf(n:U:=by rw[N];simp[-av,re];exact bD.aZ _ _):=n
def Kg(n:U:=by exact .aI (aR.fj rfl rfl Tryz.underlying22 rfl t) rfl):=n
def Kh(n:U:=by simp only[V.W,V,cX,dB,bk,bl,bn];exact kb U x x (λ_ _=>rfl)):=n
def Ki(n:U:=by rw[<-e4,ed]at f1;simp only[hl,eA]at f1;grind):=n
def Kj(n:U:=by and_intros<;>first|rfl|exact True.intro|exact br.ad _|exact cG.ad _|exact bV.ad _|exact t.cy|exact t.aR|exact t.bs):=n
def Kk(n:U:=by rw[u];simp only[V.W,V,ac,bn,bl];and_intros<;>first|exact y|simp|simp|grind|rfl|omega|simp):=n
def Kl(n:U:=by refine a8 rfl M (g.aQ [0] rfl ?_ rm);simp):=n
def Km(n:U:=by simp only[V,a9,d6,gn,e3];and_intros<;>omega):=n
def Kn(n:U:=by simp only[V,iY,r_,dB,l,r,N,ac,bM,j];grind):=n
def Ko(n:U:=by simp only[V,vp,bM,d6,t];omega):=n
def Kp(n:U:=by simp only[V,V.W,j,N,u,oi,vL,bl];grind):=n
def Kq(n:U:=by rw[j];simp[-av];exact bf.aZ _ (b1 w f,ga w f)):=n
def Kr(n:U:=by obtain⟨b8,cY⟩:=ac T fJ AH dh J;refine⟨b8,λak=>?_⟩;obtain⟨L,U,a2⟩:=cY ak;refine⟨L,?_,a2⟩;simp only[aj.cut,kw,e4,cN];exact U):=n
def Ks(n:U:=by simp[-av,n,iY,r_,j,N,X,u,a2];omega):=n
def Kt(n:U:=by simp only[Go.binOp,Op.shift,bp (show¬j<0 by omega),n];exact⟨rfl,rfl⟩):=n
def Ku(n:U:=by have j:=(aG w f bL).run_underlying (K:=d.a);rw[ac]at j;simp[W,n,t,N,Instr.index,asIntOf,j,FT,p]):=n
def Kv(n:U:=by refine⟨rfl,λf bL=>?_⟩;rcases f with _|_|_|_|_|_|_|_|f<;>first|rfl|omega):=n
def Kw(n:U:=by simp only[V,a9,bM,d6,bn,bl];and_intros<;>omega):=n
def Kx(n:U:=by and_intros<;>first|exact bD.ad _|rfl|omega):=n
def Ky(n:U:=by simp only[L1,eN];exactλak=>this ((y N).2 ak)):=n
def Kz(n:U:=by simp only[V,a9,bM,bn,bl];and_intros<;>first|rfl|omega):=n
def KA(n:U:=by simp only[V.W,V,cX,u,ak,t,bl,bn];exact kb y x x (λ_ _=>rfl)):=n
def KB(n:U:=by refine g.cq 4 0 2 9 (lt:=.aq N f o X) (da:=.nil) rfl rfl (λ_=>rfl) (λn=>absurd rfl n) (λ_ n=>absurd rfl n) ?_;exact g.aQ [0] rfl Q rl):=n
def KC(n:U:=by have:=n f (pC.2 bL);simp only[hr,ct]at this;grind):=n
def KD(n:U:=by simp[bf.aa,bf.ad,lI,j,u,N,ac]):=n
def KE(n:U:=by simp[-av,a2,w,bS.aa,bS.ad,n]):=n
def KF(n:U:=by refine⟨by grind[mr],by grind,?_⟩;rw[<-u,s7,ac,show t+L / 4*2-1+(3-(o+1))+1=t+L / 4*2-1+(3-o) by omega]):=n
def KG(n:U:=by subst l;exact⟨.bool i,by simp[W,n,j,N,t,binOp,o],Rd.bool,by simp[W,n,j,N,t,ac,binOp,o,X]⟩):=n
def KH(n:U:=by simp only[V.W,V,cX,dB,bl,bn];exact kb bk x x (λ_ _=>rfl)):=n
def KI(n:U:=by simp only[aJ];grind[setRow_other]):=n
def KJ(n:U:=by have ak:=br.dj d.1 n (0,[]);simp only[V.W,V,j,bS.aa,bl,bn];exact⟨⟨b4.same,b4.same,b4.same⟩,⟨b4.same,b4.same,b4.same⟩,⟨rfl,b4.same⟩,ak,b4.same⟩):=n
def KL(n:U:=by simp[-av,bk,w,cI,j,r,bS.aa,bS.ad,a9];omega):=n
def KM(n:U:=by refine b6 [52] rfl (by simp[ac]) (g.aQ [0] rfl ?_ gN);exact bH):=n
def KN(n:U:=by have Xc:be*bz.size+bz.size<=a2*bz.size:=W1;grind):=n
def KO(n:U:=by and_intros<;>first|exact b4.same|exact j3|rfl):=n
def KP(n:U:=by refine b6 [912] rfl M ?_;exact c8 _ _ rfl Q):=n
def KQ(n:U:=by have be:=N _ ac;simp only[V,j,cP.aa,a9];exact⟨by omega,M,M,show(f+1)*32<=_ by omega,cP.ad _,be.1,be.2,by omega,by omega,gf x⟩):=n
def KR(n:U:=by simp only[V,br.aa,cG.aa,bV.aa,bf.aa,j,lI,N,u,l0];and_intros<;>first|rfl|exact True.intro|exact br.ad _|exact cG.ad _|exact bV.ad _|exact bf.ad _|exact t.cy|exact t.aR|exact t.bs):=n
def KS(n:U:=by simp only[o]at p⊢;obtain⟨tR,bk,lU⟩:=n.dp _ _ o;grind[lk]):=n
def KT(n:U:=by simp only[V,cX,u,ak,t,X,j,a9,bM,d6,bn,bl];and_intros<;>omega):=n
def KU(n:U:=by simp only[V.W,V,cX,dB,y,f,n,xorNext_toNat,bl,bn];exact kb l x x (λ_ _=>rfl)):=n
def KV(n:U:=by exact .aI (Gb 0 rfl rfl rfl kU (λK=>rfl) (λK=>rfl)) rfl):=n
def KW(n:U:=by rw[u];simp only[V.W,V,ac,bn,bl];and_intros<;>first|exact y|exact o|simp|rfl|omega):=n
def KX(n:U:=by subst n;cases A<;>cases cd<;>simp only at N<;>simp[binOp,t]):=n
def KY(n:U:=by refine cu t rfl bH ?_;refine g.aI (ww ((min (ac+8) w.length:Nat):Int) rfl rfl rfl x l) rfl rfl ?_;refine cu t rfl M (g.an rfl ?_);simp[ak]):=n
def KZ(n:U:=by refine mk d.n kv 0 rfl Q (by have:=bc.dG;omega) (λ_ _ _ n=>n) Rd.cZ (λn=>n)):=n
def K0(n:U:=by obtain⟨A,p,k1,f,y⟩:=o.box l w L1 b8 cY;exact⟨A,p,k1,f,bk.trans y⟩):=n
def K1(n:U:=by simp only[V,ac,a9,show nR.bytes=16 from rfl,bM,d6,iG,ya,gZ,gn,pH,e3,heq,gD,nB,j8,k3,mN,l0,lX,bn,bl];and_intros<;>omega):=n
def K2(n:U:=by simp[-av];exact bf.aZ _ ac):=n
def K3(n:U:=by simp only[V.W,V,bl,bn];and_intros<;>first|exactλ_ _=>rfl|exact ak|rfl):=n
def K4(n:U:=by simp[-av,a2,p,w,bS.aa,bS.ad,n,a9];omega):=n
def K5(n:U:=by have ak:scanDown (λA=>!ltInt A d0[t]!) d0 (f) (j-1)=o:=xJ;exact c8 () M rfl bx rfl Q):=n
def K6(n:U:=by subst l;exact⟨.bool m,by simp[W,n,j,N,t,binOp,o],Rd.bool,by simp[W,n,j,N,t,ac,binOp,o,X]⟩):=n
def K7(n:U:=by and_intros<;>first|exact bD.ad _|exact eS.ad _|omega):=n
def K8(n:U:=by simp only[V,br.aa,cG.aa,bV.aa,bf.aa,f,lI,r];and_intros<;>first|rfl|exact True.intro|exact br.ad _|exact cG.ad _|exact bV.ad _|exact bf.ad _|exact a1):=n
def K_(n:U:=by rw[u];simp only[V.W,V,X,bn,bl];and_intros<;>first|exact o|exact a2|exactλ_ _=>rfl|rfl|omega):=n
def K'(n:U:=by simp[-av,p,r,a9,cP.aa,cP.ad,br.aa,br.ad,a2,X.1];and_intros<;>first|omega|grind):=n
def La(n:U:=by and_intros<;>first|exactλ_ _=>rfl|exact ak|rfl|omega):=n
def Lb(n:U:=by simp only[V,vp,bM,d6,t,a9];omega):=n
def Lc(n:U:=by rw[ac];simp only[V.W,V,j,bD.aa,p,hO,dZ,iE,bn,bl];and_intros<;>first|exact b4.same|exact C|rfl|omega):=n
def Ld(n:U:=by refine b6 [-52,55] rfl xQ (g.aQ [0] rfl ?_ gN);exact bH):=n
def Le(n:U:=by exact⟨by exact cF,λj o=>by exact cF,⟨by simp,by simp⟩,by simp⟩):=n
def Lf(n:U:=by refine b6 [-14] rfl cb (g.aA ?_);exact cq rfl M (g.an rfl)):=n
def Lg(n:U:=by rw[gO]at n;cases n;exact e1.dY (h1 aG ak j cO) ac o):=n
def Lh(n:U:=by rw[o];simp only[dZ,iE,V.W,V,t,bn,bl];and_intros<;>first|exact a2|simp|rfl|omega):=n
def Li(n:U:=by simp[-av,-List.length_take,N,ja,j,X,u,a9];omega):=n
def Lj(n:U:=by refine b6 [-52,-55] rfl bx (g.aQ [0] rfl ?_ gN);simp[ac,ak,oW,Af]):=n
def Lk(n:U:=by rw[bR];simp[-av,C];have T:=bf.aZ (l.take f) (b1 l f,ga l f);simp only[List.length_take]at T;exact T):=n
def Ll(n:U:=by simp only[V,bS.aa,t,cI];and_intros<;>first|exact bS.ad _|rfl|exact True.intro|grind):=n
def Lm(n:U:=by rw[u];simp only[V.W,V,ac,bn,bl];and_intros<;>first|exact y|exact o|exactλ_ _=>rfl|rfl|omega):=n
def Ln(n:U:=by have ak:(z.toArray++Array.replicate (fn.ntmps-z.toArray.size) E).getD w E=(z[w]?).getD E:=Ck;grind):=n
def Lo(n:U:=by obtain⟨f,r,j,t⟩:=Ae n;exact⟨f+1,r,by grind,t⟩):=n
def Lp(n:U:=by subst ak;rw[e4]at kH;cases kH;exact⟨.t,b7,by grind,iQ,rfl⟩):=n
def Lq(n:U:=by rw[l];simp only[V.W,V,j,u,a2,br.aa,dZ,iE,bn,bl];and_intros<;>first|exact b4.same|exact r|rfl|omega):=n
def Lr(n:U:=by simp[-av,a2,p,n,jb,a9,cP.aa,cP.ad,br.aa,br.ad,cG.ad,bV.ad,r,be.1];and_intros<;>first|omega|grind):=n
def Lt(n:U:=by simp only[cN]at N;subst N;exact cq rfl M (g.an rfl)):=n
def Lu(n:U:=by simp only[Go.binOp,e3,gD,cr,Op.intBits,ak,qo N];exact⟨rfl,rfl⟩):=n
def Lv(n:U:=by simp[W,cO,resolve,u,Deferred.ofValue,invoke,N]):=n
def Lw(n:U:=by exact⟨_,by rw[sK];exact List.mem_append_right _ (eN.2 rfl),rfl,rfl⟩):=n
end
end Go
namespace Go.AM
instance{p:Nat}:OfNat (Nat×Bool) p:=⟨(p,true)⟩
instance:Neg (Nat×Bool):=⟨λA=>(A.1,false)⟩
inductive D where
  |int (o:IntKind) (p:Int)
  |bool (j:Bool)
  |R (d:List UInt8)
  |M (tight:Bool) (o p:Nat) (es:Nat->List D)
  |U (aY:List D)
  |bj
  |bR (w:ab) (u:D)
  |b' (w:ab) (aY:List D)
  |bk
  |fn (ac:Fn) (first cap:List D)
  |cU
  |val (A:I)
inductive nl where
  |M (X o r p:Nat)
  |bM (X o f ac:Nat)
def nl.g:nl->Nat
  |.M X _ _ _=>X
  |.bM X _ _ _=>X
def nl.fG:nl->I->I->Prop
  |.M _ h o n,e,j=>∃l f a d,j=.slice l n a/\n<=a/\o+a=d/\d<=9223372036854775807/\e=.slice f 0 d/\(0<a->∃g,f=b ⟨g,0,k⟩/\l=b ⟨g,o*h,k⟩)
  |.bM _ h q p,e,j=>∃g d,e=.slice (b ⟨g,0,k⟩) 0 d/\j=.pointer (b ⟨g,q*h+p,k⟩)
inductive C where
  |c (A:D)
  |ptr (l off:Nat)
  |q (l o p:Nat) (es:Nat->List D)
  |aD (l:Nat)
  |ak (l:Nat) (K:nl)
  |any
abbrev C.v(a:I):C:=.c (.val a)
inductive E1 where
  |S (t:C)
  |agg (aY:List C)
inductive s where
  |k (A:E1)
  |C (O:List E1)
  |any
abbrev bd:=e (Nat×s)
def look:bd->Nat->s
  |[],_=>.any
  | (e,d)::f,a=>cond (aa e a) d (look f a)
inductive Y where
  |cells (T:ab) (aY:List C)
  |q (T:ab) (o p:Nat) (es:Nat->List D)
  |Q (H:I->(Nat->Option Obj)->Prop)
  |t
  |loop (B:Nat) (F:bd) (a1:Loop)
  |a2
  |A (T:ab) (o p:Nat) (es:Nat->List D)
@[simp] def Y.cN:Y->Bool
  |.q _ _ _ _=>i
  |.A _ _ _ _=>i
  |_=>m
structure Loc where
  v:I
  V:e Nat
abbrev Mem:=Nat->Nat->Option I
structure aj where
  m:e Loc
  n:Mem
  a:af
  own:Nat->Prop
def a9:IntKind->Int->Prop
  |.i8,a=>-128<=a/\a<=127
  |.i16,a=>-32768<=a/\a<=32767
  |.i32,a=>-2147483648<=a/\a<=2147483647
  |.i64,a=>-9223372036854775808<=a/\a<=9223372036854775807
  |.u8,a=>0<=a/\a<=255
  |.u16,a=>0<=a/\a<=65535
  |.u32,a=>0<=a/\a<=4294967295
  |.u64,a=>0<=a/\a<=18446744073709551615
def dx:I->Bool
  |.agg _|.tuple _=>m
  |_=>i
def nl.fG.cell{f:nl}{a e:I}(d:f.fG a e):dx e=i:=by
  cases f with
  |M=>obtain⟨_,_,_,_,rfl,_⟩:=d;rfl
  |bM=>obtain⟨_,_,_,rfl⟩:=d;rfl
inductive Rd (bi:Mem):I->D->Prop
  |int {o:IntKind} {p:Int} (n:a9 o p):Rd bi (.int o p) (.int o p)
  |bool {j:Bool}:Rd bi (.bool j) (.bool j)
  |R {d:ByteArray} {l:List UInt8} (n:d.data.toList=l) (e4:c l<=9223372036854775807):Rd bi (.string d) (.R l)
  |M {t:Option Addr} {p cap:Nat} {tight:Bool} {o:Nat} {es:Nat->List D} (j off:Nat) (ac:Nat->Nat->I)
      (W_:p<=cap) (hb:cap<=9223372036854775807) (Xd:tight=i->cap=p) (cI:∀f,f<p->c (es f)=o)
      (Ad:0<p->t=b ⟨j,off,k⟩)
      (hm:∀f,f<p->∀y u,(es f)[y]?=b u->bi j (off+f*o+y)=b (ac f y))
      (FV:∀f,f<p->∀y u,(es f)[y]?=b u->Rd bi (ac f y) u):Rd bi (.slice t p cap) (.M tight o p es)
  |U {aY:List D} (j off:Nat) (ac:Nat->I)
      (hm:∀y u,aY[y]?=b u->bi j (off+y)=b (ac y))
      (FV:∀y u,aY[y]?=b u->Rd bi (ac y) u):Rd bi (.pointer (b ⟨j,off,k⟩)) (.U aY)
  |bj:Rd bi (.pointer k) .bj
  |bR {w:ab} {ai:I} {u:D} (n:Rd bi ai u) (W9:dx ai=i):Rd bi (.iface w ai) (.bR w u)
  |b' {w:ab} {z:List I} {aY:List D} (e4:c z=c aY)
      (ac:Nat->I) (FR:∀y,y<c z->z[y]?=b (ac y)) (FV:∀y u,aY[y]?=b u->Rd bi (ac y) u):Rd bi (.iface w (.agg z.toArray)) (.b' w aY)
  |bk:Rd bi .nilIface .bk
  |fn {X:Fn} {first cap:List D} (v6 aY:List I) (e4:c v6=c first) (Xa:c aY=c cap) (f1 f2:Nat->I)
      (b8:∀y,y<c v6->v6[y]?=b (f1 y)) (cY:∀y,y<c aY->aY[y]?=b (f2 y))
      (Xk:∀y u,first[y]?=b u->Rd bi (f1 y) u) (Xl:∀y u,cap[y]?=b u->Rd bi (f2 y) u):Rd bi (.func X v6.toArray aY.toArray) (.fn X first cap)
  |cU:Rd bi .nilFunc .cU
  |val {A:I} (n:dx A=i):Rd bi A (.val A)
theorem Rd.aM{e:Mem}{a d:I}(f:Rd e a (.val d)):a=d:=by cases f;rfl
def Rd.cell{d:Mem}{a:I}{e:D}(f:Rd d a e):dx a=i:=by cases f<;>first|rfl|assumption
def Rd.mono{J p:Mem}(K:∀o N v,J o N=b v->p o N=b v){v:I}{d:D}(j:Rd J v d):Rd p v d:=by
  induction j with
  |int j=>exact .int j
  |bool=>exact .bool
  |R j g=>exact .R j g
  |M o h q O T S E C n s e=>
    exact .M o h q O T S E C (λF l f d a=>K _ _ _ (n F l f d a)) (λF l f d a=>e F l f d a)
  |U o h q n s e=>exact .U o h q (λf d a=>K _ _ _ (n f d a)) (λf d a=>e f d a)
  |bj=>exact .bj
  |bR j V e=>exact .bR e V
  |b' g q Q s e=>exact .b' g q Q (λf d a=>e f d a)
  |bk=>exact .bk
  |fn z w g r x y A B W X t u=>exact .fn z w g r x y A B (λf d a=>t f d a) (λf d a=>u f d a)
  |cU=>exact .cU
  |val j=>exact .val j
def ck(j:e Y)(l:aj)(d:I):C->Prop
  |.c w=>Rd l.n d w
  |.ptr a p=>(∀n,j[a]?=b n->n.cN=m)/\∃L v,l.m[a]?=b L/\L.v=.pointer (b ⟨v,0,k⟩)/\d=.pointer (b ⟨v,p,k⟩)
  |.q a r g f=>Rd l.n d (.M m r g f)/\a<c j/\∀q s h o,j[a]?=b (Y.q q s h o)->g<=h/\(h=g->∃L,l.m[a]?=b L/\d=L.v)
  |.aD a=>(∀n,j[a]?=b n->n.cN=m)/\∃L,l.m[a]?=b L/\d=L.v/\dx d=i
  |.ak a t=>∃u,t.fG u d/\a<c j/\∀q r g f,j[a]?=b (Y.A q r g f)->t.g<=g/\(t.g=g->∃L,l.m[a]?=b L/\L.v=u)
  |.any=>dx d=i
def bJ(d:e Y)(f:aj):e I->e C->Prop
  |[],[]=>True
  |h::z,g::a=>ck d f h g/\bJ d f z a
  |_,_=>False
def eh(d:e Y)(f:aj)(g:I):E1->Prop
  |.S h=>ck d f g h
  |.agg a=>∃z:e I,g=.agg z.toArray/\bJ d f z a
def eJ(d:e Y)(f:aj):e I->e E1->Prop
  |[],[]=>True
  |h::z,g::a=>eh d f h g/\eJ d f z a
  |_,_=>False
def bo(a:e Y)(d:aj)(f:I):s->Prop
  |.k g=>eh a d f g
  |.C O=>∃z:e I,f=.tuple z.toArray/\eJ a d z O
  |.any=>True
def bW(d:e Y)(f:aj):e I->e s->Prop
  |[],[]=>True
  |h::z,g::a=>bo d f h g/\bW d f z a
  |_,_=>False
structure ez(bi:Mem)(o p:Nat)(es:Nat->e D)(z:e I):Prop where
  len:c z=p*o
  bo:∀f,f<p->c (es f)=o
  rd:∀f,f<p->∀(y:Nat) (u:D),(es f)[y]?=b u->∃ai,z[f*o+y]?=b ai/\Rd bi ai u
def ez.mono{j a:Mem}(q:∀l p ai,j l p=b ai->a l p=b ai){n o:Nat}{d:Nat->e D}{z:e I}(f:ez j n o d z):ez a n o d z:=
  ⟨f.len,f.bo,λs g t r h=>let ⟨ai,b8,cY⟩:=f.rd s g t r h;⟨ai,b8,cY.mono q⟩⟩
def ek(v:e Y)(d:aj):Y->Loc->Prop
  |.cells p t,L=>∃a z,L=⟨.pointer (b ⟨a,0,k⟩),[a]⟩/\d.a.heap[a]?=b (.cells (List.toArray z) p (0,0))/\bJ v d z t/\∀f,d.n a f=k
  |.q p n h g,L=>Rd d.n L.v (.M m n h g) /\
      (((L.V=[]/\h=0)/\Rd d.n L.v (.M i n h g)) ∨
       ∃a j z,L=⟨.slice (b ⟨a,0,k⟩) h j,[a]⟩/\d.a.heap[a]?=b (.cells (List.toArray z) p (0,0))/\c z=j*n/\∀f,h*n<=f->d.n a f=k)
  |.Q H,L=>∃l,H L.v l/\(∀(a:Nat) (f:Obj),l a=b f->d.a.heap[a]?=b f)/\(∀a,a∈L.V↔(l a).isSome=i)/\∀a∈L.V,∀f,d.n a f=k
  |.t,_=>True
  |.loop y x o,L=>∃s tmps fn u,L=⟨.func (.yield s) #[] #[],[s]⟩/\d.a.heap[s]?=b (.loop {o with tmps:=tmps,fn:=fn,defers:=u})/\tmps.size=y/\(∀w,bo v d (tmps.getD w E) (look x w))/\∀f,d.n s f=k
  |.a2,L=>∃o:Nat,L=⟨.int .i64 o,[o]⟩/\d.a.heap[o]?=b (.deferred (b []))/\∀f,d.n o f=k
  |.A p n h g,L=>(h=0/\L=⟨.slice k 0 0,[]⟩)∨∃a r z q,L=⟨.slice (b ⟨a,0,k⟩) 0 r,[a]⟩/\d.a.heap[a]?=b (.cells (List.toArray (z++q)) p (0,0))/\c (z++q)=r*n/\h<=r/\r<=9223372036854775807/\ez d.n n h g z/\∀f,d.n a f=k
structure aZ(h:e Y)(d:aj):Prop where
  mem:∀j r ai,d.n j r=b ai->d.a.cell? ⟨j,r,k⟩=b ai
  len:c d.m=c h
  box:∀(l:Nat) (bR:Y) (L:Loc),h[l]?=b bR->d.m[l]?=b L->ek h d bR L
  aL:∀(l iT:Nat) (L b7:Loc),d.m[l]?=b L->d.m[iT]?=b b7->∀j∈L.V,j∈b7.V->l=iT
  lt:∀L∈d.m,∀j∈L.V,j<d.a.heap.size
  own:∀j,d.own j->j<d.a.heap.size/\∀L∈d.m,j∉L.V
def fL:Y->Loc->Y->Loc->Prop
  |.q _ _ e _,L,.q _ _ d _,a=>(d=e->a.v=L.v)/\e<=d
  |.q _ _ _ _,_,.t,_=>True
  |.q _ _ _ _,_,_,_=>False
  |.A _ _ e _,L,.A _ _ d _,a=>(d=e->a.v=L.v)/\e<=d
  |.A _ _ _ _,_,.t,_=>True
  |.A _ _ _ _,_,_,_=>False
  |_,_,.q _ _ _ _,_=>False
  |_,_,.A _ _ _ _,_=>False
  |.t,L,.t,a=>a.v=L.v
  |.t,_,_,_=>False
  |.a2,L,.a2,a=>a.v=L.v
  |.a2,_,_,_=>False
  |_,_,.a2,_=>False
  |_,L,_,a=>a.v=L.v
structure ey(h:e Y)(d:aj)(aO:e Y)(au:aj):Prop where
  mem:∀j r ai,d.n j r=b ai->au.n j r=b ai
  box:∀(l:Nat) (bR:Y) (L:Loc),h[l]?=b bR->d.m[l]?=b L->∃dN b7,aO[l]?=b dN/\au.m[l]?=b b7/\fL bR L dN b7
structure cA(h:e Y)(d:aj)(aO:e Y)(au:aj):Prop where
  size:d.a.heap.size<=au.a.heap.size
  aG:∀j,j<d.a.heap.size->(∀L∈d.m,j∉L.V)->au.a.heap[j]?=d.a.heap[j]?
  mem:∀j r ai,d.n j r=b ai->au.n j r=b ai
  ba:∀j,j<d.a.heap.size->(∀L∈d.m,j∉L.V)->∀r,au.n j r=d.n j r
  bp:∀b7∈au.m,∀j∈b7.V,d.a.heap.size<=j∨∃L∈d.m,j∈L.V
  box:∀(l:Nat) (bR:Y) (L:Loc),h[l]?=b bR->d.m[l]?=b L->∃dN b7,aO[l]?=b dN/\au.m[l]?=b b7/\fL bR L dN b7
  os:au.a.os=d.a.os
  tape:au.a.tape=d.a.tape
  output:au.a.output=d.a.output
  own:au.own=d.own
structure c6(h:e Y)(d:aj)(aO:e Y)(au:aj):Prop where
  size:d.a.heap.size<=au.a.heap.size
  aG:∀j,d.own j->au.a.heap[j]?=d.a.heap[j]?
  mem:∀j r ai,d.n j r=b ai->au.n j r=b ai
  ba:∀j,j<d.a.heap.size->(∀L∈d.m,j∉L.V)->∀r,au.n j r=d.n j r
  bp:∀b7∈au.m,∀j∈b7.V,d.a.heap.size<=j∨∃L∈d.m,j∈L.V
  box:∀(l:Nat) (bR:Y) (L:Loc),h[l]?=b bR->d.m[l]?=b L->∃dN b7,aO[l]?=b dN/\au.m[l]?=b b7/\fL bR L dN b7
  os:au.a.os=d.a.os
  tape:au.a.tape=d.a.tape
  output:au.a.output=d.a.output
  own:au.own=d.own
structure cL(d au:aj):Prop where
  m:au.m=d.m
  n:au.n=d.n
  own:au.own=d.own
  size:d.a.heap.size<=au.a.heap.size
  aG:∀j,(d.own j∨∃L∈d.m,j∈L.V)->au.a.heap[j]?=d.a.heap[j]?
  mem:∀j r ai,d.n j r=b ai->au.a.cell? ⟨j,r,k⟩=b ai
  os:au.a.os=d.a.os
  tape:au.a.tape=d.a.tape
  output:au.a.output=d.a.output
def hD(e:aj)(d:ay):Prop:=
  match d.loc with
  |.cell a=>d.sync=m/\a.spot=k/\(False∨((∃L∈e.m,a.block∈L.V)/\(d.write=i->e.n a.block a.off=k))∨(d.write=m/\∃j,e.n a.block a.off=b j))
  |.obj h=>d.sync=m/\(False∨∃L∈e.m,h∈L.V)
  |.mark f=>f=.noRoom∨∃g,f=.extern g
  |_=>False
def cR(e:aj)(a:Array ay):Prop:=∀d∈a,hD e d
def cR.nil{a:aj}:cR a #[]:=by intro d e;grind
def fL.refl(a:Y)(L:Loc):fL a L a L:=by cases a<;>simp[fL]
def fL.trans{g e a:Y}{L f d:Loc}(j:fL g L e f)(h:fL e f a d):fL g L a d:=by
  cases g<;>cases e<;>cases a<;>simp_all[fL]
  all_goals
    grind
def cA.refl(d:e Y)(f:aj):cA d f d f:=
  ⟨bE _,λ_ _ _=>rfl,λ_ _ _ a=>a,λ_ _ _ _=>rfl,λL a l j=>.inr ⟨L,a,j⟩,λ_ g L a h=>⟨g,L,a,h,.refl _ _⟩,rfl,rfl,rfl,rfl⟩
def cA.trans{v n q:e Y}{t u s:aj}(d:cA v t n u)(o:cA n u q s):cA v t q s:=by
  have h:∀a,a<t.a.heap.size->(∀L∈t.m,a∉L.V)->∀L∈u.m,a∉L.V:=by
    intro a g j L r z;rcases d.bp L r a z with b8|⟨K,I,D⟩
    · omega
    grind
  refine⟨i_ d.size o.size,?_,λa C J B=>o.mem _ _ _ (d.mem _ _ _ B),?_,?_,?_,o.os.trans d.os,o.tape.trans d.tape,o.output.trans d.output,o.own.trans d.own⟩
  · intro a g j
    rw[o.aG a (ej g d.size) (h a g j),d.aG a g j]
  · intro a g j C
    rw[o.ba a (ej g d.size) (h a g j),d.ba a g j]
  · intro L r a g
    rcases o.bp L r a g with b8|⟨L1,F,E⟩
    · exact .inl (i_ d.size b8)
    grind
  · intro l x L ao r
    obtain⟨w,L1,b8,cY,bk⟩:=d.box l x L ao r;exact K0
def c6.refl(d:e Y)(f:aj):c6 d f d f:=
  ⟨bE _,λ_ _=>rfl,λ_ _ _ a=>a,λ_ _ _ _=>rfl,λL a l j=>.inr ⟨L,a,j⟩,λ_ g L a h=>⟨g,L,a,h,.refl _ _⟩,rfl,rfl,rfl,rfl⟩
def c6.trans{v h j:e Y}{s t r:aj}(d:c6 v s h t)(o:c6 h t j r):c6 v s j r:=by
  have q:∀a,a<s.a.heap.size->(∀L∈s.m,a∉L.V)->∀L∈t.m,a∉L.V:=by
    intro a g u L n z;rcases d.bp L n a z with b8|⟨K,I,D⟩
    · omega
    grind
  refine⟨i_ d.size o.size,?_,λa C J B=>o.mem _ _ _ (d.mem _ _ _ B),?_,?_,?_,o.os.trans d.os,o.tape.trans d.tape,o.output.trans d.output,o.own.trans d.own⟩
  · intro a g
    rw[o.aG a (by rw[d.own];exact g),d.aG a g]
  · intro a g u C
    rw[o.ba a (ej g d.size) (q a g u),d.ba a g u]
  · intro L n a g
    rcases o.bp L n a g with b8|⟨L1,F,E⟩
    · exact .inl (i_ d.size b8)
    grind
  · intro l x L ao n
    obtain⟨w,L1,b8,cY,bk⟩:=d.box l x L ao n;exact K0
def cA.tolU{h d:e Y}{l g:aj}(f:aZ h l)(a:cA h l d g):c6 h l d g:=
  ⟨a.size,λj n=>a.aG j (f.own j n).1 (f.own j n).2,a.mem,a.ba,a.bp,a.box,a.os,a.tape,a.output,a.own⟩
def c6.ext{f a:e Y}{h d:aj}(g:c6 f h a d):ey f h a d:=⟨g.mem,g.box⟩
def cL.refl{f:e Y}{d:aj}(a:aZ f d):cL d d:=⟨rfl,rfl,rfl,bE _,λ_ _=>rfl,a.mem,rfl,rfl,rfl⟩
def cL.aH{j:e Y}{l d:aj}(a:cL l d):c6 j l j d:=
  ⟨a.size,λg h=>a.aG g (.inl h),λg q r o=>by rw[a.n];exact o,λ_ _ _ _=>by rw[a.n],λL f g h=>.inr ⟨L,by rw[<-a.m];exact f,h⟩,
    λp n L ao f=>⟨n,L,ao,by rw[a.m];exact f,.refl _ _⟩,a.os,a.tape,a.output,a.own⟩
def cA.ext{f a:e Y}{h d:aj}(g:cA f h a d):ey f h a d:=⟨g.mem,g.box⟩
section mono
variable {h aO:e Y}{d au:aj}
def ey.hk(o:ey h d aO au){a:Nat}{L:Loc}(l:d.m[a]?=b L)(p:c d.m=c h)(n:∀e,h[a]?=b e->e.cN=m):
    (∀e,aO[a]?=b e->e.cN=m)/\∃f,au.m[a]?=b f/\f.v=L.v:=by have j:a<c h:=J;obtain⟨g,f,k1,r,s⟩:=o.box a (h[a]) L (bu j) l;have q:=n _ (bu j);generalize h[a]=e at *;rw[k1];cases e<;>cases g<;>simp_all[fL,Y.cN]
def ck.mono(j:ey h d aO au)(s:c d.m=c h){O:I}{v:C}(l:ck h d O v):ck aO au O v:=by
  cases v with
  |c Y=>exact Rd.mono j.mem l
  |any=>exact l
  |ptr a N=>
    obtain⟨K,L,R,f,y,F⟩:=l;obtain⟨q,e,k1,z⟩:=j.hk f s K;exact⟨q,e,R,k1,by grind,F⟩
  |q a V W S=>
    obtain⟨A,n,T⟩:=l;obtain⟨u,e,k1,z,r⟩:=j.box a (h[a]) (d.m[a]'x) (bu n) (bu x);have w:a<c aO:=(cD.1 k1).1;refine⟨Rd.mono j.mem A,w,λQ B q o g=>?_⟩;rw[g]at k1;cases k1;have ao:=bu n;generalize h[a]=t at *;cases t with
    |q dS D J p=>
      obtain⟨U,M⟩:=r;grind
    |_=>simp[fL]at r
  |aD a=>
    obtain⟨K,L,f,y,F⟩:=l;obtain⟨q,e,k1,z⟩:=j.hk f s K;exact⟨q,e,k1,by grind,F⟩
  |ak a X=>
    obtain⟨E,A,n,T⟩:=l;obtain⟨u,e,k1,z,r⟩:=j.box a (h[a]) (d.m[a]'x) (bu n) (bu x);have w:a<c aO:=(cD.1 k1).1;refine⟨E,A,w,λQ B q o g=>?_⟩;rw[g]at k1;cases k1;have ao:=bu n;generalize h[a]=t at *;cases t with
    |A dS D J p=>
      obtain⟨U,M⟩:=r;grind
    |_=>simp[fL]at r
def bJ.mono(l:ey h d aO au)(f:c d.m=c h){z:e I}{a:e C}(j:bJ h d z a):bJ aO au z a:=by
  induction z generalizing a with
  |nil=>cases a<;>simp_all[bJ]
  |cons o z g=>
    cases a with
    |nil=>simp[bJ]at j
    |cons n a=>exact⟨j.1.mono l f,g j.2⟩
def eh.mono(j:ey h d aO au)(a:c d.m=c h){n:I}{g:E1}(l:eh h d n g):eh aO au n g:=by
  cases g with
  |S p=>exact ck.mono j a l
  |agg o=>obtain⟨z,e,f⟩:=l;exact⟨z,e,f.mono j a⟩
def eJ.mono(l:ey h d aO au)(a:c d.m=c h){z:e I}{O:e E1}(g:eJ h d z O):eJ aO au z O:=by
  induction z generalizing O with
  |nil=>cases O<;>simp_all[eJ]
  |cons o z f=>
    cases O with
    |nil=>simp[eJ]at g
    |cons n j=>exact⟨g.1.mono l a,f g.2⟩
def bo.mono(j:ey h d aO au)(a:c d.m=c h){n:I}{e:s}(l:bo h d n e):bo aO au n e:=by
  cases e with
  |k o=>exact eh.mono j a l
  |C O=>obtain⟨z,f,g⟩:=l;exact⟨z,f,g.mono j a⟩
  |any=>trivial
def bW.mono(l:ey h d aO au)(a:c d.m=c h){z:e I}{O:e s}(g:bW h d z O):bW aO au z O:=by
  induction z generalizing O with
  |nil=>cases O<;>simp_all[bW]
  |cons o z f=>
    cases O with
    |nil=>simp[bW]at g
    |cons n j=>exact⟨g.1.mono l a,f g.2⟩
end mono
def h_(g:e Y)(j:aj):e Deferred->e Nat->Prop
  |[],[]=>True
  |l::d,f::a=>(g[f]?=b .a2/\∃(L:Loc) (h:Nat),j.m[f]?=b L/\L.v=.int .i64 h/\l={target:=.collected h,args:=#[]})/\f∉a/\h_ g j d a
  |_,_=>False
def h_.mono{h aO:e Y}{d au:aj}(p:ey h d aO au):∀{a:e Deferred} {f:e Nat},h_ h d a f->h_ aO au a f
  |[],[],_=>trivial
  |[],_::_,g=>g.elim
  |_::_,[],g=>g.elim
  |w::a,v::f,⟨⟨n,L,g,o,x,t⟩,u,q⟩=>by
    obtain⟨j,l,k1,r,s⟩:=p.box v _ L n o;cases j<;>simp[fL]at s
    exact⟨⟨k1,l,g,r,by grind,t⟩,u,h_.mono p q⟩
def jq:e Y->Bool
  |[]=>i
  |.a2::_=>m
  |_::a=>jq a
def tP:∀{g:e Y},jq g=i->∀a∈g,a≠.a2
  |[],_,a,ao=>by grind
  |f::h,j,a,ao=>by
    have d:f≠.a2/\jq h=i:=by cases f<;>simp_all[jq]
    rcases ef.1 ao with rfl|ao
    · exact d.1
    · exact tP d.2 a ao
theorem jf{d:aj}{a:Nat}{wr:Bool}{L:Loc}(e:L∈d.m)(f:a∈L.V):hD d ⟨.obj a,wr,m⟩:=⟨rfl,.inr ⟨L,e,f⟩⟩
def cR.S{d:aj}{a:ay}(f:hD d a):cR d #[a]:=by intro A e;grind
def cR.eB{d:aj}{e a:ay}(h:hD d e)(g:hD d a):cR d #[e,a]:=by intro j f;grind
def bx{U:Prop}(n:U:=by simp<;>omega):U:=n
def cF{U:Prop}(n:U:=by((try simp only[V,V.W,a9,bM,d6,dB,cX,dZ,iE,fR,gX,iI,List.length_take,e3,gn,gZ,pH,cr,cN,j8,mN,k3,l1,gD,nB,ct,hP,iG,l0,lX,oD,bl,bn]);and_intros<;>first|rfl|omega|trivial|assumption)):U:=n
def g3{U:Prop}(n:U:=by((try simp only[*,V,V.W,a9,bM,d6,dB,cX,dZ,iE,fR,gX,iI,List.length_take,e3,gn,gZ,pH,cr,cN,j8,mN,k3,l1,gD,nB,ct,hP,iG,l0,lX,oD,bl,bn]);and_intros<;>first|rfl|omega|trivial|assumption)):U:=n
def ky{U:Prop}(n:U:=by(simp_all[V,V.W,a9,bM,d6,dB,cX,dZ,iE,fR,gX,iI,List.length_take,e3,gn,gZ,pH,cr,cN,j8,mN,k3,l1,gD,nB,ct,hP,iG,l0,lX,oD,bl,bn]<;>omega)):U:=n
def bH{U:Prop}(n:U:=by((try simp only[*,V,V.W,a9,bM,d6,dB,cX,dZ,iE,fR,gX,iI,List.length_take,e3,gn,gZ,pH,cr,cN,j8,mN,k3,l1,gD,nB,ct,hP,iG,l0,lX,oD,bl,bn,br.aa,bV.aa,cG.aa,bS.aa,cx.aa,bf.aa,bD.aa,cP.aa,eS.aa,br.ad,bV.ad,cG.ad,bS.ad,cx.ad,bf.ad,bD.ad,cP.ad,eS.ad]);and_intros<;>first|rfl|omega|trivial|assumption)):U:=n
abbrev aL(a:D):s:=.k (.S (.c a))
abbrev ba(a d:Nat):s:=.k (.S (.ptr a d))
abbrev dR(a:Nat)(d:nl):s:=.k (.S (.ak a d))
abbrev ce(a:Value):s:=.k (.S (.c (.val a)))
variable {p:Nat}{o:Int}{l j f y:Nat}{T:ab}{H:I->(Nat->Option Obj)->Prop}{L:Array Bool}{bi:Mem}{B:Nat}{P:aw}{bg:ae->aj->Prop}{u:Code}{X:ae}{r:ah}{d:aj}{w:ab}{ai:I}{K:af}{α:Type}{η:Z->s}{ι:Type}{h:e Y}{F:bd}{all:e ah}{dK:Array ab}{cap:e D}{dg:e s}{eb:Nat->Option Obj}{aY:e az}{bK:e (Nat×Bool)}{es:Nat->e D}{dC:Z}{gs:Array ae}{bb:e Nat}{cl:e Prop}{off:Nat}{op:BinOp}{aP:Array ah}{aB:e Prop}{bw:e ah}{au:aj}{gz:Bool}{ty:ab}{val:Nat->Nat->I}{z:e I}{a5:af}{O:e I}{aO dq:e Y}{res:ι->s}{a6:ι->e Y}
def Gg{P:aw}{o:af}:∀{q:e (String×DataW Unit)}{f:e MemPlace},DataW.LaidVars P o q f->∀{g:String}{j:DataW Unit},(g,j)∈q ->
  ∃l n d a r,P.globalNamed g=b l/\(P.globals[l]?).map (·.type)=b n/\o.var? P g=b d/\DataW.trod (λ_=>()) P o 0 (λ_=>i) m a n d.toList=b (j,r)
 |[],_,_,_,_,h=>by cases h
 |(z,t)::B,f,u,g,j,h=>by
  obtain⟨l,n,d,a,r,A,x,v,y,w,s,_⟩:=u;rcases ef.1 h with p|p
  .grind
  exact Gg s p
theorem HZ{P:aw}{e:af}(h:e.ShapedOpen P){d:Nat}{zero:Array I}{f:ab}(j:d<P.globals.size)(o:(((begin P (λ_ _=>0) default).world.heap[d]?).bind Obj.row?)=b (zero,f)){g:String}(q:P.globalNamed g=b d){a:Array I}(l:e.var? P g=b a):
  e.heap[d]?=b (.cells a f (0,0)):=by obtain⟨n,p,_⟩:=h.1 d zero f j o;unfold World.var? at l;grind
def Gh{P:aw}{f:af}{j:e (String×DataW Unit)}(r:laidMetH P j f)(o:f.ShapedOpen P){l t:String}{q:DataW Unit}(K:(l,.iface t q)∈j.filter λF=>F.2.handleName?.isNone){a n g:Nat}{s:Array (String×ab)}{zero:Array I}(h:P.globalNamed l=b a)(A:(P.globals[a]?).map (·.type)=b n)(z:P.underlying n=b (.interface s))(J:a<P.globals.size)(C:(((begin P (λ_ _=>0) default).world.heap[a]?).bind Obj.row?)=b (zero,g)):∃d:ab×I,f.heap[a]?=b (.cells #[.iface d.1 d.2] g (0,0)):=by obtain⟨x,u,_⟩:=(laidMetH_iff.1 r).1;obtain⟨M,t2,p,N,O,y,v,E,w⟩:=Gg u K;cases h.symm.trans y;cases A.symm.trans v;obtain⟨_,B,D,d,_⟩:=iface_of_trod z w;have:=HZ o J C h E;rw[Array.eq_one_of_toList d]at this;exact⟨(B,D),this⟩
def Sj{P:aw}{f:af}{n:e (String×DataW Unit)}(t:laidMetH P n f)(B:f.ShapedOpen P){o:String}{g:DataW Unit}{h:e UInt8}(z:(o,g)∈n.filter λA=>A.2.handleName?.isSome)(r:g.funcsIn?=k)(x:g.handleName?=b h){d l p a:Nat}{zero:Array I}(M:P.globalNamed o=b d)(w:(P.cutTypes.find? (·.1== "internal/reflectlite.rtype")).map (·.2)=b p)(J:((aI P.types.size).filter λj=>P.rowNamed j h)=[a])(K:d<P.globals.size)(C:(((begin P (λ_ _=>0) default).world.heap[d]?).bind Obj.row?)=b (zero,l)):f.heap[d]?=b (.cells #[.iface p (.agg #[typeHandle P a])] l (0,0)):=by have:=(laidMetH_iff.1 t).2 _ z;rw[r]at this;obtain⟨name,F,q,s,y,u,v,E⟩:=this;cases x.symm.trans s;cases w.symm.trans y;have D:q∈(aI P.types.size).filter λj=>P.rowNamed j h:=lZ.2 ⟨pC.2 u,v⟩;grind[HZ]
section
open Go.Conc (G listed)
def jB(f d:aj)(e:Array ay):Prop:=(∃g a,aZ g f/\aZ a d/\cA g f a d)/\cR f e
structure al(P:aw) where
 bW:Bool
 rely:aj->aj->Prop
 cQ:ae->aj->(ae->aj->Prop)->Prop
 bt:∀{d au},rely d au->cL d au
 dt:Prop
class al.bT {P:aw} (q:al P):Prop where
 ok:q.dt
structure eg(d au:aj):Prop where
 a:au.a=d.a
 mem:∀j r ai,d.n j r=b ai->au.n j r=b ai
 ba:∀j,(∀L∈d.m,j∉L.V)->∀r,au.n j r=d.n j r
 cell:∀j r ai,au.n j r=b ai->d.a.cell? ⟨j,r,k⟩=b ai
 blk:∀j,(au.own j∨∃L∈au.m,j∈L.V)->d.own j∨∃L∈d.m,j∈L.V
structure mE(d au:aj):Prop where
 a:au.a=d.a
 m:au.m=d.m
 own:au.own=d.own
 eQ:∀j r ai,au.n j r=b ai->d.n j r=b ai
 mem:∀j r ai,d.n j r=b ai->au.n j r=b ai∨d.own j
inductive cf {P:aw} (q:al P) (bg:ae->aj->Prop):ae->aj->Prop
 |stop {X:ae} {d:aj}:bg X d->cf q bg X d
 |step {X:ae} {d:aj} (GG:aj->ae) (bj:aj->aj) (GB:aj->Array ay):X.status=.running ->
   (∀s1,q.rely d s1->ap P q.bW X s1.a=.go (GG s1) (bj s1).a (GB s1))->(∀s1,q.rely d s1->jB s1 (bj s1) (GB s1))->(∀s1,q.rely d s1->cf q bg (GG s1) (bj s1))->cf q bg X d
 |aK {X:ae} {d au:aj}:eg d au->cf q bg X au->cf q bg X d
 |bY {X:ae} {d au:aj}:q.dt->mE d au->cf q bg X au->cf q bg X d
 |cQ {X:ae} {d:aj} {ag:ae->aj->Prop}:q.cQ X d ag->(∀gG au,ag gG au->cf q bg gG au)->cf q bg X d
section
variable {q:al P}
def cf.next(h:X.status=.running)(j:∀u,q.rely d u->∃a au es,ap P q.bW X u.a=.go a au.a es/\jB u au es/\cf q bg a au):cf q bg X d:=by
 classical
 have e:∀u,∃a1:ae×aj×Array ay,q.rely d u->ap P q.bW X u.a=.go a1.1 a1.2.1.a a1.2.2/\jB u a1.2.1 a1.2.2/\cf q bg a1.1 a1.2.1:=by
  intro u;by_cases f:q.rely d u
  .obtain⟨a,au,es,b8⟩:=j u f;exact⟨(a,au,es),λ_=>b8⟩
  exact⟨(X,u,#[]),λg=>absurd g f⟩
 refine .step (λu=>(Classical.choose (e u)).1) (λu=>(Classical.choose (e u)).2.1) (λu=>(Classical.choose (e u)).2.2) h J J ?_;grind
theorem eg.of(o:aZ h d)(p:aZ aO au)(q:au.a=d.a)(g:c6 h d aO au):eg d au:=by
 have v:∀a f j,au.n a f=b j->d.a.cell? ⟨a,f,k⟩=b j:=λa f j n=>by rw[<-q];exact p.mem a f j n
 have s:∀a f j,d.a.cell? ⟨a,f,k⟩=b j->a<d.a.heap.size:=by
  intro a f j n;rcases dJ a d.a.heap.size with e|e
  .exact e
  simp[aJ,ye e]at n
 refine⟨q,g.mem,λa l f=>?_,v,λa l=>?_⟩
 .rcases dJ a d.a.heap.size with e|e
  .exact g.ba a e l f
  cases t:au.n a f with
  |some j=>grind
  |none=>cases u:d.n a f with
   |none=>rfl
   |some j=>have:=s _ _ _ (o.mem _ _ _ u);omega
 rcases l with l|⟨L,r,l⟩
 .exact .inl (by rw[<-g.own];exact l)
 rcases g.bp L r a l with e|e
 .have:=p.lt L r a l;grind
 grind
def aZ.rely(n:aZ h d)(f:cL d au):aZ h au:=by
 have t:ey h d h au:=f.aH.ext;have X:∀v x,ck h d v x->ck h au v x:=λv x w=>w.mono t n.len;refine⟨λj s v M=>f.mem j s v (by rw[<-f.n];exact M),by rw[f.m];exact n.len,?_,by rw[f.m];exact n.aL,?_,?_⟩
 .intro l E L ao p;rw[f.m]at p;have o:=n.box l E L ao p;have K:∀j∈L.V,au.a.heap[j]?=d.a.heap[j]?:=λj o=>f.aG j (.inr ⟨L,bZ p,o⟩);cases E with
  |cells F I=>
   obtain⟨j,z,e,g,q,r⟩:=o;subst e;exact⟨j,z,a,by grind,q.mono t n.len,λs=>by rw[f.n,r]⟩
  |q F O R B=>
   obtain⟨e,g⟩:=o;refine⟨by rw[f.n];exact e,?_⟩;rcases g with⟨g,q⟩|⟨j,cap,z,g,q,r,u⟩
   .exact .inl ⟨g,by rw[f.n];exact q⟩
   subst g;exact .inr ⟨j,cap,z,a,by grind,r,λs C=>by rw[f.n,u s C]⟩
  |Q H=>
   obtain⟨A,e,g,q,r⟩:=o;refine⟨A,e,λj s W=>?_,q,λj J s=>by rw[f.n,r j J]⟩;grind
  |t=>trivial
  |loop V U w=>
   obtain⟨l,tmps,fn,N,e,g,q,r,u⟩:=o;subst e;exact⟨l,tmps,fn,N,a,by grind,q,λT=>(r T).mono t n.len,λs=>by rw[f.n,u]⟩
  |a2=>
   obtain⟨w,e,g,q⟩:=o;subst e;exact⟨w,a,by grind,λs=>by rw[f.n,q]⟩
  |A F O R B=>
   rcases o with o|⟨j,y,z,D,e,g,q,r,u,Q,S⟩
   .exact .inl o
   subst e;exact .inr ⟨j,y,z,D,a,by grind,q,r,u,by rw[f.n];exact Q,λs=>by rw[f.n,S]⟩
 .intro L p j o;rw[f.m]at p;exact ej (n.lt L p j o) f.size
 intro j o;rw[f.own]at o;rw[f.m];exact⟨ej (n.own j o).1 f.size,(n.own j o).2⟩
def jB.aS(a:aZ h d):jB d d #[]:=⟨⟨h,h,a,a,.refl _ _⟩,.nil⟩
def _root_.Go.Frame.i(d:az)(a:Act)(todo:e Item):az:={d with tmps:=a.tmps,todo:=todo,defers:=a.defers++d.defers,mode:=.run}
variable {j:az}{t:Act}{o:e Item}{fc:Bool}
def Fk(d:az)(a:Act)(f:e Item):(d.i a f).eval=a.eval:=by funext g;cases g<;>rfl
def HW:ap P fc (G (j.i t (.code .skip::o)) aY) K=.go (G (j.i t o) aY) K:=pn
def HS{id:Nat}:ap P fc (G (j.i t (.inBlock id::o)) aY) K=.go (G (j.i t o) aY) K:=pn
theorem n_{a d:Code}:ap P fc (G (j.i t (.code (.seq a d)::o)) aY) K=.go (G (j.i t (.code a::.code d::o)) aY) K:=pn
def xa{a:Z}{d e:Code}{w:Bool}(g:t.eval a=.bool w):
  ap P fc (G (j.i t (.code (.cond a d e)::o)) aY) K=.go (G (j.i t (.code (if w then d else e)::o)) aY) K:=by
 have f:(j.i t (.code (.cond a d e)::o)).eval a=.bool w:=by rw[Fk];exact g
 simp only[Frame.i]at f;simp[G,ap,stepG.exec,Frame.i,f]
def w'{id:Nat}:ap P fc (G (j.i t (.code (.block id u)::o)) aY) K=.go (G (j.i t (.code u::.inBlock id::o)) aY) K:=pn
def HU:ap P fc (G (j.i t (.code (.loop u)::o)) aY) K=.go (G (j.i t (.code u::.inLoop u::o)) aY) K:=pn
def HT:ap P fc (G (j.i t (.inLoop u::o)) aY) K=.go (G (j.i t (.code u::.inLoop u::o)) aY) K:=pn
def HR{id:Nat}{fJ:e Item}(n:exitTo id o=b fJ):ap P fc (G (j.i t (.code (.exit id)::o)) aY) K=.go (G (j.i t fJ) aY) K:=Ci
def xc{id:Nat}:ap P fc (G (j.i t (.code (.region id aP m)::o)) aY) K=.go (G (j.i t (.inRegion aP (aI aP.size)::o)) aY) K:=pn
def Bo{id:Nat}:ap P fc (G (j.i t (.code (.region id aP i)::o)) aY) K =
  .go (G (j.i t (.inRegion aP (Region.schedule (P.follows .mixedOrders) aP (K.tape K.drawn (.order j.fn id)))::o)) aY) {K with drawn:=K.drawn+1}:=by simp[G,ap,stepG.exec,Frame.i,choose,Sem.run,Question.forced,Question.cut]
def ug:ap P fc (G (j.i t (.inRegion aP []::o)) aY) K=.go (G (j.i t o) aY) K:=pn
def Bp(n:j.roundOf=k):ap P fc (G (j.i t (.code .ret::o)) aY) K=.go (G {j.i t (.code .ret::o)with mode:=.returning} aY) K:=Ci
def Bn(n:j.roundOf=k):ap P fc (G (j.i t []) aY) K=.go (G {j.i t []with mode:=.returning} aY) K:=Ci
def p1(a:Array ah)(f:Nat)(d:e Nat)(g:I):
  (j.i t (.inRegion a (f::d)::o)).finish g=j.i (t.put ((a[f]?).bind (·.dst)) g) (.inRegion a d::o):=by cases h:(a[f]?).bind (·.dst)<;>simp[Frame.finish,Frame.i,Act.put,h]
def Um{a:e Nat}(d:aP[f]?=b r)(h:aS r (yielded aP t.tmps)=m):
  ap P fc (G (j.i t (.inRegion aP (f::a)::o)) aY) K=.go (G (j.i (t.put r.dst E) (.inRegion aP a::o)) aY) K:=by have g:=p1 (j:=j) (t:=t) (o:=o) aP f a E;rw[d]at g;simp only[nC]at g;rw[<-g];simp[G,ap,stepG.exec,Frame.i,d,h]
theorem vK{f:Z->I}{d:Call}(h:r.op=.defer d){g:Next}(a:(W f r).run P K=.ok g a5):∃e,g=.defer e:=by
 simp only[W,h,cn]at a;cases j:(resolve f d r.type).run P K with
 |ok e w2=>rw[j]at a;simp at a;grind
 |halt l w2=>simp_all
def xb{a:e Nat}(d:aP[f]?=b r)(l:aS r (yielded aP t.tmps)=i)(n:∀h,r.op≠.defer h):
  ap P fc (G (j.i t (.inRegion aP (f::a)::o)) aY) K=stepG.apply P i (j.i t (.inRegion aP (f::a)::o)) aY k (W t.eval r) K:=by have g:=Fk j t (.inRegion aP (f::a)::o);simp only[Frame.i]at g;simp[G,ap,stepG.exec,stepG.oper,Frame.oper?,Frame.i,d,l,g];grind
theorem Us{a:e Nat}(d:aP[f]?=b r)(l:aS r (yielded aP t.tmps)=i)(p:j.kind≠.early)(n:(W t.eval r).run P K=.ok (.value ai) a5):
  ap P fc (G (j.i t (.inRegion aP (f::a)::o)) aY) K=.go (G (j.i (t.put r.dst ai) (.inRegion aP a::o)) aY) a5 (listed P j.fn t r K):=by have g:=p1 (j:=j) (t:=t) (o:=o) aP f a ai;rw[d]at g;simp only[nC]at g;have h:(j.kind==CallKind.early)=m:=J;rw[xb d l (λq s=>by grind[vK]),<-g];simp[stepG.apply,n,G,Frame.i,h,GStep.after,listed]
theorem HV{bw:e Nat}(a:aP[f]?=b r)(h:aS r (yielded aP t.tmps)=i)(n:j.kind≠.early)(l:(W t.eval r).run P K=.ok .skip a5):
  ap P fc (G (j.i t (.inRegion aP (f::bw)::o)) aY) K=.go (G (j.i (t.put r.dst E) (.inRegion aP bw::o)) aY) a5 (listed P j.fn t r K):=by have d:=p1 (j:=j) (t:=t) (o:=o) aP f bw E;rw[a]at d;simp only[nC]at d;have g:(j.kind==CallKind.early)=m:=J;rw[xb a h (λp q=>by grind[vK]),<-d];simp[stepG.apply,l,G,Frame.i,g,GStep.after,listed]
def uf{bw:e Nat}{d:ar}{args:Array I}(a:aP[f]?=b r)(h:aS r (yielded aP t.tmps)=i)(n:j.kind≠.early)(l:(W t.eval r).run P K=.ok (.enter d args) a5):
  ap P fc (G (j.i t (.inRegion aP (f::bw)::o)) aY) K=.go (G (Frame.enter P d args .normal) (j.i t (.inRegion aP (f::bw)::o)::aY)) a5 (listed P j.fn t r K):=by have g:(j.kind==CallKind.early)=m:=J;rw[xb a h (λp q=>by grind[vK])];simp[stepG.apply,l,G,Frame.i,g,GStep.after,listed]
structure kX(P:aw)(ac:ar)(kh:az)(ai:I)(d:aj):Prop where
 i_:kh.fn=ac
 mode:kh.mode=.returning
 defers:kh.defers=[]
 kind:kh.kind=.normal
 fn:∃fn,P.funcs[kh.fn]?=b fn/\∀K,(∀j r bk,d.n j r=b bk->K.cell? ⟨j,r,k⟩=b bk)->(results fn kh.tmps).run P K=.ok ai K/\∀ak∈(results fn kh.tmps).events P K #[],∃j r bk,ak=⟨.cell ⟨j,r,k⟩,m,m⟩/\d.n j r=b bk
def kX.mono{h:ar}{a:az}(q:kX P h a ai d)(t:∀g j l,d.n g j=b l->au.n g j=b l):kX P h a ai au:=by obtain⟨e,f,p,n,fn,o,s⟩:=q;refine⟨e,f,p,n,fn,o,λu r=>?_⟩;grind
def cR.seen{d:aj}{a:Array ay}{fn:ar}(g:cR d a):cR d (seen P fn a):=λf e=>g f (Go.Conc.mem_seen e)
def Ul{p:ar}{h u:az}(j:kX P p h ai d)(g:af)(q:∀a f l,d.n a f=b l->g.cell? ⟨a,f,k⟩=b l):∃e,ap P fc (G h (u::aY)) g=.go (G (u.finish ai) aY) g e/\∀n∈e,∃a f l,n=⟨.cell ⟨a,f,k⟩,m,m⟩/\d.n a f=b l:=by obtain⟨fn,r,o⟩:=j.fn;obtain⟨v,t⟩:=o g q;refine⟨seen P h.fn ((results fn h.tmps).events P g #[]),?_,λn s=>t n (Go.Conc.mem_seen s)⟩;simp[G,ap,unwind,doReturn,j.mode,j.defers,j.kind,r,v,GStep.after]
end
end
structure bQ(B:Nat)(h:e Y)(d:aj)(F:bd)(t:Act):Prop where
 size:t.tmps.size=B
 defers:∃rD,h_ h d t.defers rD
 aC:∀w,bo h d (t.tmps.getD w E) (look F w)
def bQ.mono{l:Nat}{h aO:e Y}{d au:aj}{j:bd}{n:Act}(o:c6 h d aO au)(g:c d.m=c h)(a:bQ l h d j n):bQ l aO au j n:=
 ⟨a.size,a.defers.imp λ_ f=>f.mono o.ext,λp=>(a.aC p).mono o.ext g⟩
def bQ.rely{e:Act}(g:cL d au)(a:aZ h d)(f:bQ B h d F e):bQ B h au F e:=f.mono g.aH a.len
def bQ.put{d:Nat}{f:e Y}{h:aj}{l:bd}{g:Act}(a:bQ d f h l g){N:Nat}(n:N<d){ai:I}{A:s}(r:bo f h ai A):bQ d f h ((N,A)::l) (g.put (b N) ai):=by
 refine⟨by simp[Act.put,a.size],a.defers,λj=>?_⟩;simp only[Act.put,look];by_cases o:N=j
 .subst o;rw[show aa N N=i from sU N];have p:N<g.tmps.size:=by rw[a.size];exact n
  simp only[gJ,pJ p,hO,cond];exact r
 have:aa N j=m:=uA;rw[this];have q:=a.aC j;simp only[gJ]at q⊢;grind
def hK(h a:bd):Prop:=∀d e g f,bo d e g (look h f)->bo d e g (look a f)
def bQ.le{c':bd}{e:Act}(f:hK F c')(a:bQ B h d F e):bQ B h d c' e:=
 ⟨a.size,a.defers,λg=>f _ _ _ _ (a.aC g)⟩
abbrev dn:=Exit->bd->e Y->Prop
def jN(j:al P)(h:ae->aj->Prop)(l:az)(o:e Item)(a:e az):Exit->Act->aj->Prop
 |.normal,d,f=>cf j h (G (l.i d o) a) f
 |.exit id,d,f=>∀pre,(∀g,exitTo id (pre++g)=exitTo id g)->cf j h (G (l.i d (.code (.exit id)::(pre++o))) a) f
 |.ret,d,f=>∀pre,cf j h (G (l.i d (.code .ret::pre)) a) f
 |.panic n,d,f=>∀p,cf j h (G {l.i d p with mode:=.panicking n} a) f
 |_,_,_=>False
section
variable {q:al P}{j:az}{o:e Item}{t:Act}
def jN.cons{g:Item}(p:∀id a,exitTo id (g::a)=exitTo id a){f:Exit}(n:f≠.normal)(e:jN q bg j o aY f t d):jN q bg j (g::o) aY f t d:=by
 cases f with
 |normal=>grind
 |exit id=>
  intro pre l;have:=e (pre++[g]) (λa=>by grind);grind
 |ret=>exact e
 |panic h=>exact e
 |goto r=>exact e
 |outgrown=>exact e
def cf.ctl{a:ae}(g:aZ h d)(n:X.status=.running)(l:∀j,ap P q.bW X j=.go a j #[])(o:∀e,cL d e->cf q bg a e):cf q bg X d:=
 .next n λe f=>⟨a,e,#[],l e.a,.aS (g.rely (q.bt f)),o e (q.bt f)⟩
def vh{o:ar}{l u:az}(v:aZ h d)(p:kX P o l ai d)(r:∀e,cL d e->cf q bg (G (u.finish ai) aY) e):cf q bg (G l (u::aY)) d:=by refine .next a λe w=>?_;have f:=q.bt w;have j:=v.rely f;obtain⟨g,s,y⟩:=Ul (fc:=q.bW) (u:=u) (aY:=aY) p e.a f.mem;refine⟨_,e,g,s,⟨⟨h,h,j,j,.refl _ _⟩,λn t=>?_⟩,r e f⟩;obtain⟨A,B,z,rfl,x⟩:=y n t;exact⟨a,a,.inr (.inr ⟨a,z,by rw[f.n];exact x⟩)⟩
def vi(h:Nat->Act->aj->Prop)(y:∀p t d,h p t d->∃n,aZ n d/\∀g,cL d g->h p t g)(round:∀p t d,h p t d->(∀e f l,l<p->h l e f->cf q bg (G (j.i e (.inLoop u::o)) aY) f)->cf q bg (G (j.i t (.code u::.inLoop u::o)) aY) d)(B:h p t d):
  cf q bg (G (j.i t (.code (.loop u)::o)) aY) d:=by
 have key:∀p t d,h p t d->cf q bg (G (j.i t (.inLoop u::o)) aY) d:=by
  intro p;induction p using Nat.strongRecOn with
  |_ p A=>
   intro t d x;obtain⟨n,s,v⟩:=y p t d x;exact .ctl s a (λC=>HT) λg w=>round p t g (v g w) λe f l z r=>A l z e f r
 obtain⟨n,s,v⟩:=y p t d B;exact .ctl s a (λC=>HU) λg w=>round p t g (v g w) λe f l _ r=>key l e f r
end
def bX(q:al P)(o:Nat)(v:Code)(aq:dn)(u:bd)(l:e Y):Prop:=
 ∀j r,bQ o l j u r->aZ l j->∀(n:az) (t:e Item) (h:e az) (p:ae->aj->Prop),n.kind≠.early ->
  (∀s f a d g,aq s f a->bQ o a d f g->aZ a d->c6 l j a d->jN q p n t h s g d)->cf q p (G (n.i r (.code v::t)) h) j
def mI(a:e ah):e Nat->e ah->Prop
 |[],[]=>True
 |f::idx,g::d=>a.toArray[f]?=b g/\mI a idx d
 |_,_=>False
def e1(s:al P)(q:Nat)(f g:e ah)(aq:bd->e Y->Prop)(v:bd)(o:e Y):Prop:=
 ∀n t,bQ q o n v t->aZ o n->∀(p:az) (u:e Item) (l:e az) (r:ae->aj->Prop) (idx:e Nat),p.kind≠.early->mI f idx g ->
  (∀h a d j,aq h a->bQ q a d h j->aZ a d->c6 o n a d->cf s r (G (p.i j u) l) d)->cf s r (G (p.i t (.inRegion f.toArray idx::u)) l) n
section rules
variable {q:al P}{aq:dn}
def bX.mono{n:dn}(v:bX q B u aq F h)(w:∀a F h,aq a F h->n a F h):bX q B u n F h:=
 λd p s j r y g o z A=>v d p s j r y g o z λa e aO au f C x t l=>A a e aO au f (w _ _ _ C) x t l
def bX.le{f:Code}{c':bd}(r:bX q B f aq c' h)(e:hK F c'):bX q B f aq F h:=
 λt j o d l s a g p n=>r t j (o.le e) d l s a g p n
theorem bX.skip(o:aq .normal F h):bX q B .skip aq F h:=λt f l e r s j p _ g=>
 .ctl e a (λ_=>HW) λn d=>g .normal F h n f o (l.rely d e) (e.rely d) d.aH
def bX.ret(j:aq .ret F h):bX q B .ret aq F h:=λn d g a p l f o _ e=>e .ret F h n d j g a (.refl _ _) l
theorem bX.exit{id:Nat}(j:aq (.exit id) F h):bX q B (.exit id) aq F h:=λl d g a o p f n _ e=>by have:=e (.exit id) F h l d j g a (.refl _ _) [] bN;grind
def uo(next:bd->e Y->Prop)(aq:dn):dn
 |.normal,a,d=>next a d
 |f,a,d=>aq f a d
theorem bX.seq{K w:Code}(S:bX q B K (uo (bX q B w aq) aq) F h):bX q B (.seq K w) aq F h:=by
 intro V O T e y I f x D E;refine .ctl e a (λ_=>n_) λU d=>?_;refine S U O (T.rely d e) (e.rely d) y (.code w::I) f x D ?_;intro o M N t l J C A v;have z:=d.aH.trans v;cases o with
 |normal=>exact J t l C A y I f x D λo R j u n s p r g=>E o R j u n s p r (z.trans g)
 |_=>exact jN.cons (λ_ _=>rfl) Q (E _ _ _ _ _ J C A z)
theorem bX.cond{w:Z}{K M:Code}{o:Bool}{t:Nat}(U:w=.tmp t)(z:look F t=aL (.bool o))(R:o=i->bX q B K aq F h)(N:o=m->bX q B M aq F h):bX q B (.cond w K M) aq F h:=by
 intro V p x g v C n u J S;have s:=x.aC t;rw[z]at s;have y:p.eval w=.bool o:=by subst U;generalize y:p.tmps.getD t E=W at s;simp only[bo,eh,ck]at s;cases s;exact y
 refine .ctl g a (λ_=>xa y) λA f=>?_;have I:∀r j d e l,aq r j d->bQ B d e j l->aZ d e->c6 h A d e->jN q u v C n r l e:=λr j d e l T Q O D=>S r j d e l T Q O (f.aH.trans D);cases o
 .exact N a A p (x.rely f g) (g.rely f) v C n u J I
 exact R a A p (x.rely f g) (g.rely f) v C n u J I
def s6(id:Nat)(aq:dn):dn
 |.exit a,d,e=>if a=id then aq .normal d e else aq (.exit a) d e
 |f,d,e=>aq f d e
theorem bX.block{id:Nat}(v:bX q B u (s6 id aq) F h):bX q B (.block id u) aq F h:=by
 intro C r w g s o j p y f;refine .ctl g a (λ_=>w') λx e=>?_;refine v x r (w.rely e g) (g.rely e) s (.inBlock id::o) j p y ?_;intro ak c' aO l fl be X ac n;have N:=e.aH.trans n;cases ak with
 |normal=>
  exact J'
 |exit d=>
  simp only[s6]at be;split at be
  .exact JW
  .rename_i A
   intro pre tA;have:=f (.exit d) c' aO l fl be X ac N (pre++[.inBlock id]) (λfJ=>by
    rw[mO,tA];have:(id==d)=m:=J
    simp[exitTo,this])
   grind
 |ret=>exact f _ _ _ _ _ be X ac N
 |panic t=>exact f _ _ _ _ _ be X ac N
 |goto z=>exact f _ _ _ _ _ be X ac N
 |outgrown=>exact f _ _ _ _ _ be X ac N
def bX.loop{bg:Type}(v:bg->Prop)(l:bg->bd)(d:bg->e Y)(x:bg->Nat)(g:bg)(ae:v g)(W:hK F (l g))(T:d g=h)(round:∀g,v g->bX q B u (uo (λz A=>∃f,v f/\x f<x g/\hK z (l f)/\A=d f) aq) (l g) (d g)):bX q B (.loop u) aq F h:=by
 intro ad ai Z J R U E bg af ag;subst T;refine vi (λp j au=>∃f,v f/\bQ B (d f) au (l f) j/\aZ (d f) au/\c6 (d g) ad (d f) au/\x f=p) ?_ ?_ ⟨g,ae,Z.le W,J,.refl _ _,a⟩
 .rintro p j au ⟨f,y,r,X,w,I⟩;exact⟨d f,X,λah o=>⟨f,y,r.rely o X,X.rely o,w.trans o.aH,I⟩⟩
 rintro p j au ⟨f,y,r,X,w,rfl⟩ ab;refine round f y au j r X R (.inLoop u::U) E bg af ?_;intro I aj O K D M s t n;cases I with
 |normal=>
  obtain⟨N,C,V,S,rfl⟩:=M;exact ab D K (x N) V ⟨N,C,s.le S,t,w.trans n,a⟩
 |_=>exact jN.cons (λ_ _=>rfl) Q (ag _ _ _ _ _ M s t (w.trans n))
end rules
def bJ.cr{a:e C}(g:bJ h d z a):c z=c a:=by
 induction z generalizing a with
 |nil=>cases a<;>simp_all[bJ]
 |cons l z f=>
  cases a with
  |nil=>simp[bJ]at g
  |cons j a=>simp[f g.2]
def ck.cell{l:e Y}{o:aj}{j:I}{g:C}(a:ck l o j g):dx j=i:=by
 cases g with
 |c s=>exact Rd.cell a
 |ptr f h=>obtain⟨_,_,_,_,_,rfl⟩:=a;rfl
 |q f p q n=>exact Rd.cell a.1
 |aD f=>obtain⟨_,_,_,_,d⟩:=a;exact d
 |ak f r=>obtain⟨_,d,_⟩:=a;exact d.cell
 |any=>exact a
theorem bJ.get{f:e C}(n:bJ h d z f){t:C}(g:f[y]?=b t):∃j,z[y]?=b j/\ck h d j t:=by
 induction z generalizing f y with
 |nil=>cases f<;>simp_all[bJ]
 |cons j z l=>
  cases f with
  |nil=>grind
  |cons o f=>
   cases y with
   |zero=>simp at g;subst g;exact⟨j,a,n.1⟩
   |succ y=>simp at g;obtain⟨r,p,q⟩:=l n.2 g;grind
def bJ.cell{l:e Y}{n:aj}{z:e I}{a:e C}(g:bJ l n z a):∀j∈z,j.oneCell'=i:=by
 induction z generalizing a with
 |nil=>simp
 |cons j z f=>
  cases a with
  |nil=>simp[bJ]at g
  |cons o a=>
   intro h d;rcases ef.1 d with rfl|d
   .have:=ck.cell g.1;cases h<;>simp_all[dx,Value.oneCell']
   exact f g.2 h d
def bJ.append{l:e I}{a f:e C}(j:bJ h d z a)(n:bJ h d l f):bJ h d (z++l) (a++f):=by
 induction z generalizing a with
 |nil=>cases a<;>simp_all[bJ]
 |cons p z g=>
  cases a with
  |nil=>simp[bJ]at j
  |cons o a=>exact⟨j.1,g j.2⟩
def bJ.take{h:e Y}{j:aj}{z:e I}{a:e C}(g:bJ h j z a)(d:Nat):bJ h j (z.take d) (a.take d):=by
 induction z generalizing a d with
 |nil=>cases a<;>simp_all[bJ]
 |cons n z f=>
  cases a with
  |nil=>simp[bJ]at g
  |cons l a=>cases d with
   |zero=>simp[bJ]
   |succ d=>exact⟨g.1,f g.2 d⟩
def bJ.drop{h:e Y}{j:aj}{z:e I}{a:e C}(g:bJ h j z a)(d:Nat):bJ h j (z.drop d) (a.drop d):=by
 induction z generalizing a d with
 |nil=>cases a<;>simp_all[bJ]
 |cons n z f=>
  cases a with
  |nil=>simp[bJ]at g
  |cons l a=>cases d with
   |zero=>exact g
   |succ d=>simpa using f g.2 d
theorem aZ.block(a:aZ h d){e:Nat}(f:d.n j e=b ai):j<d.a.heap.size:=by
 have:=a.mem j e ai f;rcases dJ j d.a.heap.size with a|a
 .exact a
 simp[aJ,ye a]at this
def aZ.same(g:aZ h d)(x:a5.heap=d.a.heap):aZ h {d with a:=a5}:=by
 have Q:∀l,a5.cell? l=d.a.cell? l:=λl=>by simp[aJ,x]
 have S:∀p l,ck h d p l->ck h {d with a:=a5} p l:=λp l o=>by cases l<;>exact o
 have y:∀z e,bJ h d z e->bJ h {d with a:=a5} z e:=by
  intro z;induction z with
  |nil=>intro e o;cases e<;>simp_all[bJ]
  |cons p z A=>intro e o;cases e with
   |nil=>simp[bJ]at o
   |cons l e=>exact⟨S _ _ o.1,A _ o.2⟩
 refine⟨λf E p I=>by rw[Q];exact g.mem f E p I,g.len,?_,g.aL,λL y f r=>by show f<a5.heap.size;rw[x];exact g.lt L y f r,λf r=>⟨by show f<a5.heap.size;rw[x];exact(g.own f r).1,(g.own f r).2⟩⟩;intro B t L ao s;have:=g.box B t L ao s;cases t with
 |cells D F=>
  obtain⟨f,z,a,j,n,q⟩:=this;exact⟨f,z,a,by grind,y _ _ n,q⟩
 |q D K N w=>
  obtain⟨a,j⟩:=this;refine⟨a,?_⟩;grind
 |Q H=>
  obtain⟨v,a,j,n,q⟩:=this;exact⟨v,a,λf E r=>by grind,n,q⟩
 |t=>trivial
 |loop U T o=>
  obtain⟨B,tmps,fn,J,a,j,n,q,O⟩:=this;exact⟨B,tmps,fn,J,a,by grind,n,λR=>bo.mono (d:=d) (aO:=h) (au:={d with a:=a5}) ⟨λ_ _ _ g=>g,λ_ t L g M=>⟨t,L,g,M,.refl _ _⟩⟩ g.len (q R),O⟩
 |a2=>
  obtain⟨o,a,j,n⟩:=this;exact⟨o,a,by grind,n⟩
 |A D K N w=>
  rcases this with a|⟨f,u,z,C,a,j,n⟩
  .exact .inl a
  exact .inr ⟨f,u,z,C,a,by grind,n⟩
def cA.same(p:a5.heap=d.a.heap)(e:a5.os=d.a.os)(n:a5.tape=d.a.tape)(g:a5.output=d.a.output):cA h d h {d with a:=a5}:=
 ⟨by grind,λj _ _=>by grind,λ_ _ _ a=>a,λ_ _ _ _=>rfl,λL a j o=>.inr ⟨L,a,o⟩,λ_ f L a l=>⟨f,L,a,l,.refl _ _⟩,e,n,g,rfl⟩
def ek.bU{s:Y}{L:Loc}(p:ey h d aO au)(q:c d.m=c h)(r:∀g∈L.V,au.a.heap[g]?=d.a.heap[g]?/\∀l,au.n g l=d.n g l)(o:ek h d s L):ek aO au s L:=by
 cases s with
 |cells A C=>
  obtain⟨g,z,e,f,j,n⟩:=o;subst e;obtain⟨k1,w⟩:=r g Q;exact⟨g,z,a,by grind,j.mono p q,λl=>by grind⟩
 |q A F I v=>
  obtain⟨e,f⟩:=o;refine⟨e.mono p.mem,?_⟩;rcases f with⟨f,j⟩|⟨g,cap,z,f,j,n,X⟩
  .exact .inl ⟨f,j.mono p.mem⟩
  grind
 |Q H=>
  obtain⟨u,e,f,j,n⟩:=o;refine⟨u,e,λg l N=>?_,j,λg O l=>by grind⟩;grind
 |t=>trivial
 |loop M K x=>
  obtain⟨B,tmps,fn,D,e,f,j,n,X⟩:=o;subst e;obtain⟨k1,w⟩:=r B Q;exact⟨B,tmps,fn,D,a,by grind,j,λJ=>(n J).mono p q,λl=>by grind⟩
 |a2=>
  obtain⟨x,e,f,j⟩:=o;subst e;obtain⟨k1,w⟩:=r x Q;exact⟨x,a,by grind,λl=>by grind⟩
 |A A F I v=>
  rcases o with e|⟨g,t,z,y,e,f,j,n,X,E,R⟩
  .exact .inl e
  subst e;obtain⟨k1,w⟩:=r g Q;exact .inr ⟨g,t,z,y,a,by grind,j,n,X,E.mono p.mem,λl=>by grind⟩
def aj.bG(a:aj)(d:ab)(z:e I):aj:=
 {m:=a.m++[⟨.pointer (b ⟨a.a.heap.size,0,k⟩),[a.a.heap.size]⟩],n:=a.n,a:=a.a.alloc (.cells z.toArray d),own:=a.own}
theorem hY(a:af)(d:Obj)(e:j<a.heap.size):(a.alloc d).heap[j]?=a.heap[j]?:=by show(a.heap.push d)[j]?=a.heap[j]?;grind
theorem kI(d:af)(a:Obj):(d.alloc a).heap[d.heap.size]?=b a:=by show(d.heap.push a)[d.heap.size]?=b a;simp
def cA.bG{h:e Y}(g:aj)(p:ab)(z:e I)(o:Y):cA h g (h++[o]) (g.bG p z):=by
 refine⟨by simp[aj.bG],?_,λ_ _ _ r=>r,λ_ _ _ _=>rfl,?_,?_,a,a,a,a⟩
 .intro j l _;exact hY _ _ l
 .intro L f j l;simp only[aj.bG,fu,eN]at f;grind
 intro n d L q f;have s:n<c g.m:=(cD.1 f).1;have t:n<c h:=(cD.1 q).1;exact⟨d,L,by grind,by simp only[aj.bG];grind,.refl _ _⟩
def aZ.bG{h:e Y}{g:aj}(f:aZ h g){u:ab}{z:e I}{q:e C}(F:bJ h g z q):aZ (h++[.cells u q]) (g.bG u z):=by
 have x:=cA.bG (h:=h) g u z (.cells u q);have E:(g.bG u z).a.heap.size=g.a.heap.size+1:=by simp[aj.bG]
 refine⟨?_,by simp[aj.bG,f.len],?_,?_,?_,?_⟩
 .intro j r ai v;have n:=f.block v;have:=f.mem j r ai v;rw[<-this];simp only[aJ,aj.bG];grind[hY]
 .intro l D L ao d;rcases Nat.lt_trichotomy l (c h) with A|rfl|K
  .rw[jE A]at ao;simp only[aj.bG]at d;rw[jE (by rw[f.len];exact A)]at d;refine(f.box l D L ao d).bU x.ext f.len λj n=>⟨?_,λ_=>rfl⟩
   have:=f.lt L (bZ d) j n;exact hY _ _ this
  .simp at ao;subst ao;simp only[aj.bG]at d;rw[gK (by rw[f.len];grind)]at d;simp[f.len]at d;subst d;refine⟨g.a.heap.size,z,a,kI _ _,F.mono x.ext f.len,λr=>?_⟩;cases v:g.n g.a.heap.size r with
   |none=>exact v
   |some ai=>have:=f.block v;omega
  grind
 .intro l w L p d o j n B;simp only[aj.bG]at d o;have y:∀l L,(g.m++[⟨.pointer (b ⟨g.a.heap.size,0,k⟩),[g.a.heap.size]⟩])[l]?=b L->(g.m[l]?=b L)∨(l=c g.m/\L.V=[g.a.heap.size]):=J;rcases y l L d with s|⟨rfl,s⟩<;>rcases y w p o with t|⟨rfl,t⟩
  .exact f.aL l w L p s t j n B
  .have:=f.lt L (bZ s) j n;grind
  .have:=f.lt p (bZ t) j B;grind
  rfl
 .intro L d j n;rw[E];simp only[aj.bG,fu,eN]at d;rcases d with d|rfl
  .have:=f.lt L d j n;omega
  grind
 intro j n;obtain⟨M,N⟩:=f.own j n;refine⟨by grind,λL d=>?_⟩;simp only[aj.bG,fu,eN]at d;grind
def aZ.cF(e:aZ h d){b0:Mem}(p:d.a.heap.size<=a5.heap.size)(g:∀j,j<d.a.heap.size->a5.heap[j]?=d.a.heap[j]?)(s:∀j,j<d.a.heap.size->∀r,b0 j r=d.n j r)(y:∀j,d.a.heap.size<=j->∀r ai,b0 j r=b ai->a5.cell? ⟨j,r,k⟩=b ai)(t:a5.os=d.a.os)(w:a5.tape=d.a.tape)(u:a5.output=d.a.output):aZ h ⟨d.m,b0,a5,d.own⟩/\cA h d h ⟨d.m,b0,a5,d.own⟩:=by
 have n:cA h d h ⟨d.m,b0,a5,d.own⟩:=
  ⟨p,λj a _=>g j a,λj r ai q=>by rw[<-q];exact s j (e.block q) r,λj a _ r=>s j a r,λL e j a=>.inr ⟨L,e,a⟩,λ_ o L e v=>⟨o,L,e,v,.refl _ _⟩,t,w,u,rfl⟩
 refine⟨⟨?_,e.len,?_,e.aL,λL f j a=>ej (e.lt L f j a) p,λj a=>⟨ej (e.own j a).1 p,(e.own j a).2⟩⟩,n⟩
 .intro j r ai q;rcases dJ j d.a.heap.size with a|a
  .have l:d.n j r=b ai:=J;rw[<-e.mem j r ai l];simp only[aJ];grind
  grind
 intro x o L ao f;exact(e.box x o L ao f).bU n.ext e.len λj a=>⟨g j (e.lt L (bZ f) j a),λr=>s j (e.lt L (bZ f) j a) r⟩
def aZ.write(n:aZ h d){L:Loc}{v g:e C}{u:e I}(ao:h[l]?=b (.cells T v))(t:d.m[l]?=b L)(B:L.V=[j])(J:bJ h d u g):aZ (h.set l (.cells T g)) {d with a:=d.a.setRow j u.toArray}/\cA h d (h.set l (.cells T g)) {d with a:=d.a.setRow j u.toArray}:=by
 have A:l<c h:=(cD.1 ao).1;obtain⟨y,z,w,x,M,E⟩:=n.box l _ L ao t;subst w;simp at B;subst B;have s:cA h d (h.set l (.cells T g)) {d with a:=d.a.setRow y u.toArray}:=by
  refine⟨by simp,?_,λ_ _ _ n=>n,λ_ _ _ _=>rfl,λL n j q=>.inr ⟨L,n,q⟩,?_,a,a,a,a⟩
  .intro j q F;exact setRow_other _ _ _ _ (λak=>F _ (bZ t) xQ)
  intro p bR b7 f iQ;by_cases ak:l=p
  .subst ak;rw[ao]at f;cases f;exact⟨_,b7,by rw[hN A],iQ,by simp[fL]⟩
  exact xC
 refine⟨⟨?_,by simp[n.len],?_,n.aL,λL t j q=>by simpa using n.lt L t j q,λj q=>by simpa using n.own j q⟩,s⟩
 .intro j r ai o;have K:j≠y:=λak=>by grind
  rw[<-n.mem j r ai o];exact KI
 intro p bR b7 f iQ;by_cases ak:l=p
 .subst ak;rw[hN A]at f;cases f;rw[t]at iQ;cases iQ;exact⟨y,u,a,setRow_heap _ _ _ _ _ _ x,J.mono s.ext n.len,E⟩
 rw[j7 ak]at f;refine(n.box p bR b7 f iQ).bU s.ext n.len λj q=>⟨setRow_other _ _ _ _ λD=>?_,λ_=>rfl⟩
 subst D;exact ak (n.aL l p _ b7 t iQ j Q q)
def x5(d:e Y)(f:aj):Next->s->Prop
 |.value g,a=>bo d f g a
 |.skip,a=>a=.any
 |_,_=>False
def aR(P:aw)(n:ah)(j:Z->s)(g:e Y)(p:s)(d:e Y):Prop:=
 ∀f h,aZ g f->(∀o,bo g f (h o) (j o))->∃l a,(W h n).run P f.a=.ok l a.a/\x5 d a l p/\aZ d a/\cA g f d a/\cR f ((W h n).events P f.a #[])
def aR.di{g:s}(n:∀a d,aZ h a->(∀l,bo h a (d l) (η l))->∃ai,(W d r).run P a.a=.ok (.value ai) a.a/\bo h a ai g/\cR a ((W d r).events P a.a #[])):aR P r η h g h:=
 λa d e f=>let ⟨ai,b8,cY,j⟩:=n a d e f;⟨.value ai,a,b8,cY,e,.refl _ _,j⟩
def aR.aS{g:s}(n:∀a d,aZ h a->(∀l,bo h a (d l) (η l))->∃ai,(W d r).run P a.a=.ok (.value ai) a.a/\bo h a ai g/\(W d r).events P a.a #[]=#[]):aR P r η h g h:=
 λa d e f=>let ⟨ai,b8,cY,j⟩:=n a d e f;⟨.value ai,a,b8,cY,e,.refl _ _,by rw[j];exact .nil⟩
def tD:IntKind->Int->Bool
 |.i64,.ofNat a=>aD a 9223372036854775807
 |.i64,.negSucc a=>aD a 9223372036854775807
 |.u8,.ofNat a=>aD a 255
 |.i32,.ofNat a=>aD a 2147483647
 |.i32,.negSucc a=>aD a 2147483647
 |.u64,.ofNat a=>aD a 18446744073709551615
 |.u32,.ofNat a=>aD a 4294967295
 |_,_=>m
def Sb{d:IntKind}{e:Int}(a:tD d e=i):a9 d e:=by cases d<;>cases e<;>simp only[tD,a9]at a⊢<;>first|(cases a;done)|(have:=e' a;grind)
def k5:I->Option D
 |.int a d=>cond (tD a d) (b (.int a d)) k
 |.bool f=>b (.bool f)
 |.string e=>cond (aD e.size 9223372036854775807) (b (.R e.data.toList)) k
 |.slice k 0 0=>b (.M i 0 0 (λ_=>[]))
 |.pointer k=>b .bj
 |.nilIface=>b .bk
 |.nilFunc=>b .cU
 |.map g=>b (.val (.map g))
 |_=>k
theorem Rd.cZ{e:Bool}{d:Nat}{a:Option Addr}:Rd bi (.slice a 0 0) (.M e d 0 es):=
 Rd.M 0 0 (λ_ _=>E) (bE _) x bN x x x x
def Rd.fH{bi:Mem}{f:I}{e:D}(a:k5 f=b e):Rd bi f e:=by
 unfold AM.k5 at a;split at a<;>first
  |(rename_i g h;cases d:tD g h<;>rw[d]at a<;>cases a;exact .int (Sb d))
  |(rename_i j;cases d:aD j.size 9223372036854775807<;>rw[d]at a<;>cases a;exact .R rfl (by rw[lV];exact e' d))
  |(cases a;done)
  |(cases a;exact .bool)
  |(cases a;exact Rd.cZ)
  |(cases a;exact .bj)
  |(cases a;exact .bk)
  |(cases a;exact .cU)
  |(cases a;exact .val rfl)
def NB:Option D->s
 |some a=>aL a
 |none=>.any
def bA(a:bd):Z->s
 |.tmp e=>look a e
 |.const f=>NB (k5 f)
 |.func d=>aL (.fn (.func d) [] [])
 |.global _=>.any
theorem eO{f:Act}(g:bQ B h d F f)(e:Z):bo h d (f.eval e) (bA F e):=by
 cases e with
 |tmp n=>exact g.aC n
 |const o=>
  simp only[bA,Act.eval];cases l:k5 o with
  |none=>trivial
  |some p=>exact Rd.fH l
 |func j=>
  exact Rd.fn [] [] a a (λ_=>E) (λ_=>E) Q Q Q Q
 |global j=>trivial
def fy:Option Nat->s->bd->bd
 |some d,e,a=>(d,e)::a
 |none,_,a=>a
def pP{q:al P}{n:az}{t:e Item}{l:Act}{g:e Nat}(B:n.kind≠.early)(w:aP[f]?=b r)(z:aS r (yielded aP l.tmps)=i)(v:∀j,cL d j->∃o h p,(W l.eval r).run P j.a=.ok o h.a/\(o=.value p∨(o=.skip/\p=E))/\jB j h ((W l.eval r).events P j.a #[])/\cf q bg (G (n.i (l.put r.dst p) (.inRegion aP g::t)) aY) h):
  cf q bg (G (n.i l (.inRegion aP (f::g)::t)) aY) d:=by refine .next a λj x=>?_;obtain⟨o,h,p,A,y,s,u⟩:=v j (q.bt x);refine⟨_,h,Go.Conc.listed P n.fn l r j.a,?_,⟨s.1,s.2.seen⟩,u⟩;grind[Us,HV]
theorem aR.move{a:Z}(d:r.op=.move a):aR P r η h (η a) h:=
 .aS λg e _ f=>⟨e a,by simp[W,d,pure],f a,by simp[W,d]⟩
theorem aR.assign{a:Z}(d:r.op=.assign a):aR P r η h (η a) h:=
 .aS λg e _ f=>⟨e a,by simp[W,d,pure],f a,by simp[W,d]⟩
def b2{a:D}(e:bo h d ai (aL a)):Rd d.n ai a:=e
def aR.pick{g e f:Z}(l:r.op=.pick g e f){p:Bool}(q:η g=aL (.bool p)):
  aR P r η h (match p with|true=>η e|false=>η f) h:=by
 refine .aS λs n _ o=>?_;have a:=o g;rw[q]at a;have d:=b2 a;generalize j:n g=t at d;cases d;cases p
 .exact⟨n f,by simp[W,l,j,asBool],o f,by simp[W,l,j,asBool]⟩
 exact⟨n e,by simp[W,l,j,asBool],o e,by simp[W,l,j,asBool]⟩
def tE(g:BinOp)(f:IntKind)(a d:Int):Option (D×e Prop):=
 match g with
 |.add=>b (.int f (a+d),[a9 f (a+d)])
 |.sub=>b (.int f (a-d),[a9 f (a-d)])
 |.mul=>b (.int f (a*d),[a9 f (a*d)])
 |.quo=>b (.int f (a / d),[0<=a,0<d])
 |.rem=>b (.int f (a % d),[0<=a,0<d])
 |.eql=>b (.bool (a==d),[])
 |.neq=>b (.bool (a != d),[])
 |.lss=>b (.bool (decide (a<d)),[])
 |.leq=>b (.bool (decide (a<=d)),[])
 |.gtr=>b (.bool (decide (d<a)),[])
 |.geq=>b (.bool (decide (d<=a)),[])
 |_=>k
def uk(f:BinOp)(a d:e UInt8):Option (D×e Prop):=
 match f with
 |.add=>b (.R (a++d),[c a+c d<=9223372036854775807])
 |.eql=>b (.bool (a==d),[])
 |.neq=>b (.bool (!(a==d)),[])
 |.lss=>b (.bool (aK a d),[])
 |.leq=>b (.bool (aK a d||a==d),[])
 |.gtr=>b (.bool (!(aK a d||a==d)),[])
 |.geq=>b (.bool (!(aK a d)),[])
 |_=>k
@[simp] def V:e Prop->Prop
 |[]=>True
 |[a]=>a
 |a::d::f=>a/\V (d::f)
def V.cons{d:Prop}{a:e Prop}:V (d::a)↔d/\V a:=by cases a<;>simp
theorem qo{a:IntKind}{d:Int}(e:a9 a d):a.wrap d=d:=by cases a<;>simp only[a9,IntKind.wrap,IntKind.bits,IntKind.signed]at e⊢<;>simp<;>(try split)<;>omega
def Ub{f:IntKind}{e a:Int}{o:D}(g:tE op f e a=b (o,cl))(d:V cl)(u:a9 f e)(s:a9 f a)(v:ab)(q:Mem):
  ∃p,(binOp op v (.int f e) (.int f a)).run P K=.ok p K/\Rd q p o:=by
 cases op<;>simp only[tE,eA,k4,reduceCtorEq]at g
 case add=>obtain⟨rfl,rfl⟩:=g;exact⟨_,by simp only[binOp,e3,gD,cr,Op.intArith,qo d];rfl,.int d⟩
 case sub=>obtain⟨rfl,rfl⟩:=g;exact⟨_,by simp only[binOp,e3,gD,cr,Op.intArith,qo d];rfl,.int d⟩
 case mul=>obtain⟨rfl,rfl⟩:=g;exact⟨_,by simp only[binOp,e3,gD,cr,Op.intArith,qo d];rfl,.int d⟩
 case quo=>
  obtain⟨rfl,rfl⟩:=g;obtain⟨j,h⟩:=d;replace h:0<a:=h;have n:e.tdiv a=e / a:=Int.tdiv_eq_ediv_of_nonneg j;have l:a9 f (e / a):=by have r:0<=e / a:=Int.ediv_nonneg j x;have t:e / a<=e:=Int.ediv_le_self _ j;cases f<;>simp only[a9]at u⊢<;>omega
  exact⟨_,by simp only[binOp,e3,gD,cr,Op.intDiv,show a≠0 by omega,n,qo l];rfl,.int l⟩
 case rem=>
  obtain⟨rfl,rfl⟩:=g;obtain⟨j,h⟩:=d;replace h:0<a:=h;have n:e.tmod a=e % a:=Int.tmod_eq_emod_of_nonneg j;have l:a9 f (e % a):=by have r:0<=e % a:=qK _ x;have t:e % a<a:=qF _ h;cases f<;>simp only[a9]at s⊢<;>omega
  exact⟨_,by simp only[binOp,e3,gD,cr,Op.intDiv,show a≠0 by omega,n];rfl,.int l⟩
 all_goals (obtain⟨rfl,rfl⟩:=g;exact⟨_,by simp only[binOp,e3,gD,cr,Op.intCmp,gt_iff_lt,ge_iff_le];rfl,.bool⟩)
def Uc{A cd:ByteArray}{d f:e UInt8}{g:D}(a:uk op d f=b (g,cl))(cO:V cl)(p:A.data.toList=d)(n:cd.data.toList=f)(q:ab)(j:Mem):
  ∃h,(binOp op q (.string A) (.string cd)).run P K=.ok h K/\Rd j h g:=by
 subst p n;cases op<;>simp only[uk,eA,k4,reduceCtorEq]at a
 case add=>
  obtain⟨rfl,rfl⟩:=a;have l:¬((A.size+cd.size:Nat):Int)>IntKind.i64.max:=Jc;refine⟨_,by simp only[binOp,Op.stringOp,l,cr];rfl,.R Q (by simpa using cO)⟩
 all_goals (obtain⟨rfl,rfl⟩:=a;exact⟨_,by simp only[binOp,Op.stringOp,ByteArray.toList_eq];rfl,.bool⟩)
def Pt{a:IntKind}{d cd:Int}{e:D}(n:tE op a d cd=b (e,cl))(cO:V cl)(f:ab):
  (binOp op f (.int a d) (.int a cd)).events P K #[]=#[]:=by
 cases op<;>simp only[tE,eA,k4,reduceCtorEq]at n
 case quo=>
  exact Ji
 case rem=>
  exact Ji
 all_goals (simp only[binOp,e3,gD,cr,Op.intCmp,Op.intArith];rfl)
def Q1{A cd:ByteArray}{a d:e UInt8}{g:D}(f:uk op a d=b (g,cl))(cO:V cl)(l:A.data.toList=a)(j:cd.data.toList=d)(n:ab):
  (binOp op n (.string A) (.string cd)).events P K #[]=#[]:=by
 subst l j;cases op<;>simp only[uk,eA,k4,reduceCtorEq]at f
 case add=>
  obtain⟨rfl,rfl⟩:=f;have h:¬((A.size+cd.size:Nat):Int)>IntKind.i64.max:=Jc;simp only[binOp,Op.stringOp,h,cr];rfl
 all_goals (simp only[binOp,Op.stringOp];rfl)
def rv:IntKind->IntKind->Bool
 |.i8,.i8|.i16,.i16|.i32,.i32|.i64,.i64|.u8,.u8|.u16,.u16|.u32,.u32|.u64,.u64=>i
 |_,_=>m
def An{d a:IntKind}(e:rv d a=i):d=a:=by cases d<;>cases a<;>first|rfl|(cases e;done)
def vl(a:BinOp):D->D->Option (D×e Prop)
 |.int f j,.int d l=>cond (rv f d) (tE a f j l) k
 |.R g,.R h=>uk a g h
 |_,_=>k
def oO(op:BinOp)(h:ab)(j l:Z)(f a:IntKind)(g e:Int)(d:af):(eqGuard op h j l (.int f g) (.int a e)).run P d=.ok () d:=xS
def EI(op:BinOp)(f:ab)(g h:Z)(d e:ByteArray)(a:af):(eqGuard op f g h (.string d) (.string e)).run P a=.ok () a:=xS
def vQ(op:BinOp)(h:ab)(l n:Z)(f d:IntKind)(g e:Int)(j:af)(a:Array ay):(eqGuard op h l n (.int f g) (.int d e)).events P j a=a:=xS
def OM(op:BinOp)(f:ab)(h j:Z)(d e:ByteArray)(g:af)(a:Array ay):(eqGuard op f h j (.string d) (.string e)).events P g a=a:=xS
theorem aR.binOp{t v:Z}(q:r.op=.binOp op w t v ty){A B u:D}(O:η t=aL A)(Q:η v=aL B)(f:vl op A B=b (u,cl))(e:V cl):aR P r η h (aL u) h:=by
 refine .aS λs F _ I=>?_;have a:=I t;have d:=I v;rw[O]at a;rw[Q]at d;replace a:=b2 a;replace d:=b2 d;generalize l:F t=R at a;generalize n:F v=S at d;cases a<;>cases d<;>simp only[vl,reduceCtorEq]at f
 case int.int o p U fJ AH RQ=>
  cases g:rv o fJ<;>simp only[g,cond,reduceCtorEq]at f
  cases An g;obtain⟨z,x,y⟩:=Ub (P:=P) (K:=s.a) f e U RQ w s.n;exact⟨z,by simp only[W,q,cn,l,n,oO,cM,x,dv],y,by simp[W,q,l,n,oO,vQ,Pt f e]⟩
 case R.R=>
  rename_i C X J M T N j E;obtain⟨z,x,y⟩:=Uc (P:=P) (K:=s.a) f e J j w s.n;exact⟨z,by simp only[W,q,cn,l,n,EI,cM,x,dv],y,by simp[W,q,l,n,EI,OM,Q1 f e J j]⟩
def xw(a:UnOp):D->Option D
 |.bool d=>match a with|.not=>b (.bool (!d))|_=>k
 |_=>k
theorem aR.unOp{d:UnOp}{e:Z}(n:r.op=.unOp d w e){g l:D}(p:η e=aL g)(f:xw d g=b l):aR P r η h (aL l) h:=by
 refine .aS λt o _ q=>?_;have a:=q e;rw[p]at a;replace a:=b2 a;generalize j:o e=s at a;cases a<;>simp only[xw,reduceCtorEq]at f
 cases d<;>simp only[reduceCtorEq,eA]at f
 subst f;exact⟨_,by simp only[W,n,j,Op.unary,cn,dv,cM],Rd.bool,by simp[W,n,j,Op.unary]⟩
theorem eJ.get{O:e E1}(l:eJ h d z O){n:E1}(f:O[y]?=b n):∃g,z[y]?=b g/\eh h d g n:=by
 induction z generalizing O y with
 |nil=>cases O<;>simp_all[eJ]
 |cons g z j=>
  cases O with
  |nil=>grind
  |cons p o=>
   cases y with
   |zero=>simp at f;subst f;exact⟨g,a,l.1⟩
   |succ y=>simp at f;obtain⟨r,t,q⟩:=j l.2 f;grind
theorem aR.extract{P:aw}{l:ah}{d:Z->s}{g:e Y}{f:Z}{j:Nat}(u:l.op=.extract f j){O:e E1}{h:E1}(q:d f=.C O)(p:O[j]?=b h):aR P l d g (.k h) g:=by refine .aS λy x _ t=>?_;have a:=t f;rw[q]at a;obtain⟨z,r,v⟩:=a;obtain⟨w,n,o⟩:=v.get p;refine⟨w,?_,o,?_⟩<;>simp[W,u,r,Instr.extract,n]
def n5(a d:Nat):ay:=⟨.cell ⟨a,d,k⟩,m,m⟩
def sb(a d:Nat):ay:=⟨.cell ⟨a,d,k⟩,i,m⟩
theorem gg(a e d:Nat):(⟨a,e,k⟩:Addr).add d=⟨a,e+d,k⟩:=by unfold Addr.add;split<;>simp_all
section
def zI{d:Nat}(e:K.cell? ⟨j,d,k⟩=b ai)(a:Array ay):(load ⟨j,d,k⟩).events P K a=a.push (n5 j d):=by rw[events_load,e];rfl
def EW{q:af}{n o:Nat}:∀(h f:Nat) (a:Array I) (d:Array ay),(∀e,e<h->∃p,q.cell? ⟨n,o+(f+e),k⟩=b p) ->
    ∀g∈(loadCellsFrom ⟨n,o,k⟩ f h a).events P q d,g∈d∨∃e,e<f+h/\g=n5 n (o+e)
  |0,f,a,d,_=>λg j=>.inl (by simpa[loadCellsFrom]using j)
  |h+1,f,a,d,r=>λg j=>by
    obtain⟨p,l⟩:=r 0 x;simp only[iK]at l;simp only[loadCellsFrom,aE,gg,run_load,l,aH,zI l]at j;rcases EW h (f+1) (a.push p) _ (λe s=>by grind) g j with t|⟨e,s,rfl⟩
    · grind
    grind
def EV{f:Nat}{a:Array ay}(l:∀d,d<p->∃h,K.cell? ⟨j,f+d,k⟩=b h):∀e∈(loadCells ⟨j,f,k⟩ p).events P K a,e∈a∨∃d,d<p/\e=n5 j (f+d):=by intro e g;have:=EW (P:=P) p 0 #[] a J e g;grind
def li{g f:Nat}{w:ab}:∀(z:e I) (a:Nat) (l:Array I) (h:af) (d:Array ay),h.heap[g]?=b (.cells l w (0,0))->f+a+c z<=l.size->(∀j∈z,j.oneCell'=i) ->
    ∀o∈(storeCells ⟨g,f,k⟩ z a).events P h d,o∈d∨∃q,a<=q/\q<a+c z/\o=sb g (f+q)
  |[],_,_,_,_,_,_,_=>λo p=>.inl (by simpa[storeCells]using p)
  |j::n,a,l,h,d,X,y,r=>λo p=>by
    have bL:f+a<l.size:=J;have s:h.cell? ⟨g,f+a,k⟩=b l[f+a]:=I6;have t:h.frozen? ⟨g,f+a,k⟩=m:=by simp[World.frozen?,X]
    have u:(store (⟨g,f+a,k⟩:Addr) j).run P h=.ok () (h.setRow g (l.setIfInBounds (f+a) j)):=LY;have v:(store (⟨g,f+a,k⟩:Addr) j).events P h d=d.push (sb g (f+a)):=by rw[events_store P h d _ j _ (r j Q),s];simp only[t,jF,cr];rfl
    simp only[storeCells,aE,gg,u,v,aH]at p;rcases li n (a+1) (l.setIfInBounds (f+a) j) _ _ (setRow_heap _ _ _ _ _ _ X) J (λx C=>r x J) o p with A|⟨q,D,B,rfl⟩
    · grind
    grind
def dp(P:aw)(d:Sem α):Prop:=∀e a,d.events P e a=a
def dp.bind{f:Type}{a2:Sem α}{g:α->Sem f}(j:dp P a2)(l:∀e,dp P (g e)):dp P (a2 >>= g):=by
  intro h a;rw[aE,j h a];cases a2.run P h with
  |ok e d=>exact l e d a
  |halt n d=>rfl
def dp.pure{a:Type}{d:a}:dp P (Pure.pure d:Sem a):=λ_ _=>rfl
def dp.stuck{a:Type}{d:String}:dp P (Go.stuck d:Sem a):=λ_ _=>rfl
def dp.unsupported{a:Type}{d:Unsupported}:dp P (Go.unsupported d:Sem a):=λ_ _=>rfl
def dp.sizeOf{a:ab}:dp P (sizeOf a):=λ_ _=>events_sizeOf ..
def dp.underlying{a:ab}:dp P (underlying a):=λ_ _=>events_underlying ..
def dp.zeroValue{a:ab}:dp P (zeroValue a):=λ_ _=>events_zeroValue ..
def dp.newObj{a:Obj}:dp P (newObj a):=λ_ _=>rfl
def dp.newRow{d:ab}{a:Array I}:dp P (newRow d a):=.bind .newObj λ_=>.pure
def dp.ha{a g:Type}{h:a->Sem g}(j:∀d,dp P (h d)):∀f:e a,dp P (f.mapM h)
  |[]=>by rw[List.mapM_nil];exact .pure
  |d::f=>by rw[ny];exact .bind (j d) λ_=>.bind (dp.ha j f) λ_=>.pure
def dp.map{a e:Type}{g:a->e}{f:Sem a}(h:dp P f):dp P (Functor.map g f):=λj d=>by rw[Sem.events_map];exact h j d
def dp.jm{a:Type}{d:α->Sem a}(f:∀e,dp P (d e))(g:Array α):dp P (g.mapM d):=by rw[u'];exact .map (.ha f _)
def dp.gV{f d:Type}{j:f->d->Sem (ForInStep d)}(l:∀g a,dp P (j g a)):∀(h:e f) (a:d),dp P (forIn h a j)
  |[],a=>by rw[List.forIn_nil];exact .pure
  |g::h,a=>by
    rw[List.forIn_cons];refine .bind (l g a) λn=>?_;cases n with
    |done a=>exact .pure
    |yield a=>exact dp.gV l h a
theorem dp.build{e:ab}{parts:Array (Nat×I)}:dp P (Instr.build e parts):=by
  unfold Instr.build;refine .bind .zeroValue λg=>.bind .underlying λa=>?_;cases a<;>first
    |exact .stuck
    | (refine .bind (.jm (λ_=>.bind .sizeOf λ_=>.pure) _) λd=>?_
       split
       · exact .pure
       · exact .stuck)
    | (refine .bind .sizeOf λf=>?_
       split
       · exact .pure
       · exact .stuck)
theorem dp.buildSlice{n:ab}{e:Nat}{parts:Array (Nat×I)}:dp P (Instr.buildSlice n e parts):=by
  unfold Instr.buildSlice;refine .bind .underlying λj=>?_;cases j<;>first
    |exact .stuck
    | (refine .bind .sizeOf λf=>?_
       dsimp only
       have a:∀(elem:ab) (zero:Array I),dp P (match Instr.fill (λl=>b (l*f,f)) (Array.map (λo=>zero[o % zero.size]!) (Array.range (e*f))) parts.toList with
          |some cells=>do
            let h<-Go.newRow elem cells
            Pure.pure (Value.slice (b h) e e)
          |_=>Go.stuck "buildSlice: a part of the wrong size"):=by
         intro elem zero;split
         · exact .bind .newRow λ_=>.pure
         · exact .stuck
       by_cases g:e*f=0
       · simp only[g,cN]
         rw[g]at a;split
         · grind
         · exact .bind .pure λd=>a _ d
       · simp only[g,cr]
         split
         · exact .bind .unsupported λ_=>.bind .zeroValue λd=>.bind .pure λd=>a _ d
         · exact .bind .zeroValue λd=>.bind .pure λd=>a _ d)
def nM{g:Nat}{L:Loc}(a:L∈d.m)(e:j∈L.V):hD d (n5 j g):=⟨rfl,rfl,.inr (.inl ⟨⟨L,a,e⟩,λf=>by cases f⟩)⟩
def EJ{a:Nat}(e:d.n j a=b ai):hD d (n5 j a):=⟨rfl,rfl,.inr (.inr ⟨rfl,ai,e⟩)⟩
theorem l'{a:Nat}{L:Loc}(f:L∈d.m)(g:j∈L.V)(e:d.n j a=k):hD d (sb j a):=⟨rfl,rfl,.inr (.inl ⟨⟨L,f,g⟩,λ_=>e⟩)⟩
end
structure bh where
 size:Nat
 bytes:Nat
 agg:Bool
 desc:TypeDesc
 zero:e D
 eq:e TypeDesc:=[]
def p0:TypeDesc->I->I->Option Bool
 |.int _,.int f a,.int e d=>if f=e then b (a==d)else k
 |.string,.string a,.string d=>b (a.toList==d.toList)
 |.bool,.bool a,.bool d=>b (a==d)
 |_,_,_=>k
def l_:e TypeDesc->e I->e I->Option Bool
 |[],[],[]=>b i
 |h::a,j::z,l::d=>match p0 h j l with
  |some f=>match l_ a z d with
   |some g=>b (f&&g)
   |none=>k
  |none=>k
 |_,_,_=>k
def tF:TypeDesc->Bool
 |.struct _|.array _ _=>i
 |_=>m
structure en(P:aw)(w:ab)(f:bh):Prop where
 eC:P.underlying w=b f.desc
 agg:tF f.desc=f.agg
 cK:∃inf eM,P.info? w=b inf/\inf.size=f.size/\inf.bytes=f.bytes/\inf.zero=b eM/\eM.cells.toList.map k5=f.zero.map b/\(∃aY,eM=if f.agg then .agg aY else eM)/\c f.zero=f.size
 iA:f.eq≠[]->P.eqGuardType P.depth w=m/\∀(K:af) (z ws:e I) (j:Bool),l_ f.eq z ws=b j->(Op.equal w (.agg z.toArray) (.agg ws.toArray)).run P K=.ok j K/\∀es,(Op.equal w (.agg z.toArray) (.agg ws.toArray)).events P K es=es
def bY:e (Nat×bh)->Nat->Option bh
 |[],_=>k
 |(f,d)::g,a=>cond (aa f a) (b d) (bY g a)
def bT(P:aw)(f:e (Nat×bh)):Prop:=∀d a,bY f d=b a->en P d a
section
variable {f:bh}
def en.run_underlying(a:en P w f):(underlying w).run P K=.ok f.desc K:=by simp[underlying,a.eC]
def en.d'(a:en P w f):(isAgg w).run P K=.ok f.agg K:=by have:=a.agg;unfold Go.isAgg;rw[cn,a.run_underlying];cases d:f.desc<;>rw[d]at this<;>simp[tF]at this<;>simp[this]
def en.aU(e:en P w f):(sizeOf w).run P K=.ok f.size K:=by obtain⟨g,h,a,d,_⟩:=e.cK;simp[sizeOf,typeInfo,a,d]
def sC{h:e Y}{d:aj}:∀{z:e I}{a:e D},z.map k5=a.map b->bJ h d z (a.map C.c)
 |[],[],_=>trivial
 |[],_::_,f=>by grind
 |_::_,[],f=>by grind
 |j::z,g::a,f=>by simp only[oB,List.cons.injEq]at f;exact⟨Rd.fH f.1,sC f.2⟩
def en.hB(l:en P w f)(g:e Y)(o:aj):∃a,(zeroValue w).run P K=.ok a K/\bJ g o a.cells.toList (f.zero.map C.c):=by obtain⟨p,a,d,n,q,j,h,_⟩:=l.cK;exact⟨a,by simp[zeroValue,typeInfo,d,j],sC h⟩
end
def kA:s->Option (e C)
 |.k (.S d)=>b [d]
 |.k (.agg a)=>b a
 |_=>k
theorem q1{g:s}{a:e C}(f:kA g=b a)(j:bo h d ai g):bJ h d ai.cells.toList a:=by
 cases g with
 |k n=>
  cases n with
  |S o=>
   cases f;have:=ck.cell j;cases ai<;>first|exact⟨j,M⟩|cases this
  |agg p=>
   cases f;obtain⟨z,rfl,l⟩:=j;simpa[Value.cells]using l
 |C O=>cases f
 |any=>cases f
def aR.newVar{P:aw}{t:ah}{l:Z->s}{g:e Y}{n:ab}{j:e C}(w:∀d h,aZ g d->(∀u,bo g d (h u) (l u))->∃o:I,(W h t).run P d.a=((do pure (.value (.pointer (b (<-newVar n o))))):Sem Next).run P d.a/\bJ g d o.cells.toList j/\(W h t).events P d.a #[]=#[]):
  aR P t l g (ba (c g) 0) (g++[.cells n j]):=by
 intro d h f r;obtain⟨o,p,q,v⟩:=w d h f r;refine⟨.value (.pointer (b ⟨d.a.heap.size,0,k⟩)),d.bG n o.cells.toList,?_,?_,f.bG q,.bG d n _ _,by rw[v];exact .nil⟩
 .rw[p];simp[Go.newVar,newRow,aj.bG]
 refine⟨by simp,⟨.pointer (b ⟨d.a.heap.size,0,k⟩),[d.a.heap.size]⟩,d.a.heap.size,?_,a,a⟩;simp[aj.bG,<-f.len]
theorem aR.alloc{P:aw}{j:e (Nat×bh)}(aG:bT P j){o:ah}{h:Z->s}{d:e Y}{a:ab}(n:o.op=.alloc a){g:bh}(f:bY j a=b g):
  aR P o h d (ba (c d) 0) (d++[.cells a (g.zero.map C.c)]):=by refine .newVar λp t _ _=>?_;obtain⟨r,l,q⟩:=(aG a g f).hB (K:=p.a) d p;exact⟨r,by simp[W,n,Instr.alloc,l],q,by simp[W,n,Instr.alloc,l,Go.newVar,newRow]⟩
theorem aR.box{P:aw}{l:ah}{d:Z->s}{g:e Y}{h:ab}{f:Z}(j:l.op=.box h f){a:e C}(o:kA (d f)=b a):
  aR P l d g (ba (c g) 0) (g++[.cells h a]):=
 .newVar λq n _ p=>⟨n f,by simp[W,j,Instr.box],q1 o (p f),by simp[W,j,Instr.box,Go.newVar,newRow]⟩
def lH{a:Type}:Nat->e a->Option (e a)
 |0,_=>b []
 |d+1,g::O=>match lH d O with|some f=>b (g::f)|none=>k
 |_+1,[]=>k
def r8{h:Type}:∀{d:Nat}{g f:e h},lH d g=b f->f=g.take d/\c f=d
 |0,g,f,a=>by cases a;simp
 |d+1,[],f,a=>by simp[lH]at a
 |d+1,p::O,f,a=>by
  simp only[lH]at a;cases j:lH d O with
  |none=>grind
  |some o=>
   simp[j]at a;subst a;obtain⟨l,n⟩:=r8 j;grind
def cH{a:Type}:Nat->e a->Option a
 |_,[]=>k
 |0,f::_=>b f
 |d+1,_::O=>cH d O
theorem dL{d:Type}:∀{p:Nat}{l:e d}{f:d},cH p l=b f->l[p]?=b f
 |_,[],_,a=>by simp[cH]at a
 |0,f::_,_,a=>by simpa[cH]using a
 |p+1,_::O,_,a=>by simpa using dL (p:=p) (l:=O) a
def fv{a:Type}:Nat->e a->e a
 |0,d=>d
 |_+1,[]=>[]
 |f+1,_::O=>fv f O
def pZ{d:Type}:∀(a:Nat)(f:e d),fv a f=f.drop a
 |0,_=>by simp[fv]
 |_+1,[]=>by simp[fv]
 |a+1,_::O=>by simp[fv,pZ a O]
def gl(d:bh)(a:e C):Option E1:=
 match d.agg with
 |true=>match lH d.size a with|some g=>b (.agg g)|none=>k
 |false=>match cH 0 a with|some f=>b (.S f)|none=>k
def qh{f:bh}(s:en P w f){aY:e C}{ak:E1}(F:∀(p:Nat) (g:I),z[p]?=b g->d.a.cell? ⟨j,off+p,k⟩=b g)(r:bJ h d z aY)(n:gl f aY=b ak):
  ∃g,(loadVar w ⟨j,off,k⟩).run P d.a=.ok g d.a/\eh h d g ak:=by
 simp only[loadVar,cn,s.d',cM];cases u:f.agg<;>simp only[gl,u]at n
 .cases l:cH 0 aY with
  |none=>grind
  |some A=>
   simp[l]at n;subst n;obtain⟨g,B,t⟩:=r.get (dL l);refine⟨g,?_,t⟩;grind[run_load]
 cases l:lH f.size aY with
 |none=>grind
 |some D=>
  simp[l]at n;subst n;obtain⟨y,v⟩:=r8 l;have o:=r.take f.size;rw[<-y]at o;have x:c (z.take f.size)=f.size:=by rw[o.cr,v]
  have q:=run_loadCells_list (P:=P) d.a ⟨j,off,k⟩ (z.take f.size) (λp g E=>by grind[gg]);rw[x]at q;refine⟨.agg (z.take f.size).toArray,?_,z.take f.size,a,o⟩;simp[s.aU,q]
def mY{g:bh}(r:en P w g)(s:∀e,e<p->∃l,K.cell? ⟨j,off+e,k⟩=b l)(h:(if g.agg then g.size else 1)<=p):
  ∀f∈(loadVar w ⟨j,off,k⟩).events P K #[],∃e,e<p/\f=n5 j (off+e):=by
 intro f d;simp only[loadVar,aE,r.d',aH,events_isAgg]at d;cases o:g.agg
 .rw[o]at h d;obtain⟨l,q⟩:=s 0 J;simp only[iK]at q;simp only[jF,cr,zI q]at d;rcases Array.mem_push.1 d with t|rfl
  .grind
  exact⟨0,by grind,a⟩
 rw[o]at h d;simp only[cN]at h;simp only[cN,aE,r.aU,aH,events_sizeOf]at d;have key:∀f∈(loadCells ⟨j,off,k⟩ g.size).events P K #[],∃e,e<p/\f=n5 j (off+e):=by
  intro f d;rcases EV (P:=P) (λe u=>s e x) f d with t|⟨e,u,rfl⟩
  .grind
  grind
 apply key;generalize(loadCells ⟨j,off,k⟩ g.size).run P K=v at d;cases v with
 |ok l n=>simpa using d
 |halt y n=>simpa using d
theorem pe{d:bh}{a:e C}{j:E1}(f:gl d a=b j):(if d.agg then d.size else 1)<=c a:=by
 unfold gl at f;cases g:d.agg<;>rw[g]at f
 .cases a with
  |nil=>simp[cH]at f
  |cons l a=>simp
 simp only at f;cases h:lH d.size a with
 |none=>grind
 |some p=>
  obtain⟨n,o⟩:=r8 h;grind
theorem aR.g6{x:e (Nat×bh)}(aG:bT P x){v:Z}(n:r.op=.load w v){aY:e C}{o:bh}{ak:E1}(D:η v=ba l off)(ao:h[l]?=b (.cells T aY))(g:bY x w=b o)(J:gl o (fv off aY)=b ak):aR P r η h (.k ak) h:=by
 refine .di λd N q s=>?_
 have f:=s v;rw[D]at f;obtain⟨_,L,j,M,y,bk⟩:=f;obtain⟨u,z,rfl,F,A,_⟩:=q.box l _ L ao M;simp at y;subst y;rw[pZ]at J;obtain⟨K,B,R⟩:=qh (d:=d) (h:=h) (P:=P) (aG w o g) (j:=u) (off:=off) (z:=z.drop off) (aY:=aY.drop off) (ak:=ak) (λt K a=>by
  simp only[aJ,F]
  grind) (A.drop off) J
 refine⟨K,by simp[W,n,bk,Instr.loadAt,aU,B],R,λI E=>?_⟩;have O:I∈(loadVar w ⟨u,off,k⟩).events P d.a #[]:=by have ak:W N r=(do pure (.value (<-loadVar w ⟨u,off,k⟩))):=LF;rw[ak]at E;simpa[B]using E
 have S:c (z.drop off)=c (aY.drop off):=(A.drop off).cr;obtain⟨t,a,rfl⟩:=mY (aG w o g) (p:=c (z.drop off)) (λt a=>by refine⟨(z.drop off)[t],?_⟩;simp only[aJ,F];simp at a⊢<;>omega) (by grind[pe]) I O;exact nM (bZ M) Q
theorem aR.g8{I:e (Nat×bh)}(aG:bT P I){y:Z}(N:r.op=.load w y){aY:e D}{x:bh}{ak:E1}(V:η y=aL (.U aY))(t:bY I w=b x)(U:gl x (aY.map C.c)=b ak):aR P r η h (.k ak) h:=by
 refine .di λd F q A=>?_;have n:=A y;rw[V]at n;have o:=b2 n;generalize M:F y=ae at o;cases o;rename_i j off v E s;have ad:∀(p:Nat) (l:e D),(∀f u,l[f]?=b u->Rd d.n (v (p+f)) u)->bJ h d ((aI (c l)).map λf=>v (p+f)) (l.map C.c):=by
  intro p l;induction l generalizing p with
  |nil=>intro _;trivial
  |cons X l B=>
   intro R;rw[fR,uZ];refine⟨R 0 X a,?_⟩;have:=B (p+1) (λf u g=>by have:=R (f+1) u J;grind);grind[Function.comp_def]
 obtain⟨S,O,ab⟩:=qh (d:=d) (h:=h) (P:=P) (aG w x t) (j:=j) (off:=off) (z:=(aI (c aY)).map λf=>v (0+f)) (aY:=aY.map C.c) (ak:=ak) (λf S g=>by
  simp only[lW,cX]at g;by_cases K:f<c aY
  .simp[K]at g;subst g;exact q.mem _ _ _ (E f aY[f] (bu K))
  grind) (ad 0 aY J) U
 refine⟨S,by simp[W,N,M,Instr.loadAt,aU,O],ab,λT Q=>?_⟩;have Y:T∈(loadVar w ⟨j,off,k⟩).events P d.a #[]:=by
  have ak:W F r=(do pure (.value (<-loadVar w ⟨j,off,k⟩))):=by simp[W,N,M,Instr.loadAt,aU]
  rw[ak]at Q;simpa[O]using Q
 obtain⟨f,g,rfl⟩:=mY (aG w x t) (p:=c aY) (λf g=>⟨v f,q.mem _ _ _ (E f aY[f] (bu g))⟩) (by have:=pe U;grind) T Y;exact EJ (E f aY[f] (bu g))
def h4{f:Type}:Nat->e f->e f->Option (e f)
 |0,[],l=>b l
 |0,n::d,_::a=>match h4 0 d a with|some g=>b (n::g)|none=>k
 |j+1,d,h::a=>match h4 j d a with|some g=>b (h::g)|none=>k
 |_,_,[]=>k
def Bw{l:Type}:∀{a:Nat}{new h g:e l},h4 a new h=b g->a+c new<=c h/\g=h.take a++new++h.drop (a+c new)
 |0,[],h,g,n=>by cases h<;>cases n<;>simp
 |0,q::d,p::f,g,n=>by
  simp only[h4]at n;cases t:h4 0 d f with
  |none=>grind
  |some r=>
   exact JP
 |0,q::d,[],g,n=>by simp[h4]at n
 |o+1,d,p::f,g,n=>by
  simp only[h4]at n;cases t:h4 o d f with
  |none=>grind
  |some r=>
   exact JP
 |o+1,d,[],g,n=>by simp[h4]at n
def bJ.fA{new:e I}{g a l:e C}(n:AM.h4 off a g=b l)(f:bJ h d z g)(j:bJ h d new a):
  off+c new<=c z/\bJ h d (z.take off++new++z.drop (off+c new)) l:=by obtain⟨k1,rfl⟩:=Bw n;rw[j.cr,f.cr];refine⟨k1,((f.take off).append j).append (by have:=f.drop (off+c a);exact this)⟩
theorem aR.store{K:e (Nat×bh)}(aG:bT P K){A d:Z}(N:r.op=.store w A d){p new f:e C}{j:bh}(H:η A=ba l off)(ao:h[l]?=b (.cells T p))(u:bY K w=b j)(G:kA (η d)=b new)(D:c new=j.size)(U:h4 off new p=b f):
  aR P r η h .any (h.set l (.cells T f)):=by
 intro y g t v;have q:=v A;rw[H]at q;obtain⟨_,L,af,E,O,s⟩:=q;obtain⟨x,z,rfl,I,ad,X⟩:=t.box l _ L ao E;simp at O;subst O;have o:=q1 G (v d);obtain⟨k1,S⟩:=bJ.fA U ad o;obtain⟨w1,w2⟩:=t.write ao E rfl S;refine⟨.skip,_,?_,a,w1,w2,?_⟩
 rotate_left
 .intro R n;have B:(g d).cells.size=j.size:=by rw[<-D,<-o.cr,lV]
  have V:W g r=(do storeVar w ⟨x,off,k⟩ (g d);pure .skip):=by simp[W,N,s,Instr.storeAt,aU]
  rw[V]at n;have Y:R∈(storeCells ⟨x,off,k⟩ (g d).cells.toList).events P y.a #[]:=by
   simp only[storeVar,aE,(aG w j u).aU,B,aH,events_sizeOf,e3,gD,cr,cn,cM,aT]at n;generalize(storeCells ⟨x,off,k⟩ (g d).cells.toList).run P y.a=ab at n;cases ab with
   |ok ah F=>simpa using n
   |halt A F=>simpa using n
  rcases li (g d).cells.toList 0 z.toArray y.a #[] I J o.cell R Y with ae|⟨ag,_,_,rfl⟩
  .grind
  exact l' (bZ E) Q (X _)
 have M:=run_storeCells_at P x off T (g d).cells.toList 0 z.toArray y.a I J (o.cell);have B:(g d).cells.size=j.size:=by rw[<-D,<-o.cr,lV]
 simp only[iK]at M;simp[W,N,s,Instr.storeAt,aU,storeVar,(aG w j u).aU,B,M]
def kg(f:e (Nat×bh))(l:ab)(h:Nat):Option (Nat×bh):=
 match bY f l with
 |some j=>match j.desc with
  |.struct d=>match cH h d.toList with
   |some a=>match bY f a.type with
    |some g=>cond (aa g.size 0) k (b (a.offset,g))
    |none=>k
   |none=>k
  |_=>k
 |none=>k
def zY{n:e (Nat×bh)}(aG:bT P n){q:Nat}{p:bh}(f:kg n w q=b (off,p)):
  ∃l o d,bY n w=b l/\l.desc=.struct o/\o[q]?=b d/\d.offset=off/\bY n d.type=b p/\p.size≠0/\en P w l/\en P d.type p:=by
 unfold kg at f;split at f
 .rename_i l h;split at f
  .rename_i o j;split at f
   .rename_i d g;split at f
    .rename_i r u;cases s:aa r.size 0<;>simp[s]at f
     obtain⟨rfl,rfl⟩:=f;refine⟨l,o,d,h,j,by simpa using dL g,a,u,?_,aG _ _ h,aG _ _ u⟩;intro t;simp_all
    grind
   grind
  grind
 grind
def w7{a:e (Nat×bh)}(aG:bT P a){f:Nat}{s:bh}(r:kg a w f=b (off,s))(d g:Nat)(h:af):
  (Instr.fieldAt w (.pointer (b ⟨d,g,k⟩)) f).run P h=.ok (.pointer (b ⟨d,g+off,k⟩)) h:=by obtain⟨u,y,p,v,o,t,q,x,j,n,l⟩:=zY aG r;simp[Instr.fieldAt,n.run_underlying,o,t,aU,fieldPlace,l.aU,j,gg,q]
def vR{d:e (Nat×bh)}(aG:bT P d){f:Nat}{r:bh}(q:kg d w f=b (off,r))(h s:Nat)(t:af)(a:Array ay):
  (Instr.fieldAt w (.pointer (b ⟨h,s,k⟩)) f).events P t a=a:=by obtain⟨u,z,o,x,n,p,v,y,g,l,j⟩:=zY aG q;simp[Instr.fieldAt,l.run_underlying,n,p,aU,fieldPlace,j.aU,g]
def aR.gT{n:e (Nat×bh)}(aG:bT P n){j:Z}{s:Nat}(t:r.op=.fieldAddr w j s){g:Nat}{z:bh}(y:η j=ba l off)(p:kg n w s=b (g,z)):aR P r η h (ba l (off+g)) h:=by refine .aS λC B x f=>?_;have d:=f j;rw[y]at d;obtain⟨A,L,o,v,u,q⟩:=d;exact⟨.pointer (b ⟨o,off+g,k⟩),by simp[W,t,q,w7 aG p],⟨A,L,o,v,u,a⟩,by simp[W,t,q,vR aG p]⟩
theorem aR.gU{p:e (Nat×bh)}(aG:bT P p){l:Z}{u:Nat}(v:r.op=.fieldAddr w l u){a:e D}{j:Nat}{g:bh}(B:η l=aL (.U a))(t:kg p w u=b (j,g)):aR P r η h (aL (.U (fv j a))) h:=by refine .aS λI y z o=>?_;have d:=o l;rw[B]at d;have f:=b2 d;generalize q:y l=C at f;cases f;rename_i s r A F E;refine⟨.pointer (b ⟨s,r+j,k⟩),by simp[W,v,q,w7 aG t],?_,by simp[W,v,q,vR aG t]⟩;rw[pZ];refine Rd.U s (r+j) (λg=>A (j+g)) (λg x n=>J) (λg x n=>?_);grind
def Mg{g:bh}(q:en P w g){a:e C}(s:bJ h d z a){p:E1}(j:gl g (fv off a)=b p)(n:af):
  ∃l,(part w z.toArray off).run P n=.ok l n/\eh h d l p/\∀f,(part w z.toArray off).events P n f=f:=by
 simp only[part,cn,q.d',cM,aE,aH,events_isAgg];rw[pZ]at j;cases v:g.agg<;>simp only[gl,v]at j
 .cases u:cH 0 (a.drop off)with
  |none=>grind
  |some y=>
   simp[u]at j;subst j;obtain⟨l,r,t⟩:=(s.drop off).get (dL u);simp at r;refine⟨l,?_,t,λf=>?_⟩<;>simp[r]
 cases u:lH g.size (a.drop off)with
 |none=>grind
 |some B=>
  simp[u]at j;subst j;obtain⟨x,A⟩:=r8 u;have o:=(s.drop off).take g.size;rw[<-x]at o;refine⟨.agg (z.toArray.extract off (off+g.size)),by simp[q.aU],⟨(z.drop off).take g.size,?_,o⟩,λf=>by simp⟩;simp
theorem aR.field{P:aw}{l:e (Nat×bh)}(aG:bT P l){y:ah}{g:Z->s}{n:e Y}{A:ab}{j:Z}{p:Nat}(r:y.op=.field A j p){d:e C}{u:Nat}{t:bh}{o:E1}(R:g j=.k (.agg d))(M:kg l A p=b (u,t))(O:gl t (fv u d)=b o):aR P y g n (.k o) n:=by refine .aS λQ X K h=>?_;have a:=h j;rw[R]at a;obtain⟨z,v,E⟩:=a;obtain⟨U,J,I,a,f,x,w,T,V,q,N⟩:=zY aG M;obtain⟨S,F,B,D⟩:=Mg N E O Q.a;exact⟨S,by simp[W,r,v,Instr.field,q.run_underlying,f,x,asAgg,w,F],B,by simp[W,r,v,Instr.field,q.run_underlying,f,x,asAgg,w,D]⟩
theorem aR.hi{d:Z}(g:r.op=.nilCheck d)(o:η d=ba l off):aR P r η h (ba l off) h:=by refine .aS λv n p e=>?_;have a:=e d;rw[o]at a;have j:=a;obtain⟨u,L,q,t,s,f⟩:=a;exact⟨n d,by simp[W,g,f],j,by simp[W,g,f]⟩
theorem aR.hj{g:Z}(n:r.op=.nilCheck g){a:e D}(p:η g=aL (.U a)):aR P r η h (aL (.U a)) h:=by refine .aS λt o q j=>?_;have d:=j g;rw[p]at d;have f:=b2 d;generalize l:o g=s at f;cases f;exact⟨_,by simp[W,n,l];rfl,by grind,by simp[W,n,l]⟩
def Rt(new:e I):∀(f a:Nat)(d:Array I),a+f+c new<=d.size ->
  ((new.zipIdx f).foldl (λd (h:I×Nat)=>d.setIfInBounds (a+h.2) h.1) d).toList=d.toList.take (a+f)++new++d.toList.drop (a+f+c new):=by
 induction new with
 |nil=>simp
 |cons j z g=>
  intro f a d l;simp only[List.zipIdx_cons,hx];rw[g (f+1) a _ J];have:=list_seg_step d.toList (a+f) j z J;simpa[Array.toList_setIfInBounds,Nat.add_assoc]using this
def rk(place:Nat->Option (Nat×Nat)):e (Nat×e C)->e C->Option (e C)
 |[],a=>b a
 |(g,new)::d,a=>match place g with
  |some (f,size)=>match aa (c new) size with
   |true=>match h4 f new a with
    |some h=>rk place d h
    |none=>k
   |false=>k
  |none=>k
def z0{h:e Y}{d:aj}{place wR:Nat->Option (Nat×Nat)}(A:∀x j,place x=b j->wR x=b j):∀{parts:e (Nat×e C)}{xy:e (Nat×I)}{aY a1:e C}{z:Array I},
  rk place parts aY=b a1->xy.map (·.1)=parts.map (·.1)->(∀(t:Nat) (j:Nat×e C) (p:Nat×I),parts[t]?=b j->xy[t]?=b p->bJ h d p.2.cells.toList j.2)->bJ h d z.toList aY ->
  ∃s,Instr.fill wR z xy=b s/\bJ h d s.toList a1
 |[],[],aY,a1,z,g,_,_,q=>by cases g;exact⟨z,a,q⟩
 |[],_::_,aY,a1,z,g,o,_,q=>by grind
 |_::_,[],aY,a1,z,g,o,_,q=>by grind
 |(x,new)::n,(w,u)::l,aY,a1,z,g,o,r,q=>by
  simp only[oB,List.cons.injEq]at o;obtain⟨rfl,o⟩:=o;simp only[rk]at g;cases y:place w with
  |none=>grind
  |some j=>
   obtain⟨f,size⟩:=j;simp only[y]at g;cases D:aa (c new) size with
   |false=>grind
   |true=>
    simp only[D]at g;cases E:h4 f new aY with
    |none=>grind
    |some p=>
     simp only[E]at g;have v:=r 0 (w,new) (w,u) a a;simp only at v;have S:=v.cr;have N:c new=size:=c1 D;obtain⟨k1,R⟩:=bJ.fA E q v;have Q:=Rt u.cells.toList 0 f z J;have K:u.cells.size=size:=J;have O:f+size<=z.size:=J;obtain⟨s,M,B⟩:=z0 (h:=h) (d:=d) A (parts:=n) (xy:=l) (aY:=p) (a1:=a1)
      (z:=u.cells.zipIdx.foldl (λaY (F:I×Nat)=>aY.setIfInBounds (f+F.2) F.1) z) g o (λt j p M B=>r (t+1) j p J J) (by grind[Array.toList_zipIdx])
     refine⟨s,?_,B⟩;simp only[Instr.fill,A _ _ y,K,e3,gD,lX,Bool.false_or,bM];grind
def rO(d:e (Nat×bh)):e Field->Option (e (Nat×Nat))
 |[]=>b []
 |f::a=>match bY d f.type with
  |some g=>match rO d a with
   |some h=>b ((f.offset,g.size)::h)
   |none=>k
  |none=>k
def Hf{P:aw}{d:e (Nat×bh)}(aG:bT P d):∀{f:e Field}{h:e (Nat×Nat)},rO d f=b h->f.mapM (λg=>(P.info? g.type).map λp=>(g.offset,p.size))=b h
 |[],h,a=>by cases a;simp
 |g::f,h,a=>by
  simp only[rO]at a;cases l:bY d g.type with
  |none=>grind
  |some r=>
   cases j:rO d f with
   |none=>grind
   |some s=>
    simp[l,j]at a;subst a;obtain⟨q,t,o,n,_⟩:=(aG _ _ l).cK;simp[ny,o,n,Hf aG j]
def o5(a:Z->s):e (Nat×Z)->Option (e (Nat×e C))
 |[]=>b []
 |(f,j)::h=>match kA (a j)with
  |some d=>match o5 a h with
   |some g=>b ((f,d)::g)
   |none=>k
  |none=>k
def A0{h:e Y}{d:aj}{n:Z->I}{a:Z->s}(v:∀u,bo h d (n u) (a u)):∀{o:e (Nat×Z)}{g:e (Nat×e C)},o5 a o=b g ->
  (o.map λ(l,j)=>(l,n j)).map (·.1)=g.map (·.1)/\∀(q:Nat) (r:Nat×e C) (t:Nat×I),g[q]?=b r->(o.map λ(l,j)=>(l,n j))[q]?=b t->bJ h d t.2.cells.toList r.2
 |[],g,f=>by cases f;simp
 |(l,j)::z,g,f=>by
  simp only[o5]at f;cases x:kA (a j)with
  |none=>grind
  |some w=>
   cases p:o5 a z with
   |none=>grind
   |some y=>
    simp[x,p]at f;subst f;obtain⟨B,A⟩:=A0 v p;grind[q1]
def vo(h:e (Nat×bh))(g:Z->s)(n:ab)(parts:e (Nat×Z)):Option (e C):=
 match bY h n with
 |some j=>match j.desc with
  |.struct a=>match rO h a.toList with
   |some d=>match o5 g parts with
    |some f=>rk (λl=>cH l d) f (j.zero.map C.c)
    |none=>k
   |none=>k
  |_=>k
 |none=>k
theorem aR.build{P:aw}{p:e (Nat×bh)}(aG:bT P p){E:ah}{g:Z->s}{h:e Y}{a:ab}{parts:Array (Nat×Z)}(z:E.op=.build a parts){l:e C}(j:vo p g a parts.toList=b l):aR P E g h (.k (.agg l)) h:=by
 refine .aS λd T F r=>?_;unfold vo at j;cases f:bY p a with
 |none=>grind
 |some o=>
  simp only[f]at j;cases y:o.desc with
  |struct q=>
   simp only[y]at j;cases w:rO p q.toList with
   |none=>grind
   |some u=>
    simp only[w]at j;cases x:o5 g parts.toList with
    |none=>grind
    |some N=>
     simp only[x]at j;obtain⟨ae,af,O,D,X,K,J,V,U⟩:=(aG a o f).cK;obtain⟨R,t⟩:=A0 (h:=h) (d:=d) r x;obtain⟨n,Q,M⟩:=z0 (h:=h) (d:=d) (wR:=λB=>u.toArray[B]?) (λB ad I=>by grind[dL]) j R t (sC J);have A:P.built a (parts.map λ(o,S)=>(o,T S)).toList=b n:=by unfold Program.built;have v:=(aG a o f).eC;rw[y]at v;simp only[O,v,K,Hf aG w];simpa using Q
     refine⟨.agg n,?_,⟨n.toList,by simp,M⟩,?_⟩
     .simp only[W,z,cn,run_build d.a a _ n A,cM,dv]
     simp only[W,z,aE,run_build d.a a _ n A,aH,aT];exact dp.build d.a #[]
  |_=>grind
theorem R'{a:Nat}(d:f<p)(g:y<a):f*a+y<p*a:=by have e:(f+1)*a<=p*a:=gC a x;grind
theorem R_{a:Nat}(d:y<a):(f*a+y) / a=f:=by grind[Nat.mul_comm,Nat.mul_add_div,Nat.div_eq_of_lt]
theorem Sa{a:Nat}(d:y<a):(f*a+y) % a=y:=by rw[Nat.mul_comm,Nat.mul_add_mod,Nat.mod_eq_of_lt d]
def ez.nil{a:Nat}:ez bi a 0 es []:=⟨by simp,by omega,by omega⟩
def b_(d:Nat)(f g:Nat->e D):Nat->e D:=λa=>if a<d then f a else g (a-d)
def ez.append{h u:Nat}{d:Nat->e D}{s:e I}(j:ez bi h p es z)(o:ez bi h u d s):ez bi h (p+u) (b_ p es d) (z++s):=by
 refine⟨by simp[j.len,o.len,iL],λg r=>?_,λg r l t a=>?_⟩
 .simp only[b_];split
  .rename_i n;exact j.bo g n
  exact o.bo _ x
 simp only[b_]at a;split at a
 .rename_i n;obtain⟨v,q,f⟩:=j.rd g n l t a;grind
 rename_i y;obtain⟨v,q,f⟩:=o.rd _ x l t a;refine⟨v,?_,f⟩;have w:g*h+l=c z+((g-p)*h+l):=by rw[j.len,<-Nat.add_assoc,<-iL,yj x]
 grind
def ez.cell{q:Mem}{a p:Nat}{g:Nat->e D}{z:e I}(l:ez q a p g z):∀j∈z,j.oneCell'=i:=by intro j r;obtain⟨d,s,rfl⟩:=ft r;rw[l.len]at s;have o:0<a:=J;have h:d / a<p:=qD J;have u:d % a<a:=oA _ o;have v:=l.bo _ h;obtain⟨j,f,n⟩:=l.rd (d / a) h (d % a) ((g (d / a))[d % a]'x) (bu x);have t:d / a*a+d % a=d:=sL d a;rw[t]at f;rw[bu J]at f;simp at f;rw[f];have:=Rd.cell n;cases j<;>simp_all[dx,Value.oneCell']
def Rd.bx{t:Bool}{e:Nat}(A:Rd bi ai (.M t e p es)):
  ∃l d z,ai=.slice l p d/\p<=d/\d<=9223372036854775807/\(t=i->d=p)/\ez bi e p es z/\∀g s,z[g]?=b s->∃n f,l=b ⟨n,f,k⟩/\bi n (f+g)=b s:=by
 cases A with
 |@M l _ d _ _ _ n f w u E D j q r C=>
  refine⟨l,d,(aI (p*e)).map λg=>w (g / e) (g % e),a,u,E,D,⟨by simp,j,?_⟩,?_⟩
  .grind [R',R_,Sa]
  intro g s o;simp only[lW]at o;by_cases v:g<p*e
  .simp[v]at o;subst o;have y:0<e:=J;have h:g / e<p:=qD J;have B:g % e<e:=oA _ y;have F:=j _ h;have:=r (g / e) h (g % e) ((es (g / e))[g % e]'x) (bu x);refine⟨n,f,q (Nat.lt_of_le_of_lt (jG _) h),?_⟩;grind[Nat.div_add_mod']
  grind
def Rd.dy{o:Nat}(h:ez bi o p es z){t:Option Addr}{cap:Nat}{w:Bool}(u:0<p->t=b ⟨j,off,k⟩)(s:p<=cap)(x:cap<=9223372036854775807)(v:w=i->cap=p)(y:∀q r,z[q]?=b r->bi j (off+q)=b r):Rd bi (.slice t p cap) (.M w o p es):=by
 refine .M j off (λe f=>(z[e*o+f]?).getD E) s x v h.bo u (λe a f g d=>?_) (λe a f g d=>?_)
 .obtain⟨ai,l,n⟩:=h.rd e a f g d;grind
 obtain⟨ai,l,n⟩:=h.rd e a f g d;grind
def nf(y:aZ h d){A:Bool}{f:Nat}(u:Rd d.n ai (.M A f p es)):
  ∃z,ez d.n f p es z/\(Builtin.firstCells f p ai).run P d.a=.ok z.toArray d.a/\Builtin.lenOf ai=pure p:=by
 obtain⟨r,n,z,rfl,B,E,D,q,o⟩:=u.bx;refine⟨z,q,?_,a⟩;have v:c z=p*f:=q.len;cases r with
 |none=>
  have:z=[]:=by
   cases z with
   |nil=>rfl
   |cons l C=>obtain⟨s,e,j,_⟩:=o 0 l rfl;cases j
  subst this;rfl
 |some g=>
  simp only[Builtin.firstCells];rw[<-v];refine run_loadCells_list d.a g z λw l t=>?_;obtain⟨s,e,j,x⟩:=o w l t;cases j;rw[gg];exact y.mem _ _ _ x
def aR.iX{x:e (Nat×bh)}(aG:bT P x){s u:Z}(n:r.op=.index w s u){v:e UInt8}{z:Int}{C:IntKind}{f:bh}{a2:Nat}(bL:bY x w=b f)(ac:f.desc=.string)(F:η s=aL (.R v))(E:η u=aL (.int C z))(FT:z=a2)(M:a2<c v):aR P r η h (aL (.int .u8 (v[a2]).toNat)) h:=by
 refine .aS λd y A q=>?_;have g:=q s;have l:=q u;rw[F]at g;rw[E]at l;replace g:=b2 g;replace l:=b2 l;generalize t:y s=I at g;generalize N:y u=J at l;cases g with
 |@R a _ D B=>
 cases l;subst D;have p:a[a2]?=b (a.data.toList[a2]):=by have o:a2<a.size:=dX;rw[getElem?_pos a a2 o];congr 1
 refine⟨.int .u8 (a.data.toList[a2]).toNat,?_,Rd.int ?_,?_⟩
 rotate_left 2
 .exact Ku
 .exact Ku
 have:=(a.data.toList[a2]).toNat_lt;exact mw
def aR.indexAddr{u:e (Nat×bh)}(aG:bT P u){q t:Z}(X:r.op=.indexAddr w q t){I d:bh}(E:bY u w=b I)(S:I.desc=.slice T)(D:bY u T=b d){ew:Bool}{y:Int}{ad:IntKind}{a2:Nat}(U:∀o Q,bo h o Q (η q)->Rd o.n Q (.M ew d.size p es))(s:η t=aL (.int ad y))(F:y=a2)(z:a2<p):
  aR P r η h (aL (.U (es a2))) h:=by
 refine .aS λo O Y l=>?_;have g:=U o _ (l q);have a:=l t;rw[s]at a;replace a:=b2 a;generalize af:O q=ah at g;generalize ag:O t=ai at a;cases a;cases g with
 |@M aj _ N _ _ _ M f V C H G ab B j n=>
 have ae:0<p:=x;have R:=(aG w I E).run_underlying (K:=o.a);rw[S]at R;refine⟨.pointer (b ⟨M,f+a2*d.size,k⟩),?_,Rd.U M (f+a2*d.size) (V a2) (λJ v A=>j a2 z J v A) (λJ v A=>n a2 z J v A),?_⟩<;>
 simp[W,X,af,ag,Instr.indexAt,asIntOf,R,F,B ae,(aG T d D).aU,gg,z]
def aR.je{l:e (Nat×bh)}(aG:bT P l){j:Z}(u:r.op=.call {callee:=.builtin .len,args:=#[j],argTypes:=dK})(A:dK[0]?=b w){g:bh}(d:bY l w=b g)(t:g.desc=.slice T){ew:Bool}{y:Nat}(B:∀a q,bo h a q (η j)->Rd a.n q (.M ew y p es)):aR P r η h (aL (.int .i64 p)) h:=by
 refine .aS λa E v f=>?_;obtain⟨C,n,z,x,D,F,_⟩:=(B a _ (f j)).bx;have o:=(aG w g d).run_underlying (K:=a.a);rw[t]at o;have s:dK[0]?=b w:=A;refine⟨.int .i64 p,?_,Rd.int mw,?_⟩<;>
 simp[W,u,resolve,invoke,builtin,Builtin.len_,x,o,goInt,s]
theorem aR.jf{o:e (Nat×bh)}(aG:bT P o){f:Z}(v:r.op=.call {callee:=.builtin .len,args:=#[f],argTypes:=dK})(B:dK[0]?=b w){l:bh}(g:bY o w=b l)(u:l.desc=.string){d:e UInt8}(C:η f=aL (.R d)):aR P r η h (aL (.int .i64 (c d))) h:=by
 refine .aS λD A x j=>?_;have a:=j f;rw[C]at a;replace a:=b2 a;generalize q:A f=E at a;cases a with
 |@R n _ z y=>
 have p:=(aG w l g).run_underlying (K:=D.a);rw[u]at p;have s:dK[0]?=b w:=B;have t:n.size=c d:=by rw[<-z];simp
 refine⟨.int .i64 (c d),?_,Rd.int mw,?_⟩<;>
 simp[W,v,resolve,invoke,builtin,Builtin.len_,q,p,goInt,s,t]
def aj.newRow(a:aj)(g:ab)(z:e I):aj:=
 {m:=a.m,n:=λd f=>if d=a.a.heap.size then z[f]? else a.n d f,a:=a.a.alloc (.cells z.toArray g),own:=a.own}
def aZ.newRow{f:e Y}{d:aj}(n:aZ f d)(j:ab)(z:e I):aZ f (d.newRow j z)/\cA f d f (d.newRow j z):=by
 refine n.cF Q (λh g=>hY _ _ g) (λh g p=>by grind) (λh g p q l=>?_) a a a;by_cases o:h=d.a.heap.size
 .simp_all
 simp only[o,cr]at l;have:=n.block l;omega
def SR(f:aj)(g:ab)(z:e I):∀a d,z[a]?=b d->(f.newRow g z).n f.a.heap.size (0+a)=b d:=by intro a d h;simpa[aj.newRow]using h
def hA:e C->Option (e D)
 |[]=>b []
 |.c g::f=>match hA f with|some d=>b (g::d)|none=>k
 |.q _ h j a::f=>match hA f with|some d=>b (.M m h j a::d)|none=>k
 |_::_=>k
def q3{o:e Y}{p:aj}:∀{j:e C}{g:e D}{z:e I},hA j=b g->bJ o p z j->bJ o p z (g.map C.c)
 |[],g,z,a,f=>by cases a;exact f
 |_::_,_,[],_,f=>f.elim
 |.c s::d,g,l::z,a,f=>by
  simp only[hA]at a;cases h:hA d with
  |none=>grind
  |some r=>simp[h]at a;subst a;exact⟨f.1,q3 h f.2⟩
 |.q n t u q::d,g,l::z,a,f=>by
  simp only[hA]at a;cases h:hA d with
  |none=>grind
  |some r=>simp[h]at a;subst a;exact⟨f.1.1,q3 h f.2⟩
 |.ptr n v::d,g,l::z,a,f=>by simp[hA]at a
 |.aD n::d,g,l::z,a,f=>by simp[hA]at a
 |.ak n w::d,g,l::z,a,f=>by simp[hA]at a
 |.any::d,g,l::z,a,f=>by simp[hA]at a
def q2{a:Type}(d:Nat):Nat->e a->Option (e (e a))
 |0,[]=>b []
 |0,_::_=>k
 |h+1,f=>match lH d f with
  |some g=>match q2 d h (fv d f)with
   |some j=>b (g::j)
   |none=>k
  |none=>k
def bJ.e9:∀{z:e I}{a:e D},bJ h d z (a.map C.c)->∀(y:Nat)(f:D),a[y]?=b f->∃g,z[y]?=b g/\Rd d.n g f:=by intro z a n y f o;obtain⟨g,j,l⟩:=n.get (y:=y) (t:=.c f) J;exact⟨g,j,l⟩
def D8{bi:Mem}{g:Nat}:∀{n:Nat}{d:e D}{f:e (e D)}{z:e I},q2 g n d=b f->c z=c d->(∀(o:Nat)(h:D),d[o]?=b h->∃q,z[o]?=b q/\Rd bi q h)->c f=n/\ez bi g n (λl=>f.getD l []) z
 |0,[],f,z,j,p,s=>by cases j;simp at p;subst p;exact⟨a,.nil⟩
 |0,_::_,f,z,j,p,s=>by cases j
 |n+1,d,f,z,j,p,s=>by
  simp only[q2]at j;cases v:lH g d with
  |none=>grind
  |some h=>
   simp only[v]at j;cases r:q2 g n (fv g d)with
   |none=>grind
   |some w=>
    simp[r]at j;subst j;obtain⟨E,u⟩:=r8 v;rw[pZ]at r;obtain⟨F,B⟩:=D8 (z:=z.drop g) r J (λo h C=>by
     obtain⟨q,E,u⟩:=s (g+o) h J
     exact⟨q,by grind,u⟩)
    refine⟨by grind,?_⟩;have A:g<=c d:=J;have t:ez bi g 1 (λ_=>h) (z.take g):=by refine⟨by grind,by grind,λl y o K C=>?_⟩;grind
    have:=t.append B;rw[Nat.add_comm 1 n]at this;have x:b_ 1 (λ_=>h) (λl=>w.getD l [])=λl=>(h::w).getD l []:=by funext l;cases l<;>simp[b_]
    rw[x]at this;simpa using this
def wl(l:e (Nat×bh))(j:Z->s)(r:ab)(g:Nat)(parts:e (Nat×Z)):Option (Nat×e (e D)):=
 match bY l r with
 |some o=>match o.desc with
  |.slice n=>match bY l n with
   |some a=>match aa a.size 0 with
    |true=>k
    |false=>match aD (g*a.size) 16777216 with
     |true=>match o5 j parts with
      |some h=>match rk (λp=>b (p*a.size,a.size)) h (aW (g*a.size) C.any)with
       |some d=>match hA d with
        |some q=>match q2 a.size g q with
         |some f=>b (a.size,f)
         |none=>k
        |none=>k
       |none=>k
      |none=>k
     |false=>k
   |none=>k
  |_=>k
 |none=>k
theorem aR.buildSlice{P:aw}{M:e (Nat×bh)}(aG:bT P M){N:ah}{t:Z->s}{h:e Y}{A:ab}{g:Nat}{parts:Array (Nat×Z)}(U:N.op=.buildSlice A g parts){p:Nat}{v:e (e D)}(l:wl M t A g parts.toList=b (p,v)):aR P N t h (aL (.M i p g λr=>v.getD r [])) h:=by
 intro d E X ae;unfold wl at l;cases w:bY M A with
 |none=>grind
 |some r=>
  simp only[w]at l;cases ay:r.desc with
  |slice q=>
   simp only[ay]at l;cases B:bY M q with
   |none=>grind
   |some f=>
    simp only[B]at l;cases af:aa f.size 0 with
    |true=>grind
    |false=>
     simp only[af]at l;cases G:aD (g*f.size) 16777216 with
     |false=>grind
     |true=>
      simp only[G]at l;cases aN:o5 t parts.toList with
      |none=>grind
      |some al=>
       simp only[aN]at l;cases aM:rk (λp=>b (p*f.size,f.size)) al (aW (g*f.size) C.any)with
       |none=>grind
       |some R=>
        simp only[aM]at l;cases H:hA R with
        |none=>grind
        |some aU=>
         simp only[H]at l;cases ax:q2 f.size g aU with
         |none=>grind
         |some aE=>
          simp only[ax,eA,k4]at l;obtain⟨rfl,rfl⟩:=l;have a5:f.size≠0:=λaC=>by simp_all
          have a4:=e' G;obtain⟨aK,o,ar,a0,a1,au,az,a2,a3⟩:=(aG q f B).cK;have aJ:o.cells.size=f.size:=by have:=er List.length az;grind
          have aH:∀n∈o.cells.toList,dx n=i:=by intro n F;have aB:k5 n∈o.cells.toList.map k5:=fF.2 ⟨n,F,rfl⟩;rw[az]at aB;obtain⟨a6,_,V⟩:=fF.1 aB;exact(Rd.fH (bi:=d.n) V.symm).cell
          have aZ:∀aT,(∀n∈(aI aT).map (λy=>o.cells[y % o.cells.size]!),dx n=i):=by grind[Nat.mod_lt]
          have aO:∀z:e I,(∀n∈z,dx n=i)->bJ h d z (aW (c z) C.any):=by
           intro z;induction z with
           |nil=>intro _;trivial
           |cons n z ag=>intro F;exact⟨F n Q,ag λaV L=>F aV J⟩
          obtain⟨ai,ak⟩:=A0 (h:=h) (d:=d) ae aN;have aq:bJ h d ((Array.range (g*f.size)).map (λy=>o.cells[y % o.cells.size]!)).toList (aW (g*f.size) C.any):=by have:=aO _ (aZ (g*f.size));simpa using this
          obtain⟨u,aY,an⟩:=z0 (h:=h) (d:=d) (wR:=λp=>b (p*f.size,f.size)) (λp a7 ad=>ad) aM ai ak aq;have uu:=q3 H an;obtain⟨aS,O⟩:=D8 (bi:=d.n) (z:=u.toList) ax (by simpa using uu.cr) uu.e9;obtain⟨T,aA⟩:=X.newRow q u.toList;refine⟨.value (.slice (b ⟨d.a.heap.size,0,k⟩) g g),d.newRow q u.toList,?_,?_,T,aA,?_⟩
          rotate_left 2
          .have aC:(W E N).events P d.a #[]=#[]:=by simp only[W,U];exact dp.bind dp.buildSlice (λ_=>dp.pure) _ _
           rw[aC];exact .nil
          .have L:=(aG A r w).run_underlying (K:=d.a);rw[ay]at L;have aP:(zeroValue q).run P d.a=.ok o d.a:=by simp[zeroValue,typeInfo,ar,au]
           have S:Instr.fill (λp=>b (p*f.size,f.size)) ((Array.range (g*f.size)).map (λy=>o.cells[y % o.cells.size]!)) (parts.map λ(r,ao)=>(r,E ao)).toList=b u:=bx;by_cases a:g*f.size=0
           .have aQ:g=0:=by grind[Nat.mul_eq_zero]
            subst aQ;have aF:Array.range 0=#[]:=rfl;simp[aF]at S;simp[W,U,Instr.buildSlice,L,(aG q f B).aU,aF,S,Go.newRow,aj.newRow]
           rw[show W E N=(do pure (.value (<-Instr.buildSlice A g (parts.map λ(r,ao)=>(r,E ao))))) by simp[W,U]];simp only[Instr.buildSlice,cn,L,cM,(aG q f B).aU,a,cr,aP,show¬g*f.size>2 ^ 24 by omega,sR,S,dv];simp[Go.newRow,aj.newRow]
          refine Rd.dy (O.mono aA.mem) (j:=d.a.heap.size) (off:=0) bN (bE _) ?_ bN (SR d q u.toList);have:g<=g*f.size:=uY g x;omega
  |_=>grind
def ey.trans{n a d:e Y}{s o f:aj}(p:ey n s a o)(q:ey a o d f):ey n s d f:=by refine⟨λB C D w=>q.mem _ _ _ (p.mem _ _ _ w),λr t L ao l=>?_⟩;obtain⟨z,g,h,j,y⟩:=p.box r t L ao l;obtain⟨A,x,k1,u,v⟩:=q.box r z g h j;exact⟨A,x,k1,u,y.trans v⟩
def p5{d:e α}{g f:α}{a:Nat}(h:(d++[g])[a]?=b f):d[a]?=b f∨(a=c d/\f=g):=J
def aZ.bL{n:aj}(f:aZ h n)(g:cA h d h n)(O:n.m=d.m)(q:aZ h d){bR:Y}{L:Loc}(ao:ek (h++[bR]) {n with m:=n.m++[L]} bR L)(D:∀j∈L.V,d.a.heap.size<=j/\j<n.a.heap.size):aZ (h++[bR]) {n with m:=n.m++[L]}/\cA h d (h++[bR]) {n with m:=n.m++[L]}:=by
 have v:ey h n (h++[bR]) {n with m:=n.m++[L]}:=by refine⟨λ_ _ _ F=>F,λr p l o e=>?_⟩;have x:r<c n.m:=(cD.1 e).1;have N:r<c h:=(cD.1 o).1;exact⟨p,l,by grind,by grind,.refl _ _⟩
 have z:=g.ext.trans v;refine⟨⟨f.mem,by simp[f.len],?_,?_,?_,?_⟩,⟨g.size,g.aG,g.mem,g.ba,?_,z.box,g.os,g.tape,g.output,g.own⟩⟩
 .intro r p l o e;rcases p5 o with I|⟨rfl,rfl⟩
  .have x:r<c n.m:=by rw[f.len];grind
   rw[jE x]at e;exact(f.box r p l I e).bU v f.len λ_ _=>⟨a,λ_=>rfl⟩
  rcases p5 e with B|⟨_,rfl⟩
  .have:=(cD.1 B).1;rw[f.len]at this;omega
  grind
 .intro r C s t B K j u A;rcases p5 B with k1|⟨rfl,rfl⟩<;>rcases p5 K with M|⟨rfl,rfl⟩
  .exact f.aL r C s t k1 M j u A
  .have jC:=D j A;have y:=q.lt s J j u;omega
  .have jC:=D j u;have y:=q.lt t J j A;omega
  simp
 .intro l e j u;simp only[fu,eN]at e;rcases e with e|rfl
  .exact f.lt l e j u
  grind
 .intro j u;refine⟨(f.own j u).1,λl e w=>?_⟩;simp only[fu,eN]at e;rcases e with e|rfl
  .exact(f.own j u).2 l e w
  have E:=g.own;simp only at u;rw[E]at u;have:=(q.own j u).1;grind
 grind
def aZ.bQ{b0:Mem}(j:aZ h d){B dN:Y}{L b7:Loc}(T:h[l]?=b B)(I:d.m[l]?=b L)(V:fL B L dN b7)(S:d.a.heap.size<=a5.heap.size)(O:∀e,e<d.a.heap.size->e∉L.V->a5.heap[e]?=d.a.heap[e]?)(H:∀e,e<d.a.heap.size->e∉L.V->∀r,b0 e r=d.n e r)(E:∀e r u,d.n e r=b u->b0 e r=b u)(G:∀e r u,b0 e r=b u->a5.cell? ⟨e,r,k⟩=b u)(D:∀e∈b7.V,(e∈L.V∨d.a.heap.size<=e)/\e<a5.heap.size)(A:a5.os=d.a.os)(s:a5.tape=d.a.tape)(N:a5.output=d.a.output)(ao:ek (h.set l dN) ⟨d.m.set l b7,b0,a5,d.own⟩ dN b7):aZ (h.set l dN) ⟨d.m.set l b7,b0,a5,d.own⟩/\cA h d (h.set l dN) ⟨d.m.set l b7,b0,a5,d.own⟩:=by
 have Z:l<c h:=(cD.1 T).1;have ab:l<c d.m:=(cD.1 I).1;have w:∀f g,(d.m.set l b7)[f]?=b g->(f=l/\g=b7)∨(f≠l/\d.m[f]?=b g):=J;have t:ey h d (h.set l dN) ⟨d.m.set l b7,b0,a5,d.own⟩:=by
  refine⟨E,λf g v o x=>?_⟩;by_cases z:l=f
  .grind
  exact⟨g,v,by grind,by grind,.refl _ _⟩
 have K:∀f g,f≠l->d.m[f]?=b g->∀e∈g.V,e<d.a.heap.size/\e∉L.V:=by intro f g n o e q;exact⟨j.lt g (bZ o) e q,λR=>n (j.aL f l g L o I e q R)⟩
 refine⟨⟨G,by simp[j.len],?_,?_,?_,?_⟩,⟨S,?_,E,?_,?_,t.box,A,s,N,a⟩⟩
 .intro f g v o x;rcases w f v x with⟨rfl,rfl⟩|⟨n,x⟩
  .grind
  rw[j7 (λz=>n z.symm)]at o;refine(j.box f g v o x).bU t j.len λe q=>?_;grind
 .intro f C g M o F e q U;rcases w f g o with⟨rfl,rfl⟩|⟨n,p⟩<;>rcases w C M F with⟨rfl,rfl⟩|⟨Q,y⟩
  .rfl
  .grind
  .grind
  exact j.aL f C g M p y e q U
 .intro g o e q;obtain⟨f,n,rfl⟩:=ft o;rcases w f _ (bu n)with⟨rfl,z⟩|⟨Q,F⟩
  .grind
  grind
 .intro e q;obtain⟨X,W⟩:=j.own e q;grind
 .grind
 .grind
 grind
def GF{a old bytes:Nat}(e:old<a)(d:a*bytes<=140737488355328):¬Builtin.nextslicecap a old*bytes>2 ^ 48:=by have:=growslice_fits e d;omega
section
variable {ag:e (Nat×bh)}(aG:bT P ag){t2:ab}{f N bz:bh}
def w6(j:en P w f)(A:f.desc=.slice T)(x:en P t2 N)(v:N.desc=.slice T)(B:en P T bz)(E:aZ h d){t:Option Addr}{a:Nat}(u:p<=a){q:I}{g:Nat->e D}(o:Rd d.n q (.M gz bz.size 0 g)):
  (Builtin.append_ #[w,t2] ty #[.slice t p a,q]).run P d.a=.ok (.slice t p a) d.a:=by obtain⟨s,F,C,M⟩:=nf (P:=P) E o;have n:=j.run_underlying (K:=d.a);have l:=x.run_underlying (K:=d.a);rw[A]at n;rw[v]at l;obtain⟨r,J,z,rfl,_⟩:=o.bx;have y:s=[]:=j5 (by simpa using F.len);subst y;cases t<;>simp[Builtin.append_,n,l,B.aU,Builtin.lenOf,u,C,storeCells]
def rX(B:en P w f)(ad:f.desc=.slice T)(aw:en P t2 N)(au:N.desc=.slice T)(L:en P T bz)(aj:aZ h d){t:Option Addr}{g l:Nat}{ah:Bool}{n:Nat->e D}{q:I}(E:Rd d.n (.slice t p g) (.M ah bz.size p es))(F:Rd d.n q (.M gz bz.size l n))(af:g<p+l)(O:(p+l)*bz.bytes<=140737488355328)(s:bz.bytes≠0):
  ∃z r j,ez d.n bz.size (p+l) (b_ p es n) z/\p+l<=j/\j<=9223372036854775807/\c (z++r)=j*bz.size /\
   (Builtin.append_ #[w,t2] ty #[.slice t p g,q]).run P d.a=.ok (.slice (b ⟨d.a.heap.size,0,k⟩) (p+l) j) (d.a.drew.alloc (.cells (z++r).toArray T)):=by
 have Z:aZ h {d with a:=d.a.drew}:=aj.same rfl;obtain⟨v,R,y,ao⟩:=nf (P:=P) Z (ai:=q) F;obtain⟨u,X,A,W⟩:=nf (P:=P) Z (ai:=.slice t p g) E;have S:=B.run_underlying (K:=d.a);have U:=aw.run_underlying (K:=d.a);rw[ad]at S;rw[au]at U;obtain⟨Y,M,Q,ax,ay,ag,ae,az,aA⟩:=L.cK;have V:p+l<=140737488355328:=i_ (uY _ (Nat.pos_of_ne_zero s)) O;have H:M.cells.size=bz.size:=by have:=er List.length ae;grind
 refine⟨u++v,(Builtin.zeroCells M.cells (grownCap d.a (p+l) g T-(p+l))).toList,grownCap d.a (p+l) g T,X.append R,grownCap_ge _ _ _ _,?_,?_,?_⟩
 .have:=grownCap_le_maxLen d.a (p+l) g T (by unfold maxLen;omega);unfold maxLen at this;omega
 .have aq:=grownCap_ge d.a (p+l) g T;simp only[dZ,X.len,R.len,lV,size_zeroCells,H,<-iL];grind
 .have aB:=GF af O;have ar:¬Builtin.nextslicecap (p+l) g*Y.bytes>2 ^ 48:=J;have an:¬p+l<=g:=x;have C:¬((p+l:Nat):Int)>IntKind.i64.max:=bx;have G:∀o,(typeInfo T).run P o=.ok Y o:=λo=>by simp[typeInfo,Q]
  have ab:∀o,(zeroValue T).run P o=.ok M o:=λo=>by simp[zeroValue,typeInfo,Q,ag]
  have al:(Builtin.lenOf q).run P d.a=.ok l d.a:=by rw[ao];rfl
  replace y:(Builtin.firstCells bz.size l q).run P d.a.drew=.ok v.toArray d.a.drew:=y;replace A:(Builtin.firstCells bz.size p (.slice t p g)).run P d.a.drew=.ok u.toArray d.a.drew:=A
  unfold Builtin.append_;simp only[iF,j6,nA,cn,S,U,cM,L.aU,dv,jF,cr,al,an,
   C,false_and,G,ar,run_choose,Question.forced,run_askRoom,sR,World.drew_eq,A,y,l1,cN,ab]
  simp[Go.newRow,grownCap];have ak:∀a:Array I,(u++v).toArray++a=(u++(v++a.toList)).toArray:=λa=>by grind
  rw[ak];rfl
def w5(o:en P w f)(M:f.desc=.slice T)(F:en P t2 N)(E:N.desc=.slice T)(O:en P T bz)(z:aZ h d){cap n:Nat}{x:ab}{l:e I}(Q:d.a.heap[j]?=b (.cells l.toArray x (0,0)))(B:c l=cap*bz.size){a:Nat->e D}{r:I}(s:Rd d.n r (.M gz bz.size n a))(v:p+n<=cap):
  ∃g,ez d.n bz.size n a g/\(Builtin.append_ #[w,t2] ty #[.slice (b ⟨j,0,k⟩) p cap,r]).run P d.a=.ok (.slice (b ⟨j,0,k⟩) (p+n) cap) (d.a.setRow j (l.take (p*bz.size)++g++l.drop (p*bz.size+c g)).toArray):=by
 obtain⟨g,q,C,R⟩:=nf (P:=P) z s;have y:=o.run_underlying (K:=d.a);have t:=F.run_underlying (K:=d.a);rw[M]at y;rw[E]at t;have S:p*bz.size+c g<=c l:=by rw[q.len,B,<-iL];exact gC _ v
 have u:=run_storeCells_at P j (p*bz.size) x g 0 l.toArray d.a Q J q.cell;simp only[iK]at u;have A:(Builtin.lenOf r).run P d.a=.ok n d.a:=dX;refine⟨g,q,?_⟩;unfold Builtin.append_;simp only[iF,j6,nA,cn,y,t,cM,O.aU,dv,jF,cr,A,v,cN,l1,C,gg,cX,u]
end
def AD{e:Sem α}{a:Array ay}{d:ay}(f:d∈e.events P K a):d∈a∨d∈e.events P K #[]:=by grind[Sem.events_acc]
def HA(f:aj)(e:ay):Prop:=∃a d g,e=n5 a d/\f.n a d=b g
def rg(M:aZ h d){J:Bool}{g:Nat}(y:Rd d.n ai (.M J g p es))(F:K.heap=d.a.heap):
  ∀u∈(Builtin.firstCells g p ai).events P K #[],HA d u:=by
 obtain⟨B,w,z,rfl,S,R,Q,A,I⟩:=y.bx;have D:c z=p*g:=A.len;intro u l;cases B with
 |none=>simp[Builtin.firstCells]at l
 |some r=>
  simp only[Builtin.firstCells]at l;have t:∀f,f<p*g->∃j e n,r=⟨j,e,k⟩/\d.n j (e+f)=b n:=by intro f o;obtain⟨j,e,s,q⟩:=I f (z[f]'x) (bu x);grind
  by_cases N:p*g=0
  .rw[N]at l;simp[loadCells,loadCellsFrom]at l
  obtain⟨j,e,_,rfl,_⟩:=t 0 x;have C:∀f,f<p*g->∃ai,K.cell? ⟨j,e+f,k⟩=b ai:=by intro f o;obtain⟨O,E,n,v,q⟩:=t f o;cases v;have:=M.mem _ _ _ q;exact⟨n,by simp only[aJ,F]at this⊢;omega⟩
  rcases EV (P:=P) C u l with y|⟨f,o,rfl⟩
  .grind
  obtain⟨O,E,n,v,q⟩:=t f o;cases v;exact⟨_,_,n,a,q⟩
theorem rU{a:ay}(f:HA d a):hD d a:=by obtain⟨g,h,j,rfl,e⟩:=f;exact EJ e
section
variable {t2:ab}{f N bz:bh}
def vP(l:en P w f)(F:f.desc=.slice T)(B:en P t2 N)(A:N.desc=.slice T)(J:en P T bz)(r:aZ h d){o:Option Addr}{g:Nat}(x:p<=g){t:I}{j:Nat->e D}(n:Rd d.n t (.M gz bz.size 0 j)):
  cR d ((Builtin.append_ #[w,t2] ty #[.slice o p g,t]).events P d.a #[]):=by obtain⟨v,Q,M,S⟩:=nf (P:=P) r n;have E:=rg (P:=P) r n (K:=d.a) a;have s:=l.run_underlying (K:=d.a);have q:=B.run_underlying (K:=d.a);rw[F]at s;rw[A]at q;obtain⟨u,R,z,rfl,_⟩:=n.bx;have C:v=[]:=j5 (by simpa using Q.len);subst C;intro y O;refine rU (E y ?_);cases o<;>simpa[Builtin.append_,s,q,J.aU,Builtin.lenOf,x,M,storeCells]using O
def rf(B:en P w f)(ak:f.desc=.slice T)(G:en P t2 N)(s:N.desc=.slice T)(R:en P T bz)(y:aZ h d){r:Option Addr}{g j:Nat}{E:Bool}{u:Nat->e D}{l:I}(V:Rd d.n (.slice r p g) (.M E bz.size p es))(U:Rd d.n l (.M gz bz.size j u))(al:g<p+j)(Q:(p+j)*bz.bytes<=140737488355328)(ah:bz.bytes≠0):
  cR d ((Builtin.append_ #[w,t2] ty #[.slice r p g,l]).events P d.a #[]):=by
 have O:aZ h {d with a:=d.a.drew}:=y.same rfl;obtain⟨aA,ar,v,W⟩:=nf (P:=P) O (ai:=l) U;obtain⟨aw,X,z,ab⟩:=nf (P:=P) O (ai:=.slice r p g) V;have Y:=rg (P:=P) y U (K:=d.a.drew) a;have aL:=rg (P:=P) y V (K:=d.a.drew) a;have S:=B.run_underlying (K:=d.a);have ae:=G.run_underlying (K:=d.a);rw[ak]at S;rw[s]at ae;obtain⟨A,aB,aq,aC,aF,M,aG,aJ,aK⟩:=R.cK;have Z:p+j<=140737488355328:=i_ (uY _ (Nat.pos_of_ne_zero ah)) Q;have ad:=GF al Q;have C:¬Builtin.nextslicecap (p+j) g*A.bytes>2 ^ 48:=J;have ax:¬p+j<=g:=x;have H:¬((p+j:Nat):Int)>IntKind.i64.max:=bx;have aj:∀o,(typeInfo T).run P o=.ok A o:=λo=>by simp[typeInfo,aq]
 have L:∀o,(zeroValue T).run P o=.ok aB o:=λo=>by simp[zeroValue,typeInfo,aq,M]
 have an:(Builtin.lenOf l).run P d.a=.ok j d.a:=by rw[W];rfl
 have au:(Builtin.lenOf l).events P d.a #[]=#[]:=by rw[W];rfl
 replace v:(Builtin.firstCells bz.size j l).run P d.a.drew=.ok aA.toArray d.a.drew:=v;replace z:(Builtin.firstCells bz.size p (.slice r p g)).run P d.a.drew=.ok aw.toArray d.a.drew:=z
 intro t q;unfold Builtin.append_ at q;simp only[iF,j6,nA,aE,cn,S,ae,cM,aH,R.aU,dv,jF,cr,an,au,ax,
  H,false_and,aj,C,run_choose,Question.forced,run_askRoom,sR,Sem.events_ite,World.drew_eq,z,v,l1,cN,L,events_underlying,events_sizeOf,events_typeInfo,events_choose,events_zeroValue,aT]at q
 have ag:∀(l:Nat) (K:af) (t:ay),t∈(askRoom l).events P K #[]->t=⟨.mark .noRoom,m,i⟩:=by intro l K t ao;unfold askRoom at ao;simp_all
 rw[dp.newRow (P:=P)]at q;generalize(Go.newRow T _).run P d.a.drew=az at q;have n:t∈(Builtin.firstCells bz.size j l).events P d.a.drew ((Builtin.firstCells bz.size p (.slice r p g)).events P d.a.drew ((askRoom ((Question.appendCap (p+j) g T).cut (d.a.tape d.a.drawn (Question.appendCap (p+j) g T))*A.bytes)).events P d.a.drew #[])):=by
  cases az with
  |ok ai F=>simpa using q
  |halt ai F=>simpa using q
 rcases AD n with n|n
 .rcases AD n with n|n
  .rw[ag _ _ _ n];exact .inl a
  grind[rU]
 grind[rU]
def vO(n:en P w f)(z:f.desc=.slice T)(R:en P t2 N)(Q:N.desc=.slice T)(B:en P T bz)(G:aZ h d){cap o:Nat}{C:ab}{g:e I}(s:d.a.heap[j]?=b (.cells g.toArray C (0,0)))(O:c g=cap*bz.size){dh:Nat->e D}{A:I}(t:Rd d.n A (.M gz bz.size o dh))(y:p+o<=cap){L:Loc}(Z:L∈d.m)(W:j∈L.V)(af:∀x,p*bz.size<=x->d.n j x=k):
  cR d ((Builtin.append_ #[w,t2] ty #[.slice (b ⟨j,0,k⟩) p cap,A]).events P d.a #[]):=by
 obtain⟨l,q,aq,S⟩:=nf (P:=P) G t;have V:=rg (P:=P) G t (K:=d.a) a;have H:=n.run_underlying (K:=d.a);have u:=R.run_underlying (K:=d.a);rw[z]at H;rw[Q]at u;have U:p*bz.size+c l<=c g:=by rw[q.len,O,<-iL];exact gC _ y
 have v:=run_storeCells_at P j (p*bz.size) C l 0 g.toArray d.a s J q.cell;simp only[iK]at v;have F:(Builtin.lenOf A).run P d.a=.ok o d.a:=dX;have M:(Builtin.lenOf A).events P d.a #[]=#[]:=dX
 intro E r;unfold Builtin.append_ at r;simp only[iF,j6,nA,aE,cn,H,u,aH,B.aU,dv,jF,cr,F,M,y,cN,l1,aq,gg,cX,v,
  sR,Sem.events_ite,events_underlying,events_sizeOf,aT]at r
 rcases li l 0 g.toArray d.a _ s J q.cell E r with ad|⟨ae,Y,X,rfl⟩
 .grind [rU]
 grind[l']
end
structure h9(P:aw)(r:ah)(A cd:Z)(T:ab)(bz:bh):Prop where
 op:∃w t2 f N,r.op=.call {callee:=.builtin .append,args:=#[A,cd],argTypes:=#[w,t2]}/\en P w f/\f.desc=.slice T/\en P t2 N/\N.desc=.slice T
 elem:en P T bz
 bytes:bz.bytes≠0
 size:bz.size≠0
def aj.da(a:aj)(j:ab)(z d:e I)(f:e Loc):aj:=
 {m:=f,n:=λg h=>if g=a.a.heap.size then z[h]? else a.n g h,a:=a.a.drew.alloc (.cells (z++d).toArray j),own:=a.own}
def FL(p:aZ h d)(j:ab)(z a:e I):∀f g n,(if f=d.a.heap.size then z[g]? else d.n f g)=b n->(d.a.drew.alloc (.cells (z++a).toArray j)).cell? ⟨f,g,k⟩=b n:=by
 intro f g n l;by_cases o:f=d.a.heap.size
 .subst o;simp only[cN]at l;unfold aJ;have:(d.a.drew.alloc (.cells (z++a).toArray j)).heap[d.a.heap.size]?=b (.cells (z++a).toArray j):=kI d.a.drew _;grind
 simp only[o,cr]at l;have q:=p.block l;rw[<-p.mem f g n l];unfold aJ;have:(d.a.drew.alloc (.cells (z++a).toArray j)).heap[f]?=d.a.heap[f]?:=hY d.a.drew _ q;grind
def FM(l:aZ h d)(z:e I):∀a f g,d.n a f=b g->(if a=d.a.heap.size then z[f]? else d.n a f)=b g:=by intro a f g j;have:=l.block j;grind
theorem il{a:Sem I}(e:cR d (a.events P d.a #[])):cR d ((do pure (.value (<-a)):Sem Next).events P d.a #[]):=dX
theorem jh{e f:Z}{a:ab}(n:r.op=.call {callee:=.builtin .append,args:=#[e,f],argTypes:=#[w,a]})(d:Z->I):
  W d r=(do pure (.value (<-Builtin.append_ #[w,a] r.type #[d e,d f]))):=LP
def Rd.dU{r:Bool}{h:Nat}(q:Rd bi ai (.M r h p es)):Rd bi ai (.M m h p es):=by
 cases q with
 |M l a o j n s e d f g=>exact .M l a o j n Q e d f g
def Rd.b9{r:Bool}{q:Nat}{dh:Nat->e D}(z:∀d,d<p->es d=dh d)(x:Rd bi ai (.M r q p es)):Rd bi ai (.M r q p dh):=by
 cases x with
 |M t f v s w u y h l n=>exact .M t f v s w u (λd a=>by grind) h (λd a o g j=>l d a o g J) (λd a o g j=>n d a o g J)
def Rd.fD{o fJ:Nat}(a:o=fJ∨p=0)(e:Rd bi ai (.M i o p es)):Rd bi ai (.M i fJ p es):=by
 rcases a with rfl|rfl
 .exact e
 obtain⟨f,d,z,h,j,g,l,_⟩:=e.bx;grind[Rd.cZ]
def rT{a:Nat}{L:Loc}(ao:h[l]?=b (.q T a p es))(o:d.m[l]?=b L)(f:ek h d (.q T a p es) L):ck h d L.v (.q l a p es):=by refine⟨f.1,(cD.1 ao).1,λq j n e g=>?_⟩;grind
def aR.fI{V W:Z}{g:bh}(y:h9 P r V W T g){n Y:Nat}{dh:Nat->e D}(ak:η V=aL (.M i Y p es))(R:Y=g.size∨p=0)(ai:∀f J,bo h f J (η W)->Rd f.n J (.M gz g.size n dh))(u:(p+n)*g.bytes<=140737488355328)(ar:p=0∨0<n):
  aR P r η h (.k (.S (.q (c h) g.size (p+n) (b_ p es dh)))) (h++[.q T g.size (p+n) (b_ p es dh)]):=by
 intro f ax bc F;obtain⟨aB,aw,au,az,A,o,G,K,I⟩:=y.op;have E:=F V;rw[ak]at E;have v:=Rd.fD R (b2 E);have q:=ai f _ (F W);obtain⟨t,d,z,al,C,ay,af,an,aq⟩:=v.bx;have H:d=p:=af a;subst H;rw[jh A];rw[al]at v⊢;by_cases ag:n=0
 .subst ag;have U:=w6 (P:=P) (ty:=r.type) o G K I y.elem bc (t:=t) C q;simp only[iK];have v:=Rd.b9 (dh:=b_ d es dh) (λau o=>by grind) v;have ao:ek (h++[.q T g.size d (b_ d es dh)]) {f with m:=f.m++[⟨.slice t d d,[]⟩]} (.q T g.size d (b_ d es dh)) ⟨.slice t d d,[]⟩:=⟨v.dU,.inl ⟨⟨rfl,by omega⟩,v⟩⟩
  obtain⟨O,N⟩:=bc.bL (.refl _ _) rfl bc ao Q;refine⟨.value (.slice t d d),_,?_,?_,O,N,il (vP o G K I y.elem bc C q)⟩
  .simp[U]
  exact rT Q sn ao
 have X:d<d+n:=x;obtain⟨w,l,B,s,ad,L,ab,U⟩:=rX (P:=P) (ty:=r.type) o G K I y.elem bc v q X u y.bytes;have M:aZ h (f.da T w l f.m)/\cA h f h (f.da T w l f.m):=
  bc.cF Q (λj u=>hY f.a.drew _ u) (λj u r=>by grind)
   (λj u r J aq=>FL bc T w l j r J aq) a a a
 have ae:Rd (f.da T w l f.m).n (.slice (b ⟨f.a.heap.size,0,k⟩) (d+n) B) (.M m g.size (d+n) (b_ d es dh)):=
  Rd.dy (s.mono M.2.mem) (j:=f.a.heap.size) (off:=0) bN ad L Q (λaA aC ah=>by simpa[aj.da]using ah)
 have ao:ek (h++[.q T g.size (d+n) (b_ d es dh)]) {(f.da T w l f.m)with m:=(f.da T w l f.m).m++[⟨.slice (b ⟨f.a.heap.size,0,k⟩) (d+n) B,[f.a.heap.size]⟩]} (.q T g.size (d+n) (b_ d es dh)) ⟨.slice (b ⟨f.a.heap.size,0,k⟩) (d+n) B,[f.a.heap.size]⟩:=by
  refine⟨ae,.inr ⟨f.a.heap.size,B,w++l,a,kI f.a.drew _,ab,λr A=>?_⟩⟩;have S:c w<=r:=by rw[s.len];exact A
  simp[aj.da,u1 S]
 obtain⟨O,N⟩:=M.1.bL M.2 rfl bc ao (λj u=>by simp at u;subst u;refine⟨bE _,?_⟩;simp[aj.da]);refine⟨.value (.slice (b ⟨f.a.heap.size,0,k⟩) (d+n) B),_,?_,?_,O,N,il (rf o G K I y.elem bc v q X u y.bytes)⟩
 .simp[U];rfl
 exact rT Q (by simp[aj.da,<-bc.len]) ao
def aR.h0{aS aT:Z}{d:bh}(B:h9 P r aS aT T d){u:Nat}{n:Nat->e D}(aP:η aS=.k (.S (.q l d.size p es)))(w:h[l]?=b (.q T d.size p es))(aQ:∀q V,bo h q V (η aT)->Rd q.n V (.M gz d.size u n))(E:(p+u)*d.bytes<=140737488355328):
  aR P r η h (.k (.S (.q l d.size (p+u) (b_ p es n)))) (h.set l (.q T d.size (p+u) (b_ p es n))):=by
 intro q bg f ao;obtain⟨bk,bf,ar,bj,A,v,ad,G,s⟩:=B.op;have aM:l<c h:=(cD.1 w).1;have af:=ao aS;rw[aP]at af;obtain⟨ax,_,ag⟩:=af;obtain⟨L,N,bd⟩:=(ag _ _ _ _ w).2 rfl;have y:=aQ q _ (ao aT);have aL:l<c q.m:=(cD.1 N).1;have H:=f.box l _ L w N;obtain⟨t,g,z,U,aV,aj,bc,ah,bb⟩:=ax.bx;rw[jh A,U];rw[U]at ax;have aq:L.v=.slice t p g:=J;by_cases aG:u=0
 .subst aG;have aw:=w6 (P:=P) (ty:=r.type) v ad G s B.elem f (t:=t) aV y;simp only[iK];have ai:∀ar,ar<p->es ar=b_ p es n ar:=λar v=>by simp[b_,v]
  have R:ek (h.set l (.q T d.size p (b_ p es n))) ⟨q.m.set l L,q.n,q.a,q.own⟩ (.q T d.size p (b_ p es n)) L:=by
   refine⟨H.1.b9 ai,?_⟩;rcases H.2 with⟨M,aH⟩|M
   .exact .inl ⟨M,aH.b9 ai⟩
   grind
  have K:=f.bQ (b0:=q.n) (a5:=q.a) (dN:=.q T d.size p (b_ p es n)) (b7:=L) w N ⟨λ_=>rfl,bE _⟩ (bE _) (λ_ _ _=>rfl) (λ_ _ _ _=>rfl) (λ_ _ _ B=>B) f.mem
   (λj E=>⟨.inl E,f.lt L (bZ N) j E⟩) a a a R
  refine⟨.value (.slice t p g),_,?_,?_,K.1,K.2,il (vP v ad G s B.elem f aV y)⟩
  .simp[aw]
  rw[<-aq];exact rT (T:=T) J J R
 .have F:¬(p+u=p):=x;by_cases az:p+u<=g
  .rcases H.2 with⟨a0,aU⟩|⟨j,aF,o,rfl,hw,aC,a_⟩
   .rw[aq]at aU;obtain⟨_,_,_,ay,_,_,a7,_⟩:=aU.bx;grind
   .simp only at aq;cases aq;obtain⟨I,O,aw⟩:=w5 (P:=P) (ty:=r.type) v ad G s B.elem f hw aC y az;have a4:c I=u*d.size:=O.len;have aK:j<q.a.heap.size:=(hM.1 hw).1;let b0:Mem:=λC r=>if C=j/\p*d.size<=r/\r<(p+u)*d.size then I[r-p*d.size]? else q.n C r;have a1:c o=g*d.size:=aC;have a6:(p+u)*d.size=p*d.size+u*d.size:=iL _ _ _;have a3:(p+u)*d.size<=g*d.size:=gC _ az;have S:∀C r V,q.n C r=b V->b0 C r=b V:=J;have aO:∀aA aB,I[aA]?=b aB->b0 j (p*d.size+aA)=b aB:=J;have aE:Rd b0 (.slice (b ⟨j,0,k⟩) (p+u) g) (.M m d.size (p+u) (b_ p es n)):=by refine Rd.dy (z:=z++I) ((ah.append O).mono S) (j:=j) (off:=0) bN az aj Q (λaA aB aN=>?_);have a8:c z=p*d.size:=ah.len;grind
    have K:=f.bQ (b0:=b0) (a5:=q.a.setRow j (o.take (p*d.size)++I++o.drop (p*d.size+c I)).toArray) (dN:=.q T d.size (p+u) (b_ p es n)) (b7:=⟨.slice (b ⟨j,0,k⟩) (p+u) g,[j]⟩) w N
     ⟨λay=>absurd ay F,by omega⟩ Q (λC _ ae=>setRow_other _ _ _ _ J) (λC _ ae r=>by grind) S ?_ (λC ae=>by simp at ae;exact bx) a a a ?_
    .refine⟨.value (.slice (b ⟨j,0,k⟩) (p+u) g),_,?_,?_,K.1,K.2,il (vO v ad G s B.elem f hw aC y az (bZ N) Q a_)⟩
     .simp[aw]
     exact rT (L:=⟨.slice (b ⟨j,0,k⟩) (p+u) g,[j]⟩) (T:=T) J J (K.1.box l _ _ J J)
    .intro C r V ab;by_cases ae:C=j
     .subst ae;have a':∀a9,(q.a.setRow C (o.take (p*d.size)++I++o.drop (p*d.size+c I)).toArray).cell? ⟨C,a9,k⟩=(o.take (p*d.size)++I++o.drop (p*d.size+c I))[a9]?:=by grind[cell_setRow_same]
      rw[a'];simp only[b0]at ab;have a2:c (o.take (p*d.size))=p*d.size:=by rw[List.length_take];omega
      split at ab
      .grind
      rename_i ba;have M:=f.mem C r V ab;have A:r<p*d.size:=J;rw[mO,jE x,kw,bF A];simp only[aJ,hw]at M;grind
     simp only[b0]at ab;rw[bp x]at ab;rw[<-f.mem C r V ab];exact KI
    refine⟨aE,.inr ⟨j,g,_,a,setRow_heap _ _ _ _ _ _ hw,J,λr A=>?_⟩⟩;grind
  .have ak:g<p+u:=x;obtain⟨W,Y,au,aY,al,an,X,aw⟩:=rX (P:=P) (ty:=r.type) v ad G s B.elem f ax y ak E B.bytes;have aZ:∀j∈L.V,j<q.a.heap.size:=f.lt L (bZ N);have aE:Rd (λj r=>if j=q.a.heap.size then W[r]? else q.n j r) (.slice (b ⟨q.a.heap.size,0,k⟩) (p+u) au) (.M m d.size (p+u) (b_ p es n)):=
    Rd.dy (aY.mono (FM f W)) (j:=q.a.heap.size) (off:=0) bN al an Q (λaA aB aN=>by grind)
   have K:=f.bQ (b0:=λj r=>if j=q.a.heap.size then W[r]? else q.n j r) (a5:=q.a.drew.alloc (.cells (W++Y).toArray T)) (dN:=.q T d.size (p+u) (b_ p es n)) (b7:=⟨.slice (b ⟨q.a.heap.size,0,k⟩) (p+u) au,[q.a.heap.size]⟩) w N
    ⟨λay=>absurd ay F,by omega⟩ Q (λj E _=>hY q.a.drew _ E) (λj E _ r=>by grind) (FM f W) (FL f T W Y) (λj E=>by
     simp at E;exact bx) a a a ⟨aE,.inr ⟨q.a.heap.size,au,W++Y,a,kI q.a.drew _,X,λr A=>by
      have w:c W<=r:=by rw[aY.len];exact A
      grind⟩⟩
   refine⟨.value (.slice (b ⟨q.a.heap.size,0,k⟩) (p+u) au),_,?_,?_,K.1,K.2,il (rf v ad G s B.elem f ax y ak E B.bytes)⟩
   .simp[aw]
   exact rT (L:=⟨.slice (b ⟨q.a.heap.size,0,k⟩) (p+u) au,[q.a.heap.size]⟩) (T:=T) J J (K.1.box l _ _ J J)
def dj{a:Type}:e Nat->e a->Option (e a)
  |[],_=>b []
  |g::d,f=>match cH g f with
    |some j=>match dj d f with
      |some h=>b (j::h)
      |none=>k
    |none=>k
def ki{d:Type}:∀(a:Nat) (f:e d),cH a f=f[a]?
  |_,[]=>by simp[cH]
  |0,g::_=>by simp[cH]
  |a+1,_::O=>by simpa[cH]using ki a O
def kP{l:Type}:∀{a:e Nat} {d g:e l},dj a d=b g->c g=c a/\∀(o h:Nat),a[o]?=b h->∃j,g[o]?=b j/\d[h]?=b j
  |[],d,g,f=>by cases f;simp
  |h::a,d,g,f=>by
    simp only[dj]at f;cases p:cH h d with
    |none=>grind
    |some j=>
      cases n:dj a d with
      |none=>grind
      |some s=>
        simp[p,n]at f;subst f;obtain⟨q,r⟩:=kP n;grind[dL]
def ue{l p:Type}:∀{a:e Nat} {f j:e l} {iT:e p},dj a f=b j->c iT=c f->∃d,dj a iT=b d
  |[],f,j,iT,_,_=>⟨[],rfl⟩
  |h::a,f,j,iT,s,n=>by
    simp only[dj]at s;cases r:cH h f with
    |none=>grind
    |some u=>
      cases q:dj a f with
      |none=>grind
      |some t=>
        obtain⟨d,o⟩:=ue (iT:=iT) q n;have g:h<c iT:=by rw[n];exact(cD.1 (dL r)).1
        exact⟨iT[h]::d,by simp[dj,ki,g,o]⟩
def ju(a:e Nat):C->C
  |.ptr f l=>match cH f a with|some d=>.ptr d l|none=>.any
  |.q f d h g=>match cH f a with|some j=>.q j d h g|none=>.c (.M m d h g)
  |.aD f=>match cH f a with|some d=>.aD d|none=>.any
  |.ak f n=>match cH f a with|some d=>.ak d n|none=>.any
  |.c o=>.c o
  |.any=>.any
def o8(a:e Nat):e C->e C
  |[]=>[]
  |d::f=>ju a d::o8 a f
def n6(a:e Nat):E1->E1
  |.S f=>.S (ju a f)
  |.agg d=>.agg (o8 a d)
def rV(a:e Nat):e E1->e E1
  |[]=>[]
  |d::f=>n6 a d::rV a f
def eZ(a:e Nat):s->s
  |.k d=>.k (n6 a d)
  |.C O=>.C (rV a O)
  |.any=>.any
def fA(a:e Nat):e s->e s
  |[]=>[]
  |d::f=>eZ a d::fA a f
def t0:C->Bool
  |.c _|.any=>i
  |_=>m
def rP:e C->Bool
  |[]=>i
  |a::d=>match t0 a with|true=>rP d|false=>m
def qg:Y->Bool
  |.cells _ a=>rP a
  |.loop ..=>m
  |_=>i
def d8:e Y->Bool
  |[]=>i
  |a::d=>match qg a with|true=>d8 d|false=>m
def t1:∀{g:e Y},d8 g=i->∀a∈g,qg a=i
  |[],_,a,ao=>by grind
  |h::j,d,a,ao=>by
    simp only[d8]at d;cases f:qg h with
    |false=>grind
    |true=>
      simp only[f]at d;rcases ef.1 ao with rfl|ao
      · exact f
      · exact t1 d a ao
def bJ.plain{h g:e Y}{d au:aj}(p:au.n=d.n):∀{z:e I} {a:e C},rP a=i->bJ h d z a->bJ g au z a
  |[],[],_,_=>trivial
  |[],_::_,_,f=>f.elim
  |_::_,[],_,f=>f.elim
  |q::z,l::o,j,f=>by
    simp only[rP]at j;cases n:t0 l with
    |false=>grind
    |true=>
      simp only[n]at j;refine⟨?_,bJ.plain p j f.2⟩;cases l with
      |c r=>have:=f.1;simp only[ck]at this⊢;grind
      |any=>exact f.1
      |_=>simp[t0]at n
def ek.plain{h l:e Y}{d au:aj}(f:au.n=d.n)(j:au.a=d.a){g:Y}{L:Loc}(q:qg g=i)(a:ek h d g L):ek l au g L:=by
  cases g with
  |cells p s=>
    obtain⟨r,z,o,u,t,A⟩:=a;exact⟨r,z,o,by grind,t.plain f q,λB=>by simp_all⟩
  |q p v w n=>simp only[ek,f,j]at a⊢;exact a
  |Q H=>simp only[ek,f,j]at a⊢;exact a
  |t=>trivial
  |loop y x C=>simp[qg]at q
  |a2=>simp only[ek,f,j]at a⊢;exact a
  |A p v w n=>simp only[ek,f,j]at a⊢;exact a
def eW:Nat->e Nat->Bool
  |_,[]=>m
  |a,f::d=>match aa a f with|true=>i|false=>eW a d
def eX:e Nat->Bool
  |[]=>i
  |d::a=>match eW d a with|true=>m|false=>eX a
theorem wv:∀{a:Nat} {f:e Nat},a∈f->eW a f=i
  |a,[],d=>by grind
  |a,g::j,d=>by
    simp only[eW];cases h:aa a g with
    |true=>rfl
    |false=>
      rcases ef.1 d with rfl|d
      · grind[Nat.beq_refl]
      · exact wv d
def GI:∀{j:e Nat},eX j=i->∀(d f g:Nat),j[d]?=b g->j[f]?=b g->d=f
  |[],_,d,f,g,a,_=>by grind
  |p::o,h,d,f,g,a,l=>by
    simp only[eX]at h;cases q:eW p o with
    |true=>grind
    |false=>
      simp only[q]at h;have s:∀n,o[n]?=b p->False:=λn r=>by have:=wv (bZ r);grind
      cases d with
      |zero=>
        grind
      |succ d=>
        cases f with
        |zero=>
          grind
        |succ f=>
          simp at a l;rw[GI h d f g a l]
def jP(a:Nat):C->Bool
  |.ptr l _|.q l _ _ _|.aD l|.ak l _=>aD (l+1) a
  |_=>i
def jk(a:Nat):e C->Bool
  |[]=>i
  |d::f=>match jP a d with|true=>jk a f|false=>m
def nW(d:Nat):E1->Bool
  |.S e=>jP d e
  |.agg a=>jk d a
def m4(a:Nat):e E1->Bool
  |[]=>i
  |d::f=>match nW a d with|true=>m4 a f|false=>m
def g6(a:Nat):s->Bool
  |.k d=>nW a d
  |.C O=>m4 a O
  |.any=>i
def gv(a:Nat):e s->Bool
  |[]=>i
  |d::f=>match g6 a d with|true=>gv a f|false=>m
section sub
variable {jz:e Loc}
def ck.sub(Q:dj bb h=b aO)(R:dj bb d.m=b jz){o:C}(N:ck h d ai (ju bb o))(p:jP (c bb) o=i):ck aO {d with m:=jz} ai o:=by
  obtain⟨U,r⟩:=kP Q;obtain⟨D,q⟩:=kP R;cases o with
  |c t=>exact N
  |any=>exact N
  |ptr g S=>
    have a:g<c bb:=e' p;simp only[ju,ki,bu a]at N;obtain⟨e,L,F,f,j,y⟩:=N;obtain⟨t,s,z⟩:=r g _ (bu a);obtain⟨A,n,l⟩:=q g _ (bu a);rw[l]at f;cases f;exact⟨λu x=>e u J,L,F,n,j,y⟩
  |q g I M v=>
    have a:g<c bb:=e' p;simp only[ju,ki,bu a]at N;obtain⟨e,f,j⟩:=N;obtain⟨t,s,z⟩:=r g _ (bu a);obtain⟨A,n,l⟩:=q g _ (bu a);refine⟨e,by grind,λE K O B x=>?_⟩;grind
  |aD g=>
    have a:g<c bb:=e' p;simp only[ju,ki,bu a]at N;obtain⟨e,L,f,j,y⟩:=N;obtain⟨t,s,z⟩:=r g _ (bu a);obtain⟨A,n,l⟩:=q g _ (bu a);rw[l]at f;cases f;exact⟨λu x=>e u J,L,n,j,y⟩
  |ak g T=>
    have a:g<c bb:=e' p;simp only[ju,ki,bu a]at N;obtain⟨w,e,f,j⟩:=N;obtain⟨t,s,z⟩:=r g _ (bu a);obtain⟨A,n,l⟩:=q g _ (bu a);refine⟨w,e,(cD.1 s).1,λE I M v x=>?_⟩;grind
def ck.cg{iD:e Y}{cv:aj}(N:cv.n=d.n)(v:∀(t:Nat) (u:Y),h[t]?=b u->∃j,bb[t]?=b j/\iD[j]?=b u)(E:∀(t:Nat) (L:Loc),d.m[t]?=b L->∃j,bb[t]?=b j/\cv.m[j]?=b L)(R:c d.m=c h){w:C}(p:ck h d ai w):ck iD cv ai (ju bb w):=by
  cases w with
  |c T=>simp only[ju,ck,N];exact p
  |any=>exact p
  |ptr f Q=>
    obtain⟨g,L,I,a,s,D⟩:=p;obtain⟨j,k1,x⟩:=E f L a;have l:f<c h:=J;obtain⟨n,q,M⟩:=v f _ (bu l);rw[k1]at q;cases q;simp only[ju,ki,k1];refine⟨λu B=>?_,L,I,x,s,D⟩;grind
  |q f j O K=>
    obtain⟨g,a,s⟩:=p;obtain⟨k1,z,o⟩:=v f _ (bu a);simp only[ju,ki,z];refine⟨by grind,(cD.1 o).1,λF n A r B=>?_⟩;grind
  |aD f=>
    obtain⟨g,L,a,s,D⟩:=p;obtain⟨j,k1,x⟩:=E f L a;have l:f<c h:=J;obtain⟨n,q,M⟩:=v f _ (bu l);rw[k1]at q;cases q;simp only[ju,ki,k1];refine⟨λu B=>?_,L,x,s,D⟩;grind
  |ak f S=>
    obtain⟨y,g,a,s⟩:=p;obtain⟨k1,z,o⟩:=v f _ (bu a);simp only[ju,ki,z];refine⟨y,g,(cD.1 o).1,λF n A r B=>?_⟩;grind
def bJ.sub(g:dj bb h=b aO)(j:dj bb d.m=b jz):∀{z:e I} {a:e C},bJ h d z (o8 bb a)->jk (c bb) a=i->bJ aO {d with m:=jz} z a
  |[],[],_,_=>trivial
  |[],_::_,f,_=>f.elim
  |_::_,[],f,_=>f.elim
  |p::z,n::o,f,N=>by
    simp only[jk]at N;cases l:jP (c bb) n with
    |false=>grind
    |true=>simp only[l]at N;exact⟨f.1.sub g j l,bJ.sub g j f.2 N⟩
def eh.sub(g:dj bb h=b aO)(j:dj bb d.m=b jz){n:I}{a:E1}(l:eh h d n (n6 bb a))(N:nW (c bb) a=i):eh aO {d with m:=jz} n a:=by
  cases a with
  |S p=>exact ck.sub g j l N
  |agg o=>obtain⟨z,e,f⟩:=l;exact⟨z,e,f.sub g j N⟩
def eJ.sub(f:dj bb h=b aO)(g:dj bb d.m=b jz):∀{z:e I} {O:e E1},eJ h d z (rV bb O)->m4 (c bb) O=i->eJ aO {d with m:=jz} z O
  |[],[],_,_=>trivial
  |[],_::_,a,_=>a.elim
  |_::_,[],a,_=>a.elim
  |o::z,l::n,a,N=>by
    simp only[m4]at N;cases j:nW (c bb) l with
    |false=>grind
    |true=>simp only[j]at N;exact⟨a.1.sub f g j,eJ.sub f g a.2 N⟩
def bo.sub(f:dj bb h=b aO)(g:dj bb d.m=b jz){n:I}{N:s}(l:bo h d n (eZ bb N))(j:g6 (c bb) N=i):bo aO {d with m:=jz} n N:=by
  cases N with
  |k o=>exact eh.sub f g l j
  |C O=>obtain⟨z,a,e⟩:=l;exact⟨z,a,e.sub f g j⟩
  |any=>trivial
def bW.sub(g:dj bb h=b aO)(j:dj bb d.m=b jz):∀{z:e I} {a:e s},bW h d z (fA bb a)->gv (c bb) a=i->bW aO {d with m:=jz} z a
  |[],[],_,_=>trivial
  |[],_::_,f,_=>f.elim
  |_::_,[],f,_=>f.elim
  |p::z,n::o,f,N=>by
    simp only[gv]at N;cases l:g6 (c bb) n with
    |false=>grind
    |true=>simp only[l]at N;exact⟨f.1.sub g j l,bW.sub g j f.2 N⟩
variable {iD:e Y}{cv:aj}
def bJ.cg(q:cv.n=d.n)(p:∀(g:Nat) (l:Y),h[g]?=b l->∃j,bb[g]?=b j/\iD[j]?=b l)(o:∀(g:Nat) (L:Loc),d.m[g]?=b L->∃j,bb[g]?=b j/\cv.m[j]?=b L)(n:c d.m=c h):
    ∀{z:e I} {f:e C},bJ h d z f->bJ iD cv z (o8 bb f)
  |[],[],_=>trivial
  |[],_::_,a=>a.elim
  |_::_,[],a=>a.elim
  |_::_,_::_,a=>⟨a.1.cg q p o n,bJ.cg q p o n a.2⟩
def eh.cg(q:cv.n=d.n)(p:∀(a:Nat) (l:Y),h[a]?=b l->∃e,bb[a]?=b e/\iD[e]?=b l)(o:∀(a:Nat) (L:Loc),d.m[a]?=b L->∃e,bb[a]?=b e/\cv.m[e]?=b L)(n:c d.m=c h){s:I}{j:E1}(r:eh h d s j):eh iD cv s (n6 bb j):=by
  cases j with
  |S u=>exact ck.cg q p o n r
  |agg t=>obtain⟨z,f,g⟩:=r;exact⟨z,f,g.cg q p o n⟩
def eJ.cg(p:cv.n=d.n)(o:∀(f:Nat) (j:Y),h[f]?=b j->∃g,bb[f]?=b g/\iD[g]?=b j)(n:∀(f:Nat) (L:Loc),d.m[f]?=b L->∃g,bb[f]?=b g/\cv.m[g]?=b L)(l:c d.m=c h):
    ∀{z:e I} {O:e E1},eJ h d z O->eJ iD cv z (rV bb O)
  |[],[],_=>trivial
  |[],_::_,a=>a.elim
  |_::_,[],a=>a.elim
  |_::_,_::_,a=>⟨a.1.cg p o n l,eJ.cg p o n l a.2⟩
def bo.cg(q:cv.n=d.n)(p:∀(a:Nat) (l:Y),h[a]?=b l->∃e,bb[a]?=b e/\iD[e]?=b l)(o:∀(a:Nat) (L:Loc),d.m[a]?=b L->∃e,bb[a]?=b e/\cv.m[e]?=b L)(n:c d.m=c h){t:I}{f:s}(r:bo h d t f):bo iD cv t (eZ bb f):=by
  cases f with
  |k u=>exact eh.cg q p o n r
  |C O=>obtain⟨z,g,j⟩:=r;exact⟨z,g,j.cg q p o n⟩
  |any=>trivial
end sub
def cZ.b2{a:Type}:Nat->a->e a->e a
  |_,_,[]=>[]
  |0,f,_::d=>f::d
  |g+1,f,h::d=>h::cZ.b2 g f d
def cZ{a:Type}:e Nat->e a->e a->e a
  |[],new,old=>old++new
  |f::d,g::new,old=>cZ d new (cZ.b2 f g old)
  |_::_,[],old=>old
theorem lB{d:Type}:∀(f:Nat) (a:d) (g:e d),cZ.b2 f a g=g.set f a
  |_,_,[]=>by simp[cZ.b2]
  |0,a,_::h=>by simp[cZ.b2]
  |f+1,a,j::h=>by simp[cZ.b2,lB f a h]
def A7{h:Type}:∀{bb:e Nat} {new old:e h},eX bb=i->(∀a∈bb,a<c old)->c bb<=c new ->
    c (cZ bb new old)=c old+(c new-c bb)/\(∀(d a:Nat),bb[d]?=b a->(cZ bb new old)[a]?=new[d]?) /\
    (∀d,(cZ bb new old)[c old+d]?=new[c bb+d]?)/\(∀f,f<c old->f∉bb->(cZ bb new old)[f]?=old[f]?)
  |[],new,old,_,_,_=>by
    refine⟨by simp[cZ],by simp,λd=>?_,λf n _=>?_⟩
    · simp only[cZ,gX,cX]
      grind
    · simp[cZ,jE n]
  |a::bb,[],old,_,_,p=>by grind
  |a::bb,s::new,old,g,l,u=>by
    have t:=g;simp only[eX]at g;cases o:eW a bb with
    |true=>grind
    |false=>
      simp only[o]at g;have q:a<c old:=l a Q;have v:a∉bb:=λp=>by grind[wv]
      obtain⟨y,w,z,x⟩:=A7 (bb:=bb) (new:=new) (old:=old.set a s) g (λr j=>by grind) J;simp only[cZ,lB];grind
def ad(o:al P)(l:ar)(args:e s)(j:e Y)(g:s)(d:e Y):Prop:=
  (∃fn,P.funcs[l]?=b fn/\(fn.name== "runtime.NumGoroutine")=m/\fn.body.isNone=m) /\
  ∀h (z:e I),bW j h z args->aZ j h->∀(n:ae->aj->Prop) (f:e az),
    (∀p q a,kX P l p q a->bo d a q g->aZ d a->c6 j h d a->cf o n (G p f) a)->cf o n (G (Frame.enter P l z.toArray .normal) f) h
def bG(p:al P)(n:ar)(args:e s)(l:e Y)(g:ι->s)(d:ι->e Y):Prop:=
  (∃fn,P.funcs[n]?=b fn/\(fn.name== "runtime.NumGoroutine")=m/\fn.body.isNone=m) /\
  ∀j (z:e I),bW l j z args->aZ l j->∀(o:ae->aj->Prop) (f:e az),
    (∀h q r a,kX P n q r a->bo (d h) a r (g h)->aZ (d h) a->c6 l j (d h) a->cf p o (G q f) a)->cf p o (G (Frame.enter P n z.toArray .normal) f) j
def ad.tocm{l:al P}{n:ar}{args:e s}{a:s}(o:ad l n args h a aO):bG (ι:=Unit) l n args h (λ_=>a) (λ_=>aO):=
  ⟨o.1,λq z j g p d f=>o.2 q z j g p d (f ())⟩
def bG.toad{l:al P}{n:ar}{args:e s}{a:s}(o:bG (ι:=Unit) l n args h (λ_=>a) (λ_=>aO)):ad l n args h a aO:=
  ⟨o.1,λq z j g p d f=>o.2 q z j g p d (λ_=>f)⟩
def mn(d:aj)(f:e Loc):Nat->Prop:=λa=>d.own a∨((∃L∈d.m,a∈L.V)/\∀L∈f,a∉L.V)
def gk(a:Nat):Nat->e Nat
  |0=>[]
  |d+1=>a::gk (a+1) d
def IS:∀(e d a:Nat),(gk d e)[a]?=if a<e then b (d+a)else k
  |0,d,a=>by simp[gk]
  |e+1,d,0=>by simp[gk]
  |e+1,d,a+1=>by simp only[gk,nA,IS e (d+1) a,Nat.add_lt_add_iff_right];grind
def frame{g:e Y}{p:aj}{S:e Loc}(z:aZ h d)(P:dj bb h=b dq)(a4:dj bb d.m=b S)(ag:eX bb=i)(aK:d8 g=i)(M:aZ g p)(o:c6 dq {d with m:=S,own:=mn d S} g p)(ae:c bb<=g.length){O:s}(aL:bo g p ai O):
    ∃cv:aj,cv.a=p.a/\bo (cZ bb g h) cv ai (eZ (bb++gk (c h) (g.length-c bb)) O)/\aZ (cZ bb g h) cv/\c6 h d (cZ bb g h) cv/\cv.n=p.n/\cv.own=d.own/\∀L∈cv.m,L∈p.m∨(L∈d.m/\∀n∈L.V,∀t∈S,n∉t.V):=by
  have aY:∀F∈bb,F<c h:=by intro F E;obtain⟨j,y,rfl⟩:=ft E;obtain⟨aN,_,a6⟩:=(kP P).2 j _ (bu y);grind
  have D:∀F∈bb,F<c d.m:=by rw[z.len];omega
  have H:c bb<=c p.m:=by rw[M.len];omega
  obtain⟨az,aA,W,aB⟩:=A7 (new:=g) (old:=h) ag aY ae;obtain⟨X,aC,Z,aE⟩:=A7 (new:=p.m) (old:=d.m) ag D H;obtain⟨a5,aF⟩:=kP P;obtain⟨d1,d2⟩:=kP a4;let ax:=bb++gk (c h) (g.length-c bb);have a0:∀j,j<g.length->∃F,ax[j]?=b F/\(cZ bb g h)[F]?=g[j]?/\(cZ bb p.m d.m)[F]?=p.m[j]?:=by
    intro j y;rcases dJ j (c bb) with T|aw
    · refine⟨bb[j],?_,aA j _ (bu T),aC j _ (bu T)⟩
      grind
    · refine⟨c h+(j-c bb),?_,?_,?_⟩
      · simp only[ax]
        rw[gK aw,IS,bF x]
      · rw[W];grind
      · rw[<-z.len,Z];grind
  have Q:∀l L,(cZ bb p.m d.m)[l]?=b L->(∃j,j<g.length/\p.m[j]?=b L/\(∀A,(cZ bb g h)[l]?=b A->g[j]?=b A)/\(∀F,bb[j]?=b F->F=l)/\(j≥c bb->l=c h+(j-c bb))) ∨
      (l<c h/\l∉bb/\d.m[l]?=b L/\(cZ bb g h)[l]?=h[l]?):=by
    intro l L q;have a1:l<c (cZ bb p.m d.m):=(cD.1 q).1;rcases dJ l (c h) with T|aw
    · by_cases K:l∈bb
      · obtain⟨j,y,rfl⟩:=ft K
        have E:=bu y;grind
      · exact .inr ⟨T,K,by rw[<-aE l (by rw[z.len];omega) K];exact q,aB l T K⟩
    · rw[X,M.len,z.len]at a1
      refine .inl ⟨c bb+(l-c h),by omega,?_,λA ao=>?_,λF E=>?_,λ_=>by omega⟩
      · rw[<-Z,z.len,yj aw];exact q
      · rw[<-W,yj aw];exact ao
      grind
  have C:∀L∈S,L∈d.m:=by intro L q;obtain⟨j,y,rfl⟩:=ft q;have al:j<c bb:=J;obtain⟨aN,aq,V⟩:=d2 j _ (bu al);grind
  have w:∀l L,l∉bb->d.m[l]?=b L->∀n∈L.V,n<d.a.heap.size/\∀t∈S,n∉t.V:=by intro l L N q n r;refine⟨z.lt L (bZ q) n r,λt u v=>?_⟩;obtain⟨j,y,rfl⟩:=ft u;have al:j<c bb:=J;obtain⟨aN,aq,V⟩:=d2 j _ (bu al);rw[bu y]at aq;cases aq;have:=z.aL l bb[j] L _ q V n r v;grind
  have ah:∀n,n<d.a.heap.size->(∀L∈d.m,n∉L.V)->∀L∈S,n∉L.V:=λn _ ar L q=>ar L (C L q);have ab:ey h d (cZ bb g h) ⟨cZ bb p.m d.m,p.n,p.a,d.own⟩:=by
    refine⟨o.mem,λl A L ao q=>?_⟩;have T:l<c h:=(cD.1 ao).1;by_cases K:l∈bb
    · obtain⟨j,y,rfl⟩:=ft K
      have E:=bu y;obtain⟨aN,aq,V⟩:=aF j _ E;obtain⟨ba,aO,ak⟩:=d2 j _ E;rw[ao]at V;cases V;rw[q]at ak;cases ak;obtain⟨aV,t,a9,a_,h2⟩:=o.box j A L aq aO;grind
    · exact⟨A,L,by grind,by grind,.refl _ _⟩
  refine⟨⟨cZ bb p.m d.m,p.n,p.a,d.own⟩,a,?_,⟨M.mem,?_,?_,?_,?_,?_⟩,⟨o.size,?_,o.mem,?_,?_,ab.box,o.os,o.tape,o.output,a⟩,a,a,?_⟩
  · refine bo.cg (d:=p) (cv:=⟨cZ bb p.m d.m,p.n,p.a,d.own⟩) (iD:=cZ bb g h) (bb:=ax) a (λj A ao=>?_) (λj L q=>?_) M.len aL
    · grind
    · obtain⟨F,k1,_,a7⟩:=a0 j (by rw[<-M.len];grind)
      grind
  · simp only;rw[az,X,M.len,z.len]
  · intro l A L ao q
    rcases Q l L q with⟨j,y,I,B,_⟩|⟨N,K,u,a2⟩
    · exact ek.plain (h:=g) (d:=p) (au:=⟨cZ bb p.m d.m,p.n,p.a,d.own⟩) a a (t1 aK A (bZ (B A ao))) (M.box j A L (B A ao) I)
    · rw[a2]at ao
      refine(z.box l A L ao u).bU ab z.len λn r=>?_;obtain⟨ay,an⟩:=w l L K u n r;exact⟨o.aG n (.inr ⟨⟨L,bZ u,r⟩,an⟩),o.ba n ay an⟩
  · intro l R L t q u n r v
    rcases Q l L q with⟨j,y,I,_,aS,aT⟩|⟨N,K,f,_⟩<;>rcases Q R t u with⟨aM,al,aP,_,aG,aH⟩|⟨aU,af,G,_⟩
    · have a':=M.aL j aM L t I aP n r v
      grind
    · obtain⟨ay,an⟩:=w R t af G n v
      rcases o.bp L (bZ I) n r with ar|⟨U,ad,aR⟩
      · grind
      grind
    · obtain⟨ay,an⟩:=w l L K f n r
      rcases o.bp t (bZ aP) n v with ar|⟨U,ad,aR⟩
      · grind
      grind
    · exact z.aL l R L t f G n r v
  · intro L q n r
    obtain⟨l,N,rfl⟩:=ft q;rcases Q l _ (bu N)with⟨j,y,I,_⟩|⟨_,_,f,_⟩
    · exact M.lt _ (bZ I) n r
    · have:=z.lt _ (bZ f) n r
      have:=o.size;grind
  · intro n r
    refine⟨?_,λL q aQ=>?_⟩
    · have:=(z.own n r).1
      have:=o.size;grind
    · obtain⟨l,N,rfl⟩:=ft q
      rcases Q l _ (bu N)with⟨j,y,I,_⟩|⟨_,_,f,_⟩
      · have aJ:p.own n:=by rw[o.own];exact .inl r
        exact(M.own n aJ).2 _ (bZ I) aQ
      · exact(z.own n r).2 _ (bZ f) aQ
  · intro n r
    exact o.aG n (.inl r)
  · intro n r a3 a8
    exact o.ba n r (ah n r a3) a8
  · intro L q n r
    obtain⟨l,N,rfl⟩:=ft q;rcases Q l _ (bu N)with⟨j,y,I,_⟩|⟨_,_,f,_⟩
    · rcases o.bp _ (bZ I) n r with ar|⟨U,ad,aR⟩
      · grind
      grind
    grind
  · intro L q
    obtain⟨l,N,rfl⟩:=ft q;rcases Q l _ (bu N)with⟨j,y,I,_⟩|⟨_,K,f,_⟩
    · grind
    grind
def g4:s->Option (ar×e D)
 |.k (.S (.c (.fn (.func d) [] a)))=>b (d,a)
 |_=>k
theorem nq{d:e Y}{j:aj}{f:Z->I}{a:Z->s}(g:∀l,bo d j (f l) (a l)):∀h:e Z,bW d j (h.map f) (h.map a)
 |[]=>trivial
 |o::n=>⟨g o,nq g n⟩
def bW.append{h:e Y}{j:aj}:∀{z f:e I}{g a:e s},bW h j z g->bW h j f a->bW h j (z++f) (g++a)
 |[],_,[],_,_,d=>d
 |[],_,_::_,_,d,_=>d.elim
 |_::_,_,[],_,d,_=>d.elim
 |_::_,_,_::_,_,d,l=>⟨d.1,bW.append d.2 l⟩
def y':C->C
 |.q _ d e a=>.c (.M m d e a)
 |.c (.M _ d e a)=>.c (.M m d e a)
 |f=>f
def D2{e:C}(a:ck h d ai e):ck h d ai (y' e):=by
 cases e with
 |q l j n f=>exact a.1
 |c g=>cases g<;>first|exact a|exact Rd.dU a
 |_=>exact a
def za:e C->e C
 |[]=>[]
 |a::d=>y' a::za d
def D4{f:e Y}{g:aj}:∀{z:e I}{d:e C},bJ f g z d->bJ f g z (za d)
 |[],[],_=>trivial
 |[],_::_,a=>a.elim
 |_::_,[],a=>a.elim
 |_::_,_::_,a=>⟨D2 a.1,D4 a.2⟩
def D3:s->s
 |.k (.S d)=>.k (.S (y' d))
 |.k (.agg a)=>.k (.agg (za a))
 |e=>e
def Nd{a:s}(e:bo h d ai a):bo h d ai (D3 a):=by
 cases a with
 |k l=>cases l with
  |S n=>exact D2 e
  |agg j=>obtain⟨z,f,g⟩:=e;exact⟨z,f,D4 g⟩
 |C O=>exact e
 |any=>trivial
def j':e s->e s
 |[]=>[]
 |a::d=>D3 a::j' d
theorem tc{h:e Y}{d:aj}:∀{z:e I}{f:e s},bW h d z f->bW h d z (j' f)
 |[],[],_=>trivial
 |[],_::_,a=>a.elim
 |_::_,[],a=>a.elim
 |_::_,_::_,a=>⟨Nd a.1,tc a.2⟩
def fm:e D->e s
 |[]=>[]
 |a::d=>aL a::fm d
theorem q0{n:e Y}{l:aj}:∀{z:e I}{a:e D},(∀(g:Nat)(d:D),a[g]?=b d->∃h,z[g]?=b h/\Rd l.n h d)->c z=c a->bW n l z (fm a)
 |[],[],_,_=>trivial
 |[],_::_,_,f=>by grind
 |_::_,[],_,f=>by grind
 |h::z,d::a,f,q=>by obtain⟨r,j,o⟩:=f 0 d rfl;simp at j;subst j;exact⟨o,q0 (λg d p=>by simpa using f (g+1) d J) J⟩
def Bm{a d:e α}(j:dj bb a=b d):∀f∈d,f∈a:=by intro f h;obtain⟨o,g⟩:=kP j;obtain⟨l,n,rfl⟩:=ft h;obtain⟨r,p,q⟩:=g l _ (bu x);grind
def aZ.sub{p:e Loc}(l:aZ h d)(D:dj bb h=b dq)(x:dj bb d.m=b p)(K:d8 dq=i)(O:eX bb=i):
  aZ dq {d with m:=p,own:=mn d p}/\eg d {d with m:=p,own:=mn d p}:=by
 obtain⟨B,t⟩:=kP D;obtain⟨d1,d2⟩:=kP x;have N:∀L∈p,L∈d.m:=Bm x;refine⟨⟨l.mem,by grind,?_,?_,?_,?_⟩,⟨a,λ_ _ _ C=>C,λ_ _ _=>rfl,l.mem,?_⟩⟩
 .intro y w L ao g;have n:y<c bb:=J;obtain⟨S,A,M⟩:=t y _ (bu n);obtain⟨Q,r,v⟩:=d2 y _ (bu n);rw[ao]at A;cases A;simp only at g;rw[g]at r;cases r;exact ek.plain (h:=h) (d:=d) (au:={d with m:=p,own:=mn d p}) rfl rfl (t1 K w (bZ ao)) (l.box _ w L M v)
 .intro y f L s g q j u E;simp only at g q;have n:y<c bb:=J;have F:f<c bb:=J;obtain⟨Q,r,v⟩:=d2 y _ (bu n);obtain⟨R,z,I⟩:=d2 f _ (bu F);rw[g]at r;cases r;rw[q]at z;cases z;have:=l.aL _ _ L s v I j u E;exact GI O y f bb[y] (bu n) J
 .intro L g j u;exact l.lt _ (N L g) j u
 .rintro j (u|⟨⟨L,g,u⟩,o⟩)
  .exact⟨(l.own j u).1,λL g=>(l.own j u).2 L (N L g)⟩
  exact⟨l.lt L g j u,o⟩
 rintro j ((u|⟨⟨L,g,u⟩,_⟩)|⟨L,g,u⟩)
 .grind
 .grind
 grind
def eg.cR{l:e Y}{g a:aj}{p:e Loc}(x:aZ h d)(r:aZ l g)(n:c6 dq {d with m:=p,own:=mn d p} l g)(w:a.a=g.a)(t:a.n=g.n)(y:a.own=d.own)(v:∀L∈a.m,L∈g.m∨(L∈d.m/\∀f∈L.V,∀o∈p,f∉o.V)):eg g a:=by
 refine⟨w,λf s u j=>by grind,λf _ s=>by rw[t],λf s u j=>by rw[t]at j;exact r.mem f s u j,?_⟩;rintro f (q|⟨L,A,q⟩)
 .left;rw[n.own];exact .inl J
 rcases v L A with j|⟨j,z⟩
 .grind
 left;rw[n.own];exact .inr ⟨⟨L,j,q⟩,z f q⟩
def yt{B:al P}{j:az}{o:e Item}{t:Act}{g:e Nat}{Y:ar}(N:j.kind≠.early)(x:aP[f]?=b r)(R:aS r (yielded aP t.tmps)=i)(V:aZ h d)(aH:∀F,(W t.eval r).run P F=.ok (.enter Y z.toArray) F)(C:∀F,(W t.eval r).events P F #[]=#[])(ai:bG B Y dg dq res a6)(aB:bW h d z (fA bb dg))(aq:gv (c bb) dg=i)(E:dj bb h=b dq)(Q:d8 dq=i)(ae:∀l,d8 (a6 l)=i)(X:eX bb=i)(ax:∀l,c bb<=c (a6 l))(K:∀l A au,bo (cZ bb (a6 l) h) au A (eZ (bb++gk (c h) (c (a6 l)-c bb)) (res l))->aZ (cZ bb (a6 l) h) au->c6 h d (cZ bb (a6 l) h) au->cf B bg (G (j.i (t.put r.dst A) (.inRegion aP g::o)) aY) au):
  cf B bg (G (j.i t (.inRegion aP (f::g)::o)) aY) d:=by
 obtain⟨_,aF⟩:=ai;refine .next a λp an=>?_;have J:=B.bt an;have v:=V.rely J;obtain⟨w,S⟩:=ue (iT:=p.m) E v.len;obtain⟨s,aw⟩:=v.sub E S Q X;have aA:bW h p z (fA bb dg):=aB.mono J.aH.ext V.len;have D:bW dq {p with m:=w,own:=mn p w} z dg:=(aA.sub (d:=p) E S aq).mono (h:=dq) (d:={p with m:=w}) (aO:=dq) (au:={p with m:=w,own:=mn p w}) ⟨λ_ _ _ K=>K,λaJ ad L ao M=>⟨ad,L,ao,M,.refl _ _⟩⟩ s.len;refine⟨_,p,_,uf x R N (aH p.a),?_,.aK aw (aF _ z D s bg _ λl ay A aC O q n y=>?_)⟩
 .refine⟨⟨h,h,v,v,.refl _ _⟩,cR.seen ?_⟩;rw[C];exact .nil
 refine vh (aY:=aY) (u:=j.i t (.inRegion aP (f::g)::o)) n O λaE T=>?_;have ab:=n.rely T;have Z:=y.trans T.aH;obtain⟨U,ag,af,ak,H,ah,aj,aG⟩:=frame v E S X (ae l) ab Z (ax l) (q.mono T.aH.ext n.len);refine .aK (eg.cR v ab Z ag ah aj aG) ?_;have I:=p1 (j:=j) (t:=t) (o:=o) aP f g A;rw[x]at I;simp only[nC]at I;rw[I];exact K l A U af ak (J.aH.trans H)
def MJ{p:al P}{q:az}{v:e Item}{n:Act}{g:e Nat}{a:e Y}{u:ar}{l:s}(N:q.kind≠.early)(t:aP[f]?=b r)(J:aS r (yielded aP n.tmps)=i)(M:aZ h d)(A:∀o,(W n.eval r).run P o=.ok (.enter u z.toArray) o)(y:∀o,(W n.eval r).events P o #[]=#[])(I:ad p u dg dq l a)(x:bW h d z (fA bb dg))(D:gv (c bb) dg=i)(E:dj bb h=b dq)(K:d8 dq=i)(B:d8 a=i)(O:eX bb=i)(F:c bb<=a.length)(C:∀w j,bo (cZ bb a h) j w (eZ (bb++gk (c h) (a.length-c bb)) l)->aZ (cZ bb a h) j->c6 h d (cZ bb a h) j->cf p bg (G (q.i (n.put r.dst w) (.inRegion aP g::v)) aY) j):
  cf p bg (G (q.i n (.inRegion aP (f::g)::v)) aY) d:=
 yt N t J M A y I.tocm x D E K (λ_=>B) O (λ_=>F) (λ_=>C)
theorem o9{O:Array Z}(f:r.op=.call {callee:=.value dC,args:=O,argTypes:=dK}){g:ar}{fn:Func}(n:P.funcs[g]?=b fn)(s:(fn.name== "runtime.NumGoroutine")=m)(q:fn.body.isNone=m){d:Act}{a:e I}(o:d.eval dC=.func (.func g) #[] a.toArray)(h:af):
  (W d.eval r).run P h=.ok (.enter g (O.toList.map d.eval++a).toArray) h/\(W d.eval r).events P h #[]=#[]:=by
 have p:(O.map d.eval++a.toArray)=(O.toList.map d.eval++a).toArray:=J;have l:fn.name≠ "runtime.NumGoroutine":=J;have j:fn.body≠k:=J;constructor
 .simp[W,f,resolve,o,Deferred.ofValue,invoke,callFunc,n,l,j,p]
 simp[W,f,resolve,o,Deferred.ofValue,invoke,callFunc,n,l,j]
def e1.eI{A:al P}{aq:bd->e Y->Prop}{O:Array Z}(H:∀h l o,bQ B h l F o->aS r (yielded all.toArray o.tmps)=i)(v:r.op=.call {callee:=.value dC,args:=O,argTypes:=dK}){ag:ar}(y:g4 (bA F dC)=b (ag,cap))(d:e Nat)(ak:bG A ag dg dq res a6)(aL:∀l z,bW h l z (O.toList.map (bA F)++fm cap)->bW h l z (fA d dg))(D:gv (c d) dg=i)(s:dj d h=b dq)(ay:d8 dq=i)(C:∀f,d8 (a6 f)=i)(az:eX d=i)(aw:∀f,c d<=c (a6 f))(K:Option Nat)(G:r.dst=K)(aB:∀x,K=b x->x<B)(aK:∀f,e1 A B all bw aq (fy K (eZ (d++gk (c h) (c (a6 f)-c d)) (res f)) F) (cZ d (a6 f) h)):e1 A B all (r::bw) aq F h:=by
 subst G;intro l o p j aE X I aC idx q a S;cases idx with
 |nil=>exact a.elim
 |cons aR idx=>
 obtain⟨T,a⟩:=a;have an:=eO p dC;unfold g4 at y;split at y
 case h_2=>cases y
 case h_1 rj zb he=>
  cases y;rw[he]at an;have ai:=b2 an;generalize af:o.eval dC=aH at ai;cases ai with
  |fn N g V u aG M aJ Q aO ab=>
   have au:N=[]:=j5 V;subst au;have aM:bW h l g (fm cap):=q0 (λf aF U=>⟨M f,Q f J,ab f aF U⟩) u;have aP:bW h l (O.toList.map o.eval++g) (fA d dg):=by exact aL _ _ ((nq (eO p) O.toList).append aM)
   obtain⟨fn,ao,aj,ah⟩:=ak.1;refine yt q T (H _ _ _ p) j (λae=>(o9 v ao aj ah af ae).1) (λae=>(o9 v ao aj ah af ae).2) ak aP D s ay C az aw λf aT ad W t n=>?_;refine aK f ad _ ?_ t aE X I aC idx q a λax L aA E aN f3 R w=>S ax L aA E aN f3 R (n.trans w);cases aQ:r.dst with
   |none=>exact p.mono n j.len
   |some x=>exact(p.mono n j.len).put (aB x aQ) W
def e1.gD{g:al P}{aq:bd->e Y->Prop}{O:Array Z}(D:∀h o l,bQ B h o F l->aS r (yielded all.toArray l.tmps)=i)(j:r.op=.call {callee:=.value dC,args:=O,argTypes:=dK}){n:ar}(A:g4 (bA F dC)=b (n,cap))(a:e Nat)(w:bG g n dg dq res a6)(I:j' (O.toList.map (bA F)++fm cap)=fA a dg)(s:gv (c a) dg=i)(t:dj a h=b dq)(x:d8 dq=i)(q:∀d,d8 (a6 d)=i)(E:eX a=i)(u:∀d,c a<=c (a6 d))(f:Option Nat)(y:r.dst=f)(C:∀p,f=b p->p<B)(v:∀d,e1 g B all bw aq (fy f (eZ (a++gk (c h) (c (a6 d)-c a)) (res d)) F) (cZ a (a6 d) h)):e1 g B all (r::bw) aq F h:=
 e1.eI D j A a w (λo z J=>by grind[tc]) s t x q E u f y C v
theorem e1.call{j:al P}{aq:bd->e Y->Prop}{O:Array Z}(E:∀h J n,bQ B h J F n->aS r (yielded all.toArray n.tmps)=i)(l:r.op=.call {callee:=.value dC,args:=O,argTypes:=dK}){o:ar}(C:g4 (bA F dC)=b (o,cap))(a:e Nat){d:e Y}{f:s}(x:ad j o dg dq f d)(q:j' (O.toList.map (bA F)++fm cap)=fA a dg)(u:gv (c a) dg=i)(v:dj a h=b dq)(y:d8 dq=i)(t:d8 d=i)(I:eX a=i)(w:c a<=d.length)(g:Option Nat)(A:r.dst=g)(D:∀p,g=b p->p<B)(z:e1 j B all bw aq (fy g (eZ (a++gk (c h) (d.length-c a)) f) F) (cZ a d h)):e1 j B all (r::bw) aq F h:=
 e1.gD E l C a x.tocm q u v y (λ_=>t) I (λ_=>w) g A D (λ_=>z)
def mI.range(a:e ah):mI a (aI a.toArray.size) a:=by
 have key:∀(d:e ah) (p:Nat),(∀y r,d[y]?=b r->a[p+y]?=b r)->mI a (List.range' p (c d)) d:=by
  intro d;induction d with
  |nil=>intro p _;trivial
  |cons r a1 t=>
   exact JC
 grind[List.range_eq_range']
theorem bX.region{p:al P}{aq:dn}{id:Nat}(y:e1 p B aP.toList aP.toList (λF h=>aq .normal F h) F h):bX p B (.region id aP m) aq F h:=by intro D r w e s A l q x z;refine .ctl e a (λ_=>xc) λv d=>?_;have:=y v r (w.rely d e) (e.rely d) s A l q (aI aP.size) x (by simpa using mI.range aP.toList) λf g n j C u t o=>z .normal f g n j C u t (d.aH.trans o);omega
def e1.nil{P:aw}{l:al P}{j:Nat}{f:e ah}{aq:bd->e Y->Prop}{g:bd}{h:e Y}(t:aq g h):e1 l j f [] aq g h:=by
 intro y n s d v x p u idx _ o q;cases idx with
 |cons w idx=>exact o.elim
 |nil=>exact .ctl d rfl (λ_=>ug) λr a=>q g h r n t (s.rely a d) (d.rely a) a.aH
def e1.mono{q:al P}{aq r:bd->e Y->Prop}(z:e1 q B all bw aq F h)(y:∀F h,aq F h->r F h):e1 q B all bw r F h:=
 λd t x n u A g s idx l o j=>z d t x n u A g s idx l o λa aO au f C v w p=>j a aO au f (y _ _ C) v w p
def e1.le{P:aw}{r:al P}{q:Nat}{d a:e ah}{aq:bd->e Y->Prop}{p c':bd}{h:e Y}(w:e1 r q d a aq c' h)(o:hK p c'):e1 r q d a aq p h:=
 λy t v l u x f s idx j n g=>w y t (v.le o) l u x f s idx j n g
def hh:Nat->e s->bd
 |_,[]=>[]
 |a,d::f=>(a,d)::hh (a+1) f
def wn:∀(f:e s)(a d:Nat),look (hh a f) d=if a<=d then(f[d-a]?).getD .any else .any
 |[],a,d=>by simp[hh,look]
 |h::g,a,d=>by
  simp only[hh,look];by_cases j:a=d
  .grind [Nat.beq_refl]
  have:aa a d=m:=uA;rw[this];simp only[cond,wn g (a+1) d];grind
theorem bW.get{f:e Y}{g:aj}:∀{z:e I}{a:e s},bW f g z a->c z=c a/\∀(y:Nat),bo f g ((z[y]?).getD E) ((a[y]?).getD .any)
 |[],[],_=>⟨rfl,λy=>by simp[bo]⟩
 |[],_::_,d=>d.elim
 |_::_,[],d=>d.elim
 |n::z,l::a,d=>by
  obtain⟨h,j⟩:=bW.get d.2;refine⟨by grind,λy=>?_⟩;cases y with
  |zero=>simpa using d.1
  |succ y=>grind
def nd(a:bd):e ResultVar->Option (e s)
 |[]=>b []
 |.tmp g::f=>match nd a f with
  |some d=>b (look a g::d)
  |none=>k
 |.cell _ _::_=>k
def pc:e s->Option (e E1)
 |[]=>b []
 |.k f::d=>match pc d with
  |some a=>b (f::a)
  |none=>k
 |_::_=>k
def nX:e s->Option s
 |[f]=>b f
 |a=>match pc a with
  |some d=>b (.C d)
  |none=>k
def hq(e:Act):ResultVar->Sem I
 |ResultVar.tmp d=>pure (e.tmps.getD d E)
 |ResultVar.cell a d=>do loadVar d (<-asAddr (e.tmps.getD a E))
def HE(P:aw){r:Nat}{l:e Y}{q:aj}{h:bd}{g:Act}(o:bQ r l q h g):∀{f:e ResultVar}{a:e s},nd h f=b a ->
  ∃z,(∀K,(f.mapM (hq g)).run P K=Result.ok z K)/\bW l q z a/\dp P (f.mapM (hq g))
 |[],a,d=>by cases d;exact⟨[],by simp,M,by rw[List.mapM_nil];exact .pure⟩
 |.tmp j::p,a,d=>by
  simp only[nd]at d;cases n:nd h p with
  |none=>grind
  |some x=>
   simp[n]at d;subst d;obtain⟨z,u,v,w⟩:=HE P o n;refine⟨g.tmps.getD j E::z,?_,⟨o.aC j,v⟩,?_⟩
   .intro K;simp only[ny,cn,hq,dv,cM,u]
   rw[ny];exact .bind .pure λ_=>.bind w λ_=>.pure
 |.cell t j::p,a,d=>by simp[nd]at d
def IH{g:e Y}{l:aj}:∀{z:e I}{f:e s}{a:e E1},pc f=b a->bW g l z f->eJ g l z a
 |[],[],a,d,_=>by cases d;trivial
 |[],_::_,_,_,d=>d.elim
 |_::_,[],_,_,d=>d.elim
 |p::z,.k q::n,a,d,j=>by
  simp only[pc]at d;cases h:pc n with
  |none=>grind
  |some o=>simp[h]at d;subst d;exact⟨j.1,IH h j.2⟩
 |_::_,.C _::_,a,d,_=>by simp[pc]at d
 |_::_,.any::_,a,d,_=>by simp[pc]at d
def Ge{f:e s}{n:s}(g:nX f=b n)(j:bW h d z f):bo h d (if g:c z=1 then z[0]else .tuple z.toArray) n:=by
 unfold nX at g;split at g
 .rename_i X;cases g
  match z,j with
  |[t],j=>simpa using j.1
 rename_i r;cases l:pc f with
 |none=>grind
 |some p=>
  simp[l]at g;subst g;have q:c z≠1:=by
   intro o;rw[(bW.get j).1]at o
   match f,o with
   |[u],_=>grind
  rw[dif_neg q];exact⟨z,a,IH l j⟩
def ns(P:aw)(fn:Func)(o:bd)(q:s):Prop:=∀{p:Nat}{l:e Y}{f:aj}{j:Act},bQ p l f o j->∃n,bo l f n q/\∀h,(∀a d g,f.n a d=b g->h.cell? ⟨a,d,k⟩=b g)->(results fn j.tmps).run P h=.ok n h/\∀r∈(results fn j.tmps).events P h #[],∃a d g,r=⟨.cell ⟨a,d,k⟩,m,m⟩/\f.n a d=b g
def HL{a:Act}(q:bQ B h d F a){fn:Func}{f:e s}{l:s}(t:nd F fn.results.toList=b f)(o:nX f=b l):
  ∃n,(∀g,(results fn a.tmps).run P g=.ok n g)/\bo h d n l/\dp P (results fn a.tmps):=by
 obtain⟨z,v,p,r⟩:=HE P q t;refine⟨_,λg=>?_,Ge o p,?_⟩
 .have j:(fn.results.mapM (hq a)).run P g=Result.ok z.toArray g:=LC;unfold results;rw[cn];refine(er (λu=>Result.andThen u _) (Eq.trans ?_ j)).trans ?_
  .congr 2
  simp
 unfold results;have j:dp P (fn.results.mapM (hq a)):=by rw[u'];exact .map r
 exact .bind j λ_=>.pure
theorem ns.of{fn:Func}{a:e s}{h:s}(p:nd F fn.results.toList=b a)(g:nX a=b h):ns P fn F h:=by intro r t w u o;obtain⟨q,d,f,n⟩:=HL (P:=P) o p g;exact⟨q,f,λj _=>⟨d j,λv l=>by rw[n j #[]]at l;grind⟩⟩
section
def aZ.dG(a:aZ h d):aZ (h.map λ_=>.t) d:=by
 refine⟨a.mem,by simp[a.len],λg j L ao f=>?_,a.aL,a.lt,a.own⟩;simp only[lW]at ao;cases e:h[g]? with
 |none=>grind
 |some l=>rw[e]at ao;cases ao;trivial
structure ov(rD:e Nat)(d au:aj):Prop where
 m:au.m=d.m
 n:au.n=d.n
 own:au.own=d.own
 size:d.a.heap.size<=au.a.heap.size
 aG:∀j,(d.own j∨∃(l:Nat) (L:Loc),d.m[l]?=b L/\l∉rD/\j∈L.V)->au.a.heap[j]?=d.a.heap[j]?
 mem:∀j r ai,d.n j r=b ai->au.a.cell? ⟨j,r,k⟩=b ai
 os:au.a.os=d.a.os
 tape:au.a.tape=d.a.tape
 output:au.a.output=d.a.output
def cL.j6(a:cL d au)(g:e Nat):ov g d au:=
 ⟨a.m,a.n,a.own,a.size,λj l=>a.aG j (l.imp id λ⟨n,L,f,_,h⟩=>⟨L,bZ f,h⟩),a.mem,a.os,a.tape,a.output⟩
theorem ov.W{g:e Nat}{q h:aj}(a:ov [l] d q)(f:ov g q h):ov (l::g) d h:=by refine⟨f.m.trans a.m,f.n.trans a.n,f.own.trans a.own,i_ a.size f.size,λj t=>?_,λj u v r=>f.mem j u v (by rw[a.n];exact r),f.os.trans a.os,f.tape.trans a.tape,f.output.trans a.output⟩;rw[f.aG j,a.aG j (t.imp id λ⟨p,L,n,o,s⟩=>⟨p,L,n,λw=>o J,s⟩)];rw[a.own,a.m];grind
def Ud{d:Nat}(e:K.heap[d]?=b (.deferred (b []))):
  (Instr.takeDeferred d).run P K=.ok [] {K with heap:=K.heap.setIfInBounds d (.deferred k)}/\(Instr.takeDeferred d).events P K #[]=#[⟨.obj d,m,m⟩,⟨.obj d,i,m⟩]:=by
 have f:(getObj d).run P K=.ok (.deferred (b [])) K:=by simp only[getObj,Sem.run,e]
 have g:(setObj d (.deferred k)).run P K=.ok () {K with heap:=K.heap.setIfInBounds d (.deferred k)}:=by simp only[setObj,Sem.run,e]
 have j:∀a,(getObj d).events P K a=a.push ⟨.obj d,m,m⟩:=λa=>by simp only[getObj,Sem.events,Sem.runT,e];rfl
 have h:∀a,(setObj d (.deferred k)).events P K a=a.push ⟨.obj d,i,m⟩:=λa=>by simp only[setObj,Sem.events,Sem.runT,e];rfl
 constructor
 .simp[Instr.takeDeferred,f,g]
 simp[Instr.takeDeferred,f,j,h]
variable {q:al P}{fc:Bool}
def Uq{a:az}{f:Nat}{d:e Deferred}(h:a.mode=.returning)(g:a.defers={target:=.collected f,args:=#[]}::d)(l:K.heap[f]?=b (.deferred (b []))):
  ap P fc (G a aY) K=.go (G {a with defers:=d} aY) {K with heap:=K.heap.setIfInBounds f (.deferred k)} (seen P a.fn #[⟨.obj f,m,m⟩,⟨.obj f,i,m⟩]):=by obtain⟨n,j⟩:=Ud (P:=P) l;simp[G,ap,unwind,h,g,n,j,GStep.after]
def py(f:aj):e Deferred->e Nat->Prop
 |[],[]=>True
 |j::g,h::a=>(∃d:Nat,f.m[h]?=b ⟨.int .i64 d,[d]⟩/\f.a.heap[d]?=b (.deferred (b []))/\(∀l,f.n d l=k)/\j={target:=.collected d,args:=#[]})/\h∉a/\py f g a
 |_,_=>False
def h_.gw{o:e Y}{n:aj}(g:aZ o n):∀{a:e Deferred}{d:e Nat},h_ o n a d->py n a d
 |[],[],_=>trivial
 |[],_::_,h=>h.elim
 |_::_,[],h=>h.elim
 |y::a,w::d,⟨⟨l,L,h,f,v,t⟩,u,p⟩=>by obtain⟨j,k1,q,r⟩:=g.box w _ L l f;subst k1;simp at v;have s:j=h:=x;subst s;exact⟨⟨j,f,q,r,t⟩,u,h_.gw g p⟩
def py.mono{d au:aj}{o:Nat}(j:ov [o] d au):∀{f:e Deferred}{a:e Nat},o∉a->py d f a->py au f a
 |[],[],_,_=>trivial
 |[],_::_,_,g=>g.elim
 |_::_,[],_,g=>g.elim
 |t::f,s::a,n,⟨⟨g,h,l,u,q⟩,r,p⟩=>by simp only[ef,not_or]at n;refine⟨⟨g,by rw[j.m];exact h,by rw[j.aG g (.inr ⟨s,_,h,by grind,by simp⟩)];exact l,λv=>by rw[j.n];grind,q⟩,r,py.mono j n.2 p⟩
def yu:∀(r:e Nat)(h:az)(v:aj)(l:e Y),aZ l v->(∀E∈l,E=.t)->h.mode=.returning->py v h.defers r ->
  (∀u,ov r v u->cf q bg (G {h with defers:=[]} aY) u)->cf q bg (G h aY) v
 |[],h,v,l,M,W,O,z,U=>by
  have A:h.defers=[]:=by
   cases A:h.defers with
   |nil=>rfl
   |cons an F=>rw[A]at z;exact z.elim
  have:=U v ((cL.refl M).j6 _);have au:{h with defers:=[]}=h:=by cases h;simp_all
  grind
 |V::r,h,v,l,M,W,O,z,U=>by
  cases A:h.defers with
  |nil=>rw[A]at z;exact z.elim
  |cons an F=>
   rw[A]at z;obtain⟨⟨o,N,H,aq,ai⟩,ak,al⟩:=z;subst ai;refine .next a λn s=>?_;have j:=q.bt s;have x:=M.rely j;have D:n.m[V]?=b ⟨.int .i64 o,[o]⟩:=by rw[j.m];exact N
   have C:n.a.heap[o]?=b (.deferred (b [])):=by rw[j.aG o (.inr ⟨_,bZ N,by simp⟩)];exact H
   have ar:∀t,n.n o t=k:=λt=>by rw[j.n];grind
   let f:aj:={n with a:={n.a with heap:=n.a.heap.setIfInBounds o (.deferred k)}}
   have I:∀d,d≠o->f.a.heap[d]?=n.a.heap[d]?:=λd g=>by grind
   have ad:∀d t B,n.n d t=b B->f.a.cell? ⟨d,t,k⟩=b B:=by intro d t B R;have ae:d≠o:=J;rw[<-x.mem d t B R];simp only[aJ];grind
   have af:aZ l f:=by
    refine⟨ad,x.len,λy E L ao p=>?_,x.aL,λL p d g=>?_,λd g=>⟨?_,(x.own d g).2⟩⟩
    .rw[W E (bZ ao)];trivial
    .have:=x.lt L p d g;grind
    have:=(x.own d g).1;grind
   have ag:∃L∈n.m,o∈L.V:=⟨_,bZ D,by simp⟩
   have Z:cA l n l f:=by refine⟨by grind,λd _ g=>I d ?_,λ_ _ _ S=>S,λ_ _ _ _=>rfl,λL p d g=>.inr ⟨L,p,g⟩,λ_ E L S ah=>⟨E,L,S,ah,.refl _ _⟩,rfl,rfl,rfl,rfl⟩;grind
   have K:ov [V] v f:=by
    refine⟨j.m,j.n,j.own,i_ j.size J,λd g=>?_,λd t B R=>ad d t B (by rw[j.n];exact R),j.os,j.tape,j.output⟩;have ae:d≠o:=by
     rintro rfl;rcases g with g|⟨y,w,ab,X,h2⟩
     .exact(M.own d g).2 _ (bZ N) Q
     exact X (by simp;exact M.aL y V w _ ab N d h2 Q)
    rw[I d ae];exact j.aG d (g.imp id λ⟨y,w,ab,_,h2⟩=>⟨w,bZ ab,h2⟩)
   refine⟨_,f,_,Uq O A C,⟨⟨l,l,x,af,Z⟩,cR.seen (.eB ?_ ?_)⟩,?_⟩
   .exact⟨a,.inr ag⟩
   .exact⟨a,.inr ag⟩
   refine yu r {h with defers:=F} f l af W O (al.mono K ak) λu T=>?_;exact U u (K.W T)
end
def b4(g:Nat)(d f:Nat->e D):Prop:=∀a,a<g->d a=f a
def ez.b9{j:Nat}{dh:Nat->e D}(f:ez bi j p es z)(h:b4 p es dh):ez bi j p dh z:=
 ⟨f.len,λd a=>by rw[<-h d a];exact f.bo d a,λd a n l g=>f.rd d a n l (by rw[h d a];exact g)⟩
def Ar:D->D->Option (e Prop)
 |.int n g,.int d a=>match rv n d with|true=>b [g=a]|false=>k
 |.bool s,.bool j=>b [s=j]
 |.R t,.R o=>b [t=o]
 |.M r n g l,.M h d a f=>match aa n d with
  |true=>match r,h with
   |false,i=>k
   |_,_=>b [g=a,b4 g l f]
  |false=>match r,h with
   |true,_=>b [g=0,a=0]
   |_,_=>k
 |.val p,.val q=>b [p=q]
 |p,q=>b [p=q]
def Sn{j l:D}(a:Ar j l=b aB)(g:V aB)(f:Rd bi ai j):Rd bi ai l:=by
 unfold Ar at a;split at a
 .rename_i o p h e;cases d:rv o h<;>simp[d]at a
  subst a;cases An d;cases(show p=e from g);exact f
 .cases a;rename_i n q;cases(show n=q from g);exact f
 .cases a;rename_i n q;cases(show n=q from g);exact f
 .rename_i w o p es r h e dh;cases d:aa o h with
  |true=>
   simp only[d]at a;have u:=c1 d;subst u;cases w<;>cases r<;>simp at a
   all_goals (subst a;obtain⟨rfl,t⟩:=(show p=e/\b4 p es dh from g);first|exact f.b9 t|exact f.dU.b9 t)
  |false=>
   simp only[d]at a;cases w<;>simp at a
   subst a;obtain⟨rfl,rfl⟩:=(show p=0/\e=0 from g)
   obtain⟨v,s,z,rfl,_,_,x,_⟩:=f.bx;grind[Rd.cZ]
 .cases a;rename_i j l;cases(show j=l from g);exact f
 cases a;cases g;exact f
def tH:C->C->Option (e Prop)
 |.c s,.c t=>Ar s t
 |.q _ n l f,.c (.M m g j d)=>match aa n g with|true=>b [l=j,b4 l f d]|false=>k
 |.q h n l f,.q a g j d=>match aa h a with
  |true=>match aa n g with|true=>b [l=j,b4 l f d]|false=>k
  |false=>k
 |.ptr h q,.ptr a o=>match aa h a with|true=>(match aa q o with|true=>b []|false=>k)|false=>k
 |.aD h,.aD a=>match aa h a with|true=>b []|false=>k
 |.ak h r,.ak a p=>match aa h a with|true=>b [r=p]|false=>k
 |_,.any=>b []
 |_,_=>k
def Gi{v w:C}(e:tH v w=b aB)(s:V aB)(q:ck h d ai v):ck h d ai w:=by
 unfold tH at e;split at e
 .exact Sn e s q
 .rename_i o p es g n dh;cases a:aa o g<;>simp[a]at e
  subst e;have u:=c1 a;subst u;obtain⟨rfl,t⟩:=(show p=n/\b4 p es dh from s)
  exact q.1.b9 t
 .rename_i l o p es j g n dh;cases r:aa l j<;>simp[r]at e
  cases a:aa o g<;>simp[a]at e
  subst e;have u:=c1 a;have f:=c1 r;subst u f;obtain⟨rfl,t⟩:=(show p=n/\b4 p es dh from s)
  exact⟨q.1.b9 t,q.2.1,q.2.2⟩
 .grind [Nat.eq_of_beq_eq_true]
 .grind [Nat.eq_of_beq_eq_true]
 .rename_i l K j a5;cases r:aa l j<;>simp[r]at e
  have f:=c1 r;subst f;subst e;cases(show K=a5 from s);exact q
 .exact ck.cell q
 grind
def gh:e Prop->e Prop->e Prop
 |[],a=>a
 |d::f,a=>d::gh f a
@[simp] theorem V.W{a d:e Prop}:V (gh a d)↔V a/\V d:=by
 induction a with
 |nil=>simp[gh]
 |cons h g f=>simp only[gh,V.cons,f,and_assoc]
def o0:e C->e C->Option (e Prop)
 |[],[]=>b []
 |f::a,g::d=>match tH f g with
  |some h=>match o0 a d with
   |some j=>b (gh h j)
   |none=>k
  |none=>k
 |_,_=>k
def As{l:e Y}{q:aj}:∀{z:e I}{O f:e C}{d:e Prop},o0 O f=b d->V d->bJ l q z O->bJ l q z f
 |[],[],[],_,_,_,_=>trivial
 |_::_,[],_,_,_,_,a=>a.elim
 |[],_::_,_,_,_,_,a=>a.elim
 |[],[],_::_,_,a,_,_=>by simp[o0]at a
 |_::_,_::_,[],_,a,_,_=>by simp[o0]at a
 |v::z,r::g,s::h,d,a,j,p=>by
  simp only[o0]at a;cases n:tH r s with
  |none=>grind
  |some t=>
   cases o:o0 g h with
   |none=>grind
   |some u=>
    simp[n,o]at a;subst a;rw[V.W]at j;exact⟨Gi n j.1 p.1,As o j.2 p.2⟩
def tI:E1->E1->Option (e Prop)
 |.S f,.S g=>tH f g
 |.agg a,.agg d=>o0 a d
 |_,_=>k
def Gk{e f:E1}(a:tI e f=b aB)(g:V aB)(j:eh h d ai e):eh h d ai f:=by
 cases e<;>cases f<;>simp only[tI,reduceCtorEq]at a
 .exact Gi a g j
 obtain⟨z,l,n⟩:=j;exact⟨z,l,As a g n⟩
def qc:e E1->e E1->Option (e Prop)
 |[],[]=>b []
 |f::a,g::d=>match tI f g with
  |some h=>match qc a d with
   |some j=>b (gh h j)
   |none=>k
  |none=>k
 |_,_=>k
def Gl{l:e Y}{q:aj}:∀{z:e I}{O f:e E1}{d:e Prop},qc O f=b d->V d->eJ l q z O->eJ l q z f
 |[],[],[],_,_,_,_=>trivial
 |_::_,[],_,_,_,_,a=>a.elim
 |[],_::_,_,_,_,_,a=>a.elim
 |[],[],_::_,_,a,_,_=>by simp[qc]at a
 |_::_,_::_,[],_,a,_,_=>by simp[qc]at a
 |v::z,r::g,s::h,d,a,j,p=>by
  simp only[qc]at a;cases n:tI r s with
  |none=>grind
  |some t=>
   cases o:qc g h with
   |none=>grind
   |some u=>
    simp[n,o]at a;subst a;rw[V.W]at j;exact⟨Gk n j.1 p.1,Gl o j.2 p.2⟩
def iU:s->s->Option (e Prop)
 |.k d,.k f=>tI d f
 |.C O,.C a=>qc O a
 |_,.any=>b []
 |_,_=>k
theorem m6{e f:s}(a:iU e f=b aB)(g:V aB)(l:bo h d ai e):bo h d ai f:=by
 cases e<;>cases f<;>simp only[iU,reduceCtorEq]at a
 .exact Gk a g l
 .trivial
 .obtain⟨z,j,u⟩:=l;exact⟨z,j,Gl a g u⟩
 .trivial
 trivial
def hF(a:bd):bd->Option (e Prop)
 |[]=>b []
 |(f,d)::j=>match iU (look a f) d with
  |some g=>match hF a j with
   |some h=>b (gh g h)
   |none=>k
  |none=>k
def et{f:bd}:∀{d:bd}{a:e Prop},hF f d=b a->V a->hK f d
 |[],_,_,_=>λ_ _ _ _ _=>trivial
 |(l,q)::s,a,g,h=>by
  simp only[hF]at g;cases r:iU (look f l) q with
  |none=>grind
  |some w=>
   cases j:hF f s with
   |none=>grind
   |some x=>
    simp[r,j]at g;subst g;rw[V.W]at h;intro o t u n p;simp only[look];cases v:aa l n with
    |true=>
     grind[Nat.eq_of_beq_eq_true,m6]
    |false=>exact et j h.2 o t u n p
def kN(a:e Y):Bool:=match d8 a with|true=>jq a|false=>m
def Hg(a:kN h=i):d8 h=i/\jq h=i:=by unfold kN at a;grind
def h_.eN{l:e Y}{o:aj}:∀{f:e Deferred}{d:e Nat},h_ l o f d->∀g∈d,l[g]?=b .a2
 |[],[],_,g,a=>by grind
 |[],_::_,j,_,_=>j.elim
 |_::_,[],j,_,_=>j.elim
 |q::f,p::d,⟨⟨h,_⟩,_,n⟩,g,a=>by
  rcases ef.1 a with rfl|a
  .exact h
  exact h_.eN n g a
def b3(fn:Func)(q:Nat)(d:s)(f:e Y):dn:=λo p j=>
 (o=.ret∨o=.normal)/\∃a g n h,nd p fn.results.toList=b g/\nX g=b n/\iU n (eZ a d)=b h/\V h/\g6 (c a) d=i /\
  dj a j=b f/\kN f=i/\eX a=i/\(∀l,l<q->a[l]?=b l)
def j4(P:aw)(fn:Func)(p:Nat)(d:s)(f:e Y):dn:=λn o h=>
 (n=.ret∨n=.normal)/\∃a l g,ns P fn o l/\iU l (eZ a d)=b g/\V g/\g6 (c a) d=i /\
  dj a h=b f/\kN f=i/\eX a=i/\(∀j,j<p->a[j]?=b j)
def b3.toF{fn:Func}{l:Nat}{a:s}{n:Exit}{d:e Y}(t:b3 fn l a aO n F d):j4 P fn l a aO n F d:=by obtain⟨o,h,r,q,j,f,g,p⟩:=t;exact⟨o,h,q,j,ns.of f g,p⟩
def bG.gh{an:al P}{V:ar}{fn:Func}{args:e s}{q:ι->e Y}(ab:P.funcs[V]?=b fn)(bl:(fn.name== "runtime.NumGoroutine")=m)(o:fn.body=b u)(aT:args.length<=fn.ntmps)(X:∀d bd,bQ fn.ntmps h d (hh 0 args) bd->aZ h d->∀(g:az) (bh:e Item) (t:e az) (R:ae->aj->Prop),g.kind≠.early->g.roundOf=k ->
  (∀ak I r au S,(∃B,j4 P fn (c h) (res B) (q B) ak I r)->bQ fn.ntmps r au I S->aZ r au->c6 h d r au->jN an R g bh t ak S au)->cf an R (G (g.i bd (.code u::bh)) t) d):bG an V args h res q:=by
 refine⟨⟨fn,ab,bl,by grind⟩,λd z aU aQ R t aN=>?_⟩;obtain⟨aS,aP⟩:=bW.get aU;let g:az:={fn:=V,tmps:=#[],todo:=[],defers:=[],mode:=.run,kind:=.normal,roundOf:=k}
 have bx:Frame.enter P V z.toArray .normal=g.i {tmps:=z.toArray++Array.replicate (fn.ntmps-z.toArray.size) E,defers:=[]} [.code u]:=by simp[Frame.enter,Frame.i,ab,o,g]
 rw[bx];refine X d {tmps:=z.toArray++Array.replicate (fn.ntmps-z.toArray.size) E,defers:=[]} ⟨by grind,⟨[],M⟩,λw=>?_⟩ aQ g [] t R (by simp[g]) rfl ?_
 .rw[wn];simp only[jG,cN,pF];have:=aP w;rcases dJ w (c z) with bg|bf
  .exact Ln
  rw[u1 x];trivial
 rintro ak I r a7 T ⟨ai,ax,a0,bz,bw,aG,aH,aJ,aK,aq,bo,aL,br⟩ aF ah a8;obtain⟨Z,bp⟩:=Hg bo;have fin:∀(l:az) f,cL a7 f->l.fn=V->l.tmps=T.tmps->l.defers=T.defers->l.mode=.returning->l.kind=.normal->cf an R (G l t) f:=by
  intro l f j aA aB aC U aE;have W:=aF.rely j ah;have K:=ah.rely j;have v:=a8.trans j.aH;obtain⟨a9,a5,bc⟩:=aG W;obtain⟨A,aw⟩:=ue (iT:=f.m) aq K.len;have a6:=(m6 aH aJ a5).sub aq aw aK;obtain⟨bq,ay⟩:=kP aq;obtain⟨d1,d2⟩:=kP aw;have ba:∀L∈A,L∈f.m:=Bm aw;have D:aZ (q ai) {f with m:=A}:=by obtain⟨N,_⟩:=K.sub aq aw Z aL;refine⟨N.mem,N.len,λB ag L ao n=>?_,N.aL,N.lt,λg o=>⟨(K.own g o).1,λL n=>(K.own g o).2 L (ba L n)⟩⟩;exact ek.plain (h:=q ai) (d:={f with m:=A,own:=mn f A}) (au:={f with m:=A}) rfl rfl (t1 Z ag (bZ ao)) (N.box B ag L ao n)
  have bn:c6 h d (q ai) {f with m:=A}:=by refine⟨v.size,v.aG,v.mem,v.ba,λL n g o=>v.bp _ (ba L n) g o,λbj ag L ao n=>?_,v.os,v.tape,v.output,v.own⟩;have aS:bj<c h:=(cD.1 ao).1;obtain⟨bk,bm,bs,bt,h2⟩:=v.box bj ag L ao n;grind
  obtain⟨a1,bb⟩:=W.defers;refine yu a1 l f _ K.dG Q U (by rw[aC];exact bb.gw K) λO p=>?_;have a2:cL {f with m:=A} {O with m:=A}:=by refine⟨rfl,p.n,p.own,p.size,λg o=>p.aG g (o.imp id ?_),p.mem,p.os,p.tape,p.output⟩;rintro⟨L,n,o⟩;obtain⟨B,aR,rfl⟩:=ft n;have H:B<c a0:=J;obtain⟨bB,a,a'⟩:=d2 B _ (bu H);obtain⟨bA,a_,af⟩:=ay B _ (bu H);rw[bu aR]at a;cases a;refine⟨_,_,a',λaO=>?_,o⟩;rw[bb.eN _ aO]at af;cases af;exact tP bp _ (bZ a_) rfl
  have aM:eg O {O with m:=A}:=⟨rfl,λ_ _ _ X=>X,λ_ _ _=>rfl,λg y a9 aV=>p.mem g y a9 (by rw[<-p.n];exact aV),λg o=>o.imp id λ⟨L,n,o⟩=>⟨L,by rw[p.m];grind,o⟩⟩
  refine .aK aM (aN ai _ a9 _ ⟨aA,U,rfl,aE,fn,by grind,λad aY=>?_⟩ (a6.mono a2.aH.ext D.len) (D.rely a2) (bn.trans a2.aH));show(results fn l.tmps).run P ad=_/\∀ak∈(results fn l.tmps).events P ad #[],_;rw[aB];have C:∀g y F,f.n g y=b F->ad.cell? ⟨g,y,k⟩=b F:=λg y F X=>aY g y F (by show O.n g y=b F;rw[p.n];exact X);refine⟨(bc ad C).1,λak ax=>?_⟩;obtain⟨g,y,F,a3,a4⟩:=(bc ad C).2 ak ax;exact⟨g,y,F,a3,by show O.n g y=b F;rw[p.n];exact a4⟩
 rcases ax with rfl|rfl
 .intro pre;exact .ctl ah rfl (λ_=>Bp rfl) λf j=>fin _ f j rfl rfl (iJ _) rfl rfl
 exact .ctl ah rfl (λ_=>Bn rfl) λf j=>fin _ f j rfl rfl (iJ _) rfl rfl
def bG.hl{x:al P}{t:ar}{fn:Func}{args:e s}{o:ι->e Y}(F:P.funcs[t]?=b fn)(D:(fn.name== "runtime.NumGoroutine")=m)(I:fn.body=b u)(C:args.length<=fn.ntmps)(E:∀n q,bQ fn.ntmps h n (hh 0 args) q->aZ h n->∀(l:az) (w:e Item) (j:e az) (p:ae->aj->Prop),l.kind≠.early->l.roundOf=k ->
  (∀r f a d g,(∃v,b3 fn (c h) (res v) (o v) r f a)->bQ fn.ntmps a d f g->aZ a d->c6 h n a d->jN x p l w j r g d)->cf x p (G (l.i q (.code u::w)) j) n):bG x t args h res o:=
 bG.gh F D I C λn q t B l w j p y z A=>E n q t B l w j p y z λr f a d g ⟨v,J⟩=>A r f a d g ⟨v,J.toF⟩
def bG.gZ{q:al P}{a:ar}{fn:Func}{args:e s}{aO:ι->e Y}(y:P.funcs[a]?=b fn)(t:(fn.name== "runtime.NumGoroutine")=m)(A:fn.body=b u)(w:args.length<=fn.ntmps)(x:bX q fn.ntmps u (λv n d=>∃l,j4 P fn h.length (res l) (aO l) v n d) (hh 0 args) h):bG q a args h res aO:=
 bG.gh y t A w λC p a g r z f o j _ B=>x C p a g r z f o j B
def bG.intro{n:al P}{d:ar}{fn:Func}{args:e s}{a:ι->e Y}(z:P.funcs[d]?=b fn)(t:(fn.name== "runtime.NumGoroutine")=m)(B:fn.body=b u)(w:args.length<=fn.ntmps)(x:bX n fn.ntmps u (λv o f=>∃y,b3 fn h.length (res y) (a y) v o f) (hh 0 args) h):bG n d args h res a:=
 bG.hl z t B w λD q d j r A g p l _ C=>x D q d j r A g p l C
def ad.intro{P:aw}{f:al P}{j:ar}{fn:Func}{g:Code}{args:e s}{h d:e Y}{a:s}(o:P.funcs[j]?=b fn)(n:(fn.name== "runtime.NumGoroutine")=m)(p:fn.body=b g)(l:args.length<=fn.ntmps)(q:bX f fn.ntmps g (b3 fn h.length a d) (hh 0 args) h):ad f j args h a d:=
 (bG.intro o n p l (bX.mono q λ_ _ _ r=>⟨(),r⟩)).toad
inductive dz where
 |code (u:Code)
 |blk (id:Nat)
 |ar (all bw:List ah)
def g{P:aw}(l:al P)(j:Nat)(a:dn):e dz->dn
 |[],o,d,f=>a o d f
 |.code r::h,.normal,d,f=>bX l j r (g l j a h) d f
 |.code _::h,o,d,f=>g l j a h o d f
 |.blk id::h,.exit n,d,f=>if n=id then g l j a h .normal d f else g l j a h (.exit n) d f
 |.blk _::h,o,d,f=>g l j a h o d f
 |.ar q p::h,.normal,d,f=>e1 l j q p (g l j a h .normal) d f
 |.ar _ _::h,o,d,f=>g l j a h o d f
section
variable {q:al P}{a7:dn}{ax:e dz}
def g.aW(a:g q B a7 [.code u] .normal F h):bX q B u a7 F h:=a
theorem g.skip(a:g q B a7 ax .normal F h):g q B a7 (.code .skip::ax) .normal F h:=bX.skip a
theorem g.seq{a d:Code}(l:g q B a7 (.code a::.code d::ax) .normal F h):g q B a7 (.code (.seq a d)::ax) .normal F h:=by refine bX.seq (bX.mono l ?_);intro j e f n;cases j<;>exact n
theorem g.block{id:Nat}{a:Code}(j:g q B a7 (.code a::.blk id::ax) .normal F h):g q B a7 (.code (.block id a)::ax) .normal F h:=by refine bX.block (bX.mono j ?_);intro f d e l;cases f<;>exact l
theorem g.h4{id:Nat}(a:g q B a7 ax .normal F h):g q B a7 (.blk id::ax) .normal F h:=a
theorem g.region{id:Nat}{a:Array ah}(d:g q B a7 (.ar a.toList a.toList::ax) .normal F h):g q B a7 (.code (.region id a m)::ax) .normal F h:=bX.region d
theorem g.ho(a:g q B a7 ax .normal F h):g q B a7 (.ar all []::ax) .normal F h:=e1.nil a
def g.dk:∀{ax:e dz},a7 .ret F h->g q B a7 ax .ret F h
 |[],a=>a
 |.code _::ax,a=>g.dk (ax:=ax) a
 |.blk _::ax,a=>g.dk (ax:=ax) a
 |.ar _ _::ax,a=>g.dk (ax:=ax) a
def g.ret(a:a7 .ret F h):g q B a7 (.code .ret::ax) .normal F h:=bX.ret (g.dk a)
def hU(id:Nat):e dz->Option (e dz)
 |[]=>k
 |.blk d::a=>match aa id d with|true=>b a|false=>hU id a
 |_::a=>hU id a
def g.toExit{id:Nat}:∀{ax f:e dz},hU id ax=b f->g q B a7 f .normal F h->g q B a7 ax (.exit id) F h
 |[],_,a,_=>by cases a
 |.blk n::ax,f,a,d=>by
  simp only[hU]at a;cases j:aa id n with
  |true=>
   simp[j]at a;subst a;have l:=c1 j;simp only[g,l,cN];exact d
  |false=>
   simp[j]at a;have o:id≠n:=λl=>by grind[Nat.beq_refl]
   simp only[g,o,cr];exact g.toExit a d
 |.code _::ax,f,a,d=>g.toExit (ax:=ax) a d
 |.ar _ _::ax,f,a,d=>g.toExit (ax:=ax) a d
theorem g.exit{id:Nat}{d:e dz}(a:hU id ax=b d)(f:g q B a7 d .normal F h):g q B a7 (.code (.exit id)::ax) .normal F h:=bX.exit (g.toExit a f)
theorem g.cond{e:Z}{j l:Code}{a:Bool}{f:Nat}(n:e=.tmp f)(d:look F f=aL (.bool a))(p:a=i->g q B a7 (.code j::ax) .normal F h)(o:a=m->g q B a7 (.code l::ax) .normal F h):g q B a7 (.code (.cond e j l)::ax) .normal F h:=bX.cond n d p o
def g.loop{bg:Type}{s:Code}(p:bg->Prop)(a:bg->bd)(d:bg->e Y)(r:bg->Nat)(f:bg)(w:p f)(u:hK F (a f))(t:d f=h)(round:∀f,p f->g q B (λo j l=>match o with
   |.normal=>∃n,p n/\r n<r f/\hK j (a n)/\l=d n
   |o=>g q B a7 ax o j l) [.code s] .normal (a f) (d f)):g q B a7 (.code (.loop s)::ax) .normal F h:=by refine bX.loop p a d r f w u t λn v=>bX.mono (round n v) ?_;intro o j l x;cases o<;>exact x
end
def eL{a f:Type}:e a->(e a->Option f)->Option f
 |[],d=>d []
 |j::h,d=>eL h λg=>d (j::g)
theorem gO{f:Type}(d:e α)(a:e α->Option f):eL d a=a d:=by
 induction d generalizing a with
 |nil=>rfl
 |cons j h g=>simp[eL,g]
def v_(f:bd)(a:e ah)(h:Nat):Option (Option Bool):=
 match cH h a with
 |some d=>match d.dst with
  |some g=>match look f g with
   |.k (.S (.c (.bool i)))=>b (b i)
   |.k (.S (.c (.bool m)))=>b (b m)
   |.C []=>b k
   |_=>k
  |none=>k
 |none=>k
def v'{f:Option Bool}(n:v_ F all y=b f){t:Act}(g:bQ B h d F t):yielded all.toArray t.tmps y=f:=by
 unfold v_ at n;rw[ki]at n;unfold yielded;cases a:all[y]? with
 |none=>grind
 |some e=>
  simp only[a]at n;simp only[iF,a,nC];cases o:e.dst with
  |none=>grind
  |some N=>
   simp only[o]at n;simp only[nC];have u:=g.aC N;have key:∀ai,t.tmps.getD N E=ai->ai≠E->t.tmps[N]?=b ai:=by intro ai ak r;simp only[gJ]at ak;grind
   split at n
   .exact JJ
   .exact JJ
   .rename_i X;cases n;rw[X]at u;obtain⟨z,q,p⟩:=u;have l:z=[]:=by cases z with
     |nil=>rfl
     |cons _ _=>exact p.elim
    subst l;simp only[gJ]at q;grind
   grind
def wH(p:e (Nat×bh))(h:bd)(f:e Y)(I:ah):Option (s×e Y×e Prop):=
 match I.op with
 |.move g|.assign g=>b (bA h g,f,[])
 |.pick w v z=>match bA h w with
  |.k (.S (.c (.bool i)))=>b (bA h v,f,[])
  |.k (.S (.c (.bool m)))=>b (bA h z,f,[])
  |_=>k
 |.binOp r _ g E _=>match bA h g,bA h E with
  |.k (.S (.c v)),.k (.S (.c z))=>match vl r v z with
   |some (w,y)=>b (aL w,f,y)
   |none=>k
  |_,_=>k
 |.unOp r _ g=>match bA h g with
  |.k (.S (.c v))=>match xw r v with
   |some w=>b (aL w,f,[])
   |none=>k
  |_=>k
 |.extract g D=>match bA h g with
  |.C O=>match cH D O with
   |some q=>b (.k q,f,[])
   |none=>k
  |_=>k
 |.alloc t=>match bY p t with
  |some n=>eL (f++[.cells t (n.zero.map C.c)]) λj=>b (ba (c f) 0,j,[])
  |none=>k
 |.box t g=>match kA (bA h g)with
  |some a=>eL (f++[.cells t a]) λj=>b (ba (c f) 0,j,[])
  |none=>k
 |.load l g=>match bY p l with
  |some n=>match bA h g with
   |.k (.S (.ptr o d))=>match cH o f with
    |some (.cells _ a)=>match gl n (fv d a)with
     |some q=>b (.k q,f,[])
     |none=>k
    |_=>k
   |.k (.S (.c (.U a)))=>match gl n (a.map C.c)with
    |some q=>b (.k q,f,[])
    |none=>k
   |_=>k
  |none=>k
 |.store l g E=>match bY p l with
  |some n=>match bA h g with
   |.k (.S (.ptr o d))=>match cH o f with
    |some (.cells t a)=>match kA (bA h E)with
     |some new=>match aa (c new) n.size with
      |true=>match h4 d new a with
       |some x=>eL (cZ.b2 o (.cells t x) f) λj=>b (.any,j,[])
       |none=>k
      |false=>k
     |none=>k
    |_=>k
   |_=>k
  |none=>k
 |.fieldAddr l g B=>match kg p l B with
  |some (u,_)=>match bA h g with
   |.k (.S (.ptr o d))=>b (ba o (d+u),f,[])
   |.k (.S (.c (.U a)))=>b (aL (.U (fv u a)),f,[])
   |_=>k
  |none=>k
 |.field l g B=>match kg p l B with
  |some (u,D)=>match bA h g with
   |.k (.agg a)=>match gl D (fv u a)with
    |some q=>b (.k q,f,[])
    |none=>k
   |_=>k
  |none=>k
 |.nilCheck g=>match bA h g with
  |.k (.S (.ptr o d))=>b (ba o d,f,[])
  |.k (.S (.c (.U a)))=>b (aL (.U a),f,[])
  |_=>k
 |.build l parts=>match vo p (bA h) l parts.toList with
  |some a=>b (.k (.agg a),f,[])
  |none=>k
 |.buildSlice l F parts=>match wl p (bA h) l F parts.toList with
  |some (u,A)=>b (aL (.M i u F λn=>A.getD n []),f,[])
  |none=>k
 |_=>k
theorem AQ{p:e (Nat×bh)}(aG:bT P p){q:s}(a:wH p F h r=b (q,aO,cl))(x:V cl):aR P r (bA F) h q aO:=by
 unfold wH at a;split at a
 .grind [aR.move]
 .grind [aR.assign]
 .rename_i u z j d;split at a
  .rename_i n;cases a;exact aR.pick d n
  .rename_i n;cases a;exact aR.pick d n
  grind
 .grind [aR.binOp]
 .grind [aR.unOp]
 .grind [aR.extract,dL]
 .grind [gO,aR.alloc]
 .grind [gO,aR.box]
 .rename_i w t d;split at a
  .grind [aR.g6,dL,aR.g8]
  grind
 .rename_i w t B d;split at a
  .rename_i f v;split at a
   .rename_i l off g;split at a
    .grind [gO,lB,aR.store,dL,Nat.eq_of_beq_eq_true]
    grind
   grind
  grind
 .rename_i w t A d;split at a
  .rename_i o y X;split at a
   .rename_i l off g;cases a;exact aR.gT aG d g X
   .grind [aR.gU]
   grind
  grind
 .grind [aR.field]
 .grind [aR.hi,aR.hj]
 .grind [aR.build]
 .grind [aR.buildSlice]
 grind
def eU(a:Nat):Option Nat->Bool
 |some d=>aD (d+1) a
 |none=>i
def kE{d:Option Nat}(f:eU B d=i):∀a,d=b a->a<B:=by intro a e;subst e;exact e' f
theorem jZ(d:r.guard=k){a:Act}:aS r (yielded all.toArray a.tmps)=i:=by simp[aS,d]
section
variable {ag:e (Nat×bh)}
def jH(a:Z->s):Option Z->Option (Option Int)
 |none=>b k
 |some e=>match a e with
  |.k (.S (.c (.int _ d)))=>b (b d)
  |_=>k
def i'{e:Z->I}(o:∀a,bo h d (e a) (η a)){g:Option Z}{j:Option Int}(f:jH η g=b j):(g.map e=k/\j=k)∨∃n l,g.map e=b (.int n l)/\j=b l:=by
 cases g with
 |none=>cases f;grind
 |some a=>
  right;simp only[jH]at f;split at f
  .rename_i n l u;cases f;have:=o a;rw[u]at this;have:=b2 this;generalize p:e a=q at this;cases this;grind
  grind
def cE(a:Nat):Option Int->Nat
 |none=>a
 |some d=>d.toNat
def ib(f:Nat):Option Int->Option Int->e Prop
 |none,k=>[]
 |some d,k=>[0<=d,d<=f]
 |none,b a=>[0<=a,a<=f]
 |some d,b a=>[0<=d,d<=a,a<=f]
def ub{jl:Bool}{cap:Nat}(w:p<=cap){g e:Option I}{d a:Option Int}(r:(g=k/\d=k)∨∃o n,g=b (.int o n)/\d=b n)(s:(e=k/\a=k)∨∃o n,e=b (.int o n)/\a=b n)(f:V (ib p d a))(h:af):(aV jl p cap g e k).run P h=.ok (cE 0 d,cE p a,cap) h/\cE 0 d<=cE p a/\cE p a<=p:=by
 rcases r with⟨rfl,rfl⟩|⟨q,d,rfl,rfl⟩<;>rcases s with⟨rfl,rfl⟩|⟨u,a,rfl,rfl⟩
 .exact⟨by simp[aV,cE],by simp[cE],by simp[cE]⟩
 .obtain⟨l,j⟩:0<=a/\a<=(p:Int):=f;refine⟨?_,by simp[cE],by simp only[cE];omega⟩;simp[aV,cE,run_sliceBound (P:=P) h u a cap _ l x]
 .obtain⟨l,j⟩:0<=d/\d<=(p:Int):=f;refine⟨?_,by simp only[cE];omega,by simp[cE]⟩;simp[aV,cE,run_sliceBound (P:=P) h q d p _ l j]
 obtain⟨l,j,v⟩:0<=d/\d<=a/\a<=(p:Int):=f;have t:((a.toNat:Nat):Int)=a:=sM x;refine⟨?_,by simp only[cE];omega,by simp only[cE];omega⟩;simp[aV,cE,run_sliceBound (P:=P) h u a cap _ x x,run_sliceBound (P:=P) h q d a.toNat _ l x]
def lh(j:af)(h:IntKind)(d:Int)(e:Nat)(code:BoundsCode)(f:0<=d)(g:d<=(e:Int))(a:Array ay):(Instr.sliceBound (.int h d) e code).events P j a=a:=by simp[Instr.sliceBound,asIntOf,f,g]
def tl{jl:Bool}{cap:Nat}{l g:Option I}{e a:Option Int}(B:p<=cap)(v:(l=k/\e=k)∨∃q o,l=b (.int q o)/\e=b o)(w:(g=k/\a=k)∨∃q o,g=b (.int q o)/\a=b o)(h:V (ib p e a))(f:af)(d:Array ay):(aV jl p cap l g k).events P f d=d:=by
 have z:∀(jl:Bool) (s:Option I) (t:Nat) (f:af) (d:Array ay),s=k->(aV jl p cap k k k).events P f d=d:=λjl s t f d _=>by simp[aV]
 rcases v with⟨rfl,rfl⟩|⟨r,e,rfl,rfl⟩<;>rcases w with⟨rfl,rfl⟩|⟨j,a,rfl,rfl⟩
 .simp[aV]
 .obtain⟨n,u⟩:0<=a/\a<=(p:Int):=h;simp[aV,lh (P:=P) f j a cap _ n x]
 .obtain⟨n,u⟩:0<=e/\e<=(p:Int):=h;simp[aV,lh (P:=P) f r e p _ n u]
 obtain⟨n,u,A⟩:0<=e/\e<=a/\a<=(p:Int):=h;have y:((a.toNat:Nat):Int)=a:=sM x;simp[aV,run_sliceBound (P:=P) f j a cap _ x x,lh (P:=P) f j a cap _ x x,lh (P:=P) f r e a.toNat _ n x]
def lb(a:e UInt8):Option Int->Option Int->e UInt8
 |none,k=>a
 |some f,k=>a.drop f.toNat
 |none,b d=>a.take d.toNat
 |some f,b d=>(a.take d.toNat).drop f.toNat
theorem aR.jZ(aG:bT P ag){t:Z}{q n:Option Z}(C:r.op=.slice w t q n k){v:bh}(M:bY ag w=b v)(O:v.desc=.string){s:e UInt8}{j l:Option Int}(S:η t=aL (.R s))(o:jH η q=b j)(E:jH η n=b l)(I:V (ib (c s) j l)):aR P r η h (aL (.R (lb s j l))) h:=by
 refine .aS λg x F f=>?_;have d:=f t;rw[S]at d;replace d:=b2 d;generalize y:x t=R at d;cases d with
 |@R a _ D T=>
 have B:a.size=c s:=by rw[<-D];exact lV.symm
 obtain⟨Q,z,A⟩:=ub (P:=P) (jl:=m) (p:=a.size) (cap:=a.size) (bE _) (i' f o) (i' f E) J g.a;have u:=(aG w v M).run_underlying (K:=g.a);rw[O]at u;have N:=tl (P:=P) (jl:=m) (p:=a.size) (cap:=a.size) (bE _) (i' f o) (i' f E) J g.a;refine⟨.string (a.extract (cE 0 j) (cE a.size l)),?_,Rd.R ?_ ?_,by simp[W,C,y,Instr.sliceAt,u,Instr.slice,N]⟩
 .simp[W,C,y,Instr.sliceAt,u,Instr.slice,Q]
 .rw[Lib.extract_data,D,B];rw[B]at z A;cases j<;>cases l<;>simp only[lb,cE]at z A⊢
  .simp
  .simp
  .grind [List.take_of_length_le]
  rw[List.drop_take]
 cases j<;>cases l<;>simp only[lb,u2,List.length_take]<;>omega
def gR(f:Nat)(a:Nat->e D):Nat->e D:=λd=>a (f+d)
def zs(ew:Bool):Option Int->Bool
 |none=>ew
 |some _=>m
theorem aR.jY(aG:bT P ag){Q:Z}{E d:Option Z}(U:r.op=.slice w Q E d k){g a:bh}(ai:bY ag w=b g)(aj:g.desc=.slice T)(C:bY ag T=b a){ew:Bool}{f t:Option Int}(G:∀Y ab,bo h Y ab (η Q)->Rd Y.n ab (.M ew a.size p es))(u:jH η E=b f)(X:jH η d=b t)(y:V (ib p f t)):
  aR P r η h (aL (.M (zs ew t) a.size (cE p t-cE 0 f) (gR (cE 0 f) es))) h:=by
 refine .aS λj ak ah e=>?_;have n:=G j _ (e Q);obtain⟨R,l,z,O,S,al,s,ao,H⟩:=n.bx;rw[O]at n;obtain⟨ad,D,an⟩:=ub (P:=P) (jl:=i) S (i' e u) (i' e X) y j.a;have J:=(aG w g ai).run_underlying (K:=j.a);rw[aj]at J;refine⟨.slice (if l=cE 0 f then R else R.map (·.add (cE 0 f*a.size))) (cE p t-cE 0 f) (l-cE 0 f),?_,?_,by simp[W,U,O,Instr.sliceAt,J,Instr.slice,ad,tl (P:=P) (jl:=i) S (i' e u) (i' e X) y j.a]⟩
 .simp[W,U,O,Instr.sliceAt,J,Instr.slice,ad,(aG T a C).aU]
 cases n with
 |M ae F af _ _ _ N M v A=>
  refine Rd.M ae (F+cE 0 f*a.size) (λg B=>af (cE 0 f+g) B) x x ?_ (λg d=>N _ x) (λaq=>?_) (λg d B I q=>?_) (λg d B I q=>A _ x B I q)
  .intro o;cases t with
   |none=>simp only[zs]at o;have:=s o;simp only[cE];omega
   |some t=>cases o
  .rw[bp x,M x];simp[gg]
  have:=v (cE 0 f+g) x B I q;grind
def aR.ih(aG:bT P ag){d dst:ab}{l:Z}(v:r.op=.convert d dst l){w o:bh}{z e:IntKind}{j:Int}(p:bY ag d=b w)(x:bY ag dst=b o)(A:o.desc=.int e)(B:η l=aL (.int z j))(f:a9 e j):
  aR P r η h (aL (.int e j)) h:=by refine .aS λg s y q=>?_;have a:=q l;rw[B]at a;replace a:=b2 a;generalize t:s l=C at a;cases a;have u:=(aG d w p).run_underlying (K:=g.a);have n:=(aG dst o x).run_underlying (K:=g.a);rw[A]at n;exact⟨.int e j,by simp[W,v,t,convert,u,n,Conv.intToInt,qo f],Rd.int f,by simp[W,v,t,convert,u,n,Conv.intToInt]⟩
theorem aR.ij(aG:bT P ag){a dst:ab}{g:Z}(u:r.op=.convert a dst g){v o:bh}{w:e UInt8}(l:bY ag a=b v)(x:bY ag dst=b o)(z:o.desc=.string)(A:η g=aL (.R w)):
  aR P r η h (aL (.R w)) h:=by refine .aS λf p y n=>?_;have d:=n g;rw[A]at d;have t:=b2 d;generalize q:p g=B at t;cases t;have s:=(aG a v l).run_underlying (K:=f.a);have j:=(aG dst o x).run_underlying (K:=f.a);rw[z]at j;exact⟨_,by simp[W,u,q,convert,s,j];rfl,by grind,by simp[W,u,q,convert,s,j]⟩
def s9(a:Nat->e D):Nat->Nat->Option (e UInt8)
 |_,0=>b []
 |d,f+1=>match a d with
  |[.int .u8 h]=>match s9 a (d+1) f with
   |some g=>b (UInt8.ofNat h.toNat::g)
   |none=>k
  |_=>k
def Di{bi:Mem}{s:Nat->e D}:∀{h f:Nat}{j:e UInt8}{z:e I},s9 s f h=b j->c z=h->(∀g,g<h->∀l,(s (f+g))[0]?=b l->∃o,z[g]?=b o/\Rd bi o l) ->
  ∃O:e Int,z=O.map (Value.int .u8)/\j=O.map (λn=>UInt8.ofNat n.toNat)
 |0,f,j,z,d,p,_=>by cases d;exact⟨[],by grind,a⟩
 |h+1,f,j,[],d,p,_=>by grind
 |h+1,f,j,o::z,d,p,q=>by
  simp only[s9]at d;split at d
  .rename_i n B;split at d
   .rename_i C t;cases d;obtain⟨E,r,u⟩:=q 0 x (.int .u8 n) J
    simp at r;subst r;cases u;obtain⟨O,y,w⟩:=Di (z:=z) t J (λg v l A=>by
     have:=q (g+1) x l J
     simpa using this)
    exact⟨n::O,by grind,by grind⟩
   grind
  grind
def HJ{P:aw}(f:af){g:I->ByteArray->Sem (ForInStep ByteArray)}(h:∀d a,g (.int .u8 d) a=pure (.yield (a.push (UInt8.ofNat d.toNat)))):∀(O:e Int)(a:ByteArray),
  (forIn (m:=Sem) (O.map (Value.int .u8)) a g).run P f=.ok ⟨a.data++(O.map λd=>UInt8.ofNat d.toNat).toArray⟩ f
 |[],a=>by simp
 |d::O,a=>by simp only[oB,List.forIn_cons,h,cn,dv,cM];rw[HJ f h O];congr 2;apply qL;simp[ByteArray.push]
end
def a0(q:al P)(x:Nat)(a:e ah)(u:ah)(w:bd)(l:e Y)(y:s)(g:e Y):Prop:=
  ∀j n,bQ x l j w n->aZ l j->∀(o:az) (t:e Item) (h:e az) (p:ae->aj->Prop) (r:Nat) (d:e Nat),o.kind≠.early->a.toArray[r]?=b u ->
    (∀v f,bo g f v y->aZ g f->c6 l j g f->cf q p (G (o.i (n.put u.dst v) (.inRegion a.toArray d::t)) h) f)->cf q p (G (o.i n (.inRegion a.toArray (r::d)::t)) h) j
section
variable {q:al P}{c':bd}{A:s}
theorem a0.aT(N:∀h C f,bQ B h C F f->aS r (yielded all.toArray f.tmps)=i)(J:aR P r (bA F) h A aO):a0 q B all r F h A aO:=by
  intro C f w l R T I Q S v t u j;refine pP t u (N _ _ _ w) λp n=>?_;have o:=l.rely n;obtain⟨O,d,g,e,s,y,K⟩:=J p f.eval o (eO (w.rely n l));have x:=n.aH.trans (y.tolU o);have z:jB p d ((W f.eval r).events P p.a #[]):=⟨⟨h,aO,o,s,y⟩,K⟩;cases O with
  |value D=>exact⟨_,d,D,g,.inl rfl,z,j D d e s x⟩
  |skip=>simp only[x5]at e;subst e;exact⟨_,d,E,g,.inr ⟨a,a⟩,z,j E d M s x⟩
  |_=>exact e.elim
def a0.hp(p:∀h n e,bQ B h n F e->aS r (yielded all.toArray e.tmps)=m):a0 q B all r F h (.C []) h:=by intro n e t d w y o v x j u g f;exact .ctl d a (λ_=>Um g (p _ _ _ t)) λs l=>f E s ⟨[],a,M⟩ (d.rely l) l.aH
def e1.dY{aq:bd->e Y->Prop}(N:a0 q B all r F h A aO)(M:∀p,r.dst=b p->p<B)(Q:e1 q B all bw aq (fy r.dst A F) aO):e1 q B all (r::bw) aq F h:=by
  intro S I u d E n g D idx j a x;cases idx with
  |nil=>exact a.elim
  |cons O idx=>
  refine N S I u d E n g D O idx j a.1 λT z y l f=>Q z _ ?_ l E n g D idx j a.2 λJ s C t R v w o=>x J s C t R v w (f.trans o);cases K:r.dst with
  |none=>exact u.mono f d.len
  |some p=>exact(u.mono f d.len).put (M p K) y
end
abbrev bB:=e s->e Y->Option (s×e Y×e Prop)
def rB:e (Nat×bB)->Nat->Option bB
  |[],_=>k
  | (f,d)::g,a=>cond (aa f a) (b d) (rB g a)
def bI(g:al P)(h:ar)(j:bB):Prop:=∀args f d e a,j args f=b (d,e,a)->V a->ad g h args f d e
def a3(g:al P)(a:e (Nat×bB)):Prop:=∀d f,rB a d=b f->bI g d f
def a3.nil{a:al P}:a3 a []:=λ_ _ d=>by cases d
def a3.cons{g:al P}{h:ar}{l:bB}{d:e (Nat×bB)}(p:bI g h l)(o:a3 g d):a3 g ((h,l)::d):=by
  intro f j a;simp only[rB]at a;cases n:aa h f with
  |true=>grind[Nat.eq_of_beq_eq_true]
  |false=>rw[n]at a;exact o f j a
def De:C->e Nat->e Nat
  |.ptr d _,a=>cond (eW d a) a (a++[d])
  |.q d _ _ _,a=>cond (eW d a) a (a++[d])
  |.aD d,a=>cond (eW d a) a (a++[d])
  |.ak d _,a=>cond (eW d a) a (a++[d])
  |_,a=>a
def Dg:e C->e Nat->e Nat
  |[],a=>a
  |d::f,a=>Dg f (De d a)
def MY:s->e Nat->e Nat
  |.k (.S f),a=>De f a
  |.k (.agg d),a=>Dg d a
  |_,a=>a
def Df:e s->e Nat->e Nat
  |[],a=>a
  |d::f,a=>Df f (MY d a)
def ru(d:Nat):e Nat->Nat->Option Nat
  |[],_=>k
  |f::g,a=>match aa f d with|true=>b a|false=>ru d g (a+1)
def F2{h:Nat}:∀{d:e Nat} {f g:Nat},ru h d f=b g->f<=g/\d[g-f]?=b h
  |[],_,_,a=>by cases a
  |l::p,f,g,a=>by
    simp only[ru]at a;cases j:aa l h with
    |true=>simp_all
    |false=>
      rw[j]at a;obtain⟨n,o⟩:=F2 a;grind
def r'(a:e Nat):C->Option C
  |.ptr f g=>match ru f a 0 with|some d=>b (.ptr d g)|none=>k
  |.aD f=>match ru f a 0 with|some d=>b (.aD d)|none=>k
  |.ak f h=>match ru f a 0 with|some d=>b (.ak d h)|none=>k
  |.q _ _ _ _=>k
  |.c j=>b (.c j)
  |.any=>b .any
def xx(a:e Nat):e C->Option (e C)
  |[]=>b []
  |d::h=>match r' a d with
    |some f=>match xx a h with
      |some g=>b (f::g)
      |none=>k
    |none=>k
def BP(a:e Nat):s->Option s
  |.k (.S g)=>match r' a g with|some d=>b (.k (.S d))|none=>k
  |.k (.agg f)=>match xx a f with|some d=>b (.k (.agg d))|none=>k
  |.C _=>k
  |.any=>b .any
def sa(a:e Nat):e s->Option (e s)
  |[]=>b []
  |d::h=>match BP a d with
    |some f=>match sa a h with
      |some g=>b (f::g)
      |none=>k
    |none=>k
def IM{d e:C}(a:r' bb d=b e):ju bb e=d/\jP (c bb) e=i:=by
  cases d with
  |ptr g n=>
    simp only[r']at a;split at a
    · rename_i f bL
      cases a;exact B_
    grind
  |aD g=>
    simp only[r']at a;split at a
    · rename_i f bL
      cases a;exact B_
    grind
  |ak g o=>
    simp only[r']at a;split at a
    · rename_i f bL
      cases a;exact B_
    grind
  |q g j l h=>cases a
  |c p=>cases a;exact cF
  |any=>cases a;exact cF
def IO{a:e Nat}:∀{g f:e C},xx a g=b f->o8 a f=g/\jk (c a) f=i
  |[],f,d=>by cases d;exact cF
  |g::r,f,d=>by
    simp only[xx]at d;split at d
    · rename_i s p
      split at d
      · rename_i q h
        cases d;obtain⟨n,j⟩:=IM p;obtain⟨o,l⟩:=IO h;exact⟨by simp[o8,n,o],by simp[jk,j,l]⟩
      grind
    grind
def WA{d e:s}(a:BP bb d=b e):eZ bb e=d/\g6 (c bb) e=i:=by
  unfold BP at a;split at a
  · rename_i d
    split at a
    · rename_i l g;cases a;obtain⟨f,j⟩:=IM g;exact⟨by simp[eZ,n6,f],by exact cF⟩
    grind
  · rename_i h
    split at a
    · rename_i l g;cases a;obtain⟨f,j⟩:=IO g;exact⟨by simp[eZ,n6,f],by exact cF⟩
    grind
  · cases a
  · cases a;exact cF
def IN{a:e Nat}:∀{g f:e s},sa a g=b f->fA a f=g/\gv (c a) f=i
  |[],f,d=>by cases d;exact cF
  |g::r,f,d=>by
    simp only[sa]at d;split at d
    · rename_i t p
      split at d
      · rename_i q h
        cases d;obtain⟨n,j⟩:=WA p;obtain⟨o,l⟩:=IN h;exact⟨by simp[fA,n,o],by simp[gv,j,l]⟩
      grind
    grind
def y9(n:e (Nat×bB))(q:bd)(o:e Y)(p:Z)(O:e Z):Option (s×e Y×e Prop):=
  match g4 (bA q p)with
  |none=>k
  |some (r,h)=>match rB n r with
    |none=>k
    |some t=>
      let args:=j' (O.map (bA q)++fm h);let a:=Df args []
      match sa a args with
      |none=>k
      |some f=>match dj a o with
        |none=>k
        |some g=>match t f g with
          |none=>k
          |some (l,d,j)=>match d8 g,d8 d,eX a,aD (c a) d.length with
            |true,i,i,i=>b (eZ (a++gk (c o) (d.length-c a)) l,cZ a d o,j)
            |_,_,_,_=>k
theorem a0.gF{T:al P}{g:e (Nat×bB)}(x:a3 T g){O:Array Z}(H:∀h o j,bQ B h o F j->aS r (yielded all.toArray j.tmps)=i)(n:r.op=.call {callee:=.value dC,args:=O,argTypes:=dK}){q:ar}(p:g4 (bA F dC)=b (q,cap)){v:bB}(aF:rB g q=b v){a:e Y}{f:s}(D:sa bb (j' (O.toList.map (bA F)++fm cap))=b dg)(ag:dj bb h=b dq)(aA:v dg dq=b (f,a,cl))(ai:d8 dq=i)(aE:d8 a=i)(aj:eX bb=i)(ah:c bb<=a.length)(az:V cl):a0 T B all r F h (eZ (bb++gk (c h) (a.length-c bb)) f) (cZ bb a h):=by
  obtain⟨ax,af⟩:=IN D;intro o j N A aH aw an aG aJ R z E y;have ab:=x q v aF _ _ _ _ _ aA az;have ad:=eO N dC;unfold g4 at p;split at p
  case h_2=>cases p
  case h_1 rj zb he=>
    cases p;rw[he]at ad;have W:=b2 ad;generalize G:j.eval dC=aq at W;cases W with
    |fn u d K l ao t au w aB Q=>
      have C:u=[]:=j5 K;subst C;have ay:bW h o d (fm cap):=q0 (λM ak I=>⟨t M,w M J,Q M ak I⟩) l;have aC:bW h o (O.toList.map j.eval++d) (fA bb dg):=by rw[ax];exact tc ((nq (eO N) O.toList).append ay)
      obtain⟨fn,ae,X,U⟩:=ab.1;exact MJ z E (H _ _ _ N) A (λS=>(o9 n ae X U G S).1) (λS=>(o9 n ae X U G S).2) ab aC af ag ai aE aj ah y
theorem a0.call{f:al P}{d:e (Nat×bB)}(n:a3 f d){O:Array Z}{l:s}(v:∀h q g,bQ B h q F g->aS r (yielded all.toArray g.tmps)=i)(p:r.op=.call {callee:=.value dC,args:=O,argTypes:=dK})(a:y9 d F h dC O.toList=b (l,aO,cl))(t:V cl):a0 f B all r F h l aO:=by
  unfold y9 at a;split at a
  · cases a
  rename_i w j o;split at a
  · cases a
  rename_i x u;simp only at a;split at a
  · cases a
  grind[a0.gF,Nat.le_of_ble_eq_true]
def HD{h:s}(g:g6 0 h=i):eZ [] h=h:=by
  have n:∀{a:C},jP 0 a=i->ju [] a=a:=by intro a f;cases a<;>simp only[jP]at f<;>first|rfl|simp_all
  have q:∀{d:e C},jk 0 d=i->o8 [] d=d:=by
    intro d;induction d with
    |nil=>exact cF
    |cons a r j=>
      intro g;simp only[jk]at g;cases f:jP 0 a with
      |false=>grind
      |true=>simp only[f]at g;simp[o8,n f,j g]
  have l:∀{a:E1},nW 0 a=i->n6 [] a=a:=by
    intro a f;cases a with
    |S a=>simp[n6,n f]
    |agg p=>simp[n6,q f]
  have o:∀{d:e E1},m4 0 d=i->rV [] d=d:=by
    intro d;induction d with
    |nil=>exact cF
    |cons a r j=>
      intro g;simp only[m4]at g;cases f:nW 0 a with
      |false=>grind
      |true=>simp only[f]at g;simp[rV,l f,j g]
  cases h with
  |k t=>simp[eZ,l g]
  |C O=>simp[eZ,o g]
  |any=>rfl
def y_(h:e (Nat×bB))(l:bd)(j:Z)(O:e Z):Option (s×e Prop):=
  match g4 (bA l j)with
  |none=>k
  |some (n,f)=>match rB h n with
    |none=>k
    |some o=>match sa [] (j' (O.map (bA l)++fm f))with
      |none=>k
      |some a=>match o a []with
        |some (d,[],g)=>match g6 0 d with
          |true=>b (d,g)
          |false=>k
        |_=>k
theorem a0.hY{P:aw}{z:al P}{y:Nat}{f:e ah}{r:bd}{h:e Y}{w:ah}{l:e (Nat×bB)}(t:a3 z l){o:Z}{O:Array Z}{n:Array ab}{D:s}{g:e Prop}(J:∀h K A,bQ y h K r A->aS w (yielded f.toArray A.tmps)=i)(v:w.op=.call {callee:=.value o,args:=O,argTypes:=n})(d:AM.y_ l r o O.toList=b (D,g))(E:V g):a0 z y f w r h D h:=by
  unfold AM.y_ at d;split at d
  · cases d
  rename_i M B u;split at d
  · cases d
  rename_i N F;split at d
  · cases d
  rename_i q p;split at d
  case h_2=>cases d
  rename_i C x j;split at d
  case h_2=>cases d
  rename_i I;cases d;have:=a0.gF (h:=h) t J v u F p a j a a a (bE _) E;simpa[gk,HD I,cZ]using this
structure kW(B:Nat)(h:e Y)(d:aj)(x9:Nat->s)(t:Act):Prop where
 size:t.tmps.size=B
 defers:∃rD,h_ h d t.defers rD
 aC:∀w,bo h d (t.tmps.getD w E) (x9 w)
def kW.eZ{f:Nat->s}{g:Act}(e:kW B h d f g)(l:∀a h d j,bo h d j (f a)->bo h d j (look F a)):bQ B h d F g:=
 ⟨e.size,e.defers,λa=>l a _ _ _ (e.aC a)⟩
def eD(a:Edge):Bool:=Region.binds .any a
structure pr{P:aw}(q:al P)(B:Nat)(aP:Array ah)(F:bd)(bg:Nat->e Y)(A:Nat->s)(U:Nat->bd)(oU u:Nat->Bool)(a2:Nat->Nat->Prop)(idx:Nat->Option Nat)(c':bd):Prop where
 kg:P.follows Departure.mixedOrders=i
 cR:∀f r,aP[f]?=b r->∀ak∈r.after,eD ak=i->ak.on<f
 eL:∀f r N,aP[f]?=b r->r.dst=b N->idx N=b f/\N<B
 dp:∀N f,idx N=b f->∃r,aP[f]?=b r/\r.dst=b N
 aS:∀f,u f=m->bg (f+1)=bg f
 S:∀f r,aP[f]?=b r->oU f=m->a0 q B aP.toList r (U f) (bg f) (A f) (bg (f+1))
 all:∀f r,aP[f]?=b r->oU f=i->u f=m/\∀o,a0 q B aP.toList r (U f) (bg o) (A f) (bg o)
 e3:∀L:Nat->Prop,(∀f r,aP[f]?=b r->L f->∀ak∈r.after,eD ak=i->L ak.on)->∀f y,a2 f y->(L f->L y)/\∃r,aP[f]?=b r/\((∀ak∈r.after,eD ak=i->L ak.on)->L y)
 comp:∀f ac,f<aP.size->ac<aP.size->u ac=i->f≠ac->oU f=m->(ac<f/\a2 f ac)∨(f<ac/\a2 ac f)
 eG:∀f r,aP[f]?=b r->∀w h d ai,bo h d ai (match idx w with|some y=>(if ∃ak∈r.after,eD ak=i/\ak.on=y then A y else if ∃tR,aP[y]?=b tR/\∃ak∈tR.after,eD ak=i/\ak.on=f then look F w else .any)|none=>look F w)->bo h d ai (look (U f) w)
 fin:∀w h d ai,bo h d ai (match idx w with|some y=>A y|none=>look F w)->bo h d ai (look c' w)
open Classical in
noncomputable def fW(d:bd)(f:Nat->s)(idx:Nat->Option Nat)(L:Array Bool)(a:Nat):s:=
 match idx a with
 |some e=>if L.getD e m=i then f e else look d a
 |none=>look d a
theorem nZ:f∈aQ .any aP L↔∃h,aP[f]?=b h/\L.getD f i=m/\∀a∈h.after,eD a=i->L.getD a.on m=i:=by
 unfold aQ;simp only[lZ,pC,ct,iG];constructor
 .rintro⟨d,X,j⟩;rw[gW d]at j;simp only[lY,hO,Array.all_eq_true',hP,iG]at j;refine⟨aP[f],gW d,X,λa e g=>?_⟩;rcases j a e with n|n
  .unfold eD at g;grind
  grind
 rintro⟨h,d,X,j⟩;have l:f<aP.size:=(hM.1 d).1;refine⟨l,X,?_⟩;rw[d];simp only[lY,hO,Array.all_eq_true',hP,iG];intro a e;cases g:Region.binds .any a with
 |false=>grind
 |true=>exact .inr (j a e g)
section
variable {q:al P}{c':bd}{bg:Nat->e Y}{A:Nat->s}{U:Nat->bd}{oU u:Nat->Bool}{a2:Nat->Nat->Prop}{idx:Nat->Option Nat}
def pr.chain(j:pr q B aP F bg A U oU u a2 idx c'){e:Nat}:∀{o:Nat},e<=o->(∀d,e<=d->d<o->u d=m)->bg o=bg e
 |0,g,_=>by grind
 |o+1,g,h=>by
  rcases dJ o e with a|a
  .grind
  rw[j.aS o (h o a x),j.chain (o:=o) a (λd f l=>h d f x)]
def pr.last(l:pr q B aP F bg A U oU u a2 idx c')(D:∀r,r<aP.size->L.getD r m=i){a:Nat}{g:aj}{o:Act}(n:a<=aP.size)(J:∀j,j<aP.size->u j=i->(L.getD j m=i↔j<a))(p:kW B (bg a) d (fW F A idx L) o)(e:aZ (bg a) d)(h:c6 (bg 0) g (bg a) d):
  bQ B (bg aP.size) d c' o/\aZ (bg aP.size) d/\c6 (bg 0) g (bg aP.size) d:=by
 have w:bg aP.size=bg a:=l.chain n (λE x y=>by grind);rw[<-w]at p e h;refine⟨p.eZ λt v d C s=>l.fin t v d C ?_,e,h⟩;unfold fW at s;cases f:idx t with
 |none=>grind
 |some I=>
  simp only[f]at s⊢;obtain⟨K,z,_⟩:=l.dp _ _ f;grind
theorem lk(a:f<L.size):(L.setIfInBounds f i).getD y m=i↔y=f∨L.getD y m=i:=Ck
theorem vE:∀{l:e Bool}{f:Nat},l[f]?=b m->c ((l.set f i).filter (λa=>!a))+1=c (l.filter (λa=>!a))
 |[],_,d=>by grind
 |a::g,0,d=>by grind
 |a::g,f+1,d=>by simp at d;have:=vE (l:=g) d;cases a<;>simp[List.set_cons_succ]<;>omega
theorem Aw(a:Nat)(L:Array Bool):Region.linearise.go .any aP 0 a L []=[]:=by simp[Region.linearise.go]
theorem tK(e d:Nat)(L:Array Bool):Region.linearise.go .any aP (e+1) d L []=match(aQ .any aP L)[d % c (aQ .any aP L)]? with
  |some a=>a::Region.linearise.go .any aP e (d / c (aQ .any aP L)) (L.setIfInBounds a i) []
  |none=>[]:=by
 simp only[Region.linearise.go]
 change (match(aQ .any aP L)[d % c (aQ .any aP L)]? with
   |some a=>Region.linearise.go .any aP e (d / c (aQ .any aP L)) (L.setIfInBounds a i) [a]
   |none=>[].reverse)=_
 grind[linearise_go_acc]
def pr.eE(n:pr q B aP F bg A U oU u a2 idx c'){ag:ae->aj->Prop}{t:az}{z:e Item}(N:t.kind≠.early){cy:aj}(aN:∀d g,bQ B (bg aP.size) d c' g->aZ (bg aP.size) d->c6 (bg 0) cy (bg aP.size) d->cf q ag (G (t.i g z) aY) d):
  ∀(R:Nat) (L:Array Bool),L.size=aP.size->c (L.toList.filter (λt=>!t))<=R ->
   (∀f E,aP[f]?=b E->L.getD f m=i->∀r∈E.after,eD r=i->L.getD r.on m=i) ->
   ∀(o:Nat) (d:aj) (g:Act),o<=aP.size->(∀h,h<aP.size->u h=i->(L.getD h m=i↔h<o))->kW B (bg o) d (fW F A idx L) g->aZ (bg o) d->c6 (bg 0) cy (bg o) d ->
   ∀p,cf q ag (G (t.i g (.inRegion aP (Region.linearise.go .any aP R p L [])::z)) aY) d:=by
 have fin:∀(d:aj) (g:Act),bQ B (bg aP.size) d c' g->aZ (bg aP.size) d->c6 (bg 0) cy (bg aP.size) d->cf q ag (G (t.i g (.inRegion aP []::z)) aY) d:=
  λd g jC qA CI=>.ctl qA a (λ_=>ug) λa3 aJ=>aN a3 g (jC.rely aJ qA) (qA.rely aJ) (CI.trans aJ.aH)
 intro R;induction R with
 |zero=>
  intro L aV aR O o d g cI Ag m2 bc cK;have C:∀f,f<aP.size->L.getD f m=i:=by
   intro f v;have ay:L[f]'x∈L.toList:=Q;cases N:L[f]'x with
   |true=>simp[gJ,gW (by omega:f<L.size),N]
   |false=>
    have:L[f]'x∈L.toList.filter (λt=>!t):=lZ.2 ⟨ay,by grind⟩;grind
  intro p;rw[Aw];exact Jl
 |succ R a1=>
  intro L aV aR O o d g cI Ag m2 bc cK;intro p;rw[tK];cases bh:(aQ .any aP L)[p % c (aQ .any aP L)]? with
  |none=>
   have aU:aQ .any aP L=[]:=by
    cases aU:aQ .any aP L with
    |nil=>rfl
    |cons bk bj=>
     grind[Nat.mod_lt]
   have C:∀f,f<aP.size->L.getD f m=i:=by
    intro f;induction f using Nat.strongRecOn with
    |_ f ba=>
     intro v;cases N:L.getD f m with
     |true=>rfl
     |false=>
      have ay:f∈aQ .any aP L:=nZ.2 ⟨aP[f],gW v,by
       grind,λr Z ai=>by
       have:=n.cR f _ (gW v) r Z ai
       grind⟩
      grind
   exact Jl
  |some f=>
   have v:=bZ bh;obtain⟨E,w,a_,aS⟩:=nZ.1 v;have aH:f<aP.size:=(hM.1 w).1;have H:¬L.getD f m=i:=J;have T:=n.e3 (λW=>L.getD W m=i) O;have aF:∀l,a2 l f->¬L.getD l m=i:=λl ao aM=>H ((T l f ao).1 aM);have a':∀l,a2 f l->L.getD l m=i:=λl ao=>by grind
   have D:(L.setIfInBounds f i).size=aP.size:=J;have bb:c ((L.setIfInBounds f i).toList.filter (λt=>!t))<=R:=by have j:L.toList[f]?=b m:=Lx;grind[vE]
   have bf:∀W aE,aP[W]?=b aE->(L.setIfInBounds f i).getD W m=i->∀r∈aE.after,eD r=i->(L.setIfInBounds f i).getD r.on m=i:=uH
   have an:bQ B (bg o) d (U f) g:=m2.eZ λp bd d ad ab=>n.eG f E w p bd d ad (by
    unfold fW at ab;cases be:idx p with
    |none=>grind
    |some W=>
     simp only[be]at ab⊢;split
     .grind
     .split
      .grind
      .trivial)
   have aq:∀(M:e Y) (s:aj) (ad:I),c6 (bg o) d M s->bo M s ad (A f)->kW B M s (fW F A idx (L.setIfInBounds f i)) (g.put E.dst ad):=by
    intro M s ad X ab;cases aO:E.dst with
    |none=>
     refine⟨m2.size,m2.defers.imp λ_ j=>j.mono X.ext,λp=>?_⟩;have K:=(m2.aC p).mono X.ext bc.len;simp only[Act.put];unfold fW at K⊢;cases be:idx p with
     |none=>grind
     |some W=>
      exact JG
    |some aL=>
     obtain⟨aw,a9⟩:=n.eL f E aL w aO;refine⟨by simp[Act.put,m2.size],m2.defers.imp λ_ j=>j.mono X.ext,λp=>?_⟩;simp only[Act.put];by_cases r:aL=p
     .subst r;have aB:aL<g.tmps.size:=by rw[m2.size];omega
      simp only[gJ,pJ aB,hO];unfold fW;simp only[aw];rw[bF ((lk x).2 (.inl a))];exact ab
     have K:=(m2.aC p).mono X.ext bc.len;simp only[gJ]at K⊢;rw[nz r];unfold fW at K⊢;cases be:idx p with
     |none=>grind
     |some W=>
      exact JG
   have a4:∀(y:Nat),y<=aP.size->a0 q B aP.toList E (U f) (bg o) (A f) (bg y)->(∀h,h<aP.size->u h=i->((L.setIfInBounds f i).getD h m=i↔h<y)) ->
     cf q ag (G (t.i g (.inRegion aP (f::Region.linearise.go .any aP R (p / c (aQ .any aP L)) (L.setIfInBounds f i) [])::z)) aY) d:=by intro y ax aA V;have:=aA d g an bc t z aY ag f (Region.linearise.go .any aP R (p / c (aQ .any aP L)) (L.setIfInBounds f i) []) N J;simp only[va]at this;exact this λad s ab au X=>a1 _ D bb bf y s _ ax V (aq _ _ _ X ab) au (cK.trans X) _
   have same:u f=m->∀h,h<aP.size->u h=i->((L.setIfInBounds f i).getD h m=i↔h<o):=uH;cases aC:oU f with
   |true=>
    obtain⟨aT,S⟩:=n.all f E w aC;exact a4 o cI (S o) (same aT)
   |false=>
    have aG:=n.S f E w aC;have a7:bg f=bg o:=by
     rcases Nat.le_total o f with aK|aK
     .refine n.chain aK λl j ah=>?_;cases Z:u l with
      |false=>rfl
      |true=>
       exfalso;rcases n.comp f l aH x Z x aC with⟨_,af⟩|⟨af,_⟩
       .grind
       omega
     refine(n.chain aK λl j ah=>?_).symm;cases Z:u l with
     |false=>rfl
     |true=>
      exfalso;have a8:=(Ag l x Z).2 ah;by_cases ar:l=f
      .grind
      rcases n.comp f l aH x Z (λr=>ar r.symm) aC with⟨af,_⟩|⟨_,af⟩
      .omega
      grind
    rw[a7]at aG;cases a5:u f with
    |false=>
     rw[n.aS f a5,a7]at aG;exact a4 o cI aG (same a5)
    |true=>
     refine a4 (f+1) x aG λh ak al=>?_;rw[lk x];by_cases a6:h=f
     .grind
     simp only[a6,false_or];rcases n.comp f h aH ak al (λr=>a6 r.symm) aC with⟨j,af⟩|⟨j,af⟩
     .grind
     grind
end
def uQ(P:aw):e TypeDesc->e Field->Nat->Prop
 |[],[],_=>True
 |g::a,d::f,h=>d.name≠ "_"/\d.offset=h/\P.underlying d.type=b g/\(match g with|.int _|.string|.bool=>True|_=>False)/\uQ P a f (h+1)
 |_,_,_=>False
def tk(f:Nat)(O d:Array I)(a:Field)(_:Option Bool×Unit):Sem (ForInStep (Option Bool×Unit)):=
 if a.name= "_" then pure (ForInStep.yield (k,()))
 else do
  let e<-part a.type O a.offset;let j<-part a.type d a.offset;let g<-aM f a.type e j
  if g=m then pure (ForInStep.done (b m,()))else pure (ForInStep.yield (k,()))
def HI{P:aw}(o:af)(w:Nat)(O g:Array I):∀{l:e TypeDesc}{u:e Field}{h:Nat}{z y:e I}{p:Bool},uQ P l u h->l_ l z y=b p->(∀r f,z[r]?=b f->O[h+r]?=b f)->(∀r f,y[r]?=b f->g[h+r]?=b f) ->
  (Op.eqFields (w+1) O g u).run P o=.ok p o/\∀d,(forIn u (k,()) (tk (w+1) O g)).events P o d=d
 |[],[],h,[],[],p,_,n,_,_=>by cases n;simp[Op.eqFields]
 |[],[],h,_::_,_,p,_,n,_,_=>by cases n
 |[],[],h,[],_::_,p,_,n,_,_=>by cases n
 |[],_::_,h,_,_,p,N,_,_,_=>N.elim
 |_::_,[],h,_,_,p,N,_,_,_=>N.elim
 |B::l,q::u,h,[],_,p,_,n,_,_=>by cases n
 |B::l,q::u,h,_::_,[],p,_,n,_,_=>by cases n
 |B::l,q::u,h,f::z,t::R,p,⟨C,V,Q,X,Y⟩,n,D,S=>by
  simp only[l_]at n;cases x:p0 B f t with
  |none=>grind
  |some E=>
   cases W:l_ l z R with
   |none=>grind
   |some Z=>
    simp[x,W]at n;subst n;obtain⟨H,ad⟩:=HI o w O g Y W (λr f G=>by have:=D (r+1) f J;grind) (λr f G=>by have:=S (r+1) f J;grind);have K:O[h]?=b f:=by simpa using D 0 f a
    have F:g[h]?=b t:=by simpa using S 0 t a
    have T:(isAgg q.type).run P o=.ok m o:=by unfold isAgg underlying;cases B<;>simp at X<;>simp[Q]
    have A:∀(j:Array I) (v:I),j[h]?=b v->(part q.type j q.offset).run P o=.ok v o:=by intro j v M;unfold part;simp[T,V,M]
    have U:∀(j:Array I) (v:I),j[h]?=b v->∀d,(part q.type j q.offset).events P o d=d:=by intro j v M d;unfold part;simp[T,V,M]
    have ab:∀d,(aM (w+1) q.type f t).events P o d=d:=by
     intro d;unfold p0 at x;split at x<;>first
      |(cases x;done)
      |(unfold aM;simp[underlying,Q];done)
      |(unfold aM;simp[underlying,Q];split<;>rfl)
    have s:(aM (w+1) q.type f t).run P o=.ok E o:=by unfold p0 at x;grind[run_equalIn_int,run_equalIn_string,run_equalIn_bool]
    refine⟨?_,λd=>?_⟩
    .rw[Op.eqFields.eq_2,bF C];simp only[cn,A O f K,A g t F,s,cM];cases E
     .simp
     grind
    rw[List.forIn_cons];simp only[tk,C,cr,aE,cn,A O f K,A g t F,s,cM,aH,U O f K,U g t F,ab];cases E
    .simp
    simpa using ad d
def Rq{g:e Field}{h:e TypeDesc}(n:P.underlying w=b (.struct g.toArray))(p:P.stoodInHeld w=m)(v:P.eqGuardType P.depth w=m)(q:uQ P h g 0):
  P.eqGuardType P.depth w=m/\∀(f:af) (z d:e I) (j:Bool),l_ h z d=b j->(Op.equal w (.agg z.toArray) (.agg d.toArray)).run P f=.ok j f/\∀a,(Op.equal w (.agg z.toArray) (.agg d.toArray)).events P f a=a:=by
 refine⟨v,λf z d j s=>?_⟩;have A:P.fieldsOf w=g.toArray:=by unfold Program.fieldsOf;rw[n]
 have key:=HI f 9998 z.toArray d.toArray q s (λu y r=>by grind) (λu y r=>by grind);refine⟨?_,λa=>?_⟩
 rotate_left
 .show (aM (9999+1) w _ _).events P f a=a;have t:=key.2 a;unfold aM;simp[underlying,n,p];show Result.evThen ((forIn g (k,()) (tk 9999 z.toArray d.toArray)).run P f) ((forIn g (k,()) (tk (9998+1) z.toArray d.toArray)).events P f a) _=a;rw[t];cases(forIn g (k,()) (tk 9999 z.toArray d.toArray)).run P f with
  |ok o l=>obtain⟨x,_⟩:=o;cases x<;>rfl
  |halt B l=>rfl
 show(aM (9999+1) w _ _).run P f=_;grind[run_equalIn_agg]
def oN:e TypeDesc->e C->e C->Option Bool
 |[],[],[]=>b i
 |.int _::d,.c (.int n g)::a,.c (.int l h)::f=>match rv n l with
  |true=>match oN d a f with
   |some j=>b ((g==h)&&j)
   |none=>k
  |false=>k
 |.string::d,.c (.R g)::a,.c (.R h)::f=>match oN d a f with
  |some j=>b ((g==h)&&j)
  |none=>k
 |.bool::d,.c (.bool g)::a,.c (.bool h)::f=>match oN d a f with
  |some j=>b ((g==h)&&j)
  |none=>k
 |_,_,_=>k
def zC:∀{j:e TypeDesc}{g n:e C}{A:Bool}{z a:e I},oN j g n=b A->bJ h d z g->bJ h d a n->l_ j z a=b A:=by
 intro j;induction j with
 |nil=>
  intro g n A z a p s r;cases g<;>cases n<;>simp only[oN,reduceCtorEq]at p
  cases z<;>cases a<;>first|exact s.elim|exact r.elim|exact cF
 |cons K j t=>
  intro g n A z a p s r;unfold oN at p;split at p
  .grind
  .rename_i l y o u B J f dh heq;cases heq;split at p
   .rename_i cI;cases An cI;split at p
    .rename_i D X;cases p;cases z with
     |nil=>exact s.elim
     |cons w z=>cases a with
      |nil=>exact r.elim
      |cons x a=>
       obtain⟨q,v⟩:=s;obtain⟨w1,w2⟩:=r;cases(show Rd d.n w (.int o u)from q);cases(show Rd d.n x (.int o f)from w1);simp[l_,p0,t X v w2]
    grind
   grind
  .rename_i y u B f dh heq;cases heq;split at p
   .rename_i D X;cases p;cases z with
    |nil=>exact s.elim
    |cons w z=>cases a with
     |nil=>exact r.elim
     |cons x a=>
      obtain⟨q,v⟩:=s;obtain⟨w1,w2⟩:=r;cases(show Rd d.n w (.R u)from q)with
      |R E _=>
      cases(show Rd d.n x (.R f)from w1)with
      |R F _=>
      simp only[l_,p0,t X v w2];grind[ByteArray.toList_eq]
   grind
  .rename_i y u B f dh heq;cases heq;split at p
   .rename_i D X;cases p;cases z with
    |nil=>exact s.elim
    |cons w z=>cases a with
     |nil=>exact r.elim
     |cons x a=>
      obtain⟨q,v⟩:=s;obtain⟨w1,w2⟩:=r;cases(show Rd d.n w (.bool u)from q);cases(show Rd d.n x (.bool f)from w1);simp[l_,p0,t X v w2]
   grind
  grind
section
variable {ag:e (Nat×bh)}
def hn:BinOp->Bool->Option Bool
 |.eql,a=>b a
 |.neq,a=>b (!a)
 |_,_=>k
def C5{A cd:I}{a d:Bool}(N:match A,cd with|.agg _,.agg _=>True|.bool _,.bool _=>True|_,_=>False)(t:(Op.equal w A cd).run P K=.ok a K)(n:hn op a=b d):
  (binOp op w A cd).run P K=.ok (.bool d) K:=by
 cases op<;>simp only[hn,reduceCtorEq,eA]at n
 .exact KX
 exact KX
def EL{A cd:I}{d f:Bool}(g:match A,cd with|.agg _,.agg _=>True|.bool _,.bool _=>True|_,_=>False)(j:(Op.equal w A cd).run P K=.ok d K)(e:∀a,(Op.equal w A cd).events P K a=a)(h:hn op d=b f)(a:Array ay):
  (binOp op w A cd).events P K a=a:=by cases op<;>simp only[hn,reduceCtorEq,eA]at h<;>(cases A<;>cases cd<;>simp only at g<;>simp[binOp,e])
def OL(d:BinOp)(f:ab)(j l:Z)(O e:Array I)(h:af)(g:P.eqGuardType P.depth f=m)(a:Array ay):(eqGuard d f j l (.agg O) (.agg e)).events P h a=a:=by cases d<;>simp[eqGuard,g]
theorem aR.j4(aG:bT P ag){A cd:Z}(B:r.op=.binOp op w A cd ty){p:bh}(u:bY ag w=b p)(K:p.eq≠[]){f g:e C}{d q:Bool}(O:η A=.k (.agg f))(N:η cd=.k (.agg g))(v:oN p.eq f g=b d)(F:hn op d=b q):aR P r η h (aL (.bool q)) h:=by refine .aS λa Q J n=>?_;have j:=n A;have l:=n cd;rw[O]at j;rw[N]at l;obtain⟨z,E,t⟩:=j;obtain⟨o,D,s⟩:=l;obtain⟨x,heq⟩:=(aG w p u).iA K;have y:=C5 (A:=.agg z.toArray) (cd:=.agg o.toArray) M (heq a.a z o d (zC v t s)).1 F;have I:=EL (A:=.agg z.toArray) (cd:=.agg o.toArray) M (heq a.a z o d (zC v t s)).1 (heq a.a z o d (zC v t s)).2 F;refine⟨.bool q,?_,Rd.bool,by simp only[W,B,E,D,aE,run_eqGuard_agg a.a op w A cd _ _ x,OL op w A cd _ _ a.a x,aH,cn,cM,y,I,aT]⟩;simp only[W,B,E,D,cn,run_eqGuard_agg a.a op w A cd _ _ x,cM,y,dv]
theorem aR.h_(aG:bT P ag){A cd:Z}(u:r.op=.binOp op w A cd ty){p:bh}(o:bY ag w=b p)(D:p.desc=.bool){f g n:Bool}(F:η A=aL (.bool f))(E:η cd=aL (.bool g))(y:hn op (f==g)=b n):aR P r η h (aL (.bool n)) h:=by
 refine .aS λj x B l=>?_;have d:=l A;have e:=l cd;rw[F]at d;rw[E]at e;replace d:=b2 d;replace e:=b2 e;generalize t:x A=I at d;generalize v:x cd=J at e;cases d;cases e;have q:P.underlying w=b .bool:=by rw[(aG w p o).eC,D]
 have s:=C5 (P:=P) (K:=j.a) (A:=.bool f) (cd:=.bool g) M (run_equal_bool j.a w f g q) y;have C:∀a,(Op.equal w (.bool f) (.bool g)).events P j.a a=a:=λa=>by show(aM (9999+1) w _ _).events P j.a a=a;unfold aM;simp[underlying,q]
 have z:=EL (P:=P) (K:=j.a) (A:=.bool f) (cd:=.bool g) M (run_equal_bool j.a w f g q) C y;refine⟨.bool n,?_,Rd.bool,by simp only[W,u,t,v,aE,eqGuard_at_bool,aT,dv,aH,cn,cM,s,z]⟩;simp only[W,u,t,v,cn,eqGuard_at_bool,dv,cM,s]
def aR.j_{n o:Z}(s:r.op=.binOp .xor w n o ty){a d:Int}(C:η n=aL (.int .i64 a))(B:η o=aL (.int .i64 d))(J:0<=a)(x:0<=d):
  aR P r η h (aL (.int .i64 ((a.toNat ^^^ d.toNat:Nat):Int))) h:=by
 refine .aS λu t y l=>?_;have e:=l n;have f:=l o;rw[C]at e;rw[B]at f;replace e:=b2 e;replace f:=b2 f;generalize p:t n=D at e;generalize q:t o=E at f;cases e with|int g=>
 cases f with|int j=>
 have I:a.toNat ^^^ d.toNat<2 ^ 63:=by apply Nat.xor_lt_two_pow<;>simp only[a9]at g j<;>omega
 have z:a9 .i64 ((a.toNat ^^^ d.toNat:Nat):Int):=cF;refine⟨.int .i64 ((a.toNat ^^^ d.toNat:Nat):Int),?_,.int z,?_⟩
 rotate_left
 .simp only[W,s,p,q,aE,oO,vQ,aH,Go.binOp,e3,gD,cr,Op.intBits,cn,cM,dv,aT]
 have v:((BitVec.ofInt 64 a) ^^^ (BitVec.ofInt 64 d)).toNat=a.toNat ^^^ d.toNat:=by rw[BitVec.toNat_xor,BitVec.toNat_ofInt,BitVec.toNat_ofInt];simp only[a9]at g j;congr 1<;>omega
 have F:(BitVec.ofInt IntKind.i64.bits a ^^^ BitVec.ofInt IntKind.i64.bits d).toNat=a.toNat ^^^ d.toNat:=v;have A:(Go.binOp .xor w (.int .i64 a) (.int .i64 d)).run P u.a=.ok (.int .i64 ((a.toNat ^^^ d.toNat:Nat):Int)) u.a:=by simp only[Go.binOp,e3,gD,cr,Op.intBits,dv];grind[qo]
 simp only[W,s,p,q,cn,oO,cM,A,dv]
def aR.ig(aG:bT P ag){g dst:ab}{o:Z}(V:r.op=.convert g dst o){Q S l:bh}(I:bY ag g=b Q)(C:bY ag dst=b S)(ae:Q.desc=.slice T)(ao:S.desc=.string)(af:bY ag T=b l)(au:l.desc=.int .u8){ew:Bool}{w:e UInt8}(ah:∀f U,bo h f U (η o)->Rd f.n U (.M ew 1 p es))(L:s9 es 0 p=b w):aR P r η h (aL (.R w)) h:=by
 refine .di λf aA u N=>?_;have j:=ah f _ (N o);obtain⟨z,H,n⟩:=nf (P:=P) u j;obtain⟨A,q,aq,v,aw,ay,_⟩:=j.bx;have G:p<=9223372036854775807:=x;have ar:c z=p:=by rw[H.len];omega
 obtain⟨O,E,aj⟩:=Di (bi:=f.n) (z:=z) L ar (λal M ai aB=>by
  obtain⟨U,az,an⟩:=H.rd al M 0 ai J
  grind)
 have s:=(aG g Q I).run_underlying (K:=f.a);have F:=(aG dst S C).run_underlying (K:=f.a);have R:=(aG T l af).run_underlying (K:=f.a);rw[ae]at s;rw[ao]at F;rw[au]at R;have ad:c w<=9223372036854775807:=J;have ak:∃y:ByteArray,(Conv.bytesToString (.slice A p q)).run P f.a=.ok (.string y) f.a/\y.data.toList=w:=by
  cases A with
  |none=>
   have ax:w=[]:=by
    have:z=[]:=by rw[v]at n;have d:=n.1;simp[Builtin.firstCells]at d;grind
    grind
   exact⟨ByteArray.empty,by simp[Conv.bytesToString],by exact bx⟩
  |some B=>
   rw[v]at n;have d:=n.1;simp only[Builtin.firstCells,Nat.mul_one]at d;refine⟨⟨#[]++(O.map λo=>UInt8.ofNat o.toNat).toArray⟩,?_,by grind⟩;simp only[Conv.bytesToString,cn,d,cM,E];rw[List.forIn_toArray,HJ (P:=P) f.a (λ_ _=>rfl) O ByteArray.empty];rfl
 obtain⟨y,Y,D⟩:=ak;refine⟨.string y,?_,Rd.R D ad,?_⟩
 rotate_left
 .intro aC t;simp only[W,V,v,aE,convert,s,F,aH,cM,R,Y,cn,events_underlying,aT]at t;cases A with
  |none=>simp[Conv.bytesToString]at t
  |some B=>
   have X:=rg (P:=P) u (j.b9 (λ_ _=>rfl)) (K:=f.a) a;rw[v]at n X;have d:=n.1;simp only[Builtin.firstCells,Nat.mul_one]at d X;unfold Conv.bytesToString at t;simp only at t;rw[aE,d,aH,dp.bind (P:=P) ?_ λ_=>.pure]at t
   .grind [rU]
   rw[List.forIn_toArray];refine dp.gV (λo f=>?_) _ _;split
   .exact .pure
   exact .bind .stuck λ_=>.pure
 simp only[W,V,v,cn,convert,s,F,cM,R,Y,dv]
end
def pX(a:Z->s):e Z->Option (e D)
 |[]=>b []
 |h::g=>match a h with
  |.k (.S (.c d))=>match pX a g with
   |some f=>b (d::f)
   |none=>k
  |_=>k
def zg{t:e Y}{o:aj}{h:Z->I}{g:Z->s}(n:∀r,bo t o (h r) (g r)):∀{O:e Z}{a:e D},pX g O=b a->c O=c a/\∀(f:Nat)(j:D),a[f]?=b j->∃p,(O.map h)[f]?=b p/\Rd o.n p j
 |[],a,d=>by cases d;grind
 |q::A,a,d=>by
  simp only[pX]at d;split at d
  .rename_i j v;split at d
   .rename_i z u;cases d;obtain⟨x,w⟩:=zg n u;refine⟨by grind,λf y l=>?_⟩;cases f with
    |zero=>
     simp at l;subst l;have:=n q;rw[v]at this;exact⟨h q,by simp,b2 this⟩
    |succ f=>grind
   grind
  grind
section
variable {ag:e (Nat×bh)}
theorem aR.makeFunc{fn:Fn}{d f:Array Z}(o:r.op=.makeFunc fn d f){n l:e D}(t:pX η d.toList=b n)(v:pX η f.toList=b l):aR P r η h (aL (.fn fn n l)) h:=by
 refine .aS λz a s g=>?_;obtain⟨p,q⟩:=zg g t;obtain⟨x,y⟩:=zg g v;have u:d.map a=(d.toList.map a).toArray:=J;have w:f.map a=(f.toList.map a).toArray:=J;refine⟨.func fn (d.toList.map a).toArray (f.toList.map a).toArray,?_,?_,by simp only[W,o,Instr.makeFunc];rfl⟩
 .simp only[W,o,Instr.makeFunc,u,w];rfl
 refine Rd.fn _ _ J J (λj=>((d.toList.map a)[j]?).getD E) (λj=>((f.toList.map a)[j]?).getD E) J J J ?_;grind
def tG:TypeDesc->Bool
 |.interface _=>i
 |_=>m
def wy(d:ab):s->Option D
 |.k (.S (.c e))=>b (.bR d e)
 |.k (.agg a)=>match hA a with
  |some f=>b (.b' d f)
  |none=>k
 |_=>k
def SN{j:s}{e:D}(a:wy w j=b e)(f:bo h d ai j):Rd d.n (.iface w ai) e:=by
 unfold wy at a;split at a
 .cases a;exact Rd.bR (b2 f) (b2 f).cell
 .split at a
  .rename_i r l;cases a;obtain⟨z,rfl,o⟩:=f;have g:=q3 l o;refine Rd.b' (by have:=g.cr;grind) (λy=>(z[y]?).getD E) (λy n=>by grind) λy e n=>?_;obtain⟨ai,q,p⟩:=g.get (y:=y) (t:=.c e) J;rw[q];exact p
  grind
 grind
theorem aR.makeInterface(aG:bT P ag){d:ab}{f:Z}(p:r.op=.makeInterface d f){a:bh}(j:bY ag d=b a)(e:tG a.desc=m){n:D}(s:wy d (η f)=b n):aR P r η h (aL n) h:=by
 refine .aS λu q t l=>?_;have o:=(aG d a j).run_underlying (K:=u.a);refine⟨.iface d (q f),?_,SN s (l f),?_⟩
 rotate_left
 .simp only[W,p,Instr.makeInterface,aE,cn,o,aH,cM,events_underlying];cases g:a.desc<;>rw[g]at e<;>first|(cases e;done)|simp
 simp only[W,p,Instr.makeInterface,cn,o,cM];cases g:a.desc<;>rw[g]at e<;>first|(cases e;done)|simp
def sd(a:bh):Option E1:=match a.agg with
 |true=>b (.agg (a.zero.map C.c))
 |false=>k
def WY{j:bh}(p:en P w j){n:E1}(f:sd j=b n):∃a,(zeroValue w).run P d.a=.ok a d.a/\eh h d a n:=by
 obtain⟨a,u,l⟩:=p.hB h d;refine⟨a,u,?_⟩;obtain⟨v,o,t,x,A,s,y,⟨g,e⟩,z⟩:=p.cK;have q:o=a:=by
  have:(zeroValue w).run P d.a=.ok o d.a:=by simp[zeroValue,typeInfo,t,s]
  grind
 subst q;unfold sd at f;cases r:j.agg with
 |true=>
  rw[r]at f e;simp only[cN]at e;cases f;rw[e]at l⊢;exact⟨g.toList,by simp,by simpa[Value.cells]using l⟩
 |false=>grind
def qP(g:ab)(f:bh):D->Option (E1×Bool)
 |.bR a h=>match aa a g with
  |true=>b (.S (.c h),i)
  |false=>match sd f with
   |some d=>b (d,m)
   |none=>k
 |.b' a e=>match aa a g with
  |true=>b (.agg (e.map C.c),i)
  |false=>match sd f with
   |some d=>b (d,m)
   |none=>k
 |.bk=>match sd f with
  |some d=>b (d,m)
  |none=>k
 |_=>k
theorem aR.typeAssert(aG:bT P ag){Y:Z}{V q:ab}(al:r.op=.typeAssert Y V q i){u:bh}(S:bY ag q=b u)(aq:tG u.desc=m){y:D}(ar:η Y=aL y){A:E1}{x:Bool}(j:qP q u y=b (A,x)):
  aR P r η h (.C [A,.S (.c (.bool x))]) h:=by
 refine .aS λd U aw ad=>?_;have l:=ad Y;rw[ar]at l;replace l:=b2 l;generalize ao:U Y=B at l;have N:=(aG q u S).run_underlying (K:=d.a);have key:∀(o:I) (x:Bool),(Instr.typeAssert B V q i).run P d.a=.ok (.tuple #[o,.bool x]) d.a->eh h d o A->(Instr.typeAssert B V q i).events P d.a #[]=#[]->∃o,(W U r).run P d.a=.ok (.value o) d.a/\bo h d o (.C [A,.S (.c (.bool x))])/\(W U r).events P d.a #[]=#[]:=by intro o x l E n;refine⟨.tuple #[o,.bool x],?_,⟨[o,.bool x],a,E,Rd.bool,M⟩,by simp only[W,al,ao,aE,l,n,aH,aT]⟩;simp only[W,al,ao,cn,l,cM,dv]
 have fail:∀t,sd u=b t->(∀O,(zeroValue q).run P d.a=.ok O d.a->(Instr.typeAssert B V q i).run P d.a=.ok (.tuple #[O,.bool m]) d.a/\(Instr.typeAssert B V q i).events P d.a #[]=#[])->A=t->x=m->∃o,(W U r).run P d.a=.ok (.value o) d.a/\bo h d o (.C [A,.S (.c (.bool x))])/\(W U r).events P d.a #[]=#[]:=by intro t p ae Q g;subst Q g;obtain⟨O,n,G⟩:=WY (h:=h) (aG q u S) (d:=d) p;grind
 have F:∀an,u.desc≠.interface an:=by intro an A;rw[A]at aq;cases aq
 cases l with
 |@bR w o y E au=>
  simp only[qP]at j;cases g:aa w q with
  |true=>
   rw[g]at j;cases j;have aj:=c1 g;subst aj;refine key o i ?_ E ?_<;>
   .unfold Instr.typeAssert;simp only[cn,N,cM,aE,aH,events_underlying];cases v:u.desc<;>first|(exact absurd v (F _))|simp
  |false=>
   rw[g]at j;have ah:w≠q:=λA=>by grind[Nat.beq_refl]
   simp only at j;split at j
   .rename_i t p;cases j;refine fail _ p (λO n=>⟨?_,?_⟩) a a<;>
    .unfold Instr.typeAssert;simp only[cn,N,cM,aE,aH,events_underlying];cases v:u.desc<;>first|(exact absurd v (F _))|simp[ah,n]
   grind
 |@b' w z f T az ay s=>
  simp only[qP]at j;cases g:aa w q with
  |true=>
   rw[g]at j;cases j;have aj:=c1 g;subst aj;refine key (.agg z.toArray) i ?_ ⟨z,a,?_⟩ ?_
   rotate_left 2
   .unfold Instr.typeAssert;simp only[N,aE,aH,events_underlying];cases v:u.desc<;>first|(exact absurd v (F _))|simp
   .unfold Instr.typeAssert;simp only[cn,N,cM];cases v:u.desc<;>first|(exact absurd v (F _))|simp
   have go:∀(z:e I) (f:e D),c z=c f->(∀(X:Nat) (y:D),f[X]?=b y->∃o,z[X]?=b o/\Rd d.n o y)->bJ h d z (f.map C.c):=by
    intro z;induction z with
    |nil=>intro f T _;cases f with|nil=>trivial|cons _ _=>grind
    |cons o z af=>
     intro f T R;cases f with
     |nil=>grind
     |cons y f=>
      obtain⟨aA,ak,ai⟩:=R 0 y rfl;simp at ak;subst ak;exact⟨ai,af f J (λX y ax=>by simpa using R (X+1) y J)⟩
   grind
  |false=>
   rw[g]at j;have ah:w≠q:=λA=>by grind[Nat.beq_refl]
   simp only at j;split at j
   .rename_i t p;cases j;refine fail _ p (λO n=>⟨?_,?_⟩) a a<;>
    .unfold Instr.typeAssert;simp only[cn,N,cM,aE,aH,events_underlying];cases v:u.desc<;>first|(exact absurd v (F _))|simp[ah,n]
   grind
 |bk=>
  simp only[qP]at j;split at j
  .rename_i t p;cases j;refine fail _ p (λO n=>⟨?_,?_⟩) a a<;>
   .unfold Instr.typeAssert;simp only[cn,N,cM,aE,aH,events_underlying];cases v:u.desc<;>first|(exact absurd v (F _))|simp[n]
  grind
 |_=>simp[qP]at j
end
def s3(g:BinOp)(h:IntKind)(f:Int)(d:IntKind)(a:Int):Option (Int×e Prop):=
 match h with
 |.u64=>match g with
  |.shl=>b (((f.toNat*2 ^ a.toNat % 18446744073709551616:Nat):Int),[0<=a,a<=64])
  |.shr=>b (((f.toNat / 2 ^ a.toNat:Nat):Int),[0<=a,a<=64])
  |.and=>match d with|.u64=>b (((f.toNat &&& a.toNat:Nat):Int),[])|_=>k
  |.xor=>match d with|.u64=>b (((f.toNat ^^^ a.toNat:Nat):Int),[])|_=>k
  |_=>k
 |_=>k
section
variable {ag:e (Nat×bh)}
theorem C8{a:Int}(d:a9 .u64 a):(BitVec.ofInt IntKind.u64.bits a).toNat=a.toNat:=by rw[BitVec.toNat_ofInt];simp only[a9]at d;simp only[IntKind.bits];omega
def T9{f e:IntKind}{a j l:Int}(r:ab)(d:s3 op f a e j=b (l,cl))(g:V cl)(h:a9 f a)(t:a9 e j)(o:af):
  a9 f l/\(Go.binOp op r (.int f a) (.int e j)).run P o=.ok (.int f l) o/\(Go.binOp op r (.int f a) (.int e j)).events P o #[]=#[]:=by
 unfold s3 at d;split at d
 .split at d
  .cases d;obtain⟨s,q⟩:0<=j/\j<=64:=g;have w:a.toNat*2 ^ j.toNat % 18446744073709551616<18446744073709551616:=oA _ cz;simp only[a9]at h;refine⟨by simp only[a9];omega,?_⟩;have n:IntKind.wrap .u64 (a*2 ^ (min j.toNat IntKind.u64.bits))=((a.toNat*2 ^ j.toNat % 18446744073709551616:Nat):Int):=by have p:min j.toNat IntKind.u64.bits=j.toNat:=LN;have u:a=(a.toNat:Int):=x;rw[p,u];simp only[IntKind.wrap,IntKind.bits,IntKind.signed,dB];grind
   exact Kt
  .cases d;obtain⟨s,q⟩:0<=j/\j<=64:=g;simp only[a9]at h;have v:a.toNat / 2 ^ j.toNat<=a.toNat:=Nat.div_le_self _ _;refine⟨by simp only[a9];grind,?_⟩;have n:a.fdiv (2 ^ (min j.toNat IntKind.u64.bits))=((a.toNat / 2 ^ j.toNat:Nat):Int):=by have p:min j.toNat IntKind.u64.bits=j.toNat:=LN;grind
   exact Kt
  .split at d
   .cases d;have q:a.toNat &&& j.toNat<=a.toNat:=Nat.and_le_left;have N:a9 .u64 ((a.toNat &&& j.toNat:Nat):Int):=by simp only[a9]at h⊢;omega
    refine⟨N,?_⟩;have ak:(BitVec.ofInt IntKind.u64.bits a &&& BitVec.ofInt IntKind.u64.bits j).toNat=a.toNat &&& j.toNat:=by grind[C8]
    exact Lu
   grind
  .split at d
   .cases d;have N:a9 .u64 ((a.toNat ^^^ j.toNat:Nat):Int):=by simp only[a9]at h t⊢;have:a.toNat ^^^ j.toNat<2 ^ 64:=Nat.xor_lt_two_pow x x;omega
    refine⟨N,?_⟩;have ak:(BitVec.ofInt IntKind.u64.bits a ^^^ BitVec.ofInt IntKind.u64.bits j).toNat=a.toNat ^^^ j.toNat:=by grind[C8]
    exact Lu
   grind
  grind
 grind
theorem aR.bits{j l:Z}{g f:IntKind}{s t n:Int}(y:r.op=.binOp op w j l ty)(F:η j=aL (.int g s))(D:η l=aL (.int f t))(C:s3 op g s f t=b (n,cl))(q:V cl):
  aR P r η h (aL (.int g n)) h:=by
 refine .aS λI z A e=>?_;have a:=e j;have d:=e l;rw[F]at a;rw[D]at d;replace a:=b2 a;replace d:=b2 d;generalize u:z j=J at a;generalize v:z l=K at d;cases a with|int o=>
 cases d with|int p=>
 obtain⟨E,x,B⟩:=T9 (P:=P) w C q o p I.a;exact⟨.int g n,by simp only[W,y,cn,u,v,oO,cM,x,dv],.int E,by simp[W,y,u,v,oO,vQ,x,B]⟩
end
def kq(g:Nat)(a:e D)(d:Nat->e D):Nat->e D:=λf=>if f=g then a else d f
def se(g d:Nat)(h:e D)(a:Nat->e D):Nat->e D:=λf=>if g<=f/\f<d then h else a f
section
variable {ag:e (Nat×bh)}{X:Nat}{o:Nat}
def Dd(B:aZ h d)(q:h[l]?=b (.A T o p es)){j r:Nat}(x:ck h d ai (.ak l (.bM X j f r)))(F:X=p):
  ∃e g z a,d.m[l]?=b ⟨.slice (b ⟨e,0,k⟩) 0 g,[e]⟩/\ai=.pointer (b ⟨e,f*j+r,k⟩)/\d.a.heap[e]?=b (.cells (z++a).toArray T (0,0))/\c (z++a)=g*o/\p<=g/\g<=9223372036854775807/\ez d.n o p es z/\∀v,d.n e v=k:=by
 obtain⟨K,⟨e,g,t,A⟩,_,C⟩:=x;obtain⟨L,s,n⟩:=(C _ _ _ _ q).2 F;rw[t]at n;rcases B.box l _ L q s with⟨_,rfl⟩|⟨D,jb,z,a,rfl,I,w,J,y,E,u⟩
 .cases n
 cases n;exact⟨e,g,z,a,s,A,I,w,J,y,E,u⟩
def Bd{X:Nat->I}:∀{bK:e D}{a2:Nat},(∀f g,bK[f]?=b g->Rd d.n (X (a2+f)) g)->bJ h d ((aI (c bK)).map λf=>X (a2+f)) (bK.map C.c)
 |[],a2,_=>trivial
 |l::bK,a2,j=>by rw[fR,uZ];refine⟨j 0 l a,?_⟩;have:=Bd (bK:=bK) (a2:=a2+1) (λf g n=>by have:=j (f+1) g J;rwa [show a2+1+f=a2+(f+1) by omega]);grind[Function.comp_def]
theorem aR.iV(aG:bT P ag){j n:Z}(Q:r.op=.indexAddr w j n){q d:bh}(p:bY ag w=b q)(s:q.desc=.slice T)(J:bY ag T=b d){y v:Nat}{e:Int}{t:IntKind}(M:η j=dR l (.M X d.size y v))(G:η n=aL (.int t e))(ah:0<=e)(R:e<v):aR P r η h (dR l (.bM X d.size (y+e.toNat) 0)) h:=by
 refine .aS λI z S f=>?_;have F:=f j;rw[M]at F;have a:=f n;rw[G]at a;replace a:=b2 a;generalize C:z n=ad at a;cases a;have E:=F;change ck h I (z j) (.ak l _)at E;obtain⟨u,⟨ai,O,B,o,N,L,H,af,ae,Y⟩,V,U⟩:=E;obtain⟨A,rfl,rfl⟩:=Y x;have D:=(aG w q p).run_underlying (K:=I.a);rw[s]at D;obtain⟨g,rfl⟩:∃g:Nat,e=g:=⟨e.toNat,by omega⟩
 have ab:g<v:=x;refine⟨.pointer (b ⟨A,(y+g)*d.size,k⟩),?_,⟨u,⟨A,o,ae,by simp⟩,V,U⟩,?_⟩<;>
 simp[W,Q,N,C,Instr.indexAt,asIntOf,D,(aG T d J).aU,gg,ab,iL]
def aR.iH(aG:bT P ag){d:Z}{s:Nat}(t:r.op=.fieldAddr w d s){n o:Nat}{A:bh}(E:η d=dR l (.bM X n f o))(u:kg ag w s=b (off,A)):aR P r η h (dR l (.bM X n f (o+off))) h:=by refine .aS λC D z g=>?_;have a:=g d;rw[E]at a;have p:=a;change ck h C (D d) (.ak l _)at p;obtain⟨j,⟨q,e,B,v⟩,y,x⟩:=p;exact⟨.pointer (b ⟨q,f*n+o+off,k⟩),by simp[W,t,v,w7 aG u],⟨j,⟨q,e,B,by grind⟩,y,x⟩,by simp[W,t,v,vR aG u]⟩
theorem aR.jv{d:Z}(o:r.op=.nilCheck d){p q:Nat}(w:η d=dR l (.bM X p f q)):aR P r η h (dR l (.bM X p f q)) h:=by refine .aS λx n u e=>?_;have a:=e d;rw[w]at a;have s:=a;have g:=a;change ck h x (n d) (.ak l _)at g;obtain⟨v,⟨y,t,B,j⟩,A,z⟩:=g;exact⟨n d,by simp[W,o,j],s,by simp[W,o,j]⟩
theorem aR.jc(aG:bT P ag){d:Z}(y:r.op=.call {callee:=.builtin .len,args:=#[d],argTypes:=dK})(t:dK[0]?=b w){g:bh}(e:bY ag w=b g)(x:g.desc=.slice T){I B j:Nat}(s:η d=dR l (.M X I B j)):aR P r η h (aL (.int .i64 j)) h:=by
 refine .aS λq F z f=>?_;have a:=f d;rw[s]at a;have n:=a;change ck h q (F d) (.ak l _)at n;obtain⟨A,⟨J,u,o,v,E,C,Q,D,R,O⟩,N,M⟩:=n;have p:=(aG w g e).run_underlying (K:=q.a);rw[x]at p;refine⟨.int .i64 j,?_,Rd.int cF,?_⟩<;>
 simp[W,y,resolve,invoke,builtin,Builtin.len_,E,p,goInt,t]
theorem aR.sliceB(aG:bT P ag){y:Z}{t o:Option Z}(O:r.op=.slice w y t o k){E e:bh}(ah:bY ag w=b E)(s:E.desc=.slice T)(U:bY ag T=b e){R u:Nat}{j v:Option Int}(Y:η y=dR l (.M X e.size R u))(p:jH η t=b j)(J:jH η o=b v)(q:V (ib u j v)):aR P r η h (dR l (.M X e.size (R+cE 0 j) (cE u v-cE 0 j))) h:=by
 refine .aS λf I ad d=>?_;have n:=d y;rw[Y]at n;have N:=n;change ck h f (I y) (.ak l _)at N;obtain⟨F,⟨M,z,g,B,D,Q,G,ak,aj,ai⟩,af,ae⟩:=N;obtain⟨S,al,H⟩:=ub (P:=P) (jl:=i) Q (i' d p) (i' d J) q f.a;have A:=(aG w E ah).run_underlying (K:=f.a);rw[s]at A;refine⟨.slice (if g=cE 0 j then M else M.map (·.add (cE 0 j*e.size))) (cE u v-cE 0 j) (g-cE 0 j),?_,⟨F,⟨_,z,_,B,a,by omega,by omega,ak,aj,λC=>?_⟩,af,ae⟩,by simp[W,O,D,Instr.sliceAt,A,Instr.slice,S,tl (P:=P) (jl:=i) Q (i' d p) (i' d J) q f.a]⟩
 .simp[W,O,D,Instr.sliceAt,A,Instr.slice,S,(aG T e U).aU]
 obtain⟨ab,rfl,rfl⟩:=ai x;refine⟨ab,a,?_⟩;rw[bp x];simp[gg,iL]
def aR.jk(aG:bT P ag){F:Z}(O:r.op=.load w F){g:Nat}{v:bh}{ak:E1}(ad:η F=dR l (.bM X o f g))(x:X=p)(A:h[l]?=b (.A T o p es))(u:bY ag w=b v)(H:gl v ((fv g (es f)).map C.c)=b ak)(V:f<p):aR P r η h (.k ak) h:=by
 refine .di λd ab y B=>?_;have t:=B F;rw[ad]at t;obtain⟨j,ae,z,al,Y,M,af,an,L,aq,G,ao⟩:=Dd y A t x;have ar:=G.bo f V;let X:Nat->I:=λa=>z.getD (f*o+a) E;have x:∀a n,(fv g (es f))[a]?=b n->z[f*o+(g+a)]?=b (X (g+a))/\Rd d.n (X (g+a)) n:=by intro a n e;rw[pZ,ow]at e;obtain⟨q,ai,au⟩:=G.rd f V (g+a) n e;grind
 have s:=Bd (h:=h) (d:=d) (X:=X) (bK:=fv g (es f)) (a2:=g) (λa n e=>(x a n e).2);have N:∀(a:Nat) (q:I),((aI (c (fv g (es f)))).map λa=>X (g+a))[a]?=b q->d.a.cell? ⟨j,f*o+g+a,k⟩=b q:=by
  intro a q e;simp only[lW]at e;by_cases R:a<c (fv g (es f))
  .simp[R]at e;subst e;have ah:=(x a _ (bu R)).1;simp only[aJ,af];grind
  grind
 obtain⟨q,S,D⟩:=qh (d:=d) (h:=h) (P:=P) (aG w v u) (j:=j) (off:=f*o+g) (ak:=ak) N s H;refine⟨q,by simp[W,O,M,Instr.loadAt,aU,S],D,λK U=>?_⟩;have aj:K∈(loadVar w ⟨j,f*o+g,k⟩).events P d.a #[]:=by
  have ak:W ab r=(do pure (.value (<-loadVar w ⟨j,f*o+g,k⟩))):=by simp[W,O,M,Instr.loadAt,aU]
  rw[ak]at U;simpa[S]using U
 obtain⟨a,e,rfl⟩:=mY (aG w v u) (p:=c (fv g (es f))) (λa e=>⟨_,N a (X (g+a)) J⟩) (by have:=pe H;grind) K aj;exact nM (bZ Y) Q
def ez.put{a:e I}{g:Nat}{l w:e D}(r:ez bi o p es z)(t:f<p)(R:h4 g l (es f)=b w)(F:c a=c l)(O:∀(j:Nat)(q:D),l[j]?=b q->∃ai,a[j]?=b ai/\Rd bi ai q):
  f*o+g+c a<=c z/\ez bi o p (kq f w es) (z.take (f*o+g)++a++z.drop (f*o+g+c a)):=by
 obtain⟨E,y⟩:=Bw R;have V:=r.bo f t;have W:f*o+o<=p*o:=by have:=gC o (show f+1<=p by omega);grind
 have T:=r.len;have M:f*o+g+c a<=c z:=x;have N:∀n,(z.take (f*o+g)++a++z.drop (f*o+g+c a))[n]?=if n<f*o+g then z[n]? else if n<f*o+g+c a then a[n-(f*o+g)]? else z[n]?:=by
  intro n;have A:c (z.take (f*o+g))=f*o+g:=J;by_cases s:n<f*o+g
  .grind
  rw[bp s];by_cases v:n<f*o+g+c a
  .grind
  rw[bp v,gK J,ow];grind
 refine⟨M,⟨by grind,λh u=>?_,λh u j q d=>?_⟩⟩
 .simp only[kq];split
  .grind
  exact r.bo h u
 simp only[kq]at d;rw[N];split at d
 .rename_i C;subst C;rw[y]at d;by_cases s:j<g
  .rw[mO,jE J,kw,bF s]at d;rw[bF x];exact r.rd h t j q d
  by_cases v:j<g+c l
  .rw[mO,gK J,jE J]at d;obtain⟨ai,B,Q⟩:=O _ q d;refine⟨ai,?_,Q⟩;rw[bp x,bF x,<-B];congr 1;grind
  rw[gK J,ow]at d;rw[bp x,bp x];refine r.rd h t j q ?_;grind
 rename_i C;have U:j<o:=by have:=(cD.1 d).1;have:=r.bo h u;omega
 rcases dJ h f with K|S
 .have:(h+1)*o<=f*o:=gC o K;rw[iL,Nat.one_mul]at this;rw[bF x];exact r.rd h u j q d
 have:(f+1)*o<=h*o:=gC o x;rw[iL,Nat.one_mul]at this;rw[bp x,bp x];exact r.rd h u j q d
def aZ.gl(s:aZ h d)(u:h[l]?=b (.A T o p es)){g f:e I}{n:Nat}(R:d.m[l]?=b ⟨.slice (b ⟨j,0,k⟩) 0 n,[j]⟩)(W:c (z++g)=n*o)(A:p<=n)(B:n<=9223372036854775807){q:Nat->e D}(v:d.a.heap[j]?=b (.cells (z++g).toArray T (0,0)))(S:ez d.n o p q f)(X:c f=c z)(M:∀E,d.n j E=k):
  aZ (h.set l (.A T o p q)) {d with a:=d.a.setRow j (f++g).toArray}/\cA h d (h.set l (.A T o p q)) {d with a:=d.a.setRow j (f++g).toArray}:=by
 have x:(d.a.setRow j (f++g).toArray).heap[j]?=b (.cells (f++g).toArray T (0,0)):=setRow_heap d.a j _ _ T _ v;have w:∀r,r≠j->(d.a.setRow j (f++g).toArray).heap[r]?=d.a.heap[r]?:=λr t=>setRow_other d.a j r _ t;have U:d.m.set l ⟨.slice (b ⟨j,0,k⟩) 0 n,[j]⟩=d.m:=kT;obtain⟨N,t2⟩:=s.bQ (b0:=d.n) (a5:=d.a.setRow j (f++g).toArray) (dN:=.A T o p q) (b7:=⟨.slice (b ⟨j,0,k⟩) 0 n,[j]⟩) u R ⟨λ_=>rfl,bE _⟩ Q
  (λr t C=>w r J) (λ_ _ _ _=>rfl) (λ_ _ _ y=>y) (λr K O F=>by
   have V:r≠j:=J;have:=s.mem r K O F;rw[<-this];simp only[aJ]
   grind) (λr t=>⟨.inl t,by grind⟩) a a a
  (.inr ⟨j,n,f,g,rfl,x,by grind,A,B,S,M⟩)
 grind
def H9{f:Type}:∀{new l:e f},c new=c l->h4 0 new l=b new
 |[],[],_=>rfl
 |[],_::_,g=>by grind
 |_::_,[],g=>by grind
 |j::d,h::a,g=>by simp only[h4,H9 (new:=d) (l:=a) J]
def aR.hH(aG:bT P ag){K d:Z}(ae:r.op=.store w K d){n:Nat}{s:bh}{new:e C}{q t:e D}(au:η K=dR l (.bM X o f n))(ao:X=p)(A:h[l]?=b (.A T o p es))(y:bY ag w=b s)(ar:kA (η d)=b new)(aw:c new=s.size)(H:hA new=b q)(M:c (es f)=o->h4 n q (es f)=b t)(ai:f<p):
  aR P r η h .any (h.set l (.A T o p (kq f t es))):=by
 intro I g x B;have v:=B K;rw[au]at v;obtain⟨E,ax,z,j,aq,ad,N,ak,al,L,ab,V⟩:=Dd x A v ao;have F:=q1 ar (B d);have U:=q3 H F;have an:=bJ.e9 U;have az:(g d).cells.toList.length=c q:=by have:=U.cr;grind
 replace M:=M (ab.bo f ai);obtain⟨aA,O⟩:=ab.put ai M az an;have ah:(g d).cells.size=s.size:=by rw[<-aw,<-F.cr,lV]
 obtain⟨R,t2⟩:=x.gl A aq ak al L N O J V;have af:=run_storeCells_at P E (f*o+n) T (g d).cells.toList 0 (z++j).toArray I.a N J F.cell;have aj:((z++j).toArray.toList.take (f*o+n+0)++(g d).cells.toList++(z++j).toArray.toList.drop (f*o+n+0+(g d).cells.toList.length))=z.take (f*o+n)++(g d).cells.toList++z.drop (f*o+n+(g d).cells.toList.length)++j:=J;rw[aj]at af;refine⟨.skip,_,?_,a,R,t2,?_⟩
 .simp[W,ae,ad,Instr.storeAt,aU,storeVar,(aG w s y).aU,ah,af]
 intro Y u;have ay:W g r=(do storeVar w ⟨E,f*o+n,k⟩ (g d);pure .skip):=by simp[W,ae,ad,Instr.storeAt,aU]
 rw[ay]at u;have G:Y∈(storeCells ⟨E,f*o+n,k⟩ (g d).cells.toList).events P I.a #[]:=by
  simp only[storeVar,aE,(aG w s y).aU,ah,aH,events_sizeOf,e3,gD,cr,cn,cM,aT]at u;generalize(storeCells ⟨E,f*o+n,k⟩ (g d).cells.toList).run P I.a=aB at u;cases aB with
  |ok aJ S=>simpa using u
  |halt K S=>simpa using u
 rcases li (g d).cells.toList 0 (z++j).toArray I.a #[] N J F.cell Y G with aC|⟨aF,_,_,rfl⟩
 .grind
 exact l' (bZ aq) Q (V _)
end
section
def aZ.en(n:aZ h d)(r:∀a,d.n j a=k)(s:∀a f,z[a]?=b f->d.a.cell? ⟨j,a,k⟩=b f):
  aZ (h.map λ_=>.t) {d with n:=λe a=>if e=j then z[a]? else d.n e a}/\∀e a f,d.n e a=b f->(if e=j then z[a]? else d.n e a)=b f:=by
 have g:=n.dG;refine⟨⟨λe a f l=>?_,g.len,λt q L ao p=>?_,g.aL,g.lt,g.own⟩,λe a f l=>?_⟩
 .by_cases o:e=j
  .grind
  simp only[o,cr]at l;exact g.mem e a f l
 .have:=bZ ao;simp at this;rw[<-this.2];trivial
 grind
def cR.fF{f:Mem}{n:Array ay}(t:cR {d with n:=f} n){L:Loc}(y:L∈d.m)(x:j∈L.V)(w:∀h o g,d.n h o=b g->f h o=b g)(u:∀h o g,f h o=b g->h=j∨d.n h o=b g):cR d n:=by
 intro q s;have e:=t q s;unfold hD at e⊢;split at e
 .obtain⟨jC,qA,a⟩:=e;refine⟨jC,qA,?_⟩;rcases a with a|⟨a,l⟩|⟨a,g,l⟩
  .grind
  .refine .inr (.inl ⟨a,λr=>?_⟩);have:=l r;rename_i p _;cases v:d.n p.block p.off with
   |none=>rfl
   |some g=>grind
  grind
 all_goals exact e
end
def lj(g:Nat)(a:Nat->Nat->I):Nat->e D:=λd=>(aI g).map λf=>.val (a d f)
theorem ri{a:Nat}{e:Nat->Nat->I}{d:D}(g:(lj a e f)[y]?=b d):y<a/\d=.val (e f y):=by
 have h:y<a:=by have:=(cD.1 g).1;simpa[lj]using this
 simp[lj,h]at g;grind
def zS{d:Nat}{a:Nat->Nat->I}(e:y<d):(lj d a f)[y]?=b (.val (a f y)):=by simp[lj,e]
def Rd.exact{r:Mem}{x:I}{w:Bool}{o p:Nat}{f:Nat->e D}(E:Rd r x (.M w o p f)):
  ∃l:Nat->Nat->I,Rd r x (.M w o p (lj o l))/\(∀a,a<p->c (f a)=o)/\∀a,a<p->∀d j,(f a)[d]?=b j->Rd r (l a d) j:=by
 cases E with
 |M z q l y K C v u F n=>
  have A:∀a,a<p->∀d,d<o->∃j,(f a)[d]?=b j:=λa g d h=>⟨_,bu J⟩
  refine⟨l,.M z q l y K C (λa _=>by simp[lj]) u (λa g d j h=>?_) (λa g d j h=>?_),v,n⟩
  .grind [ri]
  obtain⟨s,rfl⟩:=ri h;obtain⟨B,t⟩:=A a g d s;exact .val (n a g d B t).cell
def Bc{o:Nat}{L:Loc}{f g:Option Addr}{a:Nat}(ao:h[l]?=b (.A T o p es))(s:d.m[l]?=b L)(q:L.v=.slice g 0 a)(t:p<=a)(r:a<=9223372036854775807)(y:0<a->∃j,g=b ⟨j,0,k⟩/\f=b ⟨j,0,k⟩):ck h d (.slice f p a) (.ak l (.M p o 0 p)):=
 ⟨L.v,⟨f,g,a,a,rfl,t,by omega,r,q,λw=>by grind⟩,(cD.1 ao).1,λx u v n e=>by rw[ao]at e;cases e;exact⟨bE _,λ_=>⟨L,s,rfl⟩⟩⟩
def CZ{bQ bB:Z}{f:bh}(w:h9 P r bQ bB T f){y:Nat}{q:Nat->e D}{X:Z->I}(A:aZ h d)(bs:ck h d (X bQ) (.ak l (.M p f.size 0 p)))(S:h[l]?=b (.A T f.size p es))(ax:Rd d.n (X bB) (.M gz f.size y q))(H:(p+y)*f.bytes<=140737488355328):
  ∃ba ak,(W X r).run P d.a=.ok ba ak.a/\x5 (h.set l (.A T f.size (p+y) (b_ p es q))) ak ba (dR l (.M (p+y) f.size 0 (p+y)))/\aZ (h.set l (.A T f.size (p+y) (b_ p es q))) ak/\cA h d (h.set l (.A T f.size (p+y) (b_ p es q))) ak/\cR d ((W X r).events P d.a #[]):=by
 obtain⟨bV,t2,n,bT,a8,g,R,aE,aF⟩:=w.op;have bR:l<c h:=(cD.1 S).1;obtain⟨bU,⟨t,bp,aH,F,a9,bg,bG,bf,a6,bH⟩,_,a'⟩:=bs;obtain⟨L,O,ao⟩:=(a' _ _ _ _ S).2 rfl;rw[a6]at ao;have a1:F=aH:=x;subst a1;have bC:0<F->∃j,bp=b ⟨j,0,k⟩/\t=b ⟨j,0,k⟩:=λw=>by grind
 have aq:l<c d.m:=(cD.1 O).1;have bl:=bZ O;have bF:=A.box l _ L S O;rw[jh a8,a9];have row:0<F->∃j z u,t=b ⟨j,0,k⟩/\L=⟨.slice (b ⟨j,0,k⟩) 0 F,[j]⟩/\d.a.heap[j]?=b (.cells (z++u).toArray T (0,0))/\c (z++u)=F*f.size/\ez d.n f.size p es z/\∀r,d.n j r=k:=by
  intro s;obtain⟨j,V,ad⟩:=bC s;rcases bF with⟨_,rfl⟩|⟨o,B,z,u,rfl,af,aO,aP,aQ,aR,aS⟩
  .grind
  grind
 by_cases br:y=0
 .subst br;have ay:=w6 (P:=P) (ty:=r.type) g R aE aF w.elem A (t:=t) bg ax;simp only[iK];have bt:b4 p es (b_ p es q):=λn g=>by simp[b_,g]
  have aV:ek (h.set l (.A T f.size p (b_ p es q))) ⟨d.m.set l L,d.n,d.a,d.own⟩ (.A T f.size p (b_ p es q)) L:=by
   rcases bF with af|⟨o,B,z,u,ax,af,aO,aP,aQ,aR,aS⟩
   .exact .inl af
   exact .inr ⟨o,B,z,u,ax,af,aO,aP,aQ,aR.b9 bt,aS⟩
  have aw:=A.bQ (b0:=d.n) (a5:=d.a) (dN:=.A T f.size p (b_ p es q)) (b7:=L) S O ⟨λ_=>rfl,bE _⟩ (bE _) (λ_ _ _=>rfl) (λ_ _ _ _=>rfl) (λ_ _ _ w=>w) A.mem
   (λj H=>⟨.inl H,A.lt L bl j H⟩) a a a aV
  refine⟨.value (.slice t p F),_,?_,?_,aw.1,aw.2,il (vP g R aE aF w.elem A bg ax)⟩
  .simp[ay]
  exact Bc (T:=T) B2 J ao bg bf bC
 .by_cases aL:p+y<=F
  .obtain⟨j,z,u,rfl,rfl,hw,G,N,ag⟩:=row x;obtain⟨M,an,ay⟩:=w5 (P:=P) (ty:=r.type) g R aE aF w.elem A hw G ax aL;have a_:c z=p*f.size:=N.len;have bK:c M=y*f.size:=an.len;have bI:p*f.size+y*f.size<=F*f.size:=by rw[<-iL];exact gC _ aL
   have ai:((z++u).take (p*f.size)++M++(z++u).drop (p*f.size+c M))=(z++M)++u.drop (c M):=by rw[<-a_];simp
   rw[ai]at ay;have aA:=setRow_heap d.a j _ ((z++M)++u.drop (c M)).toArray T _ hw;have aB:∀o,o≠j->(d.a.setRow j ((z++M)++u.drop (c M)).toArray).heap[o]?=d.a.heap[o]?:=λo bd=>setRow_other d.a j o _ bd;obtain⟨aC,bk⟩:=A.bQ (b0:=d.n) (a5:=d.a.setRow j ((z++M)++u.drop (c M)).toArray) (dN:=.A T f.size (p+y) (b_ p es q)) (b7:=⟨.slice (b ⟨j,0,k⟩) 0 F,[j]⟩) S O ⟨λ_=>rfl,by omega⟩ Q
    (λo bd bS=>aB o J) (λ_ _ _ _=>rfl) (λ_ _ _ w=>w) (λo bA U a7=>by
     have bJ:o≠j:=J;have:=A.mem o bA U a7;rw[<-this];simp only[aJ]
     grind) (λo bd=>⟨.inl bd,by grind⟩) a a a
    (.inr ⟨j,F,z++M,u.drop (c M),rfl,aA,by grind,aL,bf,N.append an,ag⟩)
   refine⟨.value (.slice (b ⟨j,0,k⟩) (p+y) F),_,?_,?_,aC,bk,il (vO g R aE aF w.elem A hw G ax aL bl Q (λr _=>ag r))⟩
   .simp[ay]
   exact Bc (T:=T) B2 (by simp only;rw[hN aq]) a aL bf λ_=>⟨j,a,a⟩
  .have a3:F<p+y:=x;obtain⟨aM,aN,bP,bM⟩:=ax.exact;have aK:∃(b0:Mem) (ae:Nat->Nat->I),aZ (h.map λ_=>.t) {d with n:=b0}/\(∀o r U,d.n o r=b U->b0 o r=b U)/\Rd b0 (.slice t p F) (.M m f.size p (lj f.size ae))/\(∀{es},cR {d with n:=b0} es->cR d es) /\
     (∀n,n<p->c (es n)=f.size)/\∀n,n<p->∀v K,(es n)[v]?=b K->Rd d.n (ae n v) K:=by
    by_cases s:0<F
    .obtain⟨j,z,u,rfl,rfl,hw,G,N,ag⟩:=row s;obtain⟨B,Y⟩:=A.en (j:=j) (z:=z) ag (λr U a8=>by
      simp only[aJ,hw]
      grind)
     have bD:∀n,n<p->∀v K,(es n)[v]?=b K->z[n*f.size+v]?=b (z.getD (n*f.size+v) E)/\Rd d.n (z.getD (n*f.size+v) E) K:=by intro n g v K C;obtain⟨U,bb,bc⟩:=N.rd n g v K C;grind
     have a0:∀n,n<p->∀v,v<f.size->∃K,(es n)[v]?=b K:=λn g v C=>⟨_,bu (by rw[N.bo n g];exact C)⟩
     refine⟨_,λn v=>z.getD (n*f.size+v) E,B,Y,.M j 0 (λn v=>z.getD (n*f.size+v) E) bg bf Q (λn _=>by simp[lj]) bN (λn g v K C=>?_) (λn g v K C=>?_),λbw=>?_,N.bo,λn g v K C=>(bD n g v K C).2⟩
     .obtain⟨V,_⟩:=ri C;grind
     .obtain⟨V,rfl⟩:=ri C;obtain⟨bq,ad⟩:=a0 n g v V;exact .val (bD n g v bq ad).2.cell
     exact bw.fF (j:=j) bl Q Y λo r U a9=>by grind
    have V:F=0:=x;have ad:p=0:=x;subst V ad;have aG:=A.dG;exact⟨d.n,λ_ _=>E,⟨aG.mem,aG.len,aG.box,aG.aL,aG.lt,aG.own⟩,λ_ _ _ w=>w,Rd.cZ,λw=>w,λn g=>by omega,λn g=>by omega⟩
   obtain⟨b0,ae,B,Y,aY,aT,bO,bL⟩:=aK;have al:Rd ({d with n:=b0}:aj).n (X bB) (.M gz f.size y (lj f.size aM)):=aN.mono Y;obtain⟨bm,u,bj,bn,ar,au,az,ay⟩:=rX (P:=P) (d:={d with n:=b0}) (ty:=r.type) g R aE aF w.elem B aY al a3 H w.bytes;have a2:=rf (P:=P) (d:={d with n:=b0}) (ty:=r.type) g R aE aF w.elem B aY al a3 H w.bytes;have aU:ez d.n f.size (p+y) (b_ p es q) bm:=by
    refine⟨bn.len,λn g=>?_,λn g v K C=>?_⟩
    .by_cases ab:n<p
     .simp only[b_,ab,cN];grind
     simp only[b_,ab,cr];grind
    by_cases ab:n<p
    .simp only[b_,ab,cN]at C;have bo:v<f.size:=J;obtain⟨U,bb,bc⟩:=bn.rd n g v (.val (ae n v)) (by simp only[b_,ab,cN];exact zS bo);grind[Rd.aM]
    simp only[b_,ab,cr]at C;have bo:v<f.size:=J;obtain⟨U,bb,bc⟩:=bn.rd n g v (.val (aM (n-p) v)) (by simp only[b_,ab,cr];exact zS bo);grind[Rd.aM]
   have bz:∀r,d.n d.a.heap.size r=k:=λr=>by
    cases ah:d.n d.a.heap.size r with
    |none=>rfl
    |some U=>have:=A.block ah;omega
   obtain⟨aC,bk⟩:=A.bQ (b0:=d.n) (a5:=d.a.drew.alloc (.cells (bm++u).toArray T)) (dN:=.A T f.size (p+y) (b_ p es q)) (b7:=⟨.slice (b ⟨d.a.heap.size,0,k⟩) 0 bj,[d.a.heap.size]⟩) S O
    ⟨λab=>absurd ab x,by omega⟩ Q (λj H _=>hY d.a.drew _ H) (λ_ _ _ _=>rfl) (λ_ _ _ w=>w) (λj r U ah=>by have a4:=A.block ah;rw[<-A.mem j r U ah];simp only[aJ];rw[hY d.a.drew _ a4];rfl) (λj H=>by simp at H;exact bx) a a a (.inr ⟨d.a.heap.size,bj,bm,u,rfl,kI d.a.drew _,az,ar,au,aU,bz⟩)
   refine⟨.value (.slice (b ⟨d.a.heap.size,0,k⟩) (p+y) bj),_,?_,?_,aC,bk,il (aT a2)⟩
   .simp only at ay;simp[ay]
   exact Bc (T:=T) B2 (by simp only;rw[hN aq]) a ar au λ_=>⟨_,a,a⟩
def aR.hU{q s:Z}{a:bh}(x:h9 P r q s T a){f:Nat}{d:Nat->e D}(w:η q=dR l (.M p a.size 0 p))(o:h[l]?=b (.A T a.size p es))(u:∀j t,bo h j t (η s)->Rd j.n t (.M gz a.size f d))(v:(p+f)*a.bytes<=140737488355328):
  aR P r η h (dR l (.M (p+f) a.size 0 (p+f))) (h.set l (.A T a.size (p+f) (b_ p es d))):=
 λj y n g=>CZ x n (by have:=g q;rw[w]at this;exact this) o (u j _ (g s)) v
section
variable {ag:e (Nat×bh)}
def aR.jg(aG:bT P ag){j:Z}(t:r.op=.call {callee:=.builtin .len,args:=#[j],argTypes:=dK})(s:dK[0]?=b w){g:bh}(e:bY ag w=b g)(o:g.desc=.slice T){n:Option Addr}{a:Nat}(v:η j=aL (.val (.slice n p a)))(z:p<=9223372036854775807):aR P r η h (aL (.int .i64 p)) h:=by
 refine .aS λx y u f=>?_;have d:=f j;rw[v]at d;have q:=Rd.aM (b2 d);have l:=(aG w g e).run_underlying (K:=x.a);rw[o]at l;refine⟨.int .i64 p,?_,Rd.int cF,?_⟩<;>
 simp[W,t,resolve,invoke,builtin,Builtin.len_,q,l,goInt,s]
theorem aR.iW(aG:bT P ag){u o:Z}(B:r.op=.indexAddr w u o){s e:bh}(q:bY ag w=b s)(E:s.desc=.slice T)(F:bY ag T=b e){g:Nat}{f:Int}{t:IntKind}(O:η u=aL (.val (.slice (b ⟨j,off,k⟩) p g)))(M:η o=aL (.int t f))(R:0<=f)(C:f<p):aR P r η h (aL (.val (.pointer (b ⟨j,off+f.toNat*e.size,k⟩)))) h:=by
 refine .aS λN J D l=>?_;have v:=l u;rw[O]at v;have I:=Rd.aM (b2 v);have d:=l o;rw[M]at d;replace d:=b2 d;generalize A:J o=Q at d;cases d;have y:=(aG w s q).run_underlying (K:=N.a);rw[E]at y;obtain⟨n,rfl⟩:∃n:Nat,f=n:=⟨f.toNat,by omega⟩
 have z:n<p:=x;refine⟨.pointer (b ⟨j,off+n*e.size,k⟩),?_,Rd.val a,?_⟩<;>
 simp[W,B,I,A,Instr.indexAt,asIntOf,y,(aG T e F).aU,gg,z]
def aR.iJ(aG:bT P ag){g:Z}{o:Nat}(p:r.op=.fieldAddr w g o){f:Nat}{t:bh}(q:η g=aL (.val (.pointer (b ⟨j,off,k⟩))))(n:kg ag w o=b (f,t)):aR P r η h (aL (.val (.pointer (b ⟨j,off+f,k⟩)))) h:=by refine .aS λv u s e=>?_;have d:=e g;rw[q]at d;have l:=Rd.aM (b2 d);exact⟨.pointer (b ⟨j,off+f,k⟩),by simp[W,p,l,w7 aG n],Rd.val a,by simp[W,p,l,vR aG n]⟩
def aR.jV(aG:bT P ag){U F I:Z}(ab:r.op=.slice w U k (b F) (b I)){g A:bh}(D:bY ag w=b g)(ai:g.desc=.slice T)(L:bY ag T=b A){ew:Bool}{ad:Nat}{o q:IntKind}{e f:Int}(al:∀ae ah,bo h ae ah (η U)->Rd ae.n ah (.M ew ad p es))(ak:η F=aL (.int o e))(aj:η I=aL (.int q f))(J:0<=e)(ao:e<=f)(ar:f<=p):aR P r η h (aL (.M m ad e.toNat es)) h:=by
 refine .aS λa E au n=>?_;have S:=al a _ (n U);have t:=n F;rw[ak]at t;replace t:=b2 t;generalize C:E F=aw at t;cases t;have B:=n I;rw[aj]at B;replace B:=b2 B;generalize af:E I=ax at B;cases B;obtain⟨X,d,z,s,H,ay,az,aA,aB⟩:=S.bx;rw[s]at S;have N:=(aG w g D).run_underlying (K:=a.a);rw[ai]at N;have em:((f.toNat:Nat):Int)=f:=sM x;have V:(aV i p d k (b (.int o e)) (b (.int q f))).run P a.a=.ok (0,e.toNat,f.toNat) a.a:=by simp[aV,run_sliceBound (P:=P) a.a q f d _ x x,run_sliceBound (P:=P) a.a o e f.toNat _ J x]
 have aq:(aV i p d k (b (.int o e)) (b (.int q f))).events P a.a #[]=#[]:=by simp[aV,run_sliceBound (P:=P) a.a q f d _ x x,run_sliceBound (P:=P) a.a o e f.toNat _ J x,lh (P:=P) a.a q f d _ x x,lh (P:=P) a.a o e f.toNat _ J x]
 refine⟨.slice X e.toNat f.toNat,?_,?_,by simp[W,ab,s,C,af,Instr.sliceAt,N,Instr.slice,V,aq]⟩
 .simp[W,ab,s,C,af,Instr.sliceAt,N,Instr.slice,V,(aG T A L).aU];intro _;rcases X with _|⟨Y,j,sp⟩<;>simp[Addr.add]
 cases S with
 |M Y j an _ _ _ R O v y=>
  exact Rd.M Y j an x x Q (λg u=>R g x) (λG=>O x) (λg u e M l=>v g x e M l) (λg u e M l=>y g x e M l)
end
def ez.hr{a d n:Nat}{dU:Nat->e D}{f:e I}(s:ez bi a p es z)(t:ez bi a n dU f)(y:d+n<=p):
  ez bi a p (λg=>if d<=g/\g<d+n then dU (g-d)else es g) (z.take (d*a)++f++z.drop (d*a+c f)):=by
 have E:=s.len;have K:=t.len;have O:d*a+n*a<=p*a:=by rw[<-iL];exact gC a y
 have M:c (z.take (d*a))=d*a:=J;have v:∀o,(z.take (d*a)++f++z.drop (d*a+c f))[o]?=if o<d*a then z[o]? else if o<d*a+n*a then f[o-d*a]? else z[o]?:=by
  intro o;by_cases j:o<d*a
  .grind
  rw[bp j];by_cases u:o<d*a+n*a
  .grind
  rw[bp u,gK J,ow];grind
 refine⟨by grind,λg l=>?_,λg l r w h=>?_⟩
 .by_cases q:d<=g/\g<d+n
  .rw[bF q];exact t.bo _ x
  rw[bp q];exact s.bo g l
 rw[v];by_cases q:d<=g/\g<d+n
 .rw[bF q]at h;have C:r<a:=by have:=(cD.1 h).1;rw[t.bo _ x]at this;omega
  have A:d*a<=g*a:=gC a q.1;have B:g*a+a<=d*a+n*a:=by rw[<-iL,<-ox];exact gC a q.2
  rw[bp x,bF x];obtain⟨Q,F,N⟩:=t.rd (g-d) x r w h;grind[Nat.sub_mul]
 rw[bp q]at h;have C:r<a:=by have:=(cD.1 h).1;rw[s.bo g l]at this;omega
 have:g*a+r<d*a∨d*a+n*a<=g*a+r:=by
  by_cases j:g<d
  .left;have:g*a+a<=d*a:=by rw[<-ox];exact gC a j
   omega
  right;have:(d+n)*a<=g*a:=gC a x;grind
 rcases this with j|j
 .rw[bF j];exact s.rd g l r _ h
 rw[bp x,bp x];exact s.rd g l r _ h
def AI{T o h:Nat}{s:Nat->e D}{f:e Loc}(v:Rd d.n ai (.M i h 0 s))(n:aO[l]?=b (.A T o 0 es))(t:f[l]?=b ⟨.slice k 0 0,[]⟩):ck aO {d with m:=f} ai (.ak l (.M 0 o 0 0)):=by obtain⟨q,j,z,u,_,_,r,_,_⟩:=v.bx;have:=r a;subst this;refine⟨.slice k 0 0,⟨q,k,0,0,u,by omega,a,by omega,a,λg=>absurd g x⟩,(cD.1 n).1,λp w y dU g=>?_⟩;rw[n]at g;cases g;exact⟨bE _,λ_=>⟨_,t,a⟩⟩
def cR.jb{a:e Loc}{f:Array ay}(n:cR {d with m:=a++[⟨ai,[]⟩]} f)(o:d.m=a):cR d f:=by
 intro l j;have h:=n l j;have key:∀g,(∃L∈a++[(⟨ai,[]⟩:Loc)],g∈L.V)->∃L∈d.m,g∈L.V:=λg ⟨L,p,q⟩=>by grind
 unfold hD at h⊢;grind
def aR.hZ{p t:Z}{f:bh}(A:h9 P r p t T f){E j:Nat}{g:Nat->e D}(O:η p=aL (.M i E 0 es))(I:∀d x,bo h d x (η t)->Rd d.n x (.M gz f.size j g))(M:(0+j)*f.bytes<=140737488355328):
  aR P r η h (dR (c h) (.M (0+j) f.size 0 (0+j))) (h++[.A T f.size (0+j) (b_ 0 es g)]):=by intro d F bc o;have n:=o p;rw[O]at n;have q:=I d _ (o t);obtain⟨C,B⟩:=bc.bL (bR:=.A T f.size 0 es) (L:=⟨.slice k 0 0,[]⟩) (.refl _ _) rfl bc (.inl ⟨rfl,rfl⟩) Q;have z:ck (h++[.A T f.size 0 es]) {d with m:=d.m++[⟨.slice k 0 0,[]⟩]} (F p) (.ak (c h) (.M 0 f.size 0 0)):=AI (T:=T) (es:=es) (b2 n) Q sn;obtain⟨K,s,J,u,w,v,N⟩:=CZ (P:=P) (h:=h++[.A T f.size 0 es]) (d:={d with m:=d.m++[⟨.slice k 0 0,[]⟩]}) (l:=c h) (es:=es) A C z Q q M;have y:(h++[Y.A T f.size 0 es]).set (c h) (.A T f.size (0+j) (b_ 0 es g))=h++[.A T f.size (0+j) (b_ 0 es g)]:=Q;rw[y]at u w v;exact⟨K,s,J,u,w,B.trans v,N.jb a⟩
def tO(f g h:Nat)(a:Nat->e D):Nat->e D:=λd=>if f<=d/\d<f+h then a (g+(d-f))else a d
def aR.hX{a6 a7:Z}{bz:bh}(az:h9 P r a6 a7 T bz){a2:Nat}(bw:η a6=dR l (.M p bz.size 0 f))(bx:η a7=dR l (.M p bz.size y a2))(A:h[l]?=b (.A T bz.size p es))(ab:f+a2<=p)(aL:y+a2<=p):
  aR P r η h (dR l (.M p bz.size 0 (f+a2))) (h.set l (.A T bz.size p (tO f y a2 es))):=by
 intro d a5 v aQ;obtain⟨b2,t2,b3,bR,bt,w,ao,a_,ba⟩:=az.op;have al:=aQ a6;rw[bw]at al;change ck h d (a5 a6) (.ak l _)at al;have an:=aQ a7;rw[bx]at an;change ck h d (a5 a7) (.ak l _)at an;obtain⟨bB,⟨t,bc,q,g,aS,bb,aF,W,ad,bG⟩,_,bD⟩:=al;obtain⟨L,I,a'⟩:=(bD _ _ _ _ A).2 rfl;rw[ad]at a';obtain⟨bP,⟨u,bH,ay,bI,aU,bW,bm,bo,bX,bp⟩,_,ax⟩:=an;obtain⟨bU,U,G⟩:=(ax _ _ _ _ A).2 rfl;rw[I]at U;cases U;rw[bX,a']at G;cases G;have aA:=bZ I;have aw:=w.run_underlying (K:=d.a);have a8:=a_.run_underlying (K:=d.a);rw[ao]at aw;rw[ba]at a8;rw[jh bt,aS,aU];by_cases aM:p=0
 .have ak:f=0:=x;have bg:a2=0:=x;subst aM ak bg;have au:h.set l (.A T bz.size 0 (tO 0 y 0 es))=h:=by
   have:tO 0 y 0 es=es:=by funext be;exact cF
   rw[this];exact kT
  have aV:Rd d.n (.slice u 0 ay) (.M m bz.size 0 λ_=>[]):=.M 0 0 (λ_ _=>E) x x Q (λf w=>by omega) (λaz=>by omega) (λf w=>by omega) (λf w=>by omega);have s:=w6 (P:=P) (ty:=r.type) w ao a_ ba az.elem v (t:=t) bb aV;rw[au];refine⟨.value (.slice t 0 q),d,?_,?_,v,.refl _ _,il (vP w ao a_ ba az.elem v bb aV)⟩
  .simp[s]
  exact⟨bB,⟨t,bc,q,g,a,bb,aF,W,ad,bG⟩,(cD.1 A).1,bD⟩
 rcases v.box l _ L A I with⟨aj,_⟩|⟨j,ai,z,o,rfl,X,aY,aZ,a0,B,aB⟩
 .grind
 cases a';have aq:0<q:=x;obtain⟨bY,ak,rfl⟩:=bG aq;cases ak;have aG:g=q:=x;subst aG;rw[show j=j from a];have bO:c z=p*bz.size:=B.len;have bA:f+a2<=g:=x;have bJ:f*bz.size+a2*bz.size<=p*bz.size:=by rw[<-iL];exact gC _ ab
 have bK:y*bz.size+a2*bz.size<=p*bz.size:=by rw[<-iL];exact gC _ aL
 obtain⟨ai,bf⟩:=v.en (j:=j) (z:=z) aB (λbe ag dt=>by
  simp only[aJ,X]
  grind)
 let n:=(z.drop (y*bz.size)).take (a2*bz.size);have aO:c n=a2*bz.size:=J;have aN:∀e,e<a2*bz.size->n[e]?=z[y*bz.size+e]?:=λe N=>by grind
 have S:ez d.n bz.size a2 (λbe=>es (y+be)) n:=by
  refine⟨aO,λbe dt=>B.bo _ x,λbe dt e bd N=>?_⟩;have bN:e<bz.size:=by have:=(cD.1 N).1;rw[B.bo _ x]at this;omega
  obtain⟨ag,R,M⟩:=B.rd (y+be) x e bd N;refine⟨ag,?_,M⟩;exact KN
 have bQ:∀ag∈n,ag.oneCell'=i:=S.cell;have af:Rd (λF be=>if F=j then z[be]? else d.n F be) (.slice u a2 ay) (.M m bz.size a2 (lj bz.size λbe e=>z.getD ((y+be)*bz.size+e) E)):=by
  refine .M j (y*bz.size) (λbe e=>z.getD ((y+be)*bz.size+e) E) bW x Q (λbe _=>by simp[lj]) (λN=>J) (λbe dt e bd N=>?_) (λbe dt e bd N=>?_)
  .obtain⟨a1,_⟩:=ri N;exact KN
  obtain⟨a1,rfl⟩:=ri N;obtain⟨ah,aC⟩:∃ah,(es (y+be))[e]?=b ah:=⟨_,bu (by rw[B.bo _ x];exact a1)⟩
  obtain⟨ag,R,M⟩:=B.rd (y+be) x e ah aC;have aj:z.getD ((y+be)*bz.size+e) E=ag:=J;rw[aj];exact .val M.cell
 obtain⟨C,bF,O,bs⟩:=nf (P:=P) (d:={d with n:=λF be=>if F=j then z[be]? else d.n F be}) ai af;have aP:C=n:=by
  apply sT;intro e;have bL:c C=a2*bz.size:=bF.len;by_cases N:e<a2*bz.size
  .have cI:0<bz.size:=J;have dt:e / bz.size<a2:=qD J;have ae:e / bz.size*bz.size+e % bz.size=e:=sL e bz.size;obtain⟨ag,R,M⟩:=bF.rd _ dt (e % bz.size) _ (zS (oA _ cI));rw[ae]at R;rw[R,aN e N,Rd.aM M];rw[iL,Nat.add_assoc,ae,av,bu x];rfl
  grind
 subst aP;have aK:=rg (P:=P) (d:={d with n:=λF be=>if F=j then z[be]? else d.n F be}) ai af (K:=d.a) rfl;replace O:(Builtin.firstCells bz.size a2 (.slice u a2 ay)).run P d.a=.ok n.toArray d.a:=O;have br:f*bz.size+c n<=c (z++o):=J;have D:=run_storeCells_at P j (f*bz.size) T n 0 (z++o).toArray d.a X J bQ;simp only[iK]at D;have ar:((z++o).toArray.toList.take (f*bz.size)++n++(z++o).toArray.toList.drop (f*bz.size+c n))=z.take (f*bz.size)++n++z.drop (f*bz.size+c n)++o:=J;rw[ar]at D;have a3:=B.hr S ab;have bq:(λbe=>if f<=be/\be<f+a2 then(λbe=>es (y+be)) (be-f)else es be)=tO f y a2 es:=rfl;rw[bq]at a3;obtain⟨bC,a4⟩:=v.gl A I aY aZ a0 X a3 J aB;have bS:(Builtin.lenOf (.slice u a2 ay)).run P d.a=.ok a2 d.a:=cF;have bV:(Builtin.lenOf (.slice u a2 ay)).events P d.a #[]=#[]:=cF;refine⟨.value (.slice (b ⟨j,0*bz.size,k⟩) (f+a2) g),_,?_,?_,bC,a4,il ?_⟩
 .have s:(Builtin.append_ #[b2,t2] r.type #[.slice (b ⟨j,0*bz.size,k⟩) f g,.slice u a2 ay]).run P d.a=.ok (.slice (b ⟨j,0*bz.size,k⟩) (f+a2) g) (d.a.setRow j (z.take (f*bz.size)++n++z.drop (f*bz.size+c n)++o).toArray):=by unfold Builtin.append_;simp only[iF,j6,nA,cn,aw,a8,cM,az.elem.aU,dv,jF,cr,bS,bA,cN,l1,O,gg,Nat.zero_mul,cX,D]
  grind[Go.Sem.run_bind,Go.Result.andThen_ok,Go.Sem.run_pure]
 .exact⟨.slice (b ⟨j,0,k⟩) 0 g,⟨_,_,g,g,a,bA,by omega,W,a,λ_=>⟨j,a,a⟩⟩,by grind,λbT b0 b1 dU Y=>by rw[hN (cD.1 A).1]at Y;cases Y;exact⟨bE _,λ_=>⟨_,I,a⟩⟩⟩
 .intro aj H;unfold Builtin.append_ at H;simp only[iF,j6,nA,aE,cn,aw,a8,aH,az.elem.aU,dv,jF,cr,bS,bV,bA,cN,l1,O,gg,Nat.zero_mul,cX,D,
   sR,Sem.events_ite,events_underlying,events_sizeOf,aT]at H
  rcases li n 0 (z++o).toArray d.a _ X J bQ aj H with bj|⟨e,_,_,rfl⟩
  .have bk:cR {d with n:=λF be=>if F=j then z[be]? else d.n F be} #[aj]:=cR.S (rU (aK aj bj));exact bk.fF (j:=j) aA Q bf (λF be ag aS=>by grind) aj Q
  grind[l']
section
variable {ag:e (Nat×bh)}
theorem aR.slice3B(aG:bT P ag){B K E F:Z}(Q:r.op=.slice w B (b K) (b E) (b F)){I q:bh}(s:bY ag w=b I)(R:I.desc=.slice T)(U:bY ag T=b q){ad ai ak:Nat}{v t u:IntKind}{g j f:Int}(aq:η B=dR l (.M ad ai ak p))(L:η K=aL (.int v g))(V:η E=aL (.int t j))(S:η F=aL (.int u f))(az:0<=g)(ae:g<=j)(af:j<=f)(aA:f<=p):aR P r η h (.k (.S .any)) h:=by
 refine .aS λd o ah n=>?_;have M:=n B;rw[aq]at M;change ck h d (o B) (.ak l _)at M;obtain⟨aj,⟨O,Y,e,ab,H,ay,au,ax,aw,ar⟩,_,_⟩:=M;have A:=n K;rw[L]at A;replace A:=b2 A;generalize C:o K=al at A;cases A;have y:=n E;rw[V]at y;replace y:=b2 y;generalize D:o E=an at y;cases y;have z:=n F;rw[S]at z;replace z:=b2 z;generalize N:o F=ao at z;cases z;have J:=(aG w I s).run_underlying (K:=d.a);rw[R]at J;have G:(aV i p e (b (.int v g)) (b (.int t j)) (b (.int u f))).run P d.a=.ok (g.toNat,j.toNat,f.toNat) d.a:=by simp[aV,run_sliceBound (P:=P) d.a u f e _ x x,run_sliceBound (P:=P) d.a t j f.toNat _ x x,run_sliceBound (P:=P) d.a v g j.toNat _ x x]
 have X:(aV i p e (b (.int v g)) (b (.int t j)) (b (.int u f))).events P d.a #[]=#[]:=by
  simp[aV,run_sliceBound (P:=P) d.a u f e _ x x,run_sliceBound (P:=P) d.a t j f.toNat _ x x,run_sliceBound (P:=P) d.a v g j.toNat _ x x,
   lh (P:=P) d.a u f e _ x x,lh (P:=P) d.a t j f.toNat _ x x,lh (P:=P) d.a v g j.toNat _ x x]
 refine⟨.slice (if f.toNat=g.toNat then O else O.map (·.add (g.toNat*q.size))) (j.toNat-g.toNat) (f.toNat-g.toNat),?_,a,by simp[W,Q,H,C,D,N,Instr.sliceAt,J,Instr.slice,G,X]⟩;simp[W,Q,H,C,D,N,Instr.sliceAt,J,Instr.slice,G,(aG T q U).aU]
end
section drop
variable {a6 bw:e Y}
def aj.cut(a:aj)(d:Nat):aj:={a with m:=a.m.take d}
def ck.drop{g:C}(f:ck (a6++bw) d ai g)(h:jP a6.length g=i):ck a6 (d.cut a6.length) ai g:=by
 have lt:∀{e:Nat},aD (e+1) a6.length=i->e<a6.length:=λr=>e' r;cases g with
 |c w=>exact f
 |any=>exact f
 |ptr e u=>
  have e4:=lt h;obtain⟨a,L,p,l,ac⟩:=f;refine⟨λj n=>a j J,L,p,?_,ac⟩;simp only[aj.cut,kw,e4,cN];exact l
 |aD e=>
  have e4:=lt h;obtain⟨a,L,l,ac⟩:=f;refine⟨λj n=>a j J,L,?_,ac⟩;simp only[aj.cut,kw,e4,cN];exact l
 |ak e v=>
  have e4:=lt h;obtain⟨o,a,_,ac⟩:=f;refine⟨o,a,e4,λT fJ AH dh n=>?_⟩;exact Kr
 |q e s t q=>
  have e4:=lt h;obtain⟨a,_,ac⟩:=f;refine⟨a,e4,λT fJ AH dh n=>?_⟩;exact Kr
def bJ.cb:∀{z:e I}{a:e C},bJ (a6++bw) d z a->jk a6.length a=i->bJ a6 (d.cut a6.length) z a
 |[],[],_,_=>trivial
 |[],_::_,f,_=>f.elim
 |_::_,[],f,_=>f.elim
 |l::z,j::a,f,g=>by
  simp only[jk]at g;cases h:jP a6.length j with
  |false=>grind
  |true=>simp only[h]at g;exact⟨f.1.drop h,bJ.cb f.2 g⟩
def eh.cb{j:I}{a:E1}(h:eh (a6++bw) d j a)(g:nW a6.length a=i):eh a6 (d.cut a6.length) j a:=by
 cases a with
 |S n=>exact ck.drop h g
 |agg l=>obtain⟨z,e,f⟩:=h;exact⟨z,e,bJ.cb f g⟩
def eJ.cb:∀{z:e I}{a:e E1},eJ (a6++bw) d z a->m4 a6.length a=i->eJ a6 (d.cut a6.length) z a
 |[],[],_,_=>trivial
 |[],_::_,f,_=>f.elim
 |_::_,[],f,_=>f.elim
 |l::z,j::a,f,g=>by
  simp only[m4]at g;cases h:nW a6.length j with
  |false=>grind
  |true=>simp only[h]at g;exact⟨eh.cb f.1 h,eJ.cb f.2 g⟩
def bo.drop{a:s}(h:bo (a6++bw) d ai a)(g:g6 a6.length a=i):bo a6 (d.cut a6.length) ai a:=by
 cases a with
 |k j=>exact eh.cb h g
 |C O=>obtain⟨z,e,f⟩:=h;exact⟨z,e,eJ.cb f g⟩
 |any=>trivial
def c6.drop{f:e Y}{j:aj}(a:c6 f j (a6++bw) d)(t:f.length<=a6.length):c6 f j a6 (d.cut a6.length):=by refine⟨a.size,a.aG,a.mem,a.ba,λL o s v=>a.bp L (gE o) s v,?_,a.os,a.tape,a.output,a.own⟩;intro q r L ao o;obtain⟨l,n,g,p,u⟩:=a.box q r L ao o;have h:q<a6.length:=ej (cD.1 ao).1 t;rw[jE h]at g;exact⟨l,n,g,by simp only[aj.cut,kw,h,cN];exact p,u⟩
def ck.ca{g:C}(n:c d.m=c h)(f:ck h d ai g):jP (c h) g=i:=by
 have ok:∀{a:Nat},a<c h->aD (a+1) (c h)=i:=λe=>yb e;have lt:∀{a:Nat} {L:Loc},d.m[a]?=b L->a<c h:=λe=>by grind
 cases g with
 |c u=>rfl
 |any=>rfl
 |ptr a s=>obtain⟨_,L,p,j,_⟩:=f;exact ok (lt j)
 |aD a=>obtain⟨_,L,j,_⟩:=f;exact ok (lt j)
 |ak a t=>obtain⟨o,_,e,_⟩:=f;exact ok e
 |q a q r l=>exact ok f.2.1
def bJ.ca{h:e Y}(g:c d.m=c h):∀{z:e I}{a:e C},bJ h d z a->jk (c h) a=i
 |[],[],_=>rfl
 |[],_::_,f=>f.elim
 |_::_,[],f=>f.elim
 |l::z,j::a,f=>by simp only[jk,f.1.ca g];exact bJ.ca g f.2
def eh.ca{f:e Y}(a:c d.m=c f){n:I}{g:E1}(h:eh f d n g):nW (c f) g=i:=by
 cases g with
 |S o=>exact ck.ca a h
 |agg j=>obtain⟨z,_,l⟩:=h;exact bJ.ca a l
def eJ.ca{h:e Y}(g:c d.m=c h):∀{z:e I}{a:e E1},eJ h d z a->m4 (c h) a=i
 |[],[],_=>rfl
 |[],_::_,f=>f.elim
 |_::_,[],f=>f.elim
 |l::z,j::a,f=>by simp only[m4,eh.ca g f.1];exact eJ.ca g f.2
def bo.ca{f:e Y}(a:c d.m=c f){l:I}{g:s}(h:bo f d l g):g6 (c f) g=i:=by
 cases g with
 |k n=>exact eh.ca a h
 |C O=>obtain⟨z,_,j⟩:=h;exact eJ.ca a j
 |any=>rfl
def x1(p:Nat)(f:e Y)(o:Nat)(d:Y):Prop:=(∃j a,d=.cells j a/\jk p a=i)∨f[o]?=b d∨(∃h g l n,d=.loop h g l/\f[o]?=b (.loop h g n))∨((∀j a,d≠.cells j a)/\∀h g l,d≠.loop h g l)
def aZ.gI{v:aj}{f:e Y}(s:aZ f v)(w:f.length=a6.length)(Q:∀(l:Nat)(t:Y),a6[l]?=b t->x1 a6.length f l t)(j:aZ (a6++bw) d):aZ a6 (d.cut a6.length):=by
 have F:a6.length<=c d.m:=by rw[j.len];simp
 refine⟨j.mem,by simp[aj.cut,F],?_,?_,?_,λg y=>⟨(j.own g y).1,λL a=>(j.own g y).2 L (gE a)⟩⟩
 .intro l t L ao a;have N:l<a6.length:=(cD.1 ao).1;simp only[aj.cut,kw,N,cN]at a;have r:=j.box l t L J a;have x:∃A,v.m[l]?=b A:=⟨_,bu (by rw[s.len,w];exact N)⟩
  obtain⟨A,x⟩:=x;have ae:=s.len.trans w;cases t with
  |cells M T=>
   obtain⟨g,z,n,o,K,I⟩:=r;refine⟨g,z,n,o,bJ.cb K ?_,I⟩;rcases Q l _ ao with⟨_,_,u,h⟩|h|⟨_,_,_,_,u,_⟩|h
   .grind
   .obtain⟨_,_,_,_,D,_⟩:=s.box l _ A h x;exact w▸D.ca s.len
   .cases u
   grind
  |q M U V E=>exact r
  |Q H=>exact r
  |t=>trivial
  |loop S R ad=>
   obtain⟨p,tmps,fn,ab,n,o,K,I,C⟩:=r;have key:∃q,f[l]?=b (.loop S R q):=by
    rcases Q l _ ao with⟨_,_,u,_⟩|h|⟨_,_,_,q,u,h⟩|h
    .cases u
    .grind
    .grind
    grind
   obtain⟨q,h⟩:=key;obtain⟨_,_,_,_,_,_,_,Z,_⟩:=s.box l _ A h x;exact⟨p,tmps,fn,ab,n,o,K,λO=>(I O).drop (w▸(Z O).ca s.len),C⟩
  |a2=>exact r
  |A M U V E=>exact r
 .intro l p L B a X g y W;simp only[aj.cut,kw]at a X;split at a<;>split at X<;>first|exact j.aL l p L B a X g y W|grind|grind
 intro L a g y;exact j.lt L (gE a) g y
def aZ.ir{f:aj}(g:aZ a6 f)(e:aZ (a6++bw) d):aZ a6 (d.cut a6.length):=g.gI a (λ_ _ e=>.inr (.inl e)) e
def a0.eJ{v:al P}{o:Nat}(l:a0 v B all r F h (.k (.S (.q (c h) o p es))) (h++[.q T o p es])):a0 v B all r F h (aL (.M m o p es)) h:=by
 intro E y z g w t j x C d f q n;refine l E y z g w t j x C d f q λI e s a u=>?_;have D:eg e (e.cut (c h)):=⟨rfl,λ_ _ _ l=>l,λ_ _ _=>rfl,a.mem,λw f=>f.imp id λ⟨L,A,f⟩=>⟨L,gE A,f⟩⟩
 exact .aK D (n I (e.cut (c h)) s.1 (g.ir a) (u.drop (bE _)))
end drop
end Go.AM
