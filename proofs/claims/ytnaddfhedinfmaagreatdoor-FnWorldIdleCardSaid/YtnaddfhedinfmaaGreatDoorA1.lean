/- Part 1. No condition. -/
import Derived.KernelRfl
import Derived.Tactics2
import Derived.LaidSub
import Derived.LaidLaws
import Derived.LaidHandle
import Derived.Conc.Own
import Derived.Conc.Events
import Derived.Conc.Listed
import Derived.Laws.CopyRow
import Derived.Laws.AppendOwn
import Derived.Laws.Rows
import Derived.Laws.Strings
import Derived.Laws.Cells
import Derived.Lib.Strings
import Derived.Laws.Slices
import Derived.Orders
import Derived.Laws.StructEq
set_option linter.all false
set_option maxHeartbeats 8000000
open Go.Conc (G)
open List renaming length → c, range → aD, replicate → aY, getD_eq_getElem?_getD → al
open Go renaming Value → Z, TypeId → av, Event → aU, undef → K, World → au, Frame → aK, FuncId → a3, execOp → ac, Operand → aA, Program → aI, Goroutine → ak, stepG → aq, Oper → ap
open Option renaming some → h, none → q
open Bool renaming true → f, false → m
open Nat renaming beq → af, ble → ay
open Go.Region renaming wanted → aV, ready → aS
open Go.World renaming cell? → aN
open Go.Op renaming bytesLess → aW, equalIn → aR
open Go.Sem renaming events_bind → aH
open Go.Result renaming evThen_ok → aJ
open Go.Instr renaming sliceBounds → aX
set_option linter.defProp false
set_option linter.deprecated false
namespace Go
def v:=@_root_.trivial
def bI:=@_root_.List.getElem?_eq_getElem
def bA:=@_root_.decide_eq_true_eq
def a9:=@_root_.and_true
def ba:=@_root_.true_and
def b8:=@_root_.List.mem_of_getElem?
def dt:=@_root_.decide_eq_false_iff_not
def cO:=@_root_.List.getElem?_eq_some_iff
def di:=@_root_.Nat.eq_of_beq_eq_true
def c1:=@_root_.Int.toNat_natCast
def bC:=@_root_.Nat.le_refl
def dm:=@_root_.List.length_append
def cF:=@_root_.Bool.and_eq_true
def c0:=@_root_.Go.Result.andThen_ok
def cV:=@_root_.Nat.zero_add
def c9:=@_root_.List.take_length
def bm:=@_root_.if_neg
def cI:=@_root_.Go.Sem.run_bind
def hk:=@_root_.Array.getD_eq_getD_getElem?
def eU:=@_root_.beq_eq_false_iff_ne
def bs:=@_root_.if_pos
def ey:=@_root_.Nat.lt_of_lt_of_le
def e':=@_root_.Nat.le_of_ble_eq_true
def gU:=@_root_.List.length_singleton
def hD:=@_root_.List.getElem_of_mem
def eR:=@_root_.Option.some.injEq
def hl:=@_root_.List.getElem?_append_right
def fj:=@_root_.List.length_cons
def gV:=@_root_.Nat.mul_le_mul_right
def jy:=@_root_.List.eq_nil_of_length_eq_zero
def d6:=@_root_.Go.Sem.run_pure
def fX:=@_root_.beq_self_eq_true
def dY:=@_root_.Nat.lt_or_ge
def iz:=@_root_.Array.getElem?_eq_getElem
def ij:=@_root_.List.getElem?_set_self
def fk:=@_root_.decide_eq_true
def gj:=@_root_.Bool.not_true
def hc:=@_root_.List.mem_of_mem_take
def i_:=@_root_.Array.getElem?_eq_some_iff
def hn:=@_root_.not_true_eq_false
def dh:=@_root_.if_false
def gW:=@_root_.List.mem_singleton
def gz:=@_root_.List.length_nil
def fl:=@_root_.List.mem_cons
def fm:=@_root_.Bool.true_and
def iA:=@_root_.List.pairwise_cons
def gk:=@_root_.List.mem_append
def oZ:=@_root_.List.pairwise_iff_getElem
def ky:=@_root_.List.getElem?_append_left
def ik:=@_root_.List.getElem?_take
def iB:=@_root_.bne_self_eq_false
def fF:=@_root_.Nat.le_trans
def il:=@_root_.Bool.not_false
def dH:=@_root_.if_true
def j4:=@_root_.List.getElem?_toArray
def im:=@_root_.Option.getD_some
def hY:=@_root_.List.append_nil
def i':=@_root_.List.mem_cons_self
def p4:=@_root_.List.ext_getElem?
def j5:=@_root_.Bool.not_eq_true'
def kz:=@_root_.List.length_filter_le
def kA:=@_root_.List.getElem?_set_ne
def hd:=@_root_.beq_iff_eq
def j6:=@_root_.Bool.false_eq_true
def eI:=@_root_.congrArg
def iC:=@_root_.Nat.not_lt_zero
def FV:=@_root_.List.take_append_drop
def jz:=@_root_.Bool.or_eq_true
def gX:=@_root_.Nat.zero_le
def m4:=@_root_.List.getElem?_cons_zero
def m5:=@_root_.Array.length_toList
def wT:=@_root_.Array.getElem?_replicate
def wU:=@_root_.List.take_add_one
def k0:=@_root_.List.length_map
def j7:=@_root_.List.foldl_cons
def nY:=@_root_.List.getElem?_cons_succ
def AD:=@_root_.List.findIdx?_eq_some_iff_getElem
def kB:=@_root_.List.mem_filter
def AE:=@_root_.List.mem_iff_getElem
def m6:=@_root_.List.mem_cons_of_mem
def mh:=@_root_.List.append_assoc
def sx:=@_root_.Nat.beq_refl
def lB:=@_root_.decide_eq_false
def d8:=@_root_.ne_eq
def j8:=@_root_.bne_iff_ne
def lC:=@_root_.Option.map_some
def jA:=@_root_.Nat.add_mul
def p5:=@_root_.not_false_eq_true
def j9:=@_root_.Nat.add_zero
def m7:=@_root_.List.getElem?_map
def uv:=@_root_.Array.getElem?_setIfInBounds_self_of_lt
def sy:=@_root_.Array.getElem?_setIfInBounds_ne
def m8:=@_root_.decide_true
def nZ:=@_root_.Nat.eq_zero_or_pos
def o0:=@_root_.List.pairwise_append
def wV:=@_root_.Array.toArray_toList
def wW:=@_root_.Array.mapM_eq_mapM_toList
def lD:=@_root_.Prod.mk.injEq
def k2:=@_root_.List.mem_map
def n0:=@_root_.Option.bind_some
def mg:=@_root_.List.map_cons
def ra:=@_root_.Option.map_eq_some_iff
def pX:=@_root_.Nat.add_sub_cancel
def pY:=@_root_.List.getElem?_drop
def oV:=@_root_.decide_false
def oW:=@_root_.Nat.succ_mul
def pZ:=@_root_.Nat.mod_lt
def oX:=@_root_.Bool.eq_iff_iff
def sg:=@_root_.List.filter_eq_self
def rb:=@_root_.Int.toNat_of_nonneg
def p0:=@_root_.Bool.not_eq_true
def oY:=@_root_.List.mapM_cons
def An:=@_root_.Bool.and_eq_false_iff
def RB:=@_root_.List.drop_eq_getElem_cons
def p1:=@_root_.List.nil_append
def sh:=@_root_.List.length_set
def si:=@_root_.Nat.div_lt_of_lt_mul
def sj:=@_root_.List.mem_of_mem_drop
def re:=@_root_.List.getElem?_set
def wK:=@_root_.List.map_congr_left
def um:=@_root_.Nat.le_mul_of_pos_right
def sk:=@_root_.List.length_drop
def rf:=@_root_.List.ext_getElem
def lA:=@_root_.true_or
def sl:=@_root_.Int.emod_lt_of_pos
def Ao:=@_root_.Bool.not_eq_false'
def un:=@_root_.UInt8.toNat_inj
def Ap:=@_root_.Nat.ble_eq_true_of_le
def wL:=@_root_.List.getElem?_concat_length
def sm:=@_root_.List.flatMap_cons
def nX:=@_root_.Nat.not_lt
def sn:=@_root_.List.mem_range
def so:=@_root_.Nat.sub_zero
def uo:=@_root_.Nat.div_add_mod'
def sq:=@_root_.List.not_mem_nil
def sr:=@_root_.List.filter_cons
def ss:=@_root_.List.drop_length
def su:=@_root_.Int.emod_nonneg
def uq:=@_root_.of_decide_eq_true
def FR:=@_root_.List.take_of_length_le
def wM:=@_root_.List.range_succ_eq_map
def ur:=@_root_.List.foldl_append
def sv:=@_root_.Bool.false_and
def wN:=@_root_.List.getElem?_eq_none
def wO:=@_root_.Array.mem_of_getElem?
def us:=@_root_.List.cons_append
def ut:=@_root_.Option.some.inj
def RC:=@_root_.bne_eq_false_iff_eq
def wP:=@_root_.Nat.mul_le_mul_left
def FS:=@_root_.List.length_eraseIdx_of_lt
def Aq:=@_root_.List.mem_or_eq_of_mem_set
def wQ:=@_root_.List.pairwise_map
def ae2:=@_root_.Option.isSome_iff_exists
def Ar:=@_root_.Nat.lt_succ_iff_lt_or_eq
def FT:=@_root_.List.set_eq_of_length_le
def sw:=@_root_.Go.Sem.run_ite
def As:=@_root_.Nat.add_sub_cancel_left
def wR:=@_root_.List.getElem_mem
def uu:=@_root_.Nat.sub_self
def Au:=@_root_.Array.getElem?_eq_none
def Av:=@_root_.List.contains_iff_mem
def FU:=@_root_.Array.getElem?_toList
def Aw:=@_root_.Array.getElem?_modify
def Ax:=@_root_.Nat.pow_le_pow_right
def Ay:=@_root_.List.getElem?_of_mem
def p3:=@_root_.Ne.symm
def Az:=@_root_.Nat.add_sub_cancel'
def AA:=@_root_.List.length_pos_iff
def wS:=@_root_.Nat.lt_irrefl
def AB:=@_root_.List.take_set
def bl{α:Sort _}{β:α→Sort _}{ae:(l:α)→β l}:∀l,ae l=ae l:=λ_=>rfl
def a{α:Sort _}{x:α}:x=x:=rfl
section
variable{R:Prop}
abbrev p.{bz}(α:Type bz):=List α
def y(u:R:=by omega):=u
def M(u:R:=by grind):=u
def E(u:R:=by simp):=u
def bX(u:R:=by simp;omega):=u
def b0(u:R:=by kernel_rfl):=u
def b'(u:R:=by decide):=u
def dA(u:R:=by simp_all):=u
def ib(u:R:=by grind[ia]):=u
def hV(u:R:=by rw[bO.len];grind):=u
def sa(u:R:=by simp only[U,a7,bA,ba,a9];and_intros<;>omega):=u
def lu(u:R:=by simp[a7]):=u
def qT(u:R:=by simp[G,aq,stepG.exec,Frame.M]):=u
def l8(u:R:=by simp only[phi];omega):=u
def tQ(u:R:=by simp only[U,a7,ba,a9];omega):=u
def NE(u:R:=by have i:l.data.toList.length=l.size:=m5;have w:X.data.toList.length=X.size:=m5;have aj:IntKind.i64.max=9223372036854775807:=rfl;have C:l.data.toList.length+X.data.toList.length<=9223372036854775807:=cv;grind):=u
def gT(u:R:=by simp[u]):=u
def qX(u:R:=by simp only[U,a9];omega):=u
def mV(u:R:=by apply p4;grind):=u
def nJ(u:R:=by simp only[a7];omega):=u
def ER(u:R:=by show(aR (9999+1) o _ _).run P b.a=_;unfold aR;simp[underlying,C]):=u
def l9(u:R:=by decide +kernel):=u
def Fb(u:R:=by simp[b1,C,k,i,d,ae,a1.U,bj.U,a2.U,aB.U,A];omega):=u
def wt(u:R:=by simp only[bS,c1];omega):=u
def ae1(u:R:=by rw[x];simp only[jl,An,dt];omega):=u
def tU(u:R:=by rw[<-aQ];decide +kernel):=u
def pK(u:R:=by grind[pC]):=u
def lv(u:R:=by simp[b1]):=u
def wu(u:R:=by grind[List.getElem_of_mem]):=u
def qY(u:R:=by cases he):=u
def qZ(u:R:=by rw[cV];rfl):=u
def zR(u:R:=by grind[LK]):=u
def tV(u:R:=by simp only[U,a7];omega):=u
def zS(u:R:=by simp[a1.E,bj.E,a2.E,aB.E]):=u
def Fk(u:R:=by rw[<-touchAt_old (u:=bz) (ey bp u.bN)];exact bc):=u
def Fl(u:R:=by rw[<-touchAt_old (u:=bz) (ey bp u.bN)];exact i):=u
def Fm(u:R:=by grind[DS]):=u
def zT(u:R:=by intro z aQ ae4;grind[v9,nE]):=u
def Qc(u:R:=by simp[-List.all_eq_true,-List.all_eq_false,b1,j,s,x,a1.U,bj.U,a2.U,ae,aj,C]):=u
def Qn(u:R:=by show(aR (9999+1) o _ _).run P b.a=_;unfold aR;simp[underlying,k]):=u
def nK(u:R:=by simp;rfl):=u
def QI(u:R:=by rw[FU,iz (by omega:e<L.size)];simpa[hk,iz (by omega:e<L.size)]using H):=u
def tW(u:R:=by grind[ka]):=u
def QS(u:R:=by refine Y.K Tryz.func308 rfl λx=>?_;exact cr rfl (by simp[a7]) (g.aw rfl)):=u
def QT(u:R:=by simp only[ac,u];exact dB.bind dB.buildSlice (λ_=>dB.pure) _ _):=u
def Fo(u:R:=by simp[G,aq,stepG.exec,Frame.M,u]):=u
def QU(u:R:=by intro hK aj s;match hK,s with|0,_=>exact .inr (by simp[deafBehind])|hK+1,s=>grind):=u
def oL(u:R:=by rfl):=u
def tX(u:R:=by simp[<-bO.len]):=u
def QV(u:R:=by unfold g9;rw[mh];congr 1;rw[ia (by grind) (0,0)];grind):=u
def oM(u:R:=by simp[x]):=u
def Fp(u:R:=by simp only[hk];grind):=u
def QW(u:R:=by show -9223372036854775808<=_/\_<=9223372036854775807;unfold lq;omega):=u
def QX(u:R:=by simp[ac,cv,resolve,invoke,builtin,Builtin.len_,ae,A,goInt,C]):=u
def zU(u:R:=by simp only[dk,sx]):=u
def QY(u:R:=by unfold fV;rw[<-qL (d_ l.2)];exact HC _):=u
def Fq(u:R:=by grind[List.drop_eq_getElem_cons]):=u
def QZ(u:R:=by grind[Array.mapM_eq_mapM_toList,Sem.run_map,Go.Result.andThen_ok]):=u
def Q0(u:R:=by rw[show((b.2.1.length:Int)-1).toNat=b.2.1.length-1 by omega];rfl):=u
def Fs(u:R:=by simp only[U,a7,a9];omega):=u
def Ft(u:R:=by rw[<-oW];exact gV _ bp):=u
def r_(u:R:=by grind[nB]):=u
def wv(u:R:=by grind[mx]):=u
def zV(u:R:=by simp[World.freeze,ae]):=u
def Fu(u:R:=by simp[b1,a2.E,a2.U]):=u
def tY(u:R:=by simp[bt,aj]):=u
def tZ(u:R:=by grind[Nat.eq_of_beq_eq_true]):=u
def Fv(u:R:=by grind[List.take_append_drop]):=u
def zW(u:R:=by show _*24<=_;omega):=u
def ww(u:R:=by simpa using u):=u
def zX(u:R:=by unfold mG;grind):=u
def Fw(u:R:=by simp[hz,iU,nv,jr]):=u
def Fx(u:R:=by unfold jj;split<;>omega):=u
def Q1(u:R:=by simp[b1,X,aa,cL,a1.U,bj.U,a2.U,a']):=u
def Q2(u:R:=by simp only[U,a7,ba,a9];and_intros<;>omega):=u
def Q3(u:R:=by simp[ac,u,G,Instr.loadAt,Instr.sureAddr]):=u
def Fy(u:R:=by simp[bt]):=u
def Q4(u:R:=by intro aj s;simp at s;subst s;exact bk_cell _ _ rfl):=u
def zY(u:R:=by simp[aj]):=u
def r'(u:R:=by simp[I]):=u
def Fz(u:R:=by rw[Op.bytesLess.eq_def]):=u
def Q5(u:R:=by simp[rk,e,bD.E,bD.U,rZ,aa]):=u
def Q6(u:R:=by rw[<-i.bF j (λL W cL=>s ⟨L,W,cL⟩)];exact bc):=u
def zZ(u:R:=by simpa using iE):=u
def t0(u:R:=by simp[jE]):=u
def Q7(u:R:=by simp only[U,a7,gj,ba,a9];omega):=u
def z0(u:R:=by cases op<;>rfl):=u
def Q8(u:R:=by simp[ac,cv,resolve,invoke,builtin]):=u
def wx(u:R:=by simp[bS]):=u
def Q9(u:R:=by simp only[U,a7,dt,ba,a9];omega):=u
def Q_(u:R:=by simp only[U,a7,bA,ba,a9];omega):=u
def Q'(u:R:=by rw[show IntKind.u64.bits=64 from rfl];omega):=u
def FA(u:R:=by rw[s];simp):=u
def Ra(u:R:=by unfold dg;grind[List.take_append_drop]):=u
def Rb(u:R:=by simp[ac,u,resolve,invoke,builtin]):=u
def Rc(u:R:=by unfold dP;grind[List.take_append_drop]):=u
def FB(u:R:=by unfold e1;grind):=u
def z1(u:R:=by simp[fH]):=u
def Re(u:R:=by simp only[look];cases af bz o<;>rfl):=u
def Rf(u:R:=by simp only[U.Y,U,k,w,fX,ba]):=u
def FC(u:R:=by rw[cD.aj.size];omega):=u
def zA(u:R:=by cases w<;>rfl):=u
def EC(u:R:=by simp only[c5,j]):=u
def Ng(u:R:=by simp only[U.Y,U,aj,ba,a9]):=u
def Nh(u:R:=by show(b.a.drew.heap.push _).size=_;simp):=u
def Ni(u:R:=by rw[FS (by simp;omega)];simp;omega):=u
def Nj(u:R:=by have:=KL ea;simp only[a7];omega):=u
def ED(u:R:=by unfold dj;omega):=u
def EE(u:R:=by simp[Act.eval,stA]):=u
def EF(u:R:=by simp only[dk,dp]):=u
def EG(u:R:=by simp only[dk,cS]):=u
def Nk(u:R:=by have:=Vc_upd z (⟨1,0,1⟩:WD) g3;grind):=u
def wd(u:R:=by simp[mk]):=u
def Nl(u:R:=by simp only[fJ,jz,bA];grind):=u
def we(u:R:=by rw[upd_same];simp):=u
def Nm(u:R:=by simp[World.shape?,a'.heap _ _ a'.cE]):=u
def Nn(u:R:=by simp[Frame.enter,Frame.M,rB,cT,j]):=u
def No(u:R:=by simp only[U];exact aB.U _):=u
def Np(u:R:=by grind[run_store,setCell_eq_setRow]):=u
def aeY(u:R:=by simp[deafBehind]):=u
def EH(u:R:=by simp[bS];omega):=u
def Nq(u:R:=by simp only[U,ba,a9];omega):=u
def Nr(u:R:=by unfold h2;rw[bm];grind):=u
def Ns(u:R:=by unfold eL Region.binds;grind):=u
def Nt(u:R:=by simp[b1,F,a2.E,a2.U]):=u
def Nu(u:R:=by simp[ft]):=u
def EI(u:R:=by simp only[ga,nq,bm u];rfl):=u
def Nv(u:R:=by have:=eI List.length bq;grind):=u
def Nw(u:R:=by grind[ZK]):=u
def EJ(u:R:=by grind[Option.isSome_iff_exists]):=u
def aeZ(u:R:=by rw[<-oW];exact gV _ G):=u
def Nx(u:R:=by simp[zeroValue,typeInfo,Na,a]):=u
def EK(u:R:=by rw[u.len];simp):=u
def EL(u:R:=by grind[MP]):=u
def Ny(u:R:=by simp only[ga,nq,dH,e]):=u
def ae0(u:R:=by rw[I7 C A aa];grind):=u
def Nz(u:R:=by simp[aN,C,bp]):=u
def NA(u:R:=by simp only[ac,cv,w]):=u
def NB(u:R:=by simp only[U,dt];omega):=u
def NC(u:R:=by simp only[U,bA];omega):=u
def ND(u:R:=by rw[<-d];simp only[KK];omega):=u
def NF(u:R:=by unfold e1 at x⊢;grind):=u
def NG(u:R:=by simp[deafBehind,semEvents]):=u
def EM(u:R:=by simp[dg]):=u
def NH(u:R:=by simp[mo,List.drop_take]):=u
def EN(u:R:=by rw[ij bU]):=u
def fp(u:R:=by and_intros<;>omega):=u
def iw(u:R:=by exact .aP (a0.eQ (d:=0) bd rfl rfl rfl rfl rfl) rfl):=u
def j0(u:R:=by rw[kC u M];simp):=u
def kv(u:R:=by exact du _ _ rfl E):=u
def nI(u:R:=by refine g.cr () [0,1,2] ?_ rz;simp):=u
def oJ(u:R:=by simp[a7];omega):=u
def oK(u:R:=by refine g.cr () [0,1] ?_ x6;simp):=u
def pJ(u:R:=by simp only[U];grind):=u
def qU(u:R:=by exact .aP (a0.fG rfl rfl Tryz.underlying22 rfl b') rfl):=u
def qV(u:R:=by simp only[U,cV,c1,C,a7,bA,ba,a9];and_intros<;>omega):=u
def qW(u:R:=by and_intros<;>first|rfl|omega):=u
def r6(u:R:=by refine g.freeze 4 1 rfl rfl rfl ?_;exact g.cp bd [] rfl E rfl rfl rfl fI):=u
def r7(u:R:=by show e+1<=_;omega):=u
def r8(u:R:=by exact bT.di [0] rfl v rfl rfl rfl g2):=u
def r9(u:R:=by simp only[U,a7];and_intros<;>omega):=u
def tR(u:R:=by rw[wV]at this;exact this):=u
def tS(u:R:=by exact g.aS [0] rfl E sV):=u
def tT(u:R:=by simp only[U.Y,U,ba,a9];and_intros<;>first|exact bt.same|exact w.2|rfl):=u
def wh(u:R:=by refine g.bw 6 rfl rfl rfl E E ?_;refine g.bw 7 rfl rfl rfl E E ?_;refine cG x rfl v ?_;refine g.cr () [0,1,2] ?_ rz;simp[hv,C]):=u
def wi(u:R:=by exactλw=>⟨.y,.y,.y,.eval (bg:=[]) bd x (cf:=[a7 .i64 _]) rfl lu,.eval (bg:=[]) bd x (cf:=[_,_]) rfl lu,.y,.y,v,.y,v⟩):=u
def wj(u:R:=by exact⟨.y,.y,.y,.eval (bg:=[]) bd x (cf:=[a7 .i64 _]) rfl lu,.eval (bg:=[]) bd x (cf:=[_,_]) rfl lu,.y,.y,v,v,v⟩):=u
def wl(u:R:=by exact dx.cJ (λ_ _ _ _=>iV rfl) rfl rfl bz rfl E):=u
def wm(u:R:=by simp[hk,wT];split<;>simp):=u
def wn(u:R:=by exact aZ rfl v (g.aw rfl)):=u
def wo(u:R:=by simp only[U,x,a7,bA,ba,a9];and_intros<;>omega):=u
def wq(u:R:=by refine g.eI 3 ?_;refine g.cK 9 rfl (λ_=>rfl) ?_;refine g.ret ?_;exact⟨⟨_,bt.same⟩,.inl rfl,rfl,rfl,_,_,_,rfl,rfl,rfl,rfl⟩):=u
def zB(u:R:=by simp only[U,cV,c1,ae,a7,bA,ba,a9];and_intros<;>omega):=u
def zC(u:R:=by rw[ofEvent_loc_mark bc]at s;cases s):=u
def zD(u:R:=by rw[j];simp only[ae];simp;exact I):=u
def zE(u:R:=by and_intros<;>first|exact k|omega):=u
def zF(u:R:=by grind [R5,aT.a1,a0.bits]):=u
def zG(u:R:=by refine g.freeze 8 1 rfl rfl rfl ?_;exact g.cp bd [] rfl E rfl rfl rfl fI):=u
def zH(u:R:=by rw[U,aac u ae1]):=u
def zI(u:R:=by simp only[U,a7,dt,ba,a9];and_intros<;>omega):=u
def zJ(u:R:=by exact a6 [(16,m)] rfl bJ (g.aB (e+1) rfl E E M y)):=u
def zK(u:R:=by simp only[U,ae,a7,show ec.bytes=8 from rfl,bA,dt,hd,eU,j8,RC,d8];and_intros<;>first|rfl|omega|(simp[gZ,iE];done)):=u
def zL(u:R:=by exact cG x rfl v (g.aw rfl)):=u
def zM(u:R:=by refine g.aF (qi b x.a2 x.bs x.a7 x.bz x.aM) [] rfl ?_;refine cG s rfl v ?_;refine g.freeze 8 1 rfl rfl rfl ?_;refine g.cp bd [] rfl ?_ rfl rfl rfl fI;simp):=u
def zN(u:R:=by rw[s];simp only[U.Y,U,I,dm,gU,ba,a9];and_intros<;>first|exact bt.same|exact ae X|rfl|omega):=u
def zO(u:R:=by simp only[U,cV,c1,o,R,a7,bA,ba,a9];and_intros<;>omega):=u
def zP(u:R:=by simp only[U,a1.E,a1.U,bj.E,bj.U,a2.E,a2.U,aB.E,aB.U,bD.E,bD.U,x,s,rZ,I,j,gj,il,ba,a9];simp):=u
def zQ(u:R:=by simp only[U.Y,U,ba,a9];omega):=u
def EO(u:R:=by exact⟨by omega,by omega,by grind[LJ]⟩):=u
def EP(u:R:=by exact aT.eval (bg:=[]) bd a8.nil rfl cv):=u
def EQ(u:R:=by simp only[U,x,a7,show np.bytes=32 from rfl,show lV.bytes=24 from rfl,bA,lA,ba,a9];and_intros<;>omega):=u
def ES(u:R:=by have:(x==j)=m:=eU.2 M;simp[this]):=u
def ET(u:R:=by refine g.aw rfl ?_;simp[bt,ce]):=u
def EU(u:R:=by simp only[U,dm,a7,bA,dt,ba,a9];and_intros<;>omega):=u
def EV(u:R:=by exact⟨bU,cm,by grind,lQ,.refl _ _⟩):=u
def EW(u:R:=by refine g.eI 2 ?_;refine g.cK 9 rfl (λ_=>rfl) ?_;refine g.cK 10 rfl (λ_=>rfl) ?_;refine g.ret ?_;exact⟨⟨_,bt.same⟩,.inl rfl,rfl,rfl,_,_,_,rfl,rfl,rfl,rfl⟩):=u
def EX(u:R:=by grind [Go.Conc.mem_ofEvents]):=u
def EY(u:R:=by obtain⟨_,I⟩:=JK bp;simp only[so]at I;have aj:e<aO.length:=(cO.1 I).1;exact⟨by simp[kp,ld,I],Ap aj⟩):=u
def EZ(u:R:=by refine bf e [(1000017,f)] rfl v ?_;exact du _ _ rfl E):=u
def E0(u:R:=by simp only[U,ae,a7,show oj.bytes=16 from rfl,bA,dt,j5,Ao,hd,eU,j8,d8,aj,heq,hn,p5,fX,gj,iB,m8,oV,ba,a9];and_intros<;>omega):=u
def E2(u:R:=by refine g.aS [0] rfl ?_ (λw x=>absurd x E);simp):=u
def E3(u:R:=by refine cG x rfl v ?_;refine g.cr () [0,1] ?_ x6;simp):=u
def E4(u:R:=by intro e t cv bp;simp[hk,wT]at bp;split at bp<;>simp at bp):=u
def E5(u:R:=by simp only[U,x,dt];and_intros<;>omega):=u
def E6(u:R:=by exact⟨λ_ _ _ _ he=>qY,λ_=>⟨λ_ _ _ _ he=>qY,.inl rfl⟩⟩):=u
def E7(u:R:=by grind[List.pairwise_iff_getElem]):=u
def E8(u:R:=by rintro -;refine aZ rfl v ?_;rw[<-d,show(k1:Int)+1=((bc.k1:Nat):Int) by omega];refine g.bd bc [0,5,6,7] ?_ XX;simp):=u
def E9(u:R:=by exact⟨u.a.mono y,b1.1,b1.2⟩):=u
def E_(u:R:=by have aj:=bj.cU b.2.1 u (0,[]);simp only[U.Y,U,j,cu.E,a9,ba];exact⟨⟨bt.same,bt.same,bt.same⟩,⟨bt.same,bt.same,bt.same⟩,⟨rfl,bt.same⟩,bt.same,aj⟩):=u
def E'(u:R:=by refine g.bP 6 46 2 rfl rfl (g.ba [m9 []] rfl E (g.aS [0] rfl E ?_));grind):=u
def Fa(u:R:=by obtain rfl:=jy (x rfl);refine aZ rfl v ?_;refine g.aw rfl ?_;simp):=u
def Fc(u:R:=by refine g.aS [0] rfl ?_ (λw x=>absurd x E);simp;rfl):=u
def Fe(u:R:=by simp only[U.Y,U,a9,ba];and_intros<;>first|exactλ_ _=>rfl|exact aj|rfl):=u
def Ff(u:R:=by refine cG e rfl v (g.aX (bT.mk [0] rfl v rfl rfl rfl g2))):=u
def Fg(u:R:=by simp[-al,I];omega):=u
def Fh(u:R:=by and_intros<;>first|omega|rfl):=u
def Fi(u:R:=by simp only[U,a1.E,a1.U,bj.E,bj.U,a2.E,a2.U,aB.E,aB.U,bD.E,bD.U,x,ae,C,t,aa,m8,and_self,gj,il,ba,a9]):=u
def Fj(u:R:=by simp only[U,x,a7,show rD.bytes=32 from rfl,ba,a9];and_intros<;>omega):=u
def NI(u:R:=by simp only[U.Y,U,x,o2,cV,a9,ba];and_intros<;>first|exactλ_ _=>rfl|exact aj|rfl):=u
def NJ(u:R:=by have aj:scanDown (λl=>!ltInt l ae[x]!) ae (e) (j-1)=i:=zR;exact du () v rfl bw rfl E):=u
def NK(u:R:=by refine a6 [(16,f)] rfl E (g.aX (bT.mk [0] rfl ?_ rfl rfl rfl h3));simp[s4 u C x]):=u
def NL(u:R:=by exact .eval (bg:=[]) bd a8.nil (cf:=[a7 .i64 (((0:Nat):Int)-((0:Nat):Int))]) rfl lu):=u
def NM(u:R:=by simp only[U.Y,U,cV,c1,o,a9,ba];exact lM t y y (λ_ _=>rfl)):=u
def NN(u:R:=by have aj:scanUp (λl=>ltInt l ae[x]!) ae (j-1) (x+1)=i:=Fm;exact du () v rfl bw rfl E):=u
def NO(u:R:=by refine aZ rfl v ?_;exact⟨w,bT.di [0] rfl v rfl rfl rfl h3⟩):=u
def NP(u:R:=by simp only[U,U.Y,j,I,s,pF,xQ,a9];grind):=u
def NQ(u:R:=by rw[s];simp only[U.Y,U,I,dm,fj,gz,ba,a9];and_intros<;>first|exact bt.same|exact t k X|rfl|omega):=u
def NR(u:R:=by simp only[U.Y,U,cV,c1,a9,ba];exact lM H y y (λ_ _=>rfl)):=u
def NS(u:R:=by obtain⟨jw,i7,wJ⟩:=u.last O b1 CO oi bO b7;grind):=u
def NT(u:R:=by simp only[U,xg,bA,dt,x,a7];omega):=u
def NU(u:R:=by refine g.ret ?_;exact⟨(),.inl rfl,rfl,rfl,_,_,_,rfl,rfl,rfl,v⟩):=u
def NV(u:R:=by simp only[U,show s0.bytes=16 from rfl,ba,a9];grind):=u
def NW(u:R:=by exact a6 [(16,m)] rfl bJ (g.b5 (e+1) rfl E rfl v M y)):=u
def NX(u:R:=by rw[s];simp only[U.Y,U,c1,I,dm,gU,ba,a9];and_intros<;>first|exact bt.same|exact C|rfl|omega):=u
def NY(u:R:=by simp only[U.Y,U,dm,gU,ba,a9];and_intros<;>first|exact bt.same|exact s|rfl|omega):=u
def NZ(u:R:=by refine aZ rfl v (g.aS [0,1] rfl E sW (s:=bJ))):=u
def N1(u:R:=by rw[Deaf_other o y _ g_of_ofEvents];exact u.above e bp):=u
def N2(u:R:=by simp[-al,k,a7,cu.E,cu.U,a1.E,a1.U,A,C.1];and_intros<;>first|omega|grind):=u
def N3(u:R:=by exact a6 [(8,f)] rfl (fk (JI u)) (g.aw rfl)):=u
def N4(u:R:=by intro _;refine aZ rfl v (g.aS [0] rfl ?_ h3);simp):=u
def N5(u:R:=by rw[s];simp only[U.Y,U,ae,ba,a9];and_intros<;>first|exact w|exact i|simp|rfl|omega):=u
def N6(u:R:=by simp only[U,bA,ba,a9];and_intros<;>omega):=u
def N7(u:R:=by rintro -;refine cG s rfl v ?_;refine g.cr () [] ?_ fI;simp):=u
def N8(u:R:=by simp[-al,C,a7,t,cY.S];omega):=u
def N9(u:R:=by refine g.cW 4 0 2 3 (lt:=_) (cq:=.ax ae d w s) rfl rfl (λ_=>rfl) (λ_=>rfl) (λ_ _=>by decide) ?_;exact g.aS [0] rfl E sV):=u
def N_(u:R:=by simp only[ox,x,g8,aj];grind[Nat.eq_of_beq_eq_true]):=u
def N'(u:R:=by exact⟨b7 X,C,λs1 cS=>⟨X,Q,O.rely cS C,C.rely cS,I.trans cS.aR,aj⟩⟩):=u
def Oa(u:R:=by simp[ac,cv,resolve,C,Deferred.ofValue,invoke,callFunc,I,s,j]):=u
def Ob(u:R:=by simp only[U,B3,bQ.E,x,bQ.U];simp[u,k8,x,j,-List.length_flatten]):=u
def Oc(u:R:=by have O:0+((((d.take w).filter λl=>!bc l).length:Nat):Int).toNat=((d.take w).filter λl=>!bc l).length:=y;simp only[U.Y,U,O,a9,ba];exact aj):=u
def Od(u:R:=by have:=I.bm _ (mw (show b.2.1.length-1<b.2.1.length by omega) (0,[]));omega):=u
def Oe(u:R:=by refine g.bd () [] ?_ (λw j=>absurd j E);simp):=u
def Of(u:R:=by refine a6 [(16,f)] rfl E (g.bX (bT.zero rfl ?_));simp[s4 u A x]):=u
def Og(u:R:=by refine a6 [(7,m)] rfl bX (g.bt rfl rfl ?_);refine aZ rfl v (g.aw rfl ?_);rw[U,aaf (λw I=>s w y)]):=u
def Oh(u:R:=by refine g.bw 1 rfl rfl rfl E E ?_;exact g.aw rfl (by simp[x,hv])):=u
def Oi(u:R:=by simp only[bc]at Q⊢;obtain⟨vt,ae_,ae8⟩:=u.dO _ _ bc;grind[mx]):=u
def Oj(u:R:=by simp only[U.Y,U,cV,c1,w,e,u,xorNext_toNat,a9,ba];exact lM d y y (λ_ _=>rfl)):=u
def Ol(u:R:=by rw[s];simp only[U.Y,U,ae,ba,a9];and_intros<;>first|exact w|simp|simp|simp|rfl|omega|simp):=u
def Om(u:R:=by simp only[U,cV,s,aj,x,j,a7,bA,dt,ba,a9];and_intros<;>omega):=u
def On(u:R:=by and_intros<;>first|exact bt.same|rfl|omega|exact s|exact I|exact s.symm|exact I.symm|(intro e bp;match e,bp with|0,_=>rfl)|(simp only[sh];omega)):=u
def Oo(u:R:=by rw[<-gD,dK]at aj;simp only[hN,eR]at aj;grind):=u
def Oq(u:R:=by rw[s];simp only[U.Y,U,ae,ba,a9];and_intros<;>first|exact w|exact i|exactλ_ _=>rfl|rfl|omega):=u
def Ot(u:R:=by exact⟨(),.inr rfl,rfl,rfl,_,_,_,rfl,rfl,rfl,v⟩):=u
def Ou(u:R:=by refine g.cr () [] ?_ fI;simp):=u
def Ov(u:R:=by rename_i C;cases u;rw[C]at s;have j:=b6 s;generalize aj:x.tmps.getD I K=aa at j;cases j;rw[key _ aj (by simp[K])]):=u
def Ow(u:R:=by simp only[U,I,a7,show ec.bytes=8 from rfl];exact bw):=u
def Ox(u:R:=by refine g.ret ?_;exact⟨⟨_,bt.same⟩,.inl rfl,rfl,rfl,_,_,_,rfl,rfl,rfl,v⟩):=u
def Oy(u:R:=by simp only[U,ko,tK,c1,d,t,I,ae,bA,j];grind):=u
def Oz(u:R:=by have aj:scanDown (λl=>!ltInt l d2[x]!) d2 (fv) (d)=i:=zR;exact du () v rfl bw rfl E):=u
def OA(u:R:=by exact bT.di [0,1] rfl v bJ rfl rfl sW):=u
def OB(u:R:=by exact bP [(14,f),(25,m)] rfl lG (g.aB (e+1) rfl E E M y)):=u
def OC(u:R:=by simp[x]at u;subst u;obtain⟨j,I⟩:=D4 x;grind):=u
def OD(u:R:=by exact .aP (a0.gY rfl rfl Tryz.underlying22 rfl b') rfl):=u
def OE(u:R:=by have aj:scanUp (λl=>ltInt l d2[x]!) d2 (d) (ec)=i:=Fm;exact du () v rfl bw rfl E):=u
def OF(u:R:=by have aj:I[e]?=(d.filter λl=>!bc l)[e]?:=M;refine(Nd wt).trans ?_;simp only[cY.fn,gr,al,aj]):=u
def OG(u:R:=by have aj:scanDown (λl=>ltInt d2[x]! l) d2 (fv) (s)=i:=zR;exact du () v rfl bw rfl E):=u
def OH(u:R:=by simp only[i]at k⊢;obtain⟨vt,bz,FQ⟩:=u.dO _ _ i;grind[mx]):=u
def OI(u:R:=by simp[G,aq,stepG.exec,Frame.M,C,I,ae,GStep.after,doReturn,b1]):=u
def OJ(u:R:=by rename_i bU;cases u;exact aT.a1 a' (a0.pick bc bU)):=u
def OK(u:R:=by exact .ctl ae rfl (λ_=>LO) λb2 dp=>lR .normal dE ao b2 fE bc (C.rely dp ae) (ae.rely dp) (I.trans dp.aR)):=u
def OL(u:R:=by rw[d];simp[-al];exact bD.a0 _ ae):=u
def OM(u:R:=by refine cG j rfl tQ ?_;exact⟨⟨_,by rw[cV];exact eF⟩,.inr rfl,rfl,rfl,_,_,_,rfl,rfl,rfl,v⟩):=u
def ON(u:R:=by rw[x];simp only[U.Y,U,j,ba,a9];and_intros<;>first|exact bt.same|exact aj|rfl|omega):=u
def OO(u:R:=by simp only[U.Y,U,cV,s,aj,x,a9,ba];exact lM w y y (λ_ _=>rfl)):=u
def OP(u:R:=by exact⟨by simp[aP,MemAct.low],λj s=>by simp[aP,MemAct.touch?]at s,λj s=>by simp[aP,MemAct.touch?]at s,⟨by simp,by simp⟩,by simp⟩):=u
def OQ(u:R:=by simp[-al,ka,ae,I,a7];omega):=u
def OR(u:R:=by simp only[U.Y,U,ba,a9];and_intros<;>first|exact bt.same|rfl|omega|exact d|exact t|exact d.symm|exact t.symm):=u
def OS(u:R:=by refine bP [(14,m)] rfl bX (g.aD ?_);exact cr rfl v (g.aw rfl)):=u
def OT(u:R:=by refine jh ?_;change ds b (Sem.events P (asInt (.int .i64 0) >>= _) _ _);simp[asInt,asIntOf,IntKind.max];exact .nil):=u
def OU(u:R:=by exact .dg (.aP (a0.gY rfl rfl Tryz.underlying22 rfl b') rfl)):=u
def OV(u:R:=by refine cG u rfl v (g.aS [0] rfl ?_ g2);simp):=u
def OW(u:R:=by refine aZ rfl v (g.ret (.freeze 8 4 rfl rfl rfl (.freeze 9 5 rfl rfl rfl (.of ⟨(),kZ.cells bd [0,1] rfl ?_ rfl rfl rfl ql⟩))));simp):=u
def OX(u:R:=by simp only[U,C,s,j,bD.E,bD.U,m8,and_self,fX,ba,a9]):=u
def OY(u:R:=by simp only[U.Y,U,a9,ba,sh];exact⟨bt.same,bt.same,bt.same⟩):=u
def OZ(u:R:=by simp only[U,a1.E,bj.E,a2.E,bD.E,e,rZ,k];and_intros<;>first|rfl|exact True.intro|exact a1.U _|exact bj.U _|exact a2.U _|exact bD.U _|exact a'):=u
def O0(u:R:=by have afa:bc*a4.size+a4.size<=A*a4.size:=aeZ;grind):=u
def O1(u:R:=by simp only[Go.binOp,d8,hn,dh,Op.intBits,aj,r4 I];exact⟨rfl,rfl⟩):=u
def O2(u:R:=by rw[I];simp[-al,sR];exact bQ.a0 _ _):=u
def O3(u:R:=by have bc:=C _ ae;simp only[U,j,bG.E,a7];exact⟨by omega,v,v,show(e+1)*32<=_ by omega,bG.U _,bc,by omega,by omega,fk y⟩):=u
def O4(u:R:=by simp only[iR,cF]at this;grind[o9]):=u
def O5(u:R:=by obtain rfl:e=R.2.length:=y;rw[c9];refine a_ j [(15,m)] rfl E (g.aD ?_);refine b_ j rfl v ?_;refine g.bd () [] ?_ (λw i=>absurd i E);simp[hy]):=u
def O6(u:R:=by exact .aP (a0.fG rfl rfl Tryz.underlying22 rfl x) rfl):=u
def O7(u:R:=by simp only[U.Y,U,cV,ba,a9];and_intros<;>first|exact bt.same|exact dK|rfl):=u
def O8(u:R:=by simp only[Go.binOp,Op.shift,bm (show¬j<0 by omega),u];exact⟨rfl,rfl⟩):=u
def O9(u:R:=by rw[s];simp only[U.Y,U,ae,ba,a9];and_intros<;>first|exact w|simp|simp|grind|rfl|omega|simp):=u
def O_(u:R:=by refine g.cr () [0,1,2] ?_ rz;simp[hv]):=u
def O'(u:R:=by simp only[U,a7,bA,ba,a9];and_intros<;>first|rfl|omega):=u
def Pa(u:R:=by simp[-al,t,bc,u,a7];omega):=u
def Pb(u:R:=by refine g.bd () [0,1] ?_ x6;simp):=u
def Pc(u:R:=by simp only[U.Y,U,j,ba,a9];and_intros<;>first|exactλ_ _=>rfl|exact s|rfl|omega):=u
def Pd(u:R:=by refine g.eI 2 ?_;refine g.cK 9 rfl (λ_=>rfl) ?_;refine g.ret ?_;exact⟨⟨_,bt.same⟩,.inl rfl,rfl,rfl,_,_,_,rfl,rfl,rfl,rfl⟩):=u
def Pe(u:R:=by refine aZ rfl v (g.aS [0] rfl ?_ h3);simp):=u
def Pf(u:R:=by simp only[U,cV,s,aj,x,C,j,a7,bA,dt,ba,a9];and_intros<;>omega):=u
def Pg(u:R:=by simp[-al,-List.contains_eq_mem,I,u,ae,aB.E,aB.U,a7,show lV.bytes=24 from rfl];omega):=u
def Ph(u:R:=by exact dx.bQ l.tocD [4,5] rfl rfl rfl rfl E rfl rfl rfl (λ_=>rfl) rfl (λ_=>rfl)):=u
def Pj(u:R:=by refine a6 [(8,m)] rfl E (g.aD ?_);exact aZ rfl v (g.aw rfl)):=u
def Pk(u:R:=by simp only;rw[i,dm,show ∀x,[x].length=1 fromλ_=>rfl,wU,AB,FT M,R,ij y];rfl):=u
def Pl(u:R:=by rw[cL];simp only[U.Y,U,c1,A,O,dm,gU,ba,a9];and_intros<;>first|exact bt.same|exact H|rfl|omega):=u
def Pm(u:R:=by refine cr rfl v (g.aS [0] rfl ?_ h3);simp;rfl):=u
def Pn(u:R:=by simp[-al,-List.contains_eq_mem,I,u,ae,aB.E,aB.U,a7];omega):=u
def Po(u:R:=by refine a6 [(9,m)] rfl bX (g.bt rfl rfl ?_);refine aZ rfl v (g.aw rfl ?_);simp[s5 (λw t=>x w y)]):=u
def Pp(u:R:=by simp only[g9,List.take_zero,hY,o,U.Y,U,ba,a9];and_intros<;>first|simp|rfl|omega):=u
def Pq(u:R:=by rw[j];simp[-al];exact bD.a0 _ (cl o e,lr o e)):=u
def Pr(u:R:=by simp only[U.Y,U,bt.same,ba,a9];rfl):=u
def Ps(u:R:=by obtain⟨cS,dp⟩:=ae W f_ Dd dI M;refine⟨cS,λaj=>?_⟩;obtain⟨L,R,A⟩:=dp aj;refine⟨L,?_,A⟩;simp only[a5.cut,ik,gD,dH];exact R):=u
def Pt(u:R:=by simp[-al,A,k,u,gZ,a7,cu.E,cu.U,a1.E,a1.U,bj.U,a2.U,t,bc.1];and_intros<;>first|omega|grind):=u
def Pu(u:R:=by simp[-al,u,ko,tK,j,I,C,s,A];omega):=u
def Pv(u:R:=by refine⟨rfl,λe bp=>?_⟩;rcases e with _|_|_|_|_|_|_|_|e<;>first|rfl|omega):=u
def Pw(u:R:=by simp only[U,a7,j,x,fX,bA,dt,ba,a9];and_intros<;>omega):=u
def Px(u:R:=by and_intros<;>first|exact bQ.U _|rfl|omega):=u
def Py(u:R:=by rw[s];simp only[U.Y,U,dm,gU,ba,a9];and_intros<;>first|exact bt.same|exact ae k|rfl|omega):=u
def Pz(u:R:=by rw[d];simp only[U.Y,U,j,s,A,a1.E,dm,gU,ba,a9];and_intros<;>first|exact bt.same|exact t|rfl|omega):=u
def PA(u:R:=by simp only[U,a7,show ec.bytes=8 from rfl,bA,dt,hd,eU,d8];and_intros<;>first|rfl|omega|(simp[gZ];done)):=u
def PC(u:R:=by refine g.cW 4 0 2 9 (lt:=.ax I e i C) (cq:=.nil) rfl rfl (λ_=>rfl) (λu=>absurd rfl u) (λ_ u=>absurd rfl u) ?_;exact g.aS [0] rfl E sV):=u
def PD(u:R:=by have aj:=a1.cU b.1 u (0,[]);simp only[U.Y,U,j,bG.E,a9,ba];exact⟨⟨bt.same,bt.same,bt.same⟩,⟨bt.same,bt.same,bt.same⟩,⟨rfl,bt.same⟩,aj,bt.same⟩):=u
def PE(u:R:=by exact .aP (JP 0 rfl rfl rfl lu (λQ=>rfl) (λQ=>rfl)) rfl):=u
def PF(u:R:=by simp[-al,A,o,bG.E,bG.U,u]):=u
def PG(u:R:=by refine⟨by grind[nB],by grind,?_⟩;rw[<-s,uG,ae,show x+L / 4*2-1+(3-(i+1))+1=x+L / 4*2-1+(3-i) by omega]):=u
def PH(u:R:=by subst d;exact⟨.bool f,by simp[ac,u,j,I,x,binOp,i],Rd.bool,by simp[ac,u,j,I,x,ae,binOp,i,C]⟩):=u
def PI(u:R:=by simp only[aN];grind[setRow_other]):=u
def PJ(u:R:=by simp only[U.Y,U,x,j,o2,cV,a9,ba];and_intros<;>first|exactλ_ _=>rfl|exact A|rfl):=u
def PK(u:R:=by simp only[U,ae,a7,show oj.bytes=16 from rfl,bA,dt,j5,Ao,hd,eU,j8,d8,heq,hn,p5,fX,gj,iB,m8,oV,ba,a9];and_intros<;>omega):=u
def PL(u:R:=by rw[i.bF j (ey cT u.size) (du j cT ji),u.bF j cT ji]):=u
def PM(u:R:=by simp[-al,bz,o,b1,j,t,bG.E,bG.U,a7];omega):=u
def PN(u:R:=by refine⟨by grind,a',by grind,λe bp=>bz e M⟩):=u
def PO(u:R:=by refine b_ j rfl bJ (g.aB (e+1) rfl E ?_ u y);simp):=u
def PP(u:R:=by refine bP [(52,f)] rfl (by simp[ae]) (g.aS [0] rfl ?_ g2);exact bJ):=u
def PQ(u:R:=by and_intros<;>first|exact bt.same|exact md|rfl):=u
def PR(u:R:=by refine a6 [(9,m)] rfl bX (g.aD ?_);refine aZ rfl v (g.aS [0] rfl ?_ h3);simp[s5 (λw k=>x w y)]):=u
def PS(u:R:=by have bc:=I _ ae;simp only[U,j,cu.E,a7];exact⟨by omega,v,v,show(e+1)*32<=_ by omega,cu.U _,bc.1,bc.2,by omega,by omega,fk y⟩):=u
def PT(u:R:=by exact a6 [(8,m)] rfl (lB Nw) (g.aw rfl)):=u
def PU(u:R:=by obtain⟨rfl,rfl⟩:=u;obtain⟨j,x⟩:=cv;replace x:0<X:=x;simp only[binOp,d8,hn,dh,Op.intDiv,show X≠0 by omega];rfl):=u
def PV(u:R:=by simp only[U,b1,a2.E,a2.U,gj,bA,dt,ba,a9];omega):=u
def PW(u:R:=by simp only[U,show np.bytes=32 from rfl,ba,a9];grind):=u
def PX(u:R:=by simp only[U,xg,bA,dt,x];omega):=u
def PY(u:R:=by subst u;cases l<;>cases X<;>simp only at I<;>simp[binOp,x]):=u
def PZ(u:R:=by have aj:(B.toArray++Array.replicate (fn.ntmps-B.toArray.size) K).getD o K=(B[o]?).getD K:=Fp;grind):=u
def P0(u:R:=by rw[ae];simp only[U.Y,U,j,bQ.E,k,im,dm,gU,ba,a9];and_intros<;>first|exact bt.same|exact O|rfl|omega):=u
def P1(u:R:=by intro k u;rw[fj,List.range'_succ];refine⟨by simpa using u 0 t rfl,x (k+1) λw j Jz=>?_⟩;have:=u (w+1) j M;grind):=u
def P2(u:R:=by refine b_ x rfl bJ ?_;refine g.aP (yy ((min (ae+8) o.length:Nat):Int) rfl rfl rfl y d) rfl rfl ?_;refine b_ x rfl v (g.aw rfl ?_);simp[aj]):=u
def P3(u:R:=by have:=u e (sn.2 bp);simp only[h',cF]at this;grind):=u
def P4(u:R:=by rw[j];simp only[U.Y,U,c1,I,s,bG.E,aB.E,dm,gU,ba,a9];and_intros<;>first|exact bt.same|exact d|rfl|omega):=u
def P5(u:R:=by rw[j];simp only[U.Y,U,c1,I,dm,gU,ba,a9];and_intros<;>first|exact bt.same|exact d|rfl|omega):=u
def P6(u:R:=by refine g.cp bd [] rfl ?_ rfl rfl rfl fI;simp):=u
def P7(u:R:=by rw[i];simp only[dm,gU,U.Y,U,x,ba,a9];and_intros<;>first|exact A|simp|rfl|omega):=u
def P8(u:R:=by simp[-al];exact bD.a0 _ ae):=u
def P9(u:R:=by refine bP [(52,m),(55,f)] rfl zY (g.aS [0] rfl ?_ g2);exact bJ):=u
def P_(u:R:=by exact aT.eval (bg:=[]) bd a8.nil rfl (nn b d k j u)):=u
def P'(u:R:=by rw[s];simp only[U.Y,U,c1,w,dm,gU,ba,a9];and_intros<;>first|exact bt.same|exact d|rfl|omega):=u
def Qa(u:R:=by simp only[U,a7,aj,s,e,bA,dt,ba,a9];omega):=u
def Qb(u:R:=by simp[-al,A,k,o,bG.E,bG.U,u,a7];omega):=u
def Qd(u:R:=by subst d;exact⟨.bool m,by simp[ac,u,j,I,x,binOp,i],Rd.bool,by simp[ac,u,j,I,x,ae,binOp,i,C]⟩):=u
def Qe(u:R:=by refine a6 [(9,m)] rfl bw (g.aD ?_);exact aZ rfl v (g.aw rfl)):=u
def Qf(u:R:=by and_intros<;>first|exact bQ.U _|exact eZ.U _|omega):=u
def Qg(u:R:=by simp only[U,cV,s,aj,x,i,C,j,a7,bA,dt,ba,a9];and_intros<;>omega):=u
def Qh(u:R:=by simp only[U,cV,c1,O,R,a7,bA,ba,a9];and_intros<;>omega):=u
def Qi(u:R:=by simp only[U,a1.E,bj.E,a2.E,bD.E,e,rZ,t];and_intros<;>first|rfl|exact True.intro|exact a1.U _|exact bj.U _|exact a2.U _|exact bD.U _|exact a'):=u
def Qj(u:R:=by have aj:=di cT;subst aj;exact De (W:=W) (T:=dI) (b6 C) E tX):=u
def Qk(u:R:=by simp only[U,a7,show yk.bytes=40 from rfl,ba,a9];and_intros<;>omega):=u
def Ql(u:R:=by simp[-al,k,t,a7,cu.E,cu.U,a1.E,a1.U,A,C.1];and_intros<;>first|omega|grind):=u
def Qm(u:R:=by and_intros<;>first|exactλ_ _=>rfl|exact aj|rfl|omega):=u
def Qo(u:R:=by show h (E1.aq (O.c (nq b.1 e (.slice (h ⟨j,0,q⟩) ag.length cap) (0+(e:Int).toNat))))=_;rw[k,nq,bs rfl]):=u
def Qp(u:R:=by rw[x];simp only[U.Y,U,dm,fj,gz,ba,a9];and_intros<;>first|exactλ_ _=>rfl|exact a'|rfl|omega):=u
def Qq(u:R:=by exact⟨by exact cQ,λj i=>by exact cQ,⟨by simp,by simp⟩,by simp⟩):=u
def Qr(u:R:=by rename_i aj;subst aj;intro pre va;refine .ctl ae rfl (λ_=>LN (f_:=i) (by rw[va];simp[exitTo])) λb2 dp=>?_;exact lR .normal dE ao b2 fE bc (C.rely dp ae) (ae.rely dp) (I.trans dp.aR)):=u
def Qs(u:R:=by simp only[U,x,j,a7,show yk.bytes=40 from rfl,show ec.bytes=8 from rfl,bA,lA,ba,a9];and_intros<;>omega):=u
def Qt(u:R:=by rw[hq]at u;cases u;exact e9.dg (ee aQ aj j cv) ae i):=u
def Qu(u:R:=by simp[-al,-List.length_take,I,ka,j,C,s,a7];omega):=u
def Qv(u:R:=by refine bP [(52,m),(55,m)] rfl bw (g.aS [0] rfl ?_ g2);simp[ae,aj,qr,CN]):=u
def Qw(u:R:=by simp only[U,a7,bA,dt,ba,a9];and_intros<;>omega):=u
def Qx(u:R:=by have j:=(aQ o e bp).run_underlying (Q:=b.a);rw[ae]at j;simp[ac,u,x,I,Instr.index,asIntOf,j,Jz,C]):=u
def Qy(u:R:=by obtain⟨R,L1,cS,dp,a'⟩:=u.box d bU L aE x;obtain⟨o,w,k1,ae,C⟩:=i.box d R L1 cS dp;exact⟨o,w,k1,ae,a'.trans C⟩):=u
def Qz(u:R:=by have:=I.a2 _ (mw (show b.1.length-1<b.1.length by omega) (0,[]));omega):=u
def QA(u:R:=by simp only[U,a7,dt,eU,d8];and_intros<;>omega):=u
def QB(u:R:=by simp only[U,bG.E,x,b1];and_intros<;>first|exact bG.U _|rfl|exact True.intro|grind):=u
def QC(u:R:=by have aj:=I7 C A aa;refine⟨by omega,rfl,?_,λ_ _=>rfl⟩;grind):=u
def QD(u:R:=by simp only[U,s,j,bA,lA,ba,a9];and_intros<;>omega):=u
def QE(u:R:=by obtain⟨e,t,j,x⟩:=CM u;exact⟨e+1,t,by grind,x⟩):=u
def QF(u:R:=by refine aZ rfl v ?_;exact⟨(),.inr rfl,rfl,rfl,_,_,_,rfl,rfl,rfl,v⟩):=u
def QG(u:R:=by simp only[dH]at I;subst I;exact cr rfl v (g.aw rfl)):=u
def QH(u:R:=by simp[-al,I,s];omega):=u
def QJ(u:R:=by have aj:scanUp (λl=>!ltInt d2[x]! l) d2 (s) (ec)=i:=Fm;exact du () v rfl bw rfl E):=u
def QK(u:R:=by simp only[U,a7,aj,s,A,bA,eq_self,ba,a9];omega):=u
def QL(u:R:=by have aj:((d.take (i0+1)).filter λl=>!bc l).length=i0:=ae0;simp[aj]):=u
def QM(u:R:=by refine⟨j,rfl,?_⟩;rw[bm y];simp[gM,jA]):=u
def QN(u:R:=by simp only[U,b1,a2.E,a2.U,gj,bA,ba,a9];omega):=u
def QO(u:R:=by simp only[U.Y,U,cV,c1,a9,ba];exact lM bz y y (λ_ _=>rfl)):=u
def QP(u:R:=by simp at I;subst I;exact⟨_,rfl,.inr ⟨rfl,rfl⟩⟩):=u
def QQ(u:R:=by simp[ac,cv,resolve,s,Deferred.ofValue,invoke,I]):=u
def QR(u:R:=by refine g.cW 4 0 9 2 (lt:=.nil) (cq:=.ax ae d w s) rfl rfl (λu=>absurd rfl u) (λ_=>rfl) (λu=>absurd rfl u) ?_;exact g.aS [0] rfl E sV):=u
end
end Go
namespace Go.AM
inductive N where
  |int (i:IntKind) (k:Int)
  |bool (j:Bool)
  |V (b:List UInt8)
  |S (tight:Bool) (i k:Nat) (T:Nat->List N)
  |O (ah:List N)
  |bc
  |cg (o:av) (s:N)
  |cD (o:av) (ah:List N)
  |bo
  |fn (ae:Fn) (first cap:List N)
  |da
  |val (l:Z)
inductive pL where
  |S (C i t k:Nat)
  |bx (C i e ae:Nat)
def pL.g:pL->Nat
  |.S C _ _ _=>C
  |.bx C _ _ _=>C
def pL.fW:pL->Z->Z->Prop
  |.S _ i n l,d,j=>∃k e a b,j=.slice k l a/\l<=a/\n+a=b/\b<=9223372036854775807/\d=.slice e 0 b/\(0<a->∃g,e=h ⟨g,0,q⟩/\k=h ⟨g,n*i,q⟩)
  |.bx _ i p o,d,j=>∃g b,d=.slice (h ⟨g,0,q⟩) 0 b/\j=.pointer (h ⟨g,p*i+o,q⟩)
inductive O where
  |c (l:N)
  |ptr (d off:Nat)
  |r (d i k:Nat) (T:Nat->List N)
  |aQ (d:Nat)
  |R (d:Nat) (Q:pL)
  |any
abbrev O.v(a:Z):O:=.c (.val a)
inductive E1 where
  |aq (x:O)
  |agg (ah:List O)
inductive z where
  |q (l:E1)
  |Q (ag:List E1)
  |any
abbrev bH:=p (Nat×z)
def look:bH->Nat->z
  |[],_=>.any
  | (d,b)::e,a=>cond (af d a) b (look e a)
inductive an where
  |cells (W:av) (ah:List O)
  |r (W:av) (i k:Nat) (T:Nat->List N)
  |J (H:Z->(Nat->Option Obj)->Prop)
  |x
  |loop (D:Nat) (F:bH) (a':Loop)
  |bn
  |h (W:av) (i k:Nat) (T:Nat->List N)
@[simp] def an.dN:an->Bool
  |.r _ _ _ _=>f
  |.h _ _ _ _=>f
  |_=>m
structure Loc where
  v:Z
  al:p Nat
abbrev Mem:=Nat->Nat->Option Z
structure a5 where
  m:p Loc
  u:Mem
  a:au
  own:Nat->Prop
def a7:IntKind->Int->Prop
  |.i8,a=>-128<=a/\a<=127
  |.i16,a=>-32768<=a/\a<=32767
  |.i32,a=>-2147483648<=a/\a<=2147483647
  |.i64,a=>-9223372036854775808<=a/\a<=9223372036854775807
  |.u8,a=>0<=a/\a<=255
  |.u16,a=>0<=a/\a<=65535
  |.u32,a=>0<=a/\a<=4294967295
  |.u64,a=>0<=a/\a<=18446744073709551615
def dW:Z->Bool
  |.agg _|.tuple _=>m
  |_=>f
def pL.fW.cell{b:pL}{aak aa}(a:b.fW aak aa):dW aa=f:=by
  cases b with
  |S=>obtain⟨_,_,_,_,rfl,_⟩:=a;rfl
  |bx=>obtain⟨_,_,_,rfl⟩:=a;rfl
inductive Rd (bB:Mem):Z->N->Prop
  |int {i:IntKind} {k:Int} (u:a7 i k):Rd bB (.int i k) (.int i k)
  |bool {j:Bool}:Rd bB (.bool j) (.bool j)
  |V {b:ByteArray} {d:List UInt8} (u:b.data.toList=d) (gD:c d<=9223372036854775807):Rd bB (.string b) (.V d)
  |S {x:Option Addr} {k cap:Nat} {tight:Bool} {i:Nat} {T:Nat->List N} (j off:Nat) (ae:Nat->Nat->Z)
      (ae7:k<=cap) (cT:cap<=9223372036854775807) (afb:tight=f->cap=k) (b1:∀e,e<k->c (T e)=i)
      (ae5:0<k->x=h ⟨j,off,q⟩)
      (pc:∀e,e<k->∀w s,(T e)[w]?=h s->bB j (off+e*i+w)=h (ae e w))
      (JA:∀e,e<k->∀w s,(T e)[w]?=h s->Rd bB (ae e w) s):Rd bB (.slice x k cap) (.S tight i k T)
  |O {ah:List N} (j off:Nat) (ae:Nat->Z)
      (pc:∀w s,ah[w]?=h s->bB j (off+w)=h (ae w))
      (JA:∀w s,ah[w]?=h s->Rd bB (ae w) s):Rd bB (.pointer (h ⟨j,off,q⟩)) (.O ah)
  |bc:Rd bB (.pointer q) .bc
  |cg {o:av} {aa:Z} {s:N} (u:Rd bB aa s) (ae6:dW aa=f):Rd bB (.iface o aa) (.cg o s)
  |cD {o:av} {B:List Z} {ah:List N} (gD:c B=c ah)
      (ae:Nat->Z) (rB:∀w,w<c B->B[w]?=h (ae w)) (JA:∀w s,ah[w]?=h s->Rd bB (ae w) s):Rd bB (.iface o (.agg B.toArray)) (.cD o ah)
  |bo:Rd bB .nilIface .bo
  |fn {C:Fn} {first cap:List N} (h4 ah:List Z) (gD:c h4=c first) (ae9:c ah=c cap) (f1 f2:Nat->Z)
      (cS:∀w,w<c h4->h4[w]?=h (f1 w)) (dp:∀w,w<c ah->ah[w]?=h (f2 w))
      (afg:∀w s,first[w]?=h s->Rd bB (f1 w) s) (afh:∀w s,cap[w]?=h s->Rd bB (f2 w) s):Rd bB (.func C h4.toArray ah.toArray) (.fn C first cap)
  |da:Rd bB .nilFunc .da
  |val {l:Z} (u:dW l=f):Rd bB l (.val l)
theorem Rd.bj{bB}{aa l}(a:Rd bB aa (.val l)):aa=l:=by cases a;rfl
def Rd.cell{bB}{aa}{s}(a:Rd bB aa s):dW aa=f:=by cases a<;>first|rfl|assumption
def Rd.mono{bB n}(I:∀l J aa,bB l J=h aa->n l J=h aa){aa}{s}(i:Rd bB aa s):Rd n aa s:=by
  induction i with
  |int i=>exact .int i
  |bool=>exact .bool
  |V i e=>exact .V i e
  |S l g o K C E D B k r b=>
    exact .S l g o K C E D B (λF j d s a=>I _ _ _ (k F j d s a)) (λF j d s a=>b F j d s a)
  |O l g o k r b=>exact .O l g o (λd s a=>I _ _ _ (k d s a)) (λd s a=>b d s a)
  |bc=>exact .bc
  |cg i M b=>exact .cg b M
  |cD e o N r b=>exact .cD e o N (λd s a=>b d s a)
  |bo=>exact .bo
  |fn y v e p w x z A Q R t u=>exact .fn y v e p w x z A (λd s a=>t d s a) (λd s a=>u d s a)
  |da=>exact .da
  |val i=>exact .val i
def cw(i:p an)(j:a5)(b:Z):O->Prop
  |.c w=>Rd j.u b w
  |.ptr a n=>(∀k,i[a]?=h k->k.dN=m)/\∃L v,j.m[a]?=h L/\L.v=.pointer (h ⟨v,0,q⟩)/\b=.pointer (h ⟨v,n,q⟩)
  |.r a r e d=>Rd j.u b (.S m r e d)/\a<c i/\∀o s g l,i[a]?=h (an.r o s g l)->e<=g/\(g=e->∃L,j.m[a]?=h L/\b=L.v)
  |.aQ a=>(∀k,i[a]?=h k->k.dN=m)/\∃L,j.m[a]?=h L/\b=L.v/\dW b=f
  |.R a t=>∃u,t.fW u b/\a<c i/\∀o r e d,i[a]?=h (an.h o r e d)->t.g<=e/\(t.g=e->∃L,j.m[a]?=h L/\L.v=u)
  |.any=>dW b=f
def bM(b:p an)(d:a5):p Z->p O->Prop
  |[],[]=>True
  |g::B,e::a=>cw b d g e/\bM b d B a
  |_,_=>False
def er(b:p an)(d:a5)(e:Z):E1->Prop
  |.aq g=>cw b d e g
  |.agg a=>∃B:p Z,e=.agg B.toArray/\bM b d B a
def eQ(b:p an)(d:a5):p Z->p E1->Prop
  |[],[]=>True
  |g::B,e::a=>er b d g e/\eQ b d B a
  |_,_=>False
def bx(b:p an)(d:a5)(e:Z):z->Prop
  |.q g=>er b d e g
  |.Q a=>∃B:p Z,e=.tuple B.toArray/\eQ b d B a
  |.any=>True
def b4(b:p an)(d:a5):p Z->p z->Prop
  |[],[]=>True
  |g::B,e::a=>bx b d g e/\b4 b d B a
  |_,_=>False
structure eW(bB:Mem)(i k:Nat)(T:Nat->p N)(B:p Z):Prop where
  len:c B=k*i
  bJ:∀e,e<k->c (T e)=i
  rd:∀e,e<k->∀(w:Nat) (s:N),(T e)[w]?=h s->∃aa,B[e*i+w]?=h aa/\Rd bB aa s
def eW.mono{bB a}(n:∀j l aa,bB j l=h aa->a j l=h aa){i k}{b:Nat->p N}{B}(d:eW bB i k b B):eW a i k b B:=
  ⟨d.len,d.bJ,λr e s o g=>let ⟨aa,cS,dp⟩:=d.rd r e s o g;⟨aa,cS,dp.mono n⟩⟩
def ep(v:p an)(b:a5):an->Loc->Prop
  |.cells n t,L=>∃a B,L=⟨.pointer (h ⟨a,0,q⟩),[a]⟩/\b.a.heap[a]?=h (.cells (List.toArray B) n (0,0))/\bM v b B t/\∀d,b.u a d=q
  |.r n k g e,L=>Rd b.u L.v (.S m k g e) /\
      (((L.al=[]/\g=0)/\Rd b.u L.v (.S f k g e)) ∨
       ∃a i B,L=⟨.slice (h ⟨a,0,q⟩) g i,[a]⟩/\b.a.heap[a]?=h (.cells (List.toArray B) n (0,0))/\c B=i*k/\∀d,g*k<=d->b.u a d=q)
  |.J H,L=>∃j,H L.v j/\(∀a d,j a=h d->b.a.heap[a]?=h d)/\(∀a,a∈L.al↔(j a).isSome=f)/\∀a∈L.al,∀d,b.u a d=q
  |.x,_=>True
  |.loop y x l,L=>∃s tmps fn u,L=⟨.func (.yield s) #[] #[],[s]⟩/\b.a.heap[s]?=h (.loop {l with tmps:=tmps,fn:=fn,defers:=u})/\tmps.size=y/\(∀w,bx v b (tmps.getD w K) (look x w))/\∀d,b.u s d=q
  |.bn,L=>∃l:Nat,L=⟨.int .i64 l,[l]⟩/\b.a.heap[l]?=h (.deferred (h []))/\∀d,b.u l d=q
  |.h n k g e,L=>(g=0/\L=⟨.slice q 0 0,[]⟩)∨∃a r B o,L=⟨.slice (h ⟨a,0,q⟩) 0 r,[a]⟩/\b.a.heap[a]?=h (.cells (List.toArray (B++o)) n (0,0))/\c (B++o)=r*k/\g<=r/\r<=9223372036854775807/\eW b.u k g e B/\∀d,b.u a d=q
structure bb(n:p an)(b:a5):Prop where
  mem:∀j t aa,b.u j t=h aa->b.a.cell? ⟨j,t,q⟩=h aa
  len:c b.m=c n
  box:∀(d:Nat) (bU:an) (L:Loc),n[d]?=h bU->b.m[d]?=h L->ep n b bU L
  a3:∀(d kJ:Nat) (L cm:Loc),b.m[d]?=h L->b.m[kJ]?=h cm->∀j∈L.al,j∈cm.al->d=kJ
  lt:∀L∈b.m,∀j∈L.al,j<b.a.heap.size
  own:∀j,b.own j->j<b.a.heap.size/\∀L∈b.m,j∉L.al
def fD:an->Loc->an->Loc->Prop
  |.r _ _ d _,L,.r _ _ b _,a=>(b=d->a.v=L.v)/\d<=b
  |.r _ _ _ _,_,.x,_=>True
  |.r _ _ _ _,_,_,_=>False
  |.h _ _ d _,L,.h _ _ b _,a=>(b=d->a.v=L.v)/\d<=b
  |.h _ _ _ _,_,.x,_=>True
  |.h _ _ _ _,_,_,_=>False
  |_,_,.r _ _ _ _,_=>False
  |_,_,.h _ _ _ _,_=>False
  |.x,L,.x,a=>a.v=L.v
  |.x,_,_,_=>False
  |.bn,L,.bn,a=>a.v=L.v
  |.bn,_,_,_=>False
  |_,_,.bn,_=>False
  |_,L,_,a=>a.v=L.v
structure fh(n:p an)(b:a5)(ao:p an)(az:a5):Prop where
  mem:∀j t aa,b.u j t=h aa->az.u j t=h aa
  box:∀(d:Nat) (bU:an) (L:Loc),n[d]?=h bU->b.m[d]?=h L->∃d' cm,ao[d]?=h d'/\az.m[d]?=h cm/\fD bU L d' cm
structure cN(n:p an)(b:a5)(ao:p an)(az:a5):Prop where
  size:b.a.heap.size<=az.a.heap.size
  a6:∀j,j<b.a.heap.size->(∀L∈b.m,j∉L.al)->az.a.heap[j]?=b.a.heap[j]?
  mem:∀j t aa,b.u j t=h aa->az.u j t=h aa
  bF:∀j,j<b.a.heap.size->(∀L∈b.m,j∉L.al)->∀t,az.u j t=b.u j t
  bV:∀cm∈az.m,∀j∈cm.al,b.a.heap.size<=j∨∃L∈b.m,j∈L.al
  box:∀(d:Nat) (bU:an) (L:Loc),n[d]?=h bU->b.m[d]?=h L->∃d' cm,ao[d]?=h d'/\az.m[d]?=h cm/\fD bU L d' cm
  os:az.a.os=b.a.os
  tape:az.a.tape=b.a.tape
  output:az.a.output=b.a.output
  own:az.own=b.own
structure dc(n:p an)(b:a5)(ao:p an)(az:a5):Prop where
  size:b.a.heap.size<=az.a.heap.size
  a6:∀j,b.own j->az.a.heap[j]?=b.a.heap[j]?
  mem:∀j t aa,b.u j t=h aa->az.u j t=h aa
  bF:∀j,j<b.a.heap.size->(∀L∈b.m,j∉L.al)->∀t,az.u j t=b.u j t
  bV:∀cm∈az.m,∀j∈cm.al,b.a.heap.size<=j∨∃L∈b.m,j∈L.al
  box:∀(d:Nat) (bU:an) (L:Loc),n[d]?=h bU->b.m[d]?=h L->∃d' cm,ao[d]?=h d'/\az.m[d]?=h cm/\fD bU L d' cm
  os:az.a.os=b.a.os
  tape:az.a.tape=b.a.tape
  output:az.a.output=b.a.output
  own:az.own=b.own
structure cU(b az:a5):Prop where
  m:az.m=b.m
  u:az.u=b.u
  own:az.own=b.own
  size:b.a.heap.size<=az.a.heap.size
  a6:∀j,(b.own j∨∃L∈b.m,j∈L.al)->az.a.heap[j]?=b.a.heap[j]?
  mem:∀j t aa,b.u j t=h aa->az.a.cell? ⟨j,t,q⟩=h aa
  os:az.a.os=b.a.os
  tape:az.a.tape=b.a.tape
  output:az.a.output=b.a.output
def h1(d:a5)(b:aU):Prop:=
  match b.loc with
  |.cell a=>b.sync=m/\a.spot=q/\(False∨((∃L∈d.m,a.block∈L.al)/\(b.write=f->d.u a.block a.off=q))∨(b.write=m/\∃j,d.u a.block a.off=h j))
  |.obj i=>b.sync=m/\(False∨∃L∈d.m,i∈L.al)
  |.mark e=>e=.noRoom∨∃g,e=.extern g
  |_=>False
def ds(d:a5)(a:Array aU):Prop:=∀b∈a,h1 d b
def ds.nil{b}:ds b #[]:=by intro a d;grind
def fD.refl(a)(L):fD a L a L:=by cases a<;>simp[fD]
def fD.trans{g d a}{L e b}(j:fD g L d e)(i:fD d e a b):fD g L a b:=by
  cases g<;>cases d<;>cases a<;>simp_all[fD]
  all_goals
    grind
def cN.refl(n)(b):cN n b n b:=
  ⟨bC _,λ_ _ _=>rfl,λ_ _ _ a=>a,λ_ _ _ _=>rfl,λL a i d=>.inr ⟨L,a,d⟩,λ_ e L a g=>⟨e,L,a,g,.refl _ _⟩,rfl,rfl,rfl,rfl⟩
def cN.trans{n aL a}{b e b2}(u:cN n b aL e)(i:cN aL e a b2):cN n b a b2:=by
  have du:∀j,j<b.a.heap.size->(∀L∈b.m,j∉L.al)->∀L∈e.m,j∉L.al:=by
    intro j cT ji L x g;rcases u.bV L x j g with cS|⟨v,t,p⟩
    · omega
    grind
  refine⟨fF u.size i.size,?_,λj l y k=>i.mem _ _ _ (u.mem _ _ _ k),?_,?_,?_,i.os.trans u.os,i.tape.trans u.tape,i.output.trans u.output,i.own.trans u.own⟩
  · intro j cT ji
    rw[i.a6 j (ey cT u.size) (du j cT ji),u.a6 j cT ji]
  · intro j cT ji l
    exact PL
  · intro L x j cT
    rcases i.bV L x j cT with cS|⟨L1,s,r⟩
    · exact .inl (fF u.size cS)
    grind
  · intro d bU L aE x
    exact Qy
def dc.refl(n)(b):dc n b n b:=
  ⟨bC _,λ_ _=>rfl,λ_ _ _ a=>a,λ_ _ _ _=>rfl,λL a i d=>.inr ⟨L,a,d⟩,λ_ e L a g=>⟨e,L,a,g,.refl _ _⟩,rfl,rfl,rfl,rfl⟩
def dc.trans{n aL a}{b e b2}(u:dc n b aL e)(i:dc aL e a b2):dc n b a b2:=by
  have du:∀j,j<b.a.heap.size->(∀L∈b.m,j∉L.al)->∀L∈e.m,j∉L.al:=by
    intro j cT ji L x g;rcases u.bV L x j g with cS|⟨v,t,p⟩
    · omega
    grind
  refine⟨fF u.size i.size,?_,λj l y k=>i.mem _ _ _ (u.mem _ _ _ k),?_,?_,?_,i.os.trans u.os,i.tape.trans u.tape,i.output.trans u.output,i.own.trans u.own⟩
  · intro j cT
    rw[i.a6 j (by rw[u.own];exact cT),u.a6 j cT]
  · intro j cT ji l
    exact PL
  · intro L x j cT
    rcases i.bV L x j cT with cS|⟨L1,s,r⟩
    · exact .inl (fF u.size cS)
    grind
  · intro d bU L aE x
    exact Qy
def cN.tooU{n ao}{b az}(e:bb n b)(a:cN n b ao az):dc n b ao az:=
  ⟨a.size,λg d=>a.a6 g (e.own g d).1 (e.own g d).2,a.mem,a.bF,a.bV,a.box,a.os,a.tape,a.output,a.own⟩
def dc.ext{n ao}{b az}(a:dc n b ao az):fh n b ao az:=⟨a.mem,a.box⟩
def cU.refl{n}{b}(a:bb n b):cU b b:=⟨rfl,rfl,rfl,bC _,λ_ _=>rfl,a.mem,rfl,rfl,rfl⟩
def cU.aR{n}{b az}(a:cU b az):dc n b n az:=
  ⟨a.size,λg d=>a.a6 g (.inl d),λg l o j=>by rw[a.u];exact j,λ_ _ _ _=>by rw[a.u],λL e g d=>.inr ⟨L,by rw[<-a.m];exact e,d⟩,
    λk i L aE e=>⟨i,L,aE,by rw[a.m];exact e,.refl _ _⟩,a.os,a.tape,a.output,a.own⟩
def cN.ext{n ao}{b az}(a:cN n b ao az):fh n b ao az:=⟨a.mem,a.box⟩
section mono
variable {n ao:p an}{b az:a5}
def fh.hD(l:fh n b ao az){a:Nat}{L}(k:b.m[a]?=h L)(o:c b.m=c n)(i:∀d,n[a]?=h d->d.dN=m):
    (∀d,ao[a]?=h d->d.dN=m)/\∃e,az.m[a]?=h e/\e.v=L.v:=by have j:a<c n:=M;obtain⟨g,e,k1,r,s⟩:=l.box a (n[a]) L (bI j) k;have p:=i _ (bI j);generalize n[a]=d at *;rw[k1];cases d<;>cases g<;>simp_all[fD,an.dN]
def cw.mono(j:fh n b ao az)(t:c b.m=c n){aa}{w}(k:cw n b aa w):cw ao az aa w:=by
  cases w with
  |c V=>exact Rd.mono j.mem k
  |any=>exact k
  |ptr a K=>
    obtain⟨i,L,N,e,z,F⟩:=k;obtain⟨r,d,k1,A⟩:=j.hD e t i;exact⟨r,d,N,k1,by grind,F⟩
  |r a S T O=>
    obtain⟨B,l,Q⟩:=k;obtain⟨v,d,k1,A,s⟩:=j.box a (n[a]) (b.m[a]'y) (bI l) (bI y);have x:a<c ao:=(cO.1 k1).1;refine⟨Rd.mono j.mem B,x,λM C r o g=>?_⟩;rw[g]at k1;cases k1;have aE:=bI l;generalize n[a]=u at *;cases u with
    |r eH D I p=>
      obtain⟨R,J⟩:=s;grind
    |_=>simp[fD]at s
  |aQ a=>
    obtain⟨i,L,e,z,F⟩:=k;obtain⟨r,d,k1,A⟩:=j.hD e t i;exact⟨r,d,k1,by grind,F⟩
  |R a U=>
    obtain⟨E,B,l,Q⟩:=k;obtain⟨v,d,k1,A,s⟩:=j.box a (n[a]) (b.m[a]'y) (bI l) (bI y);have x:a<c ao:=(cO.1 k1).1;refine⟨E,B,x,λM C r o g=>?_⟩;rw[g]at k1;cases k1;have aE:=bI l;generalize n[a]=u at *;cases u with
    |h eH D I p=>
      obtain⟨R,J⟩:=s;grind
    |_=>simp[fD]at s
def bM.mono(g:fh n b ao az)(a:c b.m=c n){B}{ah}(e:bM n b B ah):bM ao az B ah:=by
  induction B generalizing ah with
  |nil=>cases ah<;>simp_all[bM]
  |cons j B d=>
    cases ah with
    |nil=>simp[bM]at e
    |cons i ah=>exact⟨e.1.mono g a,d e.2⟩
def er.mono(g:fh n b ao az)(a:c b.m=c n){aa}{l}(i:er n b aa l):er ao az aa l:=by
  cases l with
  |aq k=>exact cw.mono g a i
  |agg j=>obtain⟨B,d,e⟩:=i;exact⟨B,d,e.mono g a⟩
def eQ.mono(i:fh n b ao az)(a:c b.m=c n){B}{ag}(e:eQ n b B ag):eQ ao az B ag:=by
  induction B generalizing ag with
  |nil=>cases ag<;>simp_all[eQ]
  |cons k B d=>
    cases ag with
    |nil=>simp[eQ]at e
    |cons j g=>exact⟨e.1.mono i a,d e.2⟩
def bx.mono(i:fh n b ao az)(a:c b.m=c n){aa}{d}(j:bx n b aa d):bx ao az aa d:=by
  cases d with
  |q l=>exact er.mono i a j
  |Q k=>obtain⟨B,e,g⟩:=j;exact⟨B,e,g.mono i a⟩
  |any=>trivial
def b4.mono(i:fh n b ao az)(a:c b.m=c n){B}{ag}(e:b4 n b B ag):b4 ao az B ag:=by
  induction B generalizing ag with
  |nil=>cases ag<;>simp_all[b4]
  |cons k B d=>
    cases ag with
    |nil=>simp[b4]at e
    |cons j g=>exact⟨e.1.mono i a,d e.2⟩
end mono
def iX(e:p an)(i:a5):p Deferred->p Nat->Prop
  |[],[]=>True
  |j::b,d::a=>(e[d]?=h .bn/\∃(L:Loc) (g:Nat),i.m[d]?=h L/\L.v=.int .i64 g/\j={target:=.collected g,args:=#[]})/\d∉a/\iX e i b a
  |_,_=>False
def iX.mono{n ao}{b az}(l:fh n b ao az):∀{a:p Deferred} {d:p Nat},iX n b a d->iX ao az a d
  |[],[],_=>trivial
  |[],_::_,e=>e.elim
  |_::_,[],e=>e.elim
  |w::a,v::d,⟨⟨j,L,e,k,x,t⟩,u,o⟩=>by
    obtain⟨g,i,k1,r,s⟩:=l.box v _ L j k;cases g<;>simp[fD]at s
    exact⟨⟨k1,i,e,r,by grind,t⟩,u,iX.mono l o⟩
def jO:p an->Bool
  |[]=>f
  |.bn::_=>m
  |_::a=>jO a
def vr:∀{e:p an},jO e=f->∀a∈e,a≠.bn
  |[],_,a,aE=>by grind
  |d::g,i,a,aE=>by
    have b:d≠.bn/\jO g=f:=by cases d<;>simp_all[jO]
    rcases fl.1 aE with rfl|aE
    · exact b.1
    · exact vr b.2 a aE
theorem mu{b}{a}{wr}{L}(d:L∈b.m)(e:a∈L.al):h1 b ⟨.obj a,wr,m⟩:=⟨rfl,.inr ⟨L,d,e⟩⟩
def ds.aq{b}{a}(e:h1 b a):ds b #[a]:=by intro l d;grind
def ds.fh{b}{d a}(i:h1 b d)(g:h1 b a):ds b #[d,a]:=by intro j e;grind
def bw{R:Prop}(u:R:=by simp<;>omega):R:=u
def cQ{R:Prop}(u:R:=by((try simp only[U,U.Y,a7,bA,dt,c1,cV,dm,gU,fj,gz,k0,List.length_take,d8,eU,hd,j8,dh,dH,fX,iB,gj,il,hn,p5,cF,jz,j5,m8,oV,lA,a9,ba]);and_intros<;>first|rfl|omega|trivial|assumption)):R:=u
def hp{R:Prop}(u:R:=by((try simp only[*,U,U.Y,a7,bA,dt,c1,cV,dm,gU,fj,gz,k0,List.length_take,d8,eU,hd,j8,dh,dH,fX,iB,gj,il,hn,p5,cF,jz,j5,m8,oV,lA,a9,ba]);and_intros<;>first|rfl|omega|trivial|assumption)):R:=u
def lG{R:Prop}(u:R:=by(simp_all[U,U.Y,a7,bA,dt,c1,cV,dm,gU,fj,gz,k0,List.length_take,d8,eU,hd,j8,dh,dH,fX,iB,gj,il,hn,p5,cF,jz,j5,m8,oV,lA,a9,ba]<;>omega)):R:=u
def bJ{R:Prop}(u:R:=by((try simp only[*,U,U.Y,a7,bA,dt,c1,cV,dm,gU,fj,gz,k0,List.length_take,d8,eU,hd,j8,dh,dH,fX,iB,gj,il,hn,p5,cF,jz,j5,m8,oV,lA,a9,ba,a1.E,a2.E,bj.E,bG.E,aB.E,bD.E,bQ.E,cu.E,eZ.E,a1.U,a2.U,bj.U,bG.U,aB.U,bD.U,bQ.U,cu.U,eZ.U]);and_intros<;>first|rfl|omega|trivial|assumption)):R:=u
abbrev ax(a:N):z:=.q (.aq (.c a))
abbrev aG(a b:Nat):z:=.q (.aq (.ptr a b))
abbrev cy(a:Nat)(b:pL):z:=.q (.aq (.R a b))
abbrev cM(a:Value):z:=.q (.aq (.c (.val a)))
variable {k A:Nat}{i:Int}{d j e w:Nat}{W:av}{H:Z->(Nat->Option Obj)->Prop}{L:Array Bool}{bB:Mem}{D:Nat}{P:aI}{bq:ak->a5->Prop}{s:Code}{C:ak}{t:ap}{b:a5}{o:av}{aa:Z}{l X:aA}{α:Type}{η:aA->z}{ι:Type}{n:p an}{F:bH}{all:p ap}{dn:Array av}{cap:p N}{cR:p z}{k6:Nat->Option Obj}{ah:p aK}{bg:p (Nat×Bool)}{T:Nat->p N}{cP:aA}{gs:Array ak}{aO:p Nat}{cf:p Prop}{off:Nat}{op:BinOp}{aC:Array ap}{ab:p Prop}{br:p ap}{az:a5}{ty:av}{val:Nat->Nat->Z}{B:p Z}{bh:au}{ag:Array aA}{ao dd:p an}{res:ι->z}{aL:ι->p an}
def JT{P}{l}:∀{o:p (String×DataW Unit)}{d:p MemPlace},DataW.LaidVars P l o d->∀{e:String}{i:DataW Unit},(e,i)∈o ->
  ∃j k b a r,P.globalNamed e=h j/\(P.globals[j]?).map (·.type)=h k/\l.var? P e=h b/\DataW.trod (λ_=>()) P l 0 (λ_=>f) m a k b.toList=h (i,r)
 |[],_,_,_,_,g=>by cases g
 |(z,u)::B,d,t,e,i,g=>by
  obtain⟨j,k,b,a,r,A,x,v,y,w,s,_⟩:=t;rcases fl.1 g with n|n
  .grind
  exact JT s n
theorem LW{P}{a:au}(b:a.ShapedOpen P){C}{zero}{o}(d:C<P.globals.size)(i:(((begin P (λ_ _=>0) default).world.heap[C]?).bind Obj.row?)=h (zero,o)){k}(l:P.globalNamed k=h C){ah}(e:a.var? P k=h ah):
  a.heap[C]?=h (.cells ah o (0,0)):=by obtain⟨g,j,_⟩:=b.1 C zero o d i;unfold World.var? at e;grind
def JU{P}{b}{g:p (String×DataW Unit)}(n:laidMetH P g b)(i:b.ShapedOpen P){k e}{l}(F:(k,.iface e l)∈g.filter λE=>E.2.handleName?.isNone){C o s}{cp}{zero}(d:P.globalNamed k=h C)(y:(P.globals[C]?).map (·.type)=h o)(x:P.underlying o=h (.interface cp))(D:C<P.globals.size)(I:(((begin P (λ_ _=>0) default).world.heap[C]?).bind Obj.row?)=h (zero,s)):∃a:av×Z,b.heap[C]?=h (.cells #[.iface a.1 a.2] s (0,0)):=by obtain⟨w,r,_⟩:=(laidMetH_iff.1 n).1;obtain⟨O,J,j,K,M,v,t,z,u⟩:=JT r F;cases d.symm.trans v;cases y.symm.trans t;obtain⟨_,A,B,a,_⟩:=iface_of_trod x u;have:=LW i D I d z;rw[Array.eq_one_of_toList a]at this;exact⟨(A,B),this⟩
def Z6{P}{a}{d}(p:laidMetH P d a)(y:a.ShapedOpen P){k}{e}{b}(w:(k,e)∈d.filter λx=>x.2.handleName?.isSome)(n:e.funcsIn?=q)(u:e.handleName?=h b){C j i ty}{zero}(F:P.globalNamed k=h C)(t:(P.cutTypes.find? (·.1== "internal/reflectlite.rtype")).map (·.2)=h i)(D:((aD P.types.size).filter λg=>P.rowNamed g b)=[ty])(E:C<P.globals.size)(O:(((begin P (λ_ _=>0) default).world.heap[C]?).bind Obj.row?)=h (zero,j)):a.heap[C]?=h (.cells #[.iface i (.agg #[typeHandle P ty])] j (0,0)):=by have:=(laidMetH_iff.1 p).2 _ w;rw[n]at this;obtain⟨name,B,l,o,v,r,s,A⟩:=this;cases u.symm.trans o;cases t.symm.trans v;have z:l∈(aD P.types.size).filter λg=>P.rowNamed g b:=kB.2 ⟨sn.2 r,s⟩;grind[LW]
section
open Go.Conc (G listed)
def kx(e b:a5)(d:Array aU):Prop:=(∃g a,bb g e/\bb a b/\cN g e a b)/\ds e d
structure ai(P:aI) where
 b7:Bool
 rely:a5->a5->Prop
 de:ak->a5->(ak->a5->Prop)->Prop
 bM:∀{b az},rely b az->cU b az
 dP:Prop
class ai.b' {P:aI} (r:ai P):Prop where
 ok:r.dP
structure eT(b az:a5):Prop where
 a:az.a=b.a
 mem:∀j t aa,b.u j t=h aa->az.u j t=h aa
 bF:∀j,(∀L∈b.m,j∉L.al)->∀t,az.u j t=b.u j t
 cell:∀j t aa,az.u j t=h aa->b.a.cell? ⟨j,t,q⟩=h aa
 blk:∀j,(az.own j∨∃L∈az.m,j∈L.al)->b.own j∨∃L∈b.m,j∈L.al
structure nP(b az:a5):Prop where
 a:az.a=b.a
 m:az.m=b.m
 own:az.own=b.own
 e5:∀j t aa,az.u j t=h aa->b.u j t=h aa
 mem:∀j t aa,b.u j t=h aa->az.u j t=h aa∨b.own j
inductive cb {P:aI} (r:ai P) (bq:ak->a5->Prop):ak->a5->Prop
 |stop {C:ak} {b:a5}:bq C b->cb r bq C b
 |step {C:ak} {b:a5} (Kr:a5->ak) (bu:a5->a5) (Ko:a5->Array aU):C.status=.running ->
   (∀s1,r.rely b s1->aq P r.b7 C s1.a=.go (Kr s1) (bu s1).a (Ko s1))->(∀s1,r.rely b s1->kx s1 (bu s1) (Ko s1))->(∀s1,r.rely b s1->cb r bq (Kr s1) (bu s1))->cb r bq C b
 |aV {C:ak} {b az:a5}:eT b az->cb r bq C az->cb r bq C b
 |b1 {C:ak} {b az:a5}:r.dP->nP b az->cb r bq C az->cb r bq C b
 |de {C:ak} {b:a5} {ad:ak->a5->Prop}:r.de C b ad->(∀hi az,ad hi az->cb r bq hi az)->cb r bq C b
section
variable {r:ai P}
def cb.next(i:C.status=.running)(j:∀s,r.rely b s->∃a az T,aq P r.b7 C s.a=.go a az.a T/\kx s az T/\cb r bq a az):cb r bq C b:=by
 classical
 have d:∀s,∃a':ak×a5×Array aU,r.rely b s->aq P r.b7 C s.a=.go a'.1 a'.2.1.a a'.2.2/\kx s a'.2.1 a'.2.2/\cb r bq a'.1 a'.2.1:=by
  intro s;by_cases e:r.rely b s
  .obtain⟨a,az,T,cS⟩:=j s e;exact⟨(a,az,T),λ_=>cS⟩
  exact⟨(C,s,#[]),λg=>absurd g e⟩
 refine .step (λs=>(Classical.choose (d s)).1) (λs=>(Classical.choose (d s)).2.1) (λs=>(Classical.choose (d s)).2.2) i M M ?_;grind
theorem eT.of(l:bb n b)(o:bb ao az)(p:az.a=b.a)(i:dc n b ao az):eT b az:=by
 have v:∀a g j,az.u a g=h j->b.a.cell? ⟨a,g,q⟩=h j:=λa g j k=>by rw[<-p];exact o.mem a g j k
 have s:∀a g j,b.a.cell? ⟨a,g,q⟩=h j->a<b.a.heap.size:=by
  intro a g j k;rcases dY a b.a.heap.size with d|d
  .exact d
  simp[aN,Au d]at k
 refine⟨p,i.mem,λa e g=>?_,v,λa e=>?_⟩
 .rcases dY a b.a.heap.size with d|d
  .exact i.bF a d e g
  cases u:az.u a g with
  |some j=>grind
  |none=>cases t:b.u a g with
   |none=>rfl
   |some j=>have:=s _ _ _ (l.mem _ _ _ t);omega
 rcases e with e|⟨L,r,e⟩
 .exact .inl (by rw[<-i.own];exact e)
 rcases i.bV L r a e with d|d
 .have:=o.lt L r a e;grind
 grind
def bb.rely(l:bb n b)(i:cU b az):bb n az:=by
 have t:fh n b n az:=i.aR.ext;have X:∀v x,cw n b v x->cw n az v x:=λv x w=>w.mono t l.len;refine⟨λk s v A=>i.mem k s v (by rw[<-i.u];exact A),by rw[i.m];exact l.len,?_,by rw[i.m];exact l.a3,?_,?_⟩
 .intro d D L aE o;rw[i.m]at o;have e:=l.box d D L aE o;have K:∀k∈L.al,az.a.heap[k]?=b.a.heap[k]?:=λk e=>i.a6 k (.inr ⟨L,b8 o,e⟩);cases D with
  |cells E F=>
   obtain⟨k,B,g,j,p,r⟩:=e;subst g;exact⟨k,B,a,by grind,p.mono t l.len,λs=>by rw[i.u,r]⟩
  |r E O R z=>
   obtain⟨g,j⟩:=e;refine⟨by rw[i.u];exact g,?_⟩;rcases j with⟨j,p⟩|⟨k,cap,B,j,p,r,u⟩
   .exact .inl ⟨j,by rw[i.u];exact p⟩
   subst j;exact .inr ⟨k,cap,B,a,by grind,r,λs C=>by rw[i.u,u s C]⟩
  |J H=>
   obtain⟨y,g,j,p,r⟩:=e;refine⟨y,g,λk s W=>?_,p,λk I s=>by rw[i.u,r k I]⟩;grind
  |x=>trivial
  |loop V U w=>
   obtain⟨d,tmps,fn,J,g,j,p,r,u⟩:=e;subst g;exact⟨d,tmps,fn,J,a,by grind,p,λT=>(r T).mono t l.len,λs=>by rw[i.u,u]⟩
  |bn=>
   obtain⟨w,g,j,p⟩:=e;subst g;exact⟨w,a,by grind,λs=>by rw[i.u,p]⟩
  |h E O R z=>
   rcases e with e|⟨k,S,B,Q,g,j,p,r,u,M,N⟩
   .exact .inl e
   subst g;exact .inr ⟨k,S,B,Q,a,by grind,p,r,u,by rw[i.u];exact M,λs=>by rw[i.u,N]⟩
 .intro L o k e;rw[i.m]at o;exact ey (l.lt L o k e) i.size
 intro k e;rw[i.own]at e;rw[i.m];exact⟨ey (l.own k e).1 i.size,(l.own k e).2⟩
def kx.aZ(a:bb n b):kx b b #[]:=⟨⟨n,n,a,a,.refl _ _⟩,.nil⟩
def _root_.Go.Frame.M(b:aK)(a:Act)(todo:p Item):aK:={b with tmps:=a.tmps,todo:=todo,defers:=a.defers++b.defers,mode:=.run}
variable {j:aK}{x:Act}{i:p Item}{Q:au}{eN:Bool}
def I0(a:aK)(x)(s):(a.M x s).eval=x.eval:=by funext l;cases l<;>rfl
def LS:aq P eN (G (j.M x (.code .skip::i)) ah) Q=.go (G (j.M x i) ah) Q:=qT
def LO{id}:aq P eN (G (j.M x (.inBlock id::i)) ah) Q=.go (G (j.M x i) ah) Q:=qT
theorem py{l X}:aq P eN (G (j.M x (.code (.seq l X)::i)) ah) Q=.go (G (j.M x (.code l::.code X::i)) ah) Q:=qT
def y2{s}{l X}{o}(b:x.eval s=.bool o):
  aq P eN (G (j.M x (.code (.cond s l X)::i)) ah) Q=.go (G (j.M x (.code (if o then l else X)::i)) ah) Q:=by
 have a:(j.M x (.code (.cond s l X)::i)).eval s=.bool o:=by rw[I0];exact b
 simp[Frame.M]at a;simp[G,aq,stepG.exec,Frame.M,a]
def y1{id}:aq P eN (G (j.M x (.code (.block id s)::i)) ah) Q=.go (G (j.M x (.code s::.inBlock id::i)) ah) Q:=qT
def LQ:aq P eN (G (j.M x (.code (.loop s)::i)) ah) Q=.go (G (j.M x (.code s::.inLoop s::i)) ah) Q:=qT
def LP:aq P eN (G (j.M x (.inLoop s::i)) ah) Q=.go (G (j.M x (.code s::.inLoop s::i)) ah) Q:=qT
def LN{id}{f_}(u:exitTo id i=h f_):aq P eN (G (j.M x (.code (.exit id)::i)) ah) Q=.go (G (j.M x f_) ah) Q:=Fo
def y4{id}:aq P eN (G (j.M x (.code (.region id aC m)::i)) ah) Q=.go (G (j.M x (.inRegion aC (aD aC.size)::i)) ah) Q:=qT
def DW{id}:aq P eN (G (j.M x (.code (.region id aC f)::i)) ah) Q =
  .go (G (j.M x (.inRegion aC (Region.schedule (P.follows .mixedOrders) aC (Q.tape Q.drawn (.order j.fn id)))::i)) ah) {Q with drawn:=Q.drawn+1}:=by simp[G,aq,stepG.exec,Frame.M,choose,Sem.run,Question.forced,Question.cut]
def vQ:aq P eN (G (j.M x (.inRegion aC []::i)) ah) Q=.go (G (j.M x i) ah) Q:=qT
def DX(u:j.roundOf=q):aq P eN (G (j.M x (.code .ret::i)) ah) Q=.go (G {j.M x (.code .ret::i)with mode:=.returning} ah) Q:=Fo
def DV(u:j.roundOf=q):aq P eN (G (j.M x []) ah) Q=.go (G {j.M x []with mode:=.returning} ah) Q:=Fo
def qk(aC)(e)(br)(aa):
  (j.M x (.inRegion aC (e::br)::i)).finish aa=j.M (x.put ((aC[e]?).bind (·.dst)) aa) (.inRegion aC br::i):=by cases a:(aC[e]?).bind (·.dst)<;>simp[Frame.finish,Frame.M,Act.put,a]
def ab'{br}(a:aC[e]?=h t)(d:aV t (yielded aC x.tmps)=m):
  aq P eN (G (j.M x (.inRegion aC (e::br)::i)) ah) Q=.go (G (j.M (x.put t.dst K) (.inRegion aC br::i)) ah) Q:=by have b:=qk (j:=j) (x:=x) (i:=i) aC e br K;rw[a]at b;simp[n0]at b;rw[<-b];simp[G,aq,stepG.exec,Frame.M,a,d]
theorem xP{a:aA->Z}{s}(i:t.op=.defer s){e}(b:(ac a t).run P Q=.ok e bh):∃d,e=.defer d:=by
 simp[ac,i,cI]at b;cases g:(resolve a s t.type).run P Q with
 |ok d w2=>rw[g]at b;simp at b;grind
 |halt j w2=>simp_all
def y3{a:p Nat}(b:aC[e]?=h t)(k:aV t (yielded aC x.tmps)=f)(l:∀g,t.op≠.defer g):
  aq P eN (G (j.M x (.inRegion aC (e::a)::i)) ah) Q=stepG.apply P f (j.M x (.inRegion aC (e::a)::i)) ah q (ac x.eval t) Q:=by have d:=I0 j x (.inRegion aC (e::a)::i);simp[Frame.M]at d;simp[G,aq,stepG.exec,stepG.oper,Frame.oper?,Frame.M,b,k,d];grind
theorem acf{br}(a:aC[e]?=h t)(g:aV t (yielded aC x.tmps)=f)(l:j.kind≠.early)(k:(ac x.eval t).run P Q=.ok (.value aa) bh):
  aq P eN (G (j.M x (.inRegion aC (e::br)::i)) ah) Q=.go (G (j.M (x.put t.dst aa) (.inRegion aC br::i)) ah) bh (listed P j.fn x t Q):=by have b:=qk (j:=j) (x:=x) (i:=i) aC e br aa;rw[a]at b;simp[n0]at b;have d:(j.kind==CallKind.early)=m:=M;rw[y3 a g (λn o=>by grind[xP]),<-b];simp[stepG.apply,k,G,Frame.M,d,GStep.after,listed]
theorem LR{br}(a:aC[e]?=h t)(g:aV t (yielded aC x.tmps)=f)(l:j.kind≠.early)(k:(ac x.eval t).run P Q=.ok .skip bh):
  aq P eN (G (j.M x (.inRegion aC (e::br)::i)) ah) Q=.go (G (j.M (x.put t.dst K) (.inRegion aC br::i)) ah) bh (listed P j.fn x t Q):=by have b:=qk (j:=j) (x:=x) (i:=i) aC e br K;rw[a]at b;simp[n0]at b;have d:(j.kind==CallKind.early)=m:=M;rw[y3 a g (λn o=>by grind[xP]),<-b];simp[stepG.apply,k,G,Frame.M,d,GStep.after,listed]
def tz{br}{b}{args}(a:aC[e]?=h t)(g:aV t (yielded aC x.tmps)=f)(l:j.kind≠.early)(k:(ac x.eval t).run P Q=.ok (.enter b args) bh):
  aq P eN (G (j.M x (.inRegion aC (e::br)::i)) ah) Q=.go (G (Frame.enter P b args .normal) (j.M x (.inRegion aC (e::br)::i)::ah)) bh (listed P j.fn x t Q):=by have d:(j.kind==CallKind.early)=m:=M;rw[y3 a g (λn o=>by grind[xP])];simp[stepG.apply,k,G,Frame.M,d,GStep.after,listed]
structure mb(P:aI)(ae:a3)(hr:aK)(aa:Z)(b:a5):Prop where
 jg:hr.fn=ae
 mode:hr.mode=.returning
 defers:hr.defers=[]
 kind:hr.kind=.normal
 fn:∃fn,P.funcs[hr.fn]?=h fn/\∀Q,(∀j t bz,b.u j t=h bz->Q.cell? ⟨j,t,q⟩=h bz)->(results fn hr.tmps).run P Q=.ok aa Q/\∀aj∈(results fn hr.tmps).events P Q #[],∃j t bz,aj=⟨.cell ⟨j,t,q⟩,m,m⟩/\b.u j t=h bz
def mb.mono{g}{hr}(o:mb P g hr aa b)(s:∀e i j,b.u e i=h j->az.u e i=h j):mb P g hr aa az:=by obtain⟨a,d,n,k,fn,l,r⟩:=o;refine⟨a,d,n,k,fn,l,λt p=>?_⟩;grind
def ds.seen{b}{T}{fn}(e:ds b T):ds b (seen P fn T):=λd a=>e d (Go.Conc.mem_seen a)
def ab_{l}{C s}(g:mb P l C aa b)(Q)(n:∀a e i,b.u a e=h i->Q.cell? ⟨a,e,q⟩=h i):∃d,aq P eN (G C (s::ah)) Q=.go (G (s.finish aa) ah) Q d/\∀j∈d,∃a e i,j=⟨.cell ⟨a,e,q⟩,m,m⟩/\b.u a e=h i:=by obtain⟨fn,o,k⟩:=g.fn;obtain⟨t,r⟩:=k Q n;refine⟨seen P C.fn ((results fn C.tmps).events P Q #[]),?_,λj p=>r j (Go.Conc.mem_seen p)⟩;simp[G,aq,unwind,doReturn,g.mode,g.defers,g.kind,o,t,GStep.after]
end
end
structure bV(D:Nat)(n:p an)(b:a5)(F:bH)(x:Act):Prop where
 size:x.tmps.size=D
 defers:∃nw,iX n b x.defers nw
 aH:∀o,bx n b (x.tmps.getD o K) (look F o)
def bV.mono{D}{n ao}{b az}{F}{x}(g:dc n b ao az)(e:c b.m=c n)(a:bV D n b F x):bV D ao az F x:=
 ⟨a.size,a.defers.imp λ_ d=>d.mono g.ext,λi=>(a.aH i).mono g.ext e⟩
def bV.rely{x}(e:cU b az)(a:bb n b)(d:bV D n b F x):bV D n az F x:=d.mono e.aR a.len
def bV.put{D}{n}{b}{F}{x}(a:bV D n b F x){I}(e:I<D){aa}{l}(k:bx n b aa l):bV D n b ((I,l)::F) (x.put (h I) aa):=by
 refine⟨by simp[Act.put,a.size],a.defers,λd=>?_⟩;simp[Act.put,look];by_cases g:I=d
 .subst g;rw[show af I I=f from sx I];have i:I<x.tmps.size:=by rw[a.size];exact e
  simp[hk,uv i,im,cond];exact k
 have:af I d=m:=tZ;rw[this];have j:=a.aH d;simp[hk]at j⊢;grind
def ix(i a:bH):Prop:=∀b d g e,bx b d g (look i e)->bx b d g (look a e)
def bV.le{dE}{x}(d:ix F dE)(a:bV D n b F x):bV D n b dE x:=
 ⟨a.size,a.defers,λe=>d _ _ _ _ (a.aH e)⟩
abbrev fq:=Exit->bH->p an->Prop
def kG(i:ai P)(g:ak->a5->Prop)(j:aK)(l:p Item)(a:p aK):Exit->Act->a5->Prop
 |.normal,b,d=>cb i g (G (j.M b l) a) d
 |.exit id,b,d=>∀pre,(∀e,exitTo id (pre++e)=exitTo id e)->cb i g (G (j.M b (.code (.exit id)::(pre++l))) a) d
 |.ret,b,d=>∀pre,cb i g (G (j.M b (.code .ret::pre)) a) d
 |.panic k,b,d=>∀n,cb i g (G {j.M b n with mode:=.panicking k} a) d
 |_,_,_=>False
section
variable {r:ai P}{j:aK}{i:p Item}{x:Act}
def kG.cons{l}(o:∀id a,exitTo id (l::a)=exitTo id a){e}(n:e≠.normal)(d:kG r bq j i ah e x b):kG r bq j (l::i) ah e x b:=by
 cases e with
 |normal=>grind
 |exit id=>
  intro pre k;have:=d (pre++[l]) (λa=>by grind);grind
 |ret=>exact d
 |panic g=>exact d
 |goto p=>exact d
 |outgrown=>exact d
def cb.ctl{a}(g:bb n b)(k:C.status=.running)(j:∀i,aq P r.b7 C i=.go a i #[])(l:∀d,cU b d->cb r bq a d):cb r bq C b:=
 .next k λd e=>⟨a,d,#[],j d.a,.aZ (g.rely (r.bM e)),l d (r.bM e)⟩
def uA{k}{w s}(u:bb n b)(l:mb P k w aa b)(o:∀d,cU b d->cb r bq (G (s.finish aa) ah) d):cb r bq (G w (s::ah)) b:=by refine .next a λd v=>?_;have e:=r.bM v;have i:=u.rely e;obtain⟨g,p,y⟩:=ab_ (eN:=r.b7) (s:=s) (ah:=ah) l d.a e.mem;refine⟨_,d,g,p,⟨⟨n,n,i,i,.refl _ _⟩,λj t=>?_⟩,o d e⟩;obtain⟨A,B,z,rfl,x⟩:=y j t;exact⟨a,a,.inr (.inr ⟨a,z,by rw[e.u];exact x⟩)⟩
def w7(l:Nat->Act->a5->Prop)(y:∀k x b,l k x b->∃o,bb o b/\∀g,cU b g->l k x g)(round:∀k x b,l k x b->(∀d e n,n<k->l n d e->cb r bq (G (j.M d (.inLoop s::i)) ah) e)->cb r bq (G (j.M x (.code s::.inLoop s::i)) ah) b)(B:l k x b):
  cb r bq (G (j.M x (.code (.loop s)::i)) ah) b:=by
 have key:∀k x b,l k x b->cb r bq (G (j.M x (.inLoop s::i)) ah) b:=by
  intro k;induction k using Nat.strongRecOn with
  |_ k A=>
   intro x b w;obtain⟨o,t,u⟩:=y k x b w;exact .ctl t a (λC=>LP) λg v=>round k x g (u g v) λd e n z p=>A n z d e p
 obtain⟨o,t,u⟩:=y k x b B;exact .ctl t a (λC=>LQ) λg v=>round k x g (u g v) λd e n _ p=>key n d e p
end
def bY(o:ai P)(l:Nat)(v:Code)(aM:fq)(u:bH)(j:p an):Prop:=
 ∀i r,bV l j i u r->bb j i->∀k t g (n:ak->a5->Prop),k.kind≠.early ->
  (∀s d a b e,aM s d a->bV l a b d e->bb a b->dc j i a b->kG o n k t g s e b)->cb o n (G (k.M r (.code v::t)) g) i
def nS(a:p ap):p Nat->p ap->Prop
 |[],[]=>True
 |d::idx,e::b=>a.toArray[d]?=h e/\nS a idx b
 |_,_=>False
def e9(s:ai P)(o:Nat)(d e:p ap)(aM:bH->p an->Prop)(v:bH)(l:p an):Prop:=
 ∀k t,bV o l k v t->bb l k->∀(n:aK) u j (r:ak->a5->Prop) idx,n.kind≠.early->nS d idx e ->
  (∀g a b i,aM g a->bV o a b g i->bb a b->dc l k a b->cb s r (G (n.M i u) j) b)->cb s r (G (n.M t (.inRegion d.toArray idx::u)) j) k
section rules
variable {r:ai P}{aM:fq}
def bY.mono{o}(x:bY r D s aM F n)(y:∀a F n,aM a F n->o a F n):bY r D s o F n:=
 λb t v k u A g p j i=>x b t v k u A g p j λa d ao az e B z w l=>i a d ao az e (y _ _ _ B) z w l
def bY.le{s}{dE}(o:bY r D s aM dE n)(g:ix F dE):bY r D s aM F n:=
 λt j l e k p a i d b=>o t j (l.le g) e k p a i d b
theorem bY.skip(l:aM .normal F n):bY r D .skip aM F n:=λt e j d p s i o _ g=>
 .ctl d a (λ_=>LS) λk b=>g .normal F n k e l (j.rely b d) (d.rely b) b.aR
def bY.ret(i:aM .ret F n):bY r D .ret aM F n:=λk b g a o j e l _ d=>d .ret F n k b i g a (.refl _ _) j
theorem bY.exit{id}(i:aM (.exit id) F n):bY r D (.exit id) aM F n:=λj b g a l o e k _ d=>by have:=d (.exit id) F n j b i g a (.refl _ _) [] bl;grind
def v5(next:bH->p an->Prop)(aM:fq):fq
 |.normal,a,b=>next a b
 |d,a,b=>aM d a b
theorem bY.seq{l X}(R:bY r D l (v5 (bY r D X aM) aM) F n):bY r D (.seq l X) aM F n:=by
 intro U O S d A J e z i g;refine .ctl d a (λ_=>py) λT b=>?_;refine R T O (S.rely b d) (d.rely b) A (.code X::J) e z i ?_;intro s M N w o K I C y;have B:=b.aR.trans y;cases s with
 |normal=>exact K w o I C A J e z i λs Q k x p v t u j=>g s Q k x p v t u (B.trans j)
 |_=>exact kG.cons (λ_ _=>rfl) E (g _ _ _ _ _ K I C B)
theorem bY.cond{s}{l X}{o}{w}(S:s=.tmp w)(C:look F w=ax (.bool o))(R:o=f->bY r D l aM F n)(N:o=m->bY r D X aM F n):bY r D (.cond s l X) aM F n:=by
 intro U t z g y I k x p B;have v:=z.aH w;rw[C]at v;have A:t.eval s=.bool o:=by subst S;generalize A:t.tmps.getD w K=V at v;simp[bx,er,cw]at v;cases v;exact A
 refine .ctl g a (λ_=>y2 A) λE e=>?_;have M:∀u i b d j,aM u i b->bV D b d i j->bb b d->dc n E b d->kG r x y I k u j d:=λu i b d j T Q O J=>B u i b d j T Q O (e.aR.trans J);cases o
 .exact N a E t (z.rely e g) (g.rely e) y I k x p M
 exact R a E t (z.rely e g) (g.rely e) y I k x p M
def uF(id:Nat)(aM:fq):fq
 |.exit a,b,d=>if a=id then aM .normal b d else aM (.exit a) b d
 |e,b,d=>aM e b d
theorem bY.block{id}(v:bY r D s (uF id aM) F n):bY r D (.block id s) aM F n:=by
 intro A p x e t i g o j lR;refine .ctl e a (λ_=>y1) λy d=>?_;refine v y p (x.rely d e) (e.rely d) t (.inBlock id::i) g o j ?_;intro aj dE ao k fE bc C ae l;have I:=d.aR.trans l;cases aj with
 |normal=>
  exact OK
 |exit b=>
  simp[uF]at bc;split at bc
  .exact Qr
  .rename_i w
   intro pre va;have:=lR (.exit b) dE ao k fE bc C ae I (pre++[.inBlock id]) (λf_=>by
    rw[mh,va];have:(id==b)=m:=M
    simp[exitTo,this])
   grind
 |ret=>exact lR _ _ _ _ _ bc C ae I
 |panic u=>exact lR _ _ _ _ _ bc C ae I
 |goto z=>exact lR _ _ _ _ _ bc C ae I
 |outgrown=>exact lR _ _ _ _ _ bc C ae I
def bY.loop{bq:Type}(o:bq->Prop)(e:bq->bH)(b:bq->p an)(v:bq->Nat)(l)(ae:o l)(Z:ix F (e l))(V:b l=n)(round:∀l,o l->bY r D s (v5 (λx y=>∃X,o X/\v X<v l/\ix x (e X)/\y=b X) aM) (e l) (b l)):bY r D (.loop s) aM F n:=by
 intro ab ah aa K T W A bq J I;subst V;refine w7 (λk d az=>∃X,o X/\bV D (b X) az (e X) d/\bb (b X) az/\dc (b l) ab (b X) az/\v X=k) ?_ ?_ ⟨l,ae,aa.le Z,K,.refl _ _,a⟩
 .rintro k d az ⟨X,w,t,C,u,B⟩;exact⟨b X,C,λO i=>⟨X,w,t.rely i C,C.rely i,u.trans i.aR,B⟩⟩
 rintro k d az ⟨X,w,t,C,u,rfl⟩ ad;refine round X w az d t C T (.inLoop s::W) A bq J ?_;intro B ai S M z Q N j g;cases B with
 |normal=>
  obtain⟨R,ag,Y,U,rfl⟩:=Q;exact ad z M (v R) Y ⟨R,ag,N.le U,j,u.trans g,a⟩
 |_=>exact kG.cons (λ_ _=>rfl) E (I _ _ _ _ _ Q N j (u.trans g))
end rules
def bM.cM{ah}(d:bM n b B ah):c B=c ah:=by
 induction B generalizing ah with
 |nil=>cases ah<;>simp_all[bM]
 |cons g B a=>
  cases ah with
  |nil=>simp[bM]at d
  |cons e ah=>simp[a d.2]
def cw.cell{n}{b}{aa}{g}(a:cw n b aa g):dW aa=f:=by
 cases g with
 |c p=>exact Rd.cell a
 |ptr e i=>obtain⟨_,_,_,_,_,rfl⟩:=a;rfl
 |r e k l j=>exact Rd.cell a.1
 |aQ e=>obtain⟨_,_,_,_,d⟩:=a;exact d
 |R e o=>obtain⟨_,d,_⟩:=a;exact d.cell
 |any=>exact a
theorem bM.get{ah}(i:bM n b B ah){x}(d:ah[w]?=h x):∃e,B[w]?=h e/\cw n b e x:=by
 induction B generalizing ah w with
 |nil=>cases ah<;>simp_all[bM]
 |cons e B g=>
  cases ah with
  |nil=>grind
  |cons j ah=>
   cases w with
   |zero=>simp at d;subst d;exact⟨e,a,i.1⟩
   |succ w=>simp at d;obtain⟨o,k,l⟩:=g i.2 d;grind
def bM.cell{n}{b}{B}{ah}(e:bM n b B ah):∀i∈B,i.oneCell'=f:=by
 induction B generalizing ah with
 |nil=>simp
 |cons i B d=>
  cases ah with
  |nil=>simp[bM]at e
  |cons j ah=>
   intro g a;rcases fl.1 a with rfl|a
   .have:=cw.cell e.1;cases g<;>simp_all[dW,Value.oneCell']
   exact d e.2 g a
def bM.append{j}{ah a}(e:bM n b B ah)(g:bM n b j a):bM n b (B++j) (ah++a):=by
 induction B generalizing ah with
 |nil=>cases ah<;>simp_all[bM]
 |cons k B d=>
  cases ah with
  |nil=>simp[bM]at e
  |cons i ah=>exact⟨e.1,d e.2⟩
def bM.take{n}{b}{B}{ah}(d:bM n b B ah)(i):bM n b (B.take i) (ah.take i):=by
 induction B generalizing ah i with
 |nil=>cases ah<;>simp_all[bM]
 |cons g B a=>
  cases ah with
  |nil=>simp[bM]at d
  |cons e ah=>cases i with
   |zero=>simp[bM]
   |succ i=>exact⟨d.1,a d.2 i⟩
def bM.drop{n}{b}{B}{ah}(d:bM n b B ah)(i):bM n b (B.drop i) (ah.drop i):=by
 induction B generalizing ah i with
 |nil=>cases ah<;>simp_all[bM]
 |cons g B a=>
  cases ah with
  |nil=>simp[bM]at d
  |cons e ah=>cases i with
   |zero=>exact d
   |succ i=>simpa using a d.2 i
theorem bb.block(a:bb n b){t}(d:b.u j t=h aa):j<b.a.heap.size:=by
 have:=a.mem j t aa d;rcases dY j b.a.heap.size with a|a
 .exact a
 simp[aN,Au a]at this
def bb.same(g:bb n b)(v:bh.heap=b.a.heap):bb n {b with a:=bh}:=by
 have M:∀k,bh.cell? k=b.a.cell? k:=λk=>by simp[aN,v]
 have S:∀p k,cw n b p k->cw n {b with a:=bh} p k:=λp k o=>by cases k<;>exact o
 have x:∀B d,bM n b B d->bM n {b with a:=bh} B d:=by
  intro B;induction B with
  |nil=>intro d o;cases d<;>simp_all[bM]
  |cons p B z=>intro d o;cases d with
   |nil=>simp[bM]at o
   |cons k d=>exact⟨S _ _ o.1,z _ o.2⟩
 refine⟨λe D p y=>by rw[M];exact g.mem e D p y,g.len,?_,g.a3,λL x e j=>by show e<bh.heap.size;rw[v];exact g.lt L x e j,λe j=>⟨by show e<bh.heap.size;rw[v];exact(g.own e j).1,(g.own e j).2⟩⟩;intro A t L aE s;have:=g.box A t L aE s;cases t with
 |cells C E=>
  obtain⟨e,B,a,i,l,r⟩:=this;exact⟨e,B,a,by grind,x _ _ l,r⟩
 |r C K N w=>
  obtain⟨a,i⟩:=this;refine⟨a,?_⟩;grind
 |J H=>
  obtain⟨u,a,i,l,r⟩:=this;exact⟨u,a,λe D j=>by grind,l,r⟩
 |x=>trivial
 |loop U T o=>
  obtain⟨A,tmps,fn,F,a,i,l,r,J⟩:=this;exact⟨A,tmps,fn,F,a,by grind,l,λR=>bx.mono (b:=b) (ao:=n) (az:={b with a:=bh}) ⟨λ_ _ _ g=>g,λ_ t L g I=>⟨t,L,g,I,.refl _ _⟩⟩ g.len (r R),J⟩
 |bn=>
  obtain⟨o,a,i,l⟩:=this;exact⟨o,a,by grind,l⟩
 |h C K N w=>
  rcases this with a|⟨e,Q,B,O,a,i,l⟩
  .exact .inl a
  exact .inr ⟨e,Q,B,O,a,by grind,l⟩
def cN.same(o:bh.heap=b.a.heap)(e:bh.os=b.a.os)(k:bh.tape=b.a.tape)(l:bh.output=b.a.output):cN n b n {b with a:=bh}:=
 ⟨by grind,λj _ _=>by grind,λ_ _ _ a=>a,λ_ _ _ _=>rfl,λL a j d=>.inr ⟨L,a,d⟩,λ_ g L a i=>⟨g,L,a,i,.refl _ _⟩,e,k,l,rfl⟩
def ep.cd{s}{L}(p:fh n b ao az)(r:c b.m=c n)(j:∀g∈L.al,az.a.heap[g]?=b.a.heap[g]?/\∀k,az.u g k=b.u g k)(o:ep n b s L):ep ao az s L:=by
 cases s with
 |cells y A=>
  obtain⟨g,B,d,e,i,l⟩:=o;subst d;obtain⟨k1,u⟩:=j g E;exact⟨g,B,a,by grind,i.mono p r,λk=>by grind⟩
 |r y F I v=>
  obtain⟨d,e⟩:=o;refine⟨d.mono p.mem,?_⟩;rcases e with⟨e,i⟩|⟨g,cap,B,e,i,l,w⟩
  .exact .inl ⟨e,i.mono p.mem⟩
  grind
 |J H=>
  obtain⟨t,d,e,i,l⟩:=o;refine⟨t,d,λg k Q=>?_,i,λg R k=>by grind⟩;grind
 |x=>trivial
 |loop O N x=>
  obtain⟨z,tmps,fn,C,d,e,i,l,w⟩:=o;subst d;obtain⟨k1,u⟩:=j z E;exact⟨z,tmps,fn,C,a,by grind,i,λM=>(l M).mono p r,λk=>by grind⟩
 |bn=>
  obtain⟨x,d,e,i⟩:=o;subst d;obtain⟨k1,u⟩:=j x E;exact⟨x,a,by grind,λk=>by grind⟩
 |h y F I v=>
  rcases o with d|⟨g,K,B,J,d,e,i,l,w,D,S⟩
  .exact .inl d
  subst d;obtain⟨k1,u⟩:=j g E;exact .inr ⟨g,K,B,J,a,by grind,i,l,w,D.mono p.mem,λk=>by grind⟩
def a5.bY(a:a5)(b:av)(B:p Z):a5:=
 {m:=a.m++[⟨.pointer (h ⟨a.a.heap.size,0,q⟩),[a.a.heap.size]⟩],u:=a.u,a:=a.a.alloc (.cells B.toArray b),own:=a.own}
theorem iM(a:au)(t)(b:j<a.heap.size):(a.alloc t).heap[j]?=a.heap[j]?:=by show(a.heap.push t)[j]?=a.heap[j]?;grind
theorem lT(a:au)(t):(a.alloc t).heap[a.heap.size]?=h t:=by show(a.heap.push t)[a.heap.size]?=h t;simp
def cN.bY{n}(b)(W)(B)(i):cN n b (n++[i]) (b.bY W B):=by
 refine⟨by simp[a5.bY],?_,λ_ _ _ l=>l,λ_ _ _ _=>rfl,?_,?_,a,a,a,a⟩
 .intro j cT _;exact iM _ _ cT
 .intro L e j cT;simp[a5.bY,gk,gW]at e;grind
 intro g d L k e;have o:g<c b.m:=(cO.1 e).1;have p:g<c n:=(cO.1 k).1;exact⟨d,L,by grind,by simp[a5.bY];grind,.refl _ _⟩
def bb.bY{n}{b}(i:bb n b){W}{B}{ah}(A:bM n b B ah):bb (n++[.cells W ah]) (b.bY W B):=by
 have v:=cN.bY (n:=n) b W B (.cells W ah);have z:(b.bY W B).a.heap.size=b.a.heap.size+1:=by simp[a5.bY]
 refine⟨?_,by simp[a5.bY,i.len],?_,?_,?_,?_⟩
 .intro j t aa k;have g:=i.block k;have:=i.mem j t aa k;rw[<-this];simp[aN,a5.bY];grind[iM]
 .intro d y L aE e;rcases Nat.lt_trichotomy d (c n) with x|rfl|C
  .rw[ky x]at aE;simp[a5.bY]at e;rw[ky (by rw[i.len];exact x)]at e;refine(i.box d y L aE e).cd v.ext i.len λj g=>⟨?_,λ_=>rfl⟩
   have:=i.lt L (b8 e) j g;exact iM _ _ this
  .simp at aE;subst aE;simp[a5.bY]at e;rw[hl (by rw[i.len];grind)]at e;simp[i.len]at e;subst e;refine⟨b.a.heap.size,B,a,lT _ _,A.mono v.ext i.len,λt=>?_⟩;cases k:b.u b.a.heap.size t with
   |none=>exact k
   |some aa=>have:=i.block k;omega
  grind
 .intro d u L p e l j g o;simp[a5.bY]at e l;have w:∀d L,(b.m++[⟨.pointer (h ⟨b.a.heap.size,0,q⟩),[b.a.heap.size]⟩])[d]?=h L->(b.m[d]?=h L)∨(d=c b.m/\L.al=[b.a.heap.size]):=M;rcases w d L e with r|⟨rfl,r⟩<;>rcases w u p l with s|⟨rfl,s⟩
  .exact i.a3 d u L p r s j g o
  .have:=i.lt L (b8 r) j g;grind
  .have:=i.lt p (b8 s) j o;grind
  rfl
 .intro L e j g;rw[z];simp[a5.bY,gk,gW]at e;rcases e with e|rfl
  .have:=i.lt L e j g;omega
  grind
 intro j g;obtain⟨E,D⟩:=i.own j g;refine⟨by grind,λL e=>?_⟩;simp[a5.bY,gk,gW]at e;grind
def bb.cY(d:bb n b){cd}(p:b.a.heap.size<=bh.heap.size)(i:∀j,j<b.a.heap.size->bh.heap[j]?=b.a.heap[j]?)(r:∀j,j<b.a.heap.size->∀t,cd j t=b.u j t)(y:∀j,b.a.heap.size<=j->∀t aa,cd j t=h aa->bh.cell? ⟨j,t,q⟩=h aa)(s:bh.os=b.a.os)(w:bh.tape=b.a.tape)(u:bh.output=b.a.output):bb n ⟨b.m,cd,bh,b.own⟩/\cN n b n ⟨b.m,cd,bh,b.own⟩:=by
 have l:cN n b n ⟨b.m,cd,bh,b.own⟩:=
  ⟨p,λj a _=>i j a,λj t aa e=>by rw[<-e];exact r j (d.block e) t,λj a _ t=>r j a t,λL d j a=>.inr ⟨L,d,a⟩,λ_ o L d v=>⟨o,L,d,v,.refl _ _⟩,s,w,u,rfl⟩
 refine⟨⟨?_,d.len,?_,d.a3,λL g j a=>ey (d.lt L g j a) p,λj a=>⟨ey (d.own j a).1 p,(d.own j a).2⟩⟩,l⟩
 .intro j t aa e;rcases dY j b.a.heap.size with a|a
  .have k:b.u j t=h aa:=M;rw[<-d.mem j t aa k];simp[aN];grind
  grind
 intro x o L aE g;exact(d.box x o L aE g).cd l.ext d.len λj a=>⟨i j (d.lt L (b8 g) j a),λt=>r j (d.lt L (b8 g) j a) t⟩
def bb.write(k:bb n b){L}{ah i}{r}(aE:n[d]?=h (.cells W ah))(p:b.m[d]?=h L)(x:L.al=[j])(A:bM n b r i):bb (n.set d (.cells W i)) {b with a:=b.a.setRow j r.toArray}/\cN n b (n.set d (.cells W i)) {b with a:=b.a.setRow j r.toArray}:=by
 have w:d<c n:=(cO.1 aE).1;obtain⟨s,B,u,v,D,z⟩:=k.box d _ L aE p;subst u;simp at x;subst x;have o:cN n b (n.set d (.cells W i)) {b with a:=b.a.setRow s r.toArray}:=by
  refine⟨by simp,?_,λ_ _ _ k=>k,λ_ _ _ _=>rfl,λL k j g=>.inr ⟨L,k,g⟩,?_,a,a,a,a⟩
  .intro j g ji;exact setRow_other _ _ _ _ (λaj=>ji _ (b8 p) zY)
  intro l bU cm e lQ;by_cases aj:d=l
  .subst aj;rw[aE]at e;cases e;exact⟨_,cm,by rw[ij w],lQ,by simp[fD]⟩
  exact EV
 refine⟨⟨?_,by simp[k.len],?_,k.a3,λL p j g=>by simpa using k.lt L p j g,λj g=>by simpa using k.own j g⟩,o⟩
 .intro j t aa pc;have C:j≠s:=λaj=>by grind
  rw[<-k.mem j t aa pc];exact PI
 intro l bU cm e lQ;by_cases aj:d=l
 .subst aj;rw[ij w]at e;cases e;rw[p]at lQ;cases lQ;exact⟨s,r,a,setRow_heap _ _ _ _ _ _ v,A.mono o.ext k.len,z⟩
 rw[kA aj]at e;refine(k.box l bU cm e lQ).cd o.ext k.len λj g=>⟨setRow_other _ _ _ _ λy=>?_,λ_=>rfl⟩
 subst y;exact aj (k.a3 d l _ cm p lQ j E g)
def Ah(b:p an)(d:a5):Next->z->Prop
 |.value e,a=>bx b d e a
 |.skip,a=>a=.any
 |_,_=>False
def a0(P:aI)(k:ap)(i:aA->z)(g:p an)(n:z)(b:p an):Prop:=
 ∀e d,bb g e->(∀l,bx g e (d l) (i l))->∃j a,(ac d k).run P e.a=.ok j a.a/\Ah b a j n/\bb b a/\cN g e b a/\ds e ((ac d k).events P e.a #[])
def a0.du{l}(j:∀b a,bb n b->(∀g,bx n b (a g) (η g))->∃aa,(ac a t).run P b.a=.ok (.value aa) b.a/\bx n b aa l/\ds b ((ac a t).events P b.a #[])):a0 P t η n l n:=
 λb a d e=>let ⟨aa,cS,dp,i⟩:=j b a d e;⟨.value aa,b,cS,dp,d,.refl _ _,i⟩
def a0.aZ{l}(j:∀b a,bb n b->(∀g,bx n b (a g) (η g))->∃aa,(ac a t).run P b.a=.ok (.value aa) b.a/\bx n b aa l/\(ac a t).events P b.a #[]=#[]):a0 P t η n l n:=
 λb a d e=>let ⟨aa,cS,dp,i⟩:=j b a d e;⟨.value aa,b,cS,dp,d,.refl _ _,by rw[i];exact .nil⟩
def yo:IntKind->Int->Bool
 |.i64,.ofNat a=>ay a 9223372036854775807
 |.i64,.negSucc a=>ay a 9223372036854775807
 |.u8,.ofNat a=>ay a 255
 |.i32,.ofNat a=>ay a 2147483647
 |.i32,.negSucc a=>ay a 2147483647
 |.u64,.ofNat a=>ay a 18446744073709551615
 |.u32,.ofNat a=>ay a 4294967295
 |_,_=>m
def ZX{i}{k}(a:yo i k=f):a7 i k:=by cases i<;>cases k<;>simp only[yo,a7]at a⊢<;>first|(cases a;done)|(have:=e' a;grind)
def lE:Z->Option N
 |.int a b=>cond (yo a b) (h (.int a b)) q
 |.bool e=>h (.bool e)
 |.string d=>cond (ay d.size 9223372036854775807) (h (.V d.data.toList)) q
 |.slice q 0 0=>h (.S f 0 0 (λ_=>[]))
 |.pointer q=>h .bc
 |.nilIface=>h .bo
 |.nilFunc=>h .da
 |.map g=>h (.val (.map g))
 |_=>q
theorem Rd.dH{o}{i}{a}:Rd bB (.slice a 0 0) (.S o i 0 T):=
 Rd.S 0 0 (λ_ _=>K) (bC _) y bl y y y y
def Rd.fp{bB}{aa}{s}(a:lE aa=h s):Rd bB aa s:=by
 unfold AM.lE at a;split at a<;>first
  |(rename_i d e;cases b:yo d e<;>rw[b]at a<;>cases a;exact .int (ZX b))
  |(rename_i g;cases b:ay g.size 9223372036854775807<;>rw[b]at a<;>cases a;exact .V rfl (by rw[m5];exact e' b))
  |(cases a;done)
  |(cases a;exact .bool)
  |(cases a;exact Rd.dH)
  |(cases a;exact .bc)
  |(cases a;exact .bo)
  |(cases a;exact .da)
  |(cases a;exact .val rfl)
def SK:Option N->z
 |some a=>ax a
 |none=>.any
def bF(a:bH):aA->z
 |.tmp d=>look a d
 |.const e=>SK (lE e)
 |.func b=>ax (.fn (.func b) [] [])
 |.global _=>.any
theorem eJ{d}(e:bV D n b F d)(X):bx n b (d.eval X) (bF F X):=by
 cases X with
 |tmp j=>exact e.aH j
 |const k=>
  simp[bF,Act.eval];cases i:lE k with
  |none=>trivial
  |some l=>exact Rd.fp i
 |func g=>
  exact Rd.fn [] [] a a (λ_=>K) (λ_=>K) E E E E
 |global g=>trivial
def fS:Option Nat->z->bH->bH
 |some b,d,a=>(b,d)::a
 |none,_,a=>a
def ri{o:ai P}{k:aK}{i}{j}{br}(z:k.kind≠.early)(u:aC[e]?=h t)(x:aV t (yielded aC j.tmps)=f)(s:∀g,cU b g->∃l d n,(ac j.eval t).run P g.a=.ok l d.a/\(l=.value n∨(l=.skip/\n=K))/\kx g d ((ac j.eval t).events P g.a #[])/\cb o bq (G (k.M (j.put t.dst n) (.inRegion aC br::i)) ah) d):
  cb o bq (G (k.M j (.inRegion aC (e::br)::i)) ah) b:=by refine .next a λg v=>?_;obtain⟨l,d,n,y,w,p,r⟩:=s g (o.bM v);refine⟨_,d,Go.Conc.listed P k.fn j t g.a,?_,⟨p.1,p.2.seen⟩,r⟩;grind[acf,LR]
theorem a0.move(b:t.op=.move l):a0 P t η n (η l) n:=
 .aZ λe a _ d=>⟨a l,by simp[ac,b,pure],d l,by simp[ac,b]⟩
theorem a0.assign(b:t.op=.assign l):a0 P t η n (η l) n:=
 .aZ λe a _ d=>⟨a l,by simp[ac,b,pure],d l,by simp[ac,b]⟩
def b6{s}(a:bx n b aa (ax s)):Rd b.u aa s:=a
def a0.pick{s e j}(i:t.op=.pick s e j){o}(l:η s=ax (.bool o)):
  a0 P t η n (match o with|true=>η e|false=>η j) n:=by
 refine .aZ λp a _ k=>?_;have b:=k s;rw[l]at b;have d:=b6 b;generalize g:a s=r at d;cases d;cases o
 .exact⟨a j,by simp[ac,i,g,asBool],k j,by simp[ac,i,g,asBool]⟩
 exact⟨a e,by simp[ac,i,g,asBool],k e,by simp[ac,i,g,asBool]⟩
def vd(e:BinOp)(d:IntKind)(a b:Int):Option (N×p Prop):=
 match e with
 |.add=>h (.int d (a+b),[a7 d (a+b)])
 |.sub=>h (.int d (a-b),[a7 d (a-b)])
 |.mul=>h (.int d (a*b),[a7 d (a*b)])
 |.quo=>h (.int d (a / b),[0<=a,0<b])
 |.rem=>h (.int d (a % b),[0<=a,0<b])
 |.eql=>h (.bool (a==b),[])
 |.neq=>h (.bool (a != b),[])
 |.lss=>h (.bool (decide (a<b)),[])
 |.leq=>h (.bool (decide (a<=b)),[])
 |.gtr=>h (.bool (decide (b<a)),[])
 |.geq=>h (.bool (decide (b<=a)),[])
 |_=>q
def vV(d:BinOp)(a b:p UInt8):Option (N×p Prop):=
 match d with
 |.add=>h (.V (a++b),[c a+c b<=9223372036854775807])
 |.eql=>h (.bool (a==b),[])
 |.neq=>h (.bool (!(a==b)),[])
 |.lss=>h (.bool (aW a b),[])
 |.leq=>h (.bool (aW a b||a==b),[])
 |.gtr=>h (.bool (!(aW a b||a==b)),[])
 |.geq=>h (.bool (!(aW a b)),[])
 |_=>q
@[simp] def U:p Prop->Prop
 |[]=>True
 |[a]=>a
 |a::b::d=>a/\U (b::d)
def U.cons{b:Prop}{a}:U (b::a)↔b/\U a:=by cases a<;>simp
theorem r4{i}{k}(a:a7 i k):i.wrap k=k:=by cases i<;>simp only[a7,IntKind.wrap,IntKind.bits,IntKind.signed]at a⊢<;>simp<;>(try split)<;>omega
def abX{Q}{i}{l X}{s}(b:vd op i l X=h (s,cf))(a:U cf)(t:a7 i l)(p:a7 i X)(o)(bB):
  ∃k,(binOp op o (.int i l) (.int i X)).run P Q=.ok k Q/\Rd bB k s:=by
 cases op<;>simp[vd,eR,lD,reduceCtorEq]at b
 case add=>obtain⟨rfl,rfl⟩:=b;exact⟨_,by simp only[binOp,d8,hn,dh,Op.intArith,r4 a];rfl,.int a⟩
 case sub=>obtain⟨rfl,rfl⟩:=b;exact⟨_,by simp only[binOp,d8,hn,dh,Op.intArith,r4 a];rfl,.int a⟩
 case mul=>obtain⟨rfl,rfl⟩:=b;exact⟨_,by simp only[binOp,d8,hn,dh,Op.intArith,r4 a];rfl,.int a⟩
 case quo=>
  obtain⟨rfl,rfl⟩:=b;obtain⟨e,d⟩:=a;replace d:0<X:=d;have j:l.tdiv X=l / X:=Int.tdiv_eq_ediv_of_nonneg e;have g:a7 i (l / X):=by have n:0<=l / X:=Int.ediv_nonneg e y;have r:l / X<=l:=Int.ediv_le_self _ e;cases i<;>simp only[a7]at t⊢<;>omega
  exact⟨_,by simp only[binOp,d8,hn,dh,Op.intDiv,show X≠0 by omega,j,r4 g];rfl,.int g⟩
 case rem=>
  obtain⟨rfl,rfl⟩:=b;obtain⟨e,d⟩:=a;replace d:0<X:=d;have j:l.tmod X=l % X:=Int.tmod_eq_emod_of_nonneg e;have g:a7 i (l % X):=by have n:0<=l % X:=su _ y;have r:l % X<X:=sl _ d;cases i<;>simp only[a7]at p⊢<;>omega
  exact⟨_,by simp only[binOp,d8,hn,dh,Op.intDiv,show X≠0 by omega,j];rfl,.int g⟩
 all_goals (obtain⟨rfl,rfl⟩:=b;exact⟨_,by simp only[binOp,d8,hn,dh,Op.intCmp,gt_iff_lt,ge_iff_le];rfl,.bool⟩)
def abY{Q}{l X}{b j}{s}(a:vV op b j=h (s,cf))(cv:U cf)(k:l.data.toList=b)(g:X.data.toList=j)(o)(bB):
  ∃d,(binOp op o (.string l) (.string X)).run P Q=.ok d Q/\Rd bB d s:=by
 subst k g;cases op<;>simp only[vV,eR,lD,reduceCtorEq]at a
 case add=>
  obtain⟨rfl,rfl⟩:=a;have e:¬((l.size+X.size:Nat):Int)>IntKind.i64.max:=NE;refine⟨_,by simp only[binOp,Op.stringOp,e,dh];rfl,.V E (by simpa using cv)⟩
 all_goals (obtain⟨rfl,rfl⟩:=a;exact⟨_,by simp only[binOp,Op.stringOp,ByteArray.toList_eq];rfl,.bool⟩)
def U2{a}{i}{l X}{s}(u:vd op i l X=h (s,cf))(cv:U cf)(o):
  (binOp op o (.int i l) (.int i X)).events P a #[]=#[]:=by
 cases op<;>simp[vd,eR,lD,reduceCtorEq]at u
 case quo=>
  exact PU
 case rem=>
  exact PU
 all_goals (simp only[binOp,d8,hn,dh,Op.intCmp,Op.intArith];rfl)
def Xc{k}{l X}{a j}{s}(b:vV op a j=h (s,cf))(cv:U cf)(g:l.data.toList=a)(e:X.data.toList=j)(o):
  (binOp op o (.string l) (.string X)).events P k #[]=#[]:=by
 subst g e;cases op<;>simp[vV,eR,lD,reduceCtorEq]at b
 case add=>
  obtain⟨rfl,rfl⟩:=b;have d:¬((l.size+X.size:Nat):Int)>IntKind.i64.max:=NE;simp only[binOp,Op.stringOp,d,dh];rfl
 all_goals (simp only[binOp,Op.stringOp];rfl)
def s7:IntKind->IntKind->Bool
 |.i8,.i8|.i16,.i16|.i32,.i32|.i64,.i64|.u8,.u8|.u16,.u16|.u32,.u32|.u64,.u64=>f
 |_,_=>m
def CV{i a}(b:s7 i a=f):i=a:=by cases i<;>cases a<;>first|rfl|(cases b;done)
def xa(a:BinOp):N->N->Option (N×p Prop)
 |.int d i,.int b j=>cond (s7 d b) (vd a d i j) q
 |.V e,.V g=>vV a e g
 |_,_=>q
def qf(op)(o)(l X)(i a)(k d)(b):(eqGuard op o l X (.int i k) (.int a d)).run P b=.ok () b:=z0
def Ia(op)(o)(l X)(b j)(a):(eqGuard op o l X (.string b) (.string j)).run P a=.ok () a:=z0
def xW(op)(o)(l X)(i a)(k b)(d)(T):(eqGuard op o l X (.int i k) (.int a b)).events P d T=T:=z0
def Ud(op)(o)(l X)(a j)(b)(T):(eqGuard op o l X (.string a) (.string j)).events P b T=T:=z0
theorem a0.binOp(w:t.op=.binOp op o l X ty){C j s}(K:η l=ax C)(y:η X=ax j)(e:xa op C j=h (s,cf))(d:U cf):a0 P t η n (ax s) n:=by
 refine .aZ λx r _ E=>?_;have a:=E l;have b:=E X;rw[K]at a;rw[y]at b;replace a:=b6 a;replace b:=b6 b;generalize u:r l=M at a;generalize v:r X=N at b;cases a<;>cases b<;>simp[xa,reduceCtorEq]at e
 case int.int i k ji f_ Dd Yu=>
  cases g:s7 i f_<;>simp[g,cond,reduceCtorEq]at e
  cases CV g;obtain⟨B,z,A⟩:=abX (P:=P) (Q:=x.a) e d ji Yu o x.u;exact⟨B,by simp[ac,w,cI,u,v,qf,c0,z,d6],A,by simp[ac,w,u,v,qf,xW,U2 e d]⟩
 case V.V=>
  rename_i S R F I O J p D;obtain⟨B,z,A⟩:=abY (P:=P) (Q:=x.a) e d F p o x.u;exact⟨B,by simp[ac,w,cI,u,v,Ia,c0,z,d6],A,by simp[ac,w,u,v,Ia,Ud,Xc e d F p]⟩
def zr(a:UnOp):N->Option N
 |.bool b=>match a with|.not=>h (.bool (!b))|_=>q
 |_=>q
theorem a0.unOp{op}(i:t.op=.unOp op o l){e s}(j:η l=ax e)(b:zr op e=h s):a0 P t η n (ax s) n:=by
 refine .aZ λr d _ k=>?_;have a:=k l;rw[j]at a;replace a:=b6 a;generalize g:d l=p at a;cases a<;>simp[zr,reduceCtorEq]at b
 cases op<;>simp[reduceCtorEq,eR]at b
 subst b;exact⟨_,by simp[ac,i,g,Op.unary,cI,d6,c0],Rd.bool,by simp[ac,i,g,Op.unary]⟩
theorem eQ.get{ag}(i:eQ n b B ag){l}(d:ag[w]?=h l):∃e,B[w]?=h e/\er n b e l:=by
 induction B generalizing ag w with
 |nil=>cases ag<;>simp_all[eQ]
 |cons e B g=>
  cases ag with
  |nil=>grind
  |cons k j=>
   cases w with
   |zero=>simp at d;subst d;exact⟨e,a,i.1⟩
   |succ w=>simp at d;obtain⟨p,x,o⟩:=g i.2 d;grind
theorem a0.extract{P}{t}{b:aA->z}{n}{l}{w}(p:t.op=.extract l w){ag}{d}(j:b l=.Q ag)(i:ag[w]?=h d):a0 P t b n (.q d) n:=by refine .aZ λv u _ o=>?_;have a:=o l;rw[j]at a;obtain⟨B,k,r⟩:=a;obtain⟨s,e,g⟩:=r.get i;refine⟨s,?_,g,?_⟩<;>simp[ac,p,k,Instr.extract,e]
def ps(a b:Nat):aU:=⟨.cell ⟨a,b,q⟩,m,m⟩
def tN(a b:Nat):aU:=⟨.cell ⟨a,b,q⟩,f,m⟩
theorem gM(j t k):(⟨j,t,q⟩:Addr).add k=⟨j,t+k,q⟩:=by unfold Addr.add;split<;>simp_all
section
def Cd{a}{t}(b:a.cell? ⟨j,t,q⟩=h aa)(T):(load ⟨j,t,q⟩).events P a T=T.push (ps j t):=by rw[events_load,b];rfl
def IC{o}{j t}:∀i e a b,(∀d,d<i->∃n,o.cell? ⟨j,t+(e+d),q⟩=h n) ->
    ∀g∈(loadCellsFrom ⟨j,t,q⟩ e i a).events P o b,g∈b∨∃d,d<e+i/\g=ps j (t+d)
  |0,e,a,b,_=>λg k=>.inl (by simpa[loadCellsFrom]using k)
  |i+1,e,a,b,p=>λg k=>by
    obtain⟨n,l⟩:=p 0 y;simp[j9]at l;simp[loadCellsFrom,aH,gM,run_load,l,aJ,Cd l]at k;rcases IC i (e+1) (a.push n) _ (λd r=>by grind) g k with s|⟨d,r,rfl⟩
    · grind
    grind
def IB{d}{t}{T}(i:∀a,a<k->∃g,d.cell? ⟨j,t+a,q⟩=h g):∀b∈(loadCells ⟨j,t,q⟩ k).events P d T,b∈T∨∃a,a<k/\b=ps j (t+a):=by intro b e;have:=IC (P:=P) k 0 #[] T M b e;grind
def nc{j t}{o}:∀B a g d b,d.heap[j]?=h (.cells g o (0,0))->t+a+c B<=g.size->(∀e∈B,e.oneCell'=f) ->
    ∀k∈(storeCells ⟨j,t,q⟩ B a).events P d b,k∈b∨∃n,a<=n/\n<a+c B/\k=tN j (t+n)
  |[],_,_,_,_,_,_,_=>λk l=>.inl (by simpa[storeCells]using l)
  |e::i,a,g,d,b,C,x,p=>λk l=>by
    have bp:t+a<g.size:=M;have r:d.cell? ⟨j,t+a,q⟩=h g[t+a]:=Nz;have s:d.frozen? ⟨j,t+a,q⟩=m:=by simp[World.frozen?,C]
    have u:(store (⟨j,t+a,q⟩:Addr) e).run P d=.ok () (d.setRow j (g.setIfInBounds (t+a) e)):=Np;have v:(store (⟨j,t+a,q⟩:Addr) e).events P d b=b.push (tN j (t+a)):=by rw[events_store P d b _ e _ (p e E),r];simp[s,j6,dh];rfl
    simp[storeCells,aH,gM,u,v,aJ]at l;rcases nc i (a+1) (g.setIfInBounds (t+a) e) _ _ (setRow_heap _ _ _ _ _ _ C) M (λw A=>p w M) k l with y|⟨n,D,z,rfl⟩
    · grind
    grind
def dB(P:aI)(b:Sem α):Prop:=∀d a,b.events P d a=a
def dB.bind{e:Type}{A}{g:α->Sem e}(j:dB P A)(k:∀d,dB P (g d)):dB P (A >>= g):=by
  intro i a;rw[aH,j i a];cases A.run P i with
  |ok d b=>exact k d b a
  |halt l b=>rfl
def dB.pure{a:Type}{b}:dB P (Pure.pure b:Sem a):=λ_ _=>rfl
def dB.stuck{a:Type}{b}:dB P (Go.stuck b:Sem a):=λ_ _=>rfl
def dB.unsupported{a:Type}{b}:dB P (Go.unsupported b:Sem a):=λ_ _=>rfl
def dB.sizeOf{o}:dB P (sizeOf o):=λ_ _=>events_sizeOf ..
def dB.underlying{o}:dB P (underlying o):=λ_ _=>events_underlying ..
def dB.zeroValue{o}:dB P (zeroValue o):=λ_ _=>events_zeroValue ..
def dB.newObj{t}:dB P (newObj t):=λ_ _=>rfl
def dB.newRow{o}{s}:dB P (newRow o s):=.bind .newObj λ_=>.pure
def dB.hv{a e:Type}{g:a->Sem e}(i:∀b,dB P (g b)):∀d:p a,dB P (d.mapM g)
  |[]=>by rw[List.mapM_nil];exact .pure
  |b::d=>by rw[oY];exact .bind (i b) λ_=>.bind (dB.hv i d) λ_=>.pure
def dB.map{b d:Type}{e:b->d}{A}(g:dB P A):dB P (Functor.map e A):=λi a=>by rw[Sem.events_map];exact g i a
def dB.jx{a:Type}{b:α->Sem a}(e:∀d,dB P (b d))(g:Array α):dB P (g.mapM b):=by rw[wW];exact .map (.hv e _)
def dB.hc{b d:Type}{i:b->d->Sem (ForInStep d)}(j:∀e a,dB P (i e a)):∀(g:p b) a,dB P (forIn g a i)
  |[],a=>by rw[List.forIn_nil];exact .pure
  |e::g,a=>by
    rw[List.forIn_cons];refine .bind (j e a) λk=>?_;cases k with
    |done a=>exact .pure
    |yield a=>exact dB.hc j g a
theorem dB.build{o}{parts}:dB P (Instr.build o parts):=by
  unfold Instr.build;refine .bind .zeroValue λe=>.bind .underlying λa=>?_;cases a<;>first
    |exact .stuck
    | (refine .bind (.jx (λ_=>.bind .sizeOf λ_=>.pure) _) λb=>?_
       split
       · exact .pure
       · exact .stuck)
    | (refine .bind .sizeOf λd=>?_
       split
       · exact .pure
       · exact .stuck)
theorem dB.buildSlice{o}{k}{parts}:dB P (Instr.buildSlice o k parts):=by
  unfold Instr.buildSlice;refine .bind .underlying λi=>?_;cases i<;>first
    |exact .stuck
    | (refine .bind .sizeOf λd=>?_
       dsimp only
       have a:∀elem (zero:Array Z),dB P (match Instr.fill (λj=>h (j*d,d)) (Array.map (λl=>zero[l % zero.size]!) (Array.range (k*d))) parts.toList with
          |some cells=>do
            let g<-Go.newRow elem cells
            Pure.pure (Value.slice (h g) k k)
          |_=>Go.stuck "buildSlice: a part of the wrong size"):=by
         intro elem zero;split
         · exact .bind .newRow λ_=>.pure
         · exact .stuck
       by_cases e:k*d=0
       · simp only[e,dH]
         rw[e]at a;split
         · grind
         · exact .bind .pure λb=>a _ b
       · simp only[e,dh]
         split
         · exact .bind .unsupported λ_=>.bind .zeroValue λb=>.bind .pure λb=>a _ b
         · exact .bind .zeroValue λb=>.bind .pure λb=>a _ b)
def qh{t}{L}(a:L∈b.m)(d:j∈L.al):h1 b (ps j t):=⟨rfl,rfl,.inr (.inl ⟨⟨L,a,d⟩,λe=>by cases e⟩)⟩
def Ic{t}(a:b.u j t=h aa):h1 b (ps j t):=⟨rfl,rfl,.inr (.inr ⟨rfl,aa,a⟩)⟩
theorem ob{t}{L}(d:L∈b.m)(e:j∈L.al)(a:b.u j t=q):h1 b (tN j t):=⟨rfl,rfl,.inr (.inl ⟨⟨L,d,e⟩,λ_=>a⟩)⟩
end
structure bv where
 size:Nat
 bytes:Nat
 agg:Bool
 desc:TypeDesc
 zero:p N
 eq:p TypeDesc:=[]
def rv:TypeDesc->Z->Z->Option Bool
 |.int _,.int e a,.int d b=>if e=d then h (a==b)else q
 |.string,.string a,.string b=>h (a.toList==b.toList)
 |.bool,.bool a,.bool b=>h (a==b)
 |_,_,_=>q
def oa:p TypeDesc->p Z->p Z->Option Bool
 |[],[],[]=>h f
 |g::a,i::B,j::b=>match rv g i j with
  |some d=>match oa a B b with
   |some e=>h (d&&e)
   |none=>q
  |none=>q
 |_,_,_=>q
def yq:TypeDesc->Bool
 |.struct _|.array _ _=>f
 |_=>m
structure dO(P:aI)(o:av)(e:bv):Prop where
 eM:P.underlying o=h e.desc
 agg:yq e.desc=e.agg
 c':∃inf cL,P.info? o=h inf/\inf.size=e.size/\inf.bytes=e.bytes/\inf.zero=h cL/\cL.cells.toList.map lE=e.zero.map h/\(∃ah,cL=if e.agg then .agg ah else cL)/\c e.zero=e.size
 iK:e.eq≠[]->P.eqGuardType P.depth o=m/\∀(Q:au) (B ws:p Z) (j:Bool),oa e.eq B ws=h j->(Op.equal o (.agg B.toArray) (.agg ws.toArray)).run P Q=.ok j Q/\∀T,(Op.equal o (.agg B.toArray) (.agg ws.toArray)).events P Q T=T
def bW:p (Nat×bv)->Nat->Option bv
 |[],_=>q
 |(d,b)::e,a=>cond (af d a) (h b) (bW e a)
def bn(P:aI)(d:p (Nat×bv)):Prop:=∀b a,bW d b=h a->dO P b a
section
variable {Q:au}{e:bv}
def dO.run_underlying(a:dO P o e):(underlying o).run P Q=.ok e.desc Q:=by simp[underlying,a.eM]
def dO.eo(a:dO P o e):(isAgg o).run P Q=.ok e.agg Q:=by have:=a.agg;unfold Go.isAgg;rw[cI,a.run_underlying];cases b:e.desc<;>rw[b]at this<;>simp[yq]at this<;>simp[this]
def dO.bf(d:dO P o e):(sizeOf o).run P Q=.ok e.size Q:=by obtain⟨g,i,a,b,_⟩:=d.c';simp[sizeOf,typeInfo,a,b]
def uh{n}{b}:∀{B:p Z}{a:p N},B.map lE=a.map h->bM n b B (a.map O.c)
 |[],[],_=>trivial
 |[],_::_,d=>by grind
 |_::_,[],d=>by grind
 |g::B,e::a,d=>by simp[mg,List.cons.injEq]at d;exact⟨Rd.fp d.1,uh d.2⟩
def dO.hT(j:dO P o e)(n)(b):∃a,(zeroValue o).run P Q=.ok a Q/\bM n b a.cells.toList (e.zero.map O.c):=by obtain⟨l,a,d,k,p,i,g,_⟩:=j.c';exact⟨a,by simp[zeroValue,typeInfo,d,i],uh g⟩
end
def mm:z->Option (p O)
 |.q (.aq b)=>h [b]
 |.q (.agg a)=>h a
 |_=>q
theorem uN{d}{ah}(a:mm d=h ah)(e:bx n b aa d):bM n b aa.cells.toList ah:=by
 cases d with
 |q i=>
  cases i with
  |aq k=>
   cases a;have:=cw.cell e;cases aa<;>first|exact⟨e,v⟩|cases this
  |agg l=>
   cases a;obtain⟨B,rfl,g⟩:=e;simpa[Value.cells]using g
 |Q j=>cases a
 |any=>cases a
def a0.newVar{P}{t}{g:aA->z}{n}{W}{ah}(r:∀b d,bb n b->(∀o,bx n b (d o) (g o))->∃i:Z,(ac d t).run P b.a=((do pure (.value (.pointer (h (<-newVar W i))))):Sem Next).run P b.a/\bM n b i.cells.toList ah/\(ac d t).events P b.a #[]=#[]):
  a0 P t g n (aG (c n) 0) (n++[.cells W ah]):=by
 intro b d e l;obtain⟨i,j,k,p⟩:=r b d e l;refine⟨.value (.pointer (h ⟨b.a.heap.size,0,q⟩)),b.bY W i.cells.toList,?_,?_,e.bY k,.bY b W _ _,by rw[p];exact .nil⟩
 .rw[j];simp[Go.newVar,newRow,a5.bY]
 refine⟨by simp,⟨.pointer (h ⟨b.a.heap.size,0,q⟩),[b.a.heap.size]⟩,b.a.heap.size,?_,a,a⟩;simp[a5.bY,<-e.len]
theorem a0.alloc{P}{ad}(aQ:bn P ad){t}{b:aA->z}{n}{W}(g:t.op=.alloc W){e}(a:bW ad W=h e):
  a0 P t b n (aG (c n) 0) (n++[.cells W (e.zero.map O.c)]):=by refine .newVar λi l _ _=>?_;obtain⟨k,d,j⟩:=(aQ W e a).hT (Q:=i.a) n i;exact⟨k,by simp[ac,g,Instr.alloc,d],j,by simp[ac,g,Instr.alloc,d,Go.newVar,newRow]⟩
theorem a0.box{P}{t}{a:aA->z}{n}{W}{l}(d:t.op=.box W l){ah}(e:mm (a l)=h ah):
  a0 P t a n (aG (c n) 0) (n++[.cells W ah]):=
 .newVar λi b _ g=>⟨b l,by simp[ac,d,Instr.box],uN e (g l),by simp[ac,d,Instr.box,Go.newVar,newRow]⟩
def mQ{a:Type}:Nat->p a->Option (p a)
 |0,_=>h []
 |d+1,g::b=>match mQ d b with|some e=>h (g::e)|none=>q
 |_+1,[]=>q
def tJ{i:Type}:∀{b:Nat}{e d:p i},mQ b e=h d->d=e.take b/\c d=b
 |0,e,d,a=>by cases a;simp
 |b+1,[],d,a=>by simp[mQ]at a
 |b+1,o::g,d,a=>by
  simp[mQ]at a;cases j:mQ b g with
  |none=>grind
  |some n=>
   simp[j]at a;subst a;obtain⟨k,l⟩:=tJ j;grind
def c6{a:Type}:Nat->p a->Option a
 |_,[]=>q
 |0,e::_=>h e
 |d+1,_::b=>c6 d b
theorem ei{b:Type}:∀{k:Nat}{d:p b}{e:b},c6 k d=h e->d[k]?=h e
 |_,[],_,a=>by simp[c6]at a
 |0,e::_,_,a=>by simpa[c6]using a
 |k+1,_::g,_,a=>by simpa using ei (k:=k) (d:=g) a
def fQ{a:Type}:Nat->p a->p a
 |0,d=>d
 |_+1,[]=>[]
 |e+1,_::b=>fQ e b
def ru{d:Type}:∀a(e:p d),fQ a e=e.drop a
 |0,_=>by simp[fQ]
 |_+1,[]=>by simp[fQ]
 |a+1,_::b=>by simp[fQ,ru a b]
def g'(b:bv)(a:p O):Option E1:=
 match b.agg with
 |true=>match mQ b.size a with|some e=>h (.agg e)|none=>q
 |false=>match c6 0 a with|some d=>h (.aq d)|none=>q
def tu{e}(s:dO P o e){ah}{aj}(D:∀l d,B[l]?=h d->b.a.cell? ⟨j,off+l,q⟩=h d)(r:bM n b B ah)(i:g' e ah=h aj):
  ∃d,(loadVar o ⟨j,off,q⟩).run P b.a=.ok d b.a/\er n b d aj:=by
 simp[loadVar,cI,s.eo,c0];cases u:e.agg<;>simp[g',u]at i
 .cases g:c6 0 ah with
  |none=>grind
  |some y=>
   simp[g]at i;subst i;obtain⟨d,z,t⟩:=r.get (ei g);refine⟨d,?_,t⟩;grind[run_load]
 cases g:mQ e.size ah with
 |none=>grind
 |some A=>
  simp[g]at i;subst i;obtain⟨x,v⟩:=tJ g;have k:=r.take e.size;rw[<-x]at k;have w:c (B.take e.size)=e.size:=by rw[k.cM,v]
  have p:=run_loadCells_list (P:=P) b.a ⟨j,off,q⟩ (B.take e.size) (λl d C=>by grind[gM]);rw[w]at p;refine⟨.agg (B.take e.size).toArray,?_,B.take e.size,a,k⟩;simp[s.bf,p]
def o7{Q}{e}(s:dO P o e)(t:∀d,d<k->∃l,Q.cell? ⟨j,off+d,q⟩=h l)(i:(if e.agg then e.size else 1)<=k):
  ∀g∈(loadVar o ⟨j,off,q⟩).events P Q #[],∃d,d<k/\g=ps j (off+d):=by
 intro g b;simp only[loadVar,aH,s.eo,aJ,events_isAgg]at b;cases p:e.agg
 .rw[p]at i b;obtain⟨l,r⟩:=t 0 M;simp[j9]at r;simp only[j6,dh,Cd r]at b;rcases Array.mem_push.1 b with u|rfl
  .grind
  exact⟨0,by grind,a⟩
 rw[p]at i b;simp[dH]at i;simp[dH,aH,s.bf,aJ,events_sizeOf]at b;have key:∀g∈(loadCells ⟨j,off,q⟩ e.size).events P Q #[],∃d,d<k/\g=ps j (off+d):=by
  intro g b;rcases IB (P:=P) (λd v=>t d y) g b with u|⟨d,v,rfl⟩
  .grind
  grind
 apply key;generalize(loadCells ⟨j,off,q⟩ e.size).run P Q=w at b;cases w with
 |ok l n=>simpa using b
 |halt x n=>simpa using b
theorem r3{e}{ah}{g}(a:g' e ah=h g):(if e.agg then e.size else 1)<=c ah:=by
 unfold g' at a;cases b:e.agg<;>rw[b]at a
 .cases ah with
  |nil=>simp[c6]at a
  |cons i ah=>simp
 simp only at a;cases d:mQ e.size ah with
 |none=>grind
 |some l=>
  obtain⟨j,k⟩:=tJ d;grind
theorem a0.ho{ad}(aQ:bn P ad)(C:t.op=.load o l){ah}{e}{aj}(O:η l=aG d off)(aE:n[d]?=h (.cells W ah))(r:bW ad o=h e)(F:g' e (fQ off ah)=h aj):a0 P t η n (.q aj) n:=by
 refine .du λb x s u=>?_
 have p:=u l;rw[O]at p;obtain⟨_,L,j,J,y,I⟩:=p;obtain⟨w,B,rfl,D,z,_⟩:=s.box d _ L aE J;simp at y;subst y;rw[ru]at F;obtain⟨K,A,N⟩:=tu (b:=b) (n:=n) (P:=P) (aQ o e r) (j:=w) (off:=off) (B:=B.drop off) (ah:=ah.drop off) (aj:=aj) (λv K g=>by
  simp[aN,D]
  grind) (z.drop off) F
 refine⟨K,by simp[ac,C,I,Instr.loadAt,Instr.sureAddr,A],N,λi a=>?_⟩;have M:i∈(loadVar o ⟨w,off,q⟩).events P b.a #[]:=by
  have aj:ac x t=(do pure (.value (<-loadVar o ⟨w,off,q⟩))):=by simp[ac,C,I,Instr.loadAt,Instr.sureAddr]
  rw[aj]at a;simpa[A]using a
 have Q:c (B.drop off)=c (ah.drop off):=(z.drop off).cM;obtain⟨v,g,rfl⟩:=o7 (aQ o e r) (k:=c (B.drop off)) (λv g=>by refine⟨(B.drop off)[v],?_⟩;simp only[aN,D];simp at g⊢<;>omega) (by grind[r3]) i M;exact qh (b8 J) E
theorem a0.hq{ad}(aQ:bn P ad)(I:t.op=.load o l){ah}{e}{aj}(W:η l=ax (.O ah))(x:bW ad o=h e)(Q:g' e (ah.map O.c)=h aj):a0 P t η n (.q aj) n:=by
 refine .du λb y w C=>?_;have u:=C l;rw[W]at u;have v:=b6 u;generalize F:y l=X at v;cases v;rename_i j off A r J;have V:∀k i,(∀d z,i[d]?=h z->Rd b.u (A (k+d)) z)->bM n b ((aD (c i)).map λd=>A (k+d)) (i.map O.c):=by
  intro k i;induction i generalizing k with
  |nil=>intro _;trivial
  |cons S i D=>
   intro N;rw[fj,wM];refine⟨N 0 S a,?_⟩;have:=D (k+1) (λd z g=>by have:=N (d+1) z M;grind);grind[Function.comp_def]
 obtain⟨R,K,U⟩:=tu (b:=b) (n:=n) (P:=P) (aQ o e x) (j:=j) (off:=off) (B:=(aD (c ah)).map λd=>A (0+d)) (ah:=ah.map O.c) (aj:=aj) (λd R g=>by
  simp[m7,cV]at g;by_cases E:d<c ah
  .simp[E]at g;subst g;exact w.mem _ _ _ (r d ah[d] (bI E))
  grind) (V 0 ah M) Q
 refine⟨R,by simp[ac,I,F,Instr.loadAt,Instr.sureAddr,K],U,λs p=>?_⟩;have T:s∈(loadVar o ⟨j,off,q⟩).events P b.a #[]:=by
  have aj:ac y t=(do pure (.value (<-loadVar o ⟨j,off,q⟩))):=by simp[ac,I,F,Instr.loadAt,Instr.sureAddr]
  rw[aj]at p;simpa[K]using p
 obtain⟨d,g,rfl⟩:=o7 (aQ o e x) (k:=c ah) (λd g=>⟨A d,w.mem _ _ _ (r d ah[d] (bI g))⟩) (by have:=r3 Q;grind) s T;exact Ic (r d ah[d] (bI g))
def iQ{d:Type}:Nat->p d->p d->Option (p d)
 |0,[],j=>h j
 |0,k::b,_::a=>match iQ 0 b a with|some e=>h (k::e)|none=>q
 |i+1,b,g::a=>match iQ i b a with|some e=>h (g::e)|none=>q
 |_,_,[]=>q
def D4{i:Type}:∀{a:Nat}{new g e:p i},iQ a new g=h e->a+c new<=c g/\e=g.take a++new++g.drop (a+c new)
 |0,[],g,e,u=>by cases g<;>cases u<;>simp
 |0,n::b,l::d,e,u=>by
  simp[iQ]at u;cases x:iQ 0 b d with
  |none=>grind
  |some o=>
   exact OC
 |0,n::b,[],e,u=>by simp[iQ]at u
 |k+1,b,l::d,e,u=>by
  simp[iQ]at u;cases x:iQ k b d with
  |none=>grind
  |some o=>
   exact OC
 |k+1,b,[],e,u=>by simp[iQ]at u
def bM.ff{new}{ah a g}(i:AM.iQ off a ah=h g)(d:bM n b B ah)(e:bM n b new a):
  off+c new<=c B/\bM n b (B.take off++new++B.drop (off+c new)) g:=by obtain⟨k1,rfl⟩:=D4 i;rw[e.cM,d.cM];refine⟨k1,((d.take off).append e).append (by have:=d.drop (off+c a);exact this)⟩
theorem a0.store{ad}(aQ:bn P ad)(F:t.op=.store o l X){ah new i}{e}(K:η l=aG d off)(aE:n[d]?=h (.cells W ah))(r:bW ad o=h e)(z:mm (η X)=h new)(s:c new=e.size)(N:iQ off new ah=h i):
  a0 P t η n .any (n.set d (.cells W i)):=by
 intro w g p u;have k:=u l;rw[K]at k;obtain⟨_,L,Y,y,D,J⟩:=k;obtain⟨v,B,rfl,I,S,Q⟩:=p.box d _ L aE y;simp at D;subst D;have j:=uN z (u X);obtain⟨k1,U⟩:=bM.ff N S j;obtain⟨w1,w2⟩:=p.write aE y rfl U;refine⟨.skip,_,?_,a,w1,w2,?_⟩
 rotate_left
 .intro Ib b;have x:(g X).cells.size=e.size:=by rw[<-s,<-j.cM,m5]
  have O:ac g t=(do storeVar o ⟨v,off,q⟩ (g X);pure .skip):=by simp[ac,F,J,Instr.storeAt,Instr.sureAddr]
  rw[O]at b;have R:Ib∈(storeCells ⟨v,off,q⟩ (g X).cells.toList).events P w.a #[]:=by
   simp[storeVar,aH,(aQ o e r).bf,x,aJ,events_sizeOf,d8,hn,dh,cI,c0,Sem.events_pure]at b;generalize(storeCells ⟨v,off,q⟩ (g X).cells.toList).run P w.a=T at b;cases T with
   |ok aa A=>simpa using b
   |halt l A=>simpa using b
  rcases nc (g X).cells.toList 0 B.toArray w.a #[] I M j.cell Ib R with V|⟨Z,_,_,rfl⟩
  .grind
  exact ob (b8 y) E (Q _)
 have C:=run_storeCells_at P v off W (g X).cells.toList 0 B.toArray w.a I M (j.cell);have x:(g X).cells.size=e.size:=by rw[<-s,<-j.cM,m5]
 simp[j9]at C;simp[ac,F,J,Instr.storeAt,Instr.sureAddr,storeVar,(aQ o e r).bf,x,C]
def lb(d:p (Nat×bv))(j:av)(g:Nat):Option (Nat×bv):=
 match bW d j with
 |some i=>match i.desc with
  |.struct b=>match c6 g b.toList with
   |some a=>match bW d a.type with
    |some e=>cond (af e.size 0) q (h (a.offset,e))
    |none=>q
   |none=>q
  |_=>q
 |none=>q
def Cw{ad}(aQ:bn P ad){n}{w}(e:lb ad o n=h (off,w)):
  ∃k d b,bW ad o=h k/\k.desc=.struct d/\d[n]?=h b/\b.offset=off/\bW ad b.type=h w/\w.size≠0/\dO P o k/\dO P b.type w:=by
 unfold lb at e;split at e
 .rename_i k bp;split at e
  .rename_i d i;split at e
   .rename_i b g;split at e
    .rename_i j l;cases p:af j.size 0<;>simp[p]at e
     obtain⟨rfl,rfl⟩:=e;refine⟨k,d,b,bp,i,by simpa using ei g,a,l,?_,aQ _ _ bp,aQ _ _ l⟩;intro r;simp_all
    grind
   grind
  grind
 grind
def yX{ad}(aQ:bn P ad){a}{w}(p:lb ad o a=h (off,w))(j t)(b):
  (Instr.fieldAt o (.pointer (h ⟨j,t,q⟩)) a).run P b=.ok (.pointer (h ⟨j,t+off,q⟩)) b:=by obtain⟨s,l,k,u,i,r,n,v,d,g,e⟩:=Cw aQ p;simp[Instr.fieldAt,g.run_underlying,i,r,Instr.sureAddr,fieldPlace,e.bf,d,gM,n]
def xX{ad}(aQ:bn P ad){a}{w}(n:lb ad o a=h (off,w))(j t)(p)(T):
  (Instr.fieldAt o (.pointer (h ⟨j,t,q⟩)) a).events P p T=T:=by obtain⟨r,k,i,u,g,l,s,v,b,e,d⟩:=Cw aQ n;simp[Instr.fieldAt,e.run_underlying,g,l,Instr.sureAddr,fieldPlace,d.bf,b]
def a0.g7{ad}(aQ:bn P ad){r}(s:t.op=.fieldAddr o l r){i}{w}(y:η l=aG d off)(k:lb ad o r=h (i,w)):a0 P t η n (aG d (off+i)) n:=by refine .aZ λA z x g=>?_;have b:=g l;rw[y]at b;obtain⟨e,L,j,v,u,p⟩:=b;exact⟨.pointer (h ⟨j,off+i,q⟩),by simp[ac,s,p,yX aQ k],⟨e,L,j,v,u,a⟩,by simp[ac,s,p,xX aQ k]⟩
theorem a0.g8{ad}(aQ:bn P ad){r}(s:t.op=.fieldAddr o l r){ah}{i}{w}(A:η l=ax (.O ah))(p:lb ad o r=h (i,w)):a0 P t η n (ax (.O (fQ i ah))) n:=by refine .aZ λC g y e=>?_;have a:=e l;rw[A]at a;have b:=b6 a;generalize j:g l=B at b;cases b;rename_i k t x z u;refine⟨.pointer (h ⟨k,t+i,q⟩),by simp[ac,s,j,yX aQ p],?_,by simp[ac,s,j,xX aQ p]⟩;rw[ru];refine Rd.O k (t+i) (λw=>x (i+w)) (λw v d=>M) (λw v d=>?_);grind
def Rr{e}(l:dO P o e){ah}(r:bM n b B ah){k}(d:g' e (fQ off ah)=h k)(i):
  ∃g,(part o B.toArray off).run P i=.ok g i/\er n b g k/\∀a,(part o B.toArray off).events P i a=a:=by
 simp[part,cI,l.eo,c0,aH,aJ,events_isAgg];rw[ru]at d;cases u:e.agg<;>simp[g',u]at d
 .cases s:c6 0 (ah.drop off)with
  |none=>grind
  |some w=>
   simp[s]at d;subst d;obtain⟨g,p,t⟩:=(r.drop off).get (ei s);simp at p;refine⟨g,?_,t,λa=>?_⟩<;>simp[p]
 cases s:mQ e.size (ah.drop off)with
 |none=>grind
 |some y=>
  simp[s]at d;subst d;obtain⟨v,x⟩:=tJ s;have j:=(r.drop off).take e.size;rw[<-v]at j;refine⟨.agg (B.toArray.extract off (off+e.size)),by simp[l.bf],⟨(B.drop off).take e.size,?_,j⟩,λa=>by simp⟩;simp
theorem a0.field{P}{ad}(aQ:bn P ad){t}{d:aA->z}{n}{o}{l}{j}(p:t.op=.field o l j){ah}{i}{w}{g}(M:d l=.q (.agg ah))(F:lb ad o j=h (i,w))(J:g' w (fQ i ah)=h g):a0 P t d n (.q g) n:=by refine .aZ λK O E e=>?_;have a:=e l;rw[M]at a;obtain⟨B,r,y⟩:=a;obtain⟨Q,D,C,a,b,u,s,S,R,k,I⟩:=Cw aQ F;obtain⟨N,A,v,x⟩:=Rr I y J K.a;exact⟨N,by simp[ac,p,r,Instr.field,k.run_underlying,b,u,asAgg,s,A],v,by simp[ac,p,r,Instr.field,k.run_underlying,b,u,asAgg,s,x]⟩
theorem a0.hA(i:t.op=.nilCheck l)(k:η l=aG d off):a0 P t η n (aG d off) n:=by refine .aZ λv e o b=>?_;have a:=b l;rw[k]at a;have j:=a;obtain⟨p,L,r,u,s,g⟩:=a;exact⟨e l,by simp[ac,i,g],j,by simp[ac,i,g]⟩
theorem a0.hB(i:t.op=.nilCheck l){ah}(j:η l=ax (.O ah)):a0 P t η n (ax (.O ah)) n:=by refine .aZ λp e k d=>?_;have a:=d l;rw[j]at a;have b:=b6 a;generalize g:e l=o at b;cases b;exact⟨_,by simp[ac,i,g];rfl,by grind,by simp[ac,i,g]⟩
def X2(new):∀d a(b:Array Z),a+d+c new<=b.size ->
  ((new.zipIdx d).foldl (λb (g:Z×Nat)=>b.setIfInBounds (a+g.2) g.1) b).toList=b.toList.take (a+d)++new++b.toList.drop (a+d+c new):=by
 induction new with
 |nil=>simp
 |cons i B e=>
  intro d a b j;simp[List.zipIdx_cons,j7];rw[e (d+1) a _ M];have:=list_seg_step b.toList (a+d) i B M;simpa[Array.toList_setIfInBounds,Nat.add_assoc]using this
def ry(place:Nat->Option (Nat×Nat)):p (Nat×p O)->p O->Option (p O)
 |[],a=>h a
 |(e,new)::b,a=>match place e with
  |some (d,size)=>match af (c new) size with
   |true=>match iQ d new a with
    |some g=>ry place b g
    |none=>q
   |false=>q
  |none=>q
def x5{n}{b}{place vE:Nat->Option (Nat×Nat)}(z:∀x g,place x=h g->vE x=h g):∀{parts:p (Nat×p O)}{zu:p (Nat×Z)}{ah a':p O}{B:Array Z},
  ry place parts ah=h a'->zu.map (·.1)=parts.map (·.1)->(∀(t:Nat) g l,parts[t]?=h g->zu[t]?=h l->bM n b l.2.cells.toList g.2)->bM n b B.toList ah ->
  ∃s,Instr.fill vE B zu=h s/\bM n b s.toList a'
 |[],[],ah,a',B,e,_,_,o=>by cases e;exact⟨B,a,o⟩
 |[],_::_,ah,a',B,e,k,_,o=>by grind
 |_::_,[],ah,a',B,e,k,_,o=>by grind
 |(x,new)::j,(w,u)::i,ah,a',B,e,k,r,o=>by
  simp[mg,List.cons.injEq]at k;obtain⟨rfl,k⟩:=k;simp[ry]at e;cases y:place w with
  |none=>grind
  |some g=>
   obtain⟨d,size⟩:=g;simp[y]at e;cases C:af (c new) size with
   |false=>grind
   |true=>
    simp[C]at e;cases D:iQ d new ah with
    |none=>grind
    |some l=>
     simp[D]at e;have v:=r 0 (w,new) (w,u) a a;simp only at v;have R:=v.cM;have J:c new=size:=di C;obtain⟨k1,Q⟩:=bM.ff D o v;have N:=X2 u.cells.toList 0 d B M;have F:u.cells.size=size:=M;have K:d+size<=B.size:=M;obtain⟨s,I,A⟩:=x5 (n:=n) (b:=b) z (parts:=j) (zu:=i) (ah:=l) (a':=a')
      (B:=u.cells.zipIdx.foldl (λah (E:Z×Nat)=>ah.setIfInBounds (d+E.2) E.1) B) e k (λt g l I A=>r (t+1) g l M M) (by grind[Array.toList_zipIdx])
     refine⟨s,?_,A⟩;simp[Instr.fill,z _ _ y,F,d8,hn,oV,Bool.false_or,bA];grind
def tl(b:p (Nat×bv)):p Field->Option (p (Nat×Nat))
 |[]=>h []
 |d::a=>match bW b d.type with
  |some e=>match tl b a with
   |some g=>h ((d.offset,e.size)::g)
   |none=>q
  |none=>q
def K3{P}{ad}(aQ:bn P ad):∀{a:p Field}{e:p (Nat×Nat)},tl ad a=h e->a.mapM (λd=>(P.info? d.type).map λl=>(d.offset,l.size))=h e
 |[],e,b=>by cases b;simp
 |d::a,e,b=>by
  simp[tl]at b;cases i:bW ad d.type with
  |none=>grind
  |some o=>
   cases g:tl ad a with
   |none=>grind
   |some r=>
    simp[i,g]at b;subst b;obtain⟨n,s,k,j,_⟩:=(aQ _ _ i).c';simp[oY,k,j,K3 aQ g]
def pq(a:aA->z):p (Nat×aA)->Option (p (Nat×p O))
 |[]=>h []
 |(d,i)::g=>match mm (a i)with
  |some b=>match pq a g with
   |some e=>h ((d,b)::e)
   |none=>q
  |none=>q
def yK{n}{b}{d:aA->Z}{a:aA->z}(u:∀t,bx n b (d t) (a t)):∀{k:p (Nat×aA)}{g:p (Nat×p O)},pq a k=h g ->
  (k.map λ(j,i)=>(j,d i)).map (·.1)=g.map (·.1)/\∀(o:Nat) r s,g[o]?=h r->(k.map λ(j,i)=>(j,d i))[o]?=h s->bM n b s.2.cells.toList r.2
 |[],g,e=>by cases e;simp
 |(j,i)::y,g,e=>by
  simp[pq]at e;cases v:mm (a i)with
  |none=>grind
  |some w=>
   cases l:pq a y with
   |none=>grind
   |some x=>
    simp[v,l]at e;subst e;obtain⟨B,A⟩:=yK u l;grind[uN]
def xe(g:p (Nat×bv))(e:aA->z)(k:av)(parts:p (Nat×aA)):Option (p O):=
 match bW g k with
 |some i=>match i.desc with
  |.struct a=>match tl g a.toList with
   |some b=>match pq e parts with
    |some d=>ry (λj=>c6 j b) d (i.zero.map O.c)
    |none=>q
   |none=>q
  |_=>q
 |none=>q
theorem a0.build{P}{ad}(aQ:bn P ad){t}{d:aA->z}{n}{o}{parts}(y:t.op=.build o parts){ah}(e:xe ad d o parts.toList=h ah):a0 P t d n (.q (.agg ah)) n:=by
 refine .aZ λb s B l=>?_;unfold xe at e;cases a:bW ad o with
 |none=>grind
 |some j=>
  simp[a]at e;cases x:j.desc with
  |struct k=>
   simp[x]at e;cases w:tl ad k.toList with
   |none=>grind
   |some r=>
    simp[w]at e;cases v:pq d parts.toList with
    |none=>grind
    |some J=>
     simp[v]at e;obtain⟨S,V,I,T,N,E,K,U,Q⟩:=(aQ o j a).c';obtain⟨D,p⟩:=yK (n:=n) (b:=b) l v;obtain⟨g,M,F⟩:=x5 (n:=n) (b:=b) (vE:=λA=>r.toArray[A]?) (λA R C=>by grind[ei]) e D p (uh K);have i:P.built o (parts.map λ(j,O)=>(j,s O)).toList=h g:=by unfold Program.built;have u:=(aQ o j a).eM;rw[x]at u;simp[I,u,E,K3 aQ w];simpa using M
     refine⟨.agg g,?_,⟨g.toList,by simp,F⟩,?_⟩
     .simp only[ac,y,cI,run_build b.a o _ g i,c0,d6]
     simp[ac,y,aH,run_build b.a o _ g i,aJ,Sem.events_pure];exact dB.build b.a #[]
  |_=>grind
theorem ZU{i}(a:e<k)(d:w<i):e*i+w<k*i:=by have b:(e+1)*i<=k*i:=gV i y;grind
theorem ZT{i}(a:w<i):(e*i+w) / i=e:=by grind[Nat.mul_comm,Nat.mul_add_div,Nat.div_eq_of_lt]
theorem ZV{i}(a:w<i):(e*i+w) % i=w:=by rw[Nat.mul_comm,Nat.mul_add_mod,Nat.mod_eq_of_lt a]
def eW.nil{i}:eW bB i 0 T []:=⟨by simp,by omega,by omega⟩
def ce(b:Nat)(d e:Nat->p N):Nat->p N:=λa=>if a<b then d a else e (a-b)
def eW.append{i}{b:Nat->p N}{j}(g:eW bB i k T B)(o:eW bB i A b j):eW bB i (k+A) (ce k T b) (B++j):=by
 refine⟨by simp[g.len,o.len,jA],λe s=>?_,λe s l t a=>?_⟩
 .simp only[ce];split
  .rename_i n;exact g.bJ e n
  exact o.bJ _ y
 simp[ce]at a;split at a
 .rename_i n;obtain⟨u,r,d⟩:=g.rd e n l t a;grind
 rename_i w;obtain⟨u,r,d⟩:=o.rd _ y l t a;refine⟨u,?_,d⟩;have v:e*i+l=c B+((e-k)*i+l):=by rw[g.len,<-Nat.add_assoc,<-jA,Az y]
 grind
def eW.cell{bB}{i k}{d:Nat->p N}{B}(j:eW bB i k d B):∀g∈B,g.oneCell'=f:=by intro g o;obtain⟨a,r,rfl⟩:=hD o;rw[j.len]at r;have n:0<i:=M;have e:a / i<k:=si M;have t:a % i<i:=pZ _ n;have u:=j.bJ _ e;obtain⟨g,b,l⟩:=j.rd (a / i) e (a % i) ((d (a / i))[a % i]'y) (bI y);have s:a / i*i+a % i=a:=uo a i;rw[s]at b;rw[bI M]at b;simp at b;rw[b];have:=Rd.cell l;cases g<;>simp_all[dW,Value.oneCell']
def Rd.b3{o}{i}(C:Rd bB aa (.S o i k T)):
  ∃l b B,aa=.slice l k b/\k<=b/\b<=9223372036854775807/\(o=f->b=k)/\eW bB i k T B/\∀e v,B[e]?=h v->∃n d,l=h ⟨n,d,q⟩/\bB n (d+e)=h v:=by
 cases C with
 |@S l _ b _ _ _ n d z w s u j r t E=>
  refine⟨l,b,(aD (k*i)).map λe=>z (e / i) (e % i),a,w,s,u,⟨by simp,j,?_⟩,?_⟩
  .grind [ZU,ZT,ZV]
  intro e v p;simp[m7]at p;by_cases x:e<k*i
  .simp[x]at p;subst p;have A:0<i:=M;have g:e / i<k:=si M;have D:e % i<i:=pZ _ A;have F:=j _ g;have:=t (e / i) g (e % i) ((T (e / i))[e % i]'y) (bI y);refine⟨n,d,r (Nat.lt_of_le_of_lt (gX _) g),?_⟩;grind[Nat.div_add_mod']
  grind
def Rd.eG{i}(l:eW bB i k T B){x}{cap}{o}(v:0<k->x=h ⟨j,off,q⟩)(u:k<=cap)(r:cap<=9223372036854775807)(w:o=f->cap=k)(y:∀s t,B[s]?=h t->bB j (off+s)=h t):Rd bB (.slice x k cap) (.S o i k T):=by
 refine .S j off (λd e=>(B[d*i+e]?).getD K) u r w l.bJ v (λd a e g b=>?_) (λd a e g b=>?_)
 .obtain⟨aa,n,p⟩:=l.rd d a e g b;grind
 obtain⟨aa,n,p⟩:=l.rd d a e g b;grind
def oD(z:bb n b){o}{i}(v:Rd b.u aa (.S o i k T)):
  ∃B,eW b.u i k T B/\(Builtin.firstCells i k aa).run P b.a=.ok B.toArray b.a/\Builtin.lenOf aa=pure k:=by
 obtain⟨s,l,B,rfl,A,E,D,r,p⟩:=v.b3;refine⟨B,r,?_,a⟩;have w:c B=k*i:=r.len;cases s with
 |none=>
  have:B=[]:=by
   cases B with
   |nil=>rfl
   |cons j C=>obtain⟨t,d,g,_⟩:=p 0 j rfl;cases g
  subst this;rfl
 |some e=>
  simp[Builtin.firstCells];rw[<-w];refine run_loadCells_list b.a e B λx j u=>?_;obtain⟨t,d,g,y⟩:=p x j u;cases g;rw[gM];exact z.mem _ _ _ y
def a0.jf{ad}(aQ:bn P ad)(u:t.op=.index o l X){d}{w}{i}{e}(bp:bW ad o=h e)(ae:e.desc=.string)(E:η l=ax (.V d))(D:η X=ax (.int i w))(Jz:w=A)(z:A<c d):a0 P t η n (ax (.int .u8 (d[A]).toNat)) n:=by
 refine .aZ λb s v r=>?_;have g:=r l;have k:=r X;rw[E]at g;rw[D]at k;replace g:=b6 g;replace k:=b6 k;generalize x:s l=F at g;generalize I:s X=J at k;cases g with
 |@V a _ B y=>
 cases k;subst B;have C:a[A]?=h (a.data.toList[A]):=by have p:A<a.size:=dA;rw[getElem?_pos a A p];congr 1
 refine⟨.int .u8 (a.data.toList[A]).toNat,?_,Rd.int ?_,?_⟩
 rotate_left 2
 .exact Qx
 .exact Qx
 have:=(a.data.toList[A]).toNat_lt;exact nJ
def a0.indexAddr{ad}(aQ:bn P ad)(S:t.op=.indexAddr o l X){e a4}(C:bW ad o=h e)(O:e.desc=.slice W)(M:bW ad W=h a4){eP}{w}{i}(z:∀r K,bx n r K (η l)->Rd r.u K (.S eP a4.size k T))(N:η X=ax (.int i w))(D:w=A)(v:A<k):
  a0 P t η n (ax (.O (T A))) n:=by
 refine .aZ λr s V j=>?_;have d:=z r _ (j l);have a:=j X;rw[N]at a;replace a:=b6 a;generalize ab:s l=ag at d;generalize ae:s X=ah at a;cases a;cases d with
 |@S ai _ I _ _ _ F b R aj U Z Y B g p=>
 have aa:0<k:=y;have J:=(aQ o e C).run_underlying (Q:=r.a);rw[O]at J;refine⟨.pointer (h ⟨F,b+A*a4.size,q⟩),?_,Rd.O F (b+A*a4.size) (R A) (λE u x=>g A v E u x) (λE u x=>p A v E u x),?_⟩<;>
 simp[ac,S,ab,ae,Instr.indexAt,asIntOf,J,D,B aa,(aQ W a4 M).bf,gM,v]
def a0.jm{ad}(aQ:bn P ad)(u:t.op=.call {callee:=.builtin .len,args:=#[l],argTypes:=dn})(y:dn[0]?=h o){e}(b:bW ad o=h e)(s:e.desc=.slice W){eP}{i}(z:∀a p,bx n a p (η l)->Rd a.u p (.S eP i k T)):a0 P t η n (ax (.int .i64 k)) n:=by
 refine .aZ λa A w d=>?_;obtain⟨C,g,B,x,D,v,_⟩:=(z a _ (d l)).b3;have j:=(aQ o e b).run_underlying (Q:=a.a);rw[s]at j;have r:dn[0]?=h o:=y;refine⟨.int .i64 k,?_,Rd.int nJ,?_⟩<;>
 simp[ac,u,resolve,invoke,builtin,Builtin.len_,x,j,goInt,r]
theorem a0.jo{ad}(aQ:bn P ad)(v:t.op=.call {callee:=.builtin .len,args:=#[l],argTypes:=dn})(z:dn[0]?=h o){e}(b:bW ad o=h e)(u:e.desc=.string){d}(A:η l=ax (.V d)):a0 P t η n (ax (.int .i64 (c d))) n:=by
 refine .aZ λB j w g=>?_;have a:=g l;rw[A]at a;replace a:=b6 a;generalize p:j l=C at a;cases a with
 |@V i _ y x=>
 have k:=(aQ o e b).run_underlying (Q:=B.a);rw[u]at k;have r:dn[0]?=h o:=z;have s:i.size=c d:=by rw[<-y];simp
 refine⟨.int .i64 (c d),?_,Rd.int nJ,?_⟩<;>
 simp[ac,v,resolve,invoke,builtin,Builtin.len_,p,k,goInt,r,s]
def a5.newRow(a:a5)(e:av)(B:p Z):a5:=
 {m:=a.m,u:=λb d=>if b=a.a.heap.size then B[d]? else a.u b d,a:=a.a.alloc (.cells B.toArray e),own:=a.own}
def bb.newRow{n}{b}(i:bb n b)(W)(B):bb n (b.newRow W B)/\cN n b n (b.newRow W B):=by
 refine i.cY E (λg d=>iM _ _ d) (λg d k=>by grind) (λg d k l e=>?_) a a a;by_cases j:g=b.a.heap.size
 .simp_all
 simp[j,dh]at e;have:=i.block e;omega
def aaE(d:a5)(W)(B):∀a b,B[a]?=h b->(d.newRow W B).u d.a.heap.size (0+a)=h b:=by intro a b e;simpa[a5.newRow]using e
def h0:p O->Option (p N)
 |[]=>h []
 |.c e::d=>match h0 d with|some b=>h (e::b)|none=>q
 |.r _ g i a::d=>match h0 d with|some b=>h (.S m g i a::b)|none=>q
 |_::_=>q
def rr{n}{b}:∀{j:p O}{g:p N}{B:p Z},h0 j=h g->bM n b B j->bM n b B (g.map O.c)
 |[],g,B,a,e=>by cases a;exact e
 |_::_,_,[],_,e=>e.elim
 |.c s::d,g,k::B,a,e=>by
  simp[h0]at a;cases i:h0 d with
  |none=>grind
  |some r=>simp[i]at a;subst a;exact⟨e.1,rr i e.2⟩
 |.r l t u o::d,g,k::B,a,e=>by
  simp[h0]at a;cases i:h0 d with
  |none=>grind
  |some r=>simp[i]at a;subst a;exact⟨e.1.1,rr i e.2⟩
 |.ptr l v::d,g,k::B,a,e=>by simp[h0]at a
 |.aQ l::d,g,k::B,a,e=>by simp[h0]at a
 |.R l w::d,g,k::B,a,e=>by simp[h0]at a
 |.any::d,g,k::B,a,e=>by simp[h0]at a
def rp{a:Type}(b:Nat):Nat->p a->Option (p (p a))
 |0,[]=>h []
 |0,_::_=>q
 |g+1,d=>match mQ b d with
  |some e=>match rp b g (fQ b d)with
   |some i=>h (e::i)
   |none=>q
  |none=>q
def bM.eV:∀{B:p Z}{a:p N},bM n b B (a.map O.c)->∀(w:Nat)d,a[w]?=h d->∃e,B[w]?=h e/\Rd b.u e d:=by intro B a j w d k;obtain⟨e,g,i⟩:=j.get (w:=w) (x:=.c d) M;exact⟨e,g,i⟩
def BD{bB}{i}:∀{k:Nat}{b:p N}{d:p (p N)}{B:p Z},rp i k b=h d->c B=c b->(∀(l:Nat)e,b[l]?=h e->∃o,B[l]?=h o/\Rd bB o e)->c d=k/\eW bB i k (λj=>d.getD j []) B
 |0,[],d,B,g,n,s=>by cases g;simp at n;subst n;exact⟨a,.nil⟩
 |0,_::_,d,B,g,n,s=>by cases g
 |k+1,b,d,B,g,n,s=>by
  simp[rp]at g;cases u:mQ i b with
  |none=>grind
  |some e=>
   simp[u]at g;cases r:rp i k (fQ i b)with
   |none=>grind
   |some v=>
    simp[r]at g;subst g;obtain⟨D,t⟩:=tJ u;rw[ru]at r;obtain⟨E,z⟩:=BD (B:=B.drop i) r M (λl e C=>by
     obtain⟨o,D,t⟩:=s (i+l) e M
     exact⟨o,by grind,t⟩)
    refine⟨by grind,?_⟩;have y:i<=c b:=M;have A:eW bB i 1 (λ_=>e) (B.take i):=by refine⟨by grind,by grind,λj x l F C=>?_⟩;grind
    have:=A.append z;rw[Nat.add_comm 1 k]at this;have w:ce 1 (λ_=>e) (λj=>v.getD j [])=λj=>(e::v).getD j []:=by funext j;cases j<;>simp[ce]
    rw[w]at this;simpa using this
def rK(j:p (Nat×bv))(i:aA->z)(r:av)(e:Nat)(parts:p (Nat×aA)):Option (Nat×p (p N)):=
 match bW j r with
 |some l=>match l.desc with
  |.slice k=>match bW j k with
   |some a=>match af a.size 0 with
    |true=>q
    |false=>match ay (e*a.size) 16777216 with
     |true=>match pq i parts with
      |some g=>match ry (λn=>h (n*a.size,a.size)) g (aY (e*a.size) O.any)with
       |some b=>match h0 b with
        |some o=>match rp a.size e o with
         |some d=>h (a.size,d)
         |none=>q
        |none=>q
       |none=>q
      |none=>q
     |false=>q
   |none=>q
  |_=>q
 |none=>q
theorem a0.buildSlice{P}{ad}(aQ:bn P ad){t}{w:aA->z}{n}{o}{k}{parts}(u:t.op=.buildSlice o k parts){i}{T}(e:rK ad w o k parts.toList=h (i,T)):a0 P t w n (ax (.S f i k λv=>T.getD v [])) n:=by
 intro b r R U;unfold rK at e;cases A:bW ad o with
 |none=>grind
 |some v=>
  simp[A]at e;cases ah:v.desc with
  |slice s=>
   simp[ah]at e;cases D:bW ad s with
   |none=>grind
   |some d=>
    simp[D]at e;cases V:af d.size 0 with
    |true=>grind
    |false=>
     simp[V]at e;cases G:ay (k*d.size) 16777216 with
     |false=>grind
     |true=>
      simp[G]at e;cases az:pq w parts.toList with
      |none=>grind
      |some aa=>
       simp[az]at e;cases aw:ry (λi=>h (i*d.size,d.size)) aa (aY (k*d.size) O.any)with
       |none=>grind
       |some I=>
        simp[aw]at e;cases H:h0 I with
        |none=>grind
        |some aI=>
         simp[H]at e;cases ag:rp d.size k aI with
         |none=>grind
         |some an=>
          simp only[ag,eR,lD]at e;obtain⟨rfl,rfl⟩:=e;have aT:d.size≠0:=λak=>by simp_all
          have aS:=e' G;obtain⟨av,l,Na,aN,aO,a,bq,aP,aR⟩:=(aQ s d D).c';have au:l.cells.size=d.size:=Nv;have aq:∀g∈l.cells.toList,dW g=f:=by intro g L;have aj:lE g∈l.cells.toList.map lE:=k2.2 ⟨g,L,rfl⟩;rw[bq]at aj;obtain⟨aU,_,N⟩:=k2.1 aj;exact(Rd.fp (bB:=b.u) N.symm).cell
          have aL:∀aH,(∀g∈(aD aH).map (λC=>l.cells[C % l.cells.size]!),dW g=f):=by grind[Nat.mod_lt]
          have aB:∀B:p Z,(∀g∈B,dW g=f)->bM n b B (aY (c B) O.any):=by
           intro B;induction B with
           |nil=>intro _;trivial
           |cons g B W=>intro L;exact⟨L g E,W λaJ ar=>L aJ M⟩
          obtain⟨X,Y⟩:=yK (n:=n) (b:=b) U az;have aE:bM n b ((Array.range (k*d.size)).map (λC=>l.cells[C % l.cells.size]!)).toList (aY (k*d.size) O.any):=by have:=aB _ (aL (k*d.size));simpa using this
          obtain⟨x,aK,ab⟩:=x5 (n:=n) (b:=b) (vE:=λi=>h (i*d.size,d.size)) (λi aV S=>S) aw X Y aE;have nD:=rr H ab;obtain⟨aG,F⟩:=BD (bB:=b.u) (B:=x.toList) ag (by simpa using nD.cM) nD.eV;obtain⟨K,ai⟩:=R.newRow s x.toList;refine⟨.value (.slice (h ⟨b.a.heap.size,0,q⟩) k k),b.newRow s x.toList,?_,?_,K,ai,?_⟩
          rotate_left 2
          .have ak:(ac r t).events P b.a #[]=#[]:=QT;rw[ak];exact .nil
          .have ar:=(aQ o v A).run_underlying (Q:=b.a);rw[ah]at ar;have aC:(zeroValue s).run P b.a=.ok l b.a:=Nx;have J:Instr.fill (λi=>h (i*d.size,d.size)) ((Array.range (k*d.size)).map (λC=>l.cells[C % l.cells.size]!)) (parts.map λ(v,ae)=>(v,r ae)).toList=h x:=bw;by_cases aF:k*d.size=0
           .have aM:k=0:=by grind[Nat.mul_eq_zero]
            subst aM;have ao:Array.range 0=#[]:=rfl;simp[ao]at J;simp[ac,u,Instr.buildSlice,ar,(aQ s d D).bf,ao,J,Go.newRow,a5.newRow]
           rw[show ac r t=(do pure (.value (<-Instr.buildSlice o k (parts.map λ(v,ae)=>(v,r ae))))) by simp[ac,u]];simp only[Instr.buildSlice,cI,ar,c0,(aQ s d D).bf,aF,dh,aC,show¬k*d.size>2 ^ 24 by omega,sw,J,d6];simp[Go.newRow,a5.newRow]
          refine Rd.eG (F.mono ai.mem) (j:=b.a.heap.size) (off:=0) bl (bC _) ?_ bl (aaE b s x.toList);have:k<=k*d.size:=um k y;omega
  |_=>grind
def fh.trans{n aL a}{b j b2}(k:fh n b aL j)(l:fh aL j a b2):fh n b a b2:=by refine⟨λy z A t=>l.mem _ _ _ (k.mem _ _ _ t),λo p L aE i=>?_⟩;obtain⟨w,d,e,g,v⟩:=k.box o p L aE i;obtain⟨x,u,k1,r,s⟩:=l.box o w d e g;exact⟨x,u,k1,r,v.trans s⟩
def rA{a:p α}{d b:α}{e}(g:(a++[d])[e]?=h b):a[e]?=h b∨(e=c a/\b=d):=M
def bb.b0{k}(e:bb n k)(g:cN n b n k)(N:k.m=b.m)(r:bb n b){bU}{L}(aE:ep (n++[bU]) {k with m:=k.m++[L]} bU L)(D:∀j∈L.al,b.a.heap.size<=j/\j<k.a.heap.size):bb (n++[bU]) {k with m:=k.m++[L]}/\cN n b (n++[bU]) {k with m:=k.m++[L]}:=by
 have u:fh n k (n++[bU]) {k with m:=k.m++[L]}:=by refine⟨λ_ _ _ I=>I,λy p i l d=>?_⟩;have x:=(cO.1 d).1;have K:=(cO.1 l).1;exact⟨p,i,by grind,by grind,.refl _ _⟩
 have B:=g.ext.trans u;refine⟨⟨e.mem,by simp[e.len],?_,?_,?_,?_⟩,⟨g.size,g.a6,g.mem,g.bF,?_,B.box,g.os,g.tape,g.output,g.own⟩⟩
 .intro y p i l d;rcases rA l with F|⟨rfl,rfl⟩
  .have x:y<c k.m:=by rw[e.len];grind
   rw[ky x]at d;exact(e.box y p i F d).cd u e.len λ_ _=>⟨a,λ_=>rfl⟩
  rcases rA d with A|⟨_,rfl⟩
  .have:=(cO.1 A).1;rw[e.len]at this;omega
  grind
 .intro y C s t A w j cT o;rcases rA A with k1|⟨rfl,rfl⟩<;>rcases rA w with J|⟨rfl,rfl⟩
  .exact e.a3 y C s t k1 J j cT o
  .have jw:=D j o;have z:=r.lt s M j cT;omega
  .have jw:=D j cT;have z:=r.lt t M j o;omega
  simp
 .intro i d j cT;simp[gk,gW]at d;rcases d with d|rfl
  .exact e.lt i d j cT
  grind
 .intro j cT;refine⟨(e.own j cT).1,λi d v=>?_⟩;simp[gk,gW]at d;rcases d with d|rfl
  .exact(e.own j cT).2 i d v
  have E:=g.own;simp only at cT;rw[E]at cT;have:=(r.own j cT).1;grind
 grind
def bb.b9{cd}(l:bb n b){E d'}{L cm}(U:n[d]?=h E)(I:b.m[d]?=h L)(z:fD E L d' cm)(T:b.a.heap.size<=bh.heap.size)(R:∀e,e<b.a.heap.size->e∉L.al->bh.heap[e]?=b.a.heap[e]?)(V:∀e,e<b.a.heap.size->e∉L.al->∀s,cd e s=b.u e s)(F:∀e s v,b.u e s=h v->cd e s=h v)(K:∀e s v,cd e s=h v->bh.cell? ⟨e,s,q⟩=h v)(Z:∀e∈cm.al,(e∈L.al∨b.a.heap.size<=e)/\e<bh.heap.size)(D:bh.os=b.a.os)(O:bh.tape=b.a.tape)(N:bh.output=b.a.output)(aE:ep (n.set d d') ⟨b.m.set d cm,cd,bh,b.own⟩ d' cm):bb (n.set d d') ⟨b.m.set d cm,cd,bh,b.own⟩/\cN n b (n.set d d') ⟨b.m.set d cm,cd,bh,b.own⟩:=by
 have W:=(cO.1 U).1;have Y:=(cO.1 I).1;have x:∀g i,(b.m.set d cm)[g]?=h i->(g=d/\i=cm)∨(g≠d/\b.m[g]?=h i):=M;have t:fh n b (n.set d d') ⟨b.m.set d cm,cd,bh,b.own⟩:=by
  refine⟨F,λg i w r y=>?_⟩;by_cases B:d=g
  .grind
  exact⟨i,w,by grind,by grind,.refl _ _⟩
 have J:∀g i,g≠d->b.m[g]?=h i->∀e∈i.al,e<b.a.heap.size/\e∉L.al:=by intro g i p r e j;exact⟨l.lt i (b8 r) e j,λS=>p (l.a3 g d i L r I e j S)⟩
 refine⟨⟨K,by simp[l.len],?_,?_,?_,?_⟩,⟨T,?_,F,?_,?_,t.box,D,O,N,a⟩⟩
 .intro g i w r y;rcases x g w y with⟨rfl,rfl⟩|⟨p,y⟩
  .grind
  rw[kA (λB=>p B.symm)]at r;refine(l.box g i w r y).cd t l.len λe j=>?_;grind
 .intro g X i o r C e j u;rcases x g i r with⟨rfl,rfl⟩|⟨p,A⟩<;>rcases x X o C with⟨rfl,rfl⟩|⟨k,Q⟩
  .rfl
  .grind
  .grind
  exact l.a3 g X i o A Q e j u
 .intro i r e j;obtain⟨g,p,rfl⟩:=hD r;rcases x g _ (bI p)with⟨rfl,B⟩|⟨k,C⟩
  .grind
  grind
 .intro e j;obtain⟨H,G⟩:=l.own e j;grind
 .grind
 .grind
 grind
def Kq{a old bytes}(d:old<a)(b:a*bytes<=140737488355328):¬Builtin.nextslicecap a old*bytes>2 ^ 48:=by have:=growslice_fits d b;omega
section
variable {ad:p (Nat×bv)}(aQ:bn P ad){I:av}{e cc a4:bv}
def yW(d:dO P o e)(y:e.desc=.slice W)(v:dO P I cc)(u:cc.desc=.slice W)(z:dO P W a4)(C:bb n b){x}{cap}(t:k<=cap){l}{g}{a:Nat->p N}(r:Rd b.u l (.S g a4.size 0 a)):
  (Builtin.append_ #[o,I] ty #[.slice x k cap,l]).run P b.a=.ok (.slice x k cap) b.a:=by obtain⟨E,D,A,J⟩:=oD (P:=P) C r;have j:=d.run_underlying (Q:=b.a);have i:=v.run_underlying (Q:=b.a);rw[y]at j;rw[u]at i;obtain⟨s,F,B,rfl,_⟩:=r.b3;have w:=jy (by simpa using D.len);subst w;cases x<;>simp[Builtin.append_,j,i,z.bf,Builtin.lenOf,t,A,storeCells]
def vL(w:dO P o e)(ae:e.desc=.slice W)(aw:dO P I cc)(av:cc.desc=.slice W)(L:dO P W a4)(ak:bb n b){r}{cap}{aj D}{g:Nat->p N}{l}(x:Rd b.u (.slice r k cap) (.S aj a4.size k T))(C:Rd b.u l (.S D a4.size A g))(ah:cap<k+A)(F:(k+A)*a4.bytes<=140737488355328)(z:a4.bytes≠0):
  ∃B j d,eW b.u a4.size (k+A) (ce k T g) B/\k+A<=d/\d<=9223372036854775807/\c (B++j)=d*a4.size /\
   (Builtin.append_ #[o,I] ty #[.slice r k cap,l]).run P b.a=.ok (.slice (h ⟨b.a.heap.size,0,q⟩) (k+A) d) (b.a.drew.alloc (.cells (B++j).toArray W)):=by
 have ab:bb n {b with a:=b.a.drew}:=ak.same rfl;obtain⟨t,K,u,ar⟩:=oD (P:=P) ab (aa:=l) C;obtain⟨s,X,v,V⟩:=oD (P:=P) ab (aa:=.slice r k cap) x;have R:=w.run_underlying (Q:=b.a);have S:=aw.run_underlying (Q:=b.a);rw[ae]at R;rw[av]at S;obtain⟨Y,E,J,ax,az,ai,ag,aA,aB⟩:=L.c';have U:=fF (um _ (Nat.pos_of_ne_zero z)) F;have H:E.cells.size=a4.size:=by have:=eI List.length ag;grind
 refine⟨s++t,(Builtin.zeroCells E.cells (grownCap b.a (k+A) cap W-(k+A))).toList,grownCap b.a (k+A) cap W,X.append K,grownCap_ge _ _ _ _,?_,?_,?_⟩
 .have:=grownCap_le_maxLen b.a (k+A) cap W (by unfold maxLen;omega);unfold maxLen at this;omega
 .have aM:=grownCap_ge b.a (k+A) cap W;simp[dm,X.len,K.len,m5,size_zeroCells,H,<-jA];grind
 .have aC:=Kq ah F;have au:¬Builtin.nextslicecap (k+A) cap*Y.bytes>2 ^ 48:=M;have aq:¬k+A<=cap:=y;have O:¬((k+A:Nat):Int)>IntKind.i64.max:=bw;have G:∀i,(typeInfo W).run P i=.ok Y i:=λi=>by simp[typeInfo,J]
  have ad:∀i,(zeroValue W).run P i=.ok E i:=λi=>by simp[zeroValue,typeInfo,J,ai]
  have ao:(Builtin.lenOf l).run P b.a=.ok A b.a:=by rw[ar];rfl
  replace u:(Builtin.firstCells a4.size A l).run P b.a.drew=.ok t.toArray b.a.drew:=u;replace v:(Builtin.firstCells a4.size k (.slice r k cap)).run P b.a.drew=.ok s.toArray b.a.drew:=v
  unfold Builtin.append_;simp only[j4,m4,nY,cI,R,S,c0,L.bf,d6,j6,dh,ao,aq,
   O,false_and,G,au,run_choose,Question.forced,run_askRoom,sw,World.drew_eq,v,u,il,dH,ad]
  simp[Go.newRow,grownCap];have an:∀a:Array Z,(s++t).toArray++a=(s++(t++a.toList)).toArray:=λa=>by grind
  rw[an];rfl
def DN(g:dO P o e)(F:e.desc=.slice W)(E:dO P I cc)(D:cc.desc=.slice W)(J:dO P W a4)(y:bb n b){cap}{w}{s}(K:b.a.heap[j]?=h (.cells s.toArray w (0,0)))(C:c s=cap*a4.size){r}{a:Nat->p N}{l}(z:Rd b.u l (.S r a4.size A a))(v:k+A<=cap):
  ∃d,eW b.u a4.size A a d/\(Builtin.append_ #[o,I] ty #[.slice (h ⟨j,0,q⟩) k cap,l]).run P b.a=.ok (.slice (h ⟨j,0,q⟩) (k+A) cap) (b.a.setRow j (s.take (k*a4.size)++d++s.drop (k*a4.size+c d)).toArray):=by
 obtain⟨d,i,O,R⟩:=oD (P:=P) y z;have x:=g.run_underlying (Q:=b.a);have t:=E.run_underlying (Q:=b.a);rw[F]at x;rw[D]at t;have S:k*a4.size+c d<=c s:=by rw[i.len,C,<-jA];exact gV _ v
 have u:=run_storeCells_at P j (k*a4.size) w d 0 s.toArray b.a K M i.cell;simp[j9]at u;have B:(Builtin.lenOf l).run P b.a=.ok A b.a:=dA;refine⟨d,i,?_⟩;unfold Builtin.append_;simp[j4,m4,nY,cI,x,t,c0,J.bf,d6,j6,dh,B,v,dH,il,O,gM,cV,u]
end
def C'{d:Sem α}{b}{T}{a}(e:a∈d.events P b T):a∈T∨a∈d.events P b #[]:=by grind[Sem.events_acc]
def Lr(e:a5)(d:aU):Prop:=∃a b g,d=ps a b/\e.u a b=h g
def sS(I:bb n b){o}{i}(x:Rd b.u aa (.S o i k T)){Q}(E:Q.heap=b.a.heap):
  ∀u∈(Builtin.firstCells i k aa).events P Q #[],Lr b u:=by
 obtain⟨C,w,B,rfl,S,R,M,A,F⟩:=x.b3;have N:=A.len;intro u j;cases C with
 |none=>simp[Builtin.firstCells]at j
 |some s=>
  simp[Builtin.firstCells]at j;have t:∀e,e<k*i->∃g d l,s=⟨g,d,q⟩/\b.u g (d+e)=h l:=by intro e p;obtain⟨g,d,z,r⟩:=F e (B[e]'y) (bI y);grind
  by_cases J:k*i=0
  .rw[J]at j;simp[loadCells,loadCellsFrom]at j
  obtain⟨g,d,_,rfl,_⟩:=t 0 y;have O:∀e,e<k*i->∃aa,Q.cell? ⟨g,d+e,q⟩=h aa:=by intro e p;obtain⟨K,D,l,v,r⟩:=t e p;cases v;have:=I.mem _ _ _ r;exact⟨l,by simp[aN,E]at this⊢;omega⟩
  rcases IB (P:=P) O u j with x|⟨e,p,rfl⟩
  .grind
  obtain⟨K,D,l,v,r⟩:=t e p;cases v;exact⟨_,_,l,a,r⟩
theorem tq{a}(e:Lr b a):h1 b a:=by obtain⟨g,i,j,rfl,d⟩:=e;exact Ic d
section
variable {I:av}{e cc a4:bv}
def xU(g:dO P o e)(D:e.desc=.slice W)(z:dO P I cc)(y:cc.desc=.slice W)(E:dO P W a4)(t:bb n b){r}{cap}(w:k<=cap){l}{j}{d:Nat->p N}(i:Rd b.u l (.S j a4.size 0 d)):
  ds b ((Builtin.append_ #[o,I] ty #[.slice r k cap,l]).events P b.a #[]):=by obtain⟨M,K,F,R⟩:=oD (P:=P) t i;have C:=sS (P:=P) t i (Q:=b.a) a;have u:=g.run_underlying (Q:=b.a);have s:=z.run_underlying (Q:=b.a);rw[D]at u;rw[y]at s;obtain⟨v,O,B,rfl,_⟩:=i.b3;have A:=jy (by simpa using K.len);subst A;intro x J;refine tq (C x ?_);cases r<;>simpa[Builtin.append_,u,s,E.bf,Builtin.lenOf,w,F,storeCells]using J
def uW(x:dO P o e)(aj:e.desc=.slice W)(G:dO P I cc)(z:cc.desc=.slice W)(K:dO P W a4)(u:bb n b){j}{cap}{B C}{s:Nat->p N}{l}(U:Rd b.u (.slice j k cap) (.S B a4.size k T))(S:Rd b.u l (.S C a4.size A s))(ak:cap<k+A)(J:(k+A)*a4.bytes<=140737488355328)(ah:a4.bytes≠0):
  ds b ((Builtin.append_ #[o,I] ty #[.slice j k cap,l]).events P b.a #[]):=by
 have F:bb n {b with a:=b.a.drew}:=u.same rfl;obtain⟨az,aq,t,V⟩:=oD (P:=P) F (aa:=l) S;obtain⟨av,X,v,ab⟩:=oD (P:=P) F (aa:=.slice j k cap) U;have Y:=sS (P:=P) u S (Q:=b.a.drew) a;have aI:=sS (P:=P) u U (Q:=b.a.drew) a;have R:=x.run_underlying (Q:=b.a);have ae:=G.run_underlying (Q:=b.a);rw[aj]at R;rw[z]at ae;obtain⟨w,aA,aM,aB,aC,E,aE,aF,aG⟩:=K.c';have Z:=fF (um _ (Nat.pos_of_ne_zero ah)) J;have ad:=Kq ak J;have O:¬Builtin.nextslicecap (k+A) cap*w.bytes>2 ^ 48:=M;have aw:¬k+A<=cap:=y;have H:¬((k+A:Nat):Int)>IntKind.i64.max:=bw;have ai:∀g,(typeInfo W).run P g=.ok w g:=λg=>by simp[typeInfo,aM]
 have L:∀g,(zeroValue W).run P g=.ok aA g:=λg=>by simp[zeroValue,typeInfo,aM,E]
 have an:(Builtin.lenOf l).run P b.a=.ok A b.a:=by rw[V];rfl
 have ar:(Builtin.lenOf l).events P b.a #[]=#[]:=by rw[V];rfl
 replace t:(Builtin.firstCells a4.size A l).run P b.a.drew=.ok az.toArray b.a.drew:=t;replace v:(Builtin.firstCells a4.size k (.slice j k cap)).run P b.a.drew=.ok av.toArray b.a.drew:=v
 intro r i;unfold Builtin.append_ at i;simp only[j4,m4,nY,aH,cI,R,ae,c0,aJ,K.bf,d6,j6,dh,an,ar,aw,
  H,false_and,ai,O,run_choose,Question.forced,run_askRoom,sw,Sem.events_ite,World.drew_eq,v,t,il,dH,L,events_underlying,events_sizeOf,events_typeInfo,events_choose,events_zeroValue,Sem.events_pure]at i
 have ag:∀(l:Nat) (Q:au) (r:aU),r∈(askRoom l).events P Q #[]->r=⟨.mark .noRoom,m,f⟩:=by intro l Q r ao;unfold askRoom at ao;simp_all
 rw[dB.newRow (P:=P)]at i;generalize(Go.newRow W _).run P b.a.drew=ax at i;have d:r∈(Builtin.firstCells a4.size A l).events P b.a.drew ((Builtin.firstCells a4.size k (.slice j k cap)).events P b.a.drew ((askRoom ((Question.appendCap (k+A) cap W).cut (b.a.tape b.a.drawn (Question.appendCap (k+A) cap W))*w.bytes)).events P b.a.drew #[])):=by
  cases ax with
  |ok aa D=>simpa using i
  |halt aa D=>simpa using i
 rcases C' d with d|d
 .rcases C' d with d|d
  .rw[ag _ _ _ d];exact .inl a
  grind[tq]
 grind[tq]
def B7(i:dO P o e)(y:e.desc=.slice W)(K:dO P I cc)(J:cc.desc=.slice W)(B:dO P W a4)(G:bb n b){cap}{O}{d}(z:b.a.heap[j]?=h (.cells d.toArray O (0,0)))(F:c d=cap*a4.size){r2}{dI:Nat->p N}{l}(t:Rd b.u l (.S r2 a4.size A dI))(x:k+A<=cap){L}(Y:L∈b.m)(U:j∈L.al)(ab:∀w,k*a4.size<=w->b.u j w=q):
  ds b ((Builtin.append_ #[o,I] ty #[.slice (h ⟨j,0,q⟩) k cap,l]).events P b.a #[]):=by
 obtain⟨g,r,aM,R⟩:=oD (P:=P) G t;have T:=sS (P:=P) G t (Q:=b.a) a;have H:=i.run_underlying (Q:=b.a);have u:=K.run_underlying (Q:=b.a);rw[y]at H;rw[J]at u;have S:k*a4.size+c g<=c d:=by rw[r.len,F,<-jA];exact gV _ x
 have v:=run_storeCells_at P j (k*a4.size) O g 0 d.toArray b.a z M r.cell;simp[j9]at v;have D:(Builtin.lenOf l).run P b.a=.ok A b.a:=dA;have E:(Builtin.lenOf l).events P b.a #[]=#[]:=dA
 intro C s;unfold Builtin.append_ at s;simp[j4,m4,nY,aH,cI,H,u,aJ,B.bf,d6,j6,dh,D,E,x,dH,il,aM,gM,cV,v,
  sw,Sem.events_ite,events_underlying,events_sizeOf,Sem.events_pure]at s
 rcases nc g 0 d.toArray b.a _ z M r.cell C s with Z|⟨aa,X,V,rfl⟩
 .grind [tq]
 grind[ob]
end
structure j1(P:aI)(t:ap)(l X:aA)(W:av)(a4:bv):Prop where
 op:∃o I e cc,t.op=.call {callee:=.builtin .append,args:=#[l,X],argTypes:=#[o,I]}/\dO P o e/\e.desc=.slice W/\dO P I cc/\cc.desc=.slice W
 elem:dO P W a4
 bytes:a4.bytes≠0
 size:a4.size≠0
def a5.dC(a:a5)(i:av)(B b:p Z)(d:p Loc):a5:=
 {m:=d,u:=λe g=>if e=a.a.heap.size then B[g]? else a.u e g,a:=a.a.drew.alloc (.cells (B++b).toArray i),own:=a.own}
def Jq(k:bb n b)(W)(B a:p Z):∀d e i,(if d=b.a.heap.size then B[e]? else b.u d e)=h i->(b.a.drew.alloc (.cells (B++a).toArray W)).cell? ⟨d,e,q⟩=h i:=by
 intro d e i g;by_cases j:d=b.a.heap.size
 .subst j;simp[dH]at g;unfold aN;have:(b.a.drew.alloc (.cells (B++a).toArray W)).heap[b.a.heap.size]?=h (.cells (B++a).toArray W):=lT b.a.drew _;grind
 simp[j,dh]at g;have l:=k.block g;rw[<-k.mem d e i g];unfold aN;have:(b.a.drew.alloc (.cells (B++a).toArray W)).heap[d]?=b.a.heap[d]?:=iM b.a.drew _ l;grind
def Jr(i:bb n b)(B:p Z):∀a d e,b.u a d=h e->(if a=b.a.heap.size then B[d]? else b.u a d)=h e:=by intro a d e g;have:=i.block g;grind
theorem jh{A}(a:ds b (A.events P b.a #[])):ds b ((do pure (.value (<-A)):Sem Next).events P b.a #[]):=dA
theorem la{I}(u:t.op=.call {callee:=.builtin .append,args:=#[l,X],argTypes:=#[o,I]})(a:aA->Z):
  ac a t=(do pure (.value (<-Builtin.append_ #[o,I] t.type #[a l,a X]))):=Rb
def Rd.ef{o}{i}(r:Rd bB aa (.S o i k T)):Rd bB aa (.S m i k T):=by
 cases r with
 |S n a p l d s e b g j=>exact .S n a p l d E e b g j
def Rd.cB{o}{i}{dI:Nat->p N}(z:∀b,b<k->T b=dI b)(x:Rd bB aa (.S o i k T)):Rd bB aa (.S o i k dI):=by
 cases x with
 |S v d w u j s y g n r=>exact .S v d w u j s (λb a=>by grind) g (λb a t e l=>n b a t e M) (λb a t e l=>r b a t e M)
def Rd.fT{i f_}(a:i=f_∨k=0)(d:Rd bB aa (.S f i k T)):Rd bB aa (.S f f_ k T):=by
 rcases a with rfl|rfl
 .exact d
 obtain⟨e,b,B,j,l,g,n,_⟩:=d.b3;grind[Rd.dH]
def tp{i}{L}(aE:n[d]?=h (.r W i k T))(o:b.m[d]?=h L)(e:ep n b (.r W i k T) L):cw n b L.v (.r d i k T):=by refine⟨e.1,(cO.1 aE).1,λp j l a g=>?_⟩;grind
def a0.fZ{e:bv}(u:j1 P t l X W e){aa:Nat}{Y:Bool}{dI:Nat->p N}(an:η l=ax (.S f aa k T))(S:aa=e.size∨k=0)(ak:∀d K,bx n d K (η X)->Rd d.u K (.S Y e.size A dI))(g:(k+A)*e.bytes<=140737488355328)(aq:k=0∨0<A):
  a0 P t η n (.q (.aq (.r (c n) e.size (k+A) (ce k T dI)))) (n++[.r W e.size (k+A) (ce k T dI)]):=by
 intro d av bO F;obtain⟨aB,az,ar,au,v,i,G,J,I⟩:=u.op;have C:=F l;rw[an]at C;have r:=Rd.fT S (b6 C);have o:=ak d _ (F X);obtain⟨x,b,B,ao,ab,aM,ah,aw,D⟩:=r.b3;have H:b=k:=ah a;subst H;rw[la v];rw[ao]at r⊢;by_cases ai:A=0
 .subst ai;have V:=yW (P:=P) (ty:=t.type) i G J I u.elem bO (x:=x) ab o;simp only[j9];have r:=Rd.cB (dI:=ce b T dI) (λar i=>by grind) r;have aE:ep (n++[.r W e.size b (ce b T dI)]) {d with m:=d.m++[⟨.slice x b b,[]⟩]} (.r W e.size b (ce b T dI)) ⟨.slice x b b,[]⟩:=⟨r.ef,.inl ⟨⟨rfl,by omega⟩,r⟩⟩
  obtain⟨R,Q⟩:=bO.b0 (.refl _ _) rfl bO aE E;refine⟨.value (.slice x b b),_,?_,?_,R,Q,jh (xU i G J I u.elem bO ab o)⟩
  .simp[V]
  exact tp E tX aE
 have Z:b<b+A:=y;obtain⟨s,O,w,z,ae,L,ad,V⟩:=vL (P:=P) (ty:=t.type) i G J I u.elem bO r o Z g u.bytes;have M:bb n (d.dC W s O d.m)/\cN n d n (d.dC W s O d.m):=
  bO.cY E (λj g=>iM d.a.drew _ g) (λj g t=>by grind)
   (λj g t K D=>Jq bO W s O j t K D) a a a
 have ag:Rd (d.dC W s O d.m).u (.slice (h ⟨d.a.heap.size,0,q⟩) (b+A) w) (.S m e.size (b+A) (ce b T dI)):=
  Rd.eG (z.mono M.2.mem) (j:=d.a.heap.size) (off:=0) bl ae L E (λaA aC aj=>by simpa[a5.dC]using aj)
 have aE:ep (n++[.r W e.size (b+A) (ce b T dI)]) {(d.dC W s O d.m)with m:=(d.dC W s O d.m).m++[⟨.slice (h ⟨d.a.heap.size,0,q⟩) (b+A) w,[d.a.heap.size]⟩]} (.r W e.size (b+A) (ce b T dI)) ⟨.slice (h ⟨d.a.heap.size,0,q⟩) (b+A) w,[d.a.heap.size]⟩:=by
  refine⟨ag,.inr ⟨d.a.heap.size,w,s++O,a,lT d.a.drew _,ad,λt v=>?_⟩⟩;have U:c s<=t:=by rw[z.len];exact v
  simp[a5.dC,wN U]
 obtain⟨R,Q⟩:=M.1.b0 M.2 rfl bO aE (λj g=>by simp at g;subst g;refine⟨bC _,?_⟩;simp[a5.dC]);refine⟨.value (.slice (h ⟨d.a.heap.size,0,q⟩) (b+A) w),_,?_,?_,R,Q,jh (uW i G J I u.elem bO r o Z g u.bytes)⟩
 .simp[V];rfl
 exact tp E (by simp[a5.dC,<-bO.len]) aE
def a0.ib{a4}(C:j1 P t l X W a4){aS}{g:Nat->p N}(aQ:η l=.q (.aq (.r d a4.size k T)))(u:n[d]?=h (.r W a4.size k T))(aR:∀o U,bx n o U (η X)->Rd o.u U (.S aS a4.size A g))(r:(k+A)*a4.bytes<=140737488355328):
  a0 P t η n (.q (.aq (.r d a4.size (k+A) (ce k T g)))) (n.set d (.r W a4.size (k+A) (ce k T g))):=by
 intro o bd b aq;obtain⟨bg,bf,ar,bc,w,s,ab,G,z⟩:=C.op;have aL:d<c n:=(cO.1 u).1;have ae:=aq l;rw[aQ]at ae;obtain⟨aw,_,ag⟩:=ae;obtain⟨L,K,bb⟩:=(ag _ _ _ _ u).2 rfl;have v:=aR o _ (aq X);have aK:d<c o.m:=(cO.1 K).1;have H:=b.box d _ L u K;obtain⟨x,e,B,S,aM,aj,ba,ah,a'⟩:=aw.b3;rw[la w,S];rw[S]at aw;have ax:L.v=.slice x k e:=M;by_cases aH:A=0
 .subst aH;have av:=yW (P:=P) (ty:=t.type) s ab G z C.elem b (x:=x) aM v;simp only[j9];have ai:∀ar,ar<k->T ar=ce k T g ar:=λar s=>by simp[ce,s]
  have R:ep (n.set d (.r W a4.size k (ce k T g))) ⟨o.m.set d L,o.u,o.a,o.own⟩ (.r W a4.size k (ce k T g)) L:=by
   refine⟨H.1.cB ai,?_⟩;rcases H.2 with⟨J,aI⟩|J
   .exact .inl ⟨J,aI.cB ai⟩
   grind
  have I:=b.b9 (cd:=o.u) (bh:=o.a) (d':=.r W a4.size k (ce k T g)) (cm:=L) u K ⟨λ_=>rfl,bC _⟩ (bC _) (λ_ _ _=>rfl) (λ_ _ _ _=>rfl) (λ_ _ _ C=>C) b.mem
   (λj r=>⟨.inl r,b.lt L (b8 K) j r⟩) a a a R
  refine⟨.value (.slice x k e),_,?_,?_,I.1,I.2,jh (xU s ab G z C.elem b aM v)⟩
  .simp[av]
  rw[<-ax];exact tp (W:=W) M M R
 .have F:¬(k+A=k):=y;by_cases aA:k+A<=e
  .rcases H.2 with⟨aX,aT⟩|⟨j,aG,i,rfl,hw,aE,bq⟩
   .rw[ax]at aT;obtain⟨_,_,_,az,_,_,a6,_⟩:=aT.b3;grind
   .simp only at ax;cases ax;obtain⟨D,Q,av⟩:=DN (P:=P) (ty:=t.type) s ab G z C.elem b hw aE v aA;have a3:c D=A*a4.size:=Q.len;have aJ:j<o.a.heap.size:=(i_.1 hw).1;let cd:Mem:=λO t=>if O=j/\k*a4.size<=t/\t<(k+A)*a4.size then D[t-k*a4.size]? else o.u O t;have aZ:c i=e*a4.size:=aE;have a5:(k+A)*a4.size=k*a4.size+A*a4.size:=jA _ _ _;have a2:(k+A)*a4.size<=e*a4.size:=gV _ aA;have aV:∀O t U,o.u O t=h U->cd O t=h U:=M;have aP:∀aB aC,D[aB]?=h aC->cd j (k*a4.size+aB)=h aC:=M;have aF:Rd cd (.slice (h ⟨j,0,q⟩) (k+A) e) (.S m a4.size (k+A) (ce k T g)):=by refine Rd.eG (B:=B++D) ((ah.append Q).mono aV) (j:=j) (off:=0) bl aA aj E (λaB aC aO=>?_);have a7:c B=k*a4.size:=ah.len;grind
    have I:=b.b9 (cd:=cd) (bh:=o.a.setRow j (i.take (k*a4.size)++D++i.drop (k*a4.size+c D)).toArray) (d':=.r W a4.size (k+A) (ce k T g)) (cm:=⟨.slice (h ⟨j,0,q⟩) (k+A) e,[j]⟩) u K
     ⟨λaz=>absurd az F,by omega⟩ E (λO _ ad=>setRow_other _ _ _ _ M) (λO _ ad t=>by grind) aV ?_ (λO ad=>by simp at ad;exact bw) a a a ?_
    .refine⟨.value (.slice (h ⟨j,0,q⟩) (k+A) e),_,?_,?_,I.1,I.2,jh (B7 s ab G z C.elem b hw aE v aA (b8 K) E bq)⟩
     .simp[av]
     exact tp (L:=⟨.slice (h ⟨j,0,q⟩) (k+A) e,[j]⟩) (W:=W) M M (I.1.box d _ _ M M)
    .intro O t U aa;by_cases ad:O=j
     .subst ad;have a9:∀a8,(o.a.setRow O (i.take (k*a4.size)++D++i.drop (k*a4.size+c D)).toArray).cell? ⟨O,a8,q⟩=(i.take (k*a4.size)++D++i.drop (k*a4.size+c D))[a8]?:=by grind[cell_setRow_same]
      rw[a9];simp only[cd]at aa;have a1:c (i.take (k*a4.size))=k*a4.size:=by rw[List.length_take];omega
      split at aa
      .grind
      rename_i a_;have J:=b.mem O t U aa;have w:t<k*a4.size:=M;rw[mh,ky y,ik,bs w];simp only[aN,hw]at J;grind
     simp only[cd]at aa;rw[bm y]at aa;rw[<-b.mem O t U aa];exact PI
    refine⟨aF,.inr ⟨j,e,_,a,setRow_heap _ _ _ _ _ _ hw,M,λt w=>?_⟩⟩;grind
  .have ak:e<k+A:=y;obtain⟨V,Z,au,aU,an,ao,Y,av⟩:=vL (P:=P) (ty:=t.type) s ab G z C.elem b aw v ak r C.bytes;have aW:∀j∈L.al,j<o.a.heap.size:=b.lt L (b8 K);have aF:Rd (λj t=>if j=o.a.heap.size then V[t]? else o.u j t) (.slice (h ⟨o.a.heap.size,0,q⟩) (k+A) au) (.S m a4.size (k+A) (ce k T g)):=
    Rd.eG (aU.mono (Jr b V)) (j:=o.a.heap.size) (off:=0) bl an ao E (λaB aC aO=>by grind)
   have I:=b.b9 (cd:=λj t=>if j=o.a.heap.size then V[t]? else o.u j t) (bh:=o.a.drew.alloc (.cells (V++Z).toArray W)) (d':=.r W a4.size (k+A) (ce k T g)) (cm:=⟨.slice (h ⟨o.a.heap.size,0,q⟩) (k+A) au,[o.a.heap.size]⟩) u K
    ⟨λaz=>absurd az F,by omega⟩ E (λj r _=>iM o.a.drew _ r) (λj r _ t=>by grind) (Jr b V) (Jq b W V Z) (λj r=>by
     simp at r;exact bw) a a a ⟨aF,.inr ⟨o.a.heap.size,au,V++Z,a,lT o.a.drew _,Y,λt w=>by
      have u:c V<=t:=by rw[aU.len];exact w
      grind⟩⟩
   refine⟨.value (.slice (h ⟨o.a.heap.size,0,q⟩) (k+A) au),_,?_,?_,I.1,I.2,jh (uW s ab G z C.elem b aw v ak r C.bytes)⟩
   .simp[av]
   exact tp (L:=⟨.slice (h ⟨o.a.heap.size,0,q⟩) (k+A) au,[o.a.heap.size]⟩) (W:=W) M M (I.1.box d _ _ M M)
def dv{a:Type}:p Nat->p a->Option (p a)
  |[],_=>h []
  |e::b,d=>match c6 e d with
    |some i=>match dv b d with
      |some g=>h (i::g)
      |none=>q
    |none=>q
def ld{d:Type}:∀a (e:p d),c6 a e=e[a]?
  |_,[]=>by simp[c6]
  |0,g::_=>by simp[c6]
  |a+1,_::b=>by simpa[c6]using ld a b
def l3{j:Type}:∀{a:p Nat} {b e:p j},dv a b=h e->c e=c a/\∀(l g:Nat),a[l]?=h g->∃i,e[l]?=h i/\b[g]?=h i
  |[],b,e,d=>by cases d;simp
  |g::a,b,e,d=>by
    simp[dv]at d;cases n:c6 g b with
    |none=>grind
    |some i=>
      cases k:dv a b with
      |none=>grind
      |some s=>
        simp[n,k]at d;subst d;obtain⟨o,r⟩:=l3 k;grind[ei]
def vP{j n:Type}:∀{a:p Nat} {d i:p j} {kJ:p n},dv a d=h i->c kJ=c d->∃b,dv a kJ=h b
  |[],d,i,kJ,_,_=>⟨[],rfl⟩
  |g::a,d,i,kJ,s,k=>by
    simp[dv]at s;cases r:c6 g d with
    |none=>grind
    |some u=>
      cases o:dv a d with
      |none=>grind
      |some t=>
        obtain⟨b,l⟩:=vP (kJ:=kJ) o k;have e:g<c kJ:=by rw[k];exact(cO.1 (ei r)).1
        exact⟨kJ[g]::b,by simp[dv,ld,e,l]⟩
def kp(a:p Nat):O->O
  |.ptr d j=>match c6 d a with|some b=>.ptr b j|none=>.any
  |.r d b g e=>match c6 d a with|some i=>.r i b g e|none=>.c (.S m b g e)
  |.aQ d=>match c6 d a with|some b=>.aQ b|none=>.any
  |.R d k=>match c6 d a with|some b=>.R b k|none=>.any
  |.c l=>.c l
  |.any=>.any
def qH(a:p Nat):p O->p O
  |[]=>[]
  |b::d=>kp a b::qH a d
def pt(a:p Nat):E1->E1
  |.aq d=>.aq (kp a d)
  |.agg b=>.agg (qH a b)
def tr(a:p Nat):p E1->p E1
  |[]=>[]
  |b::d=>pt a b::tr a d
def e7(a:p Nat):z->z
  |.q d=>.q (pt a d)
  |.Q b=>.Q (tr a b)
  |.any=>.any
def gq(a:p Nat):p z->p z
  |[]=>[]
  |b::d=>e7 a b::gq a d
def Dv:O->Bool
  |.c _|.any=>f
  |_=>m
def yO:p O->Bool
  |[]=>f
  |a::b=>match Dv a with|true=>yO b|false=>m
def vF:an->Bool
  |.cells _ a=>yO a
  |.loop ..=>m
  |_=>f
def eo:p an->Bool
  |[]=>f
  |a::b=>match vF a with|true=>eo b|false=>m
def vG:∀{e:p an},eo e=f->∀a∈e,vF a=f
  |[],_,a,aE=>by grind
  |g::i,b,a,aE=>by
    simp[eo]at b;cases d:vF g with
    |false=>grind
    |true=>
      simp[d]at b;rcases fl.1 aE with rfl|aE
      · exact d
      · exact vG b a aE
def bM.plain{n ao}{b az}(k:az.u=b.u):∀{B:p Z} {a:p O},yO a=f->bM n b B a->bM ao az B a
  |[],[],_,_=>trivial
  |[],_::_,_,d=>d.elim
  |_::_,[],_,d=>d.elim
  |l::B,g::j,e,d=>by
    simp[yO]at e;cases i:Dv g with
    |false=>grind
    |true=>
      simp[i]at e;refine⟨?_,bM.plain k e d.2⟩;cases g with
      |c o=>have:=d.1;simp[cw]at this⊢;grind
      |any=>exact d.1
      |_=>simp[Dv]at i
def ep.plain{n ao}{b az}(d:az.u=b.u)(g:az.a=b.a){e}{L}(l:vF e=f)(a:ep n b e L):ep ao az e L:=by
  cases e with
  |cells k p=>
    obtain⟨o,B,j,s,r,x⟩:=a;exact⟨o,B,j,by grind,r.plain d l,λy=>by simp_all⟩
  |r k t u i=>simp[ep,d,g]at a⊢;exact a
  |J H=>simp[ep,d,g]at a⊢;exact a
  |x=>trivial
  |loop w v z=>simp[vF]at l
  |bn=>simp[ep,d,g]at a⊢;exact a
  |h k t u i=>simp[ep,d,g]at a⊢;exact a
def ed:Nat->p Nat->Bool
  |_,[]=>m
  |a,d::b=>match af a d with|true=>f|false=>ed a b
def e6:p Nat->Bool
  |[]=>f
  |b::a=>match ed b a with|true=>m|false=>e6 a
theorem vo:∀{a:Nat} {d:p Nat},a∈d->ed a d=f
  |a,[],b=>by grind
  |a,e::i,b=>by
    simp[ed];cases g:af a e with
    |true=>rfl
    |false=>
      rcases fl.1 b with rfl|b
      · grind[Nat.beq_refl]
      · exact vo b
def Ku:∀{i:p Nat},e6 i=f->∀(b d e:Nat),i[b]?=h e->i[d]?=h e->b=d
  |[],_,b,d,e,a,_=>by grind
  |n::l,g,b,d,e,a,j=>by
    simp[e6]at g;cases o:ed n l with
    |true=>grind
    |false=>
      simp[o]at g;have s:∀k,l[k]?=h n->False:=λk r=>by have:=vo (b8 r);grind
      cases b with
      |zero=>
        grind
      |succ b=>
        cases d with
        |zero=>
          grind
        |succ d=>
          simp at a j;rw[Ku g b d e a j]
def lW(a:Nat):O->Bool
  |.ptr d _|.r d _ _ _|.aQ d|.R d _=>ay (d+1) a
  |_=>f
def lg(a:Nat):p O->Bool
  |[]=>f
  |b::d=>match lW a b with|true=>lg a d|false=>m
def pe(b:Nat):E1->Bool
  |.aq d=>lW b d
  |.agg a=>lg b a
def ol(a:Nat):p E1->Bool
  |[]=>f
  |b::d=>match pe a b with|true=>ol a d|false=>m
def hI(b:Nat):z->Bool
  |.q d=>pe b d
  |.Q a=>ol b a
  |.any=>f
def g4(a:Nat):p z->Bool
  |[]=>f
  |b::d=>match hI a b with|true=>g4 a d|false=>m
section sub
variable {lw:p Loc}
def cw.sub(O:dv aO n=h ao)(Q:dv aO b.m=h lw){l}(I:cw n b aa (kp aO l))(o:lW (c aO) l=f):cw ao {b with m:=lw} aa l:=by
  obtain⟨T,r⟩:=l3 O;obtain⟨N,p⟩:=l3 Q;cases l with
  |c t=>exact I
  |any=>exact I
  |ptr g R=>
    have a:g<c aO:=e' o;simp[kp,ld,bI a]at I;obtain⟨d,L,D,e,i,y⟩:=I;obtain⟨t,s,z⟩:=r g _ (bI a);obtain⟨A,k,j⟩:=p g _ (bI a);rw[j]at e;cases e;exact⟨λu x=>d u M,L,D,k,i,y⟩
  |r g E J v=>
    have a:g<c aO:=e' o;simp[kp,ld,bI a]at I;obtain⟨d,e,i⟩:=I;obtain⟨t,s,z⟩:=r g _ (bI a);obtain⟨A,k,j⟩:=p g _ (bI a);refine⟨d,by grind,λC F K B x=>?_⟩;grind
  |aQ g=>
    have a:g<c aO:=e' o;simp[kp,ld,bI a]at I;obtain⟨d,L,e,i,y⟩:=I;obtain⟨t,s,z⟩:=r g _ (bI a);obtain⟨A,k,j⟩:=p g _ (bI a);rw[j]at e;cases e;exact⟨λu x=>d u M,L,k,i,y⟩
  |R g S=>
    have a:g<c aO:=e' o;simp[kp,ld,bI a]at I;obtain⟨w,d,e,i⟩:=I;obtain⟨t,s,z⟩:=r g _ (bI a);obtain⟨A,k,j⟩:=p g _ (bI a);refine⟨w,d,(cO.1 s).1,λC E J v x=>?_⟩;grind
def cw.cN{e8}{b2}(J:b2.u=b.u)(u:∀(s:Nat) t,n[s]?=h t->∃g,aO[s]?=h g/\e8[g]?=h t)(C:∀(s:Nat) L,b.m[s]?=h L->∃g,aO[s]?=h g/\b2.m[g]?=h L)(O:c b.m=c n){v}(l:cw n b aa v):cw e8 b2 aa (kp aO v):=by
  cases v with
  |c R=>simp[kp,cw,J];exact l
  |any=>exact l
  |ptr d N=>
    obtain⟨e,L,E,a,r,B⟩:=l;obtain⟨g,k1,w⟩:=C d L a;have i:d<c n:=M;obtain⟨j,o,I⟩:=u d _ (bI i);rw[k1]at o;cases o;simp[kp,ld,k1];refine⟨λt A=>?_,L,E,w,r,B⟩;grind
  |r d g K F=>
    obtain⟨e,a,r⟩:=l;obtain⟨k1,y,k⟩:=u d _ (bI a);simp[kp,ld,y];refine⟨by grind,(cO.1 k).1,λD j z p A=>?_⟩;grind
  |aQ d=>
    obtain⟨e,L,a,r,B⟩:=l;obtain⟨g,k1,w⟩:=C d L a;have i:d<c n:=M;obtain⟨j,o,I⟩:=u d _ (bI i);rw[k1]at o;cases o;simp[kp,ld,k1];refine⟨λt A=>?_,L,w,r,B⟩;grind
  |R d Q=>
    obtain⟨x,e,a,r⟩:=l;obtain⟨k1,y,k⟩:=u d _ (bI a);simp[kp,ld,y];refine⟨x,e,(cO.1 k).1,λD j z p A=>?_⟩;grind
def bM.sub(e:dv aO n=h ao)(g:dv aO b.m=h lw):∀{B:p Z} {a:p O},bM n b B (qH aO a)->lg (c aO) a=f->bM ao {b with m:=lw} B a
  |[],[],_,_=>trivial
  |[],_::_,d,_=>d.elim
  |_::_,[],d,_=>d.elim
  |l::B,j::k,d,I=>by
    simp[lg]at I;cases i:lW (c aO) j with
    |false=>grind
    |true=>simp[i]at I;exact⟨d.1.sub e g i,bM.sub e g d.2 I⟩
def er.sub(e:dv aO n=h ao)(g:dv aO b.m=h lw){aa}{l}(i:er n b aa (pt aO l))(I:pe (c aO) l=f):er ao {b with m:=lw} aa l:=by
  cases l with
  |aq k=>exact cw.sub e g i I
  |agg j=>obtain⟨B,a,d⟩:=i;exact⟨B,a,d.sub e g I⟩
def eQ.sub(e:dv aO n=h ao)(g:dv aO b.m=h lw):∀{B:p Z} {a:p E1},eQ n b B (tr aO a)->ol (c aO) a=f->eQ ao {b with m:=lw} B a
  |[],[],_,_=>trivial
  |[],_::_,d,_=>d.elim
  |_::_,[],d,_=>d.elim
  |l::B,j::k,d,I=>by
    simp[ol]at I;cases i:pe (c aO) j with
    |false=>grind
    |true=>simp[i]at I;exact⟨d.1.sub e g i,eQ.sub e g d.2 I⟩
def bx.sub(e:dv aO n=h ao)(g:dv aO b.m=h lw){aa}{I}(j:bx n b aa (e7 aO I))(i:hI (c aO) I=f):bx ao {b with m:=lw} aa I:=by
  cases I with
  |q l=>exact er.sub e g j i
  |Q k=>obtain⟨B,a,d⟩:=j;exact⟨B,a,d.sub e g i⟩
  |any=>trivial
def b4.sub(e:dv aO n=h ao)(g:dv aO b.m=h lw):∀{B:p Z} {a:p z},b4 n b B (gq aO a)->g4 (c aO) a=f->b4 ao {b with m:=lw} B a
  |[],[],_,_=>trivial
  |[],_::_,d,_=>d.elim
  |_::_,[],d,_=>d.elim
  |l::B,j::k,d,I=>by
    simp[g4]at I;cases i:hI (c aO) j with
    |false=>grind
    |true=>simp[i]at I;exact⟨d.1.sub e g i,b4.sub e g d.2 I⟩
variable {e8:p an}{b2:a5}
def bM.cN(o:b2.u=b.u)(l:∀(e:Nat) i,n[e]?=h i->∃g,aO[e]?=h g/\e8[g]?=h i)(k:∀(e:Nat) L,b.m[e]?=h L->∃g,aO[e]?=h g/\b2.m[g]?=h L)(j:c b.m=c n):
    ∀{B:p Z} {d:p O},bM n b B d->bM e8 b2 B (qH aO d)
  |[],[],_=>trivial
  |[],_::_,a=>a.elim
  |_::_,[],a=>a.elim
  |_::_,_::_,a=>⟨a.1.cN o l k j,bM.cN o l k j a.2⟩
def er.cN(p:b2.u=b.u)(o:∀(a:Nat) (i:an),n[a]?=h i->∃d,aO[a]?=h d/\e8[d]?=h i)(k:∀(a:Nat) (L:Loc),b.m[a]?=h L->∃d,aO[a]?=h d/\b2.m[d]?=h L)(j:c b.m=c n){aa}{l}(r:er n b aa l):er e8 b2 aa (pt aO l):=by
  cases l with
  |aq t=>exact cw.cN p o k j r
  |agg s=>obtain⟨B,e,g⟩:=r;exact⟨B,e,g.cN p o k j⟩
def eQ.cN(o:b2.u=b.u)(l:∀(d:Nat) i,n[d]?=h i->∃e,aO[d]?=h e/\e8[e]?=h i)(k:∀(d:Nat) (L:Loc),b.m[d]?=h L->∃e,aO[d]?=h e/\b2.m[e]?=h L)(j:c b.m=c n):
    ∀{B:p Z} {g:p E1},eQ n b B g->eQ e8 b2 B (tr aO g)
  |[],[],_=>trivial
  |[],_::_,a=>a.elim
  |_::_,[],a=>a.elim
  |_::_,_::_,a=>⟨a.1.cN o l k j,eQ.cN o l k j a.2⟩
def bx.cN(p:b2.u=b.u)(o:∀(a:Nat) (j:an),n[a]?=h j->∃d,aO[a]?=h d/\e8[d]?=h j)(l:∀(a:Nat) (L:Loc),b.m[a]?=h L->∃d,aO[a]?=h d/\b2.m[d]?=h L)(k:c b.m=c n){aa}{e}(r:bx n b aa e):bx e8 b2 aa (e7 aO e):=by
  cases e with
  |q t=>exact er.cN p o l k r
  |Q s=>obtain⟨B,g,i⟩:=r;exact⟨B,g,i.cN p o l k⟩
  |any=>trivial
end sub
def c_.cq{a:Type}:Nat->a->p a->p a
  |_,_,[]=>[]
  |0,d,_::b=>d::b
  |e+1,d,g::b=>g::c_.cq e d b
def c_{a:Type}:p Nat->p a->p a->p a
  |[],new,old=>old++new
  |d::b,e::new,old=>c_ b new (c_.cq d e old)
  |_::_,[],old=>old
theorem mL{b:Type}:∀d (a:b) (e:p b),c_.cq d a e=e.set d a
  |_,_,[]=>by simp[c_.cq]
  |0,a,_::g=>by simp[c_.cq]
  |d+1,a,i::g=>by simp[c_.cq,mL d a g]
def DA{g:Type}:∀{aO:p Nat} {new old:p g},e6 aO=f->(∀a∈aO,a<c old)->c aO<=c new ->
    c (c_ aO new old)=c old+(c new-c aO)/\(∀(b a:Nat),aO[b]?=h a->(c_ aO new old)[a]?=new[b]?) /\
    (∀b,(c_ aO new old)[c old+b]?=new[c aO+b]?)/\(∀d,d<c old->d∉aO->(c_ aO new old)[d]?=old[d]?)
  |[],new,old,_,_,_=>by
    refine⟨by simp[c_],by simp,λb=>?_,λd k _=>?_⟩
    · simp[c_,gz,cV]
      grind
    · simp[c_,ky k]
  |a::aO,[],old,_,_,n=>by grind
  |a::aO,s::new,old,e,j,u=>by
    have t:=e;simp[e6]at e;cases l:ed a aO with
    |true=>grind
    |false=>
      simp[l]at e;have o:a<c old:=j a E;have v:a∉aO:=λn=>by grind[vo]
      obtain⟨y,w,z,x⟩:=DA (aO:=aO) (new:=new) (old:=old.set a s) e (λr i=>by grind) M;simp[c_,mL];grind
def Y(l:ai P)(j:a3)(args:p z)(i:p an)(e:z)(b:p an):Prop:=
  (∃fn,P.funcs[j]?=h fn/\(fn.name== "runtime.NumGoroutine")=m/\fn.body.isNone=m) /\
  ∀g (B:p Z),b4 i g B args->bb i g->∀(k:ak->a5->Prop) d,
    (∀n o a,mb P j n o a->bx b a o e->bb b a->dc i g b a->cb l k (G n d) a)->cb l k (G (Frame.enter P j B.toArray .normal) d) g
def bk(n:ai P)(k:a3)(args:p z)(j:p an)(e:ι->z)(b:ι->p an):Prop:=
  (∃fn,P.funcs[k]?=h fn/\(fn.name== "runtime.NumGoroutine")=m/\fn.body.isNone=m) /\
  ∀i (B:p Z),b4 j i B args->bb j i->∀(l:ak->a5->Prop) d,
    (∀g o r a,mb P k o r a->bx (b g) a r (e g)->bb (b g) a->dc j i (b g) a->cb n l (G o d) a)->cb n l (G (Frame.enter P k B.toArray .normal) d) i
def Y.tocD{g:ai P}{i}{args}{res}(j:Y g i args n res ao):bk (ι:=Unit) g i args n (λ_=>res) (λ_=>ao):=
  ⟨j.1,λl B e d k a b=>j.2 l B e d k a (b ())⟩
def bk.toY{g:ai P}{i}{args}{res}(j:bk (ι:=Unit) g i args n (λ_=>res) (λ_=>ao)):Y g i args n res ao:=
  ⟨j.1,λl B e d k a b=>j.2 l B e d k a (λ_=>b)⟩
def oA(b:a5)(d:p Loc):Nat->Prop:=λa=>b.own a∨((∃L∈b.m,a∈L.al)/\∀L∈d,a∉L.al)
def gJ(a:Nat):Nat->p Nat
  |0=>[]
  |b+1=>a::gJ (a+1) b
def MX:∀d b a,(gJ b d)[a]?=if a<d then h (b+a)else q
  |0,b,a=>by simp[gJ]
  |d+1,b,0=>by simp[gJ]
  |d+1,b,a+1=>by simp[gJ,nY,MX d (b+1) a,Nat.add_lt_add_iff_right];grind
def frame{aL}{k}{A}(v:bb n b)(P:dv aO n=h dd)(aX:dv aO b.m=h A)(Z:e6 aO=f)(aB:eo aL=f)(E:bb aL k)(j:dc dd {b with m:=A,own:=oA b A} aL k)(X:c aO<=c aL){res}(aC:bx aL k aa res):
    ∃b2:a5,b2.a=k.a/\bx (c_ aO aL n) b2 aa (e7 (aO++gJ (c n) (c aL-c aO)) res)/\bb (c_ aO aL n) b2/\dc n b (c_ aO aL n) b2/\b2.u=k.u/\b2.own=b.own/\∀L∈b2.m,L∈k.m∨(L∈b.m/\∀i∈L.al,∀p∈A,i∉p.al):=by
  have aS:∀z∈aO,z<c n:=by intro z x;obtain⟨d,u,rfl⟩:=hD x;obtain⟨aG,_,a0⟩:=(l3 P).2 d _ (bI u);grind
  have N:∀z∈aO,z<c b.m:=by rw[v.len];omega
  have H:c aO<=c k.m:=by rw[E.len];omega
  obtain⟨an,ao,S,aq⟩:=DA (new:=aL) (old:=n) Z aS X;obtain⟨T,ar,U,au⟩:=DA (new:=k.m) (old:=b.m) Z N H;obtain⟨aZ,av⟩:=l3 P;obtain⟨d1,d2⟩:=l3 aX;let aj:=aO++gJ (c n) (c aL-c aO);have aT:∀d,d<c aL->∃z,aj[d]?=h z/\(c_ aO aL n)[z]?=aL[d]?/\(c_ aO k.m b.m)[z]?=k.m[d]?:=by
    intro d u;rcases dY d (c aO) with K|ai
    · refine⟨aO[d],?_,ao d _ (bI K),ar d _ (bI K)⟩
      grind
    · refine⟨c n+(d-c aO),?_,?_,?_⟩
      · simp[aj]
        rw[hl ai,MX,bs y]
      · rw[S];grind
      · rw[<-v.len,U];grind
  have I:∀g L,(c_ aO k.m b.m)[g]?=h L->(∃d,d<c aL/\k.m[d]?=h L/\(∀w,(c_ aO aL n)[g]?=h w->aL[d]?=h w)/\(∀z,aO[d]?=h z->z=g)/\(d≥c aO->g=c n+(d-c aO))) ∨
      (g<c n/\g∉aO/\b.m[g]?=h L/\(c_ aO aL n)[g]?=n[g]?):=by
    intro g L l;have aU:g<c (c_ aO k.m b.m):=(cO.1 l).1;rcases dY g (c n) with K|ai
    · by_cases C:g∈aO
      · obtain⟨d,u,rfl⟩:=hD C
        have x:=bI u;grind
      · exact .inr ⟨K,C,by rw[<-au g (by rw[v.len];omega) C];exact l,aq g K C⟩
    · rw[T,E.len,v.len]at aU
      refine .inl ⟨c aO+(g-c n),by omega,?_,λw aE=>?_,λz x=>?_,λ_=>by omega⟩
      · rw[<-U,v.len,Az ai];exact l
      · rw[<-S,Az ai];exact aE
      grind
  have O:∀L∈A,L∈b.m:=by intro L l;obtain⟨d,u,rfl⟩:=hD l;have ae:d<c aO:=M;obtain⟨aG,aM,R⟩:=d2 d _ (bI ae);grind
  have t:∀g L,g∉aO->b.m[g]?=h L->∀i∈L.al,i<b.a.heap.size/\∀p∈A,i∉p.al:=by intro g L F l i o;refine⟨v.lt L (b8 l) i o,λp r s=>?_⟩;obtain⟨d,u,rfl⟩:=hD r;have ae:d<c aO:=M;obtain⟨aG,aM,R⟩:=d2 d _ (bI ae);rw[bI u]at aM;cases aM;have:=v.a3 g aO[d] L _ l R i o s;grind
  have ab:∀i,i<b.a.heap.size->(∀L∈b.m,i∉L.al)->∀L∈A,i∉L.al:=λi _ ah L l=>ah L (O L l);have V:fh n b (c_ aO aL n) ⟨c_ aO k.m b.m,k.u,k.a,b.own⟩:=by
    refine⟨j.mem,λg w L aE l=>?_⟩;have K:g<c n:=(cO.1 aE).1;by_cases C:g∈aO
    · obtain⟨d,u,rfl⟩:=hD C
      have x:=bI u;obtain⟨aG,aM,R⟩:=av d _ x;obtain⟨a8,aH,ad⟩:=d2 d _ x;rw[aE]at R;cases R;rw[l]at ad;cases ad;obtain⟨aR,p,a3,a4,a6⟩:=j.box d w L aM aH;grind
    · exact⟨w,L,by grind,by grind,.refl _ _⟩
  refine⟨⟨c_ aO k.m b.m,k.u,k.a,b.own⟩,a,?_,⟨E.mem,?_,?_,?_,?_,?_⟩,⟨j.size,?_,j.mem,?_,?_,V.box,j.os,j.tape,j.output,a⟩,a,a,?_⟩
  · refine bx.cN (b:=k) (b2:=⟨c_ aO k.m b.m,k.u,k.a,b.own⟩) (e8:=c_ aO aL n) (aO:=aj) a (λd w aE=>?_) (λd L l=>?_) E.len aC
    · grind
    · obtain⟨z,k1,_,a1⟩:=aT d (by rw[<-E.len];grind)
      grind
  · simp only;rw[an,T,E.len,v.len]
  · intro g w L aE l
    rcases I g L l with⟨d,u,B,D,_⟩|⟨F,C,r,aV⟩
    · exact ep.plain (n:=aL) (b:=k) (az:=⟨c_ aO k.m b.m,k.u,k.a,b.own⟩) a a (vG aB w (b8 (D w aE))) (E.box d w L (D w aE) B)
    · rw[aV]at aE
      refine(v.box g w L aE r).cd V v.len λi o=>?_;obtain⟨ak,ag⟩:=t g L C r i o;exact⟨j.a6 i (.inr ⟨⟨L,b8 r,o⟩,ag⟩),j.bF i ak ag⟩
  · intro g J L p l r i o s
    rcases I g L l with⟨d,u,B,_,aN,aP⟩|⟨F,C,e,_⟩<;>rcases I J p r with⟨aF,ae,aI,_,aw,ax⟩|⟨aQ,Y,G,_⟩
    · have a7:=E.a3 d aF L p B aI i o s
      grind
    · obtain⟨ak,ag⟩:=t J p Y G i s
      rcases j.bV L (b8 B) i o with ah|⟨Q,W,aK⟩
      · grind
      grind
    · obtain⟨ak,ag⟩:=t g L C e i o
      rcases j.bV p (b8 aI) i s with ah|⟨Q,W,aK⟩
      · grind
      grind
    · exact v.a3 g J L p e G i o s
  · intro L l i o
    obtain⟨g,F,rfl⟩:=hD l;rcases I g _ (bI F)with⟨d,u,B,_⟩|⟨_,_,e,_⟩
    · exact E.lt _ (b8 B) i o
    · have:=v.lt _ (b8 e) i o
      have:=j.size;grind
  · intro i o
    refine⟨?_,λL l aJ=>?_⟩
    · have:=(v.own i o).1
      have:=j.size;grind
    · obtain⟨g,F,rfl⟩:=hD l
      rcases I g _ (bI F)with⟨d,u,B,_⟩|⟨_,_,e,_⟩
      · have aA:k.own i:=by rw[j.own];exact .inl o
        exact(E.own i aA).2 _ (b8 B) aJ
      · exact(v.own i o).2 _ (b8 e) aJ
  · intro i o
    exact j.a6 i (.inl o)
  · intro i o aW a2
    exact j.bF i o (ab i o aW) a2
  · intro L l i o
    obtain⟨g,F,rfl⟩:=hD l;rcases I g _ (bI F)with⟨d,u,B,_⟩|⟨_,_,e,_⟩
    · rcases j.bV _ (b8 B) i o with ah|⟨Q,W,aK⟩
      · grind
      grind
    grind
  · intro L l
    obtain⟨g,F,rfl⟩:=hD l;rcases I g _ (bI F)with⟨d,u,B,_⟩|⟨_,C,e,_⟩
    · grind
    grind
def gN:z->Option (a3×p N)
 |.q (.aq (.c (.fn (.func b) [] a)))=>h (b,a)
 |_=>q
theorem m2{n}{b}{d:aA->Z}{a:aA->z}(e:∀i,bx n b (d i) (a i)):∀g:p aA,b4 n b (g.map d) (g.map a)
 |[]=>trivial
 |k::j=>⟨e k,m2 e j⟩
def b4.append{n}{b}:∀{B e:p Z}{g a:p z},b4 n b B g->b4 n b e a->b4 n b (B++e) (g++a)
 |[],_,[],_,_,d=>d
 |[],_,_::_,_,d,_=>d.elim
 |_::_,_,[],_,d,_=>d.elim
 |_::_,_,_::_,_,d,i=>⟨d.1,b4.append d.2 i⟩
def BA:O->O
 |.r _ b d a=>.c (.S m b d a)
 |.c (.S _ b d a)=>.c (.S m b d a)
 |e=>e
def Hj{d}(a:cw n b aa d):cw n b aa (BA d):=by
 cases d with
 |r j i k e=>exact a.1
 |c g=>cases g<;>first|exact a|exact Rd.ef a
 |_=>exact a
def BC:p O->p O
 |[]=>[]
 |a::b=>BA a::BC b
def Hl{n}{b}:∀{B:p Z}{d:p O},bM n b B d->bM n b B (BC d)
 |[],[],_=>trivial
 |[],_::_,a=>a.elim
 |_::_,[],a=>a.elim
 |_::_,_::_,a=>⟨Hj a.1,Hl a.2⟩
def BB:z->z
 |.q (.aq b)=>.q (.aq (BA b))
 |.q (.agg a)=>.q (.agg (BC a))
 |d=>d
def Hk{a}(d:bx n b aa a):bx n b aa (BB a):=by
 cases a with
 |q j=>cases j with
  |aq l=>exact Hj d
  |agg i=>obtain⟨B,e,g⟩:=d;exact⟨B,e,Hl g⟩
 |Q k=>exact d
 |any=>trivial
def k5:p z->p z
 |[]=>[]
 |a::b=>BB a::k5 b
theorem uL{n}{b}:∀{B:p Z}{d:p z},b4 n b B d->b4 n b B (k5 d)
 |[],[],_=>trivial
 |[],_::_,a=>a.elim
 |_::_,[],a=>a.elim
 |_::_,_::_,a=>⟨Hk a.1,uL a.2⟩
def e0:p N->p z
 |[]=>[]
 |a::b=>ax a::e0 b
theorem qa{n}{b}:∀{B:p Z}{a:p N},(∀(g:Nat)d,a[g]?=h d->∃i,B[g]?=h i/\Rd b.u i d)->c B=c a->b4 n b B (e0 a)
 |[],[],_,_=>trivial
 |[],_::_,_,e=>by grind
 |_::_,[],_,e=>by grind
 |i::B,d::a,e,o=>by obtain⟨r,j,k⟩:=e 0 d rfl;simp at j;subst j;exact⟨k,qa (λg d l=>by simpa using e (g+1) d M) M⟩
def DT{a b:p α}(i:dv aO a=h b):∀d∈b,d∈a:=by intro d g;obtain⟨l,e⟩:=l3 i;obtain⟨j,k,rfl⟩:=hD g;obtain⟨r,n,o⟩:=e j _ (bI y);grind
def bb.sub{l}(i:bb n b)(E:dv aO n=h dd)(I:dv aO b.m=h l)(K:eo dd=f)(u:e6 aO=f):
  bb dd {b with m:=l,own:=oA b l}/\eT b {b with m:=l,own:=oA b l}:=by
 obtain⟨B,t⟩:=l3 E;obtain⟨d1,d2⟩:=l3 I;have y:∀L∈l,L∈b.m:=DT I;refine⟨⟨i.mem,by grind,?_,?_,?_,?_⟩,⟨a,λ_ _ _ D=>D,λ_ _ _=>rfl,i.mem,?_⟩⟩
 .intro w x L aE d;have k:w<c aO:=M;obtain⟨R,A,N⟩:=t w _ (bI k);obtain⟨O,p,v⟩:=d2 w _ (bI k);rw[aE]at A;cases A;simp only at d;rw[d]at p;cases p;exact ep.plain (n:=n) (b:=b) (az:={b with m:=l,own:=oA b l}) rfl rfl (vG K x (b8 aE)) (i.box _ x L N v)
 .intro w C L s d o j g r;simp only at d o;have k:w<c aO:=M;have F:C<c aO:=M;obtain⟨O,p,v⟩:=d2 w _ (bI k);obtain⟨Q,z,J⟩:=d2 C _ (bI F);rw[d]at p;cases p;rw[o]at z;cases z;have:=i.a3 _ _ L s v J j g r;exact Ku u w C aO[w] (bI k) M
 .intro L d j g;exact i.lt _ (y L d) j g
 .rintro j (g|⟨⟨L,d,g⟩,e⟩)
  .exact⟨(i.own j g).1,λL d=>(i.own j g).2 L (y L d)⟩
  exact⟨i.lt L d j g,e⟩
 rintro j ((g|⟨⟨L,d,g⟩,_⟩)|⟨L,d,g⟩)
 .grind
 .grind
 grind
def eT.cS{aL}{s b2}{j}(v:bb n b)(k:bb aL s)(g:dc dd {b with m:=j,own:=oA b j} aL s)(t:b2.a=s.a)(o:b2.u=s.u)(w:b2.own=b.own)(r:∀L∈b2.m,L∈s.m∨(L∈b.m/\∀a∈L.al,∀i∈j,a∉i.al)):eT s b2:=by
 refine⟨t,λa l p e=>by grind,λa _ l=>by rw[o],λa l p e=>by rw[o]at e;exact k.mem a l p e,?_⟩;rintro a (d|⟨L,x,d⟩)
 .left;rw[g.own];exact .inl M
 rcases r L x with e|⟨e,u⟩
 .grind
 left;rw[g.own];exact .inr ⟨⟨L,e,d⟩,u a d⟩
def AQ{v:ai P}{j:aK}{i}{x}{br}{V}(I:j.kind≠.early)(p:aC[e]?=h t)(M:aV t (yielded aC x.tmps)=f)(T:bb n b)(aF:∀y,(ac x.eval t).run P y=.ok (.enter V B.toArray) y)(O:∀y,(ac x.eval t).events P y #[]=#[])(ae:bk v V cR dd res aL)(av:b4 n b B (gq aO cR))(aM:g4 (c aO) cR=f)(w:dv aO n=h dd)(K:eo dd=f)(Z:∀d,eo (aL d)=f)(U:e6 aO=f)(aq:∀d,c aO<=c (aL d))(E:∀d u az,bx (c_ aO (aL d) n) az u (e7 (aO++gJ (c n) (c (aL d)-c aO)) (res d))->bb (c_ aO (aL d) n) az->dc n b (c_ aO (aL d) n) az->cb v bq (G (j.M (x.put t.dst u) (.inRegion aC br::i)) ah) az):
  cb v bq (G (j.M x (.inRegion aC (e::br)::i)) ah) b:=by
 obtain⟨_,aA⟩:=ae;refine .next a λk ak=>?_;have C:=v.bM ak;have o:=T.rely C;obtain⟨D,Q⟩:=vP (kJ:=k.m) w o.len;obtain⟨z,an⟩:=o.sub w Q K U;have au:=av.mono C.aR.ext T.len;have N:=(au.sub (b:=k) w Q aM).mono (n:=dd) (b:={k with m:=D}) (ao:=dd) (az:={k with m:=D,own:=oA k D}) ⟨λ_ _ _ E=>E,λaG Y L aE F=>⟨Y,L,aE,F,.refl _ _⟩⟩ z.len;refine⟨_,k,_,tz p M I (aF k.a),?_,.aV an (aA _ B N z bq _ λd ar u aw J l g r=>?_)⟩
 .refine⟨⟨n,n,o,o,.refl _ _⟩,ds.seen ?_⟩;rw[O];exact .nil
 refine uA (ah:=ah) (s:=j.M x (.inRegion aC (e::br)::i)) g J λax R=>?_;have X:=g.rely R;have W:=r.trans R.aR;obtain⟨S,ab,aa,aj,H,ad,ag,aB⟩:=frame o w Q U (Z d) X W (aq d) (l.mono R.aR.ext g.len);refine .aV (eT.cS o X W ab ad ag aB) ?_;have A:=qk (j:=j) (x:=x) (i:=i) aC e br u;rw[p]at A;simp[n0]at A;rw[A];exact E d u S aa aj (C.aR.trans H)
def Gb{j:ai P}{k:aK}{i}{d}{br}{aL}{o}{res}(F:k.kind≠.early)(l:aC[e]?=h t)(C:aV t (yielded aC d.tmps)=f)(E:bb n b)(u:∀g,(ac d.eval t).run P g=.ok (.enter o B.toArray) g)(s:∀g,(ac d.eval t).events P g #[]=#[])(A:Y j o cR dd res aL)(r:b4 n b B (gq aO cR))(x:g4 (c aO) cR=f)(y:dv aO n=h dd)(D:eo dd=f)(v:eo aL=f)(I:e6 aO=f)(z:c aO<=c aL)(w:∀p a,bx (c_ aO aL n) a p (e7 (aO++gJ (c n) (c aL-c aO)) res)->bb (c_ aO aL n) a->dc n b (c_ aO aL n) a->cb j bq (G (k.M (d.put t.dst p) (.inRegion aC br::i)) ah) a):
  cb j bq (G (k.M d (.inRegion aC (e::br)::i)) ah) b:=
 AQ F l C E u s A.tocD r x y D (λ_=>v) I (λ_=>z) (λ_=>w)
theorem mK(b:t.op=.call {callee:=.value cP,args:=ag,argTypes:=dn}){d}{fn}(j:P.funcs[d]?=h fn)(o:(fn.name== "runtime.NumGoroutine")=m)(n:fn.body.isNone=m){a:Act}{ah}(k:a.eval cP=.func (.func d) #[] ah.toArray)(e):
  (ac a.eval t).run P e=.ok (.enter d (ag.toList.map a.eval++ah).toArray) e/\(ac a.eval t).events P e #[]=#[]:=by
 have l:(ag.map a.eval++ah.toArray)=(ag.toList.map a.eval++ah).toArray:=M;have i:fn.name≠ "runtime.NumGoroutine":=M;have g:fn.body≠q:=M;constructor
 .simp[ac,b,resolve,k,Deferred.ofValue,invoke,callFunc,j,i,g,l]
 simp[ac,b,resolve,k,Deferred.ofValue,invoke,callFunc,j,i,g]
def e9.eU{x:ai P}{aM:bH->p an->Prop}(L:∀n i k,bV D n i F k->aV t (yielded all.toArray k.tmps)=f)(u:t.op=.call {callee:=.value cP,args:=ag,argTypes:=dn}){Z:a3}(w:gN (bF F cP)=h (Z,cap))(b:p Nat)(ae:bk x Z cR dd res aL)(aJ:∀i B,b4 n i B (ag.toList.map (bF F)++e0 cap)->b4 n i B (gq b cR))(ao:g4 (c b) cR=f)(aq:dv b n=h dd)(au:eo dd=f)(O:∀d,eo (aL d)=f)(S:e6 b=f)(G:∀d,c b<=c (aL d))(C)(ar:t.dst=C)(aA:∀v,C=h v->v<D)(aI:∀d,e9 x D all br aM (fS C (e7 (b++gJ (c n) (c (aL d)-c b)) (res d)) F) (c_ b (aL d) n)):e9 x D all (t::br) aM F n:=by
 subst ar;intro i k l g aB U A ax idx o a J;cases idx with
 |nil=>exact a.elim
 |cons aR idx=>
 obtain⟨K,a⟩:=a;have ah:=eJ l cP;unfold gN at w;split at w
 case h_2=>cases w
 case h_1 u0 uM he=>
  cases w;rw[he]at ah;have ab:=b6 ah;generalize Y:k.eval cP=aG at ab;cases ab with
  |fn aF e R s aE E aH I aO V=>
   have z:=jy R;subst z;have aK:b4 n i e (e0 cap):=qa (λd aC Q=>⟨E d,I d M,V d aC Q⟩) s;have aP:b4 n i (ag.toList.map k.eval++e) (gq b cR):=by exact aJ _ _ ((m2 (eJ l) ag.toList).append aK)
   obtain⟨fn,aj,ad,aa⟩:=ae.1;refine AQ o K (L _ _ _ l) g (λX=>(mK u aj ad aa Y X).1) (λX=>(mK u aj ad aa Y X).2) ae aP ao aq au O S G λd aS W T r j=>?_;refine aI d W _ ?_ r aB U A ax idx o a λH ak aw y aN az av N=>J H ak aw y aN az av (j.trans N);cases aQ:t.dst with
   |none=>exact l.mono j g.len
   |some v=>exact(l.mono j g.len).put (aA v aQ) T
def e9.gR{d:ai P}{aM:bH->p an->Prop}(A:∀n k i,bV D n k F i->aV t (yielded all.toArray i.tmps)=f)(g:t.op=.call {callee:=.value cP,args:=ag,argTypes:=dn}){j}(z:gN (bF F cP)=h (j,cap))(aO)(w:bk d j cR dd res aL)(E:k5 (ag.toList.map (bF F)++e0 cap)=gq aO cR)(r:g4 (c aO) cR=f)(s:dv aO n=h dd)(x:eo dd=f)(o:∀a,eo (aL a)=f)(e:e6 aO=f)(u:∀a,c aO<=c (aL a))(b)(y:t.dst=b)(C:∀l,b=h l->l<D)(v:∀a,e9 d D all br aM (fS b (e7 (aO++gJ (c n) (c (aL a)-c aO)) (res a)) F) (c_ aO (aL a) n)):e9 d D all (t::br) aM F n:=
 e9.eU A g z aO w (λk B I=>by grind[uL]) r s x o e u b y C v
theorem e9.call{b:ai P}{aM:bH->p an->Prop}(z:∀n B g,bV D n B F g->aV t (yielded all.toArray g.tmps)=f)(e:t.op=.call {callee:=.value cP,args:=ag,argTypes:=dn}){i}(y:gN (bF F cP)=h (i,cap))(aO){aL}{res}(u:Y b i cR dd res aL)(k:k5 (ag.toList.map (bF F)++e0 cap)=gq aO cR)(o:g4 (c aO) cR=f)(r:dv aO n=h dd)(v:eo dd=f)(l:eo aL=f)(d:e6 aO=f)(s:c aO<=c aL)(a)(x:t.dst=a)(A:∀j,a=h j->j<D)(w:e9 b D all br aM (fS a (e7 (aO++gJ (c n) (c aL-c aO)) res) F) (c_ aO aL n)):e9 b D all (t::br) aM F n:=
 e9.gR z e y aO u.tocD k o r v (λ_=>l) d (λ_=>s) a x A (λ_=>w)
def nS.range(all):nS all (aD all.toArray.size) all:=by
 have key:∀a k,(∀w t,a[w]?=h t->all[k+w]?=h t)->nS all (List.range' k (c a)) a:=by
  intro a;induction a with
  |nil=>intro k _;trivial
  |cons t a' x=>
   exact P1
 grind[List.range_eq_range']
theorem bY.region{r:ai P}{aM}{id}(z:e9 r D aC.toList aC.toList (λF n=>aM .normal F n) F n):bY r D (.region id aC m) aM F n:=by intro C t y d u A j s l k;refine .ctl d a (λ_=>y4) λw b=>?_;have:=z w t (y.rely b d) (d.rely b) u A j s (aD aC.size) l (by simpa using nS.range aC.toList) λe g o i B v x p=>k .normal e g o i B v x (b.aR.trans p);omega
def e9.nil{P:aI}{d:ai P}{D}{all}{aM:bH->p an->Prop}{F}{n}(o:aM F n):e9 d D all [] aM F n:=by
 intro v e l b s u i r idx _ g j;cases idx with
 |cons t idx=>exact g.elim
 |nil=>exact .ctl b rfl (λ_=>vQ) λk a=>j F n k e o (l.rely a b) (b.rely a) a.aR
def e9.mono{o:ai P}{aM r:bH->p an->Prop}(z:e9 o D all br aM F n)(y:∀F n,aM F n->r F n):e9 o D all br r F n:=
 λb t x j u A e s idx i k g=>z b t x j u A e s idx i k λa ao az d B v w l=>g a ao az d (y _ _ B) v w l
def e9.le{P:aI}{j:ai P}{D}{all br}{aM:bH->p an->Prop}{F dE}{n}(s:e9 j D all br aM dE n)(i:ix F dE):e9 j D all br aM F n:=
 λu l r e o t a k idx d g b=>s u l (r.le i) e o t a k idx d g b
def hZ:Nat->p z->bH
 |_,[]=>[]
 |a,b::d=>(a,b)::hZ (a+1) d
def yt:∀d(a b:Nat),look (hZ a d) b=if a<=b then(d[b-a]?).getD .any else .any
 |[],a,b=>by simp[hZ,look]
 |g::e,a,b=>by
  simp only[hZ,look];by_cases i:a=b
  .grind [Nat.beq_refl]
  have:af a b=m:=tZ;rw[this];simp[cond,yt e (a+1) b];grind
theorem b4.get{n}{b}:∀{B:p Z}{a:p z},b4 n b B a->c B=c a/\∀(w:Nat),bx n b ((B[w]?).getD K) ((a[w]?).getD .any)
 |[],[],_=>⟨rfl,λw=>by simp[bx]⟩
 |[],_::_,d=>d.elim
 |_::_,[],d=>d.elim
 |j::B,i::a,d=>by
  obtain⟨e,g⟩:=b4.get d.2;refine⟨by grind,λw=>?_⟩;cases w with
  |zero=>simpa using d.1
  |succ w=>grind
def oC(a:bH):p ResultVar->Option (p z)
 |[]=>h []
 |.tmp e::d=>match oC a d with
  |some b=>h (look a e::b)
  |none=>q
 |.cell _ _::_=>q
def qN:p z->Option (p E1)
 |[]=>h []
 |.q d::b=>match qN b with
  |some a=>h (d::a)
  |none=>q
 |_::_=>q
def pf:p z->Option z
 |[d]=>h d
 |a=>match qN a with
  |some b=>h (.Q b)
  |none=>q
def h_(d:Act):ResultVar->Sem Z
 |ResultVar.tmp b=>pure (d.tmps.getD b K)
 |ResultVar.cell a b=>do loadVar b (<-asAddr (d.tmps.getD a K))
def Lw(P){D}{n}{b}{F}{g}(l:bV D n b F g):∀{e:p ResultVar}{a:p z},oC F e=h a ->
  ∃B,(∀j,(e.mapM (h_ g)).run P j=Result.ok B j)/\b4 n b B a/\dB P (e.mapM (h_ g))
 |[],a,d=>by cases d;exact⟨[],by simp,v,by rw[List.mapM_nil];exact .pure⟩
 |.tmp i::o,a,d=>by
  simp[oC]at d;cases k:oC F o with
  |none=>grind
  |some w=>
   simp[k]at d;subst d;obtain⟨B,s,t,u⟩:=Lw P l k;refine⟨g.tmps.getD i K::B,?_,⟨l.aH i,t⟩,?_⟩
   .intro j;simp[oY,cI,h_,d6,c0,s]
   rw[oY];exact .bind .pure λ_=>.bind u λ_=>.pure
 |.cell r i::o,a,d=>by simp[oC]at d
def MK{n}{b}:∀{B:p Z}{e:p z}{a:p E1},qN e=h a->b4 n b B e->eQ n b B a
 |[],[],a,d,_=>by cases d;trivial
 |[],_::_,_,_,d=>d.elim
 |_::_,[],_,_,d=>d.elim
 |l::B,.q o::j,a,d,i=>by
  simp[qN]at d;cases g:qN j with
  |none=>grind
  |some k=>simp[g]at d;subst d;exact⟨i.1,MK g i.2⟩
 |_::_,.Q _::_,a,d,_=>by simp[qN]at d
 |_::_,.any::_,a,d,_=>by simp[qN]at d
def JR{bg}{i}(d:pf bg=h i)(e:b4 n b B bg):bx n b (if d:c B=1 then B[0]else .tuple B.toArray) i:=by
 unfold pf at d;split at d
 .rename_i C;cases d
  match B,e with
  |[p],e=>simpa using e.1
 rename_i o;cases g:qN bg with
 |none=>grind
 |some k=>
  simp[g]at d;subst d;have l:c B≠1:=by
   intro j;rw[(b4.get e).1]at j
   match bg,j with
   |[r],_=>grind
  rw[dif_neg l];exact⟨B,a,MK g e⟩
def oO(P:aI)(fn:Func)(l:bH)(o:z):Prop:=∀{n:Nat}{j:p an}{d:a5}{i:Act},bV n j d l i->∃k,bx j d k o/\∀g,(∀a b e,d.u a b=h e->g.cell? ⟨a,b,q⟩=h e)->(results fn i.tmps).run P g=.ok k g/\∀r∈(results fn i.tmps).events P g #[],∃a b e,r=⟨.cell ⟨a,b,q⟩,m,m⟩/\d.u a b=h e
def LG{a}(l:bV D n b F a){fn}{bg}{g}(p:oC F fn.results.toList=h bg)(j:pf bg=h g):
  ∃i,(∀d,(results fn a.tmps).run P d=.ok i d)/\bx n b i g/\dB P (results fn a.tmps):=by
 obtain⟨B,s,k,o⟩:=Lw P l p;refine⟨_,λd=>?_,JR j k,?_⟩
 .have e:(fn.results.mapM (h_ a)).run P d=Result.ok B.toArray d:=QZ;unfold results;rw[cI];refine(eI (λr=>Result.andThen r _) (Eq.trans ?_ e)).trans ?_
  .congr 2
  simp
 unfold results;have e:dB P (fn.results.mapM (h_ a)):=by rw[wW];exact .map o
 exact .bind e λ_=>.pure
theorem oO.of{fn}{bg}{e}(l:oC F fn.results.toList=h bg)(d:pf bg=h e):oO P fn F e:=by intro o p t r k;obtain⟨n,a,b,j⟩:=LG (P:=P) k l d;exact⟨n,b,λg _=>⟨a g,λs i=>by rw[j g #[]]at i;grind⟩⟩
section
def bb.dZ(a:bb n b):bb (n.map λ_=>.x) b:=by
 refine⟨a.mem,by simp[a.len],λg i L aE e=>?_,a.a3,a.lt,a.own⟩;simp only[m7]at aE;cases d:n[g]? with
 |none=>grind
 |some j=>rw[d]at aE;cases aE;trivial
structure pV(nw:p Nat)(b az:a5):Prop where
 m:az.m=b.m
 u:az.u=b.u
 own:az.own=b.own
 size:b.a.heap.size<=az.a.heap.size
 a6:∀j,(b.own j∨∃(d:Nat) (L:Loc),b.m[d]?=h L/\d∉nw/\j∈L.al)->az.a.heap[j]?=b.a.heap[j]?
 mem:∀j t aa,b.u j t=h aa->az.a.cell? ⟨j,t,q⟩=h aa
 os:az.a.os=b.a.os
 tape:az.a.tape=b.a.tape
 output:az.a.output=b.a.output
def cU.kg(a:cU b az)(nw):pV nw b az:=
 ⟨a.m,a.u,a.own,a.size,λi e=>a.a6 i (e.imp id λ⟨j,L,d,_,g⟩=>⟨L,b8 d,g⟩),a.mem,a.os,a.tape,a.output⟩
theorem pV.Y{nw}{n b2}(a:pV [d] b n)(e:pV nw n b2):pV (d::nw) b b2:=by refine⟨e.m.trans a.m,e.u.trans a.u,e.own.trans a.own,fF a.size e.size,λg k=>?_,λg r s o=>e.mem g r s (by rw[a.u];exact o),e.os.trans a.os,e.tape.trans a.tape,e.output.trans a.output⟩;rw[e.a6 g,a.a6 g (k.imp id λ⟨l,L,i,j,p⟩=>⟨l,L,i,λt=>j M,p⟩)];rw[a.own,a.m];grind
def abZ{d}{b}(e:d.heap[b]?=h (.deferred (h []))):
  (Instr.takeDeferred b).run P d=.ok [] {d with heap:=d.heap.setIfInBounds b (.deferred q)}/\(Instr.takeDeferred b).events P d #[]=#[⟨.obj b,m,m⟩,⟨.obj b,f,m⟩]:=by
 have g:(getObj b).run P d=.ok (.deferred (h [])) d:=by simp[getObj,Sem.run,e]
 have i:(setObj b (.deferred q)).run P d=.ok () {d with heap:=d.heap.setIfInBounds b (.deferred q)}:=by simp[setObj,Sem.run,e]
 have k:∀a,(getObj b).events P d a=a.push ⟨.obj b,m,m⟩:=λa=>by simp only[getObj,Sem.events,Sem.runT,e];rfl
 have j:∀a,(setObj b (.deferred q)).events P d a=a.push ⟨.obj b,f,m⟩:=λa=>by simp[setObj,Sem.events,Sem.runT,e];rfl
 constructor
 .simp[Instr.takeDeferred,g,i]
 simp[Instr.takeDeferred,g,k,j]
variable {r:ai P}{eN:Bool}
def acd{a}{b}{bg}{d}(g:a.mode=.returning)(e:a.defers={target:=.collected b,args:=#[]}::bg)(j:d.heap[b]?=h (.deferred (h []))):
  aq P eN (G a ah) d=.go (G {a with defers:=bg} ah) {d with heap:=d.heap.setIfInBounds b (.deferred q)} (seen P a.fn #[⟨.obj b,m,m⟩,⟨.obj b,f,m⟩]):=by obtain⟨k,i⟩:=abZ (P:=P) j;simp[G,aq,unwind,g,e,k,i,GStep.after]
def q'(d:a5):p Deferred->p Nat->Prop
 |[],[]=>True
 |i::e,g::a=>(∃b:Nat,d.m[g]?=h ⟨.int .i64 b,[b]⟩/\d.a.heap[b]?=h (.deferred (h []))/\(∀j,d.u b j=q)/\i={target:=.collected b,args:=#[]})/\g∉a/\q' d e a
 |_,_=>False
def iX.gE{n}{b}(g:bb n b):∀{a:p Deferred}{d:p Nat},iX n b a d->q' b a d
 |[],[],_=>trivial
 |[],_::_,i=>i.elim
 |_::_,[],i=>i.elim
 |x::a,w::d,⟨⟨k,L,i,e,v,t⟩,u,l⟩=>by obtain⟨j,k1,o,r⟩:=g.box w _ L k e;subst k1;simp at v;have s:j=i:=y;subst s;exact⟨⟨j,e,o,r,t⟩,u,iX.gE g l⟩
def q'.mono{b az}{j}(i:pV [j] b az):∀{d:p Deferred}{a:p Nat},j∉a->q' b d a->q' az d a
 |[],[],_,_=>trivial
 |[],_::_,_,e=>e.elim
 |_::_,[],_,e=>e.elim
 |t::d,s::a,l,⟨⟨e,g,k,u,o⟩,r,n⟩=>by simp[fl,not_or]at l;refine⟨⟨e,by rw[i.m];exact g,by rw[i.a6 e (.inr ⟨s,_,g,by grind,by simp⟩)];exact k,λv=>by rw[i.u];grind,o⟩,r,q'.mono i l.2 n⟩
def AR:∀o(g:aK)(t:a5)j,bb j t->(∀C∈j,C=.x)->g.mode=.returning->q' t g.defers o ->
  (∀s,pV o t s->cb r bq (G {g with defers:=[]} ah) s)->cb r bq (G g ah) t
 |[],g,t,j,J,W,Q,x,U=>by
  have A:g.defers=[]:=by
   cases A:g.defers with
   |nil=>rfl
   |cons an D=>rw[A]at x;exact x.elim
  have:=U t ((cU.refl J).kg _);have aq:{g with defers:=[]}=g:=by cases g;simp_all
  grind
 |V::o,g,t,j,J,W,Q,x,U=>by
  cases A:g.defers with
  |nil=>rw[A]at x;exact x.elim
  |cons an D=>
   rw[A]at x;obtain⟨⟨l,K,H,aM,ai⟩,aj,ak⟩:=x;subst ai;refine .next a λk z=>?_;have i:=r.bM z;have v:=J.rely i;have N:k.m[V]?=h ⟨.int .i64 l,[l]⟩:=by rw[i.m];exact K
   have O:k.a.heap[l]?=h (.deferred (h [])):=by rw[i.a6 l (.inr ⟨_,b8 K,by simp⟩)];exact H
   have ao:∀p,k.u l p=q:=λp=>by rw[i.u];grind
   let d:a5:={k with a:={k.a with heap:=k.a.heap.setIfInBounds l (.deferred q)}}
   have F:∀b,b≠l->d.a.heap[b]?=k.a.heap[b]?:=λb e=>by grind
   have aa:∀b p B,k.u b p=h B->d.a.cell? ⟨b,p,q⟩=h B:=by intro b p B R;have ab:b≠l:=M;rw[<-v.mem b p B R];simp[aN];grind
   have ad:bb j d:=by
    refine⟨aa,v.len,λw C L aE n=>?_,v.a3,λL n b e=>?_,λb e=>⟨?_,(v.own b e).2⟩⟩
    .rw[W C (b8 aE)];trivial
    .have:=v.lt L n b e;grind
    have:=(v.own b e).1;grind
   have ae:∃L∈k.m,l∈L.al:=⟨_,b8 N,by simp⟩
   have Y:cN j k j d:=by refine⟨by grind,λb _ e=>F b ?_,λ_ _ _ S=>S,λ_ _ _ _=>rfl,λL n b e=>.inr ⟨L,n,e⟩,λ_ C L S ag=>⟨C,L,S,ag,.refl _ _⟩,rfl,rfl,rfl,rfl⟩;grind
   have I:pV [V] t d:=by
    refine⟨i.m,i.u,i.own,fF i.size M,λb e=>?_,λb p B R=>aa b p B (by rw[i.u];exact R),i.os,i.tape,i.output⟩;have ab:b≠l:=by
     rintro rfl;rcases e with e|⟨w,u,Z,X,y⟩
     .exact(J.own b e).2 _ (b8 K) E
     exact X (by simp;exact J.a3 w V u _ Z K b y E)
    rw[F b ab];exact i.a6 b (e.imp id λ⟨w,u,Z,_,y⟩=>⟨u,b8 Z,y⟩)
   refine⟨_,d,_,acd Q A O,⟨⟨j,j,v,ad,Y⟩,ds.seen (.fh ?_ ?_)⟩,?_⟩
   .exact⟨a,.inr ae⟩
   .exact⟨a,.inr ae⟩
   refine AR o {g with defers:=D} d j ad W Q (ak.mono I aj) λs T=>?_;exact U s (I.Y T)
end
def bt(e:Nat)(b d:Nat->p N):Prop:=∀a,a<e->b a=d a
def eW.cB{i}{dI:Nat->p N}(d:eW bB i k T B)(g:bt k T dI):eW bB i k dI B:=
 ⟨d.len,λb a=>by rw[<-g b a];exact d.bJ b a,λb a l j e=>d.rd b a l j (by rw[g b a];exact e)⟩
def C0:N->N->Option (p Prop)
 |.int k e,.int b a=>match s7 k b with|true=>h [e=a]|false=>q
 |.bool s,.bool i=>h [s=i]
 |.V t,.V l=>h [t=l]
 |.S r k e j,.S g b a d=>match af k b with
  |true=>match r,g with
   |false,f=>q
   |_,_=>h [e=a,bt e j d]
  |false=>match r,g with
   |true,_=>h [e=0,a=0]
   |_,_=>q
 |.val n,.val o=>h [n=o]
 |n,o=>h [n=o]
def JX{l X}(a:C0 l X=h ab)(g:U ab)(e:Rd bB aa l):Rd bB aa X:=by
 unfold C0 at a;split at a
 .rename_i i k j d;cases b:s7 i j<;>simp[b]at a
  subst a;cases CV b;cases(show k=d from g);exact e
 .cases a;rename_i n p;cases(show n=p from g);exact e
 .cases a;rename_i n p;cases(show n=p from g);exact e
 .rename_i o i k T r j d dI;cases b:af i j with
  |true=>
   simp[b]at a;have u:=di b;subst u;cases o<;>cases r<;>simp at a
   all_goals (subst a;obtain⟨rfl,t⟩:=(show k=d/\bt k T dI from g);first|exact e.cB t|exact e.ef.cB t)
  |false=>
   simp[b]at a;cases o<;>simp at a
   subst a;obtain⟨rfl,rfl⟩:=(show k=0/\d=0 from g)
   obtain⟨v,s,B,rfl,_,_,w,_⟩:=e.b3;grind[Rd.dH]
 .cases a;rename_i l X;cases(show l=X from g);exact e
 cases a;cases g;exact e
def vg:O->O->Option (p Prop)
 |.c s,.c t=>C0 s t
 |.r _ k j d,.c (.S m e i b)=>match af k e with|true=>h [j=i,bt j d b]|false=>q
 |.r g k j d,.r a e i b=>match af g a with
  |true=>match af k e with|true=>h [j=i,bt j d b]|false=>q
  |false=>q
 |.ptr g o,.ptr a l=>match af g a with|true=>(match af o l with|true=>h []|false=>q)|false=>q
 |.aQ g,.aQ a=>match af g a with|true=>h []|false=>q
 |.R g r,.R a n=>match af g a with|true=>h [r=n]|false=>q
 |_,.any=>h []
 |_,_=>q
def JV{l X}(e:vg l X=h ab)(s:U ab)(p:cw n b aa l):cw n b aa X:=by
 unfold vg at e;split at e
 .exact JX e s p
 .rename_i i k T g o dI;cases a:af i g<;>simp[a]at e
  subst e;have v:=di a;subst v;obtain⟨rfl,t⟩:=(show k=o/\bt k T dI from s)
  exact p.1.cB t
 .rename_i d i k T j g o dI;cases r:af d j<;>simp[r]at e
  cases a:af i g<;>simp[a]at e
  subst e;have v:=di a;have u:=di r;subst v u;obtain⟨rfl,t⟩:=(show k=o/\bt k T dI from s)
  exact⟨p.1.cB t,p.2.1,p.2.2⟩
 .grind [Nat.eq_of_beq_eq_true]
 .grind [Nat.eq_of_beq_eq_true]
 .rename_i d w j bh;cases r:af d j<;>simp[r]at e
  have u:=di r;subst u;subst e;cases(show w=bh from s);exact p
 .exact cw.cell p
 grind
def gA:p Prop->p Prop->p Prop
 |[],a=>a
 |b::d,a=>b::gA d a
@[simp] theorem U.Y{a b}:U (gA a b)↔U a/\U b:=by
 induction a with
 |nil=>simp[gA]
 |cons g e d=>simp[gA,U.cons,d,and_assoc]
def qx:p O->p O->Option (p Prop)
 |[],[]=>h []
 |d::a,e::b=>match vg d e with
  |some g=>match qx a b with
   |some i=>h (gA g i)
   |none=>q
  |none=>q
 |_,_=>q
def C1{n}{b}:∀{B:p Z}{e g:p O}{d:p Prop},qx e g=h d->U d->bM n b B e->bM n b B g
 |[],[],[],_,_,_,_=>trivial
 |_::_,[],_,_,_,_,a=>a.elim
 |[],_::_,_,_,_,_,a=>a.elim
 |[],[],_::_,_,a,_,_=>by simp[qx]at a
 |_::_,_::_,[],_,a,_,_=>by simp[qx]at a
 |w::B,s::i,t::j,d,a,k,r=>by
  simp[qx]at a;cases l:vg s t with
  |none=>grind
  |some u=>
   cases o:qx i j with
   |none=>grind
   |some v=>
    simp[l,o]at a;subst a;rw[U.Y]at k;exact⟨JV l k.1 r.1,C1 o k.2 r.2⟩
def vh:E1->E1->Option (p Prop)
 |.aq d,.aq e=>vg d e
 |.agg a,.agg b=>qx a b
 |_,_=>q
def JY{l X}(a:vh l X=h ab)(d:U ab)(e:er n b aa l):er n b aa X:=by
 cases l<;>cases X<;>simp[vh,reduceCtorEq]at a
 .exact JV a d e
 obtain⟨B,g,i⟩:=e;exact⟨B,g,C1 a d i⟩
def rJ:p E1->p E1->Option (p Prop)
 |[],[]=>h []
 |d::a,e::b=>match vh d e with
  |some g=>match rJ a b with
   |some i=>h (gA g i)
   |none=>q
  |none=>q
 |_,_=>q
def JZ{n}{b}:∀{B:p Z}{e g:p E1}{d:p Prop},rJ e g=h d->U d->eQ n b B e->eQ n b B g
 |[],[],[],_,_,_,_=>trivial
 |_::_,[],_,_,_,_,a=>a.elim
 |[],_::_,_,_,_,_,a=>a.elim
 |[],[],_::_,_,a,_,_=>by simp[rJ]at a
 |_::_,_::_,[],_,a,_,_=>by simp[rJ]at a
 |w::B,s::i,t::j,d,a,k,r=>by
  simp[rJ]at a;cases l:vh s t with
  |none=>grind
  |some u=>
   cases o:rJ i j with
   |none=>grind
   |some v=>
    simp[l,o]at a;subst a;rw[U.Y]at k;exact⟨JY l k.1 r.1,JZ o k.2 r.2⟩
def kk:z->z->Option (p Prop)
 |.q d,.q e=>vh d e
 |.Q a,.Q b=>rJ a b
 |_,.any=>h []
 |_,_=>q
theorem pg{l X}(a:kk l X=h ab)(d:U ab)(e:bx n b aa l):bx n b aa X:=by
 cases l<;>cases X<;>simp[kk,reduceCtorEq]at a
 .exact JY a d e
 .trivial
 .obtain⟨B,j,s⟩:=e;exact⟨B,j,JZ a d s⟩
 .trivial
 trivial
def iO(a:bH):bH->Option (p Prop)
 |[]=>h []
 |(d,b)::i=>match kk (look a d) b with
  |some e=>match iO a i with
   |some g=>h (gA e g)
   |none=>q
  |none=>q
def eC{F}:∀{b:bH}{a:p Prop},iO F b=h a->U a->ix F b
 |[],_,_,_=>λ_ _ _ _ _=>trivial
 |(i,n)::r,a,d,e=>by
  simp[iO]at d;cases o:kk (look F i) n with
  |none=>grind
  |some v=>
   cases g:iO F r with
   |none=>grind
   |some w=>
    simp[o,g]at d;subst d;rw[U.Y]at e;intro k s t j l;simp[look];cases u:af i j with
    |true=>
     grind[Nat.eq_of_beq_eq_true,pg]
    |false=>exact eC g e.2 k s t j l
def l2(a:p an):Bool:=match eo a with|true=>jO a|false=>m
def K4(a:l2 n=f):eo n=f/\jO n=f:=by unfold l2 at a;grind
def iX.e4{n}{b}:∀{e:p Deferred}{d:p Nat},iX n b e d->∀g∈d,n[g]?=h .bn
 |[],[],_,g,a=>by grind
 |[],_::_,j,_,_=>j.elim
 |_::_,[],j,_,_=>j.elim
 |o::e,l::d,⟨⟨i,_⟩,_,k⟩,g,a=>by
  rcases fl.1 a with rfl|a
  .exact i
  exact iX.e4 k g a
def bT(fn:Func)(o:Nat)(b:z)(d:p an):fq:=λl n i=>
 (l=.ret∨l=.normal)/\∃a e k g,oC n fn.results.toList=h e/\pf e=h k/\kk k (e7 a b)=h g/\U g/\hI (c a) b=f /\
  dv a i=h d/\l2 d=f/\e6 a=f/\(∀j,j<o->a[j]?=h j)
def kZ(P:aI)(fn:Func)(n:Nat)(b:z)(d:p an):fq:=λk l g=>
 (k=.ret∨k=.normal)/\∃a j e,oO P fn l j/\kk j (e7 a b)=h e/\U e/\hI (c a) b=f /\
  dv a g=h d/\l2 d=f/\e6 a=f/\(∀i,i<n->a[i]?=h i)
def bT.toF{fn}{g}{res}{i}{aL}(o:bT fn g res ao i F aL):kZ P fn g res ao i F aL:=by obtain⟨j,d,n,l,e,a,b,k⟩:=o;exact⟨j,d,l,e,oO.of a b,k⟩
def bk.gv{ab:ai P}{S}{fn}{args}{r:ι->p an}(rB:P.funcs[S]?=h fn)(bh:(fn.name== "runtime.NumGoroutine")=m)(cT:fn.body=h s)(aN:args.length<=fn.ntmps)(U:∀b a_,bV fn.ntmps n b (hZ 0 args) a_->bb n b->∀j bc t (I:ak->a5->Prop),j.kind≠.early->j.roundOf=q ->
  (∀aj C k az J,(∃z,kZ P fn (c n) (res z) (r z) aj C k)->bV fn.ntmps k az C J->bb k az->dc n b k az->kG ab I j bc t aj J az)->cb ab I (G (j.M a_ (.code s::bc)) t) b):bk ab S args n res r:=by
 refine⟨⟨fn,rB,bh,by grind⟩,λb B aO aI I t aF=>?_⟩;obtain⟨aL,aH⟩:=b4.get aO;let j:aK:={fn:=S,tmps:=#[],todo:=[],defers:=[],mode:=.run,kind:=.normal,roundOf:=q}
 have bt:Frame.enter P S B.toArray .normal=j.M {tmps:=B.toArray++Array.replicate (fn.ntmps-B.toArray.size) K,defers:=[]} [.code s]:=Nn;rw[bt];refine U b {tmps:=B.toArray++Array.replicate (fn.ntmps-B.toArray.size) K,defers:=[]} ⟨by grind,⟨[],v⟩,λo=>?_⟩ aI j [] t I (by simp[j]) rfl ?_
 .rw[yt];simp[gX,dH,so];have:=aH o;rcases dY o (c B) with ba|a'
  .exact PZ
  rw[wN y];trivial
 rintro aj C k a0 Q ⟨Z,ae,aR,bu,bs,av,aw,ax,aA,aa,bl,aB,bo⟩ au Y a1;obtain⟨a,bm⟩:=K4 bl;have fin:∀g d,cU a0 d->g.fn=S->g.tmps=Q.tmps->g.defers=Q.defers->g.mode=.returning->g.kind=.normal->cb ab I (G g t) d:=by
  intro g d e ah ao aq R ar;have T:=au.rely e Y;have D:=Y.rely e;have u:=a1.trans e.aR;obtain⟨a2,aX,a8⟩:=av T;obtain⟨x,ad⟩:=vP (kJ:=d.m) aa D.len;have aZ:=(pg aw ax aX).sub aa ad aA;obtain⟨bn,ag⟩:=l3 aa;obtain⟨d1,d2⟩:=l3 ad;have N:∀L∈x,L∈d.m:=DT ad;have O:bb (r Z) {d with m:=x}:=by obtain⟨F,_⟩:=D.sub aa ad a aB;refine⟨F.mem,F.len,λz X L aE i=>?_,F.a3,F.lt,λj cT=>⟨(D.own j cT).1,λL i=>(D.own j cT).2 L (N L i)⟩⟩;exact ep.plain (n:=r Z) (b:={d with m:=x,own:=oA d x}) (az:={d with m:=x}) rfl rfl (vG a X (b8 aE)) (F.box z X L aE i)
  have aM:dc n b (r Z) {d with m:=x}:=by refine⟨u.size,u.a6,u.mem,u.bF,λL i j cT=>u.bV _ (N L i) j cT,λbd X L aE i=>?_,u.os,u.tape,u.output,u.own⟩;have aL:bd<c n:=(cO.1 aE).1;obtain⟨bg,bj,bp,bq,br⟩:=u.box bd X L aE i;grind
  obtain⟨aS,a7⟩:=T.defers;refine AR aS g d _ D.dZ E R (by rw[aq];exact a7.gE D) λH l=>?_;have aU:cU {d with m:=x} {H with m:=x}:=by refine⟨rfl,l.u,l.own,l.size,λj cT=>l.a6 j (cT.imp id ?_),l.mem,l.os,l.tape,l.output⟩;rintro⟨L,i,cT⟩;obtain⟨z,aJ,rfl⟩:=hD i;have a6:z<c aR:=M;obtain⟨bx,a9,a4⟩:=d2 z _ (bI a6);obtain⟨bw,a3,W⟩:=ag z _ (bI a6);rw[bI aJ]at a9;cases a9;refine⟨_,_,a4,λaG=>?_,cT⟩;rw[a7.e4 _ aG]at W;cases W;exact vr bm _ (b8 a3) rfl
  have aC:eT H {H with m:=x}:=⟨rfl,λ_ _ _ U=>U,λ_ _ _=>rfl,λj w a2 aP=>l.mem j w a2 (by rw[<-l.u];exact aP),λj cT=>cT.imp id λ⟨L,i,cT⟩=>⟨L,by rw[l.m];grind,cT⟩⟩
  refine .aV aC (aF Z _ a2 _ ⟨ah,R,rfl,ar,fn,by grind,λV aQ=>?_⟩ (aZ.mono aU.aR.ext O.len) (O.rely aU) (aM.trans aU.aR));show(results fn g.tmps).run P V=_/\∀aj∈(results fn g.tmps).events P V #[],_;rw[ao];have bf:∀j w A,d.u j w=h A->V.cell? ⟨j,w,q⟩=h A:=λj w A U=>aQ j w A (by show H.u j w=h A;rw[l.u];exact U);refine⟨(a8 V bf).1,λaj ae=>?_⟩;obtain⟨j,w,A,aV,aW⟩:=(a8 V bf).2 aj ae;exact⟨j,w,A,aV,by show H.u j w=h A;rw[l.u];exact aW⟩
 rcases ae with rfl|rfl
 .intro pre;exact .ctl Y rfl (λ_=>DX rfl) λd e=>fin _ d e rfl rfl (hY _) rfl rfl
 exact .ctl Y rfl (λ_=>DV rfl) λd e=>fin _ d e rfl rfl (hY _) rfl rfl
def bk.hK{w:ai P}{t}{fn}{args}{k:ι->p an}(F:P.funcs[t]?=h fn)(D:(fn.name== "runtime.NumGoroutine")=m)(A:fn.body=h s)(C:args.length<=fn.ntmps)(E:∀j o,bV fn.ntmps n j (hZ 0 args) o->bb n j->∀i v g (l:ak->a5->Prop),i.kind≠.early->i.roundOf=q ->
  (∀r d a b e,(∃u,bT fn (c n) (res u) (k u) r d a)->bV fn.ntmps a b d e->bb a b->dc n j a b->kG w l i v g r e b)->cb w l (G (i.M o (.code s::v)) g) j):bk w t args n res k:=
 bk.gv F D A C λj o t B i v g l x y z=>E j o t B i v g l x y λr d a b e ⟨u,I⟩=>z r d a b e ⟨u,I.toF⟩
def bk.hg{r:ai P}{b}{fn}{args}{ao:ι->p an}(A:P.funcs[b]?=h fn)(w:(fn.name== "runtime.NumGoroutine")=m)(e:fn.body=h s)(u:args.length<=fn.ntmps)(x:bY r fn.ntmps s (λv k a=>∃j,kZ P fn n.length (res j) (ao j) v k a) (hZ 0 args) n):bk r b args n res ao:=
 bk.gv A w e u λB o b g t z d l i _ y=>x B o b g t z d l i y
def bk.intro{k:ai P}{d}{fn}{args}{a:ι->p an}(B:P.funcs[d]?=h fn)(x:(fn.name== "runtime.NumGoroutine")=m)(g:fn.body=h s)(u:args.length<=fn.ntmps)(y:bY k fn.ntmps s (λv l b=>∃w,bT fn n.length (res w) (a w) v l b) (hZ 0 args) n):bk k d args n res a:=
 bk.hK B x g u λC r d i t A e o j _ z=>y C r d i t A e o j z
def Y.intro{P}{b:ai P}{d}{fn}{s}{args}{n ao}{res}(i:P.funcs[d]?=h fn)(g:(fn.name== "runtime.NumGoroutine")=m)(a:fn.body=h s)(e:args.length<=fn.ntmps)(j:bY b fn.ntmps s (bT fn n.length res ao) (hZ 0 args) n):Y b d args n res ao:=
 (bk.intro i g a e (bY.mono j λ_ _ _ k=>⟨(),k⟩)).toY
inductive ig where
 |code (s:Code)
 |blk (id:Nat)
 |ae (all br:List ap)
def g{P}(j:ai P)(i:Nat)(a:fq):p ig->fq
 |[],l,b,d=>a l b d
 |.code r::e,.normal,b,d=>bY j i r (g j i a e) b d
 |.code _::e,l,b,d=>g j i a e l b d
 |.blk id::e,.exit k,b,d=>if k=id then g j i a e .normal b d else g j i a e (.exit k) b d
 |.blk _::e,l,b,d=>g j i a e l b d
 |.ae o n::e,.normal,b,d=>e9 j i o n (g j i a e .normal) b d
 |.ae _ _::e,l,b,d=>g j i a e l b d
section
variable {r:ai P}{be:fq}{ar:p ig}
def g.aW(a:g r D be [.code s] .normal F n):bY r D s be F n:=a
theorem g.skip(a:g r D be ar .normal F n):g r D be (.code .skip::ar) .normal F n:=bY.skip a
theorem g.seq{l X}(e:g r D be (.code l::.code X::ar) .normal F n):g r D be (.code (.seq l X)::ar) .normal F n:=by refine bY.seq (bY.mono e ?_);intro d a b i;cases d<;>exact i
theorem g.block{id}{s}(e:g r D be (.code s::.blk id::ar) .normal F n):g r D be (.code (.block id s)::ar) .normal F n:=by refine bY.block (bY.mono e ?_);intro d a b i;cases d<;>exact i
theorem g.il{id}(a:g r D be ar .normal F n):g r D be (.blk id::ar) .normal F n:=a
theorem g.region{id}{aC}(a:g r D be (.ae aC.toList aC.toList::ar) .normal F n):g r D be (.code (.region id aC m)::ar) .normal F n:=bY.region a
theorem g.hN(a:g r D be ar .normal F n):g r D be (.ae all []::ar) .normal F n:=e9.nil a
def g.dK:∀{ar:p ig},be .ret F n->g r D be ar .ret F n
 |[],a=>a
 |.code _::ar,a=>g.dK (ar:=ar) a
 |.blk _::ar,a=>g.dK (ar:=ar) a
 |.ae _ _::ar,a=>g.dK (ar:=ar) a
def g.ret(a:be .ret F n):g r D be (.code .ret::ar) .normal F n:=bY.ret (g.dK a)
def iK(id:Nat):p ig->Option (p ig)
 |[]=>q
 |.blk b::a=>match af id b with|true=>h a|false=>iK id a
 |_::a=>iK id a
def g.toExit{id}:∀{ar e:p ig},iK id ar=h e->g r D be e .normal F n->g r D be ar (.exit id) F n
 |[],_,a,_=>by cases a
 |.blk j::ar,e,a,d=>by
  simp[iK]at a;cases b:af id j with
  |true=>
   simp[b]at a;subst a;have i:=di b;simp[g,i,dH];exact d
  |false=>
   simp[b]at a;have k:id≠j:=λi=>by grind[Nat.beq_refl]
   simp[g,k,dh];exact g.toExit a d
 |.code _::ar,e,a,d=>g.toExit (ar:=ar) a d
 |.ae _ _::ar,e,a,d=>g.toExit (ar:=ar) a d
theorem g.exit{id}{b}(a:iK id ar=h b)(d:g r D be b .normal F n):g r D be (.code (.exit id)::ar) .normal F n:=bY.exit (g.toExit a d)
theorem g.cond{s}{l X}{j}{o}(b:s=.tmp o)(a:look F o=ax (.bool j))(e:j=f->g r D be (.code l::ar) .normal F n)(d:j=m->g r D be (.code X::ar) .normal F n):g r D be (.code (.cond s l X)::ar) .normal F n:=bY.cond b a e d
def g.loop{bq:Type}{s}(k:bq->Prop)(a:bq->bH)(b:bq->p an)(o:bq->Nat)(l)(w:k l)(u:ix F (a l))(t:b l=n)(round:∀l,k l->g r D (λj d e=>match j with
   |.normal=>∃i,k i/\o i<o l/\ix d (a i)/\e=b i
   |j=>g r D be ar j d e) [.code s] .normal (a l) (b l)):g r D be (.code (.loop s)::ar) .normal F n:=by refine bY.loop k a b o l w u t λi v=>bY.mono (round i v) ?_;intro j d e x;cases j<;>exact x
end
def eS{a d:Type}:p a->(p a->Option d)->Option d
 |[],b=>b []
 |i::g,b=>eS g λe=>b (i::e)
theorem hq{b:Type}(d)(a:p α->Option b):eS d a=a d:=by
 induction d generalizing a with
 |nil=>rfl
 |cons i g e=>simp[eS,e]
def yi(d:bH)(a:p ap)(g:Nat):Option (Option Bool):=
 match c6 g a with
 |some b=>match b.dst with
  |some e=>match look d e with
   |.q (.aq (.c (.bool f)))=>h (h f)
   |.q (.aq (.c (.bool m)))=>h (h m)
   |.Q []=>h q
   |_=>q
  |none=>q
 |none=>q
def yj{e}(u:yi F all w=h e){x}(g:bV D n b F x):yielded all.toArray x.tmps w=e:=by
 unfold yi at u;rw[ld]at u;unfold yielded;cases a:all[w]? with
 |none=>grind
 |some d=>
  simp[a]at u;simp[j4,a,n0];cases k:d.dst with
  |none=>grind
  |some I=>
   simp[k]at u;simp[n0];have s:=g.aH I;have key:∀aa,x.tmps.getD I K=aa->aa≠K->x.tmps[I]?=h aa:=by intro aa aj p;simp[hk]at aj;grind
   split at u
   .exact Ov
   .exact Ov
   .rename_i C;cases u;rw[C]at s;obtain⟨B,o,l⟩:=s;have i:B=[]:=by cases B with
     |nil=>rfl
     |cons _ _=>exact l.elim
    subst i;simp[hk]at o;grind
   grind
def yG(n:p (Nat×bv))(e:bH)(d:p an)(I:ap):Option (z×p an×p Prop):=
 match I.op with
 |.move l|.assign l=>h (bF e l,d,[])
 |.pick v u y=>match bF e v with
  |.q (.aq (.c (.bool f)))=>h (bF e u,d,[])
  |.q (.aq (.c (.bool m)))=>h (bF e y,d,[])
  |_=>q
 |.binOp r _ l E _=>match bF e l,bF e E with
  |.q (.aq (.c u)),.q (.aq (.c y))=>match xa r u y with
   |some (v,x)=>h (ax v,d,x)
   |none=>q
  |_,_=>q
 |.unOp r _ l=>match bF e l with
  |.q (.aq (.c u))=>match zr r u with
   |some v=>h (ax v,d,[])
   |none=>q
  |_=>q
 |.extract l C=>match bF e l with
  |.Q D=>match c6 C D with
   |some o=>h (.q o,d,[])
   |none=>q
  |_=>q
 |.alloc s=>match bW n s with
  |some j=>eS (d++[.cells s (j.zero.map O.c)]) λg=>h (aG (c d) 0,g,[])
  |none=>q
 |.box s l=>match mm (bF e l)with
  |some a=>eS (d++[.cells s a]) λg=>h (aG (c d) 0,g,[])
  |none=>q
 |.load i l=>match bW n i with
  |some j=>match bF e l with
   |.q (.aq (.ptr k b))=>match c6 k d with
    |some (.cells _ a)=>match g' j (fQ b a)with
     |some o=>h (.q o,d,[])
     |none=>q
    |_=>q
   |.q (.aq (.c (.O a)))=>match g' j (a.map O.c)with
    |some o=>h (.q o,d,[])
    |none=>q
   |_=>q
  |none=>q
 |.store i l E=>match bW n i with
  |some j=>match bF e l with
   |.q (.aq (.ptr k b))=>match c6 k d with
    |some (.cells s a)=>match mm (bF e E)with
     |some new=>match af (c new) j.size with
      |true=>match iQ b new a with
       |some w=>eS (c_.cq k (.cells s w) d) λg=>h (.any,g,[])
       |none=>q
      |false=>q
     |none=>q
    |_=>q
   |_=>q
  |none=>q
 |.fieldAddr i l B=>match lb n i B with
  |some (t,_)=>match bF e l with
   |.q (.aq (.ptr k b))=>h (aG k (b+t),d,[])
   |.q (.aq (.c (.O a)))=>h (ax (.O (fQ t a)),d,[])
   |_=>q
  |none=>q
 |.field i l B=>match lb n i B with
  |some (t,C)=>match bF e l with
   |.q (.agg a)=>match g' C (fQ t a)with
    |some o=>h (.q o,d,[])
    |none=>q
   |_=>q
  |none=>q
 |.nilCheck l=>match bF e l with
  |.q (.aq (.ptr k b))=>h (aG k b,d,[])
  |.q (.aq (.c (.O a)))=>h (ax (.O a),d,[])
  |_=>q
 |.build i parts=>match xe n (bF e) i parts.toList with
  |some a=>h (.q (.agg a),d,[])
  |none=>q
 |.buildSlice i F parts=>match rK n (bF e) i F parts.toList with
  |some (t,A)=>h (ax (.S f t F λj=>A.getD j []),d,[])
  |none=>q
 |_=>q
theorem Dm{ad}(aQ:bn P ad){l}(a:yG ad F n t=h (l,ao,cf))(p:U cf):a0 P t (bF F) n l ao:=by
 unfold yG at a;split at a
 .grind [a0.move]
 .grind [a0.assign]
 .rename_i s r j b;split at a
  .rename_i k;cases a;exact a0.pick b k
  .rename_i k;cases a;exact a0.pick b k
  grind
 .grind [a0.binOp]
 .grind [a0.unOp]
 .grind [a0.extract,ei]
 .grind [hq,a0.alloc]
 .grind [hq,a0.box]
 .rename_i o X b;split at a
  .grind [a0.ho,ei,a0.hq]
  grind
 .rename_i o X v b;split at a
  .rename_i e bp;split at a
   .rename_i d off g;split at a
    .grind [hq,mL,a0.store,ei,Nat.eq_of_beq_eq_true]
    grind
   grind
  grind
 .rename_i o X u b;split at a
  .rename_i i w C;split at a
   .rename_i d off g;cases a;exact a0.g7 aQ b g C
   .grind [a0.g8]
   grind
  grind
 .grind [a0.field]
 .grind [a0.hA,a0.hB]
 .grind [a0.build]
 .grind [a0.buildSlice]
 grind
def fa(a:Nat):Option Nat->Bool
 |some b=>ay (b+1) a
 |none=>f
def k9{b}(e:fa D b=f):∀a,b=h a->a<D:=by intro a d;subst d;exact e' e
theorem iV(b:t.guard=q){a:Act}:aV t (yielded all.toArray a.tmps)=f:=by simp[aV,b]
section
variable {ad:p (Nat×bv)}
def kE(a:aA->z):Option aA->Option (Option Int)
 |none=>h q
 |some d=>match a d with
  |.q (.aq (.c (.int _ b)))=>h (h b)
  |_=>q
def j'{a:aA->Z}(o:∀d,bx n b (a d) (η d)){l}{j}(e:kE η l=h j):(l.map a=q/\j=q)∨∃i g,l.map a=h (.int i g)/\j=h g:=by
 cases l with
 |none=>cases e;grind
 |some d=>
  right;simp[kE]at e;split at e
  .rename_i i g k;cases e;have:=o d;rw[k]at this;have:=b6 this;generalize p:a d=r at this;cases this;grind
  grind
def bS(a:Nat):Option Int->Nat
 |none=>a
 |some b=>b.toNat
def jc(d:Nat):Option Int->Option Int->p Prop
 |none,q=>[]
 |some b,q=>[0<=b,b<=d]
 |none,h a=>[0<=a,a<=d]
 |some b,h a=>[0<=b,b<=a,a<=d]
def vM{kj}{cap}(u:k<=cap){eV bp}{d a}(o:(eV=q/\d=q)∨∃l i,eV=h (.int l i)/\d=h i)(p:(bp=q/\a=q)∨∃l i,bp=h (.int l i)/\a=h i)(b:U (jc k d a))(e):(aX kj k cap eV bp q).run P e=.ok (bS 0 d,bS k a,cap) e/\bS 0 d<=bS k a/\bS k a<=k:=by
 rcases o with⟨rfl,rfl⟩|⟨n,d,rfl,rfl⟩<;>rcases p with⟨rfl,rfl⟩|⟨s,a,rfl,rfl⟩
 .exact⟨by simp[aX,bS],by simp[bS],by simp[bS]⟩
 .obtain⟨g,j⟩:0<=a/\a<=(k:Int):=b;refine⟨?_,by simp[bS],by simp[bS];omega⟩;simp[aX,bS,run_sliceBound (P:=P) e s a cap _ g y]
 .obtain⟨g,j⟩:0<=d/\d<=(k:Int):=b;refine⟨?_,by simp[bS];omega,by simp[bS]⟩;simp[aX,bS,run_sliceBound (P:=P) e n d k _ g j]
 obtain⟨g,j,t⟩:0<=d/\d<=a/\a<=(k:Int):=b;have r:=rb y;refine⟨?_,by simp[bS];omega,by simp[bS];omega⟩;simp[aX,bS,run_sliceBound (P:=P) e s a cap _ y y,run_sliceBound (P:=P) e n d a.toNat _ g y]
def k'(g)(i)(e)(a:Nat)(code)(b:0<=e)(d:e<=(a:Int))(T):(Instr.sliceBound (.int i e) a code).events P g T=T:=by simp[Instr.sliceBound,asIntOf,b,d]
def uX{kj}{cap}{eV bp}{d a}(x:k<=cap)(r:(eV=q/\d=q)∨∃l i,eV=h (.int l i)/\d=h i)(t:(bp=q/\a=q)∨∃l i,bp=h (.int l i)/\a=h i)(e:U (jc k d a))(b)(T):(aX kj k cap eV bp q).events P b T=T:=by
 have v:∀kj (o:Option Z) (p:Nat) b T,o=q->(aX kj k cap q q q).events P b T=T:=λkj o p b T _=>by simp[aX]
 rcases r with⟨rfl,rfl⟩|⟨n,d,rfl,rfl⟩<;>rcases t with⟨rfl,rfl⟩|⟨j,a,rfl,rfl⟩
 .simp[aX]
 .obtain⟨g,s⟩:0<=a/\a<=(k:Int):=e;simp[aX,k' (P:=P) b j a cap _ g y]
 .obtain⟨g,s⟩:0<=d/\d<=(k:Int):=e;simp[aX,k' (P:=P) b n d k _ g s]
 obtain⟨g,s,w⟩:0<=d/\d<=a/\a<=(k:Int):=e;have u:=rb y;simp[aX,run_sliceBound (P:=P) b j a cap _ y y,k' (P:=P) b j a cap _ y y,k' (P:=P) b n d a.toNat _ g y]
def mo(a:p UInt8):Option Int->Option Int->p UInt8
 |none,q=>a
 |some d,q=>a.drop d.toNat
 |none,h b=>a.take b.toNat
 |some d,h b=>(a.take b.toNat).drop d.toNat
theorem a0.jZ(aQ:bn P ad){eV bp}(A:t.op=.slice o l eV bp q){e}(F:bW ad o=h e)(J:e.desc=.string){b}{d p}(K:η l=ax (.V b))(r:kE η eV=h d)(C:kE η bp=h p)(E:U (jc (c b) d p)):a0 P t η n (ax (.V (mo b d p))) n:=by
 refine .aZ λj v D i=>?_;have g:=i l;rw[K]at g;replace g:=b6 g;generalize w:v l=N at g;cases g with
 |@V a _ B O=>
 have z:a.size=c b:=by rw[<-B];exact m5.symm
 obtain⟨u,x,y⟩:=vM (P:=P) (kj:=m) (k:=a.size) (cap:=a.size) (bC _) (j' i r) (j' i C) M j.a;have s:=(aQ o e F).run_underlying (Q:=j.a);rw[J]at s;have I:=uX (P:=P) (kj:=m) (k:=a.size) (cap:=a.size) (bC _) (j' i r) (j' i C) M j.a;refine⟨.string (a.extract (bS 0 d) (bS a.size p)),?_,Rd.V ?_ ?_,by simp[ac,A,w,Instr.sliceAt,s,Instr.slice,I]⟩
 .simp[ac,A,w,Instr.sliceAt,s,Instr.slice,u]
 .rw[Lib.extract_data,B,z];rw[z]at x y;cases d<;>cases p<;>simp only[mo,bS]at x y⊢
  .simp
  .simp
  .grind [List.take_of_length_le]
  rw[List.drop_take]
 cases d<;>cases p<;>simp[mo,sk,List.length_take]<;>omega
def fw(d:Nat)(a:Nat->p N):Nat->p N:=λb=>a (d+b)
def xE(eP:Bool):Option Int->Bool
 |none=>eP
 |some _=>m
theorem a0.jY(aQ:bn P ad){eV a}(S:t.op=.slice o l eV a q){e a4}(ah:bW ad o=h e)(ai:e.desc=.slice W)(aj:bW ad W=h a4){eP}{d s}(Z:∀X Y,bx n X Y (η l)->Rd X.u Y (.S eP a4.size k T))(v:kE η eV=h d)(V:kE η a=h s)(x:U (jc k d s)):
  a0 P t η n (ax (.S (xE eP s) a4.size (bS k s-bS 0 d) (fw (bS 0 d) T))) n:=by
 refine .aZ λg ak ae b=>?_;have p:=Z g _ (b l);obtain⟨M,j,B,K,R,O,N,G,ag⟩:=p.b3;rw[K]at p;obtain⟨u,an,z⟩:=vM (P:=P) (kj:=f) R (j' b v) (j' b V) x g.a;have F:=(aQ o e ah).run_underlying (Q:=g.a);rw[ai]at F;refine⟨.slice (if j=bS 0 d then M else M.map (·.add (bS 0 d*a4.size))) (bS k s-bS 0 d) (j-bS 0 d),?_,?_,by simp[ac,S,K,Instr.sliceAt,F,Instr.slice,u,uX (P:=P) (kj:=f) R (j' b v) (j' b V) x g.a]⟩
 .simp[ac,S,K,Instr.sliceAt,F,Instr.slice,u,(aQ W a4 aj).bf]
 cases p with
 |S aa D ab _ _ _ J I w A=>
  refine Rd.S aa (D+bS 0 d*a4.size) (λe C=>ab (bS 0 d+e) C) y y ?_ (λe a=>J _ y) (λao=>?_) (λe a C E r=>?_) (λe a C E r=>A _ y C E r)
  .intro i;cases s with
   |none=>simp[xE]at i;have:=N i;simp[bS];omega
   |some s=>cases i
  .rw[bm y,I y];simp[gM]
  have:=w (bS 0 d+e) y C E r;grind
def a0.iD(aQ:bn P ad){j dst}(v:t.op=.convert j dst l){e cc}{i b}{w}(o:bW ad j=h e)(x:bW ad dst=h cc)(z:cc.desc=.int b)(A:η l=ax (.int i w))(d:a7 b w):
  a0 P t η n (ax (.int b w)) n:=by refine .aZ λg r y p=>?_;have a:=p l;rw[A]at a;replace a:=b6 a;generalize s:r l=B at a;cases a;have u:=(aQ j e o).run_underlying (Q:=g.a);have k:=(aQ dst cc x).run_underlying (Q:=g.a);rw[z]at k;exact⟨.int b w,by simp[ac,v,s,convert,u,k,Conv.intToInt,r4 d],Rd.int d,by simp[ac,v,s,convert,u,k,Conv.intToInt]⟩
theorem a0.iE(aQ:bn P ad){g dst}(u:t.op=.convert g dst l){e cc}{b}(j:bW ad g=h e)(w:bW ad dst=h cc)(x:cc.desc=.string)(y:η l=ax (.V b)):
  a0 P t η n (ax (.V b)) n:=by refine .aZ λd o v k=>?_;have a:=k l;rw[y]at a;have s:=b6 a;generalize p:o l=z at s;cases s;have r:=(aQ g e j).run_underlying (Q:=d.a);have i:=(aQ dst cc w).run_underlying (Q:=d.a);rw[x]at i;exact⟨_,by simp[ac,u,p,convert,r,i];rfl,by grind,by simp[ac,u,p,convert,r,i]⟩
def uI(a:Nat->p N):Nat->Nat->Option (p UInt8)
 |_,0=>h []
 |b,d+1=>match a b with
  |[.int .u8 g]=>match uI a (b+1) d with
   |some e=>h (UInt8.ofNat g.toNat::e)
   |none=>q
  |_=>q
def GA{bB}{t:Nat->p N}:∀{i e:Nat}{j:p UInt8}{B:p Z},uI t e i=h j->c B=i->(∀g,g<i->∀k,(t (e+g))[0]?=h k->∃n,B[g]?=h n/\Rd bB n k) ->
  ∃b:p Int,B=b.map (Value.int .u8)/\j=b.map (λl=>UInt8.ofNat l.toNat)
 |0,e,j,B,d,o,_=>by cases d;exact⟨[],by grind,a⟩
 |i+1,e,j,[],d,o,_=>by grind
 |i+1,e,j,n::B,d,o,r=>by
  simp[uI]at d;split at d
  .rename_i l C;split at d
   .rename_i D u;cases d;obtain⟨E,s,v⟩:=r 0 y (.int .u8 l) M
    simp at s;subst s;cases v;obtain⟨b,z,x⟩:=GA (B:=B) u M (λg w k A=>by
     have:=r (g+1) y k M
     simpa using this)
    exact⟨l::b,by grind,by grind⟩
   grind
  grind
def LF{P}(e){g:Z->ByteArray->Sem (ForInStep ByteArray)}(i:∀d b,g (.int .u8 d) b=pure (.yield (b.push (UInt8.ofNat d.toNat)))):∀(a:p Int)b,
  (forIn (m:=Sem) (a.map (Value.int .u8)) b g).run P e=.ok ⟨b.data++(a.map λd=>UInt8.ofNat d.toNat).toArray⟩ e
 |[],b=>by simp
 |d::a,b=>by simp only[mg,List.forIn_cons,i,cI,d6,c0];rw[LF e i a];congr 2;apply Array.ext';simp[ByteArray.push]
end
def aT(o:ai P)(w:Nat)(a:p ap)(t:ap)(v:bH)(j:p an)(x:z)(e:p an):Prop:=
  ∀i k,bV w j i v k->bb j i->∀(l:aK) s g (n:ak->a5->Prop) r b,l.kind≠.early->a.toArray[r]?=h t ->
    (∀u d,bx e d u x->bb e d->dc j i e d->cb o n (G (l.M (k.put t.dst u) (.inRegion a.toArray b::s)) g) d)->cb o n (G (l.M k (.inRegion a.toArray (r::b)::s)) g) i
section
variable {r:ai P}{dE:bH}{l:z}
theorem aT.a1(N:∀n C e,bV D n C F e->aV t (yielded all.toArray e.tmps)=f)(J:a0 P t (bF F) n l ao):aT r D all t F n l ao:=by
  intro C e y j R T I Q S x u w i;refine ri u w (N _ _ _ y) λp k=>?_;have o:=j.rely k;obtain⟨O,b,g,d,s,A,M⟩:=J p e.eval o (eJ (y.rely k j));have z:=k.aR.trans (A.tooU o);have B:kx p b ((ac e.eval t).events P p.a #[]):=⟨⟨n,ao,o,s,A⟩,M⟩;cases O with
  |value E=>exact⟨_,b,E,g,.inl rfl,B,i E b d s z⟩
  |skip=>simp[Ah]at d;subst d;exact⟨_,b,K,g,.inr ⟨a,a⟩,B,i K b v s z⟩
  |_=>exact d.elim
def aT.hI(o:∀n k d,bV D n k F d->aV t (yielded all.toArray d.tmps)=m):aT r D all t F n (.Q []) n:=by intro k d s b x z l w y i u g e;exact .ctl b a (λ_=>ab' g (o _ _ _ s)) λp j=>e K p ⟨[],a,v⟩ (b.rely j) j.aR
def e9.dg{aM:bH->p an->Prop}(N:aT r D all t F n l ao)(K:∀s,t.dst=h s->s<D)(Q:e9 r D all br aM (fS t.dst l F) ao):e9 r D all (t::br) aM F n:=by
  intro S E v b C j e B idx g a x;cases idx with
  |nil=>exact a.elim
  |cons O idx=>
  refine N S E v b C j e B O idx g a.1 λT z y i d=>Q z _ ?_ i C j e B idx g a.2 λI o A u R J w k=>x I o A u R J w (d.trans k);cases M:t.dst with
  |none=>exact v.mono d b.len
  |some s=>exact(v.mono d b.len).put (K s M) y
end
abbrev bK:=p z->p an->Option (z×p an×p Prop)
def tb:p (Nat×bK)->Nat->Option bK
  |[],_=>q
  | (d,b)::e,a=>cond (af d a) (h b) (tb e a)
def bL(g:ai P)(i:a3)(j:bK):Prop:=∀args e b d a,j args e=h (b,d,a)->U a->Y g i args e b d
def a8(e:ai P)(a:p (Nat×bK)):Prop:=∀b d,tb a b=h d->bL e b d
def a8.nil{a:ai P}:a8 a []:=λ_ _ b=>by cases b
def a8.cons{b:ai P}{d}{C}{CT}(k:bL b d C)(j:a8 b CT):a8 b ((d,C)::CT):=by
  intro g i a;simp[tb]at a;cases e:af d g with
  |true=>grind[Nat.eq_of_beq_eq_true]
  |false=>rw[e]at a;exact j g i a
def n2:O->p Nat->p Nat
  |.ptr b _,a=>cond (ed b a) a (a++[b])
  |.r b _ _ _,a=>cond (ed b a) a (a++[b])
  |.aQ b,a=>cond (ed b a) a (a++[b])
  |.R b _,a=>cond (ed b a) a (a++[b])
  |_,a=>a
def Gy:p O->p Nat->p Nat
  |[],a=>a
  |b::d,a=>Gy d (n2 b a)
def p_:z->p Nat->p Nat
  |.q (.aq d),a=>n2 d a
  |.q (.agg b),a=>Gy b a
  |_,a=>a
def Gx:p z->p Nat->p Nat
  |[],a=>a
  |b::d,a=>Gx d (p_ b a)
def s6(b:Nat):p Nat->Nat->Option Nat
  |[],_=>q
  |d::e,a=>match af d b with|true=>h a|false=>s6 b e (a+1)
def JK{d}:∀{b:p Nat} {e g:Nat},s6 d b e=h g->e<=g/\b[g-e]?=h d
  |[],_,_,a=>by cases a
  |j::n,e,g,a=>by
    simp[s6]at a;cases i:af j d with
    |true=>simp_all
    |false=>
      rw[i]at a;obtain⟨k,l⟩:=JK a;grind
def tL(a:p Nat):O->Option O
  |.ptr d e=>match s6 d a 0 with|some b=>h (.ptr b e)|none=>q
  |.aQ d=>match s6 d a 0 with|some b=>h (.aQ b)|none=>q
  |.R d g=>match s6 d a 0 with|some b=>h (.R b g)|none=>q
  |.r _ _ _ _=>q
  |.c i=>h (.c i)
  |.any=>h .any
def zs(a:p Nat):p O->Option (p O)
  |[]=>h []
  |b::g=>match tL a b with
    |some d=>match zs a g with
      |some e=>h (d::e)
      |none=>q
    |none=>q
def Eu(a:p Nat):z->Option z
  |.q (.aq e)=>match tL a e with|some b=>h (.q (.aq b))|none=>q
  |.q (.agg d)=>match zs a d with|some b=>h (.q (.agg b))|none=>q
  |.Q _=>q
  |.any=>h .any
def tM(a:p Nat):p z->Option (p z)
  |[]=>h []
  |b::g=>match Eu a b with
    |some d=>match tM a g with
      |some e=>h (d::e)
      |none=>q
    |none=>q
def MQ{b j}(a:tL aO b=h j):kp aO j=b/\lW (c aO) j=f:=by
  cases b with
  |ptr d l=>
    simp[tL]at a;split at a
    · rename_i e bp
      cases a;exact EY
    grind
  |aQ d=>
    simp[tL]at a;split at a
    · rename_i e bp
      cases a;exact EY
    grind
  |R d n=>
    simp[tL]at a;split at a
    · rename_i e bp
      cases a;exact EY
    grind
  |r d i k g=>cases a
  |c o=>cases a;exact cQ
  |any=>cases a;exact cQ
def MT{aO}:∀{d b:p O},zs aO d=h b->qH aO b=d/\lg (c aO) b=f
  |[],b,a=>by cases a;exact cQ
  |d::o,b,a=>by
    simp[zs]at a;split at a
    · rename_i r l
      split at a
      · rename_i n e
        cases a;obtain⟨j,g⟩:=MQ l;obtain⟨k,i⟩:=MT e;exact⟨by simp[qH,j,k],by simp[lg,g,i]⟩
      grind
    grind
def aeo{b j}(a:Eu aO b=h j):e7 aO j=b/\hI (c aO) j=f:=by
  unfold Eu at a;split at a
  · rename_i b
    split at a
    · rename_i k e;cases a;obtain⟨d,i⟩:=MQ e;exact⟨by simp[e7,pt,d],by exact cQ⟩
    grind
  · rename_i g
    split at a
    · rename_i k e;cases a;obtain⟨d,i⟩:=MT e;exact⟨by simp[e7,pt,d],by exact cQ⟩
    grind
  · cases a
  · cases a;exact cQ
def MS{aO}:∀{d b:p z},tM aO d=h b->gq aO b=d/\g4 (c aO) b=f
  |[],b,a=>by cases a;exact cQ
  |d::o,b,a=>by
    simp[tM]at a;split at a
    · rename_i r l
      split at a
      · rename_i n e
        cases a;obtain⟨j,g⟩:=aeo l;obtain⟨k,i⟩:=MS e;exact⟨by simp[gq,j,k],by simp[g4,g,i]⟩
      grind
    grind
def By(k:p (Nat×bK))(r:bH)(l:p an)(n:aA)(o:p aA):Option (z×p an×p Prop):=
  match gN (bF r n)with
  |none=>q
  |some (s,g)=>match tb k s with
    |none=>q
    |some t=>
      let args:=k5 (o.map (bF r)++e0 g);let a:=Gx args []
      match tM a args with
      |none=>q
      |some d=>match dv a l with
        |none=>q
        |some e=>match t d e with
          |none=>q
          |some (j,b,i)=>match eo e,eo b,e6 a,ay (c a) (c b) with
            |true,f,f,f=>h (e7 (a++gJ (c l) (c b-c a)) j,c_ a b l,i)
            |_,_,_,_=>q
theorem aT.gT{J:ai P}{CT}(p:a8 J CT)(H:∀n g b,bV D n g F b->aV t (yielded all.toArray b.tmps)=f)(e:t.op=.call {callee:=.value cP,args:=ag,argTypes:=dn}){j}(i:gN (bF F cP)=h (j,cap)){C}(aw:tb CT j=h C){aL}{res}(N:tM aO (k5 (ag.toList.map (bF F)++e0 cap))=h cR)(X:dv aO n=h dd)(aq:C cR dd=h (res,aL,cf))(Z:eo dd=f)(av:eo aL=f)(y:e6 aO=f)(Y:c aO<=c aL)(ao:U cf):aT J D all t F n (e7 (aO++gJ (c n) (c aL-c aO)) res) (c_ aO aL n):=by
  obtain⟨ak,W⟩:=MS N;intro g b A u az aj ab ax aA E s v r;have S:=p j C aw _ _ _ _ _ aq ao;have T:=eJ A cP;unfold gN at i;split at i
  case h_2=>cases i
  case h_1 u0 uM he=>
    cases i;rw[he]at T;have Q:=b6 T;generalize G:b.eval cP=ae at Q;cases Q with
    |fn l a x d ad k ah o ar B=>
      have O:l=[]:=jy x;subst O;have an:b4 n g a (e0 cap):=qa (λz aa w=>⟨k z,o z M,B z aa w⟩) d;have au:b4 n g (ag.toList.map b.eval++a) (gq aO cR):=by rw[ak];exact uL ((m2 (eJ A) ag.toList).append an)
      obtain⟨fn,V,R,K⟩:=S.1;exact Gb s v (H _ _ _ A) u (λI=>(mK e V R K G I).1) (λI=>(mK e V R K G I).2) S au W X Z av y Y r
theorem aT.call{b:ai P}{CT}(g:a8 b CT){l}(r:∀n k d,bV D n k F d->aV t (yielded all.toArray d.tmps)=f)(j:t.op=.call {callee:=.value cP,args:=ag,argTypes:=dn})(a:By CT F n cP ag.toList=h (l,ao,cf))(o:U cf):aT b D all t F n l ao:=by
  unfold By at a;split at a
  · cases a
  rename_i s e i;split at a
  · cases a
  rename_i u p;simp only at a;split at a
  · cases a
  grind[aT.gT,Nat.le_of_ble_eq_true]
def Lv{g}(e:hI 0 g=f):e7 [] g=g:=by
  have k:∀{a:O},lW 0 a=f->kp [] a=a:=by intro a d;cases a<;>simp[lW]at d<;>first|rfl|simp_all
  have o:∀{b:p O},lg 0 b=f->qH [] b=b:=by
    intro b;induction b with
    |nil=>exact cQ
    |cons a r i=>
      intro e;simp[lg]at e;cases d:lW 0 a with
      |false=>grind
      |true=>simp[d]at e;simp[qH,k d,i e]
  have j:∀{a:E1},pe 0 a=f->pt [] a=a:=by
    intro a d;cases a with
    |aq a=>simp[pt,k d]
    |agg n=>simp[pt,o d]
  have l:∀{b:p E1},ol 0 b=f->tr [] b=b:=by
    intro b;induction b with
    |nil=>exact cQ
    |cons a r i=>
      intro e;simp[ol]at e;cases d:pe 0 a with
      |false=>grind
      |true=>simp[d]at e;simp[tr,j d,i e]
  cases g with
  |q t=>simp[e7,j e]
  |Q s=>simp[e7,l e]
  |any=>rfl
def Bz(g:p (Nat×bK))(k:bH)(i:aA)(j:p aA):Option (z×p Prop):=
  match gN (bF k i)with
  |none=>q
  |some (l,d)=>match tb g l with
    |none=>q
    |some n=>match tM [] (k5 (j.map (bF k)++e0 d))with
      |none=>q
      |some a=>match n a []with
        |some (b,[],e)=>match hI 0 b with
          |true=>h (b,e)
          |false=>q
        |_=>q
theorem aT.ix{P:aI}{p:ai P}{D}{all}{F}{n}{t}{CT}(i:a8 p CT){cP}{ag}{dn}{l}{cf}(y:∀n z r,bV D n z F r->aV t (yielded all.toArray r.tmps)=f)(k:t.op=.call {callee:=.value cP,args:=ag,argTypes:=dn})(b:AM.Bz CT F cP ag.toList=h (l,cf))(v:U cf):aT p D all t F n l n:=by
  unfold AM.Bz at b;split at b
  · cases b
  rename_i A s j;split at b
  · cases b
  rename_i B w;split at b
  · cases b
  rename_i g e;split at b
  case h_2=>cases b
  rename_i u o d;split at b
  case h_2=>cases b
  rename_i x;cases b;have:=aT.gT (n:=n) i y k j w e a d a a a (bC _) v;simpa[gJ,Lv x,c_]using this
structure l'(D:Nat)(n:p an)(b:a5)(FQ:Nat->z)(x:Act):Prop where
 size:x.tmps.size=D
 defers:∃nw,iX n b x.defers nw
 aH:∀o,bx n b (x.tmps.getD o K) (FQ o)
def l'.fg{e:Nat->z}{g}(d:l' D n b e g)(j:∀a n b i,bx n b i (e a)->bx n b i (look F a)):bV D n b F g:=
 ⟨d.size,d.defers,λa=>j a _ _ _ (d.aH a)⟩
def eL(a:Edge):Bool:=Region.binds .any a
structure q6{P:aI}(r:ai P)(D:Nat)(aC:Array ap)(F:bH)(bq:Nat->p an)(l:Nat->z)(R:Nat->bH)(qo s:Nat->Bool)(A:Nat->Nat->Prop)(idx:Nat->Option Nat)(dE:bH):Prop where
 kj:P.follows Departure.mixedOrders=f
 cS:∀e t,aC[e]?=h t->∀aj∈t.after,eL aj=f->aj.on<e
 e2:∀e t I,aC[e]?=h t->t.dst=h I->idx I=h e/\I<D
 dO:∀I e,idx I=h e->∃t,aC[e]?=h t/\t.dst=h I
 aZ:∀e,s e=m->bq (e+1)=bq e
 aq:∀e t,aC[e]?=h t->qo e=m->aT r D aC.toList t (R e) (bq e) (l e) (bq (e+1))
 all:∀e t,aC[e]?=h t->qo e=f->s e=m/\∀i,aT r D aC.toList t (R e) (bq i) (l e) (bq i)
 fu:∀L:Nat->Prop,(∀e t,aC[e]?=h t->L e->∀aj∈t.after,eL aj=f->L aj.on)->∀e w,A e w->(L e->L w)/\∃t,aC[e]?=h t/\((∀aj∈t.after,eL aj=f->L aj.on)->L w)
 comp:∀e ae,e<aC.size->ae<aC.size->s ae=f->e≠ae->qo e=m->(ae<e/\A e ae)∨(e<ae/\A ae e)
 e0:∀e t,aC[e]?=h t->∀o n b aa,bx n b aa (match idx o with|some w=>(if ∃aj∈t.after,eL aj=f/\aj.on=w then l w else if ∃vt,aC[w]?=h vt/\∃aj∈vt.after,eL aj=f/\aj.on=e then look F o else .any)|none=>look F o)->bx n b aa (look (R e) o)
 fin:∀o n b aa,bx n b aa (match idx o with|some w=>l w|none=>look F o)->bx n b aa (look dE o)
open Classical in
noncomputable def gx(b:bH)(e:Nat->z)(idx:Nat->Option Nat)(L:Array Bool)(a:Nat):z:=
 match idx a with
 |some d=>if L.getD d m=f then e d else look b a
 |none=>look b a
theorem pk:e∈aS .any aC L↔∃i,aC[e]?=h i/\L.getD e f=m/\∀a∈i.after,eL a=f->L.getD a.on m=f:=by
 unfold aS;simp[kB,sn,cF,j5];constructor
 .rintro⟨b,C,j⟩;rw[iz b]at j;simp only[lC,im,Array.all_eq_true',jz,j5]at j;refine⟨aC[e],iz b,C,λa d g=>?_⟩;rcases j a d with l|l
  .unfold eL at g;grind
  grind
 rintro⟨i,b,C,j⟩;have k:e<aC.size:=(i_.1 b).1;refine⟨k,C,?_⟩;rw[b];simp only[lC,im,Array.all_eq_true',jz,j5];intro a d;cases g:Region.binds .any a with
 |false=>grind
 |true=>exact .inr (j a d g)
section
variable {r:ai P}{dE:bH}{bq:Nat->p an}{l:Nat->z}{R:Nat->bH}{qo s:Nat->Bool}{A:Nat->Nat->Prop}{idx:Nat->Option Nat}
def q6.chain(k:q6 r D aC F bq l R qo s A idx dE){e}:∀{i:Nat},e<=i->(∀b,e<=b->b<i->s b=m)->bq i=bq e
 |0,g,_=>by grind
 |i+1,g,j=>by
  rcases dY i e with a|a
  .grind
  rw[k.aZ i (j i a y),k.chain (i:=i) a (λb d n=>j b d y)]
def q6.last(k:q6 r D aC F bq l R qo s A idx dE)(E:∀t,t<aC.size->L.getD t m=f){i}{e}{o}(n:i<=aC.size)(K:∀j,j<aC.size->s j=f->(L.getD j m=f↔j<i))(p:l' D (bq i) b (gx F l idx L) o)(a:bb (bq i) b)(g:dc (bq 0) e (bq i) b):
  bV D (bq aC.size) b dE o/\bb (bq aC.size) b/\dc (bq 0) e (bq aC.size) b:=by
 have x:bq aC.size=bq i:=k.chain n (λI y z=>by grind);rw[<-x]at p a g;refine⟨p.fg λv w b C u=>k.fin v w b C ?_,a,g⟩;unfold gx at u;cases d:idx v with
 |none=>grind
 |some J=>
  simp only[d]at u⊢;obtain⟨M,B,_⟩:=k.dO _ _ d;grind
theorem mx(a:e<L.size):(L.setIfInBounds e f).getD w m=f↔w=e∨L.getD w m=f:=Fp
theorem xD:∀{d:p Bool}{e:Nat},d[e]?=h m->c ((d.set e f).filter (λa=>!a))+1=c (d.filter (λa=>!a))
 |[],_,b=>by grind
 |a::g,0,b=>by grind
 |a::g,e+1,b=>by simp at b;have:=xD (d:=g) b;cases a<;>simp[List.set_cons_succ]<;>omega
theorem C5(o)(L):Region.linearise.go .any aC 0 o L []=[]:=by simp[Region.linearise.go]
theorem vk(k o)(L):Region.linearise.go .any aC (k+1) o L []=match(aS .any aC L)[o % c (aS .any aC L)]? with
  |some a=>a::Region.linearise.go .any aC k (o / c (aS .any aC L)) (L.setIfInBounds a f) []
  |none=>[]:=by
 simp only[Region.linearise.go]
 change (match(aS .any aC L)[o % c (aS .any aC L)]? with
   |some a=>Region.linearise.go .any aC k (o / c (aS .any aC L)) (L.setIfInBounds a f) [a]
   |none=>[].reverse)=_
 grind[linearise_go_acc]
def q6.eO(u:q6 r D aC F bq l R qo s A idx dE){ab:ak->a5->Prop}{t:aK}{z}(I:t.kind≠.early){cE}(aL:∀b d,bV D (bq aC.size) b dE d->bb (bq aC.size) b->dc (bq 0) cE (bq aC.size) b->cb r ab (G (t.M d z) ah) b):
  ∀K L,L.size=aC.size->c (L.toList.filter (λt=>!t))<=K ->
   (∀e B,aC[e]?=h B->L.getD e m=f->∀o∈B.after,eL o=f->L.getD o.on m=f) ->
   ∀k b d,k<=aC.size->(∀g,g<aC.size->s g=f->(L.getD g m=f↔g<k))->l' D (bq k) b (gx F l idx L) d->bb (bq k) b->dc (bq 0) cE (bq k) b ->
   ∀n,cb r ab (G (t.M d (.inRegion aC (Region.linearise.go .any aC K n L [])::z)) ah) b:=by
 have fin:∀b d,bV D (bq aC.size) b dE d->bb (bq aC.size) b->dc (bq 0) cE (bq aC.size) b->cb r ab (G (t.M d (.inRegion aC []::z)) ah) b:=
  λb d jw i7 wJ=>.ctl i7 a (λ_=>vQ) λaW aG=>aL aW d (jw.rely aG i7) (i7.rely aG) (wJ.trans aG.aR)
 intro K;induction K with
 |zero=>
  intro L aU aO J k b d b1 CO oi bO b7;have O:∀e,e<aC.size->L.getD e m=f:=by
   intro e v;have av:L[e]'y∈L.toList:=E;cases I:L[e]'y with
   |true=>simp[hk,iz (by omega:e<L.size),I]
   |false=>
    have:L[e]'y∈L.toList.filter (λt=>!t):=kB.2 ⟨av,by grind⟩;grind
  intro n;rw[C5];exact NS
 |succ K aV=>
  intro L aU aO J k b d b1 CO oi bO b7;intro n;rw[vk];cases a':(aS .any aC L)[n % c (aS .any aC L)]? with
  |none=>
   have aR:aS .any aC L=[]:=by
    cases aR:aS .any aC L with
    |nil=>rfl
    |cons bd ba=>
     grind[Nat.mod_lt]
   have O:∀e,e<aC.size->L.getD e m=f:=by
    intro e;induction e using Nat.strongRecOn with
    |_ e a7=>
     intro v;cases I:L.getD e m with
     |true=>rfl
     |false=>
      have av:e∈aS .any aC L:=pk.2 ⟨aC[e],iz v,by
       grind,λo X ae=>by
       have:=u.cS e _ (iz v) o X ae
       grind⟩
      grind
   exact NS
  |some e=>
   have v:=b8 a';obtain⟨B,w,a4,aP⟩:=pk.1 v;have aF:e<aC.size:=(i_.1 w).1;have H:¬L.getD e m=f:=M;have T:=u.fu (λV=>L.getD V m=f) J;have aB:∀j,A j e->¬L.getD j m=f:=λj an aJ=>H ((T j e an).1 aJ);have a6:∀j,A e j->L.getD j m=f:=λj an=>by grind
   have N:(L.setIfInBounds e f).size=aC.size:=M;have a8:c ((L.setIfInBounds e f).toList.filter (λt=>!t))<=K:=by have i:L.toList[e]?=h m:=QI;grind[xD]
   have a_:∀V aA,aC[V]?=h aA->(L.setIfInBounds e f).getD V m=f->∀o∈aA.after,eL o=f->(L.setIfInBounds e f).getD o.on m=f:=wv
   have aj:bV D (bq k) b (R e) d:=oi.fg λn a9 b Z Y=>u.e0 e B w n a9 b Z (by
    unfold gx at Y;cases bc:idx n with
    |none=>grind
    |some V=>
     simp only[bc]at Y⊢;split
     .grind
     .split
      .grind
      .trivial)
   have aM:∀C p Z,dc (bq k) b C p->bx C p Z (l e)->l' D C p (gx F l idx (L.setIfInBounds e f)) (d.put B.dst Z):=by
    intro C p Z W Y;cases aN:B.dst with
    |none=>
     refine⟨oi.size,oi.defers.imp λ_ i=>i.mono W.ext,λn=>?_⟩;have Q:=(oi.aH n).mono W.ext bO.len;simp only[Act.put];unfold gx at Q⊢;cases bc:idx n with
     |none=>grind
     |some V=>
      exact Oi
    |some aI=>
     obtain⟨ar,a3⟩:=u.e2 e B aI w aN;refine⟨by simp[Act.put,oi.size],oi.defers.imp λ_ i=>i.mono W.ext,λn=>?_⟩;simp only[Act.put];by_cases o:aI=n
     .subst o;have ax:aI<d.tmps.size:=by rw[oi.size];omega
      simp only[hk,uv ax,im];unfold gx;simp only[ar];rw[bs ((mx y).2 (.inl a))];exact Y
     have Q:=(oi.aH n).mono W.ext bO.len;simp only[hk]at Q⊢;rw[sy o];unfold gx at Q⊢;cases bc:idx n with
     |none=>grind
     |some V=>
      exact Oi
   have aX:∀x,x<=aC.size->aT r D aC.toList B (R e) (bq k) (l e) (bq x)->(∀g,g<aC.size->s g=f->((L.setIfInBounds e f).getD g m=f↔g<x)) ->
     cb r ab (G (t.M d (.inRegion aC (e::Region.linearise.go .any aC K (n / c (aS .any aC L)) (L.setIfInBounds e f) [])::z)) ah) b:=by intro x au aw U;have:=aw b d aj bO t z ah ab e (Region.linearise.go .any aC K (n / c (aS .any aC L)) (L.setIfInBounds e f) []) I M;simp only[wV]at this;exact this λZ p Y aq W=>aV _ N a8 a_ x p _ au U (aM _ _ _ W Y) aq (b7.trans W) _
   have same:s e=m->∀g,g<aC.size->s g=f->((L.setIfInBounds e f).getD g m=f↔g<k):=wv;cases az:qo e with
   |true=>
    obtain⟨aQ,S⟩:=u.all e B w az;exact aX k b1 (S k) (same aQ)
   |false=>
    have aE:=u.aq e B w az;have a1:bq e=bq k:=by
     rcases Nat.le_total k e with aH|aH
     .refine u.chain aH λj i ad=>?_;cases X:s j with
      |false=>rfl
      |true=>
       exfalso;rcases u.comp e j aF y X y az with⟨_,aa⟩|⟨aa,_⟩
       .grind
       omega
     refine(u.chain aH λj i ad=>?_).symm;cases X:s j with
     |false=>rfl
     |true=>
      exfalso;have a2:=(CO j y X).2 ad;by_cases ao:j=e
      .grind
      rcases u.comp e j aF y X (λo=>ao o.symm) az with⟨aa,_⟩|⟨_,aa⟩
      .omega
      grind
    rw[a1]at aE;cases aZ:s e with
    |false=>
     rw[u.aZ e aZ,a1]at aE;exact aX k b1 aE (same aZ)
    |true=>
     refine aX (e+1) y aE λg ag ai=>?_;rw[mx y];by_cases a0:g=e
     .grind
     simp only[a0,false_or];rcases u.comp e g aF ag ai (λo=>a0 o.symm) az with⟨i,aa⟩|⟨i,aa⟩
     .grind
     grind
end
def z'(P:aI):p TypeDesc->p Field->Nat->Prop
 |[],[],_=>True
 |e::a,b::d,g=>b.name≠ "_"/\b.offset=g/\P.underlying b.type=h e/\(match e with|.int _|.string|.bool=>True|_=>False)/\z' P a d (g+1)
 |_,_,_=>False
def uV(g:Nat)(b d:Array Z)(a:Field)(_:Option Bool×Unit):Sem (ForInStep (Option Bool×Unit)):=
 if a.name= "_" then pure (ForInStep.yield (q,()))
 else do
  let e<-part a.type b a.offset;let j<-part a.type d a.offset;let i<-aR g a.type e j
  if i=m then pure (ForInStep.done (h m,()))else pure (ForInStep.yield (q,()))
def LD{P}(l)(v)(ag e):∀{i:p TypeDesc}{j:p Field}{g:Nat}{B x:p Z}{n:Bool},z' P i j g->oa i B x=h n->(∀r d,B[r]?=h d->ag[g+r]?=h d)->(∀r d,x[r]?=h d->e[g+r]?=h d) ->
  (Op.eqFields (v+1) ag e j).run P l=.ok n l/\∀b,(forIn j (q,()) (uV (v+1) ag e)).events P l b=b
 |[],[],g,[],[],n,_,k,_,_=>by cases k;simp[Op.eqFields]
 |[],[],g,_::_,_,n,_,k,_,_=>by cases k
 |[],[],g,[],_::_,n,_,k,_,_=>by cases k
 |[],_::_,g,_,_,n,I,_,_,_=>I.elim
 |_::_,[],g,_,_,n,I,_,_,_=>I.elim
 |A::i,o::j,g,[],_,n,_,k,_,_=>by cases k
 |A::i,o::j,g,_::_,[],n,_,k,_,_=>by cases k
 |A::i,o::j,g,d::B,s::K,n,⟨O,T,J,V,W⟩,k,N,Q=>by
  simp[oa]at k;cases w:rv A d s with
  |none=>grind
  |some C=>
   cases U:oa i B K with
   |none=>grind
   |some X=>
    simp[w,U]at k;subst k;obtain⟨H,aa⟩:=LD l v ag e W U (λr d G=>by have:=N (r+1) d M;grind) (λr d G=>by have:=Q (r+1) d M;grind);have E:ag[g]?=h d:=by simpa using N 0 d a
    have D:e[g]?=h s:=by simpa using Q 0 s a
    have R:(isAgg o.type).run P l=.ok m l:=by unfold isAgg underlying;cases A<;>simp at V<;>simp[J]
    have y:∀t u,t[g]?=h u->(part o.type t o.offset).run P l=.ok u l:=by intro t u F;unfold part;simp[R,T,F]
    have S:∀t u,t[g]?=h u->∀b,(part o.type t o.offset).events P l b=b:=by intro t u F b;unfold part;simp[R,T,F]
    have Y:∀b,(aR (v+1) o.type d s).events P l b=b:=by
     intro b;unfold rv at w;split at w<;>first
      |(cases w;done)
      |(unfold aR;simp[underlying,J];done)
      |(unfold aR;simp[underlying,J];split<;>rfl)
    have z:(aR (v+1) o.type d s).run P l=.ok C l:=by unfold rv at w;grind[run_equalIn_int,run_equalIn_string,run_equalIn_bool]
    refine⟨?_,λb=>?_⟩
    .rw[Op.eqFields.eq_2,bs O];simp[cI,y ag d E,y e s D,z,c0];cases C
     .simp
     grind
    rw[List.forIn_cons];simp[uV,O,dh,aH,cI,y ag d E,y e s D,z,c0,aJ,S ag d E,S e s D,Y];cases C
    .simp
    simpa using aa b
def od{h4}{bg}(i:P.underlying o=h (.struct h4.toArray))(k:P.stoodInHeld o=m)(t:P.eqGuardType P.depth o=m)(l:z' P bg h4 0):
  P.eqGuardType P.depth o=m/\∀d B b e,oa bg B b=h e->(Op.equal o (.agg B.toArray) (.agg b.toArray)).run P d=.ok e d/\∀a,(Op.equal o (.agg B.toArray) (.agg b.toArray)).events P d a=a:=by
 refine⟨t,λd B b e r=>?_⟩;have w:P.fieldsOf o=h4.toArray:=by unfold Program.fieldsOf;rw[i]
 have key:=LD d 9998 B.toArray b.toArray l r (λs v n=>by grind) (λs v n=>by grind);refine⟨?_,λa=>?_⟩
 rotate_left
 .show (aR (9999+1) o _ _).events P d a=a;have p:=key.2 a;unfold aR;simp[underlying,i,k];show Result.evThen ((forIn h4 (q,()) (uV 9999 B.toArray b.toArray)).run P d) ((forIn h4 (q,()) (uV (9998+1) B.toArray b.toArray)).events P d a) _=a;rw[p];cases(forIn h4 (q,()) (uV 9999 B.toArray b.toArray)).run P d with
  |ok j g=>obtain⟨u,_⟩:=j;cases u<;>rfl
  |halt x g=>rfl
 show(aR (9999+1) o _ _).run P d=_;grind[run_equalIn_agg]
def qe:p TypeDesc->p O->p O->Option Bool
 |[],[],[]=>h f
 |.int _::b,.c (.int k e)::a,.c (.int j g)::d=>match s7 k j with
  |true=>match qe b a d with
   |some i=>h ((e==g)&&i)
   |none=>q
  |false=>q
 |.string::b,.c (.V e)::a,.c (.V g)::d=>match qe b a d with
  |some i=>h ((e==g)&&i)
  |none=>q
 |.bool::b,.c (.bool e)::a,.c (.bool g)::d=>match qe b a d with
  |some i=>h ((e==g)&&i)
  |none=>q
 |_,_,_=>q
def B4:∀{j:p TypeDesc}{g k:p O}{z:Bool}{B a:p Z},qe j g k=h z->bM n b B g->bM n b a k->oa j B a=h z:=by
 intro j;induction j with
 |nil=>
  intro g k z B a l s r;cases g<;>cases k<;>simp only[qe,reduceCtorEq]at l
  cases B<;>cases a<;>first|exact s.elim|exact r.elim|exact cQ
 |cons J j t=>
  intro g k z B a l s r;unfold qe at l;split at l
  .grind
  .rename_i d w i u A I e dI heq;cases heq;split at l
   .rename_i b1;cases CV b1;split at l
    .rename_i D C;cases l;cases B with
     |nil=>exact s.elim
     |cons x B=>cases a with
      |nil=>exact r.elim
      |cons y a=>
       obtain⟨o,v⟩:=s;obtain⟨w1,w2⟩:=r;cases(show Rd b.u x (.int i u)from o);cases(show Rd b.u y (.int i e)from w1);simp[oa,rv,t C v w2]
    grind
   grind
  .rename_i w u A e dI heq;cases heq;split at l
   .rename_i D C;cases l;cases B with
    |nil=>exact s.elim
    |cons x B=>cases a with
     |nil=>exact r.elim
     |cons y a=>
      obtain⟨o,v⟩:=s;obtain⟨w1,w2⟩:=r;cases(show Rd b.u x (.V u)from o)with
      |V E _=>
      cases(show Rd b.u y (.V e)from w1)with
      |V F _=>
      simp[oa,rv,t C v w2];grind[ByteArray.toList_eq]
   grind
  .rename_i w u A e dI heq;cases heq;split at l
   .rename_i D C;cases l;cases B with
    |nil=>exact s.elim
    |cons x B=>cases a with
     |nil=>exact r.elim
     |cons y a=>
      obtain⟨o,v⟩:=s;obtain⟨w1,w2⟩:=r;cases(show Rd b.u x (.bool u)from o);cases(show Rd b.u y (.bool e)from w1);simp[oa,rv,t C v w2]
   grind
  grind
section
variable {ad:p (Nat×bv)}
def h6:BinOp->Bool->Option Bool
 |.eql,a=>h a
 |.neq,a=>h (!a)
 |_,_=>q
def Gj{l X}{Q}{j s}(I:match l,X with|.agg _,.agg _=>True|.bool _,.bool _=>True|_,_=>False)(x:(Op.equal o l X).run P Q=.ok j Q)(u:h6 op j=h s):
  (binOp op o l X).run P Q=.ok (.bool s) Q:=by
 cases op<;>simp[h6,reduceCtorEq,eR]at u
 .exact PY
 exact PY
def If{l X}{Q}{j s}(b:match l,X with|.agg _,.agg _=>True|.bool _,.bool _=>True|_,_=>False)(e:(Op.equal o l X).run P Q=.ok j Q)(a:∀T,(Op.equal o l X).events P Q T=T)(d:h6 op j=h s)(T):
  (binOp op o l X).events P Q T=T:=by cases op<;>simp[h6,reduceCtorEq,eR]at d<;>(cases l<;>cases X<;>simp only at b<;>simp[binOp,a])
def Uc(op)(o)(l X)(ag a)(d)(b:P.eqGuardType P.depth o=m)(T):(eqGuard op o l X (.agg ag) (.agg a)).events P d T=T:=by cases op<;>simp[eqGuard,b]
theorem a0.j_(aQ:bn P ad)(y:t.op=.binOp op o l X ty){e}(r:bW ad o=h e)(F:e.eq≠[]){ah T}{j s}(J:η l=.q (.agg ah))(I:η X=.q (.agg T))(u:qe e.eq ah T=h j)(C:h6 op j=h s):a0 P t η n (ax (.bool s)) n:=by refine .aZ λa K E g=>?_;have b:=g l;have d:=g X;rw[J]at b;rw[I]at d;obtain⟨B,A,p⟩:=b;obtain⟨i,z,k⟩:=d;obtain⟨w,heq⟩:=(aQ o e r).iK F;have x:=Gj (l:=.agg B.toArray) (X:=.agg i.toArray) v (heq a.a B i j (B4 u p k)).1 C;have D:=If (l:=.agg B.toArray) (X:=.agg i.toArray) v (heq a.a B i j (B4 u p k)).1 (heq a.a B i j (B4 u p k)).2 C;refine⟨.bool s,?_,Rd.bool,by simp[ac,y,A,z,aH,run_eqGuard_agg a.a op o l X _ _ w,Uc op o l X _ _ a.a w,aJ,cI,c0,x,D,Sem.events_pure]⟩;simp[ac,y,A,z,cI,run_eqGuard_agg a.a op o l X _ _ w,c0,x,d6]
theorem a0.iw(aQ:bn P ad)(y:t.op=.binOp op o l X ty){e}(r:bW ad o=h e)(E:e.desc=.bool){g j s}(I:η l=ax (.bool g))(F:η X=ax (.bool j))(A:h6 op (g==j)=h s):a0 P t η n (ax (.bool s)) n:=by
 refine .aZ λi p C k=>?_;have b:=k l;have d:=k X;rw[I]at b;rw[F]at d;replace b:=b6 b;replace d:=b6 d;generalize x:p l=J at b;generalize z:p X=K at d;cases b;cases d;have u:P.underlying o=h .bool:=by rw[(aQ o e r).eM,E]
 have w:=Gj (P:=P) (Q:=i.a) (l:=.bool g) (X:=.bool j) v (run_equal_bool i.a o g j u) A;have D:∀a,(Op.equal o (.bool g) (.bool j)).events P i.a a=a:=λa=>by show(aR (9999+1) o _ _).events P i.a a=a;unfold aR;simp[underlying,u]
 have B:=If (P:=P) (Q:=i.a) (l:=.bool g) (X:=.bool j) v (run_equal_bool i.a o g j u) D A;refine⟨.bool s,?_,Rd.bool,by simp[ac,y,x,z,aH,eqGuard_at_bool,Sem.events_pure,d6,aJ,cI,c0,w,B]⟩;simp[ac,y,x,z,cI,eqGuard_at_bool,d6,c0,w]
def a0.kk(s:t.op=.binOp .xor o l X ty){a j}(B:η l=ax (.int .i64 a))(A:η X=ax (.int .i64 j))(I:0<=a)(w:0<=j):
  a0 P t η n (ax (.int .i64 ((a.toNat ^^^ j.toNat:Nat):Int))) n:=by
 refine .aZ λu k x i=>?_;have b:=i l;have d:=i X;rw[B]at b;rw[A]at d;replace b:=b6 b;replace d:=b6 d;generalize p:k l=C at b;generalize r:k X=D at d;cases b with|int e=>
 cases d with|int g=>
 have F:a.toNat ^^^ j.toNat<2 ^ 63:=by apply Nat.xor_lt_two_pow<;>simp[a7]at e g<;>omega
 have y:a7 .i64 ((a.toNat ^^^ j.toNat:Nat):Int):=cQ;refine⟨.int .i64 ((a.toNat ^^^ j.toNat:Nat):Int),?_,.int y,?_⟩
 rotate_left
 .simp only[ac,s,p,r,aH,qf,xW,aJ,Go.binOp,d8,hn,dh,Op.intBits,cI,c0,d6,Sem.events_pure]
 have v:((BitVec.ofInt 64 a) ^^^ (BitVec.ofInt 64 j)).toNat=a.toNat ^^^ j.toNat:=by rw[BitVec.toNat_xor,BitVec.toNat_ofInt,BitVec.toNat_ofInt];simp[a7]at e g;congr 1<;>omega
 have E:(BitVec.ofInt IntKind.i64.bits a ^^^ BitVec.ofInt IntKind.i64.bits j).toNat=a.toNat ^^^ j.toNat:=v;have z:(Go.binOp .xor o (.int .i64 a) (.int .i64 j)).run P u.a=.ok (.int .i64 ((a.toNat ^^^ j.toNat:Nat):Int)) u.a:=by simp only[Go.binOp,d8,hn,dh,Op.intBits,d6];grind[r4]
 simp only[ac,s,p,r,cI,qf,c0,z,d6]
def a0.iy(aQ:bn P ad){d dst}(S:t.op=.convert d dst l){e cc a4}(F:bW ad d=h e)(O:bW ad dst=h cc)(Y:e.desc=.slice W)(ai:cc.desc=.string)(L:bW ad W=h a4)(ak:a4.desc=.int .u8){eP}{u}(Z:∀g R,bx n g R (η l)->Rd g.u R (.S eP 1 k T))(E:uI T 0 k=h u):a0 P t η n (ax (.V u)) n:=by
 refine .du λg an r J=>?_;have i:=Z g _ (J l);obtain⟨B,H,j⟩:=oD (P:=P) r i;obtain⟨x,o,au,s,ao,ar,_⟩:=i.b3;have G:k<=9223372036854775807:=y;have aj:c B=k:=by rw[H.len];omega
 obtain⟨v,C,ab⟩:=GA (bB:=g.u) (B:=B) E aj (λag I aa av=>by
  obtain⟨R,aM,ah⟩:=H.rd ag I 0 aa M
  grind)
 have z:=(aQ d e F).run_underlying (Q:=g.a);have D:=(aQ dst cc O).run_underlying (Q:=g.a);have K:=(aQ W a4 L).run_underlying (Q:=g.a);rw[Y]at z;rw[ai]at D;rw[ak]at K;have X:c u<=9223372036854775807:=M;have ae:∃w:ByteArray,(Conv.bytesToString (.slice x k o)).run P g.a=.ok (.string w) g.a/\w.data.toList=u:=by
  cases x with
  |none=>
   have aq:u=[]:=by
    have:B=[]:=by rw[s]at j;have b:=j.1;simp[Builtin.firstCells]at b;grind
    grind
   exact⟨ByteArray.empty,by simp[Conv.bytesToString],by exact bw⟩
  |some A=>
   rw[s]at j;have b:=j.1;simp[Builtin.firstCells,Nat.mul_one]at b;refine⟨⟨#[]++(v.map λl=>UInt8.ofNat l.toNat).toArray⟩,?_,by grind⟩;simp only[Conv.bytesToString,cI,b,c0,C];rw[List.forIn_toArray,LF (P:=P) g.a (λ_ _=>rfl) v ByteArray.empty];rfl
 obtain⟨w,V,N⟩:=ae;refine⟨.string w,?_,Rd.V N X,?_⟩
 rotate_left
 .intro aw p;simp only[ac,S,s,aH,convert,z,D,aJ,c0,K,V,cI,events_underlying,Sem.events_pure]at p;cases x with
  |none=>simp[Conv.bytesToString]at p
  |some A=>
   have U:=sS (P:=P) r (i.cB (λ_ _=>rfl)) (Q:=g.a) a;rw[s]at j U;have b:=j.1;simp only[Builtin.firstCells,Nat.mul_one]at b U;unfold Conv.bytesToString at p;simp only at p;rw[aH,b,aJ,dB.bind (P:=P) ?_ λ_=>.pure]at p
   .grind [tq]
   rw[List.forIn_toArray];refine dB.hc (λl g=>?_) _ _;split
   .exact .pure
   exact .bind .stuck λ_=>.pure
 simp only[ac,S,s,cI,convert,z,D,c0,K,V,d6]
end
def rq(a:aA->z):p aA->Option (p N)
 |[]=>h []
 |g::e=>match a g with
  |.q (.aq (.c b))=>match rq a e with
   |some d=>h (b::d)
   |none=>q
  |_=>q
def BH{n}{b}{e:aA->Z}{j:aA->z}(o:∀t,bx n b (e t) (j t)):∀{d:p aA}{a:p N},rq j d=h a->c d=c a/\∀(i:Nat)k,a[i]?=h k->∃r,(d.map e)[i]?=h r/\Rd b.u r k
 |[],a,g=>by cases g;grind
 |s::B,a,g=>by
  simp[rq]at g;split at g
  .rename_i k v;split at g
   .rename_i A u;cases g;obtain⟨x,w⟩:=BH o u;refine⟨by grind,λi y l=>?_⟩;cases i with
    |zero=>
     simp at l;subst l;have:=o s;rw[v]at this;exact⟨e s,by simp,b6 this⟩
    |succ i=>grind
   grind
  grind
section
variable {ad:p (Nat×bv)}
theorem a0.makeFunc{fn}{b j}(l:t.op=.makeFunc fn b j){k i}(r:rq η b.toList=h k)(e:rq η j.toList=h i):a0 P t η n (ax (.fn fn k i)) n:=by
 refine .aZ λy a s d=>?_;obtain⟨o,p⟩:=BH d r;obtain⟨w,x⟩:=BH d e;have u:b.map a=(b.toList.map a).toArray:=M;have v:j.map a=(j.toList.map a).toArray:=M;refine⟨.func fn (b.toList.map a).toArray (j.toList.map a).toArray,?_,?_,by simp only[ac,l,Instr.makeFunc];rfl⟩
 .simp only[ac,l,Instr.makeFunc,u,v];rfl
 refine Rd.fn _ _ M M (λg=>((b.toList.map a)[g]?).getD K) (λg=>((j.toList.map a)[g]?).getD K) M M M ?_;grind
def ve:TypeDesc->Bool
 |.interface _=>f
 |_=>m
def yz(b:av):z->Option N
 |.q (.aq (.c d))=>h (.cg b d)
 |.q (.agg a)=>match h0 a with
  |some e=>h (.cD b e)
  |none=>q
 |_=>q
def aaA{g}{s}(a:yz o g=h s)(d:bx n b aa g):Rd b.u (.iface o aa) s:=by
 unfold yz at a;split at a
 .cases a;exact Rd.cg (b6 d) (b6 d).cell
 .split at a
  .rename_i r i;cases a;obtain⟨B,rfl,k⟩:=d;have e:=rr i k;refine Rd.cD (by have:=e.cM;grind) (λw=>(B[w]?).getD K) (λw j=>by grind) λw s j=>?_;obtain⟨aa,p,l⟩:=e.get (w:=w) (x:=.c s) M;rw[p];exact l
  grind
 grind
theorem a0.makeInterface(aQ:bn P ad){o}{l}(k:t.op=.makeInterface o l){e}(d:bW ad o=h e)(a:ve e.desc=m){s}(p:yz o (η l)=h s):a0 P t η n (ax s) n:=by
 refine .aZ λu i r g=>?_;have j:=(aQ o e d).run_underlying (Q:=u.a);refine⟨.iface o (i l),?_,aaA p (g l),?_⟩
 rotate_left
 .simp only[ac,k,Instr.makeInterface,aH,cI,j,aJ,c0,events_underlying];cases b:e.desc<;>rw[b]at a<;>first|(cases a;done)|simp
 simp[ac,k,Instr.makeInterface,cI,j,c0];cases b:e.desc<;>rw[b]at a<;>first|(cases a;done)|simp
def tP(a:bv):Option E1:=match a.agg with
 |true=>h (.agg (a.zero.map O.c))
 |false=>q
def aeW{e}(p:dO P o e){k}(g:tP e=h k):∃a,(zeroValue o).run P b.a=.ok a b.a/\er n b a k:=by
 obtain⟨a,v,j⟩:=p.hT n b;refine⟨a,v,?_⟩;obtain⟨w,l,u,x,A,t,y,⟨i,d⟩,z⟩:=p.c';have r:l=a:=by
  have:(zeroValue o).run P b.a=.ok l b.a:=by simp[zeroValue,typeInfo,u,t]
  grind
 subst r;unfold tP at g;cases s:e.agg with
 |true=>
  rw[s]at g d;simp[dH]at d;cases g;rw[d]at j⊢;exact⟨i.toList,by simp,by simpa[Value.cells]using j⟩
 |false=>grind
def sA(g:av)(e:bv):N->Option (E1×Bool)
 |.cg a i=>match af a g with
  |true=>h (.aq (.c i),f)
  |false=>match tP e with
   |some b=>h (b,m)
   |none=>q
 |.cD a d=>match af a g with
  |true=>h (.agg (d.map O.c),f)
  |false=>match tP e with
   |some b=>h (b,m)
   |none=>q
 |.bo=>match tP e with
  |some b=>h (b,m)
  |none=>q
 |_=>q
theorem a0.typeAssert(aQ:bn P ad){l}{S o}(aa:t.op=.typeAssert l S o f){e}(N:bW ad o=h e)(z:ve e.desc=m){s}(H:η l=ax s){y}{j}(i:sA o e s=h (y,j)):
  a0 P t η n (.Q [y,.aq (.c (.bool j))]) n:=by
 refine .aZ λb x ah V=>?_;have k:=V l;rw[H]at k;replace k:=b6 k;generalize ae:x l=A at k;have F:=(aQ o e N).run_underlying (Q:=b.a);have key:∀r j,(Instr.typeAssert A S o f).run P b.a=.ok (.tuple #[r,.bool j]) b.a->er n b r y->(Instr.typeAssert A S o f).events P b.a #[]=#[]->∃r,(ac x t).run P b.a=.ok (.value r) b.a/\bx n b r (.Q [y,.aq (.c (.bool j))])/\(ac x t).events P b.a #[]=#[]:=by intro r j k C p;refine⟨.tuple #[r,.bool j],?_,⟨[r,.bool j],a,C,Rd.bool,v⟩,by simp[ac,aa,ae,aH,k,p,aJ,Sem.events_pure]⟩;simp[ac,aa,ae,cI,k,c0,d6]
 have fail:∀I,tP e=h I->(∀J,(zeroValue o).run P b.a=.ok J b.a->(Instr.typeAssert A S o f).run P b.a=.ok (.tuple #[J,.bool m]) b.a/\(Instr.typeAssert A S o f).events P b.a #[]=#[])->y=I->j=m->∃r,(ac x t).run P b.a=.ok (.value r) b.a/\bx n b r (.Q [y,.aq (.c (.bool j))])/\(ac x t).events P b.a #[]=#[]:=by intro I D ak aj g;subst aj g;obtain⟨J,p,ao⟩:=aeW (n:=n) (aQ o e N) (b:=b) D;grind
 have E:∀ab,e.desc≠.interface ab:=by intro ab y;rw[y]at z;cases z
 cases k with
 |@cg w r s C ag=>
  simp[sA]at i;cases g:af w o with
  |true=>
   rw[g]at i;cases i;have U:=di g;subst U;refine key r f ?_ C ?_<;>
   .unfold Instr.typeAssert;simp only[cI,F,c0,aH,aJ,events_underlying];cases u:e.desc<;>first|(exact absurd u (E _))|simp
  |false=>
   rw[g]at i;have X:w≠o:=λy=>by grind[Nat.beq_refl]
   simp only at i;split at i
   .rename_i I D;cases i;refine fail _ D (λJ p=>⟨?_,?_⟩) a a<;>
    .unfold Instr.typeAssert;simp only[cI,F,c0,aH,aJ,events_underlying];cases u:e.desc<;>first|(exact absurd u (E _))|simp[X,p]
   grind
 |@cD w B d R aq an G=>
  simp only[sA]at i;cases g:af w o with
  |true=>
   rw[g]at i;cases i;have U:=di g;subst U;refine key (.agg B.toArray) f ?_ ⟨B,a,?_⟩ ?_
   rotate_left 2
   .unfold Instr.typeAssert;simp only[F,aH,aJ,events_underlying];cases u:e.desc<;>first|(exact absurd u (E _))|simp
   .unfold Instr.typeAssert;simp only[cI,F,c0];cases u:e.desc<;>first|(exact absurd u (E _))|simp
   have go:∀B d,c B=c d->(∀(T:Nat) s,d[T]?=h s->∃r,B[T]?=h r/\Rd b.u r s)->bM n b B (d.map O.c):=by
    intro B;induction B with
    |nil=>intro d R _;cases d with|nil=>trivial|cons _ _=>grind
    |cons r B W=>
     intro d R K;cases d with
     |nil=>grind
     |cons s d=>
      obtain⟨ar,Z,Y⟩:=K 0 s rfl;simp at Z;subst Z;exact⟨Y,W d M (λT s ai=>by simpa using K (T+1) s M)⟩
   grind
  |false=>
   rw[g]at i;have X:w≠o:=λy=>by grind[Nat.beq_refl]
   simp only at i;split at i
   .rename_i I D;cases i;refine fail _ D (λJ p=>⟨?_,?_⟩) a a<;>
    .unfold Instr.typeAssert;simp only[cI,F,c0,aH,aJ,events_underlying];cases u:e.desc<;>first|(exact absurd u (E _))|simp[X,p]
   grind
 |bo=>
  simp only[sA]at i;split at i
  .rename_i I D;cases i;refine fail _ D (λJ p=>⟨?_,?_⟩) a a<;>
   .unfold Instr.typeAssert;simp only[cI,F,c0,aH,aJ,events_underlying];cases u:e.desc<;>first|(exact absurd u (E _))|simp[p]
  grind
 |_=>simp[sA]at i
end
def uD(e:BinOp)(g:IntKind)(d:Int)(b:IntKind)(a:Int):Option (Int×p Prop):=
 match g with
 |.u64=>match e with
  |.shl=>h (((d.toNat*2 ^ a.toNat % 18446744073709551616:Nat):Int),[0<=a,a<=64])
  |.shr=>h (((d.toNat / 2 ^ a.toNat:Nat):Int),[0<=a,a<=64])
  |.and=>match b with|.u64=>h (((d.toNat &&& a.toNat:Nat):Int),[])|_=>q
  |.xor=>match b with|.u64=>h (((d.toNat ^^^ a.toNat:Nat):Int),[])|_=>q
  |_=>q
 |_=>q
section
variable {ad:p (Nat×bv)}
theorem Gm{a}(b:a7 .u64 a):(BitVec.ofInt IntKind.u64.bits a).toNat=a.toNat:=by rw[BitVec.toNat_ofInt];simp[a7]at b;simp[IntKind.bits];omega
def abT{i d}{a j s}(o)(b:uD op i a d j=h (s,cf))(e:U cf)(g:a7 i a)(r:a7 d j)(k):
  a7 i s/\(Go.binOp op o (.int i a) (.int d j)).run P k=.ok (.int i s) k/\(Go.binOp op o (.int i a) (.int d j)).events P k #[]=#[]:=by
 unfold uD at b;split at b
 .split at b
  .cases b;obtain⟨p,n⟩:0<=j/\j<=64:=e;have w:a.toNat*2 ^ j.toNat % 18446744073709551616<18446744073709551616:=pZ _ b';simp[a7]at g;refine⟨by simp[a7];omega,?_⟩;have u:IntKind.wrap .u64 (a*2 ^ (min j.toNat IntKind.u64.bits))=((a.toNat*2 ^ j.toNat % 18446744073709551616:Nat):Int):=by have l:min j.toNat IntKind.u64.bits=j.toNat:=Q';have t:a=(a.toNat:Int):=y;rw[l,t];simp only[IntKind.wrap,IntKind.bits,IntKind.signed,c1];grind
   exact O8
  .cases b;obtain⟨p,n⟩:0<=j/\j<=64:=e;simp[a7]at g;have v:a.toNat / 2 ^ j.toNat<=a.toNat:=Nat.div_le_self _ _;refine⟨by simp[a7];grind,?_⟩;have u:a.fdiv (2 ^ (min j.toNat IntKind.u64.bits))=((a.toNat / 2 ^ j.toNat:Nat):Int):=by have l:min j.toNat IntKind.u64.bits=j.toNat:=Q';grind
   exact O8
  .split at b
   .cases b;have n:a.toNat &&& j.toNat<=a.toNat:=Nat.and_le_left;have I:a7 .u64 ((a.toNat &&& j.toNat:Nat):Int):=by simp[a7]at g⊢;omega
    refine⟨I,?_⟩;have aj:(BitVec.ofInt IntKind.u64.bits a &&& BitVec.ofInt IntKind.u64.bits j).toNat=a.toNat &&& j.toNat:=by grind[Gm]
    exact O1
   grind
  .split at b
   .cases b;have I:a7 .u64 ((a.toNat ^^^ j.toNat:Nat):Int):=by simp[a7]at g r⊢;have:a.toNat ^^^ j.toNat<2 ^ 64:=Nat.xor_lt_two_pow y y;omega
    refine⟨I,?_⟩;have aj:(BitVec.ofInt IntKind.u64.bits a ^^^ BitVec.ofInt IntKind.u64.bits j).toNat=a.toNat ^^^ j.toNat:=by grind[Gm]
    exact O1
   grind
  grind
 grind
theorem a0.bits{i e}{u j s}(y:t.op=.binOp op o l X ty)(E:η l=ax (.int i u))(C:η X=ax (.int e j))(B:uD op i u e j=h (s,cf))(r:U cf):
  a0 P t η n (ax (.int i s)) n:=by
 refine .aZ λF g z d=>?_;have a:=d l;have b:=d X;rw[E]at a;rw[C]at b;replace a:=b6 a;replace b:=b6 b;generalize v:g l=I at a;generalize w:g X=J at b;cases a with|int k=>
 cases b with|int p=>
 obtain⟨D,x,A⟩:=abT (P:=P) o B r k p F.a;exact⟨.int i s,by simp[ac,y,cI,v,w,qf,c0,x,d6],.int D,by simp[ac,y,v,w,qf,xW,x,A]⟩
end
def lm(e:Nat)(a:p N)(b:Nat->p N):Nat->p N:=λd=>if d=e then a else b d
def nH(e b:Nat)(g:p N)(a:Nat->p N):Nat->p N:=λd=>if e<=d/\d<b then g else a d
section
variable {ad:p (Nat×bv)}{C:Nat}{i:Nat}
def Gw(z:bb n b)(r:n[d]?=h (.h W i k T)){l s}(x:cw n b aa (.R d (.bx C l e s)))(E:C=k):
  ∃g j B a,b.m[d]?=h ⟨.slice (h ⟨g,0,q⟩) 0 j,[g]⟩/\aa=.pointer (h ⟨g,e*l+s,q⟩)/\b.a.heap[g]?=h (.cells (B++a).toArray W (0,0))/\c (B++a)=j*i/\k<=j/\j<=9223372036854775807/\eW b.u i k T B/\∀v,b.u g v=q:=by
 obtain⟨I,⟨g,j,u,y⟩,_,O⟩:=x;obtain⟨L,t,p⟩:=(O _ _ _ _ r).2 E;rw[u]at p;rcases z.box d _ L r t with⟨_,rfl⟩|⟨N,gZ,B,a,rfl,X,o,F,w,D,A⟩
 .cases p
 cases p;exact⟨g,j,B,a,t,y,X,o,F,w,D,A⟩
def DH{C:Nat->Z}:∀{bg:p N}{A:Nat},(∀d e,bg[d]?=h e->Rd b.u (C (A+d)) e)->bM n b ((aD (c bg)).map λd=>C (A+d)) (bg.map O.c)
 |[],A,_=>trivial
 |i::bg,A,g=>by rw[fj,wM];refine⟨g 0 i a,?_⟩;have:=DH (bg:=bg) (A:=A+1) (λd e j=>by have:=g (d+1) e M;rwa [show A+1+d=A+(d+1) by omega]);grind[Function.comp_def]
theorem a0.jd(aQ:bn P ad)(K:t.op=.indexAddr o l X){e a4}(j:bW ad o=h e)(N:e.desc=.slice W)(z:bW ad W=h a4){r}{w}{k}(H:η l=cy d (.S C a4.size r A))(E:η X=ax (.int k w))(ab:0<=w)(M:w<A):a0 P t η n (cy d (.bx C a4.size (r+w.toNat) 0)) n:=by
 refine .aZ λD g R b=>?_;have B:=b l;rw[H]at B;have a:=b X;rw[E]at a;replace a:=b6 a;generalize O:g X=Y at a;cases a;have x:=B;change cw n D (g l) (.R d _)at x;obtain⟨p,⟨ae,J,v,I,F,L,G,aa,Z,U⟩,T,S⟩:=x;obtain⟨u,rfl,rfl⟩:=U y;have s:=(aQ o e j).run_underlying (Q:=D.a);rw[N]at s;obtain⟨i,rfl⟩:∃i:Nat,w=i:=⟨w.toNat,by omega⟩
 have V:i<A:=y;refine⟨.pointer (h ⟨u,(r+i)*a4.size,q⟩),?_,⟨p,⟨u,I,Z,by simp⟩,T,S⟩,?_⟩<;>
 simp[ac,K,F,O,Instr.indexAt,asIntOf,s,(aQ W a4 z).bf,gM,V,jA]
def a0.iR(aQ:bn P ad){r}(s:t.op=.fieldAddr o l r){A i}{w}(F:η l=cy d (.bx C A e i))(u:lb ad o r=h (off,w)):a0 P t η n (cy d (.bx C A e (i+off))) n:=by refine .aZ λD j z b=>?_;have a:=b l;rw[F]at a;have k:=a;change cw n D (j l) (.R d _)at k;obtain⟨g,⟨p,E,B,v⟩,y,x⟩:=k;exact⟨.pointer (h ⟨p,e*A+i+off,q⟩),by simp[ac,s,v,yX aQ u],⟨g,⟨p,E,B,by grind⟩,y,x⟩,by simp[ac,s,v,xX aQ u]⟩
theorem a0.jB(o:t.op=.nilCheck l){k p}(v:η l=cy d (.bx C k e p)):a0 P t η n (cy d (.bx C k e p)) n:=by refine .aZ λw b s g=>?_;have a:=g l;rw[v]at a;have r:=a;have i:=a;change cw n w (b l) (.R d _)at i;obtain⟨u,⟨x,B,A,j⟩,z,y⟩:=i;exact⟨b l,by simp[ac,o,j],r,by simp[ac,o,j]⟩
theorem a0.jk(aQ:bn P ad)(v:t.op=.call {callee:=.builtin .len,args:=#[l],argTypes:=dn})(O:dn[0]?=h o){e}(b:bW ad o=h e)(u:e.desc=.slice W){D y}(N:η l=cy d (.S C D y A)):a0 P t η n (ax (.int .i64 A)) n:=by
 refine .aZ λr i w g=>?_;have a:=g l;rw[N]at a;have j:=a;change cw n r (i l) (.R d _)at j;obtain⟨x,⟨F,s,k,z,B,S,M,E,R,K⟩,J,I⟩:=j;have p:=(aQ o e b).run_underlying (Q:=r.a);rw[u]at p;refine⟨.int .i64 A,?_,Rd.int cQ,?_⟩<;>
 simp[ac,v,resolve,invoke,builtin,Builtin.len_,B,p,goInt,O]
theorem a0.sliceB(aQ:bn P ad){eV bp}(J:t.op=.slice o l eV bp q){e a4}(X:bW ad o=h e)(N:e.desc=.slice W)(z:bW ad W=h a4){M}{k v}(H:η l=cy d (.S C a4.size M A))(s:kE η eV=h k)(O:kE η bp=h v)(u:U (jc A k v)):a0 P t η n (cy d (.S C a4.size (M+bS 0 k) (bS A v-bS 0 k))) n:=by
 refine .aZ λg D S b=>?_;have p:=b l;rw[H]at p;have I:=p;change cw n g (D l) (.R d _)at I;obtain⟨B,⟨F,w,i,R,E,K,ab,aa,Z,Y⟩,V,T⟩:=I;obtain⟨r,ae,G⟩:=vM (P:=P) (kj:=f) K (j' b s) (j' b O) u g.a;have x:=(aQ o e X).run_underlying (Q:=g.a);rw[N]at x;refine⟨.slice (if i=bS 0 k then F else F.map (·.add (bS 0 k*a4.size))) (bS A v-bS 0 k) (i-bS 0 k),?_,⟨B,⟨_,w,_,R,a,by omega,by omega,aa,Z,λag=>?_⟩,V,T⟩,by simp[ac,J,E,Instr.sliceAt,x,Instr.slice,r,uX (P:=P) (kj:=f) K (j' b s) (j' b O) u g.a]⟩
 .simp[ac,J,E,Instr.sliceAt,x,Instr.slice,r,(aQ W a4 z).bf]
 obtain⟨j,rfl,rfl⟩:=Y y;exact QM
def a0.e6(aQ:bn P ad)(u:t.op=.load o l){p}{F}{aj}(ae:η l=cy d (.bx C i e p))(D:C=k)(J:n[d]?=h (.h W i k T))(y:bW ad o=h F)(S:g' F ((fQ p (T e)).map O.c)=h aj)(Y:e<k):a0 P t η n (.q aj) n:=by
 refine .du λb R I Q=>?_;have x:=Q l;rw[ae]at x;obtain⟨j,au,B,aq,ab,G,ag,H,an,L,z,ao⟩:=Gw I J x D;have aM:=z.bJ e Y;let C:Nat->Z:=λa=>B.getD (e*i+a) K;have D:∀a s,(fQ p (T e))[a]?=h s->B[e*i+(p+a)]?=h (C (p+a))/\Rd b.u (C (p+a)) s:=by intro a s g;rw[ru,pY]at g;obtain⟨v,ak,ar⟩:=z.rd e Y (p+a) s g;grind
 have N:=DH (n:=n) (b:=b) (C:=C) (bg:=fQ p (T e)) (A:=p) (λa s g=>(D a s g).2);have U:∀a v,((aD (c (fQ p (T e)))).map λa=>C (p+a))[a]?=h v->b.a.cell? ⟨j,e*i+p+a,q⟩=h v:=by
  intro a v g;simp[m7]at g;by_cases V:a<c (fQ p (T e))
  .simp[V]at g;subst g;have ah:=(D a _ (bI V)).1;simp[aN,ag];grind
  grind
 obtain⟨v,X,aa⟩:=tu (b:=b) (n:=n) (P:=P) (aQ o F y) (j:=j) (off:=e*i+p) (aj:=aj) U N S;refine⟨v,by simp[ac,u,G,Instr.loadAt,Instr.sureAddr,X],aa,λw r=>?_⟩;have ai:w∈(loadVar o ⟨j,e*i+p,q⟩).events P b.a #[]:=by have aj:ac R t=(do pure (.value (<-loadVar o ⟨j,e*i+p,q⟩))):=Q3;rw[aj]at r;simpa[X]using r
 obtain⟨a,g,rfl⟩:=o7 (aQ o F y) (k:=c (fQ p (T e))) (λa g=>⟨_,U a (C (p+a)) M⟩) (by have:=r3 S;grind) w ai;exact qh (b8 ab) E
def eW.put{jt}{b}{gB ci}(o:eW bB i k T B)(r:e<k)(J:iQ b gB (T e)=h ci)(A:c jt=c gB)(E:∀(g:Nat)n,gB[g]?=h n->∃aa,jt[g]?=h aa/\Rd bB aa n):
  e*i+b+c jt<=c B/\eW bB i k (lm e ci T) (B.take (e*i+b)++jt++B.drop (e*i+b+c jt)):=by
 obtain⟨x,u⟩:=D4 J;have Q:=o.bJ e r;have z:e*i+i<=k*i:=by have:=gV i (show e+1<=k by omega);grind
 have N:=o.len;have D:e*i+b+c jt<=c B:=y;have I:∀j,(B.take (e*i+b)++jt++B.drop (e*i+b+c jt))[j]?=if j<e*i+b then B[j]? else if j<e*i+b+c jt then jt[j-(e*i+b)]? else B[j]?:=by
  intro j;have l:c (B.take (e*i+b))=e*i+b:=M;by_cases p:j<e*i+b
  .grind
  rw[bm p];by_cases t:j<e*i+b+c jt
  .grind
  rw[bm t,hl M,pY];grind
 refine⟨D,⟨by grind,λd s=>?_,λd s g n a=>?_⟩⟩
 .simp only[lm];split
  .grind
  exact o.bJ d s
 simp[lm]at a;rw[I];split at a
 .rename_i w;subst w;rw[u]at a;by_cases p:g<b
  .rw[mh,ky M,ik,bs p]at a;rw[bs y];exact o.rd d r g n a
  by_cases t:g<b+c gB
  .rw[mh,hl M,ky M]at a;obtain⟨aa,v,F⟩:=E _ n a;refine⟨aa,?_,F⟩;rw[bm y,bs y,<-v];congr 1;grind
  rw[hl M,pY]at a;rw[bm y,bm y];refine o.rd d r g n ?_;grind
 rename_i w;have O:g<i:=by have:=(cO.1 a).1;have:=o.bJ d s;omega
 rcases dY d e with C|K
 .have:(d+1)*i<=e*i:=gV i C;rw[jA,Nat.one_mul]at this;rw[bs y];exact o.rd d s g n a
 have:(e+1)*i<=d*i:=gV i y;rw[jA,Nat.one_mul]at this;rw[bm y,bm y];exact o.rd d s g n a
def bb.gz(s:bb n b)(u:n[d]?=h (.h W i k T)){r o}{e}(Q:b.m[d]?=h ⟨.slice (h ⟨j,0,q⟩) 0 e,[j]⟩)(X:c (B++r)=e*i)(F:k<=e)(I:e<=9223372036854775807){g:Nat->p N}(w:b.a.heap[j]?=h (.cells (B++r).toArray W (0,0)))(O:eW b.u i k g o)(V:c o=c B)(J:∀D,b.u j D=q):
  bb (n.set d (.h W i k g)) {b with a:=b.a.setRow j (o++r).toArray}/\cN n b (n.set d (.h W i k g)) {b with a:=b.a.setRow j (o++r).toArray}:=by
 have C:(b.a.setRow j (o++r).toArray).heap[j]?=h (.cells (o++r).toArray W (0,0)):=setRow_heap b.a j _ _ W _ w;have A:∀l,l≠j->(b.a.setRow j (o++r).toArray).heap[l]?=b.a.heap[l]?:=λl t=>setRow_other b.a j l _ t;have S:b.m.set d ⟨.slice (h ⟨j,0,q⟩) 0 e,[j]⟩=b.m:=mV;obtain⟨G,R⟩:=s.b9 (cd:=b.u) (bh:=b.a.setRow j (o++r).toArray) (d':=.h W i k g) (cm:=⟨.slice (h ⟨j,0,q⟩) 0 e,[j]⟩) u Q ⟨λ_=>rfl,bC _⟩ E
  (λl t y=>A l M) (λ_ _ _ _=>rfl) (λ_ _ _ x=>x) (λl v K z=>by
   have U:l≠j:=M;have:=s.mem l v K z;rw[<-this];simp[aN]
   grind) (λl t=>⟨.inl t,by grind⟩) a a a
  (.inr ⟨j,e,o,r,rfl,C,by grind,F,I,O,J⟩)
 grind
def L4{e:Type}:∀{new d:p e},c new=c d->iQ 0 new d=h new
 |[],[],_=>rfl
 |[],_::_,g=>by grind
 |_::_,[],g=>by grind
 |j::b,i::a,g=>by simp[iQ,L4 (new:=b) (d:=a) M]
def a0.h2(aQ:bn P ad)(U:t.op=.store o l X){j}{z}{new}{gB ci}(ak:η l=cy d (.bx C i e j))(ah:C=k)(w:n[d]?=h (.h W i k T))(v:bW ad o=h z)(aj:mm (η X)=h new)(J:c new=z.size)(G:h0 new=h gB)(F:c (T e)=i->iQ j gB (T e)=h ci)(Z:e<k):
  a0 P t η n .any (n.set d (.h W i k (lm e ci T))):=by
 intro D b u x;have s:=x l;rw[ak]at s;obtain⟨y,an,B,p,R,aM,I,H,ab,ae,S,Q⟩:=Gw u w s ah;have A:=uN aj (x X);have O:=rr G A;have L:=bM.eV O;have ar:(b X).cells.toList.length=c gB:=by have:=O.cM;grind
 replace F:=F (S.bJ e Z);obtain⟨aw,K⟩:=S.put Z F ar L;have Y:(b X).cells.size=z.size:=by rw[<-J,<-A.cM,m5]
 obtain⟨ai,ag⟩:=u.gz w R H ab ae I K M Q;have V:=run_storeCells_at P y (e*i+j) W (b X).cells.toList 0 (B++p).toArray D.a I M A.cell;have aa:((B++p).toArray.toList.take (e*i+j+0)++(b X).cells.toList++(B++p).toArray.toList.drop (e*i+j+0+(b X).cells.toList.length))=B.take (e*i+j)++(b X).cells.toList++B.drop (e*i+j+(b X).cells.toList.length)++p:=M;rw[aa]at V;refine⟨.skip,_,?_,a,ai,ag,?_⟩
 .simp[ac,U,aM,Instr.storeAt,Instr.sureAddr,storeVar,(aQ o z v).bf,Y,V]
 intro r g;have ao:ac b t=(do storeVar o ⟨y,e*i+j,q⟩ (b X);pure .skip):=by simp[ac,U,aM,Instr.storeAt,Instr.sureAddr]
 rw[ao]at g;have aq:r∈(storeCells ⟨y,e*i+j,q⟩ (b X).cells.toList).events P D.a #[]:=by
  simp[storeVar,aH,(aQ o z v).bf,Y,aJ,events_sizeOf,d8,hn,dh,cI,c0,Sem.events_pure]at g;generalize(storeCells ⟨y,e*i+j,q⟩ (b X).cells.toList).run P D.a=au at g;cases au with
  |ok az N=>simpa using g
  |halt l N=>simpa using g
 rcases nc (b X).cells.toList 0 (B++p).toArray D.a #[] I M A.cell r aq with av|⟨ax,_,_,rfl⟩
 .grind
 exact ob (b8 R) E (Q _)
end
section
def bb.fv(k:bb n b)(r:∀a,b.u j a=q)(s:∀a e,B[a]?=h e->b.a.cell? ⟨j,a,q⟩=h e):
  bb (n.map λ_=>.x) {b with u:=λd a=>if d=j then B[a]? else b.u d a}/\∀d a e,b.u d a=h e->(if d=j then B[a]? else b.u d a)=h e:=by
 have g:=k.dZ;refine⟨⟨λd a e i=>?_,g.len,λt p L aE o=>?_,g.a3,g.lt,g.own⟩,λd a e i=>?_⟩
 .by_cases l:d=j
  .grind
  simp[l,dh]at i;exact g.mem d a e i
 .have:=b8 aE;simp at this;rw[<-this.2];trivial
 grind
def ds.gG{e}{T}(s:ds {b with u:=e} T){L}(x:L∈b.m)(t:j∈L.al)(w:∀i l g,b.u i l=h g->e i l=h g)(v:∀i l g,e i l=h g->i=j∨b.u i l=h g):ds b T:=by
 intro o r;have d:=s o r;unfold h1 at d⊢;split at d
 .obtain⟨jw,i7,a⟩:=d;refine⟨jw,i7,?_⟩;rcases a with a|⟨a,k⟩|⟨a,g,k⟩
  .grind
  .refine .inr (.inl ⟨a,λp=>?_⟩);have:=k p;rename_i n _;cases u:b.u n.block n.off with
   |none=>rfl
   |some g=>grind
  grind
 all_goals exact d
end
def nd(e:Nat)(a:Nat->Nat->Z):Nat->p N:=λb=>(aD e).map λd=>.val (a b d)
theorem sU{i}{a:Nat->Nat->Z}{s}(b:(nd i a e)[w]?=h s):w<i/\s=.val (a e w):=by
 have d:w<i:=by have:=(cO.1 b).1;simpa[nd]using this
 simp[nd,d]at b;grind
def Cq{i}{a:Nat->Nat->Z}(b:w<i):(nd i a e)[w]?=h (.val (a e w)):=by simp[nd,b]
def Rd.exact{bB}{aa}{o}{i k}{d:Nat->p N}(C:Rd bB aa (.S o i k d)):
  ∃l:Nat->Nat->Z,Rd bB aa (.S o i k (nd i l))/\(∀a,a<k->c (d a)=i)/\∀a,a<k->∀b j,(d a)[b]?=h j->Rd bB (l a b) j:=by
 cases C with
 |S z r l y v x w u D n=>
  have A:∀a,a<k->∀b,b<i->∃j,(d a)[b]?=h j:=λa e b g=>⟨_,bI M⟩
  refine⟨l,.S z r l y v x (λa _=>by simp[nd]) u (λa e b j g=>?_) (λa e b j g=>?_),w,n⟩
  .grind [sU]
  obtain⟨s,rfl⟩:=sU g;obtain⟨B,t⟩:=A a e b s;exact .val (n a e b B t).cell
def DG{i}{L}{e s}{cap}(aE:n[d]?=h (.h W i k T))(p:b.m[d]?=h L)(l:L.v=.slice s 0 cap)(r:k<=cap)(o:cap<=9223372036854775807)(x:0<cap->∃g,s=h ⟨g,0,q⟩/\e=h ⟨g,0,q⟩):cw n b (.slice e k cap) (.R d (.S k i 0 k)):=
 ⟨L.v,⟨e,s,cap,cap,rfl,r,by omega,o,l,λv=>by grind⟩,(cO.1 aE).1,λw t u j a=>by rw[aE]at a;cases a;exact⟨bC _,λ_=>⟨L,p,rfl⟩⟩⟩
def Ga{a4}(u:j1 P t l X W a4){A}{bA}{o:Nat->p N}{ai:aA->Z}(v:bb n b)(br:cw n b (ai l) (.R d (.S k a4.size 0 k)))(Q:n[d]?=h (.h W a4.size k T))(au:Rd b.u (ai X) (.S bA a4.size A o))(H:(k+A)*a4.bytes<=140737488355328):
  ∃a8 ah,(ac ai t).run P b.a=.ok a8 ah.a/\Ah (n.set d (.h W a4.size (k+A) (ce k T o))) ah a8 (cy d (.S (k+A) a4.size 0 (k+A)))/\bb (n.set d (.h W a4.size (k+A) (ce k T o))) ah/\cN n b (n.set d (.h W a4.size (k+A) (ce k T o))) ah/\ds b ((ac ai t).events P b.a #[]):=by
 obtain⟨bR,t2,g,cc,a3,e,J,aC,aE⟩:=u.op;have bU:=(cO.1 Q).1;obtain⟨bQ,⟨x,bn,aG,C,a5,bc,bF,ba,a1,bG⟩,_,a7⟩:=br;obtain⟨L,I,an⟩:=(a7 _ _ _ _ Q).2 rfl;rw[a1]at an;have aW:C=aG:=y;subst aW;have bB:0<C->∃j,bn=h ⟨j,0,q⟩/\x=h ⟨j,0,q⟩:=λu=>by grind
 have aM:=(cO.1 I).1;have bg:=b8 I;have bE:=v.box d _ L Q I;rw[la a3,a5];have row:0<C->∃j B r,x=h ⟨j,0,q⟩/\L=⟨.slice (h ⟨j,0,q⟩) 0 C,[j]⟩/\b.a.heap[j]?=h (.cells (B++r).toArray W (0,0))/\c (B++r)=C*a4.size/\eW b.u a4.size k T B/\∀t,b.u j t=q:=by
  intro z;obtain⟨j,U,aa⟩:=bB z;rcases bE with⟨_,rfl⟩|⟨i,w,B,r,rfl,ab,aK,aL,aO,aP,aQ⟩
  .grind
  grind
 by_cases bq:A=0
 .subst bq;have av:=yW (P:=P) (ty:=t.type) e J aC aE u.elem v (x:=x) bc au;simp only[j9];have bs:bt k T (ce k T o):=λg e=>by simp[ce,e]
  have aT:ep (n.set d (.h W a4.size k (ce k T o))) ⟨b.m.set d L,b.u,b.a,b.own⟩ (.h W a4.size k (ce k T o)) L:=by
   rcases bE with ab|⟨i,w,B,r,au,ab,aK,aL,aO,aP,aQ⟩
   .exact .inl ab
   exact .inr ⟨i,w,B,r,au,ab,aK,aL,aO,aP.cB bs,aQ⟩
  have ar:=v.b9 (cd:=b.u) (bh:=b.a) (d':=.h W a4.size k (ce k T o)) (cm:=L) Q I ⟨λ_=>rfl,bC _⟩ (bC _) (λ_ _ _=>rfl) (λ_ _ _ _=>rfl) (λ_ _ _ u=>u) v.mem
   (λj H=>⟨.inl H,v.lt L bg j H⟩) a a a aT
  refine⟨.value (.slice x k C),_,?_,?_,ar.1,ar.2,jh (xU e J aC aE u.elem v bc au)⟩
  .simp[av]
  exact DG (W:=W) EN M an bc ba bB
 .by_cases aI:k+A<=C
  .obtain⟨j,B,r,rfl,rfl,hw,G,F,ad⟩:=row y;obtain⟨R,ak,av⟩:=DN (P:=P) (ty:=t.type) e J aC aE u.elem v hw G au aI;have a6:=F.len;have bK:=ak.len;have bH:k*a4.size+A*a4.size<=C*a4.size:=by rw[<-jA];exact gV _ aI
   have ag:((B++r).take (k*a4.size)++R++(B++r).drop (k*a4.size+c R))=(B++R)++r.drop (c R):=by rw[<-a6];simp
   rw[ag]at av;have ax:=setRow_heap b.a j _ ((B++R)++r.drop (c R)).toArray W _ hw;have az:∀i,i≠j->(b.a.setRow j ((B++R)++r.drop (c R)).toArray).heap[i]?=b.a.heap[i]?:=λi a'=>setRow_other b.a j i _ a';obtain⟨aB,bf⟩:=v.b9 (cd:=b.u) (bh:=b.a.setRow j ((B++R)++r.drop (c R)).toArray) (d':=.h W a4.size (k+A) (ce k T o)) (cm:=⟨.slice (h ⟨j,0,q⟩) 0 C,[j]⟩) Q I ⟨λ_=>rfl,by omega⟩ E
    (λi a' bP=>az i M) (λ_ _ _ _=>rfl) (λ_ _ _ u=>u) (λi bz S a2=>by
     have bJ:i≠j:=M;have:=v.mem i bz S a2;rw[<-this];simp[aN]
     grind) (λi a'=>⟨.inl a',by grind⟩) a a a
    (.inr ⟨j,C,B++R,r.drop (c R),rfl,ax,by grind,aI,ba,F.append ak,ad⟩)
   refine⟨.value (.slice (h ⟨j,0,q⟩) (k+A) C),_,?_,?_,aB,bf,jh (B7 e J aC aE u.elem v hw G au aI bg E (λt _=>ad t))⟩
   .simp[av]
   exact DG (W:=W) EN (by simp only;rw[ij aM]) a aI ba λ_=>⟨j,a,a⟩
  .have aZ:C<k+A:=y;obtain⟨bp,aJ,bO,bM⟩:=au.exact;have aH:∃(cd:Mem) (b3:Nat->Nat->Z),bb (n.map λ_=>.x) {b with u:=cd}/\(∀i t S,b.u i t=h S->cd i t=h S)/\Rd cd (.slice x k C) (.S m a4.size k (nd a4.size b3))/\(∀{T},ds {b with u:=cd} T->ds b T) /\
     (∀g,g<k->c (T g)=a4.size)/\∀g,g<k->∀s D,(T g)[s]?=h D->Rd b.u (b3 g s) D:=by
    by_cases z:0<C
    .obtain⟨j,B,r,rfl,rfl,hw,G,F,ad⟩:=row z;obtain⟨w,V⟩:=v.fv (j:=j) (B:=B) ad (λt S a3=>by
      simp only[aN,hw]
      grind)
     have bD:∀g,g<k->∀s D,(T g)[s]?=h D->B[g*a4.size+s]?=h (B.getD (g*a4.size+s) K)/\Rd b.u (B.getD (g*a4.size+s) K) D:=by intro g e s D O;obtain⟨S,a9,a_⟩:=F.rd g e s D O;grind
     have aV:∀g,g<k->∀s,s<a4.size->∃D,(T g)[s]?=h D:=λg e s O=>⟨_,bI (by rw[F.bJ g e];exact O)⟩
     refine⟨_,λg s=>B.getD (g*a4.size+s) K,w,V,.S j 0 (λg s=>B.getD (g*a4.size+s) K) bc ba E (λg _=>by simp[nd]) bl (λg e s D O=>?_) (λg e s D O=>?_),λbu=>?_,F.bJ,λg e s D O=>(bD g e s D O).2⟩
     .obtain⟨U,_⟩:=sU O;grind
     .obtain⟨U,rfl⟩:=sU O;obtain⟨bo,aa⟩:=aV g e s U;exact .val (bD g e s bo aa).2.cell
     exact bu.gG (j:=j) bg E V λi t S a5=>by grind
    have U:C=0:=y;have aa:k=0:=y;subst U aa;have aF:=v.dZ;exact⟨b.u,λ_ _=>K,⟨aF.mem,aF.len,aF.box,aF.a3,aF.lt,aF.own⟩,λ_ _ _ u=>u,Rd.dH,λu=>u,λg e=>by omega,λg e=>by omega⟩
   obtain⟨cd,b3,w,V,aU,aR,bN,bL⟩:=aH;have aj:=aJ.mono V;obtain⟨bj,r,bd,bk,ao,aq,aw,av⟩:=vL (P:=P) (b:={b with u:=cd}) (ty:=t.type) e J aC aE u.elem w aU aj aZ H u.bytes;have aX:=uW (P:=P) (b:={b with u:=cd}) (ty:=t.type) e J aC aE u.elem w aU aj aZ H u.bytes;have aS:eW b.u a4.size (k+A) (ce k T o) bj:=by
    refine⟨bk.len,λg e=>?_,λg e s D O=>?_⟩
    .by_cases Y:g<k
     .simp only[ce,Y,dH];grind
     simp only[ce,Y,dh];grind
    by_cases Y:g<k
    .simp only[ce,Y,dH]at O;have bm:s<a4.size:=M;obtain⟨S,a9,a_⟩:=bk.rd g e s (.val (b3 g s)) (by simp only[ce,Y,dH];exact Cq bm);grind[Rd.bj]
    simp only[ce,Y,dh]at O;have bm:s<a4.size:=M;obtain⟨S,a9,a_⟩:=bk.rd g e s (.val (bp (g-k) s)) (by simp only[ce,Y,dh];exact Cq bm);grind[Rd.bj]
   have bx:∀t,b.u b.a.heap.size t=q:=λt=>by
    cases ae:b.u b.a.heap.size t with
    |none=>rfl
    |some S=>have:=v.block ae;omega
   obtain⟨aB,bf⟩:=v.b9 (cd:=b.u) (bh:=b.a.drew.alloc (.cells (bj++r).toArray W)) (d':=.h W a4.size (k+A) (ce k T o)) (cm:=⟨.slice (h ⟨b.a.heap.size,0,q⟩) 0 bd,[b.a.heap.size]⟩) Q I
    ⟨λY=>absurd Y y,by omega⟩ E (λj H _=>iM b.a.drew _ H) (λ_ _ _ _=>rfl) (λ_ _ _ u=>u) (λj t S ae=>by have a0:=v.block ae;rw[<-v.mem j t S ae];simp only[aN];rw[iM b.a.drew _ a0];rfl) (λj H=>by simp at H;exact bw) a a a (.inr ⟨b.a.heap.size,bd,bj,r,rfl,lT b.a.drew _,aw,ao,aq,aS,bx⟩)
   refine⟨.value (.slice (h ⟨b.a.heap.size,0,q⟩) (k+A) bd),_,?_,?_,aB,bf,jh (aR aX)⟩
   .simp only at av;simp[av]
   exact DG (W:=W) EN (by simp only;rw[ij aM]) a ao aq λ_=>⟨_,a,a⟩
def a0.h_{a4}(w:j1 P t l X W a4){b}{r}{a:Nat->p N}(v:η l=cy d (.S k a4.size 0 k))(o:n[d]?=h (.h W a4.size k T))(u:∀g s,bx n g s (η X)->Rd g.u s (.S r a4.size b a))(i:(k+b)*a4.bytes<=140737488355328):
  a0 P t η n (cy d (.S (k+b) a4.size 0 (k+b))) (n.set d (.h W a4.size (k+b) (ce k T a))):=
 λg x j e=>Ga w j (by have:=e l;rw[v]at this;exact this) o (u g _ (e X)) i
section
variable {ad:p (Nat×bv)}
def a0.jq(aQ:bn P ad)(s:t.op=.call {callee:=.builtin .len,args:=#[l],argTypes:=dn})(r:dn[0]?=h o){e}(b:bW ad o=h e)(j:e.desc=.slice W){i}{cap}(w:η l=ax (.val (.slice i k cap)))(v:k<=9223372036854775807):a0 P t η n (ax (.int .i64 k)) n:=by
 refine .aZ λx y u d=>?_;have a:=d l;rw[w]at a;have p:=Rd.bj (b6 a);have g:=(aQ o e b).run_underlying (Q:=x.a);rw[j]at g;refine⟨.int .i64 k,?_,Rd.int cQ,?_⟩<;>
 simp[ac,s,resolve,invoke,builtin,Builtin.len_,p,g,goInt,r]
theorem a0.je(aQ:bn P ad)(z:t.op=.indexAddr o l X){e a4}(i:bW ad o=h e)(C:e.desc=.slice W)(D:bW ad W=h a4){cap}{w}{p}(I:η l=ax (.val (.slice (h ⟨j,off,q⟩) k cap)))(F:η X=ax (.int p w))(M:0<=w)(A:w<k):a0 P t η n (ax (.val (.pointer (h ⟨j,off+w.toNat*a4.size,q⟩)))) n:=by
 refine .aZ λJ r B d=>?_;have s:=d l;rw[I]at s;have E:=Rd.bj (b6 s);have b:=d X;rw[F]at b;replace b:=b6 b;generalize x:r X=K at b;cases b;have u:=(aQ o e i).run_underlying (Q:=J.a);rw[C]at u;obtain⟨g,rfl⟩:∃g:Nat,w=g:=⟨w.toNat,by omega⟩
 have v:g<k:=y;refine⟨.pointer (h ⟨j,off+g*a4.size,q⟩),?_,Rd.val a,?_⟩<;>
 simp[ac,z,E,x,Instr.indexAt,asIntOf,u,(aQ W a4 D).bf,gM,v]
def a0.iS(aQ:bn P ad){k}(p:t.op=.fieldAddr o l k){i}{w}(r:η l=ax (.val (.pointer (h ⟨j,off,q⟩))))(g:lb ad o k=h (i,w)):a0 P t η n (ax (.val (.pointer (h ⟨j,off+i,q⟩)))) n:=by refine .aZ λv u s d=>?_;have b:=d l;rw[r]at b;have e:=Rd.bj (b6 b);exact⟨.pointer (h ⟨j,off+i,q⟩),by simp[ac,p,e,yX aQ g],Rd.val a,by simp[ac,p,e,xX aQ g]⟩
def a0.jV(aQ:bn P ad){I}(Z:t.op=.slice o l q (h X) (h I)){e a4}(N:bW ad o=h e)(H:e.desc=.slice W)(ah:bW ad W=h a4){eP}{i}{p r}{w A}(ai:∀aa ae,bx n aa ae (η l)->Rd aa.u ae (.S eP i k T))(L:η X=ax (.int p w))(ag:η I=ax (.int r A))(J:0<=w)(an:w<=A)(ao:A<=k):a0 P t η n (ax (.S m i w.toNat T)) n:=by
 refine .aZ λa F aq j=>?_;have U:=ai a _ (j l);have s:=j X;rw[L]at s;replace s:=b6 s;generalize O:F X=au at s;cases s;have D:=j I;rw[ag]at D;replace D:=b6 D;generalize ab:F I=av at D;cases D;obtain⟨V,b,B,z,G,az,aM,aA,ar⟩:=U.b3;rw[z]at U;have M:=(aQ o e N).run_underlying (Q:=a.a);rw[H]at M;have em:=rb y;have u:(aX f k b q (h (.int p w)) (h (.int r A))).run P a.a=.ok (0,w.toNat,A.toNat) a.a:=by simp[aX,run_sliceBound (P:=P) a.a r A b _ y y,run_sliceBound (P:=P) a.a p w A.toNat _ J y]
 have aj:(aX f k b q (h (.int p w)) (h (.int r A))).events P a.a #[]=#[]:=by simp[aX,run_sliceBound (P:=P) a.a r A b _ y y,run_sliceBound (P:=P) a.a p w A.toNat _ J y,k' (P:=P) a.a r A b _ y y,k' (P:=P) a.a p w A.toNat _ J y]
 refine⟨.slice V w.toNat A.toNat,?_,?_,by simp[ac,Z,z,O,ab,Instr.sliceAt,M,Instr.slice,u,aj]⟩
 .simp[ac,Z,z,O,ab,Instr.sliceAt,M,Instr.slice,u,(aQ W a4 ah).bf];intro _;rcases V with _|⟨Y,d,sp⟩<;>simp[Addr.add]
 cases U with
 |S Y d ak _ _ _ S R x C=>
  exact Rd.S Y d ak y y E (λe v=>S e y) (λaw=>R y) (λe v w K g=>x e y w K g) (λe v w K g=>C e y w K g)
end
def eW.hO{i a}{kH:Nat->p N}{jt}(o:eW bB i k T B)(r:eW bB i A kH jt)(v:a+A<=k):
  eW bB i k (λb=>if a<=b/\b<a+A then kH (b-a)else T b) (B.take (a*i)++jt++B.drop (a*i+c jt)):=by
 have D:=o.len;have F:=r.len;have C:a*i+A*i<=k*i:=by rw[<-jA];exact gV i v
 have I:c (B.take (a*i))=a*i:=M;have t:∀j,(B.take (a*i)++jt++B.drop (a*i+c jt))[j]?=if j<a*i then B[j]? else if j<a*i+A*i then jt[j-a*i]? else B[j]?:=by
  intro j;by_cases e:j<a*i
  .grind
  rw[bm e];by_cases s:j<a*i+A*i
  .grind
  rw[bm s,hl M,pY];grind
 refine⟨by grind,λb g=>?_,λb g n u d=>?_⟩
 .by_cases l:a<=b/\b<a+A
  .rw[bs l];exact r.bJ _ y
  rw[bm l];exact o.bJ b g
 rw[t];by_cases l:a<=b/\b<a+A
 .rw[bs l]at d;have z:n<i:=by have:=(cO.1 d).1;rw[r.bJ _ y]at this;omega
  have w:=gV i l.1;have x:b*i+i<=a*i+A*i:=by rw[<-jA,<-oW];exact gV i l.2
  rw[bm y,bs y];obtain⟨K,E,J⟩:=r.rd (b-a) y n u d;grind[Nat.sub_mul]
 rw[bm l]at d;have z:n<i:=by have:=(cO.1 d).1;rw[o.bJ b g]at this;omega
 have:b*i+n<a*i∨a*i+A*i<=b*i+n:=by
  by_cases e:b<a
  .left;have:b*i+i<=a*i:=by rw[<-oW];exact gV i e
   omega
  right;have:(a+A)*i<=b*i:=gV i y;grind
 rcases this with e|e
 .rw[bs e];exact o.rd b g n _ d
 rw[bm y,bm y];exact o.rd b g n _ d
def De{W i j}{s:Nat->p N}{e}(v:Rd b.u aa (.S f j 0 s))(l:ao[d]?=h (.h W i 0 T))(t:e[d]?=h ⟨.slice q 0 0,[]⟩):cw ao {b with m:=e} aa (.R d (.S 0 i 0 0)):=by obtain⟨o,k,B,u,_,_,r,_,_⟩:=v.b3;have:=r a;subst this;refine⟨.slice q 0 0,⟨o,q,0,0,u,by omega,a,by omega,a,λg=>absurd g y⟩,(cO.1 l).1,λn w x kH g=>?_⟩;rw[l]at g;cases g;exact⟨bC _,λ_=>⟨_,t,a⟩⟩
def ds.jr{a}{T}(j:ds {b with m:=a++[⟨aa,[]⟩]} T)(l:b.m=a):ds b T:=by
 intro i g;have e:=j i g;have key:∀d,(∃L∈a++[(⟨aa,[]⟩:Loc)],d∈L.al)->∃L∈b.m,d∈L.al:=λd ⟨L,n,k⟩=>by grind
 unfold h1 at e⊢;grind
def a0.ia{a4}(C:j1 P t l X W a4){i}{s}{e:Nat->p N}(O:η l=ax (.S f i 0 T))(I:∀b y,bx n b y (η X)->Rd b.u y (.S s a4.size A e))(o:(0+A)*a4.bytes<=140737488355328):
  a0 P t η n (cy (c n) (.S (0+A) a4.size 0 (0+A))) (n++[.h W a4.size (0+A) (ce 0 T e)]):=by intro b u bO j;have g:=j l;rw[O]at g;have k:=I b _ (j X);obtain⟨F,D⟩:=bO.b0 (bU:=.h W a4.size 0 T) (L:=⟨.slice q 0 0,[]⟩) (.refl _ _) rfl bO (.inl ⟨rfl,rfl⟩) E;have B:cw (n++[.h W a4.size 0 T]) {b with m:=b.m++[⟨.slice q 0 0,[]⟩]} (u l) (.R (c n) (.S 0 a4.size 0 0)):=De (W:=W) (T:=T) (b6 g) E tX;obtain⟨K,r,J,v,x,w,M⟩:=Ga (P:=P) (n:=n++[.h W a4.size 0 T]) (b:={b with m:=b.m++[⟨.slice q 0 0,[]⟩]}) (d:=c n) (T:=T) C F B E k o;have z:(n++[an.h W a4.size 0 T]).set (c n) (.h W a4.size (0+A) (ce 0 T e))=n++[.h W a4.size (0+A) (ce 0 T e)]:=E;rw[z]at v x w;exact⟨K,r,J,v,x,D.trans w,M.jr a⟩
def qC(d e g:Nat)(a:Nat->p N):Nat->p N:=λb=>if d<=b/\b<d+g then a (e+(b-d))else a b
def a0.h'{a4}(aC:j1 P t l X W a4)(bu:η l=cy d (.S k a4.size 0 e))(bw:η X=cy d (.S k a4.size w A))(u:n[d]?=h (.h W a4.size k T))(ab:e+A<=k)(aP:w+A<=k):
  a0 P t η n (cy d (.S k a4.size 0 (e+A))) (n.set d (.h W a4.size k (qC e w A T))):=by
 intro b a8 r aU;obtain⟨b0,t2,b2,bQ,bt,s,au,bb,aM⟩:=aC.op;have aq:=aU l;rw[bu]at aq;change cw n b (a8 l) (.R d _)at aq;have ar:=aU X;rw[bw]at ar;change cw n b (a8 X) (.R d _)at ar;obtain⟨bz,⟨x,bg,i,z,aV,bf,aK,Y,ad,Z⟩,_,bE⟩:=aq;obtain⟨L,D,bd⟩:=(bE _ _ _ _ u).2 rfl;rw[ad]at bd;obtain⟨bO,⟨p,bG,aB,bH,aW,bW,bn,bo,av,bp⟩,_,aA⟩:=ar;obtain⟨bT,V,H⟩:=(aA _ _ _ _ u).2 rfl;rw[D]at V;cases V;rw[av,bd]at H;cases H;have aF:=b8 D;have az:=s.run_underlying (Q:=b.a);have a':=bb.run_underlying (Q:=b.a);rw[au]at az;rw[aM]at a';rw[la bt,aV,aW];by_cases aQ:k=0
 .have ao:e=0:=y;have bk:A=0:=y;subst aQ ao bk;have ax:n.set d (.h W a4.size 0 (qC 0 w 0 T))=n:=by
   have:qC 0 w 0 T=T:=by funext bc;exact cQ
   rw[this];exact mV
  have aX:Rd b.u (.slice p 0 aB) (.S m a4.size 0 λ_=>[]):=.S 0 0 (λ_ _=>K) y y E (λe s=>by omega) (λaC=>by omega) (λe s=>by omega) (λe s=>by omega);have bD:=yW (P:=P) (ty:=t.type) s au bb aM aC.elem r (x:=x) bf aX;rw[ax];refine⟨.value (.slice x 0 i),b,?_,?_,r,.refl _ _,jh (xU s au bb aM aC.elem r bf aX)⟩
  .simp[bD]
  exact⟨bz,⟨x,bg,i,z,a,bf,aK,Y,ad,Z⟩,(cO.1 u).1,bE⟩
 rcases r.box d _ L u D with⟨an,_⟩|⟨j,ak,B,ai,rfl,C,aZ,a1,a2,ah,aG⟩
 .grind
 cases bd;have bU:0<i:=y;obtain⟨bX,ao,rfl⟩:=Z bU;cases ao;have aL:z=i:=y;subst aL;rw[show j=j from a];have bN:=ah.len;have bx:e+A<=z:=y;have bJ:e*a4.size+A*a4.size<=k*a4.size:=by rw[<-jA];exact gV _ ab
 have bK:w*a4.size+A*a4.size<=k*a4.size:=by rw[<-jA];exact gV _ aP
 obtain⟨ak,bj⟩:=r.fv (j:=j) (B:=B) aG (λbc aE G=>by
  simp[aN,C]
  grind)
 let o:=(B.drop (w*a4.size)).take (A*a4.size);have aS:c o=A*a4.size:=M;have aR:∀g,g<A*a4.size->o[g]?=B[w*a4.size+g]?:=λg I=>by grind
 have S:eW b.u a4.size A (λbc=>T (w+bc)) o:=by
  refine⟨aS,λbc G=>ah.bJ _ y,λbc G g bh I=>?_⟩;have bM:g<a4.size:=by have:=(cO.1 I).1;rw[ah.bJ _ y]at this;omega
  obtain⟨aE,R,F⟩:=ah.rd (w+bc) y g bh I;refine⟨aE,?_,F⟩;exact O0
 have bP:=S.cell;have ag:Rd (λv bc=>if v=j then B[bc]? else b.u v bc) (.slice p A aB) (.S m a4.size A (nd a4.size λbc g=>B.getD ((w+bc)*a4.size+g) K)):=by
  refine .S j (w*a4.size) (λbc g=>B.getD ((w+bc)*a4.size+g) K) bW y E (λbc _=>by simp[nd]) (λI=>M) (λbc G g bh I=>?_) (λbc G g bh I=>?_)
  .obtain⟨a3,_⟩:=sU I;exact O0
  obtain⟨a3,rfl⟩:=sU I;obtain⟨aj,aI⟩:∃aj,(T (w+bc))[g]?=h aj:=⟨_,bI (by rw[ah.bJ _ y];exact a3)⟩
  obtain⟨aE,R,F⟩:=ah.rd (w+bc) y g aj aI;have an:B.getD ((w+bc)*a4.size+g) K=aE:=M;rw[an];exact .val F.cell
 obtain⟨O,bF,J,bs⟩:=oD (P:=P) (b:={b with u:=λv bc=>if v=j then B[bc]? else b.u v bc}) ak ag;have aT:O=o:=by
  apply p4;intro g;have bL:=bF.len;by_cases I:g<A*a4.size
  .have b1:0<a4.size:=M;have G:g / a4.size<A:=si M;have ae:=uo g a4.size;obtain⟨aE,R,F⟩:=bF.rd _ G (g % a4.size) _ (Cq (pZ _ b1));rw[ae]at R;rw[R,aR g I,Rd.bj F];rw[jA,Nat.add_assoc,ae,al,bI y];rfl
  grind
 subst aT;have aO:=sS (P:=P) (b:={b with u:=λv bc=>if v=j then B[bc]? else b.u v bc}) ak ag (Q:=b.a) rfl;replace J:(Builtin.firstCells a4.size A (.slice p A aB)).run P b.a=.ok o.toArray b.a:=J;have br:e*a4.size+c o<=c (B++ai):=M;have N:=run_storeCells_at P j (e*a4.size) W o 0 (B++ai).toArray b.a C M bP;simp only[j9]at N;have aw:((B++ai).toArray.toList.take (e*a4.size)++o++(B++ai).toArray.toList.drop (e*a4.size+c o))=B.take (e*a4.size)++o++B.drop (e*a4.size+c o)++ai:=M;rw[aw]at N;have a5:=ah.hO S ab;have bq:(λbc=>if e<=bc/\bc<e+A then(λbc=>T (w+bc)) (bc-e)else T bc)=qC e w A T:=rfl;rw[bq]at a5;obtain⟨bB,a6⟩:=r.gz u D aZ a1 a2 C a5 M aG;have bR:(Builtin.lenOf (.slice p A aB)).run P b.a=.ok A b.a:=cQ;have bV:(Builtin.lenOf (.slice p A aB)).events P b.a #[]=#[]:=cQ;refine⟨.value (.slice (h ⟨j,0*a4.size,q⟩) (e+A) z),_,?_,?_,bB,a6,jh ?_⟩
 .have bD:(Builtin.append_ #[b0,t2] t.type #[.slice (h ⟨j,0*a4.size,q⟩) e z,.slice p A aB]).run P b.a=.ok (.slice (h ⟨j,0*a4.size,q⟩) (e+A) z) (b.a.setRow j (B.take (e*a4.size)++o++B.drop (e*a4.size+c o)++ai).toArray):=by unfold Builtin.append_;simp[j4,m4,nY,cI,az,a',c0,aC.elem.bf,d6,j6,dh,bR,bx,dH,il,J,gM,Nat.zero_mul,cV,N]
  grind[Go.Sem.run_bind,Go.Result.andThen_ok,Go.Sem.run_pure]
 .exact⟨.slice (h ⟨j,0,q⟩) 0 z,⟨_,_,z,z,a,bx,by omega,Y,a,λ_=>⟨j,a,a⟩⟩,by grind,λbS bY bZ kH aa=>by rw[ij (cO.1 u).1]at aa;cases aa;exact⟨bC _,λ_=>⟨_,D,a⟩⟩⟩
 .intro an a_;unfold Builtin.append_ at a_;simp[j4,m4,nY,aH,cI,az,a',aJ,aC.elem.bf,d6,j6,dh,bR,bV,bx,dH,il,J,gM,Nat.zero_mul,cV,N,
   sw,Sem.events_ite,events_underlying,events_sizeOf,Sem.events_pure]at a_
  rcases nc o 0 (B++ai).toArray b.a _ C M bP an a_ with bl|⟨g,_,_,rfl⟩
  .have bm:ds {b with u:=λv bc=>if v=j then B[bc]? else b.u v bc} #[an]:=ds.aq (tq (aO an bl));exact bm.gG (j:=j) aF E bj (λv bc aE aV=>by grind) an E
  grind[ob]
section
variable {ad:p (Nat×bv)}
theorem a0.slice3B(aQ:bn P ad){Q D}(M:t.op=.slice o l (h Q) (h X) (h D)){E a4}(z:bW ad o=h E)(H:E.desc=.slice W)(S:bW ad W=h a4){C i ah}{aa b s}{e w A}(V:η l=cy d (.S C i ah k))(T:η Q=ax (.int aa e))(U:η X=ax (.int b w))(R:η D=ax (.int s A))(au:0<=e)(Z:e<=w)(ab:w<=A)(av:A<=k):a0 P t η n (.q (.aq .any)) n:=by
 refine .aZ λg r ae p=>?_;have I:=p l;rw[V]at I;change cw n g (r l) (.R d _)at I;obtain⟨ag,⟨K,Y,j,aw,G,ar,an,aq,ao,L⟩,_,_⟩:=I;have B:=p Q;rw[T]at B;replace B:=b6 B;generalize O:r Q=ai at B;cases B;have u:=p X;rw[U]at u;replace u:=b6 u;generalize N:r X=aj at u;cases u;have v:=p D;rw[R]at v;replace v:=b6 v;generalize J:r D=ak at v;cases v;have F:=(aQ o E z).run_underlying (Q:=g.a);rw[H]at F;have x:(aX f k j (h (.int aa e)) (h (.int b w)) (h (.int s A))).run P g.a=.ok (e.toNat,w.toNat,A.toNat) g.a:=by simp[aX,run_sliceBound (P:=P) g.a s A j _ y y,run_sliceBound (P:=P) g.a b w A.toNat _ y y,run_sliceBound (P:=P) g.a aa e w.toNat _ y y]
 have aM:(aX f k j (h (.int aa e)) (h (.int b w)) (h (.int s A))).events P g.a #[]=#[]:=by
  simp[aX,run_sliceBound (P:=P) g.a s A j _ y y,run_sliceBound (P:=P) g.a b w A.toNat _ y y,run_sliceBound (P:=P) g.a aa e w.toNat _ y y,
   k' (P:=P) g.a s A j _ y y,k' (P:=P) g.a b w A.toNat _ y y,k' (P:=P) g.a aa e w.toNat _ y y]
 refine⟨.slice (if A.toNat=e.toNat then K else K.map (·.add (e.toNat*a4.size))) (w.toNat-e.toNat) (A.toNat-e.toNat),?_,a,by simp[ac,M,G,O,N,J,Instr.sliceAt,F,Instr.slice,x,aM]⟩;simp[ac,M,G,O,N,J,Instr.sliceAt,F,Instr.slice,x,(aQ W a4 S).bf]
end
section drop
variable {aL br:p an}
def a5.cut(a:a5)(b:Nat):a5:={a with m:=a.m.take b}
def cw.drop{g}(e:cw (aL++br) b aa g)(i:lW (c aL) g=f):cw aL (b.cut (c aL)) aa g:=by
 have lt:∀{d:Nat},ay (d+1) (c aL)=f->d<c aL:=λr=>e' r;cases g with
 |c w=>exact e
 |any=>exact e
 |ptr d u=>
  have gD:=lt i;obtain⟨a,L,o,k,ae⟩:=e;refine⟨λj l=>a j M,L,o,?_,ae⟩;simp[a5.cut,ik,gD,dH];exact k
 |aQ d=>
  have gD:=lt i;obtain⟨a,L,k,ae⟩:=e;refine⟨λj l=>a j M,L,?_,ae⟩;simp[a5.cut,ik,gD,dH];exact k
 |R d v=>
  have gD:=lt i;obtain⟨n,a,_,ae⟩:=e;refine⟨n,a,gD,λW f_ Dd dI l=>?_⟩;exact Ps
 |r d s t p=>
  have gD:=lt i;obtain⟨a,_,ae⟩:=e;refine⟨a,gD,λW f_ Dd dI l=>?_⟩;exact Ps
def bM.cI:∀{B:p Z}{a:p O},bM (aL++br) b B a->lg (c aL) a=f->bM aL (b.cut (c aL)) B a
 |[],[],_,_=>trivial
 |[],_::_,d,_=>d.elim
 |_::_,[],d,_=>d.elim
 |j::B,i::a,d,e=>by
  simp[lg]at e;cases g:lW (c aL) i with
  |false=>grind
  |true=>simp[g]at e;exact⟨d.1.drop g,bM.cI d.2 e⟩
def er.cI{aa}{a}(i:er (aL++br) b aa a)(g:pe (c aL) a=f):er aL (b.cut (c aL)) aa a:=by
 cases a with
 |aq k=>exact cw.drop i g
 |agg j=>obtain⟨B,d,e⟩:=i;exact⟨B,d,bM.cI e g⟩
def eQ.cI:∀{B:p Z}{a:p E1},eQ (aL++br) b B a->ol (c aL) a=f->eQ aL (b.cut (c aL)) B a
 |[],[],_,_=>trivial
 |[],_::_,d,_=>d.elim
 |_::_,[],d,_=>d.elim
 |j::B,i::a,d,e=>by
  simp[ol]at e;cases g:pe (c aL) i with
  |false=>grind
  |true=>simp[g]at e;exact⟨er.cI d.1 g,eQ.cI d.2 e⟩
def bx.drop{a}(i:bx (aL++br) b aa a)(g:hI (c aL) a=f):bx aL (b.cut (c aL)) aa a:=by
 cases a with
 |q k=>exact er.cI i g
 |Q j=>obtain⟨B,d,e⟩:=i;exact⟨B,d,eQ.cI e g⟩
 |any=>trivial
def dc.drop{d}{i}(a:dc d i (aL++br) b)(t:d.length<=c aL):dc d i aL (b.cut (c aL)):=by refine⟨a.size,a.a6,a.mem,a.bF,λL l s o=>a.bV L (hc l) s o,?_,a.os,a.tape,a.output,a.own⟩;intro p r L aE l;obtain⟨j,k,e,n,u⟩:=a.box p r L aE l;have g:p<c aL:=ey (cO.1 aE).1 t;rw[ky g]at e;exact⟨j,k,e,by simp[a5.cut,ik,g,dH];exact n,u⟩
def cw.cG{g}(k:c b.m=c n)(e:cw n b aa g):lW (c n) g=f:=by
 have ok:∀{a:Nat},a<c n->ay (a+1) (c n)=f:=λd=>Ap d;have lt:∀{a:Nat} {L:Loc},b.m[a]?=h L->a<c n:=λd=>by grind
 cases g with
 |c u=>rfl
 |any=>rfl
 |ptr a s=>obtain⟨_,L,o,i,_⟩:=e;exact ok (lt i)
 |aQ a=>obtain⟨_,L,i,_⟩:=e;exact ok (lt i)
 |R a t=>obtain⟨l,_,d,_⟩:=e;exact ok d
 |r a p r j=>exact ok e.2.1
def bM.cG{n}(e:c b.m=c n):∀{B:p Z}{a:p O},bM n b B a->lg (c n) a=f
 |[],[],_=>rfl
 |[],_::_,d=>d.elim
 |_::_,[],d=>d.elim
 |i::B,g::a,d=>by simp[lg,d.1.cG e];exact bM.cG e d.2
def er.cG{n}(a:c b.m=c n){aa}{d}(e:er n b aa d):pe (c n) d=f:=by
 cases d with
 |aq j=>exact cw.cG a e
 |agg g=>obtain⟨B,_,i⟩:=e;exact bM.cG a i
def eQ.cG{n}(e:c b.m=c n):∀{B:p Z}{a:p E1},eQ n b B a->ol (c n) a=f
 |[],[],_=>rfl
 |[],_::_,d=>d.elim
 |_::_,[],d=>d.elim
 |i::B,g::a,d=>by simp[ol,er.cG e d.1];exact eQ.cG e d.2
def bx.cG{n}(a:c b.m=c n){aa}{d}(e:bx n b aa d):hI (c n) d=f:=by
 cases d with
 |q j=>exact er.cG a e
 |Q i=>obtain⟨B,_,g⟩:=e;exact eQ.cG a g
 |any=>rfl
def z9(n:Nat)(d:p an)(l:Nat)(b:an):Prop:=(∃i a,b=.cells i a/\lg n a=f)∨d[l]?=h b∨(∃g e j k,b=.loop g e j/\d[l]?=h (.loop g e k))∨((∀i a,b≠.cells i a)/\∀g e j,b≠.loop g e j)
def bb.gX{w}{g}(r:bb g w)(x:g.length=c aL)(O:∀d(s:an),aL[d]?=h s->z9 (c aL) g d s)(u:bb (aL++br) b):bb aL (b.cut (c aL)):=by
 have E:c aL<=c b.m:=EK;refine⟨u.mem,by simp[a5.cut,E],?_,?_,?_,λi a=>⟨(u.own i a).1,λL e=>(u.own i a).2 L (hc e)⟩⟩
 .intro d s L aE e;have K:d<c aL:=(cO.1 aE).1;simp[a5.cut,ik,K,dH]at e;have p:=u.box d s L M e;have y:∃z,w.m[d]?=h z:=⟨_,bI (by rw[r.len,x];exact K)⟩
  obtain⟨z,y⟩:=y;have aa:=r.len.trans x;cases s with
  |cells J S=>
   obtain⟨i,B,k,l,I,F⟩:=p;refine⟨i,B,k,l,bM.cI I ?_,F⟩;rcases O d _ aE with⟨_,_,t,j⟩|j|⟨_,_,_,_,t,_⟩|j
   .grind
   .obtain⟨_,_,_,_,Y,_⟩:=r.box d _ z j y;exact x▸Y.cG r.len
   .cases t
   grind
  |r J T U D=>exact p
  |J H=>exact p
  |x=>trivial
  |loop R Q Z=>
   obtain⟨n,tmps,fn,W,k,l,I,F,X⟩:=p;have key:∃o,g[d]?=h (.loop R Q o):=by
    rcases O d _ aE with⟨_,_,t,_⟩|j|⟨_,_,_,o,t,j⟩|j
    .cases t
    .grind
    .grind
    grind
   obtain⟨o,j⟩:=key;obtain⟨_,_,_,_,_,_,_,V,_⟩:=r.box d _ z j y;exact⟨n,tmps,fn,W,k,l,I,λN=>(F N).drop (x▸(V N).cG r.len),X⟩
  |bn=>exact p
  |h J T U D=>exact p
 .intro d n L A e C i a v;simp only[a5.cut,ik]at e C;split at e<;>split at C<;>first|exact u.a3 d n L A e C i a v|grind|grind
 intro L e i a;exact u.lt L (hc e) i a
def bb.iI{e}(g:bb aL e)(d:bb (aL++br) b):bb aL (b.cut (c aL)):=g.gX a (λ_ _ d=>.inr (.inl d)) d
def aT.eY{v:ai P}{i}(l:aT v D all t F n (.q (.aq (.r (c n) i k T))) (n++[.r W i k T])):aT v D all t F n (ax (.S m i k T)) n:=by
 intro E y A g w s j x C d a p o;refine l E y A g w s j x C d a p λI e r b u=>?_;have B:eT e (e.cut (c n)):=⟨rfl,λ_ _ _ l=>l,λ_ _ _=>rfl,b.mem,λw a=>a.imp id λ⟨L,z,a⟩=>⟨L,hc z,a⟩⟩
 exact .aV B (o I (e.cut (c n)) r.1 (g.iI b) (u.drop (bC _)))
end drop
end Go.AM
