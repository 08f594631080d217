/- Part 1. No condition. -/
import Derived.KernelRfl
import Derived.Tactics2
import Derived.LaidSub
import Derived.LaidLaws
import Derived.LaidHandle
import Derived.Conc.Own
import Derived.Conc.Events
import Derived.Conc.Listed
import Derived.Laws.CopyRow
import Derived.Laws.AppendOwn
import Derived.Laws.Rows
import Derived.Laws.Strings
import Derived.Laws.Cells
import Derived.Lib.Strings
import Derived.Laws.Slices
import Derived.Orders
import Derived.Laws.StructEq
set_option linter.all false
set_option maxHeartbeats 8000000
open Go.Conc (G)
open List renaming length → c, range → aC, replicate → aY, getD_eq_getElem?_getD → al
open Go renaming Value → aa, TypeId → av, Event → aT, undef → K, World → au, Frame → aK, FuncId → a4, execOp → ac, Operand → aA, Program → aI, Goroutine → ak, stepG → aq, Oper → ap
open Option renaming some → h, none → q
open Bool renaming true → f, false → m
open Nat renaming beq → af, ble → ay
open Go.Region renaming wanted → aU, ready → aS
open Go.World renaming cell? → aL
open Go.Op renaming bytesLess → aW, equalIn → aQ
open Go.Sem renaming events_bind → aG
open Go.Result renaming evThen_ok → aJ
open Go.Instr renaming sliceBounds → aX
set_option linter.defProp false
set_option linter.deprecated false
namespace Go
def v:=@_root_.trivial
def bA:=@_root_.decide_eq_true_eq
def bK:=@_root_.List.getElem?_eq_getElem
def a_:=@_root_.and_true
def bb:=@_root_.true_and
def b_:=@_root_.List.mem_of_getElem?
def dr:=@_root_.decide_eq_false_iff_not
def cQ:=@_root_.List.getElem?_eq_some_iff
def dp:=@_root_.Nat.eq_of_beq_eq_true
def c9:=@_root_.Int.toNat_natCast
def bB:=@_root_.Nat.le_refl
def cp:=@_root_.Bool.and_eq_true
def dk:=@_root_.List.length_append
def c7:=@_root_.Go.Result.andThen_ok
def cZ:=@_root_.Nat.zero_add
def c8:=@_root_.List.take_length
def bm:=@_root_.if_neg
def cK:=@_root_.Go.Sem.run_bind
def hv:=@_root_.Array.getD_eq_getD_getElem?
def eY:=@_root_.beq_eq_false_iff_ne
def bs:=@_root_.if_pos
def gG:=@_root_.List.length_singleton
def eD:=@_root_.Nat.lt_of_lt_of_le
def ff:=@_root_.Nat.le_of_ble_eq_true
def hl:=@_root_.List.getElem_of_mem
def eV:=@_root_.Option.some.injEq
def hn:=@_root_.List.getElem?_append_right
def fp:=@_root_.List.length_cons
def g5:=@_root_.Nat.mul_le_mul_right
def jI:=@_root_.List.eq_nil_of_length_eq_zero
def d9:=@_root_.Go.Sem.run_pure
def gh:=@_root_.beq_self_eq_true
def dZ:=@_root_.Nat.lt_or_ge
def iE:=@_root_.Array.getElem?_eq_getElem
def gV:=@_root_.List.mem_of_mem_take
def ip:=@_root_.List.getElem?_set_self
def fq:=@_root_.decide_eq_true
def gu:=@_root_.Bool.not_true
def gH:=@_root_.List.mem_singleton
def fx:=@_root_.List.mem_append
def jh:=@_root_.Array.getElem?_eq_some_iff
def hx:=@_root_.not_true_eq_false
def e4:=@_root_.List.mem_cons
def dn:=@_root_.if_false
def nb:=@_root_.List.pairwise_iff_getElem
def gI:=@_root_.List.length_nil
def fr:=@_root_.Bool.true_and
def iF:=@_root_.List.pairwise_cons
def kb:=@_root_.List.getElem?_append_left
def iq:=@_root_.List.getElem?_take
def iG:=@_root_.bne_self_eq_false
def ir:=@_root_.List.mem_cons_self
def fM:=@_root_.Nat.le_trans
def h4:=@_root_.Option.getD_some
def dJ:=@_root_.if_true
def is:=@_root_.Bool.not_false
def uH:=@_root_.List.take_append_drop
def kf:=@_root_.List.getElem?_toArray
def jJ:=@_root_.Bool.not_eq_true'
def h5:=@_root_.List.append_nil
def qd:=@_root_.List.ext_getElem?
def kI:=@_root_.List.length_filter_le
def gW:=@_root_.beq_iff_eq
def kJ:=@_root_.List.getElem?_set_ne
def kg:=@_root_.Bool.false_eq_true
def eM:=@_root_.congrArg
def iH:=@_root_.Nat.not_lt_zero
def iI:=@_root_.List.foldl_cons
def mr:=@_root_.List.getElem?_cons_zero
def ho:=@_root_.List.mem_map
def gX:=@_root_.Nat.zero_le
def ji:=@_root_.List.mem_filter
def jK:=@_root_.Bool.or_eq_true
def kK:=@_root_.List.length_map
def nc:=@_root_.Array.length_toList
def mt:=@_root_.List.mem_cons_of_mem
def w5:=@_root_.Array.getElem?_replicate
def w6:=@_root_.List.take_add_one
def n8:=@_root_.List.getElem?_cons_succ
def AR:=@_root_.List.findIdx?_eq_some_iff_getElem
def nd:=@_root_.List.pairwise_append
def AS:=@_root_.List.mem_iff_getElem
def mu:=@_root_.List.append_assoc
def sG:=@_root_.Nat.beq_refl
def lG:=@_root_.decide_eq_false
def d_:=@_root_.ne_eq
def kh:=@_root_.bne_iff_ne
def lH:=@_root_.Option.map_some
def jL:=@_root_.Nat.add_mul
def qe:=@_root_.not_false_eq_true
def ki:=@_root_.Nat.add_zero
def nf:=@_root_.List.getElem?_map
def uI:=@_root_.Array.getElem?_setIfInBounds_self_of_lt
def sH:=@_root_.Array.getElem?_setIfInBounds_ne
def ng:=@_root_.decide_true
def n9:=@_root_.Nat.eq_zero_or_pos
def w7:=@_root_.Array.toArray_toList
def w8:=@_root_.Array.mapM_eq_mapM_toList
def rv:=@_root_.List.map_congr_left
def lI:=@_root_.Prod.mk.injEq
def n6:=@_root_.Option.bind_some
def p8:=@_root_.List.mem_of_mem_drop
def mq:=@_root_.List.map_cons
def rn:=@_root_.Option.map_eq_some_iff
def o6:=@_root_.List.getElem?_set
def p9:=@_root_.Nat.add_sub_cancel
def p_:=@_root_.List.getElem?_drop
def o7:=@_root_.decide_false
def Az:=@_root_.Option.isSome_iff_exists
def o8:=@_root_.Nat.succ_mul
def p':=@_root_.Nat.mod_lt
def o9:=@_root_.Bool.eq_iff_iff
def sr:=@_root_.List.filter_eq_self
def ro:=@_root_.Int.toNat_of_nonneg
def qa:=@_root_.Bool.not_eq_true
def o_:=@_root_.List.mapM_cons
def AA:=@_root_.Bool.and_eq_false_iff
def RS:=@_root_.List.drop_eq_getElem_cons
def qb:=@_root_.List.nil_append
def ss:=@_root_.List.length_set
def su:=@_root_.Nat.div_lt_of_lt_mul
def rp:=@_root_.List.pairwise_map
def uA:=@_root_.Nat.le_mul_of_pos_right
def rq:=@_root_.List.mem_range
def rr:=@_root_.List.mem_flatMap
def sv:=@_root_.List.length_drop
def ru:=@_root_.List.ext_getElem
def lF:=@_root_.true_or
def sw:=@_root_.Int.emod_lt_of_pos
def AB:=@_root_.Bool.not_eq_false'
def uB:=@_root_.UInt8.toNat_inj
def AD:=@_root_.Nat.ble_eq_true_of_le
def wS:=@_root_.List.getElem?_concat_length
def sx:=@_root_.List.flatMap_cons
def n7:=@_root_.Nat.not_lt
def sy:=@_root_.Nat.sub_zero
def uC:=@_root_.Nat.div_add_mod'
def sz:=@_root_.List.not_mem_nil
def sA:=@_root_.List.filter_cons
def sB:=@_root_.List.drop_length
def wT:=@_root_.List.mem_of_find?_eq_some
def sC:=@_root_.Int.emod_nonneg
def uD:=@_root_.of_decide_eq_true
def F':=@_root_.List.take_of_length_le
def wU:=@_root_.List.range_succ_eq_map
def uE:=@_root_.List.foldl_append
def sD:=@_root_.Bool.false_and
def wV:=@_root_.List.getElem?_eq_none
def wW:=@_root_.Array.mem_of_getElem?
def uF:=@_root_.List.cons_append
def wX:=@_root_.Bool.or_eq_false_iff
def uG:=@_root_.Option.some.inj
def RT:=@_root_.bne_eq_false_iff_eq
def wY:=@_root_.Nat.mul_le_mul_left
def sE:=@_root_.Nat.sub_self
def Ga:=@_root_.List.length_eraseIdx_of_lt
def AE:=@_root_.List.mem_or_eq_of_mem_set
def AF:=@_root_.Nat.lt_succ_iff_lt_or_eq
def Gb:=@_root_.List.set_eq_of_length_le
def sF:=@_root_.Go.Sem.run_ite
def AG:=@_root_.Nat.add_sub_cancel_left
def wZ:=@_root_.List.getElem_mem
def Gc:=@_root_.List.drop_eq_nil_of_le
def AH:=@_root_.Array.getElem?_eq_none
def AI:=@_root_.List.contains_iff_mem
def Gd:=@_root_.Array.getElem?_toList
def AJ:=@_root_.Array.getElem?_modify
def AK:=@_root_.Nat.pow_le_pow_right
def AL:=@_root_.List.mem_append_left
def AN:=@_root_.List.getElem?_of_mem
def qc:=@_root_.Ne.symm
def AO:=@_root_.Nat.add_sub_cancel'
def AP:=@_root_.List.length_pos_iff
def w0:=@_root_.Nat.lt_irrefl
def AQ:=@_root_.List.take_set
def bp{α:Sort _}{β:α→Sort _}{ae:(l:α)→β l}:∀l,ae l=ae l:=λ_=>rfl
def a{α:Sort _}{x:α}:x=x:=rfl
section
variable{R:Prop}
abbrev p.{bC}(α:Type bC):=List α
def y(u:R:=by omega):=u
def M(u:R:=by grind):=u
def E(u:R:=by simp):=u
def bV(u:R:=by simp;omega):=u
def b3(u:R:=by kernel_rfl):=u
def cc(u:R:=by decide):=u
def dD(u:R:=by simp_all):=u
def ii(u:R:=by grind[ih]):=u
def h2(u:R:=by rw[bQ.len];grind):=u
def sk(u:R:=by simp only[U,a8,bA,bb,a_];and_intros<;>omega):=u
def lA(u:R:=by simp[a8]):=u
def q4(u:R:=by simp[G,aq,stepG.exec,Frame.M]):=u
def mc(u:R:=by simp only[phi];omega):=u
def t7(u:R:=by simp only[U,a8,bb,a_];omega):=u
def NT(u:R:=by have i:l.data.toList.length=l.size:=nc;have w:X.data.toList.length=X.size:=nc;have ai:IntKind.i64.max=9223372036854775807:=rfl;have C:l.data.toList.length+X.data.toList.length<=9223372036854775807:=cz;grind):=u
def g4(u:R:=by simp[u]):=u
def q8(u:R:=by simp only[U,a_];omega):=u
def m4(u:R:=by apply qd;grind):=u
def nT(u:R:=by simp only[a8];omega):=u
def E_(u:R:=by show(aQ (9999+1) o _ _).run P b.a=_;unfold aQ;simp[underlying,C]):=u
def md(u:R:=by decide +kernel):=u
def Fw(u:R:=by simp[b2,C,k,i,d,ae,a2.U,bk.U,a3.U,aB.U,A];omega):=u
def wC(u:R:=by simp only[bT,c9];omega):=u
def afk(u:R:=by rw[x];simp only[ju,AA,dr];omega):=u
def ub(u:R:=by rw[<-aR];decide +kernel):=u
def pU(u:R:=by grind[pL]):=u
def me(u:R:=by simp[b2]):=u
def wD(u:R:=by grind[List.getElem_of_mem]):=u
def q9(u:R:=by cases he):=u
def q_(u:R:=by rw[cZ];rfl):=u
def z2(u:R:=by grind[L2]):=u
def uc(u:R:=by simp only[U,a8];omega):=u
def z3(u:R:=by simp[a2.E,bk.E,a3.E,aB.E]):=u
def FG(u:R:=by rw[<-touchAt_old (u:=bC) (eD bq u.bP)];exact bd):=u
def FH(u:R:=by rw[<-touchAt_old (u:=bC) (eD bq u.bP)];exact i):=u
def FI(u:R:=by grind[Ea]):=u
def Qh(u:R:=by simp[-aZ,-List.all_eq_false,b2,j,s,x,a2.U,bk.U,a3.U,ae,ai,C]):=u
def z4(u:R:=by intro z aR afm;grind[wi,nN]):=u
def QC(u:R:=by show(aQ (9999+1) o _ _).run P b.a=_;unfold aQ;simp[underlying,k]):=u
def nU(u:R:=by simp;rfl):=u
def QX(u:R:=by rw[Gd,iE (by omega:e<L.size)];simpa[hv,iE (by omega:e<L.size)]using H):=u
def ud(u:R:=by grind[km]):=u
def Q9(u:R:=by refine Z.K Tryz.func308 rfl λx=>?_;exact cx rfl (by simp[a8]) (g.aw rfl)):=u
def Q_(u:R:=by simp only[ac,u];exact dE.bind dE.buildSlice (λ_=>dE.pure) _ _):=u
def FJ(u:R:=by simp[G,aq,stepG.exec,Frame.M,u]):=u
def Q'(u:R:=by intro hS ai s;match hS,s with|0,_=>exact .inr (by simp[deafBehind])|hS+1,s=>grind):=u
def oX(u:R:=by rfl):=u
def ue(u:R:=by simp[<-bQ.len]):=u
def Ra(u:R:=by unfold hg;rw[mu];congr 1;rw[ih (by grind) (0,0)];grind):=u
def oY(u:R:=by simp[x]):=u
def FK(u:R:=by simp only[hv];grind):=u
def Rb(u:R:=by show -9223372036854775808<=_/\_<=9223372036854775807;unfold ly;omega):=u
def Rc(u:R:=by simp[ac,cz,resolve,invoke,builtin,Builtin.len_,ae,A,goInt,C]):=u
def z5(u:R:=by simp only[dt,sG]):=u
def Re(u:R:=by unfold gf;rw[<-qX (ea l.2)];exact HV _):=u
def FL(u:R:=by grind[List.drop_eq_getElem_cons]):=u
def Rf(u:R:=by grind[Array.mapM_eq_mapM_toList,Sem.run_map,Go.Result.andThen_ok]):=u
def Rg(u:R:=by rw[show((b.2.1.length:Int)-1).toNat=b.2.1.length-1 by omega];rfl):=u
def FM(u:R:=by simp only[U,a8,a_];omega):=u
def FN(u:R:=by rw[<-o8];exact g5 _ bq):=u
def si(u:R:=by grind[nK]):=u
def wE(u:R:=by grind[mH]):=u
def z6(u:R:=by simp[World.freeze,ae]):=u
def FO(u:R:=by simp[b2,a3.E,a3.U]):=u
def uf(u:R:=by simp[bu,ai]):=u
def ug(u:R:=by grind[Nat.eq_of_beq_eq_true]):=u
def FP(u:R:=by grind[List.take_append_drop]):=u
def z7(u:R:=by show _*24<=_;omega):=u
def wF(u:R:=by simpa using u):=u
def z8(u:R:=by unfold mQ;grind):=u
def FQ(u:R:=by simp[hJ,i',nE,jA]):=u
def FR(u:R:=by unfold js;split<;>omega):=u
def Rh(u:R:=by simp[b2,X,ab,cM,a2.U,bk.U,a3.U,ba]):=u
def Ri(u:R:=by simp only[U,a8,bb,a_];and_intros<;>omega):=u
def Rj(u:R:=by simp[ac,u,G,Instr.loadAt,Instr.sureAddr]):=u
def FS(u:R:=by simp[bu]):=u
def Rk(u:R:=by intro ai s;simp at s;subst s;exact bk_cell _ _ rfl):=u
def z9(u:R:=by simp[ai]):=u
def sj(u:R:=by simp[I]):=u
def FT(u:R:=by rw[Op.bytesLess.eq_def]):=u
def Rl(u:R:=by simp[rB,e,bF.E,bF.U,r',ab]):=u
def Rm(u:R:=by rw[<-i.bC j (λL W cM=>s ⟨L,W,cM⟩)];exact bd):=u
def z_(u:R:=by simpa using iK):=u
def uh(u:R:=by simp[jP]):=u
def Rn(u:R:=by simp only[U,a8,gu,bb,a_];omega):=u
def z'(u:R:=by cases op<;>rfl):=u
def Ro(u:R:=by simp[ac,cz,resolve,invoke,builtin]):=u
def wG(u:R:=by simp[bT]):=u
def Rp(u:R:=by simp only[U,a8,dr,bb,a_];omega):=u
def Rq(u:R:=by simp only[U,a8,bA,bb,a_];omega):=u
def Rr(u:R:=by rw[show IntKind.u64.bits=64 from rfl];omega):=u
def FU(u:R:=by rw[s];simp):=u
def Rs(u:R:=by unfold ct;grind[List.take_append_drop]):=u
def Rt(u:R:=by simp[ac,u,resolve,invoke,builtin]):=u
def Ru(u:R:=by unfold dH;grind[List.take_append_drop]):=u
def FV(u:R:=by unfold e8;grind):=u
def Aa(u:R:=by simp[fh]):=u
def Rv(u:R:=by simp only[look];cases af bC o<;>rfl):=u
def Rw(u:R:=by simp only[U.Z,U,k,w,gh,bb]):=u
def FW(u:R:=by rw[cH.ai.size];omega):=u
def zL(u:R:=by cases w<;>rfl):=u
def EW(u:R:=by simp only[c_,j]):=u
def Nw(u:R:=by simp only[U.Z,U,ai,bb,a_]):=u
def Nx(u:R:=by show(b.a.drew.heap.push _).size=_;simp):=u
def Ny(u:R:=by rw[Ga (by simp;omega)];simp;omega):=u
def Nz(u:R:=by have:=K1 ed;simp only[a8];omega):=u
def EX(u:R:=by unfold ds;omega):=u
def EY(u:R:=by simp[Act.eval,stA]):=u
def EZ(u:R:=by simp only[dt,dq]):=u
def E0(u:R:=by simp only[dt,cS]):=u
def NA(u:R:=by have:=Vc_upd z (⟨1,0,1⟩:WD) g';grind):=u
def wq(u:R:=by simp[mk]):=u
def NB(u:R:=by simp only[fs,jK,bA];grind):=u
def wt(u:R:=by rw[upd_same];simp):=u
def NC(u:R:=by simp[World.shape?,ba.heap _ _ ba.cJ]):=u
def ND(u:R:=by simp[Frame.enter,Frame.M,rP,cW,j]):=u
def NE(u:R:=by simp only[U];exact aB.U _):=u
def NF(u:R:=by grind[run_store,setCell_eq_setRow]):=u
def afg(u:R:=by simp[deafBehind]):=u
def E2(u:R:=by simp[bT];omega):=u
def NG(u:R:=by simp only[U,bb,a_];omega):=u
def NH(u:R:=by unfold g0;rw[bm];grind):=u
def NI(u:R:=by unfold eP Region.binds;grind):=u
def NJ(u:R:=by simp[b2,F,a3.E,a3.U]):=u
def NK(u:R:=by simp[fy]):=u
def E3(u:R:=by simp only[gl,nA,bm u];rfl):=u
def NL(u:R:=by have:=eM List.length br;grind):=u
def NM(u:R:=by grind[Z0]):=u
def E4(u:R:=by grind[Option.isSome_iff_exists]):=u
def afh(u:R:=by rw[<-o8];exact g5 _ G):=u
def NN(u:R:=by simpa using List.find?_some j):=u
def NO(u:R:=by simp[zeroValue,typeInfo,Nr,a]):=u
def E5(u:R:=by rw[u.len];simp):=u
def E6(u:R:=by grind[M4]):=u
def NP(u:R:=by simp only[gl,nA,dJ,e]):=u
def afi(u:R:=by rw[Jp C A ab];grind):=u
def afj(u:R:=by simpa using ai):=u
def NQ(u:R:=by simp[aL,C,bq]):=u
def NR(u:R:=by simp only[ac,cz,w]):=u
def NS(u:R:=by simp only[U,dr];omega):=u
def NU(u:R:=by simp only[U,bA];omega):=u
def NV(u:R:=by rw[<-d];simp only[KK];omega):=u
def NW(u:R:=by unfold e8 at x⊢;grind):=u
def NX(u:R:=by simp[deafBehind,semEvents]):=u
def E7(u:R:=by simp[ct]):=u
def NY(u:R:=by simp[mA,List.drop_take]):=u
def E8(u:R:=by rw[ip bX]):=u
def fv(u:R:=by and_intros<;>omega):=u
def iB(u:R:=by exact .aO (a1.eU (d:=0) be rfl rfl rfl rfl rfl) rfl):=u
def j8(u:R:=by rw[kL u M];simp):=u
def kE(u:R:=by exact dy _ _ rfl E):=u
def nS(u:R:=by refine g.cv () [0,1,2] ?_ pk;simp):=u
def oV(u:R:=by simp[a8];omega):=u
def oW(u:R:=by refine g.cv () [0,1] ?_ yb;simp):=u
def pT(u:R:=by simp only[U];grind):=u
def q5(u:R:=by exact .aO (a1.fJ rfl rfl Tryz.underlying22 rfl cc) rfl):=u
def q6(u:R:=by and_intros<;>first|rfl|omega):=u
def q7(u:R:=by simp only[U,cZ,c9,C,a8,bA,bb,a_];and_intros<;>omega):=u
def se(u:R:=by refine g.freeze 4 1 rfl rfl rfl ?_;exact g.cu be [] rfl E rfl rfl rfl fO):=u
def sf(u:R:=by show e+1<=_;omega):=u
def sg(u:R:=by exact bW.dn [0] rfl v rfl rfl rfl g_):=u
def sh(u:R:=by simp only[U,a8];and_intros<;>omega):=u
def t_(u:R:=by exact g.aS [0] rfl E s5):=u
def t'(u:R:=by simp only[U.Z,U,bb,a_];and_intros<;>first|exact bu.same|exact w.2|rfl):=u
def ua(u:R:=by rw[w7]at this;exact this):=u
def wu(u:R:=by simp only[U,x,a8,bA,bb,a_];and_intros<;>omega):=u
def wv(u:R:=by refine g.bF 6 rfl rfl rfl E E ?_;refine g.bF 7 rfl rfl rfl E E ?_;refine cO x rfl v ?_;refine g.cv () [0,1,2] ?_ pk;simp[hF,C]):=u
def ww(u:R:=by exactλw=>⟨.y,.y,.y,.eval (bh:=[]) be x (ck:=[a8 .i64 _]) rfl lA,.eval (bh:=[]) be x (ck:=[_,_]) rfl lA,.y,.y,v,.y,v⟩):=u
def wx(u:R:=by exact⟨.y,.y,.y,.eval (bh:=[]) be x (ck:=[a8 .i64 _]) rfl lA,.eval (bh:=[]) be x (ck:=[_,_]) rfl lA,.y,.y,v,v,v⟩):=u
def wy(u:R:=by exact dB.cL (λ_ _ _ _=>ja rfl) rfl rfl bC rfl E):=u
def wz(u:R:=by exact a0 rfl v (g.aw rfl)):=u
def wA(u:R:=by simp[hv,w5];split<;>simp):=u
def wB(u:R:=by refine g.eO 3 ?_;refine g.cO 9 rfl (λ_=>rfl) ?_;refine g.ret ?_;exact⟨⟨_,bu.same⟩,.inl rfl,rfl,rfl,_,_,_,rfl,rfl,rfl,rfl⟩):=u
def zM(u:R:=by rw[ofEvent_loc_mark bd]at s;cases s):=u
def zN(u:R:=by rw[j];simp only[ae];simp;exact I):=u
def zO(u:R:=by simp only[U,ae,a8,show ef.bytes=8 from rfl,bA,dr,gW,eY,kh,RT,d_];and_intros<;>first|rfl|omega|(simp[g7,iK];done)):=u
def zP(u:R:=by and_intros<;>first|exact k|omega):=u
def zQ(u:R:=by grind [Sl,aV.a2,a1.bits]):=u
def zR(u:R:=by refine g.freeze 8 1 rfl rfl rfl ?_;exact g.cu be [] rfl E rfl rfl rfl fO):=u
def zS(u:R:=by rw[s];simp only[U.Z,U,I,dk,gG,bb,a_];and_intros<;>first|exact bu.same|exact ae X|rfl|omega):=u
def zT(u:R:=by rw[U,aas u afk]):=u
def zU(u:R:=by simp only[U,a8,dr,bb,a_];and_intros<;>omega):=u
def zV(u:R:=by exact a7 [(16,m)] rfl bH (g.aB (e+1) rfl E E M y)):=u
def zW(u:R:=by exact cO x rfl v (g.aw rfl)):=u
def zX(u:R:=by simp only[U,a2.E,a2.U,bk.E,bk.U,a3.E,a3.U,aB.E,aB.U,bF.E,bF.U,x,s,r',I,j,gu,is,bb,a_];simp):=u
def zY(u:R:=by refine g.aF (qs b x.a1 x.bs x.a4 x.bB x.aN) [] rfl ?_;refine cO s rfl v ?_;refine g.freeze 8 1 rfl rfl rfl ?_;refine g.cu be [] rfl ?_ rfl rfl rfl fO;simp):=u
def zZ(u:R:=by simp only[U,cZ,c9,ae,a8,bA,bb,a_];and_intros<;>omega):=u
def z0(u:R:=by simp only[U,cZ,c9,o,R,a8,bA,bb,a_];and_intros<;>omega):=u
def z1(u:R:=by simp only[U.Z,U,bb,a_];omega):=u
def E9(u:R:=by exact⟨by omega,by omega,by grind[L0]⟩):=u
def E'(u:R:=by exact aV.eval (bh:=[]) be a9.nil rfl cz):=u
def Fa(u:R:=by have:(x==j)=m:=eY.2 M;simp[this]):=u
def Fb(u:R:=by refine g.aw rfl ?_;simp[bu,cg]):=u
def Fc(u:R:=by exact⟨bX,cr,by grind,lW,.refl _ _⟩):=u
def Fe(u:R:=by refine g.eO 2 ?_;refine g.cO 9 rfl (λ_=>rfl) ?_;refine g.cO 10 rfl (λ_=>rfl) ?_;refine g.ret ?_;exact⟨⟨_,bu.same⟩,.inl rfl,rfl,rfl,_,_,_,rfl,rfl,rfl,rfl⟩):=u
def Ff(u:R:=by grind [Go.Conc.mem_ofEvents]):=u
def Fg(u:R:=by obtain⟨_,I⟩:=J4 bq;simp only[sy]at I;have ai:e<aP.length:=(cQ.1 I).1;exact⟨by simp[ky,lk,I],AD ai⟩):=u
def Fh(u:R:=by simp only[U,ae,a8,show ox.bytes=16 from rfl,bA,dr,jJ,AB,gW,eY,kh,d_,ai,heq,hx,qe,gh,gu,iG,ng,o7,bb,a_];and_intros<;>omega):=u
def Fi(u:R:=by refine bg e [(1000017,f)] rfl v ?_;exact dy _ _ rfl E):=u
def Fj(u:R:=by refine g.bO 6 105 2 rfl rfl (g.bg [nh []] rfl E (g.aS [0] rfl E ?_));grind):=u
def Fk(u:R:=by simp only[U,x,a8,show rR.bytes=32 from rfl,bb,a_];and_intros<;>omega):=u
def Fl(u:R:=by refine g.aS [0] rfl ?_ (λw x=>absurd x E);simp):=u
def Fm(u:R:=by refine cO x rfl v ?_;refine g.cv () [0,1] ?_ yb;simp):=u
def Fo(u:R:=by simp only[U,x,dr];and_intros<;>omega):=u
def Fp(u:R:=by exact⟨λ_ _ _ _ he=>q9,λ_=>⟨λ_ _ _ _ he=>q9,.inl rfl⟩⟩):=u
def Fq(u:R:=by simp only[U,x,a8,show nz.bytes=32 from rfl,show l1.bytes=24 from rfl,bA,lF,bb,a_];and_intros<;>omega):=u
def Fs(u:R:=by grind[List.pairwise_iff_getElem]):=u
def Ft(u:R:=by rintro -;refine a0 rfl v ?_;rw[<-d,show(k1:Int)+1=((bd.k1:Nat):Int) by omega];refine g.bj bd [0,5,6,7] ?_ Yg;simp):=u
def Fu(u:R:=by exact⟨u.a.mono y,b2.1,b2.2⟩):=u
def Fv(u:R:=by have ai:=bk.cX b.2.1 u (0,[]);simp only[U.Z,U,j,cy.E,a_,bb];exact⟨⟨bu.same,bu.same,bu.same⟩,⟨bu.same,bu.same,bu.same⟩,⟨rfl,bu.same⟩,bu.same,ai⟩):=u
def Fx(u:R:=by obtain rfl:=jI (x rfl);refine a0 rfl v ?_;refine g.aw rfl ?_;simp):=u
def Fy(u:R:=by refine g.aS [0] rfl ?_ (λw x=>absurd x E);simp;rfl):=u
def Fz(u:R:=by simp only[U.Z,U,a_,bb];and_intros<;>first|exactλ_ _=>rfl|exact ai|rfl):=u
def FA(u:R:=by refine cO e rfl v (g.aX (bW.mk [0] rfl v rfl rfl rfl g_))):=u
def FB(u:R:=by simp[-al,I];omega):=u
def FC(u:R:=by simp only[U,dk,a8,bA,dr,bb,a_];and_intros<;>omega):=u
def FD(u:R:=by and_intros<;>first|omega|rfl):=u
def FE(u:R:=by simp only[U,a2.E,a2.U,bk.E,bk.U,a3.E,a3.U,aB.E,aB.U,bF.E,bF.U,x,ae,C,t,ab,ng,and_self,gu,is,bb,a_]):=u
def FF(u:R:=by intro e t cz bq;simp[hv,w5]at bq;split at bq<;>simp at bq):=u
def NZ(u:R:=by simp only[U.Z,U,x,pa,cZ,a_,bb];and_intros<;>first|exactλ_ _=>rfl|exact ai|rfl):=u
def N1(u:R:=by have ai:scanDown (λl=>!ltInt l ae[x]!) ae (e) (j-1)=i:=z2;exact dy () v rfl bw rfl E):=u
def N2(u:R:=by refine a7 [(16,f)] rfl E (g.aX (bW.mk [0] rfl ?_ rfl rfl rfl h9));simp[tb u C x]):=u
def N3(u:R:=by exact .eval (bh:=[]) be a9.nil (ck:=[a8 .i64 (((0:Nat):Int)-((0:Nat):Int))]) rfl lA):=u
def N4(u:R:=by simp only[U.Z,U,cZ,c9,o,a_,bb];exact lS t y y (λ_ _=>rfl)):=u
def N5(u:R:=by simp only[U,cZ,s,ai,x,C,j,a8,bA,dr,bb,a_];and_intros<;>omega):=u
def N6(u:R:=by have ai:scanUp (λl=>ltInt l ae[x]!) ae (j-1) (x+1)=i:=FI;exact dy () v rfl bw rfl E):=u
def N7(u:R:=by have bd:=I _ ae;simp only[U,j,cy.E,a8];exact⟨by omega,v,v,show(e+1)*32<=_ by omega,cy.U _,bd.1,bd.2,by omega,by omega,fq y⟩):=u
def N8(u:R:=by refine a0 rfl v ?_;exact⟨w,bW.dn [0] rfl v rfl rfl rfl h9⟩):=u
def N9(u:R:=by simp only[U,U.Z,j,I,s,pO,xY,a_];grind):=u
def N_(u:R:=by simp only[U.Z,U,cZ,c9,a_,bb];exact lS H y y (λ_ _=>rfl)):=u
def N'(u:R:=by obtain⟨jG,jg,wR⟩:=u.last O b2 C5 ow bQ b9;grind):=u
def Oa(u:R:=by refine g.ret ?_;exact⟨(),.inl rfl,rfl,rfl,_,_,_,rfl,rfl,rfl,v⟩):=u
def Ob(u:R:=by exact a7 [(16,m)] rfl bH (g.b5 (e+1) rfl E rfl v M y)):=u
def Oc(u:R:=by simp only[U,xo,bA,dr,x];omega):=u
def Od(u:R:=by refine a0 rfl v (g.aS [0,1] rfl E s6 (s:=bH))):=u
def Oe(u:R:=by rw[Deaf_other o y _ g_of_ofEvents];exact u.above e bq):=u
def Of(u:R:=by simp only[U,a8,dr,eY,d_];and_intros<;>omega):=u
def Og(u:R:=by simp[-al,k,a8,cy.E,cy.U,a2.E,a2.U,A,C.1];and_intros<;>first|omega|grind):=u
def Oh(u:R:=by simp only[i1,cp]at this;grind[pj]):=u
def Oi(u:R:=by intro _;refine a0 rfl v (g.aS [0] rfl ?_ h9);simp):=u
def Oj(u:R:=by rw[s];simp only[U.Z,U,ae,bb,a_];and_intros<;>first|exact w|exact i|simp|rfl|omega):=u
def Ol(u:R:=by rintro -;refine cO s rfl v ?_;refine g.cv () [] ?_ fO;simp):=u
def Om(u:R:=by simp[-al,C,a8,t,c1.S];omega):=u
def On(u:R:=by refine g.cY 4 0 2 3 (lt:=_) (cw:=.ax ae d w s) rfl rfl (λ_=>rfl) (λ_=>rfl) (λ_ _=>by decide) ?_;exact g.aS [0] rfl E s5):=u
def Oo(u:R:=by simp only[oG,x,hf,ai];grind[Nat.eq_of_beq_eq_true]):=u
def Oq(u:R:=by exact⟨b9 X,C,λs1 cS=>⟨X,Q,O.rely cS C,C.rely cS,I.trans cS.aQ,ai⟩⟩):=u
def Ot(u:R:=by simp[ac,cz,resolve,C,Deferred.ofValue,invoke,callFunc,I,s,j]):=u
def Ou(u:R:=by simp only[U,Cf,bS.E,x,bS.U];simp[u,ld,x,j,-List.length_flatten]):=u
def Ov(u:R:=by have O:0+((((d.take w).filter λl=>!bd l).length:Nat):Int).toNat=((d.take w).filter λl=>!bd l).length:=y;simp only[U.Z,U,O,a_,bb];exact ai):=u
def Ow(u:R:=by simp only;rw[i,dk,show ∀x,[x].length=1 fromλ_=>rfl,w6,AQ,Gb M,R,ip y];rfl):=u
def Ox(u:R:=by have:=I.bm _ (mG (show b.2.1.length-1<b.2.1.length by omega) (0,[]));omega):=u
def Oy(u:R:=by refine g.bj () [] ?_ (λw j=>absurd j E);simp):=u
def Oz(u:R:=by refine a7 [(16,f)] rfl E (g.bV (bW.zero rfl ?_));simp[tb u A x]):=u
def OA(u:R:=by simp only[U,a8,show yq.bytes=40 from rfl,bb,a_];and_intros<;>omega):=u
def OB(u:R:=by refine a7 [(7,m)] rfl bV (g.bu rfl rfl ?_);refine a0 rfl v (g.aw rfl ?_);rw[U,aav (λw I=>s w y)]):=u
def OC(u:R:=by refine g.bF 1 rfl rfl rfl E E ?_;exact g.aw rfl (by simp[x,hF])):=u
def OD(u:R:=by simp only[bd]at Q⊢;obtain⟨vE,afs,afq⟩:=u.dQ _ _ bd;grind[mH]):=u
def OE(u:R:=by simp only[U.Z,U,cZ,c9,w,e,u,xorNext_toNat,a_,bb];exact lS d y y (λ_ _=>rfl)):=u
def OF(u:R:=by rw[s];simp only[U.Z,U,ae,bb,a_];and_intros<;>first|exact w|simp|simp|simp|rfl|omega|simp):=u
def OG(u:R:=by rw[<-gM,dK]at ai;simp only[hV,eV]at ai;grind):=u
def OH(u:R:=by rw[s];simp only[U.Z,U,ae,bb,a_];and_intros<;>first|exact w|exact i|exactλ_ _=>rfl|rfl|omega):=u
def OI(u:R:=by exact⟨(),.inr rfl,rfl,rfl,_,_,_,rfl,rfl,rfl,v⟩):=u
def OJ(u:R:=by rw[cM];simp only[U.Z,U,c9,A,O,dk,gG,bb,a_];and_intros<;>first|exact bu.same|exact H|rfl|omega):=u
def OK(u:R:=by refine g.cv () [] ?_ fO;simp):=u
def OL(u:R:=by rename_i C;cases u;rw[C]at s;have j:=b8 s;generalize ai:x.tmps.getD I K=ab at j;cases j;rw[key _ ai (by simp[K])]):=u
def OM(u:R:=by simp only[U,x,j,a8,show yq.bytes=40 from rfl,show ef.bytes=8 from rfl,bA,lF,bb,a_];and_intros<;>omega):=u
def ON(u:R:=by simp only[U,I,a8,show ef.bytes=8 from rfl];exact bw):=u
def OO(u:R:=by refine g.ret ?_;exact⟨⟨_,bu.same⟩,.inl rfl,rfl,rfl,_,_,_,rfl,rfl,rfl,v⟩):=u
def OP(u:R:=by have ai:scanDown (λl=>!ltInt l d2[x]!) d2 (fA) (d)=i:=z2;exact dy () v rfl bw rfl E):=u
def OQ(u:R:=by exact bW.dn [0,1] rfl v bH rfl rfl s6):=u
def OR(u:R:=by exact bR [(14,f),(25,m)] rfl lL (g.aB (e+1) rfl E E M y)):=u
def OS(u:R:=by simp[x]at u;subst u;obtain⟨j,I⟩:=En x;grind):=u
def OT(u:R:=by exact .aO (a1.gZ rfl rfl Tryz.underlying22 rfl cc) rfl):=u
def OU(u:R:=by simp only[U,kx,tW,c9,d,t,I,ae,bA,j];grind):=u
def OV(u:R:=by have ai:scanUp (λl=>ltInt l d2[x]!) d2 (d) (ef)=i:=FI;exact dy () v rfl bw rfl E):=u
def OW(u:R:=by have ai:I[e]?=(d.filter λl=>!bd l)[e]?:=M;refine(Nu wC).trans ?_;simp only[c1.fn,gB,al,ai]):=u
def OX(u:R:=by have ai:scanDown (λl=>ltInt d2[x]! l) d2 (fA) (s)=i:=z2;exact dy () v rfl bw rfl E):=u
def OY(u:R:=by simp only[i]at k⊢;obtain⟨vE,bC,F_⟩:=u.dQ _ _ i;grind[mH]):=u
def OZ(u:R:=by simp[G,aq,stepG.exec,Frame.M,C,I,ae,GStep.after,doReturn,b2]):=u
def O0(u:R:=by rename_i bX;cases u;exact aV.a2 ba (a1.pick bd bX)):=u
def O1(u:R:=by exact .ctl ae rfl (λ_=>L6) λb4 dq=>lX .normal dI ao b4 fL bd (C.rely dq ae) (ae.rely dq) (I.trans dq.aQ)):=u
def O2(u:R:=by simp only[U,cZ,c9,O,R,a8,bA,bb,a_];and_intros<;>omega):=u
def O3(u:R:=by simp only[U,a8,show ef.bytes=8 from rfl,bA,dr,gW,eY,d_];and_intros<;>first|rfl|omega|(simp[g7];done)):=u
def O4(u:R:=by simp only[U,cZ,s,ai,x,j,a8,bA,dr,bb,a_];and_intros<;>omega):=u
def O5(u:R:=by rw[s];simp only[U.Z,U,I,dk,fp,gI,bb,a_];and_intros<;>first|exact bu.same|exact t k X|rfl|omega):=u
def O6(u:R:=by rw[d];simp[-al];exact bF.a0 _ ae):=u
def O7(u:R:=by refine cO j rfl t7 ?_;exact⟨⟨_,by rw[cZ];exact eJ⟩,.inr rfl,rfl,rfl,_,_,_,rfl,rfl,rfl,v⟩):=u
def O8(u:R:=by rw[x];simp only[U.Z,U,j,bb,a_];and_intros<;>first|exact bu.same|exact ai|rfl|omega):=u
def O9(u:R:=by simp only[U,b2,a3.E,a3.U,gu,bA,dr,bb,a_];omega):=u
def O_(u:R:=by simp only[U.Z,U,cZ,s,ai,x,a_,bb];exact lS w y y (λ_ _=>rfl)):=u
def O'(u:R:=by exact⟨by simp[aO,MemAct.low],λj s=>by simp[aO,MemAct.touch?]at s,λj s=>by simp[aO,MemAct.touch?]at s,⟨by simp,by simp⟩,by simp⟩):=u
def Pa(u:R:=by simp[-al,km,ae,I,a8];omega):=u
def Pb(u:R:=by simp only[U.Z,U,bb,a_];and_intros<;>first|exact bu.same|rfl|omega|exact d|exact t|exact d.symm|exact t.symm):=u
def Pc(u:R:=by refine bR [(14,m)] rfl bV (g.aC ?_);exact cx rfl v (g.aw rfl)):=u
def Pd(u:R:=by refine jq ?_;change dx b (Sem.events P (asInt (.int .i64 0) >>= _) _ _);simp[asInt,asIntOf,IntKind.max];exact .nil):=u
def Pe(u:R:=by exact .dk (.aO (a1.gZ rfl rfl Tryz.underlying22 rfl cc) rfl)):=u
def Pf(u:R:=by exact a7 [(8,f)] rfl (fq (J2 u)) (g.aw rfl)):=u
def Pg(u:R:=by refine cO u rfl v (g.aS [0] rfl ?_ g_);simp):=u
def Ph(u:R:=by refine a0 rfl v (g.ret (.freeze 8 4 rfl rfl rfl (.freeze 9 5 rfl rfl rfl (.of ⟨(),k9.cells be [0,1] rfl ?_ rfl rfl rfl qv⟩))));simp):=u
def Pj(u:R:=by simp only[U.Z,U,a_,bb,ss];exact⟨bu.same,bu.same,bu.same⟩):=u
def Pk(u:R:=by simp only[U,a2.E,bk.E,a3.E,bF.E,e,r',k];and_intros<;>first|rfl|exact True.intro|exact a2.U _|exact bk.U _|exact a3.U _|exact bF.U _|exact ba):=u
def Pl(u:R:=by have afu:bd*a5.size+a5.size<=A*a5.size:=afh;grind):=u
def Pm(u:R:=by rw[i.bC j (eD cW u.size) (dy j cW jr),u.bC j cW jr]):=u
def Pn(u:R:=by rw[I];simp[-al,sZ];exact bS.a0 _ _):=u
def Po(u:R:=by have bd:=C _ ae;simp only[U,j,bI.E,a8];exact⟨by omega,v,v,show(e+1)*32<=_ by omega,bI.U _,bd,by omega,by omega,fq y⟩):=u
def Pp(u:R:=by rw[s];simp only[U.Z,U,c9,I,dk,gG,bb,a_];and_intros<;>first|exact bu.same|exact C|rfl|omega):=u
def Pq(u:R:=by exact .aO (a1.fJ rfl rfl Tryz.underlying22 rfl x) rfl):=u
def Pr(u:R:=by obtain rfl:e=R.2.length:=y;rw[c8];refine a' j [(15,m)] rfl E (g.aC ?_);refine ca j rfl v ?_;refine g.bj () [] ?_ (λw i=>absurd i E);simp[hH]):=u
def Ps(u:R:=by simp only[U.Z,U,cZ,bb,a_];and_intros<;>first|exact bu.same|exact dK|rfl):=u
def Pt(u:R:=by simp only[Go.binOp,Op.shift,bm (show¬j<0 by omega),u];exact⟨rfl,rfl⟩):=u
def Pu(u:R:=by rw[j];simp only[U.Z,U,c9,I,dk,gG,bb,a_];and_intros<;>first|exact bu.same|exact d|rfl|omega):=u
def Pv(u:R:=by rw[s];simp only[U.Z,U,ae,bb,a_];and_intros<;>first|exact w|simp|simp|grind|rfl|omega|simp):=u
def Pw(u:R:=by refine g.cv () [0,1,2] ?_ pk;simp[hF]):=u
def Px(u:R:=by simp only[Go.binOp,d_,hx,dn,Op.intBits,ai,sc I];exact⟨rfl,rfl⟩):=u
def Py(u:R:=by simp[-al,t,bd,u,a8];omega):=u
def Pz(u:R:=by have:=u e (rq.2 bq);simp only[ig,cp]at this;grind):=u
def PA(u:R:=by simp only[U,s,j,bA,lF,bb,a_];and_intros<;>omega):=u
def PC(u:R:=by refine g.bj () [0,1] ?_ yb;simp):=u
def PD(u:R:=by simp only[U.Z,U,j,bb,a_];and_intros<;>first|exactλ_ _=>rfl|exact s|rfl|omega):=u
def PE(u:R:=by refine g.eO 2 ?_;refine g.cO 9 rfl (λ_=>rfl) ?_;refine g.ret ?_;exact⟨⟨_,bu.same⟩,.inl rfl,rfl,rfl,_,_,_,rfl,rfl,rfl,rfl⟩):=u
def PF(u:R:=by refine a0 rfl v (g.aS [0] rfl ?_ h9);simp):=u
def PG(u:R:=by simp[-al,-List.contains_eq_mem,I,u,ae,aB.E,aB.U,a8,show l1.bytes=24 from rfl];omega):=u
def PH(u:R:=by exact dB.b3 l.tocH [4,5] rfl rfl rfl rfl E rfl rfl rfl (λ_=>rfl) rfl (λ_=>rfl)):=u
def PI(u:R:=by refine a7 [(8,m)] rfl E (g.aC ?_);exact a0 rfl v (g.aw rfl)):=u
def PJ(u:R:=by simp only[U,C,s,j,bF.E,bF.U,ng,and_self,gh,bb,a_]):=u
def PK(u:R:=by rw[j];simp only[U.Z,U,c9,I,s,bI.E,aB.E,dk,gG,bb,a_];and_intros<;>first|exact bu.same|exact d|rfl|omega):=u
def PL(u:R:=by have ai:((d.take (i0+1)).filter λl=>!bd l).length=i0:=afi;simp[ai]):=u
def PM(u:R:=by refine cx rfl v (g.aS [0] rfl ?_ h9);simp;rfl):=u
def PN(u:R:=by simp[-al,-List.contains_eq_mem,I,u,ae,aB.E,aB.U,a8];omega):=u
def PO(u:R:=by simp only[U,b2,a3.E,a3.U,gu,bA,bb,a_];omega):=u
def PP(u:R:=by refine a7 [(9,m)] rfl bV (g.bu rfl rfl ?_);refine a0 rfl v (g.aw rfl ?_);simp[tc (λw t=>x w y)]):=u
def PQ(u:R:=by exact a7 [(8,m)] rfl (lG NM) (g.aw rfl)):=u
def PR(u:R:=by rw[j];simp[-al];exact bF.a0 _ (cq o e,lz o e)):=u
def PS(u:R:=by simp only[U.Z,U,bu.same,bb,a_];rfl):=u
def PT(u:R:=by simp only[U.Z,U,cZ,c9,a_,bb];exact lS bC y y (λ_ _=>rfl)):=u
def PU(u:R:=by simp only[dJ]at I;subst I;exact cx rfl v (g.aw rfl)):=u
def PV(u:R:=by rw[s];simp only[U.Z,U,dk,gG,bb,a_];and_intros<;>first|exact bu.same|exact ae k|rfl|omega):=u
def PW(u:R:=by simp[-al,u,kx,tW,j,I,C,s,A];omega):=u
def PX(u:R:=by refine⟨rfl,λe bq=>?_⟩;rcases e with _|_|_|_|_|_|_|_|e<;>first|rfl|omega):=u
def PY(u:R:=by and_intros<;>first|exact bS.U _|rfl|omega):=u
def PZ(u:R:=by refine g.cY 4 0 2 9 (lt:=.ax I e i C) (cw:=.nil) rfl rfl (λ_=>rfl) (λu=>absurd rfl u) (λ_ u=>absurd rfl u) ?_;exact g.aS [0] rfl E s5):=u
def P0(u:R:=by have ai:=a2.cX b.1 u (0,[]);simp only[U.Z,U,j,bI.E,a_,bb];exact⟨⟨bu.same,bu.same,bu.same⟩,⟨bu.same,bu.same,bu.same⟩,⟨rfl,bu.same⟩,ai,bu.same⟩):=u
def P1(u:R:=by exact .aO (J_ 0 rfl rfl rfl lA (λQ=>rfl) (λQ=>rfl)) rfl):=u
def P2(u:R:=by simp[-al,A,o,bI.E,bI.U,u]):=u
def P3(u:R:=by refine⟨by grind[nK],by grind,?_⟩;rw[<-s,uT,ae,show x+L / 4*2-1+(3-(i+1))+1=x+L / 4*2-1+(3-i) by omega]):=u
def P4(u:R:=by subst d;exact⟨.bool f,by simp[ac,u,j,I,x,binOp,i],Rd.bool,by simp[ac,u,j,I,x,ae,binOp,i,C]⟩):=u
def P5(u:R:=by simp only[aL];grind[setRow_other]):=u
def P6(u:R:=by simp only[U.Z,U,x,j,pa,cZ,a_,bb];and_intros<;>first|exactλ_ _=>rfl|exact A|rfl):=u
def P7(u:R:=by rw[i];simp only[dk,gG,U.Z,U,x,bb,a_];and_intros<;>first|exact A|simp|rfl|omega):=u
def P8(u:R:=by simp[-al,bC,o,b2,j,t,bI.E,bI.U,a8];omega):=u
def P9(u:R:=by refine⟨by grind,ba,by grind,λe bq=>bC e M⟩):=u
def P_(u:R:=by simp only[U,show s'.bytes=16 from rfl,bb,a_];grind):=u
def P'(u:R:=by simp only[U,a8,ai,s,A,bA,eq_self,bb,a_];omega):=u
def Qa(u:R:=by refine ca j rfl bH (g.aB (e+1) rfl E ?_ u y);simp):=u
def Qb(u:R:=by refine bR [(52,f)] rfl (by simp[ae]) (g.aS [0] rfl ?_ g_);exact bH):=u
def Qc(u:R:=by and_intros<;>first|exact bu.same|exact mm|rfl):=u
def Qd(u:R:=by refine a7 [(9,m)] rfl bV (g.aC ?_);refine a0 rfl v (g.aS [0] rfl ?_ h9);simp[tc (λw k=>x w y)]):=u
def Qe(u:R:=by simp only[hg,List.take_zero,h5,o,U.Z,U,bb,a_];and_intros<;>first|simp|rfl|omega):=u
def Qf(u:R:=by simp only[U,a8,ai,s,e,bA,dr,bb,a_];omega):=u
def Qg(u:R:=by simp only[U,bA,bb,a_];and_intros<;>omega):=u
def Qi(u:R:=by simp only[U,xo,bA,dr,x,a8];omega):=u
def Qj(u:R:=by subst u;cases l<;>cases X<;>simp only at I<;>simp[binOp,x]):=u
def Qk(u:R:=by have ai:(B.toArray++Array.replicate (fn.ntmps-B.toArray.size) K).getD o K=(B[o]?).getD K:=FK;grind):=u
def Ql(u:R:=by obtain⟨rfl,rfl⟩:=u;obtain⟨j,x⟩:=cz;replace x:0<X:=x;simp only[binOp,d_,hx,dn,Op.intDiv,show X≠0 by omega];rfl):=u
def Qm(u:R:=by simp only[U,a8,j,x,gh,bA,dr,bb,a_];and_intros<;>omega):=u
def Qn(u:R:=by intro k u;rw[fp,List.range'_succ];refine⟨by simpa using u 0 t rfl,x (k+1) λw j JT=>?_⟩;have:=u (w+1) j M;grind):=u
def Qo(u:R:=by refine ca x rfl bH ?_;refine g.aO (yF ((min (ae+8) o.length:Nat):Int) rfl rfl rfl y d) rfl rfl ?_;refine ca x rfl v (g.aw rfl ?_);simp[ai]):=u
def Qp(u:R:=by refine⟨j,rfl,?_⟩;rw[bm y];simp[gY,jL]):=u
def Qq(u:R:=by obtain⟨cS,dq⟩:=ae W gj Dx dM M;refine⟨cS,λai=>?_⟩;obtain⟨L,R,A⟩:=dq ai;refine⟨L,?_,A⟩;simp only[a6.cut,iq,gM,dJ];exact R):=u
def Qr(u:R:=by simp only[U,a8,bA,bb,a_];and_intros<;>first|rfl|omega):=u
def Qs(u:R:=by refine g.cu be [] rfl ?_ rfl rfl rfl fO;simp):=u
def Qt(u:R:=by simp[-al];exact bF.a0 _ ae):=u
def Qu(u:R:=by refine bR [(52,m),(55,f)] rfl z9 (g.aS [0] rfl ?_ g_);exact bH):=u
def Qv(u:R:=by simp only[U,cZ,s,ai,x,i,C,j,a8,bA,dr,bb,a_];and_intros<;>omega):=u
def Qw(u:R:=by exact aV.eval (bh:=[]) be a9.nil rfl (ny b d k j u)):=u
def Qx(u:R:=by rw[x];simp only[U.Z,U,dk,fp,gI,bb,a_];and_intros<;>first|exactλ_ _=>rfl|exact ba|rfl|omega):=u
def Qy(u:R:=by and_intros<;>first|exact bu.same|rfl|omega|exact s|exact I|exact s.symm|exact I.symm|(intro e bq;match e,bq with|0,_=>rfl)|(simp only[ss];omega)):=u
def Qz(u:R:=by simp only[U,show nz.bytes=32 from rfl,bb,a_];grind):=u
def QA(u:R:=by simp[-al,A,k,o,bI.E,bI.U,u,a8];omega):=u
def QB(u:R:=by simp only[U,a8,bA,dr,bb,a_];and_intros<;>omega):=u
def QD(u:R:=by subst d;exact⟨.bool m,by simp[ac,u,j,I,x,binOp,i],Rd.bool,by simp[ac,u,j,I,x,ae,binOp,i,C]⟩):=u
def QE(u:R:=by and_intros<;>first|exact bS.U _|exact e6.U _|omega):=u
def QF(u:R:=by refine a7 [(9,m)] rfl bw (g.aC ?_);exact a0 rfl v (g.aw rfl)):=u
def QG(u:R:=by rw[d];simp only[U.Z,U,j,s,A,a2.E,dk,gG,bb,a_];and_intros<;>first|exact bu.same|exact t|rfl|omega):=u
def QH(u:R:=by simp only[U,a2.E,bk.E,a3.E,bF.E,e,r',t];and_intros<;>first|rfl|exact True.intro|exact a2.U _|exact bk.U _|exact a3.U _|exact bF.U _|exact ba):=u
def QI(u:R:=by rw[s];simp only[U.Z,U,c9,w,dk,gG,bb,a_];and_intros<;>first|exact bu.same|exact d|rfl|omega):=u
def QJ(u:R:=by simp only[U,ae,a8,show ox.bytes=16 from rfl,bA,dr,jJ,AB,gW,eY,kh,d_,heq,hx,qe,gh,gu,iG,ng,o7,bb,a_];and_intros<;>omega):=u
def QK(u:R:=by have ai:=dp cW;subst ai;exact Dy (W:=W) (T:=dM) (b8 C) E ue):=u
def QL(u:R:=by simp[-al,k,t,a8,cy.E,cy.U,a2.E,a2.U,A,C.1];and_intros<;>first|omega|grind):=u
def QM(u:R:=by and_intros<;>first|exactλ_ _=>rfl|exact ai|rfl|omega):=u
def QN(u:R:=by show h (E1.aq (O.c (nA b.1 e (.slice (h ⟨j,0,q⟩) ag.length cap) (0+(e:Int).toNat))))=_;rw[k,nA,bs rfl]):=u
def QO(u:R:=by simp only[U.Z,U,dk,gG,bb,a_];and_intros<;>first|exact bu.same|exact s|rfl|omega):=u
def QP(u:R:=by rw[ae];simp only[U.Z,U,j,bS.E,k,h4,dk,gG,bb,a_];and_intros<;>first|exact bu.same|exact O|rfl|omega):=u
def QQ(u:R:=by exact⟨by exact cU,λj i=>by exact cU,⟨by simp,by simp⟩,by simp⟩):=u
def QR(u:R:=by rename_i ai;subst ai;intro pre vn;refine .ctl ae rfl (λ_=>L5 (gj:=i) (by rw[vn];simp[exitTo])) λb4 dq=>?_;exact lX .normal dI ao b4 fL bd (C.rely dq ae) (ae.rely dq) (I.trans dq.aQ)):=u
def QS(u:R:=by rw[hA]at u;cases u;exact fb.dk (eh aR ai j cz) ae i):=u
def QT(u:R:=by simp[-al,-List.length_take,I,km,j,C,s,a8];omega):=u
def QU(u:R:=by refine bR [(52,m),(55,m)] rfl bw (g.aS [0] rfl ?_ g_);simp[ae,ai,qB,C4]):=u
def QV(u:R:=by have j:=(aR o e bq).run_underlying (Q:=b.a);rw[ae]at j;simp[ac,u,x,I,Instr.index,asIntOf,j,JT,C]):=u
def QW(u:R:=by obtain⟨R,L1,cS,dq,ba⟩:=u.box d bX L aE x;obtain⟨o,w,k1,ae,C⟩:=i.box d R L1 cS dq;exact⟨o,w,k1,ae,ba.trans C⟩):=u
def QY(u:R:=by have:=I.a1 _ (mG (show b.1.length-1<b.1.length by omega) (0,[]));omega):=u
def QZ(u:R:=by simp only[U,bI.E,x,b2];and_intros<;>first|exact bI.U _|rfl|exact True.intro|grind):=u
def Q0(u:R:=by have ai:=Jp C A ab;refine⟨by omega,rfl,?_,λ_ _=>rfl⟩;grind):=u
def Q1(u:R:=by obtain⟨e,t,j,x⟩:=C3 u;exact⟨e+1,t,by grind,x⟩):=u
def Q2(u:R:=by refine a0 rfl v ?_;exact⟨(),.inr rfl,rfl,rfl,_,_,_,rfl,rfl,rfl,v⟩):=u
def Q3(u:R:=by simp[-al,I,s];omega):=u
def Q4(u:R:=by have ai:scanUp (λl=>!ltInt d2[x]! l) d2 (s) (ef)=i:=FI;exact dy () v rfl bw rfl E):=u
def Q5(u:R:=by simp[-al,A,k,u,g7,a8,cy.E,cy.U,a2.E,a2.U,bk.U,a3.U,t,bd.1];and_intros<;>first|omega|grind):=u
def Q6(u:R:=by simp at I;subst I;exact⟨_,rfl,.inr ⟨rfl,rfl⟩⟩):=u
def Q7(u:R:=by simp[ac,cz,resolve,s,Deferred.ofValue,invoke,I]):=u
def Q8(u:R:=by refine g.cY 4 0 9 2 (lt:=.nil) (cw:=.ax ae d w s) rfl rfl (λu=>absurd rfl u) (λ_=>rfl) (λu=>absurd rfl u) ?_;exact g.aS [0] rfl E s5):=u
end
end Go
namespace Go.AM
inductive N where
  |int (i:IntKind) (k:Int)
  |bool (j:Bool)
  |V (b:List UInt8)
  |S (tight:Bool) (i k:Nat) (T:Nat->List N)
  |O (ah:List N)
  |bd
  |cg (o:av) (s:N)
  |cG (o:av) (ah:List N)
  |bq
  |fn (ae:Fn) (first cap:List N)
  |df
  |val (l:aa)
inductive pV where
  |S (C i t k:Nat)
  |bz (C i e ae:Nat)
def pV.g:pV->Nat
  |.S C _ _ _=>C
  |.bz C _ _ _=>C
def pV.fZ:pV->aa->aa->Prop
  |.S _ i n l,d,j=>∃k e a b,j=.slice k l a/\l<=a/\n+a=b/\b<=9223372036854775807/\d=.slice e 0 b/\(0<a->∃g,e=h ⟨g,0,q⟩/\k=h ⟨g,n*i,q⟩)
  |.bz _ i p o,d,j=>∃g b,d=.slice (h ⟨g,0,q⟩) 0 b/\j=.pointer (h ⟨g,p*i+o,q⟩)
inductive O where
  |c (l:N)
  |ptr (d off:Nat)
  |r (d i k:Nat) (T:Nat->List N)
  |aR (d:Nat)
  |R (d:Nat) (Q:pV)
  |any
abbrev O.v(a:aa):O:=.c (.val a)
inductive E1 where
  |aq (x:O)
  |agg (ah:List O)
inductive z where
  |q (l:E1)
  |Q (ag:List E1)
  |any
abbrev bJ:=p (Nat×z)
def look:bJ->Nat->z
  |[],_=>.any
  | (d,b)::e,a=>cond (af d a) b (look e a)
inductive an where
  |cells (W:av) (ah:List O)
  |r (W:av) (i k:Nat) (T:Nat->List N)
  |J (H:aa->(Nat->Option Obj)->Prop)
  |x
  |loop (D:Nat) (F:bJ) (ba:Loop)
  |bo
  |h (W:av) (i k:Nat) (T:Nat->List N)
@[simp] def an.dP:an->Bool
  |.r _ _ _ _=>f
  |.h _ _ _ _=>f
  |_=>m
structure Loc where
  v:aa
  al:p Nat
abbrev Mem:=Nat->Nat->Option aa
structure a6 where
  m:p Loc
  u:Mem
  a:au
  own:Nat->Prop
def a8:IntKind->Int->Prop
  |.i8,a=>-128<=a/\a<=127
  |.i16,a=>-32768<=a/\a<=32767
  |.i32,a=>-2147483648<=a/\a<=2147483647
  |.i64,a=>-9223372036854775808<=a/\a<=9223372036854775807
  |.u8,a=>0<=a/\a<=255
  |.u16,a=>0<=a/\a<=65535
  |.u32,a=>0<=a/\a<=4294967295
  |.u64,a=>0<=a/\a<=18446744073709551615
def dX:aa->Bool
  |.agg _|.tuple _=>m
  |_=>f
def pV.fZ.cell{b:pV}{aaA ab}(a:b.fZ aaA ab):dX ab=f:=by
  cases b with
  |S=>obtain⟨_,_,_,_,rfl,_⟩:=a;rfl
  |bz=>obtain⟨_,_,_,rfl⟩:=a;rfl
inductive Rd (bE:Mem):aa->N->Prop
  |int {i:IntKind} {k:Int} (u:a8 i k):Rd bE (.int i k) (.int i k)
  |bool {j:Bool}:Rd bE (.bool j) (.bool j)
  |V {b:ByteArray} {d:List UInt8} (u:b.data.toList=d) (gM:c d<=9223372036854775807):Rd bE (.string b) (.V d)
  |S {x:Option Addr} {k cap:Nat} {tight:Bool} {i:Nat} {T:Nat->List N} (j off:Nat) (ae:Nat->Nat->aa)
      (afp:k<=cap) (cW:cap<=9223372036854775807) (afv:tight=f->cap=k) (b2:∀e,e<k->c (T e)=i)
      (afn:0<k->x=h ⟨j,off,q⟩)
      (pq:∀e,e<k->∀w s,(T e)[w]?=h s->bE j (off+e*i+w)=h (ae e w))
      (JU:∀e,e<k->∀w s,(T e)[w]?=h s->Rd bE (ae e w) s):Rd bE (.slice x k cap) (.S tight i k T)
  |O {ah:List N} (j off:Nat) (ae:Nat->aa)
      (pq:∀w s,ah[w]?=h s->bE j (off+w)=h (ae w))
      (JU:∀w s,ah[w]?=h s->Rd bE (ae w) s):Rd bE (.pointer (h ⟨j,off,q⟩)) (.O ah)
  |bd:Rd bE (.pointer q) .bd
  |cg {o:av} {ab:aa} {s:N} (u:Rd bE ab s) (afo:dX ab=f):Rd bE (.iface o ab) (.cg o s)
  |cG {o:av} {B:List aa} {ah:List N} (gM:c B=c ah)
      (ae:Nat->aa) (rP:∀w,w<c B->B[w]?=h (ae w)) (JU:∀w s,ah[w]?=h s->Rd bE (ae w) s):Rd bE (.iface o (.agg B.toArray)) (.cG o ah)
  |bq:Rd bE .nilIface .bq
  |fn {C:Fn} {first cap:List N} (h_ ah:List aa) (gM:c h_=c first) (afr:c ah=c cap) (f1 f2:Nat->aa)
      (cS:∀w,w<c h_->h_[w]?=h (f1 w)) (dq:∀w,w<c ah->ah[w]?=h (f2 w))
      (afA:∀w s,first[w]?=h s->Rd bE (f1 w) s) (afB:∀w s,cap[w]?=h s->Rd bE (f2 w) s):Rd bE (.func C h_.toArray ah.toArray) (.fn C first cap)
  |df:Rd bE .nilFunc .df
  |val {l:aa} (u:dX l=f):Rd bE l (.val l)
theorem Rd.bk{bE}{ab l}(a:Rd bE ab (.val l)):ab=l:=by cases a;rfl
def Rd.cell{bE}{ab}{s}(a:Rd bE ab s):dX ab=f:=by cases a<;>first|rfl|assumption
def Rd.mono{bE n}(I:∀l J ab,bE l J=h ab->n l J=h ab){ab}{s}(i:Rd bE ab s):Rd n ab s:=by
  induction i with
  |int i=>exact .int i
  |bool=>exact .bool
  |V i e=>exact .V i e
  |S l g o K C E D B k r b=>
    exact .S l g o K C E D B (λF j d s a=>I _ _ _ (k F j d s a)) (λF j d s a=>b F j d s a)
  |O l g o k r b=>exact .O l g o (λd s a=>I _ _ _ (k d s a)) (λd s a=>b d s a)
  |bd=>exact .bd
  |cg i M b=>exact .cg b M
  |cG e o N r b=>exact .cG e o N (λd s a=>b d s a)
  |bq=>exact .bq
  |fn y v e p w x z A Q R t u=>exact .fn y v e p w x z A (λd s a=>t d s a) (λd s a=>u d s a)
  |df=>exact .df
  |val i=>exact .val i
def cA(i:p an)(j:a6)(b:aa):O->Prop
  |.c w=>Rd j.u b w
  |.ptr a n=>(∀k,i[a]?=h k->k.dP=m)/\∃L v,j.m[a]?=h L/\L.v=.pointer (h ⟨v,0,q⟩)/\b=.pointer (h ⟨v,n,q⟩)
  |.r a r e d=>Rd j.u b (.S m r e d)/\a<c i/\∀o s g l,i[a]?=h (an.r o s g l)->e<=g/\(g=e->∃L,j.m[a]?=h L/\b=L.v)
  |.aR a=>(∀k,i[a]?=h k->k.dP=m)/\∃L,j.m[a]?=h L/\b=L.v/\dX b=f
  |.R a t=>∃u,t.fZ u b/\a<c i/\∀o r e d,i[a]?=h (an.h o r e d)->t.g<=e/\(t.g=e->∃L,j.m[a]?=h L/\L.v=u)
  |.any=>dX b=f
def bN(b:p an)(d:a6):p aa->p O->Prop
  |[],[]=>True
  |g::B,e::a=>cA b d g e/\bN b d B a
  |_,_=>False
def ey(b:p an)(d:a6)(e:aa):E1->Prop
  |.aq g=>cA b d e g
  |.agg a=>∃B:p aa,e=.agg B.toArray/\bN b d B a
def eU(b:p an)(d:a6):p aa->p E1->Prop
  |[],[]=>True
  |g::B,e::a=>ey b d g e/\eU b d B a
  |_,_=>False
def bz(b:p an)(d:a6)(e:aa):z->Prop
  |.q g=>ey b d e g
  |.Q a=>∃B:p aa,e=.tuple B.toArray/\eU b d B a
  |.any=>True
def b6(b:p an)(d:a6):p aa->p z->Prop
  |[],[]=>True
  |g::B,e::a=>bz b d g e/\b6 b d B a
  |_,_=>False
structure e2(bE:Mem)(i k:Nat)(T:Nat->p N)(B:p aa):Prop where
  len:c B=k*i
  bI:∀e,e<k->c (T e)=i
  rd:∀e,e<k->∀(w:Nat) (s:N),(T e)[w]?=h s->∃ab,B[e*i+w]?=h ab/\Rd bE ab s
def e2.mono{bE a}(n:∀j l ab,bE j l=h ab->a j l=h ab){i k}{b:Nat->p N}{B}(d:e2 bE i k b B):e2 a i k b B:=
  ⟨d.len,d.bI,λr e s o g=>let ⟨ab,cS,dq⟩:=d.rd r e s o g;⟨ab,cS,dq.mono n⟩⟩
def ew(v:p an)(b:a6):an->Loc->Prop
  |.cells n t,L=>∃a B,L=⟨.pointer (h ⟨a,0,q⟩),[a]⟩/\b.a.heap[a]?=h (.cells (List.toArray B) n (0,0))/\bN v b B t/\∀d,b.u a d=q
  |.r n k g e,L=>Rd b.u L.v (.S m k g e) /\
      (((L.al=[]/\g=0)/\Rd b.u L.v (.S f k g e)) ∨
       ∃a i B,L=⟨.slice (h ⟨a,0,q⟩) g i,[a]⟩/\b.a.heap[a]?=h (.cells (List.toArray B) n (0,0))/\c B=i*k/\∀d,g*k<=d->b.u a d=q)
  |.J H,L=>∃j,H L.v j/\(∀a d,j a=h d->b.a.heap[a]?=h d)/\(∀a,a∈L.al↔(j a).isSome=f)/\∀a∈L.al,∀d,b.u a d=q
  |.x,_=>True
  |.loop y x l,L=>∃s tmps fn u,L=⟨.func (.yield s) #[] #[],[s]⟩/\b.a.heap[s]?=h (.loop {l with tmps:=tmps,fn:=fn,defers:=u})/\tmps.size=y/\(∀w,bz v b (tmps.getD w K) (look x w))/\∀d,b.u s d=q
  |.bo,L=>∃l:Nat,L=⟨.int .i64 l,[l]⟩/\b.a.heap[l]?=h (.deferred (h []))/\∀d,b.u l d=q
  |.h n k g e,L=>(g=0/\L=⟨.slice q 0 0,[]⟩)∨∃a r B o,L=⟨.slice (h ⟨a,0,q⟩) 0 r,[a]⟩/\b.a.heap[a]?=h (.cells (List.toArray (B++o)) n (0,0))/\c (B++o)=r*k/\g<=r/\r<=9223372036854775807/\e2 b.u k g e B/\∀d,b.u a d=q
structure bc(n:p an)(b:a6):Prop where
  mem:∀j t ab,b.u j t=h ab->b.a.cell? ⟨j,t,q⟩=h ab
  len:c b.m=c n
  box:∀(d:Nat) (bX:an) (L:Loc),n[d]?=h bX->b.m[d]?=h L->ew n b bX L
  a3:∀(d kR:Nat) (L cr:Loc),b.m[d]?=h L->b.m[kR]?=h cr->∀j∈L.al,j∈cr.al->d=kR
  lt:∀L∈b.m,∀j∈L.al,j<b.a.heap.size
  own:∀j,b.own j->j<b.a.heap.size/\∀L∈b.m,j∉L.al
def fK:an->Loc->an->Loc->Prop
  |.r _ _ d _,L,.r _ _ b _,a=>(b=d->a.v=L.v)/\d<=b
  |.r _ _ _ _,_,.x,_=>True
  |.r _ _ _ _,_,_,_=>False
  |.h _ _ d _,L,.h _ _ b _,a=>(b=d->a.v=L.v)/\d<=b
  |.h _ _ _ _,_,.x,_=>True
  |.h _ _ _ _,_,_,_=>False
  |_,_,.r _ _ _ _,_=>False
  |_,_,.h _ _ _ _,_=>False
  |.x,L,.x,a=>a.v=L.v
  |.x,_,_,_=>False
  |.bo,L,.bo,a=>a.v=L.v
  |.bo,_,_,_=>False
  |_,_,.bo,_=>False
  |_,L,_,a=>a.v=L.v
structure fm(n:p an)(b:a6)(ao:p an)(az:a6):Prop where
  mem:∀j t ab,b.u j t=h ab->az.u j t=h ab
  box:∀(d:Nat) (bX:an) (L:Loc),n[d]?=h bX->b.m[d]?=h L->∃ec cr,ao[d]?=h ec/\az.m[d]?=h cr/\fK bX L ec cr
structure cP(n:p an)(b:a6)(ao:p an)(az:a6):Prop where
  size:b.a.heap.size<=az.a.heap.size
  a7:∀j,j<b.a.heap.size->(∀L∈b.m,j∉L.al)->az.a.heap[j]?=b.a.heap[j]?
  mem:∀j t ab,b.u j t=h ab->az.u j t=h ab
  bC:∀j,j<b.a.heap.size->(∀L∈b.m,j∉L.al)->∀t,az.u j t=b.u j t
  bU:∀cr∈az.m,∀j∈cr.al,b.a.heap.size<=j∨∃L∈b.m,j∈L.al
  box:∀(d:Nat) (bX:an) (L:Loc),n[d]?=h bX->b.m[d]?=h L->∃ec cr,ao[d]?=h ec/\az.m[d]?=h cr/\fK bX L ec cr
  os:az.a.os=b.a.os
  tape:az.a.tape=b.a.tape
  output:az.a.output=b.a.output
  own:az.own=b.own
structure dg(n:p an)(b:a6)(ao:p an)(az:a6):Prop where
  size:b.a.heap.size<=az.a.heap.size
  a7:∀j,b.own j->az.a.heap[j]?=b.a.heap[j]?
  mem:∀j t ab,b.u j t=h ab->az.u j t=h ab
  bC:∀j,j<b.a.heap.size->(∀L∈b.m,j∉L.al)->∀t,az.u j t=b.u j t
  bU:∀cr∈az.m,∀j∈cr.al,b.a.heap.size<=j∨∃L∈b.m,j∈L.al
  box:∀(d:Nat) (bX:an) (L:Loc),n[d]?=h bX->b.m[d]?=h L->∃ec cr,ao[d]?=h ec/\az.m[d]?=h cr/\fK bX L ec cr
  os:az.a.os=b.a.os
  tape:az.a.tape=b.a.tape
  output:az.a.output=b.a.output
  own:az.own=b.own
structure cX(b az:a6):Prop where
  m:az.m=b.m
  u:az.u=b.u
  own:az.own=b.own
  size:b.a.heap.size<=az.a.heap.size
  a7:∀j,(b.own j∨∃L∈b.m,j∈L.al)->az.a.heap[j]?=b.a.heap[j]?
  mem:∀j t ab,b.u j t=h ab->az.a.cell? ⟨j,t,q⟩=h ab
  os:az.a.os=b.a.os
  tape:az.a.tape=b.a.tape
  output:az.a.output=b.a.output
def h8(d:a6)(b:aT):Prop:=
  match b.loc with
  |.cell a=>b.sync=m/\a.spot=q/\(False∨((∃L∈d.m,a.block∈L.al)/\(b.write=f->d.u a.block a.off=q))∨(b.write=m/\∃j,d.u a.block a.off=h j))
  |.obj i=>b.sync=m/\(False∨∃L∈d.m,i∈L.al)
  |.mark e=>e=.noRoom∨∃g,e=.extern g
  |_=>False
def dx(d:a6)(a:Array aT):Prop:=∀b∈a,h8 d b
def dx.nil{b}:dx b #[]:=by intro a d;grind
def fK.refl(a)(L):fK a L a L:=by cases a<;>simp[fK]
def fK.trans{g d a}{L e b}(j:fK g L d e)(i:fK d e a b):fK g L a b:=by
  cases g<;>cases d<;>cases a<;>simp_all[fK]
  all_goals
    grind
def cP.refl(n)(b):cP n b n b:=
  ⟨bB _,λ_ _ _=>rfl,λ_ _ _ a=>a,λ_ _ _ _=>rfl,λL a i d=>.inr ⟨L,a,d⟩,λ_ e L a g=>⟨e,L,a,g,.refl _ _⟩,rfl,rfl,rfl,rfl⟩
def cP.trans{n aM a}{b e b4}(u:cP n b aM e)(i:cP aM e a b4):cP n b a b4:=by
  have dy:∀j,j<b.a.heap.size->(∀L∈b.m,j∉L.al)->∀L∈e.m,j∉L.al:=by
    intro j cW jr L x g;rcases u.bU L x j g with cS|⟨v,t,p⟩
    · omega
    grind
  refine⟨fM u.size i.size,?_,λj l y k=>i.mem _ _ _ (u.mem _ _ _ k),?_,?_,?_,i.os.trans u.os,i.tape.trans u.tape,i.output.trans u.output,i.own.trans u.own⟩
  · intro j cW jr
    rw[i.a7 j (eD cW u.size) (dy j cW jr),u.a7 j cW jr]
  · intro j cW jr l
    exact Pm
  · intro L x j cW
    rcases i.bU L x j cW with cS|⟨L1,s,r⟩
    · exact .inl (fM u.size cS)
    grind
  · intro d bX L aE x
    exact QW
def dg.refl(n)(b):dg n b n b:=
  ⟨bB _,λ_ _=>rfl,λ_ _ _ a=>a,λ_ _ _ _=>rfl,λL a i d=>.inr ⟨L,a,d⟩,λ_ e L a g=>⟨e,L,a,g,.refl _ _⟩,rfl,rfl,rfl,rfl⟩
def dg.trans{n aM a}{b e b4}(u:dg n b aM e)(i:dg aM e a b4):dg n b a b4:=by
  have dy:∀j,j<b.a.heap.size->(∀L∈b.m,j∉L.al)->∀L∈e.m,j∉L.al:=by
    intro j cW jr L x g;rcases u.bU L x j g with cS|⟨v,t,p⟩
    · omega
    grind
  refine⟨fM u.size i.size,?_,λj l y k=>i.mem _ _ _ (u.mem _ _ _ k),?_,?_,?_,i.os.trans u.os,i.tape.trans u.tape,i.output.trans u.output,i.own.trans u.own⟩
  · intro j cW
    rw[i.a7 j (by rw[u.own];exact cW),u.a7 j cW]
  · intro j cW jr l
    exact Pm
  · intro L x j cW
    rcases i.bU L x j cW with cS|⟨L1,s,r⟩
    · exact .inl (fM u.size cS)
    grind
  · intro d bX L aE x
    exact QW
def cP.too5{n ao}{b az}(e:bc n b)(a:cP n b ao az):dg n b ao az:=
  ⟨a.size,λg d=>a.a7 g (e.own g d).1 (e.own g d).2,a.mem,a.bC,a.bU,a.box,a.os,a.tape,a.output,a.own⟩
def dg.ext{n ao}{b az}(a:dg n b ao az):fm n b ao az:=⟨a.mem,a.box⟩
def cX.refl{n}{b}(a:bc n b):cX b b:=⟨rfl,rfl,rfl,bB _,λ_ _=>rfl,a.mem,rfl,rfl,rfl⟩
def cX.aQ{n}{b az}(a:cX b az):dg n b n az:=
  ⟨a.size,λg d=>a.a7 g (.inl d),λg l o j=>by rw[a.u];exact j,λ_ _ _ _=>by rw[a.u],λL e g d=>.inr ⟨L,by rw[<-a.m];exact e,d⟩,
    λk i L aE e=>⟨i,L,aE,by rw[a.m];exact e,.refl _ _⟩,a.os,a.tape,a.output,a.own⟩
def cP.ext{n ao}{b az}(a:cP n b ao az):fm n b ao az:=⟨a.mem,a.box⟩
section mono
variable {n ao:p an}{b az:a6}
def fm.hK(l:fm n b ao az){a:Nat}{L}(k:b.m[a]?=h L)(o:c b.m=c n)(i:∀d,n[a]?=h d->d.dP=m):
    (∀d,ao[a]?=h d->d.dP=m)/\∃e,az.m[a]?=h e/\e.v=L.v:=by have j:a<c n:=M;obtain⟨g,e,k1,r,s⟩:=l.box a (n[a]) L (bK j) k;have p:=i _ (bK j);generalize n[a]=d at *;rw[k1];cases d<;>cases g<;>simp_all[fK,an.dP]
def cA.mono(j:fm n b ao az)(t:c b.m=c n){ab}{w}(k:cA n b ab w):cA ao az ab w:=by
  cases w with
  |c V=>exact Rd.mono j.mem k
  |any=>exact k
  |ptr a K=>
    obtain⟨i,L,N,e,z,F⟩:=k;obtain⟨r,d,k1,A⟩:=j.hK e t i;exact⟨r,d,N,k1,by grind,F⟩
  |r a S T O=>
    obtain⟨B,l,Q⟩:=k;obtain⟨v,d,k1,A,s⟩:=j.box a (n[a]) (b.m[a]'y) (bK l) (bK y);have x:a<c ao:=(cQ.1 k1).1;refine⟨Rd.mono j.mem B,x,λM C r o g=>?_⟩;rw[g]at k1;cases k1;have aE:=bK l;generalize n[a]=u at *;cases u with
    |r eL D I p=>
      obtain⟨R,J⟩:=s;grind
    |_=>simp[fK]at s
  |aR a=>
    obtain⟨i,L,e,z,F⟩:=k;obtain⟨r,d,k1,A⟩:=j.hK e t i;exact⟨r,d,k1,by grind,F⟩
  |R a U=>
    obtain⟨E,B,l,Q⟩:=k;obtain⟨v,d,k1,A,s⟩:=j.box a (n[a]) (b.m[a]'y) (bK l) (bK y);have x:a<c ao:=(cQ.1 k1).1;refine⟨E,B,x,λM C r o g=>?_⟩;rw[g]at k1;cases k1;have aE:=bK l;generalize n[a]=u at *;cases u with
    |h eL D I p=>
      obtain⟨R,J⟩:=s;grind
    |_=>simp[fK]at s
def bN.mono(g:fm n b ao az)(a:c b.m=c n){B}{ah}(e:bN n b B ah):bN ao az B ah:=by
  induction B generalizing ah with
  |nil=>cases ah<;>simp_all[bN]
  |cons j B d=>
    cases ah with
    |nil=>simp[bN]at e
    |cons i ah=>exact⟨e.1.mono g a,d e.2⟩
def ey.mono(g:fm n b ao az)(a:c b.m=c n){ab}{l}(i:ey n b ab l):ey ao az ab l:=by
  cases l with
  |aq k=>exact cA.mono g a i
  |agg j=>obtain⟨B,d,e⟩:=i;exact⟨B,d,e.mono g a⟩
def eU.mono(i:fm n b ao az)(a:c b.m=c n){B}{ag}(e:eU n b B ag):eU ao az B ag:=by
  induction B generalizing ag with
  |nil=>cases ag<;>simp_all[eU]
  |cons k B d=>
    cases ag with
    |nil=>simp[eU]at e
    |cons j g=>exact⟨e.1.mono i a,d e.2⟩
def bz.mono(i:fm n b ao az)(a:c b.m=c n){ab}{d}(j:bz n b ab d):bz ao az ab d:=by
  cases d with
  |q l=>exact ey.mono i a j
  |Q k=>obtain⟨B,e,g⟩:=j;exact⟨B,e,g.mono i a⟩
  |any=>trivial
def b6.mono(i:fm n b ao az)(a:c b.m=c n){B}{ag}(e:b6 n b B ag):b6 ao az B ag:=by
  induction B generalizing ag with
  |nil=>cases ag<;>simp_all[b6]
  |cons k B d=>
    cases ag with
    |nil=>simp[b6]at e
    |cons j g=>exact⟨e.1.mono i a,d e.2⟩
end mono
def jc(e:p an)(i:a6):p Deferred->p Nat->Prop
  |[],[]=>True
  |j::b,d::a=>(e[d]?=h .bo/\∃(L:Loc) (g:Nat),i.m[d]?=h L/\L.v=.int .i64 g/\j={target:=.collected g,args:=#[]})/\d∉a/\jc e i b a
  |_,_=>False
def jc.mono{n ao}{b az}(l:fm n b ao az):∀{a:p Deferred} {d:p Nat},jc n b a d->jc ao az a d
  |[],[],_=>trivial
  |[],_::_,e=>e.elim
  |_::_,[],e=>e.elim
  |w::a,v::d,⟨⟨j,L,e,k,x,t⟩,u,o⟩=>by
    obtain⟨g,i,k1,r,s⟩:=l.box v _ L j k;cases g<;>simp[fK]at s
    exact⟨⟨k1,i,e,r,by grind,t⟩,u,jc.mono l o⟩
def jW:p an->Bool
  |[]=>f
  |.bo::_=>m
  |_::a=>jW a
def vC:∀{e:p an},jW e=f->∀a∈e,a≠.bo
  |[],_,a,aE=>by grind
  |d::g,i,a,aE=>by
    have b:d≠.bo/\jW g=f:=by cases d<;>simp_all[jW]
    rcases e4.1 aE with rfl|aE
    · exact b.1
    · exact vC b.2 a aE
theorem mE{b}{a}{wr}{L}(d:L∈b.m)(e:a∈L.al):h8 b ⟨.obj a,wr,m⟩:=⟨rfl,.inr ⟨L,d,e⟩⟩
def dx.aq{b}{a}(e:h8 b a):dx b #[a]:=by intro l d;grind
def dx.fl{b}{d a}(i:h8 b d)(g:h8 b a):dx b #[d,a]:=by intro j e;grind
def bw{R:Prop}(u:R:=by simp<;>omega):R:=u
def cU{R:Prop}(u:R:=by((try simp only[U,U.Z,a8,bA,dr,c9,cZ,dk,gG,fp,gI,kK,List.length_take,d_,eY,gW,kh,dn,dJ,gh,iG,gu,is,hx,qe,cp,jK,jJ,ng,o7,lF,a_,bb]);and_intros<;>first|rfl|omega|trivial|assumption)):R:=u
def hz{R:Prop}(u:R:=by((try simp only[*,U,U.Z,a8,bA,dr,c9,cZ,dk,gG,fp,gI,kK,List.length_take,d_,eY,gW,kh,dn,dJ,gh,iG,gu,is,hx,qe,cp,jK,jJ,ng,o7,lF,a_,bb]);and_intros<;>first|rfl|omega|trivial|assumption)):R:=u
def lL{R:Prop}(u:R:=by(simp_all[U,U.Z,a8,bA,dr,c9,cZ,dk,gG,fp,gI,kK,List.length_take,d_,eY,gW,kh,dn,dJ,gh,iG,gu,is,hx,qe,cp,jK,jJ,ng,o7,lF,a_,bb]<;>omega)):R:=u
def bH{R:Prop}(u:R:=by((try simp only[*,U,U.Z,a8,bA,dr,c9,cZ,dk,gG,fp,gI,kK,List.length_take,d_,eY,gW,kh,dn,dJ,gh,iG,gu,is,hx,qe,cp,jK,jJ,ng,o7,lF,a_,bb,a2.E,a3.E,bk.E,bI.E,aB.E,bF.E,bS.E,cy.E,e6.E,a2.U,a3.U,bk.U,bI.U,aB.U,bF.U,bS.U,cy.U,e6.U]);and_intros<;>first|rfl|omega|trivial|assumption)):R:=u
abbrev ax(a:N):z:=.q (.aq (.c a))
abbrev aH(a b:Nat):z:=.q (.aq (.ptr a b))
abbrev cD(a:Nat)(b:pV):z:=.q (.aq (.R a b))
abbrev cN(a:Value):z:=.q (.aq (.c (.val a)))
variable {k A:Nat}{i:Int}{d j e w:Nat}{W:av}{H:aa->(Nat->Option Obj)->Prop}{L:Array Bool}{bE:Mem}{D:Nat}{P:aI}{br:ak->a6->Prop}{s:Code}{C:ak}{t:ap}{b:a6}{o:av}{ab:aa}{l X:aA}{α:Type}{η:aA->z}{ι:Type}{n:p an}{F:bJ}{all:p ap}{du:Array av}{cap:p N}{cV:p z}{lb:Nat->Option Obj}{ah:p aK}{bh:p (Nat×Bool)}{T:Nat->p N}{cR:aA}{gs:Array ak}{aP:p Nat}{ck:p Prop}{off:Nat}{op:BinOp}{aD:Array ap}{Y:p Prop}{bt:p ap}{az:a6}{ty:av}{val:Nat->Nat->aa}{B:p aa}{bi:au}{ag:Array aA}{ao dh:p an}{res:ι->z}{aM:ι->p an}
def Kc{P}{l}:∀{o:p (String×DataW Unit)}{d:p MemPlace},DataW.LaidVars P l o d->∀{e:String}{i:DataW Unit},(e,i)∈o ->
  ∃j k b a r,P.globalNamed e=h j/\(P.globals[j]?).map (·.type)=h k/\l.var? P e=h b/\DataW.trod (λ_=>()) P l 0 (λ_=>f) m a k b.toList=h (i,r)
 |[],_,_,_,_,g=>by cases g
 |(z,u)::B,d,t,e,i,g=>by
  obtain⟨j,k,b,a,r,A,x,v,y,w,s,_⟩:=t;rcases e4.1 g with n|n
  .grind
  exact Kc s n
theorem Mc{P}{a:au}(b:a.ShapedOpen P){C}{zero}{o}(d:C<P.globals.size)(i:(((begin P (λ_ _=>0) default).world.heap[C]?).bind Obj.row?)=h (zero,o)){k}(l:P.globalNamed k=h C){ah}(e:a.var? P k=h ah):
  a.heap[C]?=h (.cells ah o (0,0)):=by obtain⟨g,j,_⟩:=b.1 C zero o d i;unfold World.var? at e;grind
def Kd{P}{b}{g:p (String×DataW Unit)}(n:laidMetH P g b)(i:b.ShapedOpen P){k e}{l}(F:(k,.iface e l)∈g.filter λE=>E.2.handleName?.isNone){C o s}{cv}{zero}(d:P.globalNamed k=h C)(y:(P.globals[C]?).map (·.type)=h o)(x:P.underlying o=h (.interface cv))(D:C<P.globals.size)(I:(((begin P (λ_ _=>0) default).world.heap[C]?).bind Obj.row?)=h (zero,s)):∃a:av×aa,b.heap[C]?=h (.cells #[.iface a.1 a.2] s (0,0)):=by obtain⟨w,r,_⟩:=(laidMetH_iff.1 n).1;obtain⟨O,J,j,K,M,v,t,z,u⟩:=Kc r F;cases d.symm.trans v;cases y.symm.trans t;obtain⟨_,A,B,a,_⟩:=iface_of_trod x u;have:=Mc i D I d z;rw[Array.eq_one_of_toList a]at this;exact⟨(A,B),this⟩
def aak{P}{a}{d}(p:laidMetH P d a)(y:a.ShapedOpen P){k}{e}{b}(w:(k,e)∈d.filter λx=>x.2.handleName?.isSome)(n:e.funcsIn?=q)(u:e.handleName?=h b){C j i ty}{zero}(F:P.globalNamed k=h C)(t:(P.cutTypes.find? (·.1== "internal/reflectlite.rtype")).map (·.2)=h i)(D:((aC P.types.size).filter λg=>P.rowNamed g b)=[ty])(E:C<P.globals.size)(O:(((begin P (λ_ _=>0) default).world.heap[C]?).bind Obj.row?)=h (zero,j)):a.heap[C]?=h (.cells #[.iface i (.agg #[typeHandle P ty])] j (0,0)):=by have:=(laidMetH_iff.1 p).2 _ w;rw[n]at this;obtain⟨name,B,l,o,v,r,s,A⟩:=this;cases u.symm.trans o;cases t.symm.trans v;have z:l∈(aC P.types.size).filter λg=>P.rowNamed g b:=ji.2 ⟨rq.2 r,s⟩;grind[Mc]
section
open Go.Conc (G listed)
def kG(e b:a6)(d:Array aT):Prop:=(∃g a,bc g e/\bc a b/\cP g e a b)/\dx e d
structure aj(P:aI) where
 b8:Bool
 rely:a6->a6->Prop
 dj:ak->a6->(ak->a6->Prop)->Prop
 bN:∀{b az},rely b az->cX b az
 dR:Prop
class aj.cb {P:aI} (r:aj P):Prop where
 ok:r.dR
structure eX(b az:a6):Prop where
 a:az.a=b.a
 mem:∀j t ab,b.u j t=h ab->az.u j t=h ab
 bC:∀j,(∀L∈b.m,j∉L.al)->∀t,az.u j t=b.u j t
 cell:∀j t ab,az.u j t=h ab->b.a.cell? ⟨j,t,q⟩=h ab
 blk:∀j,(az.own j∨∃L∈az.m,j∈L.al)->b.own j∨∃L∈b.m,j∈L.al
structure nZ(b az:a6):Prop where
 a:az.a=b.a
 m:az.m=b.m
 own:az.own=b.own
 e8:∀j t ab,az.u j t=h ab->b.u j t=h ab
 mem:∀j t ab,b.u j t=h ab->az.u j t=h ab∨b.own j
inductive cd {P:aI} (r:aj P) (br:ak->a6->Prop):ak->a6->Prop
 |stop {C:ak} {b:a6}:br C b->cd r br C b
 |step {C:ak} {b:a6} (KI:a6->ak) (bv:a6->a6) (KE:a6->Array aT):C.status=.running ->
   (∀s1,r.rely b s1->aq P r.b8 C s1.a=.go (KI s1) (bv s1).a (KE s1))->(∀s1,r.rely b s1->kG s1 (bv s1) (KE s1))->(∀s1,r.rely b s1->cd r br (KI s1) (bv s1))->cd r br C b
 |aU {C:ak} {b az:a6}:eX b az->cd r br C az->cd r br C b
 |b2 {C:ak} {b az:a6}:r.dR->nZ b az->cd r br C az->cd r br C b
 |dj {C:ak} {b:a6} {ad:ak->a6->Prop}:r.dj C b ad->(∀hr az,ad hr az->cd r br hr az)->cd r br C b
section
variable {r:aj P}
def cd.next(i:C.status=.running)(j:∀s,r.rely b s->∃a az T,aq P r.b8 C s.a=.go a az.a T/\kG s az T/\cd r br a az):cd r br C b:=by
 classical
 have d:∀s,∃ba:ak×a6×Array aT,r.rely b s->aq P r.b8 C s.a=.go ba.1 ba.2.1.a ba.2.2/\kG s ba.2.1 ba.2.2/\cd r br ba.1 ba.2.1:=by
  intro s;by_cases e:r.rely b s
  .obtain⟨a,az,T,cS⟩:=j s e;exact⟨(a,az,T),λ_=>cS⟩
  exact⟨(C,s,#[]),λg=>absurd g e⟩
 refine .step (λs=>(Classical.choose (d s)).1) (λs=>(Classical.choose (d s)).2.1) (λs=>(Classical.choose (d s)).2.2) i M M ?_;grind
theorem eX.of(l:bc n b)(o:bc ao az)(p:az.a=b.a)(i:dg n b ao az):eX b az:=by
 have v:∀a g j,az.u a g=h j->b.a.cell? ⟨a,g,q⟩=h j:=λa g j k=>by rw[<-p];exact o.mem a g j k
 have s:∀a g j,b.a.cell? ⟨a,g,q⟩=h j->a<b.a.heap.size:=by
  intro a g j k;rcases dZ a b.a.heap.size with d|d
  .exact d
  simp[aL,AH d]at k
 refine⟨p,i.mem,λa e g=>?_,v,λa e=>?_⟩
 .rcases dZ a b.a.heap.size with d|d
  .exact i.bC a d e g
  cases u:az.u a g with
  |some j=>grind
  |none=>cases t:b.u a g with
   |none=>rfl
   |some j=>have:=s _ _ _ (l.mem _ _ _ t);omega
 rcases e with e|⟨L,r,e⟩
 .exact .inl (by rw[<-i.own];exact e)
 rcases i.bU L r a e with d|d
 .have:=o.lt L r a e;grind
 grind
def bc.rely(l:bc n b)(i:cX b az):bc n az:=by
 have t:fm n b n az:=i.aQ.ext;have X:∀v x,cA n b v x->cA n az v x:=λv x w=>w.mono t l.len;refine⟨λk s v A=>i.mem k s v (by rw[<-i.u];exact A),by rw[i.m];exact l.len,?_,by rw[i.m];exact l.a3,?_,?_⟩
 .intro d D L aE o;rw[i.m]at o;have e:=l.box d D L aE o;have K:∀k∈L.al,az.a.heap[k]?=b.a.heap[k]?:=λk e=>i.a7 k (.inr ⟨L,b_ o,e⟩);cases D with
  |cells E F=>
   obtain⟨k,B,g,j,p,r⟩:=e;subst g;exact⟨k,B,a,by grind,p.mono t l.len,λs=>by rw[i.u,r]⟩
  |r E O R z=>
   obtain⟨g,j⟩:=e;refine⟨by rw[i.u];exact g,?_⟩;rcases j with⟨j,p⟩|⟨k,cap,B,j,p,r,u⟩
   .exact .inl ⟨j,by rw[i.u];exact p⟩
   subst j;exact .inr ⟨k,cap,B,a,by grind,r,λs C=>by rw[i.u,u s C]⟩
  |J H=>
   obtain⟨y,g,j,p,r⟩:=e;refine⟨y,g,λk s W=>?_,p,λk I s=>by rw[i.u,r k I]⟩;grind
  |x=>trivial
  |loop V U w=>
   obtain⟨d,tmps,fn,J,g,j,p,r,u⟩:=e;subst g;exact⟨d,tmps,fn,J,a,by grind,p,λT=>(r T).mono t l.len,λs=>by rw[i.u,u]⟩
  |bo=>
   obtain⟨w,g,j,p⟩:=e;subst g;exact⟨w,a,by grind,λs=>by rw[i.u,p]⟩
  |h E O R z=>
   rcases e with e|⟨k,S,B,Q,g,j,p,r,u,M,N⟩
   .exact .inl e
   subst g;exact .inr ⟨k,S,B,Q,a,by grind,p,r,u,by rw[i.u];exact M,λs=>by rw[i.u,N]⟩
 .intro L o k e;rw[i.m]at o;exact eD (l.lt L o k e) i.size
 intro k e;rw[i.own]at e;rw[i.m];exact⟨eD (l.own k e).1 i.size,(l.own k e).2⟩
def kG.aZ(a:bc n b):kG b b #[]:=⟨⟨n,n,a,a,.refl _ _⟩,.nil⟩
def _root_.Go.Frame.M(b:aK)(a:Act)(todo:p Item):aK:={b with tmps:=a.tmps,todo:=todo,defers:=a.defers++b.defers,mode:=.run}
variable {j:aK}{x:Act}{i:p Item}{Q:au}{eR:Bool}
def Ji(a:aK)(x)(s):(a.M x s).eval=x.eval:=by funext l;cases l<;>rfl
def L':aq P eR (G (j.M x (.code .skip::i)) ah) Q=.go (G (j.M x i) ah) Q:=q4
def L6{id}:aq P eR (G (j.M x (.inBlock id::i)) ah) Q=.go (G (j.M x i) ah) Q:=q4
theorem pH{l X}:aq P eR (G (j.M x (.code (.seq l X)::i)) ah) Q=.go (G (j.M x (.code l::.code X::i)) ah) Q:=q4
def zc{s}{l X}{o}(b:x.eval s=.bool o):
  aq P eR (G (j.M x (.code (.cond s l X)::i)) ah) Q=.go (G (j.M x (.code (if o then l else X)::i)) ah) Q:=by
 have a:(j.M x (.code (.cond s l X)::i)).eval s=.bool o:=by rw[Ji];exact b
 simp[Frame.M]at a;simp[G,aq,stepG.exec,Frame.M,a]
def zb{id}:aq P eR (G (j.M x (.code (.block id s)::i)) ah) Q=.go (G (j.M x (.code s::.inBlock id::i)) ah) Q:=q4
def L9:aq P eR (G (j.M x (.code (.loop s)::i)) ah) Q=.go (G (j.M x (.code s::.inLoop s::i)) ah) Q:=q4
def L8:aq P eR (G (j.M x (.inLoop s::i)) ah) Q=.go (G (j.M x (.code s::.inLoop s::i)) ah) Q:=q4
def L5{id}{gj}(u:exitTo id i=h gj):aq P eR (G (j.M x (.code (.exit id)::i)) ah) Q=.go (G (j.M x gj) ah) Q:=FJ
def ze{id}:aq P eR (G (j.M x (.code (.region id aD m)::i)) ah) Q=.go (G (j.M x (.inRegion aD (aC aD.size)::i)) ah) Q:=q4
def Ee{id}:aq P eR (G (j.M x (.code (.region id aD f)::i)) ah) Q =
  .go (G (j.M x (.inRegion aD (Region.schedule (P.follows .mixedOrders) aD (Q.tape Q.drawn (.order j.fn id)))::i)) ah) {Q with drawn:=Q.drawn+1}:=by simp[G,aq,stepG.exec,Frame.M,choose,Sem.run,Question.forced,Question.cut]
def v3:aq P eR (G (j.M x (.inRegion aD []::i)) ah) Q=.go (G (j.M x i) ah) Q:=q4
def Ef(u:j.roundOf=q):aq P eR (G (j.M x (.code .ret::i)) ah) Q=.go (G {j.M x (.code .ret::i)with mode:=.returning} ah) Q:=FJ
def Ed(u:j.roundOf=q):aq P eR (G (j.M x []) ah) Q=.go (G {j.M x []with mode:=.returning} ah) Q:=FJ
def qu(aD)(e)(bt)(ab):
  (j.M x (.inRegion aD (e::bt)::i)).finish ab=j.M (x.put ((aD[e]?).bind (·.dst)) ab) (.inRegion aD bt::i):=by cases a:(aD[e]?).bind (·.dst)<;>simp[Frame.finish,Frame.M,Act.put,a]
def acv{bt}(a:aD[e]?=h t)(d:aU t (yielded aD x.tmps)=m):
  aq P eR (G (j.M x (.inRegion aD (e::bt)::i)) ah) Q=.go (G (j.M (x.put t.dst K) (.inRegion aD bt::i)) ah) Q:=by have b:=qu (j:=j) (x:=x) (i:=i) aD e bt K;rw[a]at b;simp[n6]at b;rw[<-b];simp[G,aq,stepG.exec,Frame.M,a,d]
theorem xX{a:aA->aa}{s}(i:t.op=.defer s){e}(b:(ac a t).run P Q=.ok e bi):∃d,e=.defer d:=by
 simp[ac,i,cK]at b;cases g:(resolve a s t.type).run P Q with
 |ok d w2=>rw[g]at b;simp at b;grind
 |halt j w2=>simp_all
def zd{a:p Nat}(b:aD[e]?=h t)(k:aU t (yielded aD x.tmps)=f)(l:∀g,t.op≠.defer g):
  aq P eR (G (j.M x (.inRegion aD (e::a)::i)) ah) Q=stepG.apply P f (j.M x (.inRegion aD (e::a)::i)) ah q (ac x.eval t) Q:=by have d:=Ji j x (.inRegion aD (e::a)::i);simp[Frame.M]at d;simp[G,aq,stepG.exec,stepG.oper,Frame.oper?,Frame.M,b,k,d];grind
theorem acB{bt}(a:aD[e]?=h t)(g:aU t (yielded aD x.tmps)=f)(l:j.kind≠.early)(k:(ac x.eval t).run P Q=.ok (.value ab) bi):
  aq P eR (G (j.M x (.inRegion aD (e::bt)::i)) ah) Q=.go (G (j.M (x.put t.dst ab) (.inRegion aD bt::i)) ah) bi (listed P j.fn x t Q):=by have b:=qu (j:=j) (x:=x) (i:=i) aD e bt ab;rw[a]at b;simp[n6]at b;have d:(j.kind==CallKind.early)=m:=M;rw[zd a g (λn o=>by grind[xX]),<-b];simp[stepG.apply,k,G,Frame.M,d,GStep.after,listed]
theorem L_{bt}(a:aD[e]?=h t)(g:aU t (yielded aD x.tmps)=f)(l:j.kind≠.early)(k:(ac x.eval t).run P Q=.ok .skip bi):
  aq P eR (G (j.M x (.inRegion aD (e::bt)::i)) ah) Q=.go (G (j.M (x.put t.dst K) (.inRegion aD bt::i)) ah) bi (listed P j.fn x t Q):=by have b:=qu (j:=j) (x:=x) (i:=i) aD e bt K;rw[a]at b;simp[n6]at b;have d:(j.kind==CallKind.early)=m:=M;rw[zd a g (λn o=>by grind[xX]),<-b];simp[stepG.apply,k,G,Frame.M,d,GStep.after,listed]
def tJ{bt}{b}{args}(a:aD[e]?=h t)(g:aU t (yielded aD x.tmps)=f)(l:j.kind≠.early)(k:(ac x.eval t).run P Q=.ok (.enter b args) bi):
  aq P eR (G (j.M x (.inRegion aD (e::bt)::i)) ah) Q=.go (G (Frame.enter P b args .normal) (j.M x (.inRegion aD (e::bt)::i)::ah)) bi (listed P j.fn x t Q):=by have d:(j.kind==CallKind.early)=m:=M;rw[zd a g (λn o=>by grind[xX])];simp[stepG.apply,k,G,Frame.M,d,GStep.after,listed]
structure mi(P:aI)(ae:a4)(hB:aK)(ab:aa)(b:a6):Prop where
 jq:hB.fn=ae
 mode:hB.mode=.returning
 defers:hB.defers=[]
 kind:hB.kind=.normal
 fn:∃fn,P.funcs[hB.fn]?=h fn/\∀Q,(∀j t bC,b.u j t=h bC->Q.cell? ⟨j,t,q⟩=h bC)->(results fn hB.tmps).run P Q=.ok ab Q/\∀ai∈(results fn hB.tmps).events P Q #[],∃j t bC,ai=⟨.cell ⟨j,t,q⟩,m,m⟩/\b.u j t=h bC
def mi.mono{g}{hB}(o:mi P g hB ab b)(s:∀e i j,b.u e i=h j->az.u e i=h j):mi P g hB ab az:=by obtain⟨a,d,n,k,fn,l,r⟩:=o;refine⟨a,d,n,k,fn,l,λt p=>?_⟩;grind
def dx.seen{b}{T}{fn}(e:dx b T):dx b (seen P fn T):=λd a=>e d (Go.Conc.mem_seen a)
def acu{l}{C s}(g:mi P l C ab b)(Q)(n:∀a e i,b.u a e=h i->Q.cell? ⟨a,e,q⟩=h i):∃d,aq P eR (G C (s::ah)) Q=.go (G (s.finish ab) ah) Q d/\∀j∈d,∃a e i,j=⟨.cell ⟨a,e,q⟩,m,m⟩/\b.u a e=h i:=by obtain⟨fn,o,k⟩:=g.fn;obtain⟨t,r⟩:=k Q n;refine⟨seen P C.fn ((results fn C.tmps).events P Q #[]),?_,λj p=>r j (Go.Conc.mem_seen p)⟩;simp[G,aq,unwind,doReturn,g.mode,g.defers,g.kind,o,t,GStep.after]
end
end
structure bY(D:Nat)(n:p an)(b:a6)(F:bJ)(x:Act):Prop where
 size:x.tmps.size=D
 defers:∃nF,jc n b x.defers nF
 aJ:∀o,bz n b (x.tmps.getD o K) (look F o)
def bY.mono{D}{n ao}{b az}{F}{x}(g:dg n b ao az)(e:c b.m=c n)(a:bY D n b F x):bY D ao az F x:=
 ⟨a.size,a.defers.imp λ_ d=>d.mono g.ext,λi=>(a.aJ i).mono g.ext e⟩
def bY.rely{x}(e:cX b az)(a:bc n b)(d:bY D n b F x):bY D n az F x:=d.mono e.aQ a.len
def bY.put{D}{n}{b}{F}{x}(a:bY D n b F x){I}(e:I<D){ab}{l}(k:bz n b ab l):bY D n b ((I,l)::F) (x.put (h I) ab):=by
 refine⟨by simp[Act.put,a.size],a.defers,λd=>?_⟩;simp[Act.put,look];by_cases g:I=d
 .subst g;rw[show af I I=f from sG I];have i:I<x.tmps.size:=by rw[a.size];exact e
  simp[hv,uI i,h4,cond];exact k
 have:af I d=m:=ug;rw[this];have j:=a.aJ d;simp[hv]at j⊢;grind
def iC(i a:bJ):Prop:=∀b d g e,bz b d g (look i e)->bz b d g (look a e)
def bY.le{dI}{x}(d:iC F dI)(a:bY D n b F x):bY D n b dI x:=
 ⟨a.size,a.defers,λe=>d _ _ _ _ (a.aJ e)⟩
abbrev fw:=Exit->bJ->p an->Prop
def kO(i:aj P)(g:ak->a6->Prop)(j:aK)(l:p Item)(a:p aK):Exit->Act->a6->Prop
 |.normal,b,d=>cd i g (G (j.M b l) a) d
 |.exit id,b,d=>∀pre,(∀e,exitTo id (pre++e)=exitTo id e)->cd i g (G (j.M b (.code (.exit id)::(pre++l))) a) d
 |.ret,b,d=>∀pre,cd i g (G (j.M b (.code .ret::pre)) a) d
 |.panic k,b,d=>∀n,cd i g (G {j.M b n with mode:=.panicking k} a) d
 |_,_,_=>False
section
variable {r:aj P}{j:aK}{i:p Item}{x:Act}
def kO.cons{l}(o:∀id a,exitTo id (l::a)=exitTo id a){e}(n:e≠.normal)(d:kO r br j i ah e x b):kO r br j (l::i) ah e x b:=by
 cases e with
 |normal=>grind
 |exit id=>
  intro pre k;have:=d (pre++[l]) (λa=>by grind);grind
 |ret=>exact d
 |panic g=>exact d
 |goto p=>exact d
 |outgrown=>exact d
def cd.ctl{a}(g:bc n b)(k:C.status=.running)(j:∀i,aq P r.b8 C i=.go a i #[])(l:∀d,cX b d->cd r br a d):cd r br C b:=
 .next k λd e=>⟨a,d,#[],j d.a,.aZ (g.rely (r.bN e)),l d (r.bN e)⟩
def uN{k}{w s}(u:bc n b)(l:mi P k w ab b)(o:∀d,cX b d->cd r br (G (s.finish ab) ah) d):cd r br (G w (s::ah)) b:=by refine .next a λd v=>?_;have e:=r.bN v;have i:=u.rely e;obtain⟨g,p,y⟩:=acu (eR:=r.b8) (s:=s) (ah:=ah) l d.a e.mem;refine⟨_,d,g,p,⟨⟨n,n,i,i,.refl _ _⟩,λj t=>?_⟩,o d e⟩;obtain⟨A,B,z,rfl,x⟩:=y j t;exact⟨a,a,.inr (.inr ⟨a,z,by rw[e.u];exact x⟩)⟩
def xd(l:Nat->Act->a6->Prop)(y:∀k x b,l k x b->∃o,bc o b/\∀g,cX b g->l k x g)(round:∀k x b,l k x b->(∀d e n,n<k->l n d e->cd r br (G (j.M d (.inLoop s::i)) ah) e)->cd r br (G (j.M x (.code s::.inLoop s::i)) ah) b)(B:l k x b):
  cd r br (G (j.M x (.code (.loop s)::i)) ah) b:=by
 have key:∀k x b,l k x b->cd r br (G (j.M x (.inLoop s::i)) ah) b:=by
  intro k;induction k using Nat.strongRecOn with
  |_ k A=>
   intro x b w;obtain⟨o,t,u⟩:=y k x b w;exact .ctl t a (λC=>L8) λg v=>round k x g (u g v) λd e n z p=>A n z d e p
 obtain⟨o,t,u⟩:=y k x b B;exact .ctl t a (λC=>L9) λg v=>round k x g (u g v) λd e n _ p=>key n d e p
end
def b0(o:aj P)(l:Nat)(v:Code)(aN:fw)(u:bJ)(j:p an):Prop:=
 ∀i r,bY l j i u r->bc j i->∀k t g (n:ak->a6->Prop),k.kind≠.early ->
  (∀s d a b e,aN s d a->bY l a b d e->bc a b->dg j i a b->kO o n k t g s e b)->cd o n (G (k.M r (.code v::t)) g) i
def n2(a:p ap):p Nat->p ap->Prop
 |[],[]=>True
 |d::idx,e::b=>a.toArray[d]?=h e/\n2 a idx b
 |_,_=>False
def fb(s:aj P)(o:Nat)(d e:p ap)(aN:bJ->p an->Prop)(v:bJ)(l:p an):Prop:=
 ∀k t,bY o l k v t->bc l k->∀(n:aK) u j (r:ak->a6->Prop) idx,n.kind≠.early->n2 d idx e ->
  (∀g a b i,aN g a->bY o a b g i->bc a b->dg l k a b->cd s r (G (n.M i u) j) b)->cd s r (G (n.M t (.inRegion d.toArray idx::u)) j) k
section rules
variable {r:aj P}{aN:fw}
def b0.mono{o}(x:b0 r D s aN F n)(y:∀a F n,aN a F n->o a F n):b0 r D s o F n:=
 λb t v k u A g p j i=>x b t v k u A g p j λa d ao az e B z w l=>i a d ao az e (y _ _ _ B) z w l
def b0.le{s}{dI}(o:b0 r D s aN dI n)(g:iC F dI):b0 r D s aN F n:=
 λt j l e k p a i d b=>o t j (l.le g) e k p a i d b
theorem b0.skip(l:aN .normal F n):b0 r D .skip aN F n:=λt e j d p s i o _ g=>
 .ctl d a (λ_=>L') λk b=>g .normal F n k e l (j.rely b d) (d.rely b) b.aQ
def b0.ret(i:aN .ret F n):b0 r D .ret aN F n:=λk b g a o j e l _ d=>d .ret F n k b i g a (.refl _ _) j
theorem b0.exit{id}(i:aN (.exit id) F n):b0 r D (.exit id) aN F n:=λj b g a l o e k _ d=>by have:=d (.exit id) F n j b i g a (.refl _ _) [] bp;grind
def wc(next:bJ->p an->Prop)(aN:fw):fw
 |.normal,a,b=>next a b
 |d,a,b=>aN d a b
theorem b0.seq{l X}(R:b0 r D l (wc (b0 r D X aN) aN) F n):b0 r D (.seq l X) aN F n:=by
 intro U O S d A J e z i g;refine .ctl d a (λ_=>pH) λT b=>?_;refine R T O (S.rely b d) (d.rely b) A (.code X::J) e z i ?_;intro s M N w o K I C y;have B:=b.aQ.trans y;cases s with
 |normal=>exact K w o I C A J e z i λs Q k x p v t u j=>g s Q k x p v t u (B.trans j)
 |_=>exact kO.cons (λ_ _=>rfl) E (g _ _ _ _ _ K I C B)
theorem b0.cond{s}{l X}{o}{w}(S:s=.tmp w)(C:look F w=ax (.bool o))(R:o=f->b0 r D l aN F n)(N:o=m->b0 r D X aN F n):b0 r D (.cond s l X) aN F n:=by
 intro U t z g y I k x p B;have v:=z.aJ w;rw[C]at v;have A:t.eval s=.bool o:=by subst S;generalize A:t.tmps.getD w K=V at v;simp[bz,ey,cA]at v;cases v;exact A
 refine .ctl g a (λ_=>zc A) λE e=>?_;have M:∀u i b d j,aN u i b->bY D b d i j->bc b d->dg n E b d->kO r x y I k u j d:=λu i b d j T Q O J=>B u i b d j T Q O (e.aQ.trans J);cases o
 .exact N a E t (z.rely e g) (g.rely e) y I k x p M
 exact R a E t (z.rely e g) (g.rely e) y I k x p M
def uS(id:Nat)(aN:fw):fw
 |.exit a,b,d=>if a=id then aN .normal b d else aN (.exit a) b d
 |e,b,d=>aN e b d
theorem b0.block{id}(v:b0 r D s (uS id aN) F n):b0 r D (.block id s) aN F n:=by
 intro A p x e t i g o j lX;refine .ctl e a (λ_=>zb) λy d=>?_;refine v y p (x.rely d e) (e.rely d) t (.inBlock id::i) g o j ?_;intro ai dI ao k fL bd C ae l;have I:=d.aQ.trans l;cases ai with
 |normal=>
  exact O1
 |exit b=>
  simp[uS]at bd;split at bd
  .exact QR
  .rename_i w
   intro pre vn;have:=lX (.exit b) dI ao k fL bd C ae I (pre++[.inBlock id]) (λgj=>by
    rw[mu,vn];have:(id==b)=m:=M
    simp[exitTo,this])
   grind
 |ret=>exact lX _ _ _ _ _ bd C ae I
 |panic u=>exact lX _ _ _ _ _ bd C ae I
 |goto z=>exact lX _ _ _ _ _ bd C ae I
 |outgrown=>exact lX _ _ _ _ _ bd C ae I
def b0.loop{br:Type}(o:br->Prop)(e:br->bJ)(b:br->p an)(v:br->Nat)(l)(ae:o l)(Z:iC F (e l))(V:b l=n)(round:∀l,o l->b0 r D s (wc (λx y=>∃X,o X/\v X<v l/\iC x (e X)/\y=b X) aN) (e l) (b l)):b0 r D (.loop s) aN F n:=by
 intro ab ah aa K T W A br J I;subst V;refine xd (λk d az=>∃X,o X/\bY D (b X) az (e X) d/\bc (b X) az/\dg (b l) ab (b X) az/\v X=k) ?_ ?_ ⟨l,ae,aa.le Z,K,.refl _ _,a⟩
 .rintro k d az ⟨X,w,t,C,u,B⟩;exact⟨b X,C,λO i=>⟨X,w,t.rely i C,C.rely i,u.trans i.aQ,B⟩⟩
 rintro k d az ⟨X,w,t,C,u,rfl⟩ ad;refine round X w az d t C T (.inLoop s::W) A br J ?_;intro B ai S M z Q N j g;cases B with
 |normal=>
  obtain⟨R,ag,Y,U,rfl⟩:=Q;exact ad z M (v R) Y ⟨R,ag,N.le U,j,u.trans g,a⟩
 |_=>exact kO.cons (λ_ _=>rfl) E (I _ _ _ _ _ Q N j (u.trans g))
end rules
def bN.cN{ah}(d:bN n b B ah):c B=c ah:=by
 induction B generalizing ah with
 |nil=>cases ah<;>simp_all[bN]
 |cons g B a=>
  cases ah with
  |nil=>simp[bN]at d
  |cons e ah=>simp[a d.2]
def cA.cell{n}{b}{ab}{g}(a:cA n b ab g):dX ab=f:=by
 cases g with
 |c p=>exact Rd.cell a
 |ptr e i=>obtain⟨_,_,_,_,_,rfl⟩:=a;rfl
 |r e k l j=>exact Rd.cell a.1
 |aR e=>obtain⟨_,_,_,_,d⟩:=a;exact d
 |R e o=>obtain⟨_,d,_⟩:=a;exact d.cell
 |any=>exact a
theorem bN.get{ah}(i:bN n b B ah){x}(d:ah[w]?=h x):∃e,B[w]?=h e/\cA n b e x:=by
 induction B generalizing ah w with
 |nil=>cases ah<;>simp_all[bN]
 |cons e B g=>
  cases ah with
  |nil=>grind
  |cons j ah=>
   cases w with
   |zero=>simp at d;subst d;exact⟨e,a,i.1⟩
   |succ w=>simp at d;obtain⟨o,k,l⟩:=g i.2 d;grind
def bN.cell{n}{b}{B}{ah}(e:bN n b B ah):∀i∈B,i.oneCell'=f:=by
 induction B generalizing ah with
 |nil=>simp
 |cons i B d=>
  cases ah with
  |nil=>simp[bN]at e
  |cons j ah=>
   intro g a;rcases e4.1 a with rfl|a
   .have:=cA.cell e.1;cases g<;>simp_all[dX,Value.oneCell']
   exact d e.2 g a
def bN.append{j}{ah a}(e:bN n b B ah)(g:bN n b j a):bN n b (B++j) (ah++a):=by
 induction B generalizing ah with
 |nil=>cases ah<;>simp_all[bN]
 |cons k B d=>
  cases ah with
  |nil=>simp[bN]at e
  |cons i ah=>exact⟨e.1,d e.2⟩
def bN.take{n}{b}{B}{ah}(d:bN n b B ah)(i):bN n b (B.take i) (ah.take i):=by
 induction B generalizing ah i with
 |nil=>cases ah<;>simp_all[bN]
 |cons g B a=>
  cases ah with
  |nil=>simp[bN]at d
  |cons e ah=>cases i with
   |zero=>simp[bN]
   |succ i=>exact⟨d.1,a d.2 i⟩
def bN.drop{n}{b}{B}{ah}(d:bN n b B ah)(i):bN n b (B.drop i) (ah.drop i):=by
 induction B generalizing ah i with
 |nil=>cases ah<;>simp_all[bN]
 |cons g B a=>
  cases ah with
  |nil=>simp[bN]at d
  |cons e ah=>cases i with
   |zero=>exact d
   |succ i=>simpa using a d.2 i
theorem bc.block(a:bc n b){t}(d:b.u j t=h ab):j<b.a.heap.size:=by
 have:=a.mem j t ab d;rcases dZ j b.a.heap.size with a|a
 .exact a
 simp[aL,AH a]at this
def bc.same(g:bc n b)(v:bi.heap=b.a.heap):bc n {b with a:=bi}:=by
 have M:∀k,bi.cell? k=b.a.cell? k:=λk=>by simp[aL,v]
 have S:∀p k,cA n b p k->cA n {b with a:=bi} p k:=λp k o=>by cases k<;>exact o
 have x:∀B d,bN n b B d->bN n {b with a:=bi} B d:=by
  intro B;induction B with
  |nil=>intro d o;cases d<;>simp_all[bN]
  |cons p B z=>intro d o;cases d with
   |nil=>simp[bN]at o
   |cons k d=>exact⟨S _ _ o.1,z _ o.2⟩
 refine⟨λe D p y=>by rw[M];exact g.mem e D p y,g.len,?_,g.a3,λL x e j=>by show e<bi.heap.size;rw[v];exact g.lt L x e j,λe j=>⟨by show e<bi.heap.size;rw[v];exact(g.own e j).1,(g.own e j).2⟩⟩;intro A t L aE s;have:=g.box A t L aE s;cases t with
 |cells C E=>
  obtain⟨e,B,a,i,l,r⟩:=this;exact⟨e,B,a,by grind,x _ _ l,r⟩
 |r C K N w=>
  obtain⟨a,i⟩:=this;refine⟨a,?_⟩;grind
 |J H=>
  obtain⟨u,a,i,l,r⟩:=this;exact⟨u,a,λe D j=>by grind,l,r⟩
 |x=>trivial
 |loop U T o=>
  obtain⟨A,tmps,fn,F,a,i,l,r,J⟩:=this;exact⟨A,tmps,fn,F,a,by grind,l,λR=>bz.mono (b:=b) (ao:=n) (az:={b with a:=bi}) ⟨λ_ _ _ g=>g,λ_ t L g I=>⟨t,L,g,I,.refl _ _⟩⟩ g.len (r R),J⟩
 |bo=>
  obtain⟨o,a,i,l⟩:=this;exact⟨o,a,by grind,l⟩
 |h C K N w=>
  rcases this with a|⟨e,Q,B,O,a,i,l⟩
  .exact .inl a
  exact .inr ⟨e,Q,B,O,a,by grind,l⟩
def cP.same(o:bi.heap=b.a.heap)(e:bi.os=b.a.os)(k:bi.tape=b.a.tape)(l:bi.output=b.a.output):cP n b n {b with a:=bi}:=
 ⟨by grind,λj _ _=>by grind,λ_ _ _ a=>a,λ_ _ _ _=>rfl,λL a j d=>.inr ⟨L,a,d⟩,λ_ g L a i=>⟨g,L,a,i,.refl _ _⟩,e,k,l,rfl⟩
def ew.cd{s}{L}(p:fm n b ao az)(r:c b.m=c n)(j:∀g∈L.al,az.a.heap[g]?=b.a.heap[g]?/\∀k,az.u g k=b.u g k)(o:ew n b s L):ew ao az s L:=by
 cases s with
 |cells y A=>
  obtain⟨g,B,d,e,i,l⟩:=o;subst d;obtain⟨k1,u⟩:=j g E;exact⟨g,B,a,by grind,i.mono p r,λk=>by grind⟩
 |r y F I v=>
  obtain⟨d,e⟩:=o;refine⟨d.mono p.mem,?_⟩;rcases e with⟨e,i⟩|⟨g,cap,B,e,i,l,w⟩
  .exact .inl ⟨e,i.mono p.mem⟩
  grind
 |J H=>
  obtain⟨t,d,e,i,l⟩:=o;refine⟨t,d,λg k Q=>?_,i,λg R k=>by grind⟩;grind
 |x=>trivial
 |loop O N x=>
  obtain⟨z,tmps,fn,C,d,e,i,l,w⟩:=o;subst d;obtain⟨k1,u⟩:=j z E;exact⟨z,tmps,fn,C,a,by grind,i,λM=>(l M).mono p r,λk=>by grind⟩
 |bo=>
  obtain⟨x,d,e,i⟩:=o;subst d;obtain⟨k1,u⟩:=j x E;exact⟨x,a,by grind,λk=>by grind⟩
 |h y F I v=>
  rcases o with d|⟨g,K,B,J,d,e,i,l,w,D,S⟩
  .exact .inl d
  subst d;obtain⟨k1,u⟩:=j g E;exact .inr ⟨g,K,B,J,a,by grind,i,l,w,D.mono p.mem,λk=>by grind⟩
def a6.bY(a:a6)(b:av)(B:p aa):a6:=
 {m:=a.m++[⟨.pointer (h ⟨a.a.heap.size,0,q⟩),[a.a.heap.size]⟩],u:=a.u,a:=a.a.alloc (.cells B.toArray b),own:=a.own}
theorem iV(a:au)(t)(b:j<a.heap.size):(a.alloc t).heap[j]?=a.heap[j]?:=by show(a.heap.push t)[j]?=a.heap[j]?;grind
theorem lZ(a:au)(t):(a.alloc t).heap[a.heap.size]?=h t:=by show(a.heap.push t)[a.heap.size]?=h t;simp
def cP.bY{n}(b)(W)(B)(i):cP n b (n++[i]) (b.bY W B):=by
 refine⟨by simp[a6.bY],?_,λ_ _ _ l=>l,λ_ _ _ _=>rfl,?_,?_,a,a,a,a⟩
 .intro j cW _;exact iV _ _ cW
 .intro L e j cW;simp[a6.bY,fx,gH]at e;grind
 intro g d L k e;have o:g<c b.m:=(cQ.1 e).1;have p:g<c n:=(cQ.1 k).1;exact⟨d,L,by grind,by simp[a6.bY];grind,.refl _ _⟩
def bc.bY{n}{b}(i:bc n b){W}{B}{ah}(A:bN n b B ah):bc (n++[.cells W ah]) (b.bY W B):=by
 have v:=cP.bY (n:=n) b W B (.cells W ah);have z:(b.bY W B).a.heap.size=b.a.heap.size+1:=by simp[a6.bY]
 refine⟨?_,by simp[a6.bY,i.len],?_,?_,?_,?_⟩
 .intro j t ab k;have g:=i.block k;have:=i.mem j t ab k;rw[<-this];simp[aL,a6.bY];grind[iV]
 .intro d y L aE e;rcases Nat.lt_trichotomy d (c n) with x|rfl|C
  .rw[kb x]at aE;simp[a6.bY]at e;rw[kb (by rw[i.len];exact x)]at e;refine(i.box d y L aE e).cd v.ext i.len λj g=>⟨?_,λ_=>rfl⟩
   have:=i.lt L (b_ e) j g;exact iV _ _ this
  .simp at aE;subst aE;simp[a6.bY]at e;rw[hn (by rw[i.len];grind)]at e;simp[i.len]at e;subst e;refine⟨b.a.heap.size,B,a,lZ _ _,A.mono v.ext i.len,λt=>?_⟩;cases k:b.u b.a.heap.size t with
   |none=>exact k
   |some ab=>have:=i.block k;omega
  grind
 .intro d u L p e l j g o;simp[a6.bY]at e l;have w:∀d L,(b.m++[⟨.pointer (h ⟨b.a.heap.size,0,q⟩),[b.a.heap.size]⟩])[d]?=h L->(b.m[d]?=h L)∨(d=c b.m/\L.al=[b.a.heap.size]):=M;rcases w d L e with r|⟨rfl,r⟩<;>rcases w u p l with s|⟨rfl,s⟩
  .exact i.a3 d u L p r s j g o
  .have:=i.lt L (b_ r) j g;grind
  .have:=i.lt p (b_ s) j o;grind
  rfl
 .intro L e j g;rw[z];simp[a6.bY,fx,gH]at e;rcases e with e|rfl
  .have:=i.lt L e j g;omega
  grind
 intro j g;obtain⟨E,D⟩:=i.own j g;refine⟨by grind,λL e=>?_⟩;simp[a6.bY,fx,gH]at e;grind
def bc.c1(d:bc n b){cf}(p:b.a.heap.size<=bi.heap.size)(i:∀j,j<b.a.heap.size->bi.heap[j]?=b.a.heap[j]?)(r:∀j,j<b.a.heap.size->∀t,cf j t=b.u j t)(y:∀j,b.a.heap.size<=j->∀t ab,cf j t=h ab->bi.cell? ⟨j,t,q⟩=h ab)(s:bi.os=b.a.os)(w:bi.tape=b.a.tape)(u:bi.output=b.a.output):bc n ⟨b.m,cf,bi,b.own⟩/\cP n b n ⟨b.m,cf,bi,b.own⟩:=by
 have l:cP n b n ⟨b.m,cf,bi,b.own⟩:=
  ⟨p,λj a _=>i j a,λj t ab e=>by rw[<-e];exact r j (d.block e) t,λj a _ t=>r j a t,λL d j a=>.inr ⟨L,d,a⟩,λ_ o L d v=>⟨o,L,d,v,.refl _ _⟩,s,w,u,rfl⟩
 refine⟨⟨?_,d.len,?_,d.a3,λL g j a=>eD (d.lt L g j a) p,λj a=>⟨eD (d.own j a).1 p,(d.own j a).2⟩⟩,l⟩
 .intro j t ab e;rcases dZ j b.a.heap.size with a|a
  .have k:b.u j t=h ab:=M;rw[<-d.mem j t ab k];simp[aL];grind
  grind
 intro x o L aE g;exact(d.box x o L aE g).cd l.ext d.len λj a=>⟨i j (d.lt L (b_ g) j a),λt=>r j (d.lt L (b_ g) j a) t⟩
def bc.write(k:bc n b){L}{ah i}{r}(aE:n[d]?=h (.cells W ah))(p:b.m[d]?=h L)(x:L.al=[j])(A:bN n b r i):bc (n.set d (.cells W i)) {b with a:=b.a.setRow j r.toArray}/\cP n b (n.set d (.cells W i)) {b with a:=b.a.setRow j r.toArray}:=by
 have w:d<c n:=(cQ.1 aE).1;obtain⟨s,B,u,v,D,z⟩:=k.box d _ L aE p;subst u;simp at x;subst x;have o:cP n b (n.set d (.cells W i)) {b with a:=b.a.setRow s r.toArray}:=by
  refine⟨by simp,?_,λ_ _ _ k=>k,λ_ _ _ _=>rfl,λL k j g=>.inr ⟨L,k,g⟩,?_,a,a,a,a⟩
  .intro j g jr;exact setRow_other _ _ _ _ (λai=>jr _ (b_ p) z9)
  intro l bX cr e lW;by_cases ai:d=l
  .subst ai;rw[aE]at e;cases e;exact⟨_,cr,by rw[ip w],lW,by simp[fK]⟩
  exact Fc
 refine⟨⟨?_,by simp[k.len],?_,k.a3,λL p j g=>by simpa using k.lt L p j g,λj g=>by simpa using k.own j g⟩,o⟩
 .intro j t ab pq;have C:j≠s:=λai=>by grind
  rw[<-k.mem j t ab pq];exact P5
 intro l bX cr e lW;by_cases ai:d=l
 .subst ai;rw[ip w]at e;cases e;rw[p]at lW;cases lW;exact⟨s,r,a,setRow_heap _ _ _ _ _ _ v,A.mono o.ext k.len,z⟩
 rw[kJ ai]at e;refine(k.box l bX cr e lW).cd o.ext k.len λj g=>⟨setRow_other _ _ _ _ λy=>?_,λ_=>rfl⟩
 subst y;exact ai (k.a3 d l _ cr p lW j E g)
def As(b:p an)(d:a6):Next->z->Prop
 |.value e,a=>bz b d e a
 |.skip,a=>a=.any
 |_,_=>False
def a1(P:aI)(k:ap)(i:aA->z)(g:p an)(n:z)(b:p an):Prop:=
 ∀e d,bc g e->(∀l,bz g e (d l) (i l))->∃j a,(ac d k).run P e.a=.ok j a.a/\As b a j n/\bc b a/\cP g e b a/\dx e ((ac d k).events P e.a #[])
def a1.dy{l}(j:∀b a,bc n b->(∀g,bz n b (a g) (η g))->∃ab,(ac a t).run P b.a=.ok (.value ab) b.a/\bz n b ab l/\dx b ((ac a t).events P b.a #[])):a1 P t η n l n:=
 λb a d e=>let ⟨ab,cS,dq,i⟩:=j b a d e;⟨.value ab,b,cS,dq,d,.refl _ _,i⟩
def a1.aZ{l}(j:∀b a,bc n b->(∀g,bz n b (a g) (η g))->∃ab,(ac a t).run P b.a=.ok (.value ab) b.a/\bz n b ab l/\(ac a t).events P b.a #[]=#[]):a1 P t η n l n:=
 λb a d e=>let ⟨ab,cS,dq,i⟩:=j b a d e;⟨.value ab,b,cS,dq,d,.refl _ _,by rw[i];exact .nil⟩
def yu:IntKind->Int->Bool
 |.i64,.ofNat a=>ay a 9223372036854775807
 |.i64,.negSucc a=>ay a 9223372036854775807
 |.u8,.ofNat a=>ay a 255
 |.i32,.ofNat a=>ay a 2147483647
 |.i32,.negSucc a=>ay a 2147483647
 |.u64,.ofNat a=>ay a 18446744073709551615
 |.u32,.ofNat a=>ay a 4294967295
 |_,_=>m
def aab{i}{k}(a:yu i k=f):a8 i k:=by cases i<;>cases k<;>simp only[yu,a8]at a⊢<;>first|(cases a;done)|(have:=ff a;grind)
def lJ:aa->Option N
 |.int a b=>cond (yu a b) (h (.int a b)) q
 |.bool e=>h (.bool e)
 |.string d=>cond (ay d.size 9223372036854775807) (h (.V d.data.toList)) q
 |.slice q 0 0=>h (.S f 0 0 (λ_=>[]))
 |.pointer q=>h .bd
 |.nilIface=>h .bq
 |.nilFunc=>h .df
 |.map g=>h (.val (.map g))
 |_=>q
theorem Rd.dL{o}{i}{a}:Rd bE (.slice a 0 0) (.S o i 0 T):=
 Rd.S 0 0 (λ_ _=>K) (bB _) y bp y y y y
def Rd.fs{bE}{ab}{s}(a:lJ ab=h s):Rd bE ab s:=by
 unfold AM.lJ at a;split at a<;>first
  |(rename_i d e;cases b:yu d e<;>rw[b]at a<;>cases a;exact .int (aab b))
  |(rename_i g;cases b:ay g.size 9223372036854775807<;>rw[b]at a<;>cases a;exact .V rfl (by rw[nc];exact ff b))
  |(cases a;done)
  |(cases a;exact .bool)
  |(cases a;exact Rd.dL)
  |(cases a;exact .bd)
  |(cases a;exact .bq)
  |(cases a;exact .df)
  |(cases a;exact .val rfl)
def S4:Option N->z
 |some a=>ax a
 |none=>.any
def bG(a:bJ):aA->z
 |.tmp d=>look a d
 |.const e=>S4 (lJ e)
 |.func b=>ax (.fn (.func b) [] [])
 |.global _=>.any
theorem eN{d}(e:bY D n b F d)(X):bz n b (d.eval X) (bG F X):=by
 cases X with
 |tmp j=>exact e.aJ j
 |const k=>
  simp[bG,Act.eval];cases i:lJ k with
  |none=>trivial
  |some l=>exact Rd.fs i
 |func g=>
  exact Rd.fn [] [] a a (λ_=>K) (λ_=>K) E E E E
 |global g=>trivial
def gb:Option Nat->z->bJ->bJ
 |some b,d,a=>(b,d)::a
 |none,_,a=>a
def rz{o:aj P}{k:aK}{i}{j}{bt}(z:k.kind≠.early)(u:aD[e]?=h t)(x:aU t (yielded aD j.tmps)=f)(s:∀g,cX b g->∃l d n,(ac j.eval t).run P g.a=.ok l d.a/\(l=.value n∨(l=.skip/\n=K))/\kG g d ((ac j.eval t).events P g.a #[])/\cd o br (G (k.M (j.put t.dst n) (.inRegion aD bt::i)) ah) d):
  cd o br (G (k.M j (.inRegion aD (e::bt)::i)) ah) b:=by refine .next a λg v=>?_;obtain⟨l,d,n,y,w,p,r⟩:=s g (o.bN v);refine⟨_,d,Go.Conc.listed P k.fn j t g.a,?_,⟨p.1,p.2.seen⟩,r⟩;grind[acB,L_]
theorem a1.move(b:t.op=.move l):a1 P t η n (η l) n:=
 .aZ λe a _ d=>⟨a l,by simp[ac,b,pure],d l,by simp[ac,b]⟩
theorem a1.assign(b:t.op=.assign l):a1 P t η n (η l) n:=
 .aZ λe a _ d=>⟨a l,by simp[ac,b,pure],d l,by simp[ac,b]⟩
def b8{s}(a:bz n b ab (ax s)):Rd b.u ab s:=a
def a1.pick{s e j}(i:t.op=.pick s e j){o}(l:η s=ax (.bool o)):
  a1 P t η n (match o with|true=>η e|false=>η j) n:=by
 refine .aZ λp a _ k=>?_;have b:=k s;rw[l]at b;have d:=b8 b;generalize g:a s=r at d;cases d;cases o
 .exact⟨a j,by simp[ac,i,g,asBool],k j,by simp[ac,i,g,asBool]⟩
 exact⟨a e,by simp[ac,i,g,asBool],k e,by simp[ac,i,g,asBool]⟩
def vq(e:BinOp)(d:IntKind)(a b:Int):Option (N×p Prop):=
 match e with
 |.add=>h (.int d (a+b),[a8 d (a+b)])
 |.sub=>h (.int d (a-b),[a8 d (a-b)])
 |.mul=>h (.int d (a*b),[a8 d (a*b)])
 |.quo=>h (.int d (a / b),[0<=a,0<b])
 |.rem=>h (.int d (a % b),[0<=a,0<b])
 |.eql=>h (.bool (a==b),[])
 |.neq=>h (.bool (a != b),[])
 |.lss=>h (.bool (decide (a<b)),[])
 |.leq=>h (.bool (decide (a<=b)),[])
 |.gtr=>h (.bool (decide (b<a)),[])
 |.geq=>h (.bool (decide (b<=a)),[])
 |_=>q
def v7(d:BinOp)(a b:p UInt8):Option (N×p Prop):=
 match d with
 |.add=>h (.V (a++b),[c a+c b<=9223372036854775807])
 |.eql=>h (.bool (a==b),[])
 |.neq=>h (.bool (!(a==b)),[])
 |.lss=>h (.bool (aW a b),[])
 |.leq=>h (.bool (aW a b||a==b),[])
 |.gtr=>h (.bool (!(aW a b||a==b)),[])
 |.geq=>h (.bool (!(aW a b)),[])
 |_=>q
@[simp] def U:p Prop->Prop
 |[]=>True
 |[a]=>a
 |a::b::d=>a/\U (b::d)
def U.cons{b:Prop}{a}:U (b::a)↔b/\U a:=by cases a<;>simp
theorem sc{i}{k}(a:a8 i k):i.wrap k=k:=by cases i<;>simp only[a8,IntKind.wrap,IntKind.bits,IntKind.signed]at a⊢<;>simp<;>(try split)<;>omega
def ace{Q}{i}{l X}{s}(b:vq op i l X=h (s,ck))(a:U ck)(t:a8 i l)(p:a8 i X)(o)(bE):
  ∃k,(binOp op o (.int i l) (.int i X)).run P Q=.ok k Q/\Rd bE k s:=by
 cases op<;>simp[vq,eV,lI,reduceCtorEq]at b
 case add=>obtain⟨rfl,rfl⟩:=b;exact⟨_,by simp only[binOp,d_,hx,dn,Op.intArith,sc a];rfl,.int a⟩
 case sub=>obtain⟨rfl,rfl⟩:=b;exact⟨_,by simp only[binOp,d_,hx,dn,Op.intArith,sc a];rfl,.int a⟩
 case mul=>obtain⟨rfl,rfl⟩:=b;exact⟨_,by simp only[binOp,d_,hx,dn,Op.intArith,sc a];rfl,.int a⟩
 case quo=>
  obtain⟨rfl,rfl⟩:=b;obtain⟨e,d⟩:=a;replace d:0<X:=d;have j:l.tdiv X=l / X:=Int.tdiv_eq_ediv_of_nonneg e;have g:a8 i (l / X):=by have n:0<=l / X:=Int.ediv_nonneg e y;have r:l / X<=l:=Int.ediv_le_self _ e;cases i<;>simp only[a8]at t⊢<;>omega
  exact⟨_,by simp only[binOp,d_,hx,dn,Op.intDiv,show X≠0 by omega,j,sc g];rfl,.int g⟩
 case rem=>
  obtain⟨rfl,rfl⟩:=b;obtain⟨e,d⟩:=a;replace d:0<X:=d;have j:l.tmod X=l % X:=Int.tmod_eq_emod_of_nonneg e;have g:a8 i (l % X):=by have n:0<=l % X:=sC _ y;have r:l % X<X:=sw _ d;cases i<;>simp only[a8]at p⊢<;>omega
  exact⟨_,by simp only[binOp,d_,hx,dn,Op.intDiv,show X≠0 by omega,j];rfl,.int g⟩
 all_goals (obtain⟨rfl,rfl⟩:=b;exact⟨_,by simp only[binOp,d_,hx,dn,Op.intCmp,gt_iff_lt,ge_iff_le];rfl,.bool⟩)
def acf{Q}{l X}{b j}{s}(a:v7 op b j=h (s,ck))(cz:U ck)(k:l.data.toList=b)(g:X.data.toList=j)(o)(bE):
  ∃d,(binOp op o (.string l) (.string X)).run P Q=.ok d Q/\Rd bE d s:=by
 subst k g;cases op<;>simp only[v7,eV,lI,reduceCtorEq]at a
 case add=>
  obtain⟨rfl,rfl⟩:=a;have e:¬((l.size+X.size:Nat):Int)>IntKind.i64.max:=NT;refine⟨_,by simp only[binOp,Op.stringOp,e,dn];rfl,.V E (by simpa using cz)⟩
 all_goals (obtain⟨rfl,rfl⟩:=a;exact⟨_,by simp only[binOp,Op.stringOp,ByteArray.toList_eq];rfl,.bool⟩)
def Vl{a}{i}{l X}{s}(u:vq op i l X=h (s,ck))(cz:U ck)(o):
  (binOp op o (.int i l) (.int i X)).events P a #[]=#[]:=by
 cases op<;>simp[vq,eV,lI,reduceCtorEq]at u
 case quo=>
  exact Ql
 case rem=>
  exact Ql
 all_goals (simp only[binOp,d_,hx,dn,Op.intCmp,Op.intArith];rfl)
def Xw{k}{l X}{a j}{s}(b:v7 op a j=h (s,ck))(cz:U ck)(g:l.data.toList=a)(e:X.data.toList=j)(o):
  (binOp op o (.string l) (.string X)).events P k #[]=#[]:=by
 subst g e;cases op<;>simp[v7,eV,lI,reduceCtorEq]at b
 case add=>
  obtain⟨rfl,rfl⟩:=b;have d:¬((l.size+X.size:Nat):Int)>IntKind.i64.max:=NT;simp only[binOp,Op.stringOp,d,dn];rfl
 all_goals (simp only[binOp,Op.stringOp];rfl)
def te:IntKind->IntKind->Bool
 |.i8,.i8|.i16,.i16|.i32,.i32|.i64,.i64|.u8,.u8|.u16,.u16|.u32,.u32|.u64,.u64=>f
 |_,_=>m
def C'{i a}(b:te i a=f):i=a:=by cases i<;>cases a<;>first|rfl|(cases b;done)
def xi(a:BinOp):N->N->Option (N×p Prop)
 |.int d i,.int b j=>cond (te d b) (vq a d i j) q
 |.V e,.V g=>v7 a e g
 |_,_=>q
def qq(op)(o)(l X)(i a)(k d)(b):(eqGuard op o l X (.int i k) (.int a d)).run P b=.ok () b:=z'
def Is(op)(o)(l X)(b j)(a):(eqGuard op o l X (.string b) (.string j)).run P a=.ok () a:=z'
def x3(op)(o)(l X)(i a)(k b)(d)(T):(eqGuard op o l X (.int i k) (.int a b)).events P d T=T:=z'
def Ux(op)(o)(l X)(a j)(b)(T):(eqGuard op o l X (.string a) (.string j)).events P b T=T:=z'
theorem a1.binOp(w:t.op=.binOp op o l X ty){C j s}(K:η l=ax C)(y:η X=ax j)(e:xi op C j=h (s,ck))(d:U ck):a1 P t η n (ax s) n:=by
 refine .aZ λx r _ E=>?_;have a:=E l;have b:=E X;rw[K]at a;rw[y]at b;replace a:=b8 a;replace b:=b8 b;generalize u:r l=M at a;generalize v:r X=N at b;cases a<;>cases b<;>simp[xi,reduceCtorEq]at e
 case int.int i k jr gj Dx YP=>
  cases g:te i gj<;>simp[g,cond,reduceCtorEq]at e
  cases C' g;obtain⟨B,z,A⟩:=ace (P:=P) (Q:=x.a) e d jr YP o x.u;exact⟨B,by simp[ac,w,cK,u,v,qq,c7,z,d9],A,by simp[ac,w,u,v,qq,x3,Vl e d]⟩
 case V.V=>
  rename_i S R F I O J p D;obtain⟨B,z,A⟩:=acf (P:=P) (Q:=x.a) e d F p o x.u;exact⟨B,by simp[ac,w,cK,u,v,Is,c7,z,d9],A,by simp[ac,w,u,v,Is,Ux,Xw e d F p]⟩
def zC(a:UnOp):N->Option N
 |.bool b=>match a with|.not=>h (.bool (!b))|_=>q
 |_=>q
theorem a1.unOp{op}(i:t.op=.unOp op o l){e s}(j:η l=ax e)(b:zC op e=h s):a1 P t η n (ax s) n:=by
 refine .aZ λr d _ k=>?_;have a:=k l;rw[j]at a;replace a:=b8 a;generalize g:d l=p at a;cases a<;>simp[zC,reduceCtorEq]at b
 cases op<;>simp[reduceCtorEq,eV]at b
 subst b;exact⟨_,by simp[ac,i,g,Op.unary,cK,d9,c7],Rd.bool,by simp[ac,i,g,Op.unary]⟩
theorem eU.get{ag}(i:eU n b B ag){l}(d:ag[w]?=h l):∃e,B[w]?=h e/\ey n b e l:=by
 induction B generalizing ag w with
 |nil=>cases ag<;>simp_all[eU]
 |cons e B g=>
  cases ag with
  |nil=>grind
  |cons k j=>
   cases w with
   |zero=>simp at d;subst d;exact⟨e,a,i.1⟩
   |succ w=>simp at d;obtain⟨p,x,o⟩:=g i.2 d;grind
theorem a1.extract{P}{t}{b:aA->z}{n}{l}{w}(p:t.op=.extract l w){ag}{d}(j:b l=.Q ag)(i:ag[w]?=h d):a1 P t b n (.q d) n:=by refine .aZ λv u _ o=>?_;have a:=o l;rw[j]at a;obtain⟨B,k,r⟩:=a;obtain⟨s,e,g⟩:=r.get i;refine⟨s,?_,g,?_⟩<;>simp[ac,p,k,Instr.extract,e]
def pB(a b:Nat):aT:=⟨.cell ⟨a,b,q⟩,m,m⟩
def tZ(a b:Nat):aT:=⟨.cell ⟨a,b,q⟩,f,m⟩
theorem gY(j t k):(⟨j,t,q⟩:Addr).add k=⟨j,t+k,q⟩:=by unfold Addr.add;split<;>simp_all
section
def Cr{a}{t}(b:a.cell? ⟨j,t,q⟩=h ab)(T):(load ⟨j,t,q⟩).events P a T=T.push (pB j t):=by rw[events_load,b];rfl
def IU{o}{j t}:∀i e a b,(∀d,d<i->∃n,o.cell? ⟨j,t+(e+d),q⟩=h n) ->
    ∀g∈(loadCellsFrom ⟨j,t,q⟩ e i a).events P o b,g∈b∨∃d,d<e+i/\g=pB j (t+d)
  |0,e,a,b,_=>λg k=>.inl (by simpa[loadCellsFrom]using k)
  |i+1,e,a,b,p=>λg k=>by
    obtain⟨n,l⟩:=p 0 y;simp[ki]at l;simp[loadCellsFrom,aG,gY,run_load,l,aJ,Cr l]at k;rcases IU i (e+1) (a.push n) _ (λd r=>by grind) g k with s|⟨d,r,rfl⟩
    · grind
    grind
def IT{d}{t}{T}(i:∀a,a<k->∃g,d.cell? ⟨j,t+a,q⟩=h g):∀b∈(loadCells ⟨j,t,q⟩ k).events P d T,b∈T∨∃a,a<k/\b=pB j (t+a):=by intro b e;have:=IU (P:=P) k 0 #[] T M b e;grind
def nm{j t}{o}:∀B a g d b,d.heap[j]?=h (.cells g o (0,0))->t+a+c B<=g.size->(∀e∈B,e.oneCell'=f) ->
    ∀k∈(storeCells ⟨j,t,q⟩ B a).events P d b,k∈b∨∃n,a<=n/\n<a+c B/\k=tZ j (t+n)
  |[],_,_,_,_,_,_,_=>λk l=>.inl (by simpa[storeCells]using l)
  |e::i,a,g,d,b,C,x,p=>λk l=>by
    have bq:t+a<g.size:=M;have r:d.cell? ⟨j,t+a,q⟩=h g[t+a]:=NQ;have s:d.frozen? ⟨j,t+a,q⟩=m:=by simp[World.frozen?,C]
    have u:(store (⟨j,t+a,q⟩:Addr) e).run P d=.ok () (d.setRow j (g.setIfInBounds (t+a) e)):=NF;have v:(store (⟨j,t+a,q⟩:Addr) e).events P d b=b.push (tZ j (t+a)):=by rw[events_store P d b _ e _ (p e E),r];simp[s,kg,dn];rfl
    simp[storeCells,aG,gY,u,v,aJ]at l;rcases nm i (a+1) (g.setIfInBounds (t+a) e) _ _ (setRow_heap _ _ _ _ _ _ C) M (λw A=>p w M) k l with y|⟨n,D,z,rfl⟩
    · grind
    grind
def dE(P:aI)(b:Sem α):Prop:=∀d a,b.events P d a=a
def dE.bind{e:Type}{A}{g:α->Sem e}(j:dE P A)(k:∀d,dE P (g d)):dE P (A >>= g):=by
  intro i a;rw[aG,j i a];cases A.run P i with
  |ok d b=>exact k d b a
  |halt l b=>rfl
def dE.pure{a:Type}{b}:dE P (Pure.pure b:Sem a):=λ_ _=>rfl
def dE.stuck{a:Type}{b}:dE P (Go.stuck b:Sem a):=λ_ _=>rfl
def dE.unsupported{a:Type}{b}:dE P (Go.unsupported b:Sem a):=λ_ _=>rfl
def dE.sizeOf{o}:dE P (sizeOf o):=λ_ _=>events_sizeOf ..
def dE.underlying{o}:dE P (underlying o):=λ_ _=>events_underlying ..
def dE.zeroValue{o}:dE P (zeroValue o):=λ_ _=>events_zeroValue ..
def dE.newObj{t}:dE P (newObj t):=λ_ _=>rfl
def dE.newRow{o}{s}:dE P (newRow o s):=.bind .newObj λ_=>.pure
def dE.hz{a e:Type}{g:a->Sem e}(i:∀b,dE P (g b)):∀d:p a,dE P (d.mapM g)
  |[]=>by rw[List.mapM_nil];exact .pure
  |b::d=>by rw[o_];exact .bind (i b) λ_=>.bind (dE.hz i d) λ_=>.pure
def dE.map{b d:Type}{e:b->d}{A}(g:dE P A):dE P (Functor.map e A):=λi a=>by rw[Sem.events_map];exact g i a
def dE.jE{a:Type}{b:α->Sem a}(e:∀d,dE P (b d))(g:Array α):dE P (g.mapM b):=by rw[w8];exact .map (.hz e _)
def dE.hi{b d:Type}{i:b->d->Sem (ForInStep d)}(j:∀e a,dE P (i e a)):∀(g:p b) a,dE P (forIn g a i)
  |[],a=>by rw[List.forIn_nil];exact .pure
  |e::g,a=>by
    rw[List.forIn_cons];refine .bind (j e a) λk=>?_;cases k with
    |done a=>exact .pure
    |yield a=>exact dE.hi j g a
theorem dE.build{o}{parts}:dE P (Instr.build o parts):=by
  unfold Instr.build;refine .bind .zeroValue λe=>.bind .underlying λa=>?_;cases a<;>first
    |exact .stuck
    | (refine .bind (.jE (λ_=>.bind .sizeOf λ_=>.pure) _) λb=>?_
       split
       · exact .pure
       · exact .stuck)
    | (refine .bind .sizeOf λd=>?_
       split
       · exact .pure
       · exact .stuck)
theorem dE.buildSlice{o}{k}{parts}:dE P (Instr.buildSlice o k parts):=by
  unfold Instr.buildSlice;refine .bind .underlying λi=>?_;cases i<;>first
    |exact .stuck
    | (refine .bind .sizeOf λd=>?_
       dsimp only
       have a:∀elem (zero:Array aa),dE P (match Instr.fill (λj=>h (j*d,d)) (Array.map (λl=>zero[l % zero.size]!) (Array.range (k*d))) parts.toList with
          |some cells=>do
            let g<-Go.newRow elem cells
            Pure.pure (Value.slice (h g) k k)
          |_=>Go.stuck "buildSlice: a part of the wrong size"):=by
         intro elem zero;split
         · exact .bind .newRow λ_=>.pure
         · exact .stuck
       by_cases e:k*d=0
       · simp only[e,dJ]
         rw[e]at a;split
         · grind
         · exact .bind .pure λb=>a _ b
       · simp only[e,dn]
         split
         · exact .bind .unsupported λ_=>.bind .zeroValue λb=>.bind .pure λb=>a _ b
         · exact .bind .zeroValue λb=>.bind .pure λb=>a _ b)
def qr{t}{L}(a:L∈b.m)(d:j∈L.al):h8 b (pB j t):=⟨rfl,rfl,.inr (.inl ⟨⟨L,a,d⟩,λe=>by cases e⟩)⟩
def Iu{t}(a:b.u j t=h ab):h8 b (pB j t):=⟨rfl,rfl,.inr (.inr ⟨rfl,ab,a⟩)⟩
theorem om{t}{L}(d:L∈b.m)(e:j∈L.al)(a:b.u j t=q):h8 b (tZ j t):=⟨rfl,rfl,.inr (.inl ⟨⟨L,d,e⟩,λ_=>a⟩)⟩
end
structure bx where
 size:Nat
 bytes:Nat
 agg:Bool
 desc:TypeDesc
 zero:p N
 eq:p TypeDesc:=[]
def rL:TypeDesc->aa->aa->Option Bool
 |.int _,.int e a,.int d b=>if e=d then h (a==b)else q
 |.string,.string a,.string b=>h (a.toList==b.toList)
 |.bool,.bool a,.bool b=>h (a==b)
 |_,_,_=>q
def ol:p TypeDesc->p aa->p aa->Option Bool
 |[],[],[]=>h f
 |g::a,i::B,j::b=>match rL g i j with
  |some d=>match ol a B b with
   |some e=>h (d&&e)
   |none=>q
  |none=>q
 |_,_,_=>q
def yw:TypeDesc->Bool
 |.struct _|.array _ _=>f
 |_=>m
structure dS(P:aI)(o:av)(e:bx):Prop where
 eN:P.underlying o=h e.desc
 agg:yw e.desc=e.agg
 de:∃inf cM,P.info? o=h inf/\inf.size=e.size/\inf.bytes=e.bytes/\inf.zero=h cM/\cM.cells.toList.map lJ=e.zero.map h/\(∃ah,cM=if e.agg then .agg ah else cM)/\c e.zero=e.size
 iT:e.eq≠[]->P.eqGuardType P.depth o=m/\∀(Q:au) (B ws:p aa) (j:Bool),ol e.eq B ws=h j->(Op.equal o (.agg B.toArray) (.agg ws.toArray)).run P Q=.ok j Q/\∀T,(Op.equal o (.agg B.toArray) (.agg ws.toArray)).events P Q T=T
def bZ:p (Nat×bx)->Nat->Option bx
 |[],_=>q
 |(d,b)::e,a=>cond (af d a) (h b) (bZ e a)
def bn(P:aI)(d:p (Nat×bx)):Prop:=∀b a,bZ d b=h a->dS P b a
section
variable {Q:au}{e:bx}
def dS.run_underlying(a:dS P o e):(underlying o).run P Q=.ok e.desc Q:=by simp[underlying,a.eN]
def dS.er(a:dS P o e):(isAgg o).run P Q=.ok e.agg Q:=by have:=a.agg;unfold Go.isAgg;rw[cK,a.run_underlying];cases b:e.desc<;>rw[b]at this<;>simp[yw]at this<;>simp[this]
def dS.bc(d:dS P o e):(sizeOf o).run P Q=.ok e.size Q:=by obtain⟨g,i,a,b,_⟩:=d.de;simp[sizeOf,typeInfo,a,b]
def uu{n}{b}:∀{B:p aa}{a:p N},B.map lJ=a.map h->bN n b B (a.map O.c)
 |[],[],_=>trivial
 |[],_::_,d=>by grind
 |_::_,[],d=>by grind
 |g::B,e::a,d=>by simp[mq,List.cons.injEq]at d;exact⟨Rd.fs d.1,uu d.2⟩
def dS.h2(j:dS P o e)(n)(b):∃a,(zeroValue o).run P Q=.ok a Q/\bN n b a.cells.toList (e.zero.map O.c):=by obtain⟨l,a,d,k,p,i,g,_⟩:=j.de;exact⟨a,by simp[zeroValue,typeInfo,d,i],uu g⟩
end
def my:z->Option (p O)
 |.q (.aq b)=>h [b]
 |.q (.agg a)=>h a
 |_=>q
theorem u0{d}{ah}(a:my d=h ah)(e:bz n b ab d):bN n b ab.cells.toList ah:=by
 cases d with
 |q i=>
  cases i with
  |aq k=>
   cases a;have:=cA.cell e;cases ab<;>first|exact⟨e,v⟩|cases this
  |agg l=>
   cases a;obtain⟨B,rfl,g⟩:=e;simpa[Value.cells]using g
 |Q j=>cases a
 |any=>cases a
def a1.newVar{P}{t}{g:aA->z}{n}{W}{ah}(r:∀b d,bc n b->(∀o,bz n b (d o) (g o))->∃i:aa,(ac d t).run P b.a=((do pure (.value (.pointer (h (<-newVar W i))))):Sem Next).run P b.a/\bN n b i.cells.toList ah/\(ac d t).events P b.a #[]=#[]):
  a1 P t g n (aH (c n) 0) (n++[.cells W ah]):=by
 intro b d e l;obtain⟨i,j,k,p⟩:=r b d e l;refine⟨.value (.pointer (h ⟨b.a.heap.size,0,q⟩)),b.bY W i.cells.toList,?_,?_,e.bY k,.bY b W _ _,by rw[p];exact .nil⟩
 .rw[j];simp[Go.newVar,newRow,a6.bY]
 refine⟨by simp,⟨.pointer (h ⟨b.a.heap.size,0,q⟩),[b.a.heap.size]⟩,b.a.heap.size,?_,a,a⟩;simp[a6.bY,<-e.len]
theorem a1.alloc{P}{ad}(aR:bn P ad){t}{b:aA->z}{n}{W}(g:t.op=.alloc W){e}(a:bZ ad W=h e):
  a1 P t b n (aH (c n) 0) (n++[.cells W (e.zero.map O.c)]):=by refine .newVar λi l _ _=>?_;obtain⟨k,d,j⟩:=(aR W e a).h2 (Q:=i.a) n i;exact⟨k,by simp[ac,g,Instr.alloc,d],j,by simp[ac,g,Instr.alloc,d,Go.newVar,newRow]⟩
theorem a1.box{P}{t}{a:aA->z}{n}{W}{l}(d:t.op=.box W l){ah}(e:my (a l)=h ah):
  a1 P t a n (aH (c n) 0) (n++[.cells W ah]):=
 .newVar λi b _ g=>⟨b l,by simp[ac,d,Instr.box],u0 e (g l),by simp[ac,d,Instr.box,Go.newVar,newRow]⟩
def m0{a:Type}:Nat->p a->Option (p a)
 |0,_=>h []
 |d+1,g::b=>match m0 d b with|some e=>h (g::e)|none=>q
 |_+1,[]=>q
def tV{i:Type}:∀{b:Nat}{e d:p i},m0 b e=h d->d=e.take b/\c d=b
 |0,e,d,a=>by cases a;simp
 |b+1,[],d,a=>by simp[m0]at a
 |b+1,o::g,d,a=>by
  simp[m0]at a;cases j:m0 b g with
  |none=>grind
  |some n=>
   simp[j]at a;subst a;obtain⟨k,l⟩:=tV j;grind
def c'{a:Type}:Nat->p a->Option a
 |_,[]=>q
 |0,e::_=>h e
 |d+1,_::b=>c' d b
theorem eo{b:Type}:∀{k:Nat}{d:p b}{e:b},c' k d=h e->d[k]?=h e
 |_,[],_,a=>by simp[c']at a
 |0,e::_,_,a=>by simpa[c']using a
 |k+1,_::g,_,a=>by simpa using eo (k:=k) (d:=g) a
def f_{a:Type}:Nat->p a->p a
 |0,d=>d
 |_+1,[]=>[]
 |e+1,_::b=>f_ e b
def rK{d:Type}:∀a(e:p d),f_ a e=e.drop a
 |0,_=>by simp[f_]
 |_+1,[]=>by simp[f_]
 |a+1,_::b=>by simp[f_,rK a b]
def hi(b:bx)(a:p O):Option E1:=
 match b.agg with
 |true=>match m0 b.size a with|some e=>h (.agg e)|none=>q
 |false=>match c' 0 a with|some d=>h (.aq d)|none=>q
def tF{e}(s:dS P o e){ah}{ai}(D:∀l d,B[l]?=h d->b.a.cell? ⟨j,off+l,q⟩=h d)(r:bN n b B ah)(i:hi e ah=h ai):
  ∃d,(loadVar o ⟨j,off,q⟩).run P b.a=.ok d b.a/\ey n b d ai:=by
 simp[loadVar,cK,s.er,c7];cases u:e.agg<;>simp[hi,u]at i
 .cases g:c' 0 ah with
  |none=>grind
  |some y=>
   simp[g]at i;subst i;obtain⟨d,z,t⟩:=r.get (eo g);refine⟨d,?_,t⟩;grind[run_load]
 cases g:m0 e.size ah with
 |none=>grind
 |some A=>
  simp[g]at i;subst i;obtain⟨x,v⟩:=tV g;have k:=r.take e.size;rw[<-x]at k;have w:c (B.take e.size)=e.size:=by rw[k.cN,v]
  have p:=run_loadCells_list (P:=P) b.a ⟨j,off,q⟩ (B.take e.size) (λl d C=>by grind[gY]);rw[w]at p;refine⟨.agg (B.take e.size).toArray,?_,B.take e.size,a,k⟩;simp[s.bc,p]
def pf{Q}{e}(s:dS P o e)(t:∀d,d<k->∃l,Q.cell? ⟨j,off+d,q⟩=h l)(i:(if e.agg then e.size else 1)<=k):
  ∀g∈(loadVar o ⟨j,off,q⟩).events P Q #[],∃d,d<k/\g=pB j (off+d):=by
 intro g b;simp only[loadVar,aG,s.er,aJ,events_isAgg]at b;cases p:e.agg
 .rw[p]at i b;obtain⟨l,r⟩:=t 0 M;simp[ki]at r;simp only[kg,dn,Cr r]at b;rcases Array.mem_push.1 b with u|rfl
  .grind
  exact⟨0,by grind,a⟩
 rw[p]at i b;simp[dJ]at i;simp[dJ,aG,s.bc,aJ,events_sizeOf]at b;have key:∀g∈(loadCells ⟨j,off,q⟩ e.size).events P Q #[],∃d,d<k/\g=pB j (off+d):=by
  intro g b;rcases IT (P:=P) (λd v=>t d y) g b with u|⟨d,v,rfl⟩
  .grind
  grind
 apply key;generalize(loadCells ⟨j,off,q⟩ e.size).run P Q=w at b;cases w with
 |ok l n=>simpa using b
 |halt x n=>simpa using b
theorem sb{e}{ah}{g}(a:hi e ah=h g):(if e.agg then e.size else 1)<=c ah:=by
 unfold hi at a;cases b:e.agg<;>rw[b]at a
 .cases ah with
  |nil=>simp[c']at a
  |cons i ah=>simp
 simp only at a;cases d:m0 e.size ah with
 |none=>grind
 |some l=>
  obtain⟨j,k⟩:=tV d;grind
theorem a1.hv{ad}(aR:bn P ad)(C:t.op=.load o l){ah}{e}{ai}(O:η l=aH d off)(aE:n[d]?=h (.cells W ah))(r:bZ ad o=h e)(F:hi e (f_ off ah)=h ai):a1 P t η n (.q ai) n:=by
 refine .dy λb x s u=>?_
 have p:=u l;rw[O]at p;obtain⟨_,L,j,J,y,I⟩:=p;obtain⟨w,B,rfl,D,z,_⟩:=s.box d _ L aE J;simp at y;subst y;rw[rK]at F;obtain⟨K,A,N⟩:=tF (b:=b) (n:=n) (P:=P) (aR o e r) (j:=w) (off:=off) (B:=B.drop off) (ah:=ah.drop off) (ai:=ai) (λv K g=>by
  simp[aL,D]
  grind) (z.drop off) F
 refine⟨K,by simp[ac,C,I,Instr.loadAt,Instr.sureAddr,A],N,λi a=>?_⟩;have M:i∈(loadVar o ⟨w,off,q⟩).events P b.a #[]:=by
  have ai:ac x t=(do pure (.value (<-loadVar o ⟨w,off,q⟩))):=by simp[ac,C,I,Instr.loadAt,Instr.sureAddr]
  rw[ai]at a;simpa[A]using a
 have Q:c (B.drop off)=c (ah.drop off):=(z.drop off).cN;obtain⟨v,g,rfl⟩:=pf (aR o e r) (k:=c (B.drop off)) (λv g=>by refine⟨(B.drop off)[v],?_⟩;simp only[aL,D];simp at g⊢<;>omega) (by grind[sb]) i M;exact qr (b_ J) E
theorem a1.hy{ad}(aR:bn P ad)(I:t.op=.load o l){ah}{e}{ai}(W:η l=ax (.O ah))(x:bZ ad o=h e)(Q:hi e (ah.map O.c)=h ai):a1 P t η n (.q ai) n:=by
 refine .dy λb y w C=>?_;have u:=C l;rw[W]at u;have v:=b8 u;generalize F:y l=X at v;cases v;rename_i j off A r J;have V:∀k i,(∀d z,i[d]?=h z->Rd b.u (A (k+d)) z)->bN n b ((aC (c i)).map λd=>A (k+d)) (i.map O.c):=by
  intro k i;induction i generalizing k with
  |nil=>intro _;trivial
  |cons S i D=>
   intro N;rw[fp,wU];refine⟨N 0 S a,?_⟩;have:=D (k+1) (λd z g=>by have:=N (d+1) z M;grind);grind[Function.comp_def]
 obtain⟨R,K,U⟩:=tF (b:=b) (n:=n) (P:=P) (aR o e x) (j:=j) (off:=off) (B:=(aC (c ah)).map λd=>A (0+d)) (ah:=ah.map O.c) (ai:=ai) (λd R g=>by
  simp[nf,cZ]at g;by_cases E:d<c ah
  .simp[E]at g;subst g;exact w.mem _ _ _ (r d ah[d] (bK E))
  grind) (V 0 ah M) Q
 refine⟨R,by simp[ac,I,F,Instr.loadAt,Instr.sureAddr,K],U,λs p=>?_⟩;have T:s∈(loadVar o ⟨j,off,q⟩).events P b.a #[]:=by
  have ai:ac y t=(do pure (.value (<-loadVar o ⟨j,off,q⟩))):=by simp[ac,I,F,Instr.loadAt,Instr.sureAddr]
  rw[ai]at p;simpa[K]using p
 obtain⟨d,g,rfl⟩:=pf (aR o e x) (k:=c ah) (λd g=>⟨A d,w.mem _ _ _ (r d ah[d] (bK g))⟩) (by have:=sb Q;grind) s T;exact Iu (r d ah[d] (bK g))
def iZ{d:Type}:Nat->p d->p d->Option (p d)
 |0,[],j=>h j
 |0,k::b,_::a=>match iZ 0 b a with|some e=>h (k::e)|none=>q
 |i+1,b,g::a=>match iZ i b a with|some e=>h (g::e)|none=>q
 |_,_,[]=>q
def En{i:Type}:∀{a:Nat}{new g e:p i},iZ a new g=h e->a+c new<=c g/\e=g.take a++new++g.drop (a+c new)
 |0,[],g,e,u=>by cases g<;>cases u<;>simp
 |0,n::b,l::d,e,u=>by
  simp[iZ]at u;cases x:iZ 0 b d with
  |none=>grind
  |some o=>
   exact OS
 |0,n::b,[],e,u=>by simp[iZ]at u
 |k+1,b,l::d,e,u=>by
  simp[iZ]at u;cases x:iZ k b d with
  |none=>grind
  |some o=>
   exact OS
 |k+1,b,[],e,u=>by simp[iZ]at u
def bN.fi{new}{ah a g}(i:AM.iZ off a ah=h g)(d:bN n b B ah)(e:bN n b new a):
  off+c new<=c B/\bN n b (B.take off++new++B.drop (off+c new)) g:=by obtain⟨k1,rfl⟩:=En i;rw[e.cN,d.cN];refine⟨k1,((d.take off).append e).append (by have:=d.drop (off+c a);exact this)⟩
theorem a1.store{ad}(aR:bn P ad)(F:t.op=.store o l X){ah new i}{e}(K:η l=aH d off)(aE:n[d]?=h (.cells W ah))(r:bZ ad o=h e)(z:my (η X)=h new)(s:c new=e.size)(N:iZ off new ah=h i):
  a1 P t η n .any (n.set d (.cells W i)):=by
 intro w g p u;have k:=u l;rw[K]at k;obtain⟨_,L,Y,y,D,J⟩:=k;obtain⟨v,B,rfl,I,S,Q⟩:=p.box d _ L aE y;simp at D;subst D;have j:=u0 z (u X);obtain⟨k1,U⟩:=bN.fi N S j;obtain⟨w1,w2⟩:=p.write aE y rfl U;refine⟨.skip,_,?_,a,w1,w2,?_⟩
 rotate_left
 .intro It b;have x:(g X).cells.size=e.size:=by rw[<-s,<-j.cN,nc]
  have O:ac g t=(do storeVar o ⟨v,off,q⟩ (g X);pure .skip):=by simp[ac,F,J,Instr.storeAt,Instr.sureAddr]
  rw[O]at b;have R:It∈(storeCells ⟨v,off,q⟩ (g X).cells.toList).events P w.a #[]:=by
   simp[storeVar,aG,(aR o e r).bc,x,aJ,events_sizeOf,d_,hx,dn,cK,c7,Sem.events_pure]at b;generalize(storeCells ⟨v,off,q⟩ (g X).cells.toList).run P w.a=T at b;cases T with
   |ok aa A=>simpa using b
   |halt l A=>simpa using b
  rcases nm (g X).cells.toList 0 B.toArray w.a #[] I M j.cell It R with V|⟨Z,_,_,rfl⟩
  .grind
  exact om (b_ y) E (Q _)
 have C:=run_storeCells_at P v off W (g X).cells.toList 0 B.toArray w.a I M (j.cell);have x:(g X).cells.size=e.size:=by rw[<-s,<-j.cN,nc]
 simp[ki]at C;simp[ac,F,J,Instr.storeAt,Instr.sureAddr,storeVar,(aR o e r).bc,x,C]
def lj(d:p (Nat×bx))(j:av)(g:Nat):Option (Nat×bx):=
 match bZ d j with
 |some i=>match i.desc with
  |.struct b=>match c' g b.toList with
   |some a=>match bZ d a.type with
    |some e=>cond (af e.size 0) q (h (a.offset,e))
    |none=>q
   |none=>q
  |_=>q
 |none=>q
def CL{ad}(aR:bn P ad){n}{w}(e:lj ad o n=h (off,w)):
  ∃k d b,bZ ad o=h k/\k.desc=.struct d/\d[n]?=h b/\b.offset=off/\bZ ad b.type=h w/\w.size≠0/\dS P o k/\dS P b.type w:=by
 unfold lj at e;split at e
 .rename_i k bq;split at e
  .rename_i d i;split at e
   .rename_i b g;split at e
    .rename_i j l;cases p:af j.size 0<;>simp[p]at e
     obtain⟨rfl,rfl⟩:=e;refine⟨k,d,b,bq,i,by simpa using eo g,a,l,?_,aR _ _ bq,aR _ _ l⟩;intro r;simp_all
    grind
   grind
  grind
 grind
def y9{ad}(aR:bn P ad){a}{w}(p:lj ad o a=h (off,w))(j t)(b):
  (Instr.fieldAt o (.pointer (h ⟨j,t,q⟩)) a).run P b=.ok (.pointer (h ⟨j,t+off,q⟩)) b:=by obtain⟨s,l,k,u,i,r,n,v,d,g,e⟩:=CL aR p;simp[Instr.fieldAt,g.run_underlying,i,r,Instr.sureAddr,fieldPlace,e.bc,d,gY,n]
def x4{ad}(aR:bn P ad){a}{w}(n:lj ad o a=h (off,w))(j t)(p)(T):
  (Instr.fieldAt o (.pointer (h ⟨j,t,q⟩)) a).events P p T=T:=by obtain⟨r,k,i,u,g,l,s,v,b,e,d⟩:=CL aR n;simp[Instr.fieldAt,e.run_underlying,g,l,Instr.sureAddr,fieldPlace,d.bc,b]
def a1.ha{ad}(aR:bn P ad){r}(s:t.op=.fieldAddr o l r){i}{w}(y:η l=aH d off)(k:lj ad o r=h (i,w)):a1 P t η n (aH d (off+i)) n:=by refine .aZ λA z x g=>?_;have b:=g l;rw[y]at b;obtain⟨e,L,j,v,u,p⟩:=b;exact⟨.pointer (h ⟨j,off+i,q⟩),by simp[ac,s,p,y9 aR k],⟨e,L,j,v,u,a⟩,by simp[ac,s,p,x4 aR k]⟩
theorem a1.hc{ad}(aR:bn P ad){r}(s:t.op=.fieldAddr o l r){ah}{i}{w}(A:η l=ax (.O ah))(p:lj ad o r=h (i,w)):a1 P t η n (ax (.O (f_ i ah))) n:=by refine .aZ λC g y e=>?_;have a:=e l;rw[A]at a;have b:=b8 a;generalize j:g l=B at b;cases b;rename_i k t x z u;refine⟨.pointer (h ⟨k,t+i,q⟩),by simp[ac,s,j,y9 aR p],?_,by simp[ac,s,j,x4 aR p]⟩;rw[rK];refine Rd.O k (t+i) (λw=>x (i+w)) (λw v d=>M) (λw v d=>?_);grind
def RI{e}(l:dS P o e){ah}(r:bN n b B ah){k}(d:hi e (f_ off ah)=h k)(i):
  ∃g,(part o B.toArray off).run P i=.ok g i/\ey n b g k/\∀a,(part o B.toArray off).events P i a=a:=by
 simp[part,cK,l.er,c7,aG,aJ,events_isAgg];rw[rK]at d;cases u:e.agg<;>simp[hi,u]at d
 .cases s:c' 0 (ah.drop off)with
  |none=>grind
  |some w=>
   simp[s]at d;subst d;obtain⟨g,p,t⟩:=(r.drop off).get (eo s);simp at p;refine⟨g,?_,t,λa=>?_⟩<;>simp[p]
 cases s:m0 e.size (ah.drop off)with
 |none=>grind
 |some y=>
  simp[s]at d;subst d;obtain⟨v,x⟩:=tV s;have j:=(r.drop off).take e.size;rw[<-v]at j;refine⟨.agg (B.toArray.extract off (off+e.size)),by simp[l.bc],⟨(B.drop off).take e.size,?_,j⟩,λa=>by simp⟩;simp
theorem a1.field{P}{ad}(aR:bn P ad){t}{d:aA->z}{n}{o}{l}{j}(p:t.op=.field o l j){ah}{i}{w}{g}(M:d l=.q (.agg ah))(F:lj ad o j=h (i,w))(J:hi w (f_ i ah)=h g):a1 P t d n (.q g) n:=by refine .aZ λK O E e=>?_;have a:=e l;rw[M]at a;obtain⟨B,r,y⟩:=a;obtain⟨Q,D,C,a,b,u,s,S,R,k,I⟩:=CL aR F;obtain⟨N,A,v,x⟩:=RI I y J K.a;exact⟨N,by simp[ac,p,r,Instr.field,k.run_underlying,b,u,asAgg,s,A],v,by simp[ac,p,r,Instr.field,k.run_underlying,b,u,asAgg,s,x]⟩
theorem a1.hI(i:t.op=.nilCheck l)(k:η l=aH d off):a1 P t η n (aH d off) n:=by refine .aZ λv e o b=>?_;have a:=b l;rw[k]at a;have j:=a;obtain⟨p,L,r,u,s,g⟩:=a;exact⟨e l,by simp[ac,i,g],j,by simp[ac,i,g]⟩
theorem a1.hJ(i:t.op=.nilCheck l){ah}(j:η l=ax (.O ah)):a1 P t η n (ax (.O ah)) n:=by refine .aZ λp e k d=>?_;have a:=d l;rw[j]at a;have b:=b8 a;generalize g:e l=o at b;cases b;exact⟨_,by simp[ac,i,g];rfl,by grind,by simp[ac,i,g]⟩
def Yl(new):∀d a(b:Array aa),a+d+c new<=b.size ->
  ((new.zipIdx d).foldl (λb (g:aa×Nat)=>b.setIfInBounds (a+g.2) g.1) b).toList=b.toList.take (a+d)++new++b.toList.drop (a+d+c new):=by
 induction new with
 |nil=>simp
 |cons i B e=>
  intro d a b j;simp[List.zipIdx_cons,iI];rw[e (d+1) a _ M];have:=list_seg_step b.toList (a+d) i B M;simpa[Array.toList_setIfInBounds,Nat.add_assoc]using this
def rN(place:Nat->Option (Nat×Nat)):p (Nat×p O)->p O->Option (p O)
 |[],a=>h a
 |(e,new)::b,a=>match place e with
  |some (d,size)=>match af (c new) size with
   |true=>match iZ d new a with
    |some g=>rN place b g
    |none=>q
   |false=>q
  |none=>q
def ya{n}{b}{place vO:Nat->Option (Nat×Nat)}(z:∀x g,place x=h g->vO x=h g):∀{parts:p (Nat×p O)}{zF:p (Nat×aa)}{ah ba:p O}{B:Array aa},
  rN place parts ah=h ba->zF.map (·.1)=parts.map (·.1)->(∀(t:Nat) g l,parts[t]?=h g->zF[t]?=h l->bN n b l.2.cells.toList g.2)->bN n b B.toList ah ->
  ∃s,Instr.fill vO B zF=h s/\bN n b s.toList ba
 |[],[],ah,ba,B,e,_,_,o=>by cases e;exact⟨B,a,o⟩
 |[],_::_,ah,ba,B,e,k,_,o=>by grind
 |_::_,[],ah,ba,B,e,k,_,o=>by grind
 |(x,new)::j,(w,u)::i,ah,ba,B,e,k,r,o=>by
  simp[mq,List.cons.injEq]at k;obtain⟨rfl,k⟩:=k;simp[rN]at e;cases y:place w with
  |none=>grind
  |some g=>
   obtain⟨d,size⟩:=g;simp[y]at e;cases C:af (c new) size with
   |false=>grind
   |true=>
    simp[C]at e;cases D:iZ d new ah with
    |none=>grind
    |some l=>
     simp[D]at e;have v:=r 0 (w,new) (w,u) a a;simp only at v;have R:=v.cN;have J:c new=size:=dp C;obtain⟨k1,Q⟩:=bN.fi D o v;have N:=Yl u.cells.toList 0 d B M;have F:u.cells.size=size:=M;have K:d+size<=B.size:=M;obtain⟨s,I,A⟩:=ya (n:=n) (b:=b) z (parts:=j) (zF:=i) (ah:=l) (ba:=ba)
      (B:=u.cells.zipIdx.foldl (λah (E:aa×Nat)=>ah.setIfInBounds (d+E.2) E.1) B) e k (λt g l I A=>r (t+1) g l M M) (by grind[Array.toList_zipIdx])
     refine⟨s,?_,A⟩;simp[Instr.fill,z _ _ y,F,d_,hx,o7,Bool.false_or,bA];grind
def tw(b:p (Nat×bx)):p Field->Option (p (Nat×Nat))
 |[]=>h []
 |d::a=>match bZ b d.type with
  |some e=>match tw b a with
   |some g=>h ((d.offset,e.size)::g)
   |none=>q
  |none=>q
def Li{P}{ad}(aR:bn P ad):∀{a:p Field}{e:p (Nat×Nat)},tw ad a=h e->a.mapM (λd=>(P.info? d.type).map λl=>(d.offset,l.size))=h e
 |[],e,b=>by cases b;simp
 |d::a,e,b=>by
  simp[tw]at b;cases i:bZ ad d.type with
  |none=>grind
  |some o=>
   cases g:tw ad a with
   |none=>grind
   |some r=>
    simp[i,g]at b;subst b;obtain⟨n,s,k,j,_⟩:=(aR _ _ i).de;simp[o_,k,j,Li aR g]
def pz(a:aA->z):p (Nat×aA)->Option (p (Nat×p O))
 |[]=>h []
 |(d,i)::g=>match my (a i)with
  |some b=>match pz a g with
   |some e=>h ((d,b)::e)
   |none=>q
  |none=>q
def yW{n}{b}{d:aA->aa}{a:aA->z}(u:∀t,bz n b (d t) (a t)):∀{k:p (Nat×aA)}{g:p (Nat×p O)},pz a k=h g ->
  (k.map λ(j,i)=>(j,d i)).map (·.1)=g.map (·.1)/\∀(o:Nat) r s,g[o]?=h r->(k.map λ(j,i)=>(j,d i))[o]?=h s->bN n b s.2.cells.toList r.2
 |[],g,e=>by cases e;simp
 |(j,i)::y,g,e=>by
  simp[pz]at e;cases v:my (a i)with
  |none=>grind
  |some w=>
   cases l:pz a y with
   |none=>grind
   |some x=>
    simp[v,l]at e;subst e;obtain⟨B,A⟩:=yW u l;grind[u0]
def xm(g:p (Nat×bx))(e:aA->z)(k:av)(parts:p (Nat×aA)):Option (p O):=
 match bZ g k with
 |some i=>match i.desc with
  |.struct a=>match tw g a.toList with
   |some b=>match pz e parts with
    |some d=>rN (λj=>c' j b) d (i.zero.map O.c)
    |none=>q
   |none=>q
  |_=>q
 |none=>q
theorem a1.build{P}{ad}(aR:bn P ad){t}{d:aA->z}{n}{o}{parts}(y:t.op=.build o parts){ah}(e:xm ad d o parts.toList=h ah):a1 P t d n (.q (.agg ah)) n:=by
 refine .aZ λb s B l=>?_;unfold xm at e;cases a:bZ ad o with
 |none=>grind
 |some j=>
  simp[a]at e;cases x:j.desc with
  |struct k=>
   simp[x]at e;cases w:tw ad k.toList with
   |none=>grind
   |some r=>
    simp[w]at e;cases v:pz d parts.toList with
    |none=>grind
    |some J=>
     simp[v]at e;obtain⟨S,V,I,T,N,E,K,U,Q⟩:=(aR o j a).de;obtain⟨D,p⟩:=yW (n:=n) (b:=b) l v;obtain⟨g,M,F⟩:=ya (n:=n) (b:=b) (vO:=λA=>r.toArray[A]?) (λA R C=>by grind[eo]) e D p (uu K);have i:P.built o (parts.map λ(j,O)=>(j,s O)).toList=h g:=by unfold Program.built;have u:=(aR o j a).eN;rw[x]at u;simp[I,u,E,Li aR w];simpa using M
     refine⟨.agg g,?_,⟨g.toList,by simp,F⟩,?_⟩
     .simp only[ac,y,cK,run_build b.a o _ g i,c7,d9]
     simp[ac,y,aG,run_build b.a o _ g i,aJ,Sem.events_pure];exact dE.build b.a #[]
  |_=>grind
theorem Z_{i}(a:e<k)(d:w<i):e*i+w<k*i:=by have b:(e+1)*i<=k*i:=g5 i y;grind
theorem Z9{i}(a:w<i):(e*i+w) / i=e:=by grind[Nat.mul_comm,Nat.mul_add_div,Nat.div_eq_of_lt]
theorem Z'{i}(a:w<i):(e*i+w) % i=w:=by rw[Nat.mul_comm,Nat.mul_add_mod,Nat.mod_eq_of_lt a]
def e2.nil{i}:e2 bE i 0 T []:=⟨by simp,by omega,by omega⟩
def cg(b:Nat)(d e:Nat->p N):Nat->p N:=λa=>if a<b then d a else e (a-b)
def e2.append{i}{b:Nat->p N}{j}(g:e2 bE i k T B)(o:e2 bE i A b j):e2 bE i (k+A) (cg k T b) (B++j):=by
 refine⟨by simp[g.len,o.len,jL],λe s=>?_,λe s l t a=>?_⟩
 .simp only[cg];split
  .rename_i n;exact g.bI e n
  exact o.bI _ y
 simp[cg]at a;split at a
 .rename_i n;obtain⟨u,r,d⟩:=g.rd e n l t a;grind
 rename_i w;obtain⟨u,r,d⟩:=o.rd _ y l t a;refine⟨u,?_,d⟩;have v:e*i+l=c B+((e-k)*i+l):=by rw[g.len,<-Nat.add_assoc,<-jL,AO y]
 grind
def e2.cell{bE}{i k}{d:Nat->p N}{B}(j:e2 bE i k d B):∀g∈B,g.oneCell'=f:=by intro g o;obtain⟨a,r,rfl⟩:=hl o;rw[j.len]at r;have n:0<i:=M;have e:a / i<k:=su M;have t:a % i<i:=p' _ n;have u:=j.bI _ e;obtain⟨g,b,l⟩:=j.rd (a / i) e (a % i) ((d (a / i))[a % i]'y) (bK y);have s:a / i*i+a % i=a:=uC a i;rw[s]at b;rw[bK M]at b;simp at b;rw[b];have:=Rd.cell l;cases g<;>simp_all[dX,Value.oneCell']
def Rd.b1{o}{i}(C:Rd bE ab (.S o i k T)):
  ∃l b B,ab=.slice l k b/\k<=b/\b<=9223372036854775807/\(o=f->b=k)/\e2 bE i k T B/\∀e v,B[e]?=h v->∃n d,l=h ⟨n,d,q⟩/\bE n (d+e)=h v:=by
 cases C with
 |@S l _ b _ _ _ n d z w s u j r t E=>
  refine⟨l,b,(aC (k*i)).map λe=>z (e / i) (e % i),a,w,s,u,⟨by simp,j,?_⟩,?_⟩
  .grind [Z_,Z9,Z']
  intro e v p;simp[nf]at p;by_cases x:e<k*i
  .simp[x]at p;subst p;have A:0<i:=M;have g:e / i<k:=su M;have D:e % i<i:=p' _ A;have F:=j _ g;have:=t (e / i) g (e % i) ((T (e / i))[e % i]'y) (bK y);refine⟨n,d,r (Nat.lt_of_le_of_lt (gX _) g),?_⟩;grind[Nat.div_add_mod']
  grind
def Rd.eJ{i}(l:e2 bE i k T B){x}{cap}{o}(v:0<k->x=h ⟨j,off,q⟩)(u:k<=cap)(r:cap<=9223372036854775807)(w:o=f->cap=k)(y:∀s t,B[s]?=h t->bE j (off+s)=h t):Rd bE (.slice x k cap) (.S o i k T):=by
 refine .S j off (λd e=>(B[d*i+e]?).getD K) u r w l.bI v (λd a e g b=>?_) (λd a e g b=>?_)
 .obtain⟨ab,n,p⟩:=l.rd d a e g b;grind
 obtain⟨ab,n,p⟩:=l.rd d a e g b;grind
def oN(z:bc n b){o}{i}(v:Rd b.u ab (.S o i k T)):
  ∃B,e2 b.u i k T B/\(Builtin.firstCells i k ab).run P b.a=.ok B.toArray b.a/\Builtin.lenOf ab=pure k:=by
 obtain⟨s,l,B,rfl,A,E,D,r,p⟩:=v.b1;refine⟨B,r,?_,a⟩;have w:c B=k*i:=r.len;cases s with
 |none=>
  have:B=[]:=by
   cases B with
   |nil=>rfl
   |cons j C=>obtain⟨t,d,g,_⟩:=p 0 j rfl;cases g
  subst this;rfl
 |some e=>
  simp[Builtin.firstCells];rw[<-w];refine run_loadCells_list b.a e B λx j u=>?_;obtain⟨t,d,g,y⟩:=p x j u;cases g;rw[gY];exact z.mem _ _ _ y
def a1.js{ad}(aR:bn P ad)(u:t.op=.index o l X){d}{w}{i}{e}(bq:bZ ad o=h e)(ae:e.desc=.string)(E:η l=ax (.V d))(D:η X=ax (.int i w))(JT:w=A)(z:A<c d):a1 P t η n (ax (.int .u8 (d[A]).toNat)) n:=by
 refine .aZ λb s v r=>?_;have g:=r l;have k:=r X;rw[E]at g;rw[D]at k;replace g:=b8 g;replace k:=b8 k;generalize x:s l=F at g;generalize I:s X=J at k;cases g with
 |@V a _ B y=>
 cases k;subst B;have C:a[A]?=h (a.data.toList[A]):=by have p:A<a.size:=dD;rw[getElem?_pos a A p];congr 1
 refine⟨.int .u8 (a.data.toList[A]).toNat,?_,Rd.int ?_,?_⟩
 rotate_left 2
 .exact QV
 .exact QV
 have:=(a.data.toList[A]).toNat_lt;exact nT
def a1.indexAddr{ad}(aR:bn P ad)(S:t.op=.indexAddr o l X){e a5}(C:bZ ad o=h e)(O:e.desc=.slice W)(M:bZ ad W=h a5){eT}{w}{i}(z:∀r K,bz n r K (η l)->Rd r.u K (.S eT a5.size k T))(N:η X=ax (.int i w))(D:w=A)(v:A<k):
  a1 P t η n (ax (.O (T A))) n:=by
 refine .aZ λr s V j=>?_;have d:=z r _ (j l);have a:=j X;rw[N]at a;replace a:=b8 a;generalize ab:s l=ag at d;generalize ae:s X=ah at a;cases a;cases d with
 |@S ai _ I _ _ _ F b R aj U Z Y B g p=>
 have aa:0<k:=y;have J:=(aR o e C).run_underlying (Q:=r.a);rw[O]at J;refine⟨.pointer (h ⟨F,b+A*a5.size,q⟩),?_,Rd.O F (b+A*a5.size) (R A) (λE u x=>g A v E u x) (λE u x=>p A v E u x),?_⟩<;>
 simp[ac,S,ab,ae,Instr.indexAt,asIntOf,J,D,B aa,(aR W a5 M).bc,gY,v]
def a1.jw{ad}(aR:bn P ad)(u:t.op=.call {callee:=.builtin .len,args:=#[l],argTypes:=du})(y:du[0]?=h o){e}(b:bZ ad o=h e)(s:e.desc=.slice W){eT}{i}(z:∀a p,bz n a p (η l)->Rd a.u p (.S eT i k T)):a1 P t η n (ax (.int .i64 k)) n:=by
 refine .aZ λa A w d=>?_;obtain⟨C,g,B,x,D,v,_⟩:=(z a _ (d l)).b1;have j:=(aR o e b).run_underlying (Q:=a.a);rw[s]at j;have r:du[0]?=h o:=y;refine⟨.int .i64 k,?_,Rd.int nT,?_⟩<;>
 simp[ac,u,resolve,invoke,builtin,Builtin.len_,x,j,goInt,r]
theorem a1.jx{ad}(aR:bn P ad)(v:t.op=.call {callee:=.builtin .len,args:=#[l],argTypes:=du})(z:du[0]?=h o){e}(b:bZ ad o=h e)(u:e.desc=.string){d}(A:η l=ax (.V d)):a1 P t η n (ax (.int .i64 (c d))) n:=by
 refine .aZ λB j w g=>?_;have a:=g l;rw[A]at a;replace a:=b8 a;generalize p:j l=C at a;cases a with
 |@V i _ y x=>
 have k:=(aR o e b).run_underlying (Q:=B.a);rw[u]at k;have r:du[0]?=h o:=z;have s:i.size=c d:=by rw[<-y];simp
 refine⟨.int .i64 (c d),?_,Rd.int nT,?_⟩<;>
 simp[ac,v,resolve,invoke,builtin,Builtin.len_,p,k,goInt,r,s]
def a6.newRow(a:a6)(e:av)(B:p aa):a6:=
 {m:=a.m,u:=λb d=>if b=a.a.heap.size then B[d]? else a.u b d,a:=a.a.alloc (.cells B.toArray e),own:=a.own}
def bc.newRow{n}{b}(i:bc n b)(W)(B):bc n (b.newRow W B)/\cP n b n (b.newRow W B):=by
 refine i.c1 E (λg d=>iV _ _ d) (λg d k=>by grind) (λg d k l e=>?_) a a a;by_cases j:g=b.a.heap.size
 .simp_all
 simp[j,dn]at e;have:=i.block e;omega
def aaU(d:a6)(W)(B):∀a b,B[a]?=h b->(d.newRow W B).u d.a.heap.size (0+a)=h b:=by intro a b e;simpa[a6.newRow]using e
def h7:p O->Option (p N)
 |[]=>h []
 |.c e::d=>match h7 d with|some b=>h (e::b)|none=>q
 |.r _ g i a::d=>match h7 d with|some b=>h (.S m g i a::b)|none=>q
 |_::_=>q
def rI{n}{b}:∀{j:p O}{g:p N}{B:p aa},h7 j=h g->bN n b B j->bN n b B (g.map O.c)
 |[],g,B,a,e=>by cases a;exact e
 |_::_,_,[],_,e=>e.elim
 |.c s::d,g,k::B,a,e=>by
  simp[h7]at a;cases i:h7 d with
  |none=>grind
  |some r=>simp[i]at a;subst a;exact⟨e.1,rI i e.2⟩
 |.r l t u o::d,g,k::B,a,e=>by
  simp[h7]at a;cases i:h7 d with
  |none=>grind
  |some r=>simp[i]at a;subst a;exact⟨e.1.1,rI i e.2⟩
 |.ptr l v::d,g,k::B,a,e=>by simp[h7]at a
 |.aR l::d,g,k::B,a,e=>by simp[h7]at a
 |.R l w::d,g,k::B,a,e=>by simp[h7]at a
 |.any::d,g,k::B,a,e=>by simp[h7]at a
def rG{a:Type}(b:Nat):Nat->p a->Option (p (p a))
 |0,[]=>h []
 |0,_::_=>q
 |g+1,d=>match m0 b d with
  |some e=>match rG b g (f_ b d)with
   |some i=>h (e::i)
   |none=>q
  |none=>q
def bN.eZ:∀{B:p aa}{a:p N},bN n b B (a.map O.c)->∀(w:Nat)d,a[w]?=h d->∃e,B[w]?=h e/\Rd b.u e d:=by intro B a j w d k;obtain⟨e,g,i⟩:=j.get (w:=w) (x:=.c d) M;exact⟨e,g,i⟩
def BR{bE}{i}:∀{k:Nat}{b:p N}{d:p (p N)}{B:p aa},rG i k b=h d->c B=c b->(∀(l:Nat)e,b[l]?=h e->∃o,B[l]?=h o/\Rd bE o e)->c d=k/\e2 bE i k (λj=>d.getD j []) B
 |0,[],d,B,g,n,s=>by cases g;simp at n;subst n;exact⟨a,.nil⟩
 |0,_::_,d,B,g,n,s=>by cases g
 |k+1,b,d,B,g,n,s=>by
  simp[rG]at g;cases u:m0 i b with
  |none=>grind
  |some e=>
   simp[u]at g;cases r:rG i k (f_ i b)with
   |none=>grind
   |some v=>
    simp[r]at g;subst g;obtain⟨D,t⟩:=tV u;rw[rK]at r;obtain⟨E,z⟩:=BR (B:=B.drop i) r M (λl e C=>by
     obtain⟨o,D,t⟩:=s (i+l) e M
     exact⟨o,by grind,t⟩)
    refine⟨by grind,?_⟩;have y:i<=c b:=M;have A:e2 bE i 1 (λ_=>e) (B.take i):=by refine⟨by grind,by grind,λj x l F C=>?_⟩;grind
    have:=A.append z;rw[Nat.add_comm 1 k]at this;have w:cg 1 (λ_=>e) (λj=>v.getD j [])=λj=>(e::v).getD j []:=by funext j;cases j<;>simp[cg]
    rw[w]at this;simpa using this
def rY(j:p (Nat×bx))(i:aA->z)(r:av)(e:Nat)(parts:p (Nat×aA)):Option (Nat×p (p N)):=
 match bZ j r with
 |some l=>match l.desc with
  |.slice k=>match bZ j k with
   |some a=>match af a.size 0 with
    |true=>q
    |false=>match ay (e*a.size) 16777216 with
     |true=>match pz i parts with
      |some g=>match rN (λn=>h (n*a.size,a.size)) g (aY (e*a.size) O.any)with
       |some b=>match h7 b with
        |some o=>match rG a.size e o with
         |some d=>h (a.size,d)
         |none=>q
        |none=>q
       |none=>q
      |none=>q
     |false=>q
   |none=>q
  |_=>q
 |none=>q
theorem a1.buildSlice{P}{ad}(aR:bn P ad){t}{w:aA->z}{n}{o}{k}{parts}(u:t.op=.buildSlice o k parts){i}{T}(e:rY ad w o k parts.toList=h (i,T)):a1 P t w n (ax (.S f i k λv=>T.getD v [])) n:=by
 intro b r R U;unfold rY at e;cases A:bZ ad o with
 |none=>grind
 |some v=>
  simp[A]at e;cases ah:v.desc with
  |slice s=>
   simp[ah]at e;cases D:bZ ad s with
   |none=>grind
   |some d=>
    simp[D]at e;cases V:af d.size 0 with
    |true=>grind
    |false=>
     simp[V]at e;cases G:ay (k*d.size) 16777216 with
     |false=>grind
     |true=>
      simp[G]at e;cases az:pz w parts.toList with
      |none=>grind
      |some Z=>
       simp[az]at e;cases aw:rN (λi=>h (i*d.size,d.size)) Z (aY (k*d.size) O.any)with
       |none=>grind
       |some I=>
        simp[aw]at e;cases H:h7 I with
        |none=>grind
        |some aI=>
         simp[H]at e;cases ag:rG d.size k aI with
         |none=>grind
         |some an=>
          simp only[ag,eV,lI]at e;obtain⟨rfl,rfl⟩:=e;have aT:d.size≠0:=λak=>by simp_all
          have aS:=ff G;obtain⟨av,l,Nr,aM,aO,a,br,aP,aQ⟩:=(aR s d D).de;have au:l.cells.size=d.size:=NL;have aq:∀g∈l.cells.toList,dX g=f:=by intro g L;have aj:lJ g∈l.cells.toList.map lJ:=ho.2 ⟨g,L,rfl⟩;rw[br]at aj;obtain⟨aU,_,N⟩:=ho.1 aj;exact(Rd.fs (bE:=b.u) N.symm).cell
          have aL:∀aH,(∀g∈(aC aH).map (λC=>l.cells[C % l.cells.size]!),dX g=f):=by grind[Nat.mod_lt]
          have aB:∀B:p aa,(∀g∈B,dX g=f)->bN n b B (aY (c B) O.any):=by
           intro B;induction B with
           |nil=>intro _;trivial
           |cons g B W=>intro L;exact⟨L g E,W λaJ ar=>L aJ M⟩
          obtain⟨X,Y⟩:=yW (n:=n) (b:=b) U az;have aE:bN n b ((Array.range (k*d.size)).map (λC=>l.cells[C % l.cells.size]!)).toList (aY (k*d.size) O.any):=by have:=aB _ (aL (k*d.size));simpa using this
          obtain⟨x,aK,ab⟩:=ya (n:=n) (b:=b) (vO:=λi=>h (i*d.size,d.size)) (λi aV S=>S) aw X Y aE;have nM:=rI H ab;obtain⟨aG,F⟩:=BR (bE:=b.u) (B:=x.toList) ag (by simpa using nM.cN) nM.eZ;obtain⟨K,ai⟩:=R.newRow s x.toList;refine⟨.value (.slice (h ⟨b.a.heap.size,0,q⟩) k k),b.newRow s x.toList,?_,?_,K,ai,?_⟩
          rotate_left 2
          .have ak:(ac r t).events P b.a #[]=#[]:=Q_;rw[ak];exact .nil
          .have ar:=(aR o v A).run_underlying (Q:=b.a);rw[ah]at ar;have aD:(zeroValue s).run P b.a=.ok l b.a:=NO;have J:Instr.fill (λi=>h (i*d.size,d.size)) ((Array.range (k*d.size)).map (λC=>l.cells[C % l.cells.size]!)) (parts.map λ(v,ae)=>(v,r ae)).toList=h x:=bw;by_cases aF:k*d.size=0
           .have aN:k=0:=by grind[Nat.mul_eq_zero]
            subst aN;have ao:Array.range 0=#[]:=rfl;simp[ao]at J;simp[ac,u,Instr.buildSlice,ar,(aR s d D).bc,ao,J,Go.newRow,a6.newRow]
           rw[show ac r t=(do pure (.value (<-Instr.buildSlice o k (parts.map λ(v,ae)=>(v,r ae))))) by simp[ac,u]];simp only[Instr.buildSlice,cK,ar,c7,(aR s d D).bc,aF,dn,aD,show¬k*d.size>2 ^ 24 by omega,sF,J,d9];simp[Go.newRow,a6.newRow]
          refine Rd.eJ (F.mono ai.mem) (j:=b.a.heap.size) (off:=0) bp (bB _) ?_ bp (aaU b s x.toList);have:k<=k*d.size:=uA k y;omega
  |_=>grind
def fm.trans{n aM a}{b j b4}(k:fm n b aM j)(l:fm aM j a b4):fm n b a b4:=by refine⟨λy z A t=>l.mem _ _ _ (k.mem _ _ _ t),λo p L aE i=>?_⟩;obtain⟨w,d,e,g,v⟩:=k.box o p L aE i;obtain⟨x,u,k1,r,s⟩:=l.box o w d e g;exact⟨x,u,k1,r,v.trans s⟩
def rO{a:p α}{d b:α}{e}(g:(a++[d])[e]?=h b):a[e]?=h b∨(e=c a/\b=d):=M
def bc.b0{k}(e:bc n k)(g:cP n b n k)(N:k.m=b.m)(r:bc n b){bX}{L}(aE:ew (n++[bX]) {k with m:=k.m++[L]} bX L)(D:∀j∈L.al,b.a.heap.size<=j/\j<k.a.heap.size):bc (n++[bX]) {k with m:=k.m++[L]}/\cP n b (n++[bX]) {k with m:=k.m++[L]}:=by
 have u:fm n k (n++[bX]) {k with m:=k.m++[L]}:=by refine⟨λ_ _ _ I=>I,λy p i l d=>?_⟩;have x:=(cQ.1 d).1;have K:=(cQ.1 l).1;exact⟨p,i,by grind,by grind,.refl _ _⟩
 have B:=g.ext.trans u;refine⟨⟨e.mem,by simp[e.len],?_,?_,?_,?_⟩,⟨g.size,g.a7,g.mem,g.bC,?_,B.box,g.os,g.tape,g.output,g.own⟩⟩
 .intro y p i l d;rcases rO l with F|⟨rfl,rfl⟩
  .have x:y<c k.m:=by rw[e.len];grind
   rw[kb x]at d;exact(e.box y p i F d).cd u e.len λ_ _=>⟨a,λ_=>rfl⟩
  rcases rO d with A|⟨_,rfl⟩
  .have:=(cQ.1 A).1;rw[e.len]at this;omega
  grind
 .intro y C s t A w j cW o;rcases rO A with k1|⟨rfl,rfl⟩<;>rcases rO w with J|⟨rfl,rfl⟩
  .exact e.a3 y C s t k1 J j cW o
  .have jG:=D j o;have z:=r.lt s M j cW;omega
  .have jG:=D j cW;have z:=r.lt t M j o;omega
  simp
 .intro i d j cW;simp[fx,gH]at d;rcases d with d|rfl
  .exact e.lt i d j cW
  grind
 .intro j cW;refine⟨(e.own j cW).1,λi d v=>?_⟩;simp[fx,gH]at d;rcases d with d|rfl
  .exact(e.own j cW).2 i d v
  have E:=g.own;simp only at cW;rw[E]at cW;have:=(r.own j cW).1;grind
 grind
def bc.b'{cf}(l:bc n b){E ec}{L cr}(U:n[d]?=h E)(I:b.m[d]?=h L)(z:fK E L ec cr)(T:b.a.heap.size<=bi.heap.size)(R:∀e,e<b.a.heap.size->e∉L.al->bi.heap[e]?=b.a.heap[e]?)(V:∀e,e<b.a.heap.size->e∉L.al->∀s,cf e s=b.u e s)(F:∀e s v,b.u e s=h v->cf e s=h v)(K:∀e s v,cf e s=h v->bi.cell? ⟨e,s,q⟩=h v)(Z:∀e∈cr.al,(e∈L.al∨b.a.heap.size<=e)/\e<bi.heap.size)(D:bi.os=b.a.os)(O:bi.tape=b.a.tape)(N:bi.output=b.a.output)(aE:ew (n.set d ec) ⟨b.m.set d cr,cf,bi,b.own⟩ ec cr):bc (n.set d ec) ⟨b.m.set d cr,cf,bi,b.own⟩/\cP n b (n.set d ec) ⟨b.m.set d cr,cf,bi,b.own⟩:=by
 have W:=(cQ.1 U).1;have Y:=(cQ.1 I).1;have x:∀g i,(b.m.set d cr)[g]?=h i->(g=d/\i=cr)∨(g≠d/\b.m[g]?=h i):=M;have t:fm n b (n.set d ec) ⟨b.m.set d cr,cf,bi,b.own⟩:=by
  refine⟨F,λg i w r y=>?_⟩;by_cases B:d=g
  .grind
  exact⟨i,w,by grind,by grind,.refl _ _⟩
 have J:∀g i,g≠d->b.m[g]?=h i->∀e∈i.al,e<b.a.heap.size/\e∉L.al:=by intro g i p r e j;exact⟨l.lt i (b_ r) e j,λS=>p (l.a3 g d i L r I e j S)⟩
 refine⟨⟨K,by simp[l.len],?_,?_,?_,?_⟩,⟨T,?_,F,?_,?_,t.box,D,O,N,a⟩⟩
 .intro g i w r y;rcases x g w y with⟨rfl,rfl⟩|⟨p,y⟩
  .grind
  rw[kJ (λB=>p B.symm)]at r;refine(l.box g i w r y).cd t l.len λe j=>?_;grind
 .intro g X i o r C e j u;rcases x g i r with⟨rfl,rfl⟩|⟨p,A⟩<;>rcases x X o C with⟨rfl,rfl⟩|⟨k,Q⟩
  .rfl
  .grind
  .grind
  exact l.a3 g X i o A Q e j u
 .intro i r e j;obtain⟨g,p,rfl⟩:=hl r;rcases x g _ (bK p)with⟨rfl,B⟩|⟨k,C⟩
  .grind
  grind
 .intro e j;obtain⟨H,G⟩:=l.own e j;grind
 .grind
 .grind
 grind
def KH{a old bytes}(d:old<a)(b:a*bytes<=140737488355328):¬Builtin.nextslicecap a old*bytes>2 ^ 48:=by have:=growslice_fits d b;omega
section
variable {ad:p (Nat×bx)}(aR:bn P ad){I:av}{e ce a5:bx}
def y8(d:dS P o e)(y:e.desc=.slice W)(v:dS P I ce)(u:ce.desc=.slice W)(z:dS P W a5)(C:bc n b){x}{cap}(t:k<=cap){l}{g}{a:Nat->p N}(r:Rd b.u l (.S g a5.size 0 a)):
  (Builtin.append_ #[o,I] ty #[.slice x k cap,l]).run P b.a=.ok (.slice x k cap) b.a:=by obtain⟨E,D,A,J⟩:=oN (P:=P) C r;have j:=d.run_underlying (Q:=b.a);have i:=v.run_underlying (Q:=b.a);rw[y]at j;rw[u]at i;obtain⟨s,F,B,rfl,_⟩:=r.b1;have w:=jI (by simpa using D.len);subst w;cases x<;>simp[Builtin.append_,j,i,z.bc,Builtin.lenOf,t,A,storeCells]
def vV(w:dS P o e)(ae:e.desc=.slice W)(aw:dS P I ce)(av:ce.desc=.slice W)(L:dS P W a5)(ak:bc n b){r}{cap}{aj D}{g:Nat->p N}{l}(x:Rd b.u (.slice r k cap) (.S aj a5.size k T))(C:Rd b.u l (.S D a5.size A g))(ah:cap<k+A)(F:(k+A)*a5.bytes<=140737488355328)(z:a5.bytes≠0):
  ∃B j d,e2 b.u a5.size (k+A) (cg k T g) B/\k+A<=d/\d<=9223372036854775807/\c (B++j)=d*a5.size /\
   (Builtin.append_ #[o,I] ty #[.slice r k cap,l]).run P b.a=.ok (.slice (h ⟨b.a.heap.size,0,q⟩) (k+A) d) (b.a.drew.alloc (.cells (B++j).toArray W)):=by
 have Z:bc n {b with a:=b.a.drew}:=ak.same rfl;obtain⟨t,K,u,ar⟩:=oN (P:=P) Z (ab:=l) C;obtain⟨s,X,v,V⟩:=oN (P:=P) Z (ab:=.slice r k cap) x;have R:=w.run_underlying (Q:=b.a);have S:=aw.run_underlying (Q:=b.a);rw[ae]at R;rw[av]at S;obtain⟨Y,E,J,ax,az,ai,ag,aA,aB⟩:=L.de;have U:=fM (uA _ (Nat.pos_of_ne_zero z)) F;have H:E.cells.size=a5.size:=by have:=eM List.length ag;grind
 refine⟨s++t,(Builtin.zeroCells E.cells (grownCap b.a (k+A) cap W-(k+A))).toList,grownCap b.a (k+A) cap W,X.append K,grownCap_ge _ _ _ _,?_,?_,?_⟩
 .have:=grownCap_le_maxLen b.a (k+A) cap W (by unfold maxLen;omega);unfold maxLen at this;omega
 .have aN:=grownCap_ge b.a (k+A) cap W;simp[dk,X.len,K.len,nc,size_zeroCells,H,<-jL];grind
 .have aD:=KH ah F;have au:¬Builtin.nextslicecap (k+A) cap*Y.bytes>2 ^ 48:=M;have aq:¬k+A<=cap:=y;have O:¬((k+A:Nat):Int)>IntKind.i64.max:=bw;have G:∀i,(typeInfo W).run P i=.ok Y i:=λi=>by simp[typeInfo,J]
  have ad:∀i,(zeroValue W).run P i=.ok E i:=λi=>by simp[zeroValue,typeInfo,J,ai]
  have ao:(Builtin.lenOf l).run P b.a=.ok A b.a:=by rw[ar];rfl
  replace u:(Builtin.firstCells a5.size A l).run P b.a.drew=.ok t.toArray b.a.drew:=u;replace v:(Builtin.firstCells a5.size k (.slice r k cap)).run P b.a.drew=.ok s.toArray b.a.drew:=v
  unfold Builtin.append_;simp only[kf,mr,n8,cK,R,S,c7,L.bc,d9,kg,dn,ao,aq,
   O,false_and,G,au,run_choose,Question.forced,run_askRoom,sF,World.drew_eq,v,u,is,dJ,ad]
  simp[Go.newRow,grownCap];have an:∀a:Array aa,(s++t).toArray++a=(s++(t++a.toList)).toArray:=λa=>by grind
  rw[an];rfl
def D7(g:dS P o e)(F:e.desc=.slice W)(E:dS P I ce)(D:ce.desc=.slice W)(J:dS P W a5)(y:bc n b){cap}{w}{s}(K:b.a.heap[j]?=h (.cells s.toArray w (0,0)))(C:c s=cap*a5.size){r}{a:Nat->p N}{l}(z:Rd b.u l (.S r a5.size A a))(v:k+A<=cap):
  ∃d,e2 b.u a5.size A a d/\(Builtin.append_ #[o,I] ty #[.slice (h ⟨j,0,q⟩) k cap,l]).run P b.a=.ok (.slice (h ⟨j,0,q⟩) (k+A) cap) (b.a.setRow j (s.take (k*a5.size)++d++s.drop (k*a5.size+c d)).toArray):=by
 obtain⟨d,i,O,R⟩:=oN (P:=P) y z;have x:=g.run_underlying (Q:=b.a);have t:=E.run_underlying (Q:=b.a);rw[F]at x;rw[D]at t;have S:k*a5.size+c d<=c s:=by rw[i.len,C,<-jL];exact g5 _ v
 have u:=run_storeCells_at P j (k*a5.size) w d 0 s.toArray b.a K M i.cell;simp[ki]at u;have B:(Builtin.lenOf l).run P b.a=.ok A b.a:=dD;refine⟨d,i,?_⟩;unfold Builtin.append_;simp[kf,mr,n8,cK,x,t,c7,J.bc,d9,kg,dn,B,v,dJ,is,O,gY,cZ,u]
end
def Dq{d:Sem α}{b}{T}{a}(e:a∈d.events P b T):a∈T∨a∈d.events P b #[]:=by grind[Sem.events_acc]
def LI(e:a6)(d:aT):Prop:=∃a b g,d=pB a b/\e.u a b=h g
def s0(I:bc n b){o}{i}(x:Rd b.u ab (.S o i k T)){Q}(E:Q.heap=b.a.heap):
  ∀u∈(Builtin.firstCells i k ab).events P Q #[],LI b u:=by
 obtain⟨C,w,B,rfl,S,R,M,A,F⟩:=x.b1;have N:=A.len;intro u j;cases C with
 |none=>simp[Builtin.firstCells]at j
 |some s=>
  simp[Builtin.firstCells]at j;have t:∀e,e<k*i->∃g d l,s=⟨g,d,q⟩/\b.u g (d+e)=h l:=by intro e p;obtain⟨g,d,z,r⟩:=F e (B[e]'y) (bK y);grind
  by_cases J:k*i=0
  .rw[J]at j;simp[loadCells,loadCellsFrom]at j
  obtain⟨g,d,_,rfl,_⟩:=t 0 y;have O:∀e,e<k*i->∃ab,Q.cell? ⟨g,d+e,q⟩=h ab:=by intro e p;obtain⟨K,D,l,v,r⟩:=t e p;cases v;have:=I.mem _ _ _ r;exact⟨l,by simp[aL,E]at this⊢;omega⟩
  rcases IT (P:=P) O u j with x|⟨e,p,rfl⟩
  .grind
  obtain⟨K,D,l,v,r⟩:=t e p;cases v;exact⟨_,_,l,a,r⟩
theorem tB{a}(e:LI b a):h8 b a:=by obtain⟨g,i,j,rfl,d⟩:=e;exact Iu d
section
variable {I:av}{e ce a5:bx}
def x1(g:dS P o e)(D:e.desc=.slice W)(z:dS P I ce)(y:ce.desc=.slice W)(E:dS P W a5)(t:bc n b){r}{cap}(w:k<=cap){l}{j}{d:Nat->p N}(i:Rd b.u l (.S j a5.size 0 d)):
  dx b ((Builtin.append_ #[o,I] ty #[.slice r k cap,l]).events P b.a #[]):=by obtain⟨M,K,F,R⟩:=oN (P:=P) t i;have C:=s0 (P:=P) t i (Q:=b.a) a;have u:=g.run_underlying (Q:=b.a);have s:=z.run_underlying (Q:=b.a);rw[D]at u;rw[y]at s;obtain⟨v,O,B,rfl,_⟩:=i.b1;have A:=jI (by simpa using K.len);subst A;intro x J;refine tB (C x ?_);cases r<;>simpa[Builtin.append_,u,s,E.bc,Builtin.lenOf,w,F,storeCells]using J
def u_(x:dS P o e)(aj:e.desc=.slice W)(G:dS P I ce)(z:ce.desc=.slice W)(K:dS P W a5)(u:bc n b){j}{cap}{B C}{s:Nat->p N}{l}(U:Rd b.u (.slice j k cap) (.S B a5.size k T))(S:Rd b.u l (.S C a5.size A s))(ak:cap<k+A)(J:(k+A)*a5.bytes<=140737488355328)(ah:a5.bytes≠0):
  dx b ((Builtin.append_ #[o,I] ty #[.slice j k cap,l]).events P b.a #[]):=by
 have F:bc n {b with a:=b.a.drew}:=u.same rfl;obtain⟨az,aq,t,V⟩:=oN (P:=P) F (ab:=l) S;obtain⟨av,X,v,aa⟩:=oN (P:=P) F (ab:=.slice j k cap) U;have Y:=s0 (P:=P) u S (Q:=b.a.drew) a;have aI:=s0 (P:=P) u U (Q:=b.a.drew) a;have R:=x.run_underlying (Q:=b.a);have ae:=G.run_underlying (Q:=b.a);rw[aj]at R;rw[z]at ae;obtain⟨w,aA,aN,aB,aD,E,aE,aF,aH⟩:=K.de;have Z:=fM (uA _ (Nat.pos_of_ne_zero ah)) J;have ad:=KH ak J;have O:¬Builtin.nextslicecap (k+A) cap*w.bytes>2 ^ 48:=M;have aw:¬k+A<=cap:=y;have H:¬((k+A:Nat):Int)>IntKind.i64.max:=bw;have ai:∀g,(typeInfo W).run P g=.ok w g:=λg=>by simp[typeInfo,aN]
 have L:∀g,(zeroValue W).run P g=.ok aA g:=λg=>by simp[zeroValue,typeInfo,aN,E]
 have an:(Builtin.lenOf l).run P b.a=.ok A b.a:=by rw[V];rfl
 have ar:(Builtin.lenOf l).events P b.a #[]=#[]:=by rw[V];rfl
 replace t:(Builtin.firstCells a5.size A l).run P b.a.drew=.ok az.toArray b.a.drew:=t;replace v:(Builtin.firstCells a5.size k (.slice j k cap)).run P b.a.drew=.ok av.toArray b.a.drew:=v
 intro r i;unfold Builtin.append_ at i;simp only[kf,mr,n8,aG,cK,R,ae,c7,aJ,K.bc,d9,kg,dn,an,ar,aw,
  H,false_and,ai,O,run_choose,Question.forced,run_askRoom,sF,Sem.events_ite,World.drew_eq,v,t,is,dJ,L,events_underlying,events_sizeOf,events_typeInfo,events_choose,events_zeroValue,Sem.events_pure]at i
 have ag:∀(l:Nat) (Q:au) (r:aT),r∈(askRoom l).events P Q #[]->r=⟨.mark .noRoom,m,f⟩:=by intro l Q r ao;unfold askRoom at ao;simp_all
 rw[dE.newRow (P:=P)]at i;generalize(Go.newRow W _).run P b.a.drew=ax at i;have d:r∈(Builtin.firstCells a5.size A l).events P b.a.drew ((Builtin.firstCells a5.size k (.slice j k cap)).events P b.a.drew ((askRoom ((Question.appendCap (k+A) cap W).cut (b.a.tape b.a.drawn (Question.appendCap (k+A) cap W))*w.bytes)).events P b.a.drew #[])):=by
  cases ax with
  |ok ab D=>simpa using i
  |halt ab D=>simpa using i
 rcases Dq d with d|d
 .rcases Dq d with d|d
  .rw[ag _ _ _ d];exact .inl a
  grind[tB]
 grind[tB]
def Cj(i:dS P o e)(y:e.desc=.slice W)(K:dS P I ce)(J:ce.desc=.slice W)(B:dS P W a5)(G:bc n b){cap}{O}{d}(z:b.a.heap[j]?=h (.cells d.toArray O (0,0)))(F:c d=cap*a5.size){sa}{dM:Nat->p N}{l}(t:Rd b.u l (.S sa a5.size A dM))(x:k+A<=cap){L}(Y:L∈b.m)(U:j∈L.al)(ab:∀w,k*a5.size<=w->b.u j w=q):
  dx b ((Builtin.append_ #[o,I] ty #[.slice (h ⟨j,0,q⟩) k cap,l]).events P b.a #[]):=by
 obtain⟨g,r,aN,R⟩:=oN (P:=P) G t;have T:=s0 (P:=P) G t (Q:=b.a) a;have H:=i.run_underlying (Q:=b.a);have u:=K.run_underlying (Q:=b.a);rw[y]at H;rw[J]at u;have S:k*a5.size+c g<=c d:=by rw[r.len,F,<-jL];exact g5 _ x
 have v:=run_storeCells_at P j (k*a5.size) O g 0 d.toArray b.a z M r.cell;simp[ki]at v;have D:(Builtin.lenOf l).run P b.a=.ok A b.a:=dD;have E:(Builtin.lenOf l).events P b.a #[]=#[]:=dD
 intro C s;unfold Builtin.append_ at s;simp[kf,mr,n8,aG,cK,H,u,aJ,B.bc,d9,kg,dn,D,E,x,dJ,is,aN,gY,cZ,v,
  sF,Sem.events_ite,events_underlying,events_sizeOf,Sem.events_pure]at s
 rcases nm g 0 d.toArray b.a _ z M r.cell C s with Z|⟨aa,X,V,rfl⟩
 .grind [tB]
 grind[om]
end
structure j9(P:aI)(t:ap)(l X:aA)(W:av)(a5:bx):Prop where
 op:∃o I e ce,t.op=.call {callee:=.builtin .append,args:=#[l,X],argTypes:=#[o,I]}/\dS P o e/\e.desc=.slice W/\dS P I ce/\ce.desc=.slice W
 elem:dS P W a5
 bytes:a5.bytes≠0
 size:a5.size≠0
def a6.dE(a:a6)(i:av)(B b:p aa)(d:p Loc):a6:=
 {m:=d,u:=λe g=>if e=a.a.heap.size then B[g]? else a.u e g,a:=a.a.drew.alloc (.cells (B++b).toArray i),own:=a.own}
def JK(k:bc n b)(W)(B a:p aa):∀d e i,(if d=b.a.heap.size then B[e]? else b.u d e)=h i->(b.a.drew.alloc (.cells (B++a).toArray W)).cell? ⟨d,e,q⟩=h i:=by
 intro d e i g;by_cases j:d=b.a.heap.size
 .subst j;simp[dJ]at g;unfold aL;have:(b.a.drew.alloc (.cells (B++a).toArray W)).heap[b.a.heap.size]?=h (.cells (B++a).toArray W):=lZ b.a.drew _;grind
 simp[j,dn]at g;have l:=k.block g;rw[<-k.mem d e i g];unfold aL;have:(b.a.drew.alloc (.cells (B++a).toArray W)).heap[d]?=b.a.heap[d]?:=iV b.a.drew _ l;grind
def JL(i:bc n b)(B:p aa):∀a d e,b.u a d=h e->(if a=b.a.heap.size then B[d]? else b.u a d)=h e:=by intro a d e g;have:=i.block g;grind
theorem jq{A}(a:dx b (A.events P b.a #[])):dx b ((do pure (.value (<-A)):Sem Next).events P b.a #[]):=dD
theorem li{I}(u:t.op=.call {callee:=.builtin .append,args:=#[l,X],argTypes:=#[o,I]})(a:aA->aa):
  ac a t=(do pure (.value (<-Builtin.append_ #[o,I] t.type #[a l,a X]))):=Rt
def Rd.eg{o}{i}(r:Rd bE ab (.S o i k T)):Rd bE ab (.S m i k T):=by
 cases r with
 |S n a p l d s e b g j=>exact .S n a p l d E e b g j
def Rd.cD{o}{i}{dM:Nat->p N}(z:∀b,b<k->T b=dM b)(x:Rd bE ab (.S o i k T)):Rd bE ab (.S o i k dM):=by
 cases x with
 |S v d w u j s y g n r=>exact .S v d w u j s (λb a=>by grind) g (λb a t e l=>n b a t e M) (λb a t e l=>r b a t e M)
def Rd.fV{i gj}(a:i=gj∨k=0)(d:Rd bE ab (.S f i k T)):Rd bE ab (.S f gj k T):=by
 rcases a with rfl|rfl
 .exact d
 obtain⟨e,b,B,j,l,g,n,_⟩:=d.b1;grind[Rd.dL]
def tA{i}{L}(aE:n[d]?=h (.r W i k T))(o:b.m[d]?=h L)(e:ew n b (.r W i k T) L):cA n b L.v (.r d i k T):=by refine⟨e.1,(cQ.1 aE).1,λp j l a g=>?_⟩;grind
def a1.ga{e:bx}(u:j9 P t l X W e){aa:Nat}{Y:Bool}{dM:Nat->p N}(an:η l=ax (.S f aa k T))(S:aa=e.size∨k=0)(ak:∀d K,bz n d K (η X)->Rd d.u K (.S Y e.size A dM))(g:(k+A)*e.bytes<=140737488355328)(aq:k=0∨0<A):
  a1 P t η n (.q (.aq (.r (c n) e.size (k+A) (cg k T dM)))) (n++[.r W e.size (k+A) (cg k T dM)]):=by
 intro d av bQ F;obtain⟨aB,az,ar,au,v,i,G,J,I⟩:=u.op;have C:=F l;rw[an]at C;have r:=Rd.fV S (b8 C);have o:=ak d _ (F X);obtain⟨x,b,B,ao,ab,aN,ah,aw,D⟩:=r.b1;have H:b=k:=ah a;subst H;rw[li v];rw[ao]at r⊢;by_cases ai:A=0
 .subst ai;have V:=y8 (P:=P) (ty:=t.type) i G J I u.elem bQ (x:=x) ab o;simp only[ki];have r:=Rd.cD (dM:=cg b T dM) (λar i=>by grind) r;have aE:ew (n++[.r W e.size b (cg b T dM)]) {d with m:=d.m++[⟨.slice x b b,[]⟩]} (.r W e.size b (cg b T dM)) ⟨.slice x b b,[]⟩:=⟨r.eg,.inl ⟨⟨rfl,by omega⟩,r⟩⟩
  obtain⟨R,Q⟩:=bQ.b0 (.refl _ _) rfl bQ aE E;refine⟨.value (.slice x b b),_,?_,?_,R,Q,jq (x1 i G J I u.elem bQ ab o)⟩
  .simp[V]
  exact tA E ue aE
 have Z:b<b+A:=y;obtain⟨s,O,w,z,ae,L,ad,V⟩:=vV (P:=P) (ty:=t.type) i G J I u.elem bQ r o Z g u.bytes;have M:bc n (d.dE W s O d.m)/\cP n d n (d.dE W s O d.m):=
  bQ.c1 E (λj g=>iV d.a.drew _ g) (λj g t=>by grind)
   (λj g t K D=>JK bQ W s O j t K D) a a a
 have ag:Rd (d.dE W s O d.m).u (.slice (h ⟨d.a.heap.size,0,q⟩) (b+A) w) (.S m e.size (b+A) (cg b T dM)):=
  Rd.eJ (z.mono M.2.mem) (j:=d.a.heap.size) (off:=0) bp ae L E (λaA aD aj=>by simpa[a6.dE]using aj)
 have aE:ew (n++[.r W e.size (b+A) (cg b T dM)]) {(d.dE W s O d.m)with m:=(d.dE W s O d.m).m++[⟨.slice (h ⟨d.a.heap.size,0,q⟩) (b+A) w,[d.a.heap.size]⟩]} (.r W e.size (b+A) (cg b T dM)) ⟨.slice (h ⟨d.a.heap.size,0,q⟩) (b+A) w,[d.a.heap.size]⟩:=by
  refine⟨ag,.inr ⟨d.a.heap.size,w,s++O,a,lZ d.a.drew _,ad,λt v=>?_⟩⟩;have U:c s<=t:=by rw[z.len];exact v
  simp[a6.dE,wV U]
 obtain⟨R,Q⟩:=M.1.b0 M.2 rfl bQ aE (λj g=>by simp at g;subst g;refine⟨bB _,?_⟩;simp[a6.dE]);refine⟨.value (.slice (h ⟨d.a.heap.size,0,q⟩) (b+A) w),_,?_,?_,R,Q,jq (u_ i G J I u.elem bQ r o Z g u.bytes)⟩
 .simp[V];rfl
 exact tA E (by simp[a6.dE,<-bQ.len]) aE
def a1.ir{a5}(C:j9 P t l X W a5){aS}{g:Nat->p N}(aQ:η l=.q (.aq (.r d a5.size k T)))(u:n[d]?=h (.r W a5.size k T))(aR:∀o U,bz n o U (η X)->Rd o.u U (.S aS a5.size A g))(r:(k+A)*a5.bytes<=140737488355328):
  a1 P t η n (.q (.aq (.r d a5.size (k+A) (cg k T g)))) (n.set d (.r W a5.size (k+A) (cg k T g))):=by
 intro o bf b aq;obtain⟨bh,bg,ar,bd,w,s,ab,G,z⟩:=C.op;have aM:d<c n:=(cQ.1 u).1;have ae:=aq l;rw[aQ]at ae;obtain⟨aw,_,ag⟩:=ae;obtain⟨L,K,bc⟩:=(ag _ _ _ _ u).2 rfl;have v:=aR o _ (aq X);have aK:d<c o.m:=(cQ.1 K).1;have H:=b.box d _ L u K;obtain⟨x,e,B,S,aN,aj,bb,ah,ba⟩:=aw.b1;rw[li w,S];rw[S]at aw;have ax:L.v=.slice x k e:=M;by_cases aH:A=0
 .subst aH;have av:=y8 (P:=P) (ty:=t.type) s ab G z C.elem b (x:=x) aN v;simp only[ki];have ai:∀ar,ar<k->T ar=cg k T g ar:=λar s=>by simp[cg,s]
  have R:ew (n.set d (.r W a5.size k (cg k T g))) ⟨o.m.set d L,o.u,o.a,o.own⟩ (.r W a5.size k (cg k T g)) L:=by
   refine⟨H.1.cD ai,?_⟩;rcases H.2 with⟨J,aI⟩|J
   .exact .inl ⟨J,aI.cD ai⟩
   grind
  have I:=b.b' (cf:=o.u) (bi:=o.a) (ec:=.r W a5.size k (cg k T g)) (cr:=L) u K ⟨λ_=>rfl,bB _⟩ (bB _) (λ_ _ _=>rfl) (λ_ _ _ _=>rfl) (λ_ _ _ C=>C) b.mem
   (λj r=>⟨.inl r,b.lt L (b_ K) j r⟩) a a a R
  refine⟨.value (.slice x k e),_,?_,?_,I.1,I.2,jq (x1 s ab G z C.elem b aN v)⟩
  .simp[av]
  rw[<-ax];exact tA (W:=W) M M R
 .have F:¬(k+A=k):=y;by_cases aA:k+A<=e
  .rcases H.2 with⟨aX,aT⟩|⟨j,aG,i,rfl,hw,aE,br⟩
   .rw[ax]at aT;obtain⟨_,_,_,az,_,_,a7,_⟩:=aT.b1;grind
   .simp only at ax;cases ax;obtain⟨D,Q,av⟩:=D7 (P:=P) (ty:=t.type) s ab G z C.elem b hw aE v aA;have a4:c D=A*a5.size:=Q.len;have aJ:j<o.a.heap.size:=(jh.1 hw).1;let cf:Mem:=λO t=>if O=j/\k*a5.size<=t/\t<(k+A)*a5.size then D[t-k*a5.size]? else o.u O t;have a0:c i=e*a5.size:=aE;have a6:(k+A)*a5.size=k*a5.size+A*a5.size:=jL _ _ _;have a3:(k+A)*a5.size<=e*a5.size:=g5 _ aA;have aV:∀O t U,o.u O t=h U->cf O t=h U:=M;have aP:∀aB aD,D[aB]?=h aD->cf j (k*a5.size+aB)=h aD:=M;have aF:Rd cf (.slice (h ⟨j,0,q⟩) (k+A) e) (.S m a5.size (k+A) (cg k T g)):=by refine Rd.eJ (B:=B++D) ((ah.append Q).mono aV) (j:=j) (off:=0) bp aA aj E (λaB aD aO=>?_);have a8:c B=k*a5.size:=ah.len;grind
    have I:=b.b' (cf:=cf) (bi:=o.a.setRow j (i.take (k*a5.size)++D++i.drop (k*a5.size+c D)).toArray) (ec:=.r W a5.size (k+A) (cg k T g)) (cr:=⟨.slice (h ⟨j,0,q⟩) (k+A) e,[j]⟩) u K
     ⟨λaz=>absurd az F,by omega⟩ E (λO _ ad=>setRow_other _ _ _ _ M) (λO _ ad t=>by grind) aV ?_ (λO ad=>by simp at ad;exact bw) a a a ?_
    .refine⟨.value (.slice (h ⟨j,0,q⟩) (k+A) e),_,?_,?_,I.1,I.2,jq (Cj s ab G z C.elem b hw aE v aA (b_ K) E br)⟩
     .simp[av]
     exact tA (L:=⟨.slice (h ⟨j,0,q⟩) (k+A) e,[j]⟩) (W:=W) M M (I.1.box d _ _ M M)
    .intro O t U aa;by_cases ad:O=j
     .subst ad;have a_:∀a9,(o.a.setRow O (i.take (k*a5.size)++D++i.drop (k*a5.size+c D)).toArray).cell? ⟨O,a9,q⟩=(i.take (k*a5.size)++D++i.drop (k*a5.size+c D))[a9]?:=by grind[cell_setRow_same]
      rw[a_];simp only[cf]at aa;have a2:c (i.take (k*a5.size))=k*a5.size:=by rw[List.length_take];omega
      split at aa
      .grind
      rename_i a';have J:=b.mem O t U aa;have w:t<k*a5.size:=M;rw[mu,kb y,iq,bs w];simp only[aL,hw]at J;grind
     simp only[cf]at aa;rw[bm y]at aa;rw[<-b.mem O t U aa];exact P5
    refine⟨aF,.inr ⟨j,e,_,a,setRow_heap _ _ _ _ _ _ hw,M,λt w=>?_⟩⟩;grind
  .have ak:e<k+A:=y;obtain⟨V,Z,au,aU,an,ao,Y,av⟩:=vV (P:=P) (ty:=t.type) s ab G z C.elem b aw v ak r C.bytes;have aW:∀j∈L.al,j<o.a.heap.size:=b.lt L (b_ K);have aF:Rd (λj t=>if j=o.a.heap.size then V[t]? else o.u j t) (.slice (h ⟨o.a.heap.size,0,q⟩) (k+A) au) (.S m a5.size (k+A) (cg k T g)):=
    Rd.eJ (aU.mono (JL b V)) (j:=o.a.heap.size) (off:=0) bp an ao E (λaB aD aO=>by grind)
   have I:=b.b' (cf:=λj t=>if j=o.a.heap.size then V[t]? else o.u j t) (bi:=o.a.drew.alloc (.cells (V++Z).toArray W)) (ec:=.r W a5.size (k+A) (cg k T g)) (cr:=⟨.slice (h ⟨o.a.heap.size,0,q⟩) (k+A) au,[o.a.heap.size]⟩) u K
    ⟨λaz=>absurd az F,by omega⟩ E (λj r _=>iV o.a.drew _ r) (λj r _ t=>by grind) (JL b V) (JK b W V Z) (λj r=>by
     simp at r;exact bw) a a a ⟨aF,.inr ⟨o.a.heap.size,au,V++Z,a,lZ o.a.drew _,Y,λt w=>by
      have u:c V<=t:=by rw[aU.len];exact w
      grind⟩⟩
   refine⟨.value (.slice (h ⟨o.a.heap.size,0,q⟩) (k+A) au),_,?_,?_,I.1,I.2,jq (u_ s ab G z C.elem b aw v ak r C.bytes)⟩
   .simp[av]
   exact tA (L:=⟨.slice (h ⟨o.a.heap.size,0,q⟩) (k+A) au,[o.a.heap.size]⟩) (W:=W) M M (I.1.box d _ _ M M)
def dz{a:Type}:p Nat->p a->Option (p a)
  |[],_=>h []
  |e::b,d=>match c' e d with
    |some i=>match dz b d with
      |some g=>h (i::g)
      |none=>q
    |none=>q
def lk{d:Type}:∀a (e:p d),c' a e=e[a]?
  |_,[]=>by simp[c']
  |0,g::_=>by simp[c']
  |a+1,_::b=>by simpa[c']using lk a b
def l9{j:Type}:∀{a:p Nat} {b e:p j},dz a b=h e->c e=c a/\∀(l g:Nat),a[l]?=h g->∃i,e[l]?=h i/\b[g]?=h i
  |[],b,e,d=>by cases d;simp
  |g::a,b,e,d=>by
    simp[dz]at d;cases n:c' g b with
    |none=>grind
    |some i=>
      cases k:dz a b with
      |none=>grind
      |some s=>
        simp[n,k]at d;subst d;obtain⟨o,r⟩:=l9 k;grind[eo]
def vZ{j n:Type}:∀{a:p Nat} {d i:p j} {kR:p n},dz a d=h i->c kR=c d->∃b,dz a kR=h b
  |[],d,i,kR,_,_=>⟨[],rfl⟩
  |g::a,d,i,kR,s,k=>by
    simp[dz]at s;cases r:c' g d with
    |none=>grind
    |some u=>
      cases o:dz a d with
      |none=>grind
      |some t=>
        obtain⟨b,l⟩:=vZ (kR:=kR) o k;have e:g<c kR:=by rw[k];exact(cQ.1 (eo r)).1
        exact⟨kR[g]::b,by simp[dz,lk,e,l]⟩
def ky(a:p Nat):O->O
  |.ptr d j=>match c' d a with|some b=>.ptr b j|none=>.any
  |.r d b g e=>match c' d a with|some i=>.r i b g e|none=>.c (.S m b g e)
  |.aR d=>match c' d a with|some b=>.aR b|none=>.any
  |.R d k=>match c' d a with|some b=>.R b k|none=>.any
  |.c l=>.c l
  |.any=>.any
def qS(a:p Nat):p O->p O
  |[]=>[]
  |b::d=>ky a b::qS a d
def pC(a:p Nat):E1->E1
  |.aq d=>.aq (ky a d)
  |.agg b=>.agg (qS a b)
def tC(a:p Nat):p E1->p E1
  |[]=>[]
  |b::d=>pC a b::tC a d
def e'(a:p Nat):z->z
  |.q d=>.q (pC a d)
  |.Q b=>.Q (tC a b)
  |.any=>.any
def gA(a:p Nat):p z->p z
  |[]=>[]
  |b::d=>e' a b::gA a d
def DO:O->Bool
  |.c _|.any=>f
  |_=>m
def y0:p O->Bool
  |[]=>f
  |a::b=>match DO a with|true=>y0 b|false=>m
def vP:an->Bool
  |.cells _ a=>y0 a
  |.loop ..=>m
  |_=>f
def eu:p an->Bool
  |[]=>f
  |a::b=>match vP a with|true=>eu b|false=>m
def vQ:∀{e:p an},eu e=f->∀a∈e,vP a=f
  |[],_,a,aE=>by grind
  |g::i,b,a,aE=>by
    simp[eu]at b;cases d:vP g with
    |false=>grind
    |true=>
      simp[d]at b;rcases e4.1 aE with rfl|aE
      · exact d
      · exact vQ b a aE
def bN.plain{n ao}{b az}(k:az.u=b.u):∀{B:p aa} {a:p O},y0 a=f->bN n b B a->bN ao az B a
  |[],[],_,_=>trivial
  |[],_::_,_,d=>d.elim
  |_::_,[],_,d=>d.elim
  |l::B,g::j,e,d=>by
    simp[y0]at e;cases i:DO g with
    |false=>grind
    |true=>
      simp[i]at e;refine⟨?_,bN.plain k e d.2⟩;cases g with
      |c o=>have:=d.1;simp[cA]at this⊢;grind
      |any=>exact d.1
      |_=>simp[DO]at i
def ew.plain{n ao}{b az}(d:az.u=b.u)(g:az.a=b.a){e}{L}(l:vP e=f)(a:ew n b e L):ew ao az e L:=by
  cases e with
  |cells k p=>
    obtain⟨o,B,j,s,r,x⟩:=a;exact⟨o,B,j,by grind,r.plain d l,λy=>by simp_all⟩
  |r k t u i=>simp[ew,d,g]at a⊢;exact a
  |J H=>simp[ew,d,g]at a⊢;exact a
  |x=>trivial
  |loop w v z=>simp[vP]at l
  |bo=>simp[ew,d,g]at a⊢;exact a
  |h k t u i=>simp[ew,d,g]at a⊢;exact a
def eg:Nat->p Nat->Bool
  |_,[]=>m
  |a,d::b=>match af a d with|true=>f|false=>eg a b
def e_:p Nat->Bool
  |[]=>f
  |b::a=>match eg b a with|true=>m|false=>e_ a
theorem vA:∀{a:Nat} {d:p Nat},a∈d->eg a d=f
  |a,[],b=>by grind
  |a,e::i,b=>by
    simp[eg];cases g:af a e with
    |true=>rfl
    |false=>
      rcases e4.1 b with rfl|b
      · grind[Nat.beq_refl]
      · exact vA b
def KM:∀{i:p Nat},e_ i=f->∀(b d e:Nat),i[b]?=h e->i[d]?=h e->b=d
  |[],_,b,d,e,a,_=>by grind
  |n::l,g,b,d,e,a,j=>by
    simp[e_]at g;cases o:eg n l with
    |true=>grind
    |false=>
      simp[o]at g;have s:∀k,l[k]?=h n->False:=λk r=>by have:=vA (b_ r);grind
      cases b with
      |zero=>
        grind
      |succ b=>
        cases d with
        |zero=>
          grind
        |succ d=>
          simp at a j;rw[KM g b d e a j]
def l2(a:Nat):O->Bool
  |.ptr d _|.r d _ _ _|.aR d|.R d _=>ay (d+1) a
  |_=>f
def lm(a:Nat):p O->Bool
  |[]=>f
  |b::d=>match l2 a b with|true=>lm a d|false=>m
def ps(b:Nat):E1->Bool
  |.aq d=>l2 b d
  |.agg a=>lm b a
def oy(a:Nat):p E1->Bool
  |[]=>f
  |b::d=>match ps a b with|true=>oy a d|false=>m
def hQ(b:Nat):z->Bool
  |.q d=>ps b d
  |.Q a=>oy b a
  |.any=>f
def ha(a:Nat):p z->Bool
  |[]=>f
  |b::d=>match hQ a b with|true=>ha a d|false=>m
section sub
variable {lB:p Loc}
def cA.sub(O:dz aP n=h ao)(Q:dz aP b.m=h lB){l}(I:cA n b ab (ky aP l))(o:l2 (c aP) l=f):cA ao {b with m:=lB} ab l:=by
  obtain⟨T,r⟩:=l9 O;obtain⟨N,p⟩:=l9 Q;cases l with
  |c t=>exact I
  |any=>exact I
  |ptr g R=>
    have a:g<c aP:=ff o;simp[ky,lk,bK a]at I;obtain⟨d,L,D,e,i,y⟩:=I;obtain⟨t,s,z⟩:=r g _ (bK a);obtain⟨A,k,j⟩:=p g _ (bK a);rw[j]at e;cases e;exact⟨λu x=>d u M,L,D,k,i,y⟩
  |r g E J v=>
    have a:g<c aP:=ff o;simp[ky,lk,bK a]at I;obtain⟨d,e,i⟩:=I;obtain⟨t,s,z⟩:=r g _ (bK a);obtain⟨A,k,j⟩:=p g _ (bK a);refine⟨d,by grind,λC F K B x=>?_⟩;grind
  |aR g=>
    have a:g<c aP:=ff o;simp[ky,lk,bK a]at I;obtain⟨d,L,e,i,y⟩:=I;obtain⟨t,s,z⟩:=r g _ (bK a);obtain⟨A,k,j⟩:=p g _ (bK a);rw[j]at e;cases e;exact⟨λu x=>d u M,L,k,i,y⟩
  |R g S=>
    have a:g<c aP:=ff o;simp[ky,lk,bK a]at I;obtain⟨w,d,e,i⟩:=I;obtain⟨t,s,z⟩:=r g _ (bK a);obtain⟨A,k,j⟩:=p g _ (bK a);refine⟨w,d,(cQ.1 s).1,λC E J v x=>?_⟩;grind
def cA.cU{fa}{b4}(J:b4.u=b.u)(u:∀(s:Nat) t,n[s]?=h t->∃g,aP[s]?=h g/\fa[g]?=h t)(C:∀(s:Nat) L,b.m[s]?=h L->∃g,aP[s]?=h g/\b4.m[g]?=h L)(O:c b.m=c n){v}(l:cA n b ab v):cA fa b4 ab (ky aP v):=by
  cases v with
  |c R=>simp[ky,cA,J];exact l
  |any=>exact l
  |ptr d N=>
    obtain⟨e,L,E,a,r,B⟩:=l;obtain⟨g,k1,w⟩:=C d L a;have i:d<c n:=M;obtain⟨j,o,I⟩:=u d _ (bK i);rw[k1]at o;cases o;simp[ky,lk,k1];refine⟨λt A=>?_,L,E,w,r,B⟩;grind
  |r d g K F=>
    obtain⟨e,a,r⟩:=l;obtain⟨k1,y,k⟩:=u d _ (bK a);simp[ky,lk,y];refine⟨by grind,(cQ.1 k).1,λD j z p A=>?_⟩;grind
  |aR d=>
    obtain⟨e,L,a,r,B⟩:=l;obtain⟨g,k1,w⟩:=C d L a;have i:d<c n:=M;obtain⟨j,o,I⟩:=u d _ (bK i);rw[k1]at o;cases o;simp[ky,lk,k1];refine⟨λt A=>?_,L,w,r,B⟩;grind
  |R d Q=>
    obtain⟨x,e,a,r⟩:=l;obtain⟨k1,y,k⟩:=u d _ (bK a);simp[ky,lk,y];refine⟨x,e,(cQ.1 k).1,λD j z p A=>?_⟩;grind
def bN.sub(e:dz aP n=h ao)(g:dz aP b.m=h lB):∀{B:p aa} {a:p O},bN n b B (qS aP a)->lm (c aP) a=f->bN ao {b with m:=lB} B a
  |[],[],_,_=>trivial
  |[],_::_,d,_=>d.elim
  |_::_,[],d,_=>d.elim
  |l::B,j::k,d,I=>by
    simp[lm]at I;cases i:l2 (c aP) j with
    |false=>grind
    |true=>simp[i]at I;exact⟨d.1.sub e g i,bN.sub e g d.2 I⟩
def ey.sub(e:dz aP n=h ao)(g:dz aP b.m=h lB){ab}{l}(i:ey n b ab (pC aP l))(I:ps (c aP) l=f):ey ao {b with m:=lB} ab l:=by
  cases l with
  |aq k=>exact cA.sub e g i I
  |agg j=>obtain⟨B,a,d⟩:=i;exact⟨B,a,d.sub e g I⟩
def eU.sub(e:dz aP n=h ao)(g:dz aP b.m=h lB):∀{B:p aa} {a:p E1},eU n b B (tC aP a)->oy (c aP) a=f->eU ao {b with m:=lB} B a
  |[],[],_,_=>trivial
  |[],_::_,d,_=>d.elim
  |_::_,[],d,_=>d.elim
  |l::B,j::k,d,I=>by
    simp[oy]at I;cases i:ps (c aP) j with
    |false=>grind
    |true=>simp[i]at I;exact⟨d.1.sub e g i,eU.sub e g d.2 I⟩
def bz.sub(e:dz aP n=h ao)(g:dz aP b.m=h lB){ab}{I}(j:bz n b ab (e' aP I))(i:hQ (c aP) I=f):bz ao {b with m:=lB} ab I:=by
  cases I with
  |q l=>exact ey.sub e g j i
  |Q k=>obtain⟨B,a,d⟩:=j;exact⟨B,a,d.sub e g i⟩
  |any=>trivial
def b6.sub(e:dz aP n=h ao)(g:dz aP b.m=h lB):∀{B:p aa} {a:p z},b6 n b B (gA aP a)->ha (c aP) a=f->b6 ao {b with m:=lB} B a
  |[],[],_,_=>trivial
  |[],_::_,d,_=>d.elim
  |_::_,[],d,_=>d.elim
  |l::B,j::k,d,I=>by
    simp[ha]at I;cases i:hQ (c aP) j with
    |false=>grind
    |true=>simp[i]at I;exact⟨d.1.sub e g i,b6.sub e g d.2 I⟩
variable {fa:p an}{b4:a6}
def bN.cU(o:b4.u=b.u)(l:∀(e:Nat) i,n[e]?=h i->∃g,aP[e]?=h g/\fa[g]?=h i)(k:∀(e:Nat) L,b.m[e]?=h L->∃g,aP[e]?=h g/\b4.m[g]?=h L)(j:c b.m=c n):
    ∀{B:p aa} {d:p O},bN n b B d->bN fa b4 B (qS aP d)
  |[],[],_=>trivial
  |[],_::_,a=>a.elim
  |_::_,[],a=>a.elim
  |_::_,_::_,a=>⟨a.1.cU o l k j,bN.cU o l k j a.2⟩
def ey.cU(p:b4.u=b.u)(o:∀(a:Nat) (i:an),n[a]?=h i->∃d,aP[a]?=h d/\fa[d]?=h i)(k:∀(a:Nat) (L:Loc),b.m[a]?=h L->∃d,aP[a]?=h d/\b4.m[d]?=h L)(j:c b.m=c n){ab}{l}(r:ey n b ab l):ey fa b4 ab (pC aP l):=by
  cases l with
  |aq t=>exact cA.cU p o k j r
  |agg s=>obtain⟨B,e,g⟩:=r;exact⟨B,e,g.cU p o k j⟩
def eU.cU(o:b4.u=b.u)(l:∀(d:Nat) i,n[d]?=h i->∃e,aP[d]?=h e/\fa[e]?=h i)(k:∀(d:Nat) (L:Loc),b.m[d]?=h L->∃e,aP[d]?=h e/\b4.m[e]?=h L)(j:c b.m=c n):
    ∀{B:p aa} {g:p E1},eU n b B g->eU fa b4 B (tC aP g)
  |[],[],_=>trivial
  |[],_::_,a=>a.elim
  |_::_,[],a=>a.elim
  |_::_,_::_,a=>⟨a.1.cU o l k j,eU.cU o l k j a.2⟩
def bz.cU(p:b4.u=b.u)(o:∀(a:Nat) (j:an),n[a]?=h j->∃d,aP[a]?=h d/\fa[d]?=h j)(l:∀(a:Nat) (L:Loc),b.m[a]?=h L->∃d,aP[a]?=h d/\b4.m[d]?=h L)(k:c b.m=c n){ab}{e}(r:bz n b ab e):bz fa b4 ab (e' aP e):=by
  cases e with
  |q t=>exact ey.cU p o l k r
  |Q s=>obtain⟨B,g,i⟩:=r;exact⟨B,g,i.cU p o l k⟩
  |any=>trivial
end sub
def dc.cr{a:Type}:Nat->a->p a->p a
  |_,_,[]=>[]
  |0,d,_::b=>d::b
  |e+1,d,g::b=>g::dc.cr e d b
def dc{a:Type}:p Nat->p a->p a->p a
  |[],new,old=>old++new
  |d::b,e::new,old=>dc b new (dc.cr d e old)
  |_::_,[],old=>old
theorem mV{b:Type}:∀d (a:b) (e:p b),dc.cr d a e=e.set d a
  |_,_,[]=>by simp[dc.cr]
  |0,a,_::g=>by simp[dc.cr]
  |d+1,a,i::g=>by simp[dc.cr,mV d a g]
def DT{g:Type}:∀{aP:p Nat} {new old:p g},e_ aP=f->(∀a∈aP,a<c old)->c aP<=c new ->
    c (dc aP new old)=c old+(c new-c aP)/\(∀(b a:Nat),aP[b]?=h a->(dc aP new old)[a]?=new[b]?) /\
    (∀b,(dc aP new old)[c old+b]?=new[c aP+b]?)/\(∀d,d<c old->d∉aP->(dc aP new old)[d]?=old[d]?)
  |[],new,old,_,_,_=>by
    refine⟨by simp[dc],by simp,λb=>?_,λd k _=>?_⟩
    · simp[dc,gI,cZ]
      grind
    · simp[dc,kb k]
  |a::aP,[],old,_,_,n=>by grind
  |a::aP,s::new,old,e,j,u=>by
    have t:=e;simp[e_]at e;cases l:eg a aP with
    |true=>grind
    |false=>
      simp[l]at e;have o:a<c old:=j a E;have v:a∉aP:=λn=>by grind[vA]
      obtain⟨y,w,z,x⟩:=DT (aP:=aP) (new:=new) (old:=old.set a s) e (λr i=>by grind) M;simp[dc,mV];grind
def Z(l:aj P)(j:a4)(args:p z)(i:p an)(e:z)(b:p an):Prop:=
  (∃fn,P.funcs[j]?=h fn/\(fn.name== "runtime.NumGoroutine")=m/\fn.body.isNone=m) /\
  ∀g (B:p aa),b6 i g B args->bc i g->∀(k:ak->a6->Prop) d,
    (∀n o a,mi P j n o a->bz b a o e->bc b a->dg i g b a->cd l k (G n d) a)->cd l k (G (Frame.enter P j B.toArray .normal) d) g
def bl(n:aj P)(k:a4)(args:p z)(j:p an)(e:ι->z)(b:ι->p an):Prop:=
  (∃fn,P.funcs[k]?=h fn/\(fn.name== "runtime.NumGoroutine")=m/\fn.body.isNone=m) /\
  ∀i (B:p aa),b6 j i B args->bc j i->∀(l:ak->a6->Prop) d,
    (∀g o r a,mi P k o r a->bz (b g) a r (e g)->bc (b g) a->dg j i (b g) a->cd n l (G o d) a)->cd n l (G (Frame.enter P k B.toArray .normal) d) i
def Z.tocH{g:aj P}{i}{args}{res}(j:Z g i args n res ao):bl (ι:=Unit) g i args n (λ_=>res) (λ_=>ao):=
  ⟨j.1,λl B e d k a b=>j.2 l B e d k a (b ())⟩
def bl.toZ{g:aj P}{i}{args}{res}(j:bl (ι:=Unit) g i args n (λ_=>res) (λ_=>ao)):Z g i args n res ao:=
  ⟨j.1,λl B e d k a b=>j.2 l B e d k a (λ_=>b)⟩
def oK(b:a6)(d:p Loc):Nat->Prop:=λa=>b.own a∨((∃L∈b.m,a∈L.al)/\∀L∈d,a∉L.al)
def gS(a:Nat):Nat->p Nat
  |0=>[]
  |b+1=>a::gS (a+1) b
def Na:∀d b a,(gS b d)[a]?=if a<d then h (b+a)else q
  |0,b,a=>by simp[gS]
  |d+1,b,0=>by simp[gS]
  |d+1,b,a+1=>by simp[gS,n8,Na d (b+1) a,Nat.add_lt_add_iff_right];grind
def frame{aM}{k}{A}(v:bc n b)(P:dz aP n=h dh)(aX:dz aP b.m=h A)(Z:e_ aP=f)(aB:eu aM=f)(E:bc aM k)(j:dg dh {b with m:=A,own:=oK b A} aM k)(X:c aP<=c aM){res}(aD:bz aM k ab res):
    ∃b4:a6,b4.a=k.a/\bz (dc aP aM n) b4 ab (e' (aP++gS (c n) (c aM-c aP)) res)/\bc (dc aP aM n) b4/\dg n b (dc aP aM n) b4/\b4.u=k.u/\b4.own=b.own/\∀L∈b4.m,L∈k.m∨(L∈b.m/\∀i∈L.al,∀p∈A,i∉p.al):=by
  have aS:∀z∈aP,z<c n:=by intro z x;obtain⟨d,u,rfl⟩:=hl x;obtain⟨aG,_,a1⟩:=(l9 P).2 d _ (bK u);grind
  have N:∀z∈aP,z<c b.m:=by rw[v.len];omega
  have H:c aP<=c k.m:=by rw[E.len];omega
  obtain⟨an,ao,S,aq⟩:=DT (new:=aM) (old:=n) Z aS X;obtain⟨T,ar,U,au⟩:=DT (new:=k.m) (old:=b.m) Z N H;obtain⟨a0,av⟩:=l9 P;obtain⟨d1,d2⟩:=l9 aX;let aj:=aP++gS (c n) (c aM-c aP);have aT:∀d,d<c aM->∃z,aj[d]?=h z/\(dc aP aM n)[z]?=aM[d]?/\(dc aP k.m b.m)[z]?=k.m[d]?:=by
    intro d u;rcases dZ d (c aP) with K|ai
    · refine⟨aP[d],?_,ao d _ (bK K),ar d _ (bK K)⟩
      grind
    · refine⟨c n+(d-c aP),?_,?_,?_⟩
      · simp[aj]
        rw[hn ai,Na,bs y]
      · rw[S];grind
      · rw[<-v.len,U];grind
  have I:∀g L,(dc aP k.m b.m)[g]?=h L->(∃d,d<c aM/\k.m[d]?=h L/\(∀w,(dc aP aM n)[g]?=h w->aM[d]?=h w)/\(∀z,aP[d]?=h z->z=g)/\(d≥c aP->g=c n+(d-c aP))) ∨
      (g<c n/\g∉aP/\b.m[g]?=h L/\(dc aP aM n)[g]?=n[g]?):=by
    intro g L l;have aU:g<c (dc aP k.m b.m):=(cQ.1 l).1;rcases dZ g (c n) with K|ai
    · by_cases C:g∈aP
      · obtain⟨d,u,rfl⟩:=hl C
        have x:=bK u;grind
      · exact .inr ⟨K,C,by rw[<-au g (by rw[v.len];omega) C];exact l,aq g K C⟩
    · rw[T,E.len,v.len]at aU
      refine .inl ⟨c aP+(g-c n),by omega,?_,λw aE=>?_,λz x=>?_,λ_=>by omega⟩
      · rw[<-U,v.len,AO ai];exact l
      · rw[<-S,AO ai];exact aE
      grind
  have O:∀L∈A,L∈b.m:=by intro L l;obtain⟨d,u,rfl⟩:=hl l;have ae:d<c aP:=M;obtain⟨aG,aN,R⟩:=d2 d _ (bK ae);grind
  have t:∀g L,g∉aP->b.m[g]?=h L->∀i∈L.al,i<b.a.heap.size/\∀p∈A,i∉p.al:=by intro g L F l i o;refine⟨v.lt L (b_ l) i o,λp r s=>?_⟩;obtain⟨d,u,rfl⟩:=hl r;have ae:d<c aP:=M;obtain⟨aG,aN,R⟩:=d2 d _ (bK ae);rw[bK u]at aN;cases aN;have:=v.a3 g aP[d] L _ l R i o s;grind
  have aa:∀i,i<b.a.heap.size->(∀L∈b.m,i∉L.al)->∀L∈A,i∉L.al:=λi _ ah L l=>ah L (O L l);have V:fm n b (dc aP aM n) ⟨dc aP k.m b.m,k.u,k.a,b.own⟩:=by
    refine⟨j.mem,λg w L aE l=>?_⟩;have K:g<c n:=(cQ.1 aE).1;by_cases C:g∈aP
    · obtain⟨d,u,rfl⟩:=hl C
      have x:=bK u;obtain⟨aG,aN,R⟩:=av d _ x;obtain⟨a9,aH,ad⟩:=d2 d _ x;rw[aE]at R;cases R;rw[l]at ad;cases ad;obtain⟨aR,p,a4,a5,a7⟩:=j.box d w L aN aH;grind
    · exact⟨w,L,by grind,by grind,.refl _ _⟩
  refine⟨⟨dc aP k.m b.m,k.u,k.a,b.own⟩,a,?_,⟨E.mem,?_,?_,?_,?_,?_⟩,⟨j.size,?_,j.mem,?_,?_,V.box,j.os,j.tape,j.output,a⟩,a,a,?_⟩
  · refine bz.cU (b:=k) (b4:=⟨dc aP k.m b.m,k.u,k.a,b.own⟩) (fa:=dc aP aM n) (aP:=aj) a (λd w aE=>?_) (λd L l=>?_) E.len aD
    · grind
    · obtain⟨z,k1,_,a2⟩:=aT d (by rw[<-E.len];grind)
      grind
  · simp only;rw[an,T,E.len,v.len]
  · intro g w L aE l
    rcases I g L l with⟨d,u,B,D,_⟩|⟨F,C,r,aV⟩
    · exact ew.plain (n:=aM) (b:=k) (az:=⟨dc aP k.m b.m,k.u,k.a,b.own⟩) a a (vQ aB w (b_ (D w aE))) (E.box d w L (D w aE) B)
    · rw[aV]at aE
      refine(v.box g w L aE r).cd V v.len λi o=>?_;obtain⟨ak,ag⟩:=t g L C r i o;exact⟨j.a7 i (.inr ⟨⟨L,b_ r,o⟩,ag⟩),j.bC i ak ag⟩
  · intro g J L p l r i o s
    rcases I g L l with⟨d,u,B,_,aL,aO⟩|⟨F,C,e,_⟩<;>rcases I J p r with⟨aF,ae,aI,_,aw,ax⟩|⟨aQ,Y,G,_⟩
    · have a8:=E.a3 d aF L p B aI i o s
      grind
    · obtain⟨ak,ag⟩:=t J p Y G i s
      rcases j.bU L (b_ B) i o with ah|⟨Q,W,aK⟩
      · grind
      grind
    · obtain⟨ak,ag⟩:=t g L C e i o
      rcases j.bU p (b_ aI) i s with ah|⟨Q,W,aK⟩
      · grind
      grind
    · exact v.a3 g J L p e G i o s
  · intro L l i o
    obtain⟨g,F,rfl⟩:=hl l;rcases I g _ (bK F)with⟨d,u,B,_⟩|⟨_,_,e,_⟩
    · exact E.lt _ (b_ B) i o
    · have:=v.lt _ (b_ e) i o
      have:=j.size;grind
  · intro i o
    refine⟨?_,λL l aJ=>?_⟩
    · have:=(v.own i o).1
      have:=j.size;grind
    · obtain⟨g,F,rfl⟩:=hl l
      rcases I g _ (bK F)with⟨d,u,B,_⟩|⟨_,_,e,_⟩
      · have aA:k.own i:=by rw[j.own];exact .inl o
        exact(E.own i aA).2 _ (b_ B) aJ
      · exact(v.own i o).2 _ (b_ e) aJ
  · intro i o
    exact j.a7 i (.inl o)
  · intro i o aW a3
    exact j.bC i o (aa i o aW) a3
  · intro L l i o
    obtain⟨g,F,rfl⟩:=hl l;rcases I g _ (bK F)with⟨d,u,B,_⟩|⟨_,_,e,_⟩
    · rcases j.bU _ (b_ B) i o with ah|⟨Q,W,aK⟩
      · grind
      grind
    grind
  · intro L l
    obtain⟨g,F,rfl⟩:=hl l;rcases I g _ (bK F)with⟨d,u,B,_⟩|⟨_,C,e,_⟩
    · grind
    grind
def gZ:z->Option (a4×p N)
 |.q (.aq (.c (.fn (.func b) [] a)))=>h (b,a)
 |_=>q
theorem m'{n}{b}{d:aA->aa}{a:aA->z}(e:∀i,bz n b (d i) (a i)):∀g:p aA,b6 n b (g.map d) (g.map a)
 |[]=>trivial
 |k::j=>⟨e k,m' e j⟩
def b6.append{n}{b}:∀{B e:p aa}{g a:p z},b6 n b B g->b6 n b e a->b6 n b (B++e) (g++a)
 |[],_,[],_,_,d=>d
 |[],_,_::_,_,d,_=>d.elim
 |_::_,_,[],_,d,_=>d.elim
 |_::_,_,_::_,_,d,i=>⟨d.1,b6.append d.2 i⟩
def BN:O->O
 |.r _ b d a=>.c (.S m b d a)
 |.c (.S _ b d a)=>.c (.S m b d a)
 |e=>e
def HD{d}(a:cA n b ab d):cA n b ab (BN d):=by
 cases d with
 |r j i k e=>exact a.1
 |c g=>cases g<;>first|exact a|exact Rd.eg a
 |_=>exact a
def BP:p O->p O
 |[]=>[]
 |a::b=>BN a::BP b
def HF{n}{b}:∀{B:p aa}{d:p O},bN n b B d->bN n b B (BP d)
 |[],[],_=>trivial
 |[],_::_,a=>a.elim
 |_::_,[],a=>a.elim
 |_::_,_::_,a=>⟨HD a.1,HF a.2⟩
def BO:z->z
 |.q (.aq b)=>.q (.aq (BN b))
 |.q (.agg a)=>.q (.agg (BP a))
 |d=>d
def HE{a}(d:bz n b ab a):bz n b ab (BO a):=by
 cases a with
 |q j=>cases j with
  |aq l=>exact HD d
  |agg i=>obtain⟨B,e,g⟩:=d;exact⟨B,e,HF g⟩
 |Q k=>exact d
 |any=>trivial
def la:p z->p z
 |[]=>[]
 |a::b=>BO a::la b
theorem uY{n}{b}:∀{B:p aa}{d:p z},b6 n b B d->b6 n b B (la d)
 |[],[],_=>trivial
 |[],_::_,a=>a.elim
 |_::_,[],a=>a.elim
 |_::_,_::_,a=>⟨HE a.1,uY a.2⟩
def e7:p N->p z
 |[]=>[]
 |a::b=>ax a::e7 b
theorem ql{n}{b}:∀{B:p aa}{a:p N},(∀(g:Nat)d,a[g]?=h d->∃i,B[g]?=h i/\Rd b.u i d)->c B=c a->b6 n b B (e7 a)
 |[],[],_,_=>trivial
 |[],_::_,_,e=>by grind
 |_::_,[],_,e=>by grind
 |i::B,d::a,e,o=>by obtain⟨r,j,k⟩:=e 0 d rfl;simp at j;subst j;exact⟨k,ql (λg d l=>by simpa using e (g+1) d M) M⟩
def Eb{a b:p α}(i:dz aP a=h b):∀d∈b,d∈a:=by intro d g;obtain⟨l,e⟩:=l9 i;obtain⟨j,k,rfl⟩:=hl g;obtain⟨r,n,o⟩:=e j _ (bK y);grind
def bc.sub{l}(i:bc n b)(E:dz aP n=h dh)(I:dz aP b.m=h l)(K:eu dh=f)(u:e_ aP=f):
  bc dh {b with m:=l,own:=oK b l}/\eX b {b with m:=l,own:=oK b l}:=by
 obtain⟨B,t⟩:=l9 E;obtain⟨d1,d2⟩:=l9 I;have y:∀L∈l,L∈b.m:=Eb I;refine⟨⟨i.mem,by grind,?_,?_,?_,?_⟩,⟨a,λ_ _ _ D=>D,λ_ _ _=>rfl,i.mem,?_⟩⟩
 .intro w x L aE d;have k:w<c aP:=M;obtain⟨R,A,N⟩:=t w _ (bK k);obtain⟨O,p,v⟩:=d2 w _ (bK k);rw[aE]at A;cases A;simp only at d;rw[d]at p;cases p;exact ew.plain (n:=n) (b:=b) (az:={b with m:=l,own:=oK b l}) rfl rfl (vQ K x (b_ aE)) (i.box _ x L N v)
 .intro w C L s d o j g r;simp only at d o;have k:w<c aP:=M;have F:C<c aP:=M;obtain⟨O,p,v⟩:=d2 w _ (bK k);obtain⟨Q,z,J⟩:=d2 C _ (bK F);rw[d]at p;cases p;rw[o]at z;cases z;have:=i.a3 _ _ L s v J j g r;exact KM u w C aP[w] (bK k) M
 .intro L d j g;exact i.lt _ (y L d) j g
 .rintro j (g|⟨⟨L,d,g⟩,e⟩)
  .exact⟨(i.own j g).1,λL d=>(i.own j g).2 L (y L d)⟩
  exact⟨i.lt L d j g,e⟩
 rintro j ((g|⟨⟨L,d,g⟩,_⟩)|⟨L,d,g⟩)
 .grind
 .grind
 grind
def eX.cS{aM}{s b4}{j}(v:bc n b)(k:bc aM s)(g:dg dh {b with m:=j,own:=oK b j} aM s)(t:b4.a=s.a)(o:b4.u=s.u)(w:b4.own=b.own)(r:∀L∈b4.m,L∈s.m∨(L∈b.m/\∀a∈L.al,∀i∈j,a∉i.al)):eX s b4:=by
 refine⟨t,λa l p e=>by grind,λa _ l=>by rw[o],λa l p e=>by rw[o]at e;exact k.mem a l p e,?_⟩;rintro a (d|⟨L,x,d⟩)
 .left;rw[g.own];exact .inl M
 rcases r L x with e|⟨e,u⟩
 .grind
 left;rw[g.own];exact .inr ⟨⟨L,e,d⟩,u a d⟩
def A3{v:aj P}{j:aK}{i}{x}{bt}{V}(I:j.kind≠.early)(p:aD[e]?=h t)(M:aU t (yielded aD x.tmps)=f)(T:bc n b)(aF:∀y,(ac x.eval t).run P y=.ok (.enter V B.toArray) y)(O:∀y,(ac x.eval t).events P y #[]=#[])(ae:bl v V cV dh res aM)(av:b6 n b B (gA aP cV))(aN:ha (c aP) cV=f)(w:dz aP n=h dh)(K:eu dh=f)(Z:∀d,eu (aM d)=f)(U:e_ aP=f)(aq:∀d,c aP<=c (aM d))(E:∀d u az,bz (dc aP (aM d) n) az u (e' (aP++gS (c n) (c (aM d)-c aP)) (res d))->bc (dc aP (aM d) n) az->dg n b (dc aP (aM d) n) az->cd v br (G (j.M (x.put t.dst u) (.inRegion aD bt::i)) ah) az):
  cd v br (G (j.M x (.inRegion aD (e::bt)::i)) ah) b:=by
 obtain⟨_,aA⟩:=ae;refine .next a λk ak=>?_;have C:=v.bN ak;have o:=T.rely C;obtain⟨D,Q⟩:=vZ (kR:=k.m) w o.len;obtain⟨z,an⟩:=o.sub w Q K U;have au:=av.mono C.aQ.ext T.len;have N:=(au.sub (b:=k) w Q aN).mono (n:=dh) (b:={k with m:=D}) (ao:=dh) (az:={k with m:=D,own:=oK k D}) ⟨λ_ _ _ E=>E,λaG Y L aE F=>⟨Y,L,aE,F,.refl _ _⟩⟩ z.len;refine⟨_,k,_,tJ p M I (aF k.a),?_,.aU an (aA _ B N z br _ λd ar u aw J l g r=>?_)⟩
 .refine⟨⟨n,n,o,o,.refl _ _⟩,dx.seen ?_⟩;rw[O];exact .nil
 refine uN (ah:=ah) (s:=j.M x (.inRegion aD (e::bt)::i)) g J λax R=>?_;have X:=g.rely R;have W:=r.trans R.aQ;obtain⟨S,ab,aa,ai,H,ad,ag,aB⟩:=frame o w Q U (Z d) X W (aq d) (l.mono R.aQ.ext g.len);refine .aU (eX.cS o X W ab ad ag aB) ?_;have A:=qu (j:=j) (x:=x) (i:=i) aD e bt u;rw[p]at A;simp[n6]at A;rw[A];exact E d u S aa ai (C.aQ.trans H)
def Gw{j:aj P}{k:aK}{i}{d}{bt}{aM}{o}{res}(F:k.kind≠.early)(l:aD[e]?=h t)(C:aU t (yielded aD d.tmps)=f)(E:bc n b)(u:∀g,(ac d.eval t).run P g=.ok (.enter o B.toArray) g)(s:∀g,(ac d.eval t).events P g #[]=#[])(A:Z j o cV dh res aM)(r:b6 n b B (gA aP cV))(x:ha (c aP) cV=f)(y:dz aP n=h dh)(D:eu dh=f)(v:eu aM=f)(I:e_ aP=f)(z:c aP<=c aM)(w:∀p a,bz (dc aP aM n) a p (e' (aP++gS (c n) (c aM-c aP)) res)->bc (dc aP aM n) a->dg n b (dc aP aM n) a->cd j br (G (k.M (d.put t.dst p) (.inRegion aD bt::i)) ah) a):
  cd j br (G (k.M d (.inRegion aD (e::bt)::i)) ah) b:=
 A3 F l C E u s A.tocH r x y D (λ_=>v) I (λ_=>z) (λ_=>w)
theorem mU(b:t.op=.call {callee:=.value cR,args:=ag,argTypes:=du}){d}{fn}(j:P.funcs[d]?=h fn)(o:(fn.name== "runtime.NumGoroutine")=m)(n:fn.body.isNone=m){a:Act}{ah}(k:a.eval cR=.func (.func d) #[] ah.toArray)(e):
  (ac a.eval t).run P e=.ok (.enter d (ag.toList.map a.eval++ah).toArray) e/\(ac a.eval t).events P e #[]=#[]:=by
 have l:(ag.map a.eval++ah.toArray)=(ag.toList.map a.eval++ah).toArray:=M;have i:fn.name≠ "runtime.NumGoroutine":=M;have g:fn.body≠q:=M;constructor
 .simp[ac,b,resolve,k,Deferred.ofValue,invoke,callFunc,j,i,g,l]
 simp[ac,b,resolve,k,Deferred.ofValue,invoke,callFunc,j,i,g]
def fb.eY{x:aj P}{aN:bJ->p an->Prop}(L:∀n i k,bY D n i F k->aU t (yielded all.toArray k.tmps)=f)(u:t.op=.call {callee:=.value cR,args:=ag,argTypes:=du}){Z:a4}(w:gZ (bG F cR)=h (Z,cap))(b:p Nat)(ae:bl x Z cV dh res aM)(aJ:∀i B,b6 n i B (ag.toList.map (bG F)++e7 cap)->b6 n i B (gA b cV))(ao:ha (c b) cV=f)(aq:dz b n=h dh)(au:eu dh=f)(O:∀d,eu (aM d)=f)(S:e_ b=f)(G:∀d,c b<=c (aM d))(C)(ar:t.dst=C)(aA:∀v,C=h v->v<D)(aI:∀d,fb x D all bt aN (gb C (e' (b++gS (c n) (c (aM d)-c b)) (res d)) F) (dc b (aM d) n)):fb x D all (t::bt) aN F n:=by
 subst ar;intro i k l g aB U A ax idx o a J;cases idx with
 |nil=>exact a.elim
 |cons aR idx=>
 obtain⟨K,a⟩:=a;have ah:=eN l cR;unfold gZ at w;split at w
 case h_2=>cases w
 case h_1 vc uZ he=>
  cases w;rw[he]at ah;have ab:=b8 ah;generalize Y:k.eval cR=aG at ab;cases ab with
  |fn aF e R s aE E aH I aO V=>
   have z:=jI R;subst z;have aK:b6 n i e (e7 cap):=ql (λd aD Q=>⟨E d,I d M,V d aD Q⟩) s;have aP:b6 n i (ag.toList.map k.eval++e) (gA b cV):=by exact aJ _ _ ((m' (eN l) ag.toList).append aK)
   obtain⟨fn,ai,ad,aa⟩:=ae.1;refine A3 o K (L _ _ _ l) g (λX=>(mU u ai ad aa Y X).1) (λX=>(mU u ai ad aa Y X).2) ae aP ao aq au O S G λd aS W T r j=>?_;refine aI d W _ ?_ r aB U A ax idx o a λH ak aw y aL az av N=>J H ak aw y aL az av (j.trans N);cases aQ:t.dst with
   |none=>exact l.mono j g.len
   |some v=>exact(l.mono j g.len).put (aA v aQ) T
def fb.gV{d:aj P}{aN:bJ->p an->Prop}(A:∀n k i,bY D n k F i->aU t (yielded all.toArray i.tmps)=f)(g:t.op=.call {callee:=.value cR,args:=ag,argTypes:=du}){j}(z:gZ (bG F cR)=h (j,cap))(aP)(w:bl d j cV dh res aM)(E:la (ag.toList.map (bG F)++e7 cap)=gA aP cV)(r:ha (c aP) cV=f)(s:dz aP n=h dh)(x:eu dh=f)(o:∀a,eu (aM a)=f)(e:e_ aP=f)(u:∀a,c aP<=c (aM a))(b)(y:t.dst=b)(C:∀l,b=h l->l<D)(v:∀a,fb d D all bt aN (gb b (e' (aP++gS (c n) (c (aM a)-c aP)) (res a)) F) (dc aP (aM a) n)):fb d D all (t::bt) aN F n:=
 fb.eY A g z aP w (λk B I=>by grind[uY]) r s x o e u b y C v
theorem fb.call{b:aj P}{aN:bJ->p an->Prop}(z:∀n B g,bY D n B F g->aU t (yielded all.toArray g.tmps)=f)(e:t.op=.call {callee:=.value cR,args:=ag,argTypes:=du}){i}(y:gZ (bG F cR)=h (i,cap))(aP){aM}{res}(u:Z b i cV dh res aM)(k:la (ag.toList.map (bG F)++e7 cap)=gA aP cV)(o:ha (c aP) cV=f)(r:dz aP n=h dh)(v:eu dh=f)(l:eu aM=f)(d:e_ aP=f)(s:c aP<=c aM)(a)(x:t.dst=a)(A:∀j,a=h j->j<D)(w:fb b D all bt aN (gb a (e' (aP++gS (c n) (c aM-c aP)) res) F) (dc aP aM n)):fb b D all (t::bt) aN F n:=
 fb.gV z e y aP u.tocH k o r v (λ_=>l) d (λ_=>s) a x A (λ_=>w)
def n2.range(all):n2 all (aC all.toArray.size) all:=by
 have key:∀a k,(∀w t,a[w]?=h t->all[k+w]?=h t)->n2 all (List.range' k (c a)) a:=by
  intro a;induction a with
  |nil=>intro k _;trivial
  |cons t ba x=>
   exact Qn
 grind[List.range_eq_range']
theorem b0.region{r:aj P}{aN}{id}(z:fb r D aD.toList aD.toList (λF n=>aN .normal F n) F n):b0 r D (.region id aD m) aN F n:=by intro C t y d u A j s l k;refine .ctl d a (λ_=>ze) λw b=>?_;have:=z w t (y.rely b d) (d.rely b) u A j s (aC aD.size) l (by simpa using n2.range aD.toList) λe g o i B v x p=>k .normal e g o i B v x (b.aQ.trans p);omega
def fb.nil{P:aI}{d:aj P}{D}{all}{aN:bJ->p an->Prop}{F}{n}(o:aN F n):fb d D all [] aN F n:=by
 intro v e l b s u i r idx _ g j;cases idx with
 |cons t idx=>exact g.elim
 |nil=>exact .ctl b rfl (λ_=>v3) λk a=>j F n k e o (l.rely a b) (b.rely a) a.aQ
def fb.mono{o:aj P}{aN r:bJ->p an->Prop}(z:fb o D all bt aN F n)(y:∀F n,aN F n->r F n):fb o D all bt r F n:=
 λb t x j u A e s idx i k g=>z b t x j u A e s idx i k λa ao az d B v w l=>g a ao az d (y _ _ B) v w l
def fb.le{P:aI}{j:aj P}{D}{all bt}{aN:bJ->p an->Prop}{F dI}{n}(s:fb j D all bt aN dI n)(i:iC F dI):fb j D all bt aN F n:=
 λu l r e o t a k idx d g b=>s u l (r.le i) e o t a k idx d g b
def h6:Nat->p z->bJ
 |_,[]=>[]
 |a,b::d=>(a,b)::h6 (a+1) d
def yz:∀d(a b:Nat),look (h6 a d) b=if a<=b then(d[b-a]?).getD .any else .any
 |[],a,b=>by simp[h6,look]
 |g::e,a,b=>by
  simp only[h6,look];by_cases i:a=b
  .grind [Nat.beq_refl]
  have:af a b=m:=ug;rw[this];simp[cond,yz e (a+1) b];grind
theorem b6.get{n}{b}:∀{B:p aa}{a:p z},b6 n b B a->c B=c a/\∀(w:Nat),bz n b ((B[w]?).getD K) ((a[w]?).getD .any)
 |[],[],_=>⟨rfl,λw=>by simp[bz]⟩
 |[],_::_,d=>d.elim
 |_::_,[],d=>d.elim
 |j::B,i::a,d=>by
  obtain⟨e,g⟩:=b6.get d.2;refine⟨by grind,λw=>?_⟩;cases w with
  |zero=>simpa using d.1
  |succ w=>grind
def oM(a:bJ):p ResultVar->Option (p z)
 |[]=>h []
 |.tmp e::d=>match oM a d with
  |some b=>h (look a e::b)
  |none=>q
 |.cell _ _::_=>q
def qZ:p z->Option (p E1)
 |[]=>h []
 |.q d::b=>match qZ b with
  |some a=>h (d::a)
  |none=>q
 |_::_=>q
def pt:p z->Option z
 |[d]=>h d
 |a=>match qZ a with
  |some b=>h (.Q b)
  |none=>q
def ie(d:Act):ResultVar->Sem aa
 |ResultVar.tmp b=>pure (d.tmps.getD b K)
 |ResultVar.cell a b=>do loadVar b (<-asAddr (d.tmps.getD a K))
def LN(P){D}{n}{b}{F}{g}(l:bY D n b F g):∀{e:p ResultVar}{a:p z},oM F e=h a ->
  ∃B,(∀j,(e.mapM (ie g)).run P j=Result.ok B j)/\b6 n b B a/\dE P (e.mapM (ie g))
 |[],a,d=>by cases d;exact⟨[],by simp,v,by rw[List.mapM_nil];exact .pure⟩
 |.tmp i::o,a,d=>by
  simp[oM]at d;cases k:oM F o with
  |none=>grind
  |some w=>
   simp[k]at d;subst d;obtain⟨B,s,t,u⟩:=LN P l k;refine⟨g.tmps.getD i K::B,?_,⟨l.aJ i,t⟩,?_⟩
   .intro j;simp[o_,cK,ie,d9,c7,s]
   rw[o_];exact .bind .pure λ_=>.bind u λ_=>.pure
 |.cell r i::o,a,d=>by simp[oM]at d
def MZ{n}{b}:∀{B:p aa}{e:p z}{a:p E1},qZ e=h a->b6 n b B e->eU n b B a
 |[],[],a,d,_=>by cases d;trivial
 |[],_::_,_,_,d=>d.elim
 |_::_,[],_,_,d=>d.elim
 |l::B,.q o::j,a,d,i=>by
  simp[qZ]at d;cases g:qZ j with
  |none=>grind
  |some k=>simp[g]at d;subst d;exact⟨i.1,MZ g i.2⟩
 |_::_,.Q _::_,a,d,_=>by simp[qZ]at d
 |_::_,.any::_,a,d,_=>by simp[qZ]at d
def Ka{bh}{i}(d:pt bh=h i)(e:b6 n b B bh):bz n b (if d:c B=1 then B[0]else .tuple B.toArray) i:=by
 unfold pt at d;split at d
 .rename_i C;cases d
  match B,e with
  |[p],e=>simpa using e.1
 rename_i o;cases g:qZ bh with
 |none=>grind
 |some k=>
  simp[g]at d;subst d;have l:c B≠1:=by
   intro j;rw[(b6.get e).1]at j
   match bh,j with
   |[r],_=>grind
  rw[dif_neg l];exact⟨B,a,MZ g e⟩
def o0(P:aI)(fn:Func)(l:bJ)(o:z):Prop:=∀{n:Nat}{j:p an}{d:a6}{i:Act},bY n j d l i->∃k,bz j d k o/\∀g,(∀a b e,d.u a b=h e->g.cell? ⟨a,b,q⟩=h e)->(results fn i.tmps).run P g=.ok k g/\∀r∈(results fn i.tmps).events P g #[],∃a b e,r=⟨.cell ⟨a,b,q⟩,m,m⟩/\d.u a b=h e
def LX{a}(l:bY D n b F a){fn}{bh}{g}(p:oM F fn.results.toList=h bh)(j:pt bh=h g):
  ∃i,(∀d,(results fn a.tmps).run P d=.ok i d)/\bz n b i g/\dE P (results fn a.tmps):=by
 obtain⟨B,s,k,o⟩:=LN P l p;refine⟨_,λd=>?_,Ka j k,?_⟩
 .have e:(fn.results.mapM (ie a)).run P d=Result.ok B.toArray d:=Rf;unfold results;rw[cK];refine(eM (λr=>Result.andThen r _) (Eq.trans ?_ e)).trans ?_
  .congr 2
  simp
 unfold results;have e:dE P (fn.results.mapM (ie a)):=by rw[w8];exact .map o
 exact .bind e λ_=>.pure
theorem o0.of{fn}{bh}{e}(l:oM F fn.results.toList=h bh)(d:pt bh=h e):o0 P fn F e:=by intro o p t r k;obtain⟨n,a,b,j⟩:=LX (P:=P) k l d;exact⟨n,b,λg _=>⟨a g,λs i=>by rw[j g #[]]at i;grind⟩⟩
section
def bc.d_(a:bc n b):bc (n.map λ_=>.x) b:=by
 refine⟨a.mem,by simp[a.len],λg i L aE e=>?_,a.a3,a.lt,a.own⟩;simp only[nf]at aE;cases d:n[g]? with
 |none=>grind
 |some j=>rw[d]at aE;cases aE;trivial
structure p6(nF:p Nat)(b az:a6):Prop where
 m:az.m=b.m
 u:az.u=b.u
 own:az.own=b.own
 size:b.a.heap.size<=az.a.heap.size
 a7:∀j,(b.own j∨∃(d:Nat) (L:Loc),b.m[d]?=h L/\d∉nF/\j∈L.al)->az.a.heap[j]?=b.a.heap[j]?
 mem:∀j t ab,b.u j t=h ab->az.a.cell? ⟨j,t,q⟩=h ab
 os:az.a.os=b.a.os
 tape:az.a.tape=b.a.tape
 output:az.a.output=b.a.output
def cX.kp(a:cX b az)(nF):p6 nF b az:=
 ⟨a.m,a.u,a.own,a.size,λi e=>a.a7 i (e.imp id λ⟨j,L,d,_,g⟩=>⟨L,b_ d,g⟩),a.mem,a.os,a.tape,a.output⟩
theorem p6.Z{nF}{n b4}(a:p6 [d] b n)(e:p6 nF n b4):p6 (d::nF) b b4:=by refine⟨e.m.trans a.m,e.u.trans a.u,e.own.trans a.own,fM a.size e.size,λg k=>?_,λg r s o=>e.mem g r s (by rw[a.u];exact o),e.os.trans a.os,e.tape.trans a.tape,e.output.trans a.output⟩;rw[e.a7 g,a.a7 g (k.imp id λ⟨l,L,i,j,p⟩=>⟨l,L,i,λt=>j M,p⟩)];rw[a.own,a.m];grind
def acg{d}{b}(e:d.heap[b]?=h (.deferred (h []))):
  (Instr.takeDeferred b).run P d=.ok [] {d with heap:=d.heap.setIfInBounds b (.deferred q)}/\(Instr.takeDeferred b).events P d #[]=#[⟨.obj b,m,m⟩,⟨.obj b,f,m⟩]:=by
 have g:(getObj b).run P d=.ok (.deferred (h [])) d:=by simp[getObj,Sem.run,e]
 have i:(setObj b (.deferred q)).run P d=.ok () {d with heap:=d.heap.setIfInBounds b (.deferred q)}:=by simp[setObj,Sem.run,e]
 have k:∀a,(getObj b).events P d a=a.push ⟨.obj b,m,m⟩:=λa=>by simp only[getObj,Sem.events,Sem.runT,e];rfl
 have j:∀a,(setObj b (.deferred q)).events P d a=a.push ⟨.obj b,f,m⟩:=λa=>by simp[setObj,Sem.events,Sem.runT,e];rfl
 constructor
 .simp[Instr.takeDeferred,g,i]
 simp[Instr.takeDeferred,g,k,j]
variable {r:aj P}{eR:Bool}
def acz{a}{b}{bh}{d}(g:a.mode=.returning)(e:a.defers={target:=.collected b,args:=#[]}::bh)(j:d.heap[b]?=h (.deferred (h []))):
  aq P eR (G a ah) d=.go (G {a with defers:=bh} ah) {d with heap:=d.heap.setIfInBounds b (.deferred q)} (seen P a.fn #[⟨.obj b,m,m⟩,⟨.obj b,f,m⟩]):=by obtain⟨k,i⟩:=acg (P:=P) j;simp[G,aq,unwind,g,e,k,i,GStep.after]
def rm(d:a6):p Deferred->p Nat->Prop
 |[],[]=>True
 |i::e,g::a=>(∃b:Nat,d.m[g]?=h ⟨.int .i64 b,[b]⟩/\d.a.heap[b]?=h (.deferred (h []))/\(∀j,d.u b j=q)/\i={target:=.collected b,args:=#[]})/\g∉a/\rm d e a
 |_,_=>False
def jc.gK{n}{b}(g:bc n b):∀{a:p Deferred}{d:p Nat},jc n b a d->rm b a d
 |[],[],_=>trivial
 |[],_::_,i=>i.elim
 |_::_,[],i=>i.elim
 |x::a,w::d,⟨⟨k,L,i,e,v,t⟩,u,l⟩=>by obtain⟨j,k1,o,r⟩:=g.box w _ L k e;subst k1;simp at v;have s:j=i:=y;subst s;exact⟨⟨j,e,o,r,t⟩,u,jc.gK g l⟩
def rm.mono{b az}{j}(i:p6 [j] b az):∀{d:p Deferred}{a:p Nat},j∉a->rm b d a->rm az d a
 |[],[],_,_=>trivial
 |[],_::_,_,e=>e.elim
 |_::_,[],_,e=>e.elim
 |t::d,s::a,l,⟨⟨e,g,k,u,o⟩,r,n⟩=>by simp[e4,not_or]at l;refine⟨⟨e,by rw[i.m];exact g,by rw[i.a7 e (.inr ⟨s,_,g,by grind,by simp⟩)];exact k,λv=>by rw[i.u];grind,o⟩,r,rm.mono i l.2 n⟩
def A4:∀o(g:aK)(t:a6)j,bc j t->(∀C∈j,C=.x)->g.mode=.returning->rm t g.defers o ->
  (∀s,p6 o t s->cd r br (G {g with defers:=[]} ah) s)->cd r br (G g ah) t
 |[],g,t,j,J,W,Q,x,U=>by
  have A:g.defers=[]:=by
   cases A:g.defers with
   |nil=>rfl
   |cons an D=>rw[A]at x;exact x.elim
  have:=U t ((cX.refl J).kp _);have aq:{g with defers:=[]}=g:=by cases g;simp_all
  grind
 |V::o,g,t,j,J,W,Q,x,U=>by
  cases A:g.defers with
  |nil=>rw[A]at x;exact x.elim
  |cons an D=>
   rw[A]at x;obtain⟨⟨l,K,H,aN,ai⟩,aj,ak⟩:=x;subst ai;refine .next a λk z=>?_;have i:=r.bN z;have v:=J.rely i;have N:k.m[V]?=h ⟨.int .i64 l,[l]⟩:=by rw[i.m];exact K
   have O:k.a.heap[l]?=h (.deferred (h [])):=by rw[i.a7 l (.inr ⟨_,b_ K,by simp⟩)];exact H
   have ao:∀p,k.u l p=q:=λp=>by rw[i.u];grind
   let d:a6:={k with a:={k.a with heap:=k.a.heap.setIfInBounds l (.deferred q)}}
   have F:∀b,b≠l->d.a.heap[b]?=k.a.heap[b]?:=λb e=>by grind
   have aa:∀b p B,k.u b p=h B->d.a.cell? ⟨b,p,q⟩=h B:=by intro b p B R;have ab:b≠l:=M;rw[<-v.mem b p B R];simp[aL];grind
   have ad:bc j d:=by
    refine⟨aa,v.len,λw C L aE n=>?_,v.a3,λL n b e=>?_,λb e=>⟨?_,(v.own b e).2⟩⟩
    .rw[W C (b_ aE)];trivial
    .have:=v.lt L n b e;grind
    have:=(v.own b e).1;grind
   have ae:∃L∈k.m,l∈L.al:=⟨_,b_ N,by simp⟩
   have Y:cP j k j d:=by refine⟨by grind,λb _ e=>F b ?_,λ_ _ _ S=>S,λ_ _ _ _=>rfl,λL n b e=>.inr ⟨L,n,e⟩,λ_ C L S ag=>⟨C,L,S,ag,.refl _ _⟩,rfl,rfl,rfl,rfl⟩;grind
   have I:p6 [V] t d:=by
    refine⟨i.m,i.u,i.own,fM i.size M,λb e=>?_,λb p B R=>aa b p B (by rw[i.u];exact R),i.os,i.tape,i.output⟩;have ab:b≠l:=by
     rintro rfl;rcases e with e|⟨w,u,Z,X,y⟩
     .exact(J.own b e).2 _ (b_ K) E
     exact X (by simp;exact J.a3 w V u _ Z K b y E)
    rw[F b ab];exact i.a7 b (e.imp id λ⟨w,u,Z,_,y⟩=>⟨u,b_ Z,y⟩)
   refine⟨_,d,_,acz Q A O,⟨⟨j,j,v,ad,Y⟩,dx.seen (.fl ?_ ?_)⟩,?_⟩
   .exact⟨a,.inr ae⟩
   .exact⟨a,.inr ae⟩
   refine A4 o {g with defers:=D} d j ad W Q (ak.mono I aj) λs T=>?_;exact U s (I.Z T)
end
def bu(e:Nat)(b d:Nat->p N):Prop:=∀a,a<e->b a=d a
def e2.cD{i}{dM:Nat->p N}(d:e2 bE i k T B)(g:bu k T dM):e2 bE i k dM B:=
 ⟨d.len,λb a=>by rw[<-g b a];exact d.bI b a,λb a l j e=>d.rd b a l j (by rw[g b a];exact e)⟩
def De:N->N->Option (p Prop)
 |.int k e,.int b a=>match te k b with|true=>h [e=a]|false=>q
 |.bool s,.bool i=>h [s=i]
 |.V t,.V l=>h [t=l]
 |.S r k e j,.S g b a d=>match af k b with
  |true=>match r,g with
   |false,f=>q
   |_,_=>h [e=a,bu e j d]
  |false=>match r,g with
   |true,_=>h [e=0,a=0]
   |_,_=>q
 |.val n,.val o=>h [n=o]
 |n,o=>h [n=o]
def Kg{l X}(a:De l X=h Y)(g:U Y)(e:Rd bE ab l):Rd bE ab X:=by
 unfold De at a;split at a
 .rename_i i k j d;cases b:te i j<;>simp[b]at a
  subst a;cases C' b;cases(show k=d from g);exact e
 .cases a;rename_i n p;cases(show n=p from g);exact e
 .cases a;rename_i n p;cases(show n=p from g);exact e
 .rename_i o i k T r j d dM;cases b:af i j with
  |true=>
   simp[b]at a;have u:=dp b;subst u;cases o<;>cases r<;>simp at a
   all_goals (subst a;obtain⟨rfl,t⟩:=(show k=d/\bu k T dM from g);first|exact e.cD t|exact e.eg.cD t)
  |false=>
   simp[b]at a;cases o<;>simp at a
   subst a;obtain⟨rfl,rfl⟩:=(show k=0/\d=0 from g)
   obtain⟨v,s,B,rfl,_,_,w,_⟩:=e.b1;grind[Rd.dL]
 .cases a;rename_i l X;cases(show l=X from g);exact e
 cases a;cases g;exact e
def vt:O->O->Option (p Prop)
 |.c s,.c t=>De s t
 |.r _ k j d,.c (.S m e i b)=>match af k e with|true=>h [j=i,bu j d b]|false=>q
 |.r g k j d,.r a e i b=>match af g a with
  |true=>match af k e with|true=>h [j=i,bu j d b]|false=>q
  |false=>q
 |.ptr g o,.ptr a l=>match af g a with|true=>(match af o l with|true=>h []|false=>q)|false=>q
 |.aR g,.aR a=>match af g a with|true=>h []|false=>q
 |.R g r,.R a n=>match af g a with|true=>h [r=n]|false=>q
 |_,.any=>h []
 |_,_=>q
def Ke{l X}(e:vt l X=h Y)(s:U Y)(p:cA n b ab l):cA n b ab X:=by
 unfold vt at e;split at e
 .exact Kg e s p
 .rename_i i k T g o dM;cases a:af i g<;>simp[a]at e
  subst e;have v:=dp a;subst v;obtain⟨rfl,t⟩:=(show k=o/\bu k T dM from s)
  exact p.1.cD t
 .rename_i d i k T j g o dM;cases r:af d j<;>simp[r]at e
  cases a:af i g<;>simp[a]at e
  subst e;have v:=dp a;have u:=dp r;subst v u;obtain⟨rfl,t⟩:=(show k=o/\bu k T dM from s)
  exact⟨p.1.cD t,p.2.1,p.2.2⟩
 .grind [Nat.eq_of_beq_eq_true]
 .grind [Nat.eq_of_beq_eq_true]
 .rename_i d w j bi;cases r:af d j<;>simp[r]at e
  have u:=dp r;subst u;subst e;cases(show w=bi from s);exact p
 .exact cA.cell p
 grind
def gJ:p Prop->p Prop->p Prop
 |[],a=>a
 |b::d,a=>b::gJ d a
@[simp] theorem U.Z{a b}:U (gJ a b)↔U a/\U b:=by
 induction a with
 |nil=>simp[gJ]
 |cons g e d=>simp[gJ,U.cons,d,and_assoc]
def qH:p O->p O->Option (p Prop)
 |[],[]=>h []
 |d::a,e::b=>match vt d e with
  |some g=>match qH a b with
   |some i=>h (gJ g i)
   |none=>q
  |none=>q
 |_,_=>q
def Df{n}{b}:∀{B:p aa}{e g:p O}{d:p Prop},qH e g=h d->U d->bN n b B e->bN n b B g
 |[],[],[],_,_,_,_=>trivial
 |_::_,[],_,_,_,_,a=>a.elim
 |[],_::_,_,_,_,_,a=>a.elim
 |[],[],_::_,_,a,_,_=>by simp[qH]at a
 |_::_,_::_,[],_,a,_,_=>by simp[qH]at a
 |w::B,s::i,t::j,d,a,k,r=>by
  simp[qH]at a;cases l:vt s t with
  |none=>grind
  |some u=>
   cases o:qH i j with
   |none=>grind
   |some v=>
    simp[l,o]at a;subst a;rw[U.Z]at k;exact⟨Ke l k.1 r.1,Df o k.2 r.2⟩
def vu:E1->E1->Option (p Prop)
 |.aq d,.aq e=>vt d e
 |.agg a,.agg b=>qH a b
 |_,_=>q
def Kh{l X}(a:vu l X=h Y)(d:U Y)(e:ey n b ab l):ey n b ab X:=by
 cases l<;>cases X<;>simp[vu,reduceCtorEq]at a
 .exact Ke a d e
 obtain⟨B,g,i⟩:=e;exact⟨B,g,Df a d i⟩
def rX:p E1->p E1->Option (p Prop)
 |[],[]=>h []
 |d::a,e::b=>match vu d e with
  |some g=>match rX a b with
   |some i=>h (gJ g i)
   |none=>q
  |none=>q
 |_,_=>q
def Ki{n}{b}:∀{B:p aa}{e g:p E1}{d:p Prop},rX e g=h d->U d->eU n b B e->eU n b B g
 |[],[],[],_,_,_,_=>trivial
 |_::_,[],_,_,_,_,a=>a.elim
 |[],_::_,_,_,_,_,a=>a.elim
 |[],[],_::_,_,a,_,_=>by simp[rX]at a
 |_::_,_::_,[],_,a,_,_=>by simp[rX]at a
 |w::B,s::i,t::j,d,a,k,r=>by
  simp[rX]at a;cases l:vu s t with
  |none=>grind
  |some u=>
   cases o:rX i j with
   |none=>grind
   |some v=>
    simp[l,o]at a;subst a;rw[U.Z]at k;exact⟨Kh l k.1 r.1,Ki o k.2 r.2⟩
def kt:z->z->Option (p Prop)
 |.q d,.q e=>vu d e
 |.Q a,.Q b=>rX a b
 |_,.any=>h []
 |_,_=>q
theorem pu{l X}(a:kt l X=h Y)(d:U Y)(e:bz n b ab l):bz n b ab X:=by
 cases l<;>cases X<;>simp[kt,reduceCtorEq]at a
 .exact Kh a d e
 .trivial
 .obtain⟨B,j,s⟩:=e;exact⟨B,j,Ki a d s⟩
 .trivial
 trivial
def iX(a:bJ):bJ->Option (p Prop)
 |[]=>h []
 |(d,b)::i=>match kt (look a d) b with
  |some e=>match iX a i with
   |some g=>h (gJ e g)
   |none=>q
  |none=>q
def eG{F}:∀{b:bJ}{a:p Prop},iX F b=h a->U a->iC F b
 |[],_,_,_=>λ_ _ _ _ _=>trivial
 |(i,n)::r,a,d,e=>by
  simp[iX]at d;cases o:kt (look F i) n with
  |none=>grind
  |some v=>
   cases g:iX F r with
   |none=>grind
   |some w=>
    simp[o,g]at d;subst d;rw[U.Z]at e;intro k s t j l;simp[look];cases u:af i j with
    |true=>
     grind[Nat.eq_of_beq_eq_true,pu]
    |false=>exact eG g e.2 k s t j l
def l8(a:p an):Bool:=match eu a with|true=>jW a|false=>m
def Lj(a:l8 n=f):eu n=f/\jW n=f:=by unfold l8 at a;grind
def jc.e7{n}{b}:∀{e:p Deferred}{d:p Nat},jc n b e d->∀g∈d,n[g]?=h .bo
 |[],[],_,g,a=>by grind
 |[],_::_,j,_,_=>j.elim
 |_::_,[],j,_,_=>j.elim
 |o::e,l::d,⟨⟨i,_⟩,_,k⟩,g,a=>by
  rcases e4.1 a with rfl|a
  .exact i
  exact jc.e7 k g a
def bW(fn:Func)(o:Nat)(b:z)(d:p an):fw:=λl n i=>
 (l=.ret∨l=.normal)/\∃a e k g,oM n fn.results.toList=h e/\pt e=h k/\kt k (e' a b)=h g/\U g/\hQ (c a) b=f /\
  dz a i=h d/\l8 d=f/\e_ a=f/\(∀j,j<o->a[j]?=h j)
def k9(P:aI)(fn:Func)(n:Nat)(b:z)(d:p an):fw:=λk l g=>
 (k=.ret∨k=.normal)/\∃a j e,o0 P fn l j/\kt j (e' a b)=h e/\U e/\hQ (c a) b=f /\
  dz a g=h d/\l8 d=f/\e_ a=f/\(∀i,i<n->a[i]?=h i)
def bW.toF{fn}{g}{res}{i}{aM}(o:bW fn g res ao i F aM):k9 P fn g res ao i F aM:=by obtain⟨j,d,n,l,e,a,b,k⟩:=o;exact⟨j,d,l,e,o0.of a b,k⟩
def bl.gA{ab:aj P}{S}{fn}{args}{r:ι->p an}(rP:P.funcs[S]?=h fn)(bj:(fn.name== "runtime.NumGoroutine")=m)(cW:fn.body=h s)(aM:args.length<=fn.ntmps)(U:∀b a',bY fn.ntmps n b (h6 0 args) a'->bc n b->∀j bd t (I:ak->a6->Prop),j.kind≠.early->j.roundOf=q ->
  (∀ai C k az J,(∃z,k9 P fn (c n) (res z) (r z) ai C k)->bY fn.ntmps k az C J->bc k az->dg n b k az->kO ab I j bd t ai J az)->cd ab I (G (j.M a' (.code s::bd)) t) b):bl ab S args n res r:=by
 refine⟨⟨fn,rP,bj,by grind⟩,λb B aO aI I t aF=>?_⟩;obtain⟨aL,aH⟩:=b6.get aO;let j:aK:={fn:=S,tmps:=#[],todo:=[],defers:=[],mode:=.run,kind:=.normal,roundOf:=q}
 have bu:Frame.enter P S B.toArray .normal=j.M {tmps:=B.toArray++Array.replicate (fn.ntmps-B.toArray.size) K,defers:=[]} [.code s]:=ND;rw[bu];refine U b {tmps:=B.toArray++Array.replicate (fn.ntmps-B.toArray.size) K,defers:=[]} ⟨by grind,⟨[],v⟩,λo=>?_⟩ aI j [] t I (by simp[j]) rfl ?_
 .rw[yz];simp[gX,dJ,sy];have:=aH o;rcases dZ o (c B) with bb|ba
  .exact Qk
  rw[wV y];trivial
 rintro ai C k a1 Q ⟨Z,ae,aR,bw,bt,av,aw,ax,aA,aa,bm,aB,bp⟩ au Y a2;obtain⟨a,bn⟩:=Lj bm;have fin:∀g d,cX a1 d->g.fn=S->g.tmps=Q.tmps->g.defers=Q.defers->g.mode=.returning->g.kind=.normal->cd ab I (G g t) d:=by
  intro g d e ah ao aq R ar;have T:=au.rely e Y;have D:=Y.rely e;have u:=a2.trans e.aQ;obtain⟨a3,aX,a9⟩:=av T;obtain⟨x,ad⟩:=vZ (kR:=d.m) aa D.len;have a0:=(pu aw ax aX).sub aa ad aA;obtain⟨bo,ag⟩:=l9 aa;obtain⟨d1,d2⟩:=l9 ad;have N:∀L∈x,L∈d.m:=Eb ad;have O:bc (r Z) {d with m:=x}:=by obtain⟨F,_⟩:=D.sub aa ad a aB;refine⟨F.mem,F.len,λz X L aE i=>?_,F.a3,F.lt,λj cW=>⟨(D.own j cW).1,λL i=>(D.own j cW).2 L (N L i)⟩⟩;exact ew.plain (n:=r Z) (b:={d with m:=x,own:=oK d x}) (az:={d with m:=x}) rfl rfl (vQ a X (b_ aE)) (F.box z X L aE i)
  have aN:dg n b (r Z) {d with m:=x}:=by refine⟨u.size,u.a7,u.mem,u.bC,λL i j cW=>u.bU _ (N L i) j cW,λbf X L aE i=>?_,u.os,u.tape,u.output,u.own⟩;have aL:bf<c n:=(cQ.1 aE).1;obtain⟨bh,bk,bq,br,bs⟩:=u.box bf X L aE i;grind
  obtain⟨aS,a8⟩:=T.defers;refine A4 aS g d _ D.d_ E R (by rw[aq];exact a8.gK D) λH l=>?_;have aU:cX {d with m:=x} {H with m:=x}:=by refine⟨rfl,l.u,l.own,l.size,λj cW=>l.a7 j (cW.imp id ?_),l.mem,l.os,l.tape,l.output⟩;rintro⟨L,i,cW⟩;obtain⟨z,aJ,rfl⟩:=hl i;have a7:z<c aR:=M;obtain⟨bz,a_,a5⟩:=d2 z _ (bK a7);obtain⟨bx,a4,W⟩:=ag z _ (bK a7);rw[bK aJ]at a_;cases a_;refine⟨_,_,a5,λaG=>?_,cW⟩;rw[a8.e7 _ aG]at W;cases W;exact vC bn _ (b_ a4) rfl
  have aD:eX H {H with m:=x}:=⟨rfl,λ_ _ _ U=>U,λ_ _ _=>rfl,λj w a3 aP=>l.mem j w a3 (by rw[<-l.u];exact aP),λj cW=>cW.imp id λ⟨L,i,cW⟩=>⟨L,by rw[l.m];grind,cW⟩⟩
  refine .aU aD (aF Z _ a3 _ ⟨ah,R,rfl,ar,fn,by grind,λV aQ=>?_⟩ (a0.mono aU.aQ.ext O.len) (O.rely aU) (aN.trans aU.aQ));show(results fn g.tmps).run P V=_/\∀ai∈(results fn g.tmps).events P V #[],_;rw[ao];have bg:∀j w A,d.u j w=h A->V.cell? ⟨j,w,q⟩=h A:=λj w A U=>aQ j w A (by show H.u j w=h A;rw[l.u];exact U);refine⟨(a9 V bg).1,λai ae=>?_⟩;obtain⟨j,w,A,aV,aW⟩:=(a9 V bg).2 ai ae;exact⟨j,w,A,aV,by show H.u j w=h A;rw[l.u];exact aW⟩
 rcases ae with rfl|rfl
 .intro pre;exact .ctl Y rfl (λ_=>Ef rfl) λd e=>fin _ d e rfl rfl (h5 _) rfl rfl
 exact .ctl Y rfl (λ_=>Ed rfl) λd e=>fin _ d e rfl rfl (h5 _) rfl rfl
def bl.hP{w:aj P}{t}{fn}{args}{k:ι->p an}(F:P.funcs[t]?=h fn)(D:(fn.name== "runtime.NumGoroutine")=m)(A:fn.body=h s)(C:args.length<=fn.ntmps)(E:∀j o,bY fn.ntmps n j (h6 0 args) o->bc n j->∀i v g (l:ak->a6->Prop),i.kind≠.early->i.roundOf=q ->
  (∀r d a b e,(∃u,bW fn (c n) (res u) (k u) r d a)->bY fn.ntmps a b d e->bc a b->dg n j a b->kO w l i v g r e b)->cd w l (G (i.M o (.code s::v)) g) j):bl w t args n res k:=
 bl.gA F D A C λj o t B i v g l x y z=>E j o t B i v g l x y λr d a b e ⟨u,I⟩=>z r d a b e ⟨u,I.toF⟩
def bl.hn{r:aj P}{b}{fn}{args}{ao:ι->p an}(A:P.funcs[b]?=h fn)(w:(fn.name== "runtime.NumGoroutine")=m)(e:fn.body=h s)(u:args.length<=fn.ntmps)(x:b0 r fn.ntmps s (λv k a=>∃j,k9 P fn n.length (res j) (ao j) v k a) (h6 0 args) n):bl r b args n res ao:=
 bl.gA A w e u λB o b g t z d l i _ y=>x B o b g t z d l i y
def bl.intro{k:aj P}{d}{fn}{args}{a:ι->p an}(B:P.funcs[d]?=h fn)(x:(fn.name== "runtime.NumGoroutine")=m)(g:fn.body=h s)(u:args.length<=fn.ntmps)(y:b0 k fn.ntmps s (λv l b=>∃w,bW fn n.length (res w) (a w) v l b) (h6 0 args) n):bl k d args n res a:=
 bl.hP B x g u λC r d i t A e o j _ z=>y C r d i t A e o j z
def Z.intro{P}{b:aj P}{d}{fn}{s}{args}{n ao}{res}(i:P.funcs[d]?=h fn)(g:(fn.name== "runtime.NumGoroutine")=m)(a:fn.body=h s)(e:args.length<=fn.ntmps)(j:b0 b fn.ntmps s (bW fn n.length res ao) (h6 0 args) n):Z b d args n res ao:=
 (bl.intro i g a e (b0.mono j λ_ _ _ k=>⟨(),k⟩)).toZ
inductive il where
 |code (s:Code)
 |blk (id:Nat)
 |ae (all bt:List ap)
def g{P}(j:aj P)(i:Nat)(a:fw):p il->fw
 |[],l,b,d=>a l b d
 |.code r::e,.normal,b,d=>b0 j i r (g j i a e) b d
 |.code _::e,l,b,d=>g j i a e l b d
 |.blk id::e,.exit k,b,d=>if k=id then g j i a e .normal b d else g j i a e (.exit k) b d
 |.blk _::e,l,b,d=>g j i a e l b d
 |.ae o n::e,.normal,b,d=>fb j i o n (g j i a e .normal) b d
 |.ae _ _::e,l,b,d=>g j i a e l b d
section
variable {r:aj P}{bf:fw}{ar:p il}
def g.aW(a:g r D bf [.code s] .normal F n):b0 r D s bf F n:=a
theorem g.skip(a:g r D bf ar .normal F n):g r D bf (.code .skip::ar) .normal F n:=b0.skip a
theorem g.seq{l X}(e:g r D bf (.code l::.code X::ar) .normal F n):g r D bf (.code (.seq l X)::ar) .normal F n:=by refine b0.seq (b0.mono e ?_);intro d a b i;cases d<;>exact i
theorem g.block{id}{s}(e:g r D bf (.code s::.blk id::ar) .normal F n):g r D bf (.code (.block id s)::ar) .normal F n:=by refine b0.block (b0.mono e ?_);intro d a b i;cases d<;>exact i
theorem g.iE{id}(a:g r D bf ar .normal F n):g r D bf (.blk id::ar) .normal F n:=a
theorem g.region{id}{aD}(a:g r D bf (.ae aD.toList aD.toList::ar) .normal F n):g r D bf (.code (.region id aD m)::ar) .normal F n:=b0.region a
theorem g.hU(a:g r D bf ar .normal F n):g r D bf (.ae all []::ar) .normal F n:=fb.nil a
def g.dN:∀{ar:p il},bf .ret F n->g r D bf ar .ret F n
 |[],a=>a
 |.code _::ar,a=>g.dN (ar:=ar) a
 |.blk _::ar,a=>g.dN (ar:=ar) a
 |.ae _ _::ar,a=>g.dN (ar:=ar) a
def g.ret(a:bf .ret F n):g r D bf (.code .ret::ar) .normal F n:=b0.ret (g.dN a)
def iS(id:Nat):p il->Option (p il)
 |[]=>q
 |.blk b::a=>match af id b with|true=>h a|false=>iS id a
 |_::a=>iS id a
def g.toExit{id}:∀{ar e:p il},iS id ar=h e->g r D bf e .normal F n->g r D bf ar (.exit id) F n
 |[],_,a,_=>by cases a
 |.blk j::ar,e,a,d=>by
  simp[iS]at a;cases b:af id j with
  |true=>
   simp[b]at a;subst a;have i:=dp b;simp[g,i,dJ];exact d
  |false=>
   simp[b]at a;have k:id≠j:=λi=>by grind[Nat.beq_refl]
   simp[g,k,dn];exact g.toExit a d
 |.code _::ar,e,a,d=>g.toExit (ar:=ar) a d
 |.ae _ _::ar,e,a,d=>g.toExit (ar:=ar) a d
theorem g.exit{id}{b}(a:iS id ar=h b)(d:g r D bf b .normal F n):g r D bf (.code (.exit id)::ar) .normal F n:=b0.exit (g.toExit a d)
theorem g.cond{s}{l X}{j}{o}(b:s=.tmp o)(a:look F o=ax (.bool j))(e:j=f->g r D bf (.code l::ar) .normal F n)(d:j=m->g r D bf (.code X::ar) .normal F n):g r D bf (.code (.cond s l X)::ar) .normal F n:=b0.cond b a e d
def g.loop{br:Type}{s}(k:br->Prop)(a:br->bJ)(b:br->p an)(o:br->Nat)(l)(w:k l)(u:iC F (a l))(t:b l=n)(round:∀l,k l->g r D (λj d e=>match j with
   |.normal=>∃i,k i/\o i<o l/\iC d (a i)/\e=b i
   |j=>g r D bf ar j d e) [.code s] .normal (a l) (b l)):g r D bf (.code (.loop s)::ar) .normal F n:=by refine b0.loop k a b o l w u t λi v=>b0.mono (round i v) ?_;intro j d e x;cases j<;>exact x
end
def eW{a d:Type}:p a->(p a->Option d)->Option d
 |[],b=>b []
 |i::g,b=>eW g λe=>b (i::e)
theorem hA{b:Type}(d)(a:p α->Option b):eW d a=a d:=by
 induction d generalizing a with
 |nil=>rfl
 |cons i g e=>simp[eW,e]
def yo(d:bJ)(a:p ap)(g:Nat):Option (Option Bool):=
 match c' g a with
 |some b=>match b.dst with
  |some e=>match look d e with
   |.q (.aq (.c (.bool f)))=>h (h f)
   |.q (.aq (.c (.bool m)))=>h (h m)
   |.Q []=>h q
   |_=>q
  |none=>q
 |none=>q
def yp{e}(u:yo F all w=h e){x}(g:bY D n b F x):yielded all.toArray x.tmps w=e:=by
 unfold yo at u;rw[lk]at u;unfold yielded;cases a:all[w]? with
 |none=>grind
 |some d=>
  simp[a]at u;simp[kf,a,n6];cases k:d.dst with
  |none=>grind
  |some I=>
   simp[k]at u;simp[n6];have s:=g.aJ I;have key:∀ab,x.tmps.getD I K=ab->ab≠K->x.tmps[I]?=h ab:=by intro ab ai p;simp[hv]at ai;grind
   split at u
   .exact OL
   .exact OL
   .rename_i C;cases u;rw[C]at s;obtain⟨B,o,l⟩:=s;have i:B=[]:=by cases B with
     |nil=>rfl
     |cons _ _=>exact l.elim
    subst i;simp[hv]at o;grind
   grind
def yP(n:p (Nat×bx))(e:bJ)(d:p an)(I:ap):Option (z×p an×p Prop):=
 match I.op with
 |.move l|.assign l=>h (bG e l,d,[])
 |.pick v u y=>match bG e v with
  |.q (.aq (.c (.bool f)))=>h (bG e u,d,[])
  |.q (.aq (.c (.bool m)))=>h (bG e y,d,[])
  |_=>q
 |.binOp r _ l E _=>match bG e l,bG e E with
  |.q (.aq (.c u)),.q (.aq (.c y))=>match xi r u y with
   |some (v,x)=>h (ax v,d,x)
   |none=>q
  |_,_=>q
 |.unOp r _ l=>match bG e l with
  |.q (.aq (.c u))=>match zC r u with
   |some v=>h (ax v,d,[])
   |none=>q
  |_=>q
 |.extract l C=>match bG e l with
  |.Q D=>match c' C D with
   |some o=>h (.q o,d,[])
   |none=>q
  |_=>q
 |.alloc s=>match bZ n s with
  |some j=>eW (d++[.cells s (j.zero.map O.c)]) λg=>h (aH (c d) 0,g,[])
  |none=>q
 |.box s l=>match my (bG e l)with
  |some a=>eW (d++[.cells s a]) λg=>h (aH (c d) 0,g,[])
  |none=>q
 |.load i l=>match bZ n i with
  |some j=>match bG e l with
   |.q (.aq (.ptr k b))=>match c' k d with
    |some (.cells _ a)=>match hi j (f_ b a)with
     |some o=>h (.q o,d,[])
     |none=>q
    |_=>q
   |.q (.aq (.c (.O a)))=>match hi j (a.map O.c)with
    |some o=>h (.q o,d,[])
    |none=>q
   |_=>q
  |none=>q
 |.store i l E=>match bZ n i with
  |some j=>match bG e l with
   |.q (.aq (.ptr k b))=>match c' k d with
    |some (.cells s a)=>match my (bG e E)with
     |some new=>match af (c new) j.size with
      |true=>match iZ b new a with
       |some w=>eW (dc.cr k (.cells s w) d) λg=>h (.any,g,[])
       |none=>q
      |false=>q
     |none=>q
    |_=>q
   |_=>q
  |none=>q
 |.fieldAddr i l B=>match lj n i B with
  |some (t,_)=>match bG e l with
   |.q (.aq (.ptr k b))=>h (aH k (b+t),d,[])
   |.q (.aq (.c (.O a)))=>h (ax (.O (f_ t a)),d,[])
   |_=>q
  |none=>q
 |.field i l B=>match lj n i B with
  |some (t,C)=>match bG e l with
   |.q (.agg a)=>match hi C (f_ t a)with
    |some o=>h (.q o,d,[])
    |none=>q
   |_=>q
  |none=>q
 |.nilCheck l=>match bG e l with
  |.q (.aq (.ptr k b))=>h (aH k b,d,[])
  |.q (.aq (.c (.O a)))=>h (ax (.O a),d,[])
  |_=>q
 |.build i parts=>match xm n (bG e) i parts.toList with
  |some a=>h (.q (.agg a),d,[])
  |none=>q
 |.buildSlice i F parts=>match rY n (bG e) i F parts.toList with
  |some (t,A)=>h (ax (.S f t F λj=>A.getD j []),d,[])
  |none=>q
 |_=>q
theorem DG{ad}(aR:bn P ad){l}(a:yP ad F n t=h (l,ao,ck))(p:U ck):a1 P t (bG F) n l ao:=by
 unfold yP at a;split at a
 .grind [a1.move]
 .grind [a1.assign]
 .rename_i s r j b;split at a
  .rename_i k;cases a;exact a1.pick b k
  .rename_i k;cases a;exact a1.pick b k
  grind
 .grind [a1.binOp]
 .grind [a1.unOp]
 .grind [a1.extract,eo]
 .grind [hA,a1.alloc]
 .grind [hA,a1.box]
 .rename_i o X b;split at a
  .grind [a1.hv,eo,a1.hy]
  grind
 .rename_i o X v b;split at a
  .rename_i e bq;split at a
   .rename_i d off g;split at a
    .grind [hA,mV,a1.store,eo,Nat.eq_of_beq_eq_true]
    grind
   grind
  grind
 .rename_i o X u b;split at a
  .rename_i i w C;split at a
   .rename_i d off g;cases a;exact a1.ha aR b g C
   .grind [a1.hc]
   grind
  grind
 .grind [a1.field]
 .grind [a1.hI,a1.hJ]
 .grind [a1.build]
 .grind [a1.buildSlice]
 grind
def fg(a:Nat):Option Nat->Bool
 |some b=>ay (b+1) a
 |none=>f
def lf{b}(e:fg D b=f):∀a,b=h a->a<D:=by intro a d;subst d;exact ff e
theorem ja(b:t.guard=q){a:Act}:aU t (yielded all.toArray a.tmps)=f:=by simp[aU,b]
section
variable {ad:p (Nat×bx)}
def kM(a:aA->z):Option aA->Option (Option Int)
 |none=>h q
 |some d=>match a d with
  |.q (.aq (.c (.int _ b)))=>h (h b)
  |_=>q
def kl{a:aA->aa}(o:∀d,bz n b (a d) (η d)){l}{j}(e:kM η l=h j):(l.map a=q/\j=q)∨∃i g,l.map a=h (.int i g)/\j=h g:=by
 cases l with
 |none=>cases e;grind
 |some d=>
  right;simp[kM]at e;split at e
  .rename_i i g k;cases e;have:=o d;rw[k]at this;have:=b8 this;generalize p:a d=r at this;cases this;grind
  grind
def bT(a:Nat):Option Int->Nat
 |none=>a
 |some b=>b.toNat
def jl(d:Nat):Option Int->Option Int->p Prop
 |none,q=>[]
 |some b,q=>[0<=b,b<=d]
 |none,h a=>[0<=a,a<=d]
 |some b,h a=>[0<=b,b<=a,a<=d]
def vW{ks}{cap}(u:k<=cap){e0 bq}{d a}(o:(e0=q/\d=q)∨∃l i,e0=h (.int l i)/\d=h i)(p:(bq=q/\a=q)∨∃l i,bq=h (.int l i)/\a=h i)(b:U (jl k d a))(e):(aX ks k cap e0 bq q).run P e=.ok (bT 0 d,bT k a,cap) e/\bT 0 d<=bT k a/\bT k a<=k:=by
 rcases o with⟨rfl,rfl⟩|⟨n,d,rfl,rfl⟩<;>rcases p with⟨rfl,rfl⟩|⟨s,a,rfl,rfl⟩
 .exact⟨by simp[aX,bT],by simp[bT],by simp[bT]⟩
 .obtain⟨g,j⟩:0<=a/\a<=(k:Int):=b;refine⟨?_,by simp[bT],by simp[bT];omega⟩;simp[aX,bT,run_sliceBound (P:=P) e s a cap _ g y]
 .obtain⟨g,j⟩:0<=d/\d<=(k:Int):=b;refine⟨?_,by simp[bT];omega,by simp[bT]⟩;simp[aX,bT,run_sliceBound (P:=P) e n d k _ g j]
 obtain⟨g,j,t⟩:0<=d/\d<=a/\a<=(k:Int):=b;have r:=ro y;refine⟨?_,by simp[bT];omega,by simp[bT];omega⟩;simp[aX,bT,run_sliceBound (P:=P) e s a cap _ y y,run_sliceBound (P:=P) e n d a.toNat _ g y]
def lh(g)(i)(e)(a:Nat)(code)(b:0<=e)(d:e<=(a:Int))(T):(Instr.sliceBound (.int i e) a code).events P g T=T:=by simp[Instr.sliceBound,asIntOf,b,d]
def u'{ks}{cap}{e0 bq}{d a}(x:k<=cap)(r:(e0=q/\d=q)∨∃l i,e0=h (.int l i)/\d=h i)(t:(bq=q/\a=q)∨∃l i,bq=h (.int l i)/\a=h i)(e:U (jl k d a))(b)(T):(aX ks k cap e0 bq q).events P b T=T:=by
 have v:∀ks (o:Option aa) (p:Nat) b T,o=q->(aX ks k cap q q q).events P b T=T:=λks o p b T _=>by simp[aX]
 rcases r with⟨rfl,rfl⟩|⟨n,d,rfl,rfl⟩<;>rcases t with⟨rfl,rfl⟩|⟨j,a,rfl,rfl⟩
 .simp[aX]
 .obtain⟨g,s⟩:0<=a/\a<=(k:Int):=e;simp[aX,lh (P:=P) b j a cap _ g y]
 .obtain⟨g,s⟩:0<=d/\d<=(k:Int):=e;simp[aX,lh (P:=P) b n d k _ g s]
 obtain⟨g,s,w⟩:0<=d/\d<=a/\a<=(k:Int):=e;have u:=ro y;simp[aX,run_sliceBound (P:=P) b j a cap _ y y,lh (P:=P) b j a cap _ y y,lh (P:=P) b n d a.toNat _ g y]
def mA(a:p UInt8):Option Int->Option Int->p UInt8
 |none,q=>a
 |some d,q=>a.drop d.toNat
 |none,h b=>a.take b.toNat
 |some d,h b=>(a.take b.toNat).drop d.toNat
theorem a1.j7(aR:bn P ad){e0 bq}(A:t.op=.slice o l e0 bq q){e}(F:bZ ad o=h e)(J:e.desc=.string){b}{d p}(K:η l=ax (.V b))(r:kM η e0=h d)(C:kM η bq=h p)(E:U (jl (c b) d p)):a1 P t η n (ax (.V (mA b d p))) n:=by
 refine .aZ λj v D i=>?_;have g:=i l;rw[K]at g;replace g:=b8 g;generalize w:v l=N at g;cases g with
 |@V a _ B O=>
 have z:a.size=c b:=by rw[<-B];exact nc.symm
 obtain⟨u,x,y⟩:=vW (P:=P) (ks:=m) (k:=a.size) (cap:=a.size) (bB _) (kl i r) (kl i C) M j.a;have s:=(aR o e F).run_underlying (Q:=j.a);rw[J]at s;have I:=u' (P:=P) (ks:=m) (k:=a.size) (cap:=a.size) (bB _) (kl i r) (kl i C) M j.a;refine⟨.string (a.extract (bT 0 d) (bT a.size p)),?_,Rd.V ?_ ?_,by simp[ac,A,w,Instr.sliceAt,s,Instr.slice,I]⟩
 .simp[ac,A,w,Instr.sliceAt,s,Instr.slice,u]
 .rw[Lib.extract_data,B,z];rw[z]at x y;cases d<;>cases p<;>simp only[mA,bT]at x y⊢
  .simp
  .simp
  .grind [List.take_of_length_le]
  rw[List.drop_take]
 cases d<;>cases p<;>simp[mA,sv,List.length_take]<;>omega
def fB(d:Nat)(a:Nat->p N):Nat->p N:=λb=>a (d+b)
def xM(eT:Bool):Option Int->Bool
 |none=>eT
 |some _=>m
theorem a1.j6(aR:bn P ad){e0 a}(S:t.op=.slice o l e0 a q){e a5}(ah:bZ ad o=h e)(ai:e.desc=.slice W)(aj:bZ ad W=h a5){eT}{d s}(Z:∀X Y,bz n X Y (η l)->Rd X.u Y (.S eT a5.size k T))(v:kM η e0=h d)(V:kM η a=h s)(x:U (jl k d s)):
  a1 P t η n (ax (.S (xM eT s) a5.size (bT k s-bT 0 d) (fB (bT 0 d) T))) n:=by
 refine .aZ λg ak ae b=>?_;have p:=Z g _ (b l);obtain⟨M,j,B,K,R,O,N,G,ag⟩:=p.b1;rw[K]at p;obtain⟨u,an,z⟩:=vW (P:=P) (ks:=f) R (kl b v) (kl b V) x g.a;have F:=(aR o e ah).run_underlying (Q:=g.a);rw[ai]at F;refine⟨.slice (if j=bT 0 d then M else M.map (·.add (bT 0 d*a5.size))) (bT k s-bT 0 d) (j-bT 0 d),?_,?_,by simp[ac,S,K,Instr.sliceAt,F,Instr.slice,u,u' (P:=P) (ks:=f) R (kl b v) (kl b V) x g.a]⟩
 .simp[ac,S,K,Instr.sliceAt,F,Instr.slice,u,(aR W a5 aj).bc]
 cases p with
 |S aa D ab _ _ _ J I w A=>
  refine Rd.S aa (D+bT 0 d*a5.size) (λe C=>ab (bT 0 d+e) C) y y ?_ (λe a=>J _ y) (λao=>?_) (λe a C E r=>?_) (λe a C E r=>A _ y C E r)
  .intro i;cases s with
   |none=>simp[xM]at i;have:=N i;simp[bT];omega
   |some s=>cases i
  .rw[bm y,I y];simp[gY]
  have:=w (bT 0 d+e) y C E r;grind
def a1.iM(aR:bn P ad){j dst}(v:t.op=.convert j dst l){e ce}{i b}{w}(o:bZ ad j=h e)(x:bZ ad dst=h ce)(z:ce.desc=.int b)(A:η l=ax (.int i w))(d:a8 b w):
  a1 P t η n (ax (.int b w)) n:=by refine .aZ λg r y p=>?_;have a:=p l;rw[A]at a;replace a:=b8 a;generalize s:r l=B at a;cases a;have u:=(aR j e o).run_underlying (Q:=g.a);have k:=(aR dst ce x).run_underlying (Q:=g.a);rw[z]at k;exact⟨.int b w,by simp[ac,v,s,convert,u,k,Conv.intToInt,sc d],Rd.int d,by simp[ac,v,s,convert,u,k,Conv.intToInt]⟩
theorem a1.iN(aR:bn P ad){g dst}(u:t.op=.convert g dst l){e ce}{b}(j:bZ ad g=h e)(w:bZ ad dst=h ce)(x:ce.desc=.string)(y:η l=ax (.V b)):
  a1 P t η n (ax (.V b)) n:=by refine .aZ λd o v k=>?_;have a:=k l;rw[y]at a;have s:=b8 a;generalize p:o l=z at s;cases s;have r:=(aR g e j).run_underlying (Q:=d.a);have i:=(aR dst ce w).run_underlying (Q:=d.a);rw[x]at i;exact⟨_,by simp[ac,u,p,convert,r,i];rfl,by grind,by simp[ac,u,p,convert,r,i]⟩
def uV(a:Nat->p N):Nat->Nat->Option (p UInt8)
 |_,0=>h []
 |b,d+1=>match a b with
  |[.int .u8 g]=>match uV a (b+1) d with
   |some e=>h (UInt8.ofNat g.toNat::e)
   |none=>q
  |_=>q
def GW{bE}{t:Nat->p N}:∀{i e:Nat}{j:p UInt8}{B:p aa},uV t e i=h j->c B=i->(∀g,g<i->∀k,(t (e+g))[0]?=h k->∃n,B[g]?=h n/\Rd bE n k) ->
  ∃b:p Int,B=b.map (Value.int .u8)/\j=b.map (λl=>UInt8.ofNat l.toNat)
 |0,e,j,B,d,o,_=>by cases d;exact⟨[],by grind,a⟩
 |i+1,e,j,[],d,o,_=>by grind
 |i+1,e,j,n::B,d,o,r=>by
  simp[uV]at d;split at d
  .rename_i l C;split at d
   .rename_i D u;cases d;obtain⟨E,s,v⟩:=r 0 y (.int .u8 l) M
    simp at s;subst s;cases v;obtain⟨b,z,x⟩:=GW (B:=B) u M (λg w k A=>by
     have:=r (g+1) y k M
     simpa using this)
    exact⟨l::b,by grind,by grind⟩
   grind
  grind
def LW{P}(e){g:aa->ByteArray->Sem (ForInStep ByteArray)}(i:∀d b,g (.int .u8 d) b=pure (.yield (b.push (UInt8.ofNat d.toNat)))):∀(a:p Int)b,
  (forIn (m:=Sem) (a.map (Value.int .u8)) b g).run P e=.ok ⟨b.data++(a.map λd=>UInt8.ofNat d.toNat).toArray⟩ e
 |[],b=>by simp
 |d::a,b=>by simp only[mq,List.forIn_cons,i,cK,d9,c7];rw[LW e i a];congr 2;apply Array.ext';simp[ByteArray.push]
end
def aV(o:aj P)(w:Nat)(a:p ap)(t:ap)(v:bJ)(j:p an)(x:z)(e:p an):Prop:=
  ∀i k,bY w j i v k->bc j i->∀(l:aK) s g (n:ak->a6->Prop) r b,l.kind≠.early->a.toArray[r]?=h t ->
    (∀u d,bz e d u x->bc e d->dg j i e d->cd o n (G (l.M (k.put t.dst u) (.inRegion a.toArray b::s)) g) d)->cd o n (G (l.M k (.inRegion a.toArray (r::b)::s)) g) i
section
variable {r:aj P}{dI:bJ}{l:z}
theorem aV.a2(N:∀n C e,bY D n C F e->aU t (yielded all.toArray e.tmps)=f)(J:a1 P t (bG F) n l ao):aV r D all t F n l ao:=by
  intro C e y j R T I Q S x u w i;refine rz u w (N _ _ _ y) λp k=>?_;have o:=j.rely k;obtain⟨O,b,g,d,s,A,M⟩:=J p e.eval o (eN (y.rely k j));have z:=k.aQ.trans (A.too5 o);have B:kG p b ((ac e.eval t).events P p.a #[]):=⟨⟨n,ao,o,s,A⟩,M⟩;cases O with
  |value E=>exact⟨_,b,E,g,.inl rfl,B,i E b d s z⟩
  |skip=>simp[As]at d;subst d;exact⟨_,b,K,g,.inr ⟨a,a⟩,B,i K b v s z⟩
  |_=>exact d.elim
def aV.hV(o:∀n k d,bY D n k F d->aU t (yielded all.toArray d.tmps)=m):aV r D all t F n (.Q []) n:=by intro k d s b x z l w y i u g e;exact .ctl b a (λ_=>acv g (o _ _ _ s)) λp j=>e K p ⟨[],a,v⟩ (b.rely j) j.aQ
def fb.dk{aN:bJ->p an->Prop}(N:aV r D all t F n l ao)(K:∀s,t.dst=h s->s<D)(Q:fb r D all bt aN (gb t.dst l F) ao):fb r D all (t::bt) aN F n:=by
  intro S E v b C j e B idx g a x;cases idx with
  |nil=>exact a.elim
  |cons O idx=>
  refine N S E v b C j e B O idx g a.1 λT z y i d=>Q z _ ?_ i C j e B idx g a.2 λI o A u R J w k=>x I o A u R J w (d.trans k);cases M:t.dst with
  |none=>exact v.mono d b.len
  |some s=>exact(v.mono d b.len).put (K s M) y
end
abbrev bL:=p z->p an->Option (z×p an×p Prop)
def tk:p (Nat×bL)->Nat->Option bL
  |[],_=>q
  | (d,b)::e,a=>cond (af d a) (h b) (tk e a)
def bM(g:aj P)(i:a4)(j:bL):Prop:=∀args e b d a,j args e=h (b,d,a)->U a->Z g i args e b d
def a9(e:aj P)(a:p (Nat×bL)):Prop:=∀b d,tk a b=h d->bM e b d
def a9.nil{a:aj P}:a9 a []:=λ_ _ b=>by cases b
def a9.cons{b:aj P}{d}{C}{CT}(k:bM b d C)(j:a9 b CT):a9 b ((d,C)::CT):=by
  intro g i a;simp[tk]at a;cases e:af d g with
  |true=>grind[Nat.eq_of_beq_eq_true]
  |false=>rw[e]at a;exact j g i a
def n':O->p Nat->p Nat
  |.ptr b _,a=>cond (eg b a) a (a++[b])
  |.r b _ _ _,a=>cond (eg b a) a (a++[b])
  |.aR b,a=>cond (eg b a) a (a++[b])
  |.R b _,a=>cond (eg b a) a (a++[b])
  |_,a=>a
def GU:p O->p Nat->p Nat
  |[],a=>a
  |b::d,a=>GU d (n' b a)
def qj:z->p Nat->p Nat
  |.q (.aq d),a=>n' d a
  |.q (.agg b),a=>GU b a
  |_,a=>a
def GS:p z->p Nat->p Nat
  |[],a=>a
  |b::d,a=>GS d (qj b a)
def td(b:Nat):p Nat->Nat->Option Nat
  |[],_=>q
  |d::e,a=>match af d b with|true=>h a|false=>td b e (a+1)
def J4{d}:∀{b:p Nat} {e g:Nat},td d b e=h g->e<=g/\b[g-e]?=h d
  |[],_,_,a=>by cases a
  |j::n,e,g,a=>by
    simp[td]at a;cases i:af j d with
    |true=>simp_all
    |false=>
      rw[i]at a;obtain⟨k,l⟩:=J4 a;grind
def tX(a:p Nat):O->Option O
  |.ptr d e=>match td d a 0 with|some b=>h (.ptr b e)|none=>q
  |.aR d=>match td d a 0 with|some b=>h (.aR b)|none=>q
  |.R d g=>match td d a 0 with|some b=>h (.R b g)|none=>q
  |.r _ _ _ _=>q
  |.c i=>h (.c i)
  |.any=>h .any
def zD(a:p Nat):p O->Option (p O)
  |[]=>h []
  |b::g=>match tX a b with
    |some d=>match zD a g with
      |some e=>h (d::e)
      |none=>q
    |none=>q
def EO(a:p Nat):z->Option z
  |.q (.aq e)=>match tX a e with|some b=>h (.q (.aq b))|none=>q
  |.q (.agg d)=>match zD a d with|some b=>h (.q (.agg b))|none=>q
  |.Q _=>q
  |.any=>h .any
def tY(a:p Nat):p z->Option (p z)
  |[]=>h []
  |b::g=>match EO a b with
    |some d=>match tY a g with
      |some e=>h (d::e)
      |none=>q
    |none=>q
def M5{b j}(a:tX aP b=h j):ky aP j=b/\l2 (c aP) j=f:=by
  cases b with
  |ptr d l=>
    simp[tX]at a;split at a
    · rename_i e bq
      cases a;exact Fg
    grind
  |aR d=>
    simp[tX]at a;split at a
    · rename_i e bq
      cases a;exact Fg
    grind
  |R d n=>
    simp[tX]at a;split at a
    · rename_i e bq
      cases a;exact Fg
    grind
  |r d i k g=>cases a
  |c o=>cases a;exact cU
  |any=>cases a;exact cU
def M8{aP}:∀{d b:p O},zD aP d=h b->qS aP b=d/\lm (c aP) b=f
  |[],b,a=>by cases a;exact cU
  |d::o,b,a=>by
    simp[zD]at a;split at a
    · rename_i r l
      split at a
      · rename_i n e
        cases a;obtain⟨j,g⟩:=M5 l;obtain⟨k,i⟩:=M8 e;exact⟨by simp[qS,j,k],by simp[lm,g,i]⟩
      grind
    grind
def aeI{b j}(a:EO aP b=h j):e' aP j=b/\hQ (c aP) j=f:=by
  unfold EO at a;split at a
  · rename_i b
    split at a
    · rename_i k e;cases a;obtain⟨d,i⟩:=M5 e;exact⟨by simp[e',pC,d],by exact cU⟩
    grind
  · rename_i g
    split at a
    · rename_i k e;cases a;obtain⟨d,i⟩:=M8 e;exact⟨by simp[e',pC,d],by exact cU⟩
    grind
  · cases a
  · cases a;exact cU
def M7{aP}:∀{d b:p z},tY aP d=h b->gA aP b=d/\ha (c aP) b=f
  |[],b,a=>by cases a;exact cU
  |d::o,b,a=>by
    simp[tY]at a;split at a
    · rename_i r l
      split at a
      · rename_i n e
        cases a;obtain⟨j,g⟩:=aeI l;obtain⟨k,i⟩:=M7 e;exact⟨by simp[gA,j,k],by simp[ha,g,i]⟩
      grind
    grind
def BL(k:p (Nat×bL))(r:bJ)(l:p an)(n:aA)(o:p aA):Option (z×p an×p Prop):=
  match gZ (bG r n)with
  |none=>q
  |some (s,g)=>match tk k s with
    |none=>q
    |some t=>
      let args:=la (o.map (bG r)++e7 g);let a:=GS args []
      match tY a args with
      |none=>q
      |some d=>match dz a l with
        |none=>q
        |some e=>match t d e with
          |none=>q
          |some (j,b,i)=>match eu e,eu b,e_ a,ay (c a) (c b) with
            |true,f,f,f=>h (e' (a++gS (c l) (c b-c a)) j,dc a b l,i)
            |_,_,_,_=>q
theorem aV.g1{J:aj P}{CT}(p:a9 J CT)(H:∀n g b,bY D n g F b->aU t (yielded all.toArray b.tmps)=f)(e:t.op=.call {callee:=.value cR,args:=ag,argTypes:=du}){j}(i:gZ (bG F cR)=h (j,cap)){C}(aw:tk CT j=h C){aM}{res}(N:tY aP (la (ag.toList.map (bG F)++e7 cap))=h cV)(X:dz aP n=h dh)(aq:C cV dh=h (res,aM,ck))(Z:eu dh=f)(av:eu aM=f)(y:e_ aP=f)(Y:c aP<=c aM)(ao:U ck):aV J D all t F n (e' (aP++gS (c n) (c aM-c aP)) res) (dc aP aM n):=by
  obtain⟨ak,W⟩:=M7 N;intro g b A u az ai ab ax aA E s v r;have S:=p j C aw _ _ _ _ _ aq ao;have T:=eN A cR;unfold gZ at i;split at i
  case h_2=>cases i
  case h_1 vc uZ he=>
    cases i;rw[he]at T;have Q:=b8 T;generalize G:b.eval cR=ae at Q;cases Q with
    |fn l a x d ad k ah o ar B=>
      have O:l=[]:=jI x;subst O;have an:b6 n g a (e7 cap):=ql (λz aa w=>⟨k z,o z M,B z aa w⟩) d;have au:b6 n g (ag.toList.map b.eval++a) (gA aP cV):=by rw[ak];exact uY ((m' (eN A) ag.toList).append an)
      obtain⟨fn,V,R,K⟩:=S.1;exact Gw s v (H _ _ _ A) u (λI=>(mU e V R K G I).1) (λI=>(mU e V R K G I).2) S au W X Z av y Y r
theorem aV.call{b:aj P}{CT}(g:a9 b CT){l}(r:∀n k d,bY D n k F d->aU t (yielded all.toArray d.tmps)=f)(j:t.op=.call {callee:=.value cR,args:=ag,argTypes:=du})(a:BL CT F n cR ag.toList=h (l,ao,ck))(o:U ck):aV b D all t F n l ao:=by
  unfold BL at a;split at a
  · cases a
  rename_i s e i;split at a
  · cases a
  rename_i u p;simp only at a;split at a
  · cases a
  grind[aV.g1,Nat.le_of_ble_eq_true]
def LM{g}(e:hQ 0 g=f):e' [] g=g:=by
  have k:∀{a:O},l2 0 a=f->ky [] a=a:=by intro a d;cases a<;>simp[l2]at d<;>first|rfl|simp_all
  have o:∀{b:p O},lm 0 b=f->qS [] b=b:=by
    intro b;induction b with
    |nil=>exact cU
    |cons a r i=>
      intro e;simp[lm]at e;cases d:l2 0 a with
      |false=>grind
      |true=>simp[d]at e;simp[qS,k d,i e]
  have j:∀{a:E1},ps 0 a=f->pC [] a=a:=by
    intro a d;cases a with
    |aq a=>simp[pC,k d]
    |agg n=>simp[pC,o d]
  have l:∀{b:p E1},oy 0 b=f->tC [] b=b:=by
    intro b;induction b with
    |nil=>exact cU
    |cons a r i=>
      intro e;simp[oy]at e;cases d:ps 0 a with
      |false=>grind
      |true=>simp[d]at e;simp[tC,j d,i e]
  cases g with
  |q t=>simp[e',j e]
  |Q s=>simp[e',l e]
  |any=>rfl
def BM(g:p (Nat×bL))(k:bJ)(i:aA)(j:p aA):Option (z×p Prop):=
  match gZ (bG k i)with
  |none=>q
  |some (l,d)=>match tk g l with
    |none=>q
    |some n=>match tY [] (la (j.map (bG k)++e7 d))with
      |none=>q
      |some a=>match n a []with
        |some (b,[],e)=>match hQ 0 b with
          |true=>h (b,e)
          |false=>q
        |_=>q
theorem aV.iG{P:aI}{p:aj P}{D}{all}{F}{n}{t}{CT}(i:a9 p CT){cR}{ag}{du}{l}{ck}(y:∀n z r,bY D n z F r->aU t (yielded all.toArray r.tmps)=f)(k:t.op=.call {callee:=.value cR,args:=ag,argTypes:=du})(b:AM.BM CT F cR ag.toList=h (l,ck))(v:U ck):aV p D all t F n l n:=by
  unfold AM.BM at b;split at b
  · cases b
  rename_i A s j;split at b
  · cases b
  rename_i B w;split at b
  · cases b
  rename_i g e;split at b
  case h_2=>cases b
  rename_i u o d;split at b
  case h_2=>cases b
  rename_i x;cases b;have:=aV.g1 (n:=n) i y k j w e a d a a a (bB _) v;simpa[gS,LM x,dc]using this
structure mg(D:Nat)(n:p an)(b:a6)(F_:Nat->z)(x:Act):Prop where
 size:x.tmps.size=D
 defers:∃nF,jc n b x.defers nF
 aJ:∀o,bz n b (x.tmps.getD o K) (F_ o)
def mg.fj{e:Nat->z}{g}(d:mg D n b e g)(j:∀a n b i,bz n b i (e a)->bz n b i (look F a)):bY D n b F g:=
 ⟨d.size,d.defers,λa=>j a _ _ _ (d.aJ a)⟩
def eP(a:Edge):Bool:=Region.binds .any a
structure rh{P:aI}(r:aj P)(D:Nat)(aD:Array ap)(F:bJ)(br:Nat->p an)(l:Nat->z)(R:Nat->bJ)(qy s:Nat->Bool)(A:Nat->Nat->Prop)(idx:Nat->Option Nat)(dI:bJ):Prop where
 ks:P.follows Departure.mixedOrders=f
 cS:∀e t,aD[e]?=h t->∀ai∈t.after,eP ai=f->ai.on<e
 e5:∀e t I,aD[e]?=h t->t.dst=h I->idx I=h e/\I<D
 dQ:∀I e,idx I=h e->∃t,aD[e]?=h t/\t.dst=h I
 aZ:∀e,s e=m->br (e+1)=br e
 aq:∀e t,aD[e]?=h t->qy e=m->aV r D aD.toList t (R e) (br e) (l e) (br (e+1))
 all:∀e t,aD[e]?=h t->qy e=f->s e=m/\∀i,aV r D aD.toList t (R e) (br i) (l e) (br i)
 fx:∀L:Nat->Prop,(∀e t,aD[e]?=h t->L e->∀ai∈t.after,eP ai=f->L ai.on)->∀e w,A e w->(L e->L w)/\∃t,aD[e]?=h t/\((∀ai∈t.after,eP ai=f->L ai.on)->L w)
 comp:∀e ae,e<aD.size->ae<aD.size->s ae=f->e≠ae->qy e=m->(ae<e/\A e ae)∨(e<ae/\A ae e)
 eR:∀e t,aD[e]?=h t->∀o n b ab,bz n b ab (match idx o with|some w=>(if ∃ai∈t.after,eP ai=f/\ai.on=w then l w else if ∃vE,aD[w]?=h vE/\∃ai∈vE.after,eP ai=f/\ai.on=e then look F o else .any)|none=>look F o)->bz n b ab (look (R e) o)
 fin:∀o n b ab,bz n b ab (match idx o with|some w=>l w|none=>look F o)->bz n b ab (look dI o)
open Classical in
noncomputable def gD(b:bJ)(e:Nat->z)(idx:Nat->Option Nat)(L:Array Bool)(a:Nat):z:=
 match idx a with
 |some d=>if L.getD d m=f then e d else look b a
 |none=>look b a
theorem pv:e∈aS .any aD L↔∃i,aD[e]?=h i/\L.getD e f=m/\∀a∈i.after,eP a=f->L.getD a.on m=f:=by
 unfold aS;simp[ji,rq,cp,jJ];constructor
 .rintro⟨b,C,j⟩;rw[iE b]at j;simp only[lH,h4,Array.all_eq_true',jK,jJ]at j;refine⟨aD[e],iE b,C,λa d g=>?_⟩;rcases j a d with l|l
  .unfold eP at g;grind
  grind
 rintro⟨i,b,C,j⟩;have k:e<aD.size:=(jh.1 b).1;refine⟨k,C,?_⟩;rw[b];simp only[lH,h4,Array.all_eq_true',jK,jJ];intro a d;cases g:Region.binds .any a with
 |false=>grind
 |true=>exact .inr (j a d g)
section
variable {r:aj P}{dI:bJ}{br:Nat->p an}{l:Nat->z}{R:Nat->bJ}{qy s:Nat->Bool}{A:Nat->Nat->Prop}{idx:Nat->Option Nat}
def rh.chain(k:rh r D aD F br l R qy s A idx dI){e}:∀{i:Nat},e<=i->(∀b,e<=b->b<i->s b=m)->br i=br e
 |0,g,_=>by grind
 |i+1,g,j=>by
  rcases dZ i e with a|a
  .grind
  rw[k.aZ i (j i a y),k.chain (i:=i) a (λb d n=>j b d y)]
def rh.last(k:rh r D aD F br l R qy s A idx dI)(E:∀t,t<aD.size->L.getD t m=f){i}{e}{o}(n:i<=aD.size)(K:∀j,j<aD.size->s j=f->(L.getD j m=f↔j<i))(p:mg D (br i) b (gD F l idx L) o)(a:bc (br i) b)(g:dg (br 0) e (br i) b):
  bY D (br aD.size) b dI o/\bc (br aD.size) b/\dg (br 0) e (br aD.size) b:=by
 have x:br aD.size=br i:=k.chain n (λI y z=>by grind);rw[<-x]at p a g;refine⟨p.fj λv w b C u=>k.fin v w b C ?_,a,g⟩;unfold gD at u;cases d:idx v with
 |none=>grind
 |some J=>
  simp only[d]at u⊢;obtain⟨M,B,_⟩:=k.dQ _ _ d;grind
theorem mH(a:e<L.size):(L.setIfInBounds e f).getD w m=f↔w=e∨L.getD w m=f:=FK
theorem xL:∀{d:p Bool}{e:Nat},d[e]?=h m->c ((d.set e f).filter (λa=>!a))+1=c (d.filter (λa=>!a))
 |[],_,b=>by grind
 |a::g,0,b=>by grind
 |a::g,e+1,b=>by simp at b;have:=xL (d:=g) b;cases a<;>simp[List.set_cons_succ]<;>omega
theorem Dj(o)(L):Region.linearise.go .any aD 0 o L []=[]:=by simp[Region.linearise.go]
theorem vx(k o)(L):Region.linearise.go .any aD (k+1) o L []=match(aS .any aD L)[o % c (aS .any aD L)]? with
  |some a=>a::Region.linearise.go .any aD k (o / c (aS .any aD L)) (L.setIfInBounds a f) []
  |none=>[]:=by
 simp only[Region.linearise.go]
 change (match(aS .any aD L)[o % c (aS .any aD L)]? with
   |some a=>Region.linearise.go .any aD k (o / c (aS .any aD L)) (L.setIfInBounds a f) [a]
   |none=>[].reverse)=_
 grind[linearise_go_acc]
def rh.eS(u:rh r D aD F br l R qy s A idx dI){ab:ak->a6->Prop}{t:aK}{z}(I:t.kind≠.early){cI}(aL:∀b d,bY D (br aD.size) b dI d->bc (br aD.size) b->dg (br 0) cI (br aD.size) b->cd r ab (G (t.M d z) ah) b):
  ∀K L,L.size=aD.size->c (L.toList.filter (λt=>!t))<=K ->
   (∀e B,aD[e]?=h B->L.getD e m=f->∀o∈B.after,eP o=f->L.getD o.on m=f) ->
   ∀k b d,k<=aD.size->(∀g,g<aD.size->s g=f->(L.getD g m=f↔g<k))->mg D (br k) b (gD F l idx L) d->bc (br k) b->dg (br 0) cI (br k) b ->
   ∀n,cd r ab (G (t.M d (.inRegion aD (Region.linearise.go .any aD K n L [])::z)) ah) b:=by
 have fin:∀b d,bY D (br aD.size) b dI d->bc (br aD.size) b->dg (br 0) cI (br aD.size) b->cd r ab (G (t.M d (.inRegion aD []::z)) ah) b:=
  λb d jG jg wR=>.ctl jg a (λ_=>v3) λaW aG=>aL aW d (jG.rely aG jg) (jg.rely aG) (wR.trans aG.aQ)
 intro K;induction K with
 |zero=>
  intro L aT aO J k b d b2 C5 ow bQ b9;have O:∀e,e<aD.size->L.getD e m=f:=by
   intro e v;have av:L[e]'y∈L.toList:=E;cases I:L[e]'y with
   |true=>simp[hv,iE (by omega:e<L.size),I]
   |false=>
    have:L[e]'y∈L.toList.filter (λt=>!t):=ji.2 ⟨av,by grind⟩;grind
  intro n;rw[Dj];exact N'
 |succ K aU=>
  intro L aT aO J k b d b2 C5 ow bQ b9;intro n;rw[vx];cases ba:(aS .any aD L)[n % c (aS .any aD L)]? with
  |none=>
   have aR:aS .any aD L=[]:=by
    cases aR:aS .any aD L with
    |nil=>rfl
    |cons bf bb=>
     grind[Nat.mod_lt]
   have O:∀e,e<aD.size->L.getD e m=f:=by
    intro e;induction e using Nat.strongRecOn with
    |_ e a8=>
     intro v;cases I:L.getD e m with
     |true=>rfl
     |false=>
      have av:e∈aS .any aD L:=pv.2 ⟨aD[e],iE v,by
       grind,λo X ae=>by
       have:=u.cS e _ (iE v) o X ae
       grind⟩
      grind
   exact N'
  |some e=>
   have v:=b_ ba;obtain⟨B,w,a5,aP⟩:=pv.1 v;have aF:e<aD.size:=(jh.1 w).1;have H:¬L.getD e m=f:=M;have T:=u.fx (λV=>L.getD V m=f) J;have aB:∀j,A j e->¬L.getD j m=f:=λj an aJ=>H ((T j e an).1 aJ);have a7:∀j,A e j->L.getD j m=f:=λj an=>by grind
   have N:(L.setIfInBounds e f).size=aD.size:=M;have a9:c ((L.setIfInBounds e f).toList.filter (λt=>!t))<=K:=by have i:L.toList[e]?=h m:=QX;grind[xL]
   have a':∀V aA,aD[V]?=h aA->(L.setIfInBounds e f).getD V m=f->∀o∈aA.after,eP o=f->(L.setIfInBounds e f).getD o.on m=f:=wE
   have aj:bY D (br k) b (R e) d:=ow.fj λn a_ b Z Y=>u.eR e B w n a_ b Z (by
    unfold gD at Y;cases bd:idx n with
    |none=>grind
    |some V=>
     simp only[bd]at Y⊢;split
     .grind
     .split
      .grind
      .trivial)
   have aN:∀C p Z,dg (br k) b C p->bz C p Z (l e)->mg D C p (gD F l idx (L.setIfInBounds e f)) (d.put B.dst Z):=by
    intro C p Z W Y;cases aM:B.dst with
    |none=>
     refine⟨ow.size,ow.defers.imp λ_ i=>i.mono W.ext,λn=>?_⟩;have Q:=(ow.aJ n).mono W.ext bQ.len;simp only[Act.put];unfold gD at Q⊢;cases bd:idx n with
     |none=>grind
     |some V=>
      exact OD
    |some aI=>
     obtain⟨ar,a4⟩:=u.e5 e B aI w aM;refine⟨by simp[Act.put,ow.size],ow.defers.imp λ_ i=>i.mono W.ext,λn=>?_⟩;simp only[Act.put];by_cases o:aI=n
     .subst o;have ax:aI<d.tmps.size:=by rw[ow.size];omega
      simp only[hv,uI ax,h4];unfold gD;simp only[ar];rw[bs ((mH y).2 (.inl a))];exact Y
     have Q:=(ow.aJ n).mono W.ext bQ.len;simp only[hv]at Q⊢;rw[sH o];unfold gD at Q⊢;cases bd:idx n with
     |none=>grind
     |some V=>
      exact OD
   have aX:∀x,x<=aD.size->aV r D aD.toList B (R e) (br k) (l e) (br x)->(∀g,g<aD.size->s g=f->((L.setIfInBounds e f).getD g m=f↔g<x)) ->
     cd r ab (G (t.M d (.inRegion aD (e::Region.linearise.go .any aD K (n / c (aS .any aD L)) (L.setIfInBounds e f) [])::z)) ah) b:=by intro x au aw U;have:=aw b d aj bQ t z ah ab e (Region.linearise.go .any aD K (n / c (aS .any aD L)) (L.setIfInBounds e f) []) I M;simp only[w7]at this;exact this λZ p Y aq W=>aU _ N a9 a' x p _ au U (aN _ _ _ W Y) aq (b9.trans W) _
   have same:s e=m->∀g,g<aD.size->s g=f->((L.setIfInBounds e f).getD g m=f↔g<k):=wE;cases az:qy e with
   |true=>
    obtain⟨aQ,S⟩:=u.all e B w az;exact aX k b2 (S k) (same aQ)
   |false=>
    have aE:=u.aq e B w az;have a2:br e=br k:=by
     rcases Nat.le_total k e with aH|aH
     .refine u.chain aH λj i ad=>?_;cases X:s j with
      |false=>rfl
      |true=>
       exfalso;rcases u.comp e j aF y X y az with⟨_,aa⟩|⟨aa,_⟩
       .grind
       omega
     refine(u.chain aH λj i ad=>?_).symm;cases X:s j with
     |false=>rfl
     |true=>
      exfalso;have a3:=(C5 j y X).2 ad;by_cases ao:j=e
      .grind
      rcases u.comp e j aF y X (λo=>ao o.symm) az with⟨aa,_⟩|⟨_,aa⟩
      .omega
      grind
    rw[a2]at aE;cases a0:s e with
    |false=>
     rw[u.aZ e a0,a2]at aE;exact aX k b2 aE (same a0)
    |true=>
     refine aX (e+1) y aE λg ag ai=>?_;rw[mH y];by_cases a1:g=e
     .grind
     simp only[a1,false_or];rcases u.comp e g aF ag ai (λo=>a1 o.symm) az with⟨i,aa⟩|⟨i,aa⟩
     .grind
     grind
end
def Ak(P:aI):p TypeDesc->p Field->Nat->Prop
 |[],[],_=>True
 |e::a,b::d,g=>b.name≠ "_"/\b.offset=g/\P.underlying b.type=h e/\(match e with|.int _|.string|.bool=>True|_=>False)/\Ak P a d (g+1)
 |_,_,_=>False
def u9(g:Nat)(b d:Array aa)(a:Field)(_:Option Bool×Unit):Sem (ForInStep (Option Bool×Unit)):=
 if a.name= "_" then pure (ForInStep.yield (q,()))
 else do
  let e<-part a.type b a.offset;let j<-part a.type d a.offset;let i<-aQ g a.type e j
  if i=m then pure (ForInStep.done (h m,()))else pure (ForInStep.yield (q,()))
def LV{P}(l)(v)(ag e):∀{i:p TypeDesc}{j:p Field}{g:Nat}{B x:p aa}{n:Bool},Ak P i j g->ol i B x=h n->(∀r d,B[r]?=h d->ag[g+r]?=h d)->(∀r d,x[r]?=h d->e[g+r]?=h d) ->
  (Op.eqFields (v+1) ag e j).run P l=.ok n l/\∀b,(forIn j (q,()) (u9 (v+1) ag e)).events P l b=b
 |[],[],g,[],[],n,_,k,_,_=>by cases k;simp[Op.eqFields]
 |[],[],g,_::_,_,n,_,k,_,_=>by cases k
 |[],[],g,[],_::_,n,_,k,_,_=>by cases k
 |[],_::_,g,_,_,n,I,_,_,_=>I.elim
 |_::_,[],g,_,_,n,I,_,_,_=>I.elim
 |A::i,o::j,g,[],_,n,_,k,_,_=>by cases k
 |A::i,o::j,g,_::_,[],n,_,k,_,_=>by cases k
 |A::i,o::j,g,d::B,s::K,n,⟨O,T,J,V,W⟩,k,N,Q=>by
  simp[ol]at k;cases w:rL A d s with
  |none=>grind
  |some C=>
   cases U:ol i B K with
   |none=>grind
   |some X=>
    simp[w,U]at k;subst k;obtain⟨H,Z⟩:=LV l v ag e W U (λr d G=>by have:=N (r+1) d M;grind) (λr d G=>by have:=Q (r+1) d M;grind);have E:ag[g]?=h d:=by simpa using N 0 d a
    have D:e[g]?=h s:=by simpa using Q 0 s a
    have R:(isAgg o.type).run P l=.ok m l:=by unfold isAgg underlying;cases A<;>simp at V<;>simp[J]
    have y:∀t u,t[g]?=h u->(part o.type t o.offset).run P l=.ok u l:=by intro t u F;unfold part;simp[R,T,F]
    have S:∀t u,t[g]?=h u->∀b,(part o.type t o.offset).events P l b=b:=by intro t u F b;unfold part;simp[R,T,F]
    have Y:∀b,(aQ (v+1) o.type d s).events P l b=b:=by
     intro b;unfold rL at w;split at w<;>first
      |(cases w;done)
      |(unfold aQ;simp[underlying,J];done)
      |(unfold aQ;simp[underlying,J];split<;>rfl)
    have z:(aQ (v+1) o.type d s).run P l=.ok C l:=by unfold rL at w;grind[run_equalIn_int,run_equalIn_string,run_equalIn_bool]
    refine⟨?_,λb=>?_⟩
    .rw[Op.eqFields.eq_2,bs O];simp[cK,y ag d E,y e s D,z,c7];cases C
     .simp
     grind
    rw[List.forIn_cons];simp[u9,O,dn,aG,cK,y ag d E,y e s D,z,c7,aJ,S ag d E,S e s D,Y];cases C
    .simp
    simpa using Z b
def oq{h_}{bh}(i:P.underlying o=h (.struct h_.toArray))(k:P.stoodInHeld o=m)(t:P.eqGuardType P.depth o=m)(l:Ak P bh h_ 0):
  P.eqGuardType P.depth o=m/\∀d B b e,ol bh B b=h e->(Op.equal o (.agg B.toArray) (.agg b.toArray)).run P d=.ok e d/\∀a,(Op.equal o (.agg B.toArray) (.agg b.toArray)).events P d a=a:=by
 refine⟨t,λd B b e r=>?_⟩;have w:P.fieldsOf o=h_.toArray:=by unfold Program.fieldsOf;rw[i]
 have key:=LV d 9998 B.toArray b.toArray l r (λs v n=>by grind) (λs v n=>by grind);refine⟨?_,λa=>?_⟩
 rotate_left
 .show (aQ (9999+1) o _ _).events P d a=a;have p:=key.2 a;unfold aQ;simp[underlying,i,k];show Result.evThen ((forIn h_ (q,()) (u9 9999 B.toArray b.toArray)).run P d) ((forIn h_ (q,()) (u9 (9998+1) B.toArray b.toArray)).events P d a) _=a;rw[p];cases(forIn h_ (q,()) (u9 9999 B.toArray b.toArray)).run P d with
  |ok j g=>obtain⟨u,_⟩:=j;cases u<;>rfl
  |halt x g=>rfl
 show(aQ (9999+1) o _ _).run P d=_;grind[run_equalIn_agg]
def qp:p TypeDesc->p O->p O->Option Bool
 |[],[],[]=>h f
 |.int _::b,.c (.int k e)::a,.c (.int j g)::d=>match te k j with
  |true=>match qp b a d with
   |some i=>h ((e==g)&&i)
   |none=>q
  |false=>q
 |.string::b,.c (.V e)::a,.c (.V g)::d=>match qp b a d with
  |some i=>h ((e==g)&&i)
  |none=>q
 |.bool::b,.c (.bool e)::a,.c (.bool g)::d=>match qp b a d with
  |some i=>h ((e==g)&&i)
  |none=>q
 |_,_,_=>q
def Cg:∀{j:p TypeDesc}{g k:p O}{z:Bool}{B a:p aa},qp j g k=h z->bN n b B g->bN n b a k->ol j B a=h z:=by
 intro j;induction j with
 |nil=>
  intro g k z B a l s r;cases g<;>cases k<;>simp only[qp,reduceCtorEq]at l
  cases B<;>cases a<;>first|exact s.elim|exact r.elim|exact cU
 |cons J j t=>
  intro g k z B a l s r;unfold qp at l;split at l
  .grind
  .rename_i d w i u A I e dM heq;cases heq;split at l
   .rename_i b2;cases C' b2;split at l
    .rename_i D C;cases l;cases B with
     |nil=>exact s.elim
     |cons x B=>cases a with
      |nil=>exact r.elim
      |cons y a=>
       obtain⟨o,v⟩:=s;obtain⟨w1,w2⟩:=r;cases(show Rd b.u x (.int i u)from o);cases(show Rd b.u y (.int i e)from w1);simp[ol,rL,t C v w2]
    grind
   grind
  .rename_i w u A e dM heq;cases heq;split at l
   .rename_i D C;cases l;cases B with
    |nil=>exact s.elim
    |cons x B=>cases a with
     |nil=>exact r.elim
     |cons y a=>
      obtain⟨o,v⟩:=s;obtain⟨w1,w2⟩:=r;cases(show Rd b.u x (.V u)from o)with
      |V E _=>
      cases(show Rd b.u y (.V e)from w1)with
      |V F _=>
      simp[ol,rL,t C v w2];grind[ByteArray.toList_eq]
   grind
  .rename_i w u A e dM heq;cases heq;split at l
   .rename_i D C;cases l;cases B with
    |nil=>exact s.elim
    |cons x B=>cases a with
     |nil=>exact r.elim
     |cons y a=>
      obtain⟨o,v⟩:=s;obtain⟨w1,w2⟩:=r;cases(show Rd b.u x (.bool u)from o);cases(show Rd b.u y (.bool e)from w1);simp[ol,rL,t C v w2]
   grind
  grind
section
variable {ad:p (Nat×bx)}
def ia:BinOp->Bool->Option Bool
 |.eql,a=>h a
 |.neq,a=>h (!a)
 |_,_=>q
def GF{l X}{Q}{j s}(I:match l,X with|.agg _,.agg _=>True|.bool _,.bool _=>True|_,_=>False)(x:(Op.equal o l X).run P Q=.ok j Q)(u:ia op j=h s):
  (binOp op o l X).run P Q=.ok (.bool s) Q:=by
 cases op<;>simp[ia,reduceCtorEq,eV]at u
 .exact Qj
 exact Qj
def Ix{l X}{Q}{j s}(b:match l,X with|.agg _,.agg _=>True|.bool _,.bool _=>True|_,_=>False)(e:(Op.equal o l X).run P Q=.ok j Q)(a:∀T,(Op.equal o l X).events P Q T=T)(d:ia op j=h s)(T):
  (binOp op o l X).events P Q T=T:=by cases op<;>simp[ia,reduceCtorEq,eV]at d<;>(cases l<;>cases X<;>simp only at b<;>simp[binOp,a])
def Uw(op)(o)(l X)(ag a)(d)(b:P.eqGuardType P.depth o=m)(T):(eqGuard op o l X (.agg ag) (.agg a)).events P d T=T:=by cases op<;>simp[eqGuard,b]
theorem a1.km(aR:bn P ad)(y:t.op=.binOp op o l X ty){e}(r:bZ ad o=h e)(F:e.eq≠[]){ah T}{j s}(J:η l=.q (.agg ah))(I:η X=.q (.agg T))(u:qp e.eq ah T=h j)(C:ia op j=h s):a1 P t η n (ax (.bool s)) n:=by refine .aZ λa K E g=>?_;have b:=g l;have d:=g X;rw[J]at b;rw[I]at d;obtain⟨B,A,p⟩:=b;obtain⟨i,z,k⟩:=d;obtain⟨w,heq⟩:=(aR o e r).iT F;have x:=GF (l:=.agg B.toArray) (X:=.agg i.toArray) v (heq a.a B i j (Cg u p k)).1 C;have D:=Ix (l:=.agg B.toArray) (X:=.agg i.toArray) v (heq a.a B i j (Cg u p k)).1 (heq a.a B i j (Cg u p k)).2 C;refine⟨.bool s,?_,Rd.bool,by simp[ac,y,A,z,aG,run_eqGuard_agg a.a op o l X _ _ w,Uw op o l X _ _ a.a w,aJ,cK,c7,x,D,Sem.events_pure]⟩;simp[ac,y,A,z,cK,run_eqGuard_agg a.a op o l X _ _ w,c7,x,d9]
theorem a1.iD(aR:bn P ad)(y:t.op=.binOp op o l X ty){e}(r:bZ ad o=h e)(E:e.desc=.bool){g j s}(I:η l=ax (.bool g))(F:η X=ax (.bool j))(A:ia op (g==j)=h s):a1 P t η n (ax (.bool s)) n:=by
 refine .aZ λi p C k=>?_;have b:=k l;have d:=k X;rw[I]at b;rw[F]at d;replace b:=b8 b;replace d:=b8 d;generalize x:p l=J at b;generalize z:p X=K at d;cases b;cases d;have u:P.underlying o=h .bool:=by rw[(aR o e r).eN,E]
 have w:=GF (P:=P) (Q:=i.a) (l:=.bool g) (X:=.bool j) v (run_equal_bool i.a o g j u) A;have D:∀a,(Op.equal o (.bool g) (.bool j)).events P i.a a=a:=λa=>by show(aQ (9999+1) o _ _).events P i.a a=a;unfold aQ;simp[underlying,u]
 have B:=Ix (P:=P) (Q:=i.a) (l:=.bool g) (X:=.bool j) v (run_equal_bool i.a o g j u) D A;refine⟨.bool s,?_,Rd.bool,by simp[ac,y,x,z,aG,eqGuard_at_bool,Sem.events_pure,d9,aJ,cK,c7,w,B]⟩;simp[ac,y,x,z,cK,eqGuard_at_bool,d9,c7,w]
def a1.kt(s:t.op=.binOp .xor o l X ty){a j}(B:η l=ax (.int .i64 a))(A:η X=ax (.int .i64 j))(I:0<=a)(w:0<=j):
  a1 P t η n (ax (.int .i64 ((a.toNat ^^^ j.toNat:Nat):Int))) n:=by
 refine .aZ λu k x i=>?_;have b:=i l;have d:=i X;rw[B]at b;rw[A]at d;replace b:=b8 b;replace d:=b8 d;generalize p:k l=C at b;generalize r:k X=D at d;cases b with|int e=>
 cases d with|int g=>
 have F:a.toNat ^^^ j.toNat<2 ^ 63:=by apply Nat.xor_lt_two_pow<;>simp[a8]at e g<;>omega
 have y:a8 .i64 ((a.toNat ^^^ j.toNat:Nat):Int):=cU;refine⟨.int .i64 ((a.toNat ^^^ j.toNat:Nat):Int),?_,.int y,?_⟩
 rotate_left
 .simp only[ac,s,p,r,aG,qq,x3,aJ,Go.binOp,d_,hx,dn,Op.intBits,cK,c7,d9,Sem.events_pure]
 have v:((BitVec.ofInt 64 a) ^^^ (BitVec.ofInt 64 j)).toNat=a.toNat ^^^ j.toNat:=by rw[BitVec.toNat_xor,BitVec.toNat_ofInt,BitVec.toNat_ofInt];simp[a8]at e g;congr 1<;>omega
 have E:(BitVec.ofInt IntKind.i64.bits a ^^^ BitVec.ofInt IntKind.i64.bits j).toNat=a.toNat ^^^ j.toNat:=v;have z:(Go.binOp .xor o (.int .i64 a) (.int .i64 j)).run P u.a=.ok (.int .i64 ((a.toNat ^^^ j.toNat:Nat):Int)) u.a:=by simp only[Go.binOp,d_,hx,dn,Op.intBits,d9];grind[sc]
 simp only[ac,s,p,r,cK,qq,c7,z,d9]
def a1.iK(aR:bn P ad){d dst}(S:t.op=.convert d dst l){e ce a5}(F:bZ ad d=h e)(O:bZ ad dst=h ce)(Y:e.desc=.slice W)(ai:ce.desc=.string)(L:bZ ad W=h a5)(ak:a5.desc=.int .u8){eT}{u}(Z:∀g R,bz n g R (η l)->Rd g.u R (.S eT 1 k T))(E:uV T 0 k=h u):a1 P t η n (ax (.V u)) n:=by
 refine .dy λg an r J=>?_;have i:=Z g _ (J l);obtain⟨B,H,j⟩:=oN (P:=P) r i;obtain⟨x,o,au,s,ao,ar,_⟩:=i.b1;have G:k<=9223372036854775807:=y;have aj:c B=k:=by rw[H.len];omega
 obtain⟨v,C,ab⟩:=GW (bE:=g.u) (B:=B) E aj (λag I aa av=>by
  obtain⟨R,aN,ah⟩:=H.rd ag I 0 aa M
  grind)
 have z:=(aR d e F).run_underlying (Q:=g.a);have D:=(aR dst ce O).run_underlying (Q:=g.a);have K:=(aR W a5 L).run_underlying (Q:=g.a);rw[Y]at z;rw[ai]at D;rw[ak]at K;have X:c u<=9223372036854775807:=M;have ae:∃w:ByteArray,(Conv.bytesToString (.slice x k o)).run P g.a=.ok (.string w) g.a/\w.data.toList=u:=by
  cases x with
  |none=>
   have aq:u=[]:=by
    have:B=[]:=by rw[s]at j;have b:=j.1;simp[Builtin.firstCells]at b;grind
    grind
   exact⟨ByteArray.empty,by simp[Conv.bytesToString],by exact bw⟩
  |some A=>
   rw[s]at j;have b:=j.1;simp[Builtin.firstCells,Nat.mul_one]at b;refine⟨⟨#[]++(v.map λl=>UInt8.ofNat l.toNat).toArray⟩,?_,by grind⟩;simp only[Conv.bytesToString,cK,b,c7,C];rw[List.forIn_toArray,LW (P:=P) g.a (λ_ _=>rfl) v ByteArray.empty];rfl
 obtain⟨w,V,N⟩:=ae;refine⟨.string w,?_,Rd.V N X,?_⟩
 rotate_left
 .intro aw p;simp only[ac,S,s,aG,convert,z,D,aJ,c7,K,V,cK,events_underlying,Sem.events_pure]at p;cases x with
  |none=>simp[Conv.bytesToString]at p
  |some A=>
   have U:=s0 (P:=P) r (i.cD (λ_ _=>rfl)) (Q:=g.a) a;rw[s]at j U;have b:=j.1;simp only[Builtin.firstCells,Nat.mul_one]at b U;unfold Conv.bytesToString at p;simp only at p;rw[aG,b,aJ,dE.bind (P:=P) ?_ λ_=>.pure]at p
   .grind [tB]
   rw[List.forIn_toArray];refine dE.hi (λl g=>?_) _ _;split
   .exact .pure
   exact .bind .stuck λ_=>.pure
 simp only[ac,S,s,cK,convert,z,D,c7,K,V,d9]
end
def rH(a:aA->z):p aA->Option (p N)
 |[]=>h []
 |g::e=>match a g with
  |.q (.aq (.c b))=>match rH a e with
   |some d=>h (b::d)
   |none=>q
  |_=>q
def BV{n}{b}{e:aA->aa}{j:aA->z}(o:∀t,bz n b (e t) (j t)):∀{d:p aA}{a:p N},rH j d=h a->c d=c a/\∀(i:Nat)k,a[i]?=h k->∃r,(d.map e)[i]?=h r/\Rd b.u r k
 |[],a,g=>by cases g;grind
 |s::B,a,g=>by
  simp[rH]at g;split at g
  .rename_i k v;split at g
   .rename_i A u;cases g;obtain⟨x,w⟩:=BV o u;refine⟨by grind,λi y l=>?_⟩;cases i with
    |zero=>
     simp at l;subst l;have:=o s;rw[v]at this;exact⟨e s,by simp,b8 this⟩
    |succ i=>grind
   grind
  grind
section
variable {ad:p (Nat×bx)}
theorem a1.makeFunc{fn}{b j}(l:t.op=.makeFunc fn b j){k i}(r:rH η b.toList=h k)(e:rH η j.toList=h i):a1 P t η n (ax (.fn fn k i)) n:=by
 refine .aZ λy a s d=>?_;obtain⟨o,p⟩:=BV d r;obtain⟨w,x⟩:=BV d e;have u:b.map a=(b.toList.map a).toArray:=M;have v:j.map a=(j.toList.map a).toArray:=M;refine⟨.func fn (b.toList.map a).toArray (j.toList.map a).toArray,?_,?_,by simp only[ac,l,Instr.makeFunc];rfl⟩
 .simp only[ac,l,Instr.makeFunc,u,v];rfl
 refine Rd.fn _ _ M M (λg=>((b.toList.map a)[g]?).getD K) (λg=>((j.toList.map a)[g]?).getD K) M M M ?_;grind
def vr:TypeDesc->Bool
 |.interface _=>f
 |_=>m
def yH(b:av):z->Option N
 |.q (.aq (.c d))=>h (.cg b d)
 |.q (.agg a)=>match h7 a with
  |some e=>h (.cG b e)
  |none=>q
 |_=>q
def aaR{g}{s}(a:yH o g=h s)(d:bz n b ab g):Rd b.u (.iface o ab) s:=by
 unfold yH at a;split at a
 .cases a;exact Rd.cg (b8 d) (b8 d).cell
 .split at a
  .rename_i r i;cases a;obtain⟨B,rfl,k⟩:=d;have e:=rI i k;refine Rd.cG (by have:=e.cN;grind) (λw=>(B[w]?).getD K) (λw j=>by grind) λw s j=>?_;obtain⟨ab,p,l⟩:=e.get (w:=w) (x:=.c s) M;rw[p];exact l
  grind
 grind
theorem a1.makeInterface(aR:bn P ad){o}{l}(k:t.op=.makeInterface o l){e}(d:bZ ad o=h e)(a:vr e.desc=m){s}(p:yH o (η l)=h s):a1 P t η n (ax s) n:=by
 refine .aZ λu i r g=>?_;have j:=(aR o e d).run_underlying (Q:=u.a);refine⟨.iface o (i l),?_,aaR p (g l),?_⟩
 rotate_left
 .simp only[ac,k,Instr.makeInterface,aG,cK,j,aJ,c7,events_underlying];cases b:e.desc<;>rw[b]at a<;>first|(cases a;done)|simp
 simp[ac,k,Instr.makeInterface,cK,j,c7];cases b:e.desc<;>rw[b]at a<;>first|(cases a;done)|simp
def t1(a:bx):Option E1:=match a.agg with
 |true=>h (.agg (a.zero.map O.c))
 |false=>q
def afe{e}(p:dS P o e){k}(g:t1 e=h k):∃a,(zeroValue o).run P b.a=.ok a b.a/\ey n b a k:=by
 obtain⟨a,v,j⟩:=p.h2 n b;refine⟨a,v,?_⟩;obtain⟨w,l,u,x,A,t,y,⟨i,d⟩,z⟩:=p.de;have r:l=a:=by
  have:(zeroValue o).run P b.a=.ok l b.a:=by simp[zeroValue,typeInfo,u,t]
  grind
 subst r;unfold t1 at g;cases s:e.agg with
 |true=>
  rw[s]at g d;simp[dJ]at d;cases g;rw[d]at j⊢;exact⟨i.toList,by simp,by simpa[Value.cells]using j⟩
 |false=>grind
def sJ(g:av)(e:bx):N->Option (E1×Bool)
 |.cg a i=>match af a g with
  |true=>h (.aq (.c i),f)
  |false=>match t1 e with
   |some b=>h (b,m)
   |none=>q
 |.cG a d=>match af a g with
  |true=>h (.agg (d.map O.c),f)
  |false=>match t1 e with
   |some b=>h (b,m)
   |none=>q
 |.bq=>match t1 e with
  |some b=>h (b,m)
  |none=>q
 |_=>q
theorem a1.typeAssert(aR:bn P ad){l}{S o}(aa:t.op=.typeAssert l S o f){e}(N:bZ ad o=h e)(z:vr e.desc=m){s}(H:η l=ax s){y}{j}(i:sJ o e s=h (y,j)):
  a1 P t η n (.Q [y,.aq (.c (.bool j))]) n:=by
 refine .aZ λb x ah V=>?_;have k:=V l;rw[H]at k;replace k:=b8 k;generalize ae:x l=A at k;have F:=(aR o e N).run_underlying (Q:=b.a);have key:∀r j,(Instr.typeAssert A S o f).run P b.a=.ok (.tuple #[r,.bool j]) b.a->ey n b r y->(Instr.typeAssert A S o f).events P b.a #[]=#[]->∃r,(ac x t).run P b.a=.ok (.value r) b.a/\bz n b r (.Q [y,.aq (.c (.bool j))])/\(ac x t).events P b.a #[]=#[]:=by intro r j k C p;refine⟨.tuple #[r,.bool j],?_,⟨[r,.bool j],a,C,Rd.bool,v⟩,by simp[ac,aa,ae,aG,k,p,aJ,Sem.events_pure]⟩;simp[ac,aa,ae,cK,k,c7,d9]
 have fail:∀I,t1 e=h I->(∀J,(zeroValue o).run P b.a=.ok J b.a->(Instr.typeAssert A S o f).run P b.a=.ok (.tuple #[J,.bool m]) b.a/\(Instr.typeAssert A S o f).events P b.a #[]=#[])->y=I->j=m->∃r,(ac x t).run P b.a=.ok (.value r) b.a/\bz n b r (.Q [y,.aq (.c (.bool j))])/\(ac x t).events P b.a #[]=#[]:=by intro I D ak aj g;subst aj g;obtain⟨J,p,ao⟩:=afe (n:=n) (aR o e N) (b:=b) D;grind
 have E:∀ab,e.desc≠.interface ab:=by intro ab y;rw[y]at z;cases z
 cases k with
 |@cg w r s C ag=>
  simp[sJ]at i;cases g:af w o with
  |true=>
   rw[g]at i;cases i;have U:=dp g;subst U;refine key r f ?_ C ?_<;>
   .unfold Instr.typeAssert;simp only[cK,F,c7,aG,aJ,events_underlying];cases u:e.desc<;>first|(exact absurd u (E _))|simp
  |false=>
   rw[g]at i;have X:w≠o:=λy=>by grind[Nat.beq_refl]
   simp only at i;split at i
   .rename_i I D;cases i;refine fail _ D (λJ p=>⟨?_,?_⟩) a a<;>
    .unfold Instr.typeAssert;simp only[cK,F,c7,aG,aJ,events_underlying];cases u:e.desc<;>first|(exact absurd u (E _))|simp[X,p]
   grind
 |@cG w B d R aq an G=>
  simp only[sJ]at i;cases g:af w o with
  |true=>
   rw[g]at i;cases i;have U:=dp g;subst U;refine key (.agg B.toArray) f ?_ ⟨B,a,?_⟩ ?_
   rotate_left 2
   .unfold Instr.typeAssert;simp only[F,aG,aJ,events_underlying];cases u:e.desc<;>first|(exact absurd u (E _))|simp
   .unfold Instr.typeAssert;simp only[cK,F,c7];cases u:e.desc<;>first|(exact absurd u (E _))|simp
   have go:∀B d,c B=c d->(∀(T:Nat) s,d[T]?=h s->∃r,B[T]?=h r/\Rd b.u r s)->bN n b B (d.map O.c):=by
    intro B;induction B with
    |nil=>intro d R _;cases d with|nil=>trivial|cons _ _=>grind
    |cons r B W=>
     intro d R K;cases d with
     |nil=>grind
     |cons s d=>
      obtain⟨ar,Z,Y⟩:=K 0 s rfl;simp at Z;subst Z;exact⟨Y,W d M (λT s ai=>by simpa using K (T+1) s M)⟩
   grind
  |false=>
   rw[g]at i;have X:w≠o:=λy=>by grind[Nat.beq_refl]
   simp only at i;split at i
   .rename_i I D;cases i;refine fail _ D (λJ p=>⟨?_,?_⟩) a a<;>
    .unfold Instr.typeAssert;simp only[cK,F,c7,aG,aJ,events_underlying];cases u:e.desc<;>first|(exact absurd u (E _))|simp[X,p]
   grind
 |bq=>
  simp only[sJ]at i;split at i
  .rename_i I D;cases i;refine fail _ D (λJ p=>⟨?_,?_⟩) a a<;>
   .unfold Instr.typeAssert;simp only[cK,F,c7,aG,aJ,events_underlying];cases u:e.desc<;>first|(exact absurd u (E _))|simp[p]
  grind
 |_=>simp[sJ]at i
end
def uQ(e:BinOp)(g:IntKind)(d:Int)(b:IntKind)(a:Int):Option (Int×p Prop):=
 match g with
 |.u64=>match e with
  |.shl=>h (((d.toNat*2 ^ a.toNat % 18446744073709551616:Nat):Int),[0<=a,a<=64])
  |.shr=>h (((d.toNat / 2 ^ a.toNat:Nat):Int),[0<=a,a<=64])
  |.and=>match b with|.u64=>h (((d.toNat &&& a.toNat:Nat):Int),[])|_=>q
  |.xor=>match b with|.u64=>h (((d.toNat ^^^ a.toNat:Nat):Int),[])|_=>q
  |_=>q
 |_=>q
section
variable {ad:p (Nat×bx)}
theorem GI{a}(b:a8 .u64 a):(BitVec.ofInt IntKind.u64.bits a).toNat=a.toNat:=by rw[BitVec.toNat_ofInt];simp[a8]at b;simp[IntKind.bits];omega
def aca{i d}{a j s}(o)(b:uQ op i a d j=h (s,ck))(e:U ck)(g:a8 i a)(r:a8 d j)(k):
  a8 i s/\(Go.binOp op o (.int i a) (.int d j)).run P k=.ok (.int i s) k/\(Go.binOp op o (.int i a) (.int d j)).events P k #[]=#[]:=by
 unfold uQ at b;split at b
 .split at b
  .cases b;obtain⟨p,n⟩:0<=j/\j<=64:=e;have w:a.toNat*2 ^ j.toNat % 18446744073709551616<18446744073709551616:=p' _ cc;simp[a8]at g;refine⟨by simp[a8];omega,?_⟩;have u:IntKind.wrap .u64 (a*2 ^ (min j.toNat IntKind.u64.bits))=((a.toNat*2 ^ j.toNat % 18446744073709551616:Nat):Int):=by have l:min j.toNat IntKind.u64.bits=j.toNat:=Rr;have t:a=(a.toNat:Int):=y;rw[l,t];simp only[IntKind.wrap,IntKind.bits,IntKind.signed,c9];grind
   exact Pt
  .cases b;obtain⟨p,n⟩:0<=j/\j<=64:=e;simp[a8]at g;have v:a.toNat / 2 ^ j.toNat<=a.toNat:=Nat.div_le_self _ _;refine⟨by simp[a8];grind,?_⟩;have u:a.fdiv (2 ^ (min j.toNat IntKind.u64.bits))=((a.toNat / 2 ^ j.toNat:Nat):Int):=by have l:min j.toNat IntKind.u64.bits=j.toNat:=Rr;grind
   exact Pt
  .split at b
   .cases b;have n:a.toNat &&& j.toNat<=a.toNat:=Nat.and_le_left;have I:a8 .u64 ((a.toNat &&& j.toNat:Nat):Int):=by simp[a8]at g⊢;omega
    refine⟨I,?_⟩;have ai:(BitVec.ofInt IntKind.u64.bits a &&& BitVec.ofInt IntKind.u64.bits j).toNat=a.toNat &&& j.toNat:=by grind[GI]
    exact Px
   grind
  .split at b
   .cases b;have I:a8 .u64 ((a.toNat ^^^ j.toNat:Nat):Int):=by simp[a8]at g r⊢;have:a.toNat ^^^ j.toNat<2 ^ 64:=Nat.xor_lt_two_pow y y;omega
    refine⟨I,?_⟩;have ai:(BitVec.ofInt IntKind.u64.bits a ^^^ BitVec.ofInt IntKind.u64.bits j).toNat=a.toNat ^^^ j.toNat:=by grind[GI]
    exact Px
   grind
  grind
 grind
theorem a1.bits{i e}{u j s}(y:t.op=.binOp op o l X ty)(E:η l=ax (.int i u))(C:η X=ax (.int e j))(B:uQ op i u e j=h (s,ck))(r:U ck):
  a1 P t η n (ax (.int i s)) n:=by
 refine .aZ λF g z d=>?_;have a:=d l;have b:=d X;rw[E]at a;rw[C]at b;replace a:=b8 a;replace b:=b8 b;generalize v:g l=I at a;generalize w:g X=J at b;cases a with|int k=>
 cases b with|int p=>
 obtain⟨D,x,A⟩:=aca (P:=P) o B r k p F.a;exact⟨.int i s,by simp[ac,y,cK,v,w,qq,c7,x,d9],.int D,by simp[ac,y,v,w,qq,x3,x,A]⟩
end
def lu(e:Nat)(a:p N)(b:Nat->p N):Nat->p N:=λd=>if d=e then a else b d
def nR(e b:Nat)(g:p N)(a:Nat->p N):Nat->p N:=λd=>if e<=d/\d<b then g else a d
section
variable {ad:p (Nat×bx)}{C:Nat}{i:Nat}
def GR(z:bc n b)(r:n[d]?=h (.h W i k T)){l s}(x:cA n b ab (.R d (.bz C l e s)))(E:C=k):
  ∃g j B a,b.m[d]?=h ⟨.slice (h ⟨g,0,q⟩) 0 j,[g]⟩/\ab=.pointer (h ⟨g,e*l+s,q⟩)/\b.a.heap[g]?=h (.cells (B++a).toArray W (0,0))/\c (B++a)=j*i/\k<=j/\j<=9223372036854775807/\e2 b.u i k T B/\∀v,b.u g v=q:=by
 obtain⟨I,⟨g,j,u,y⟩,_,O⟩:=x;obtain⟨L,t,p⟩:=(O _ _ _ _ r).2 E;rw[u]at p;rcases z.box d _ L r t with⟨_,rfl⟩|⟨N,g7,B,a,rfl,X,o,F,w,D,A⟩
 .cases p
 cases p;exact⟨g,j,B,a,t,y,X,o,F,w,D,A⟩
def D1{C:Nat->aa}:∀{bh:p N}{A:Nat},(∀d e,bh[d]?=h e->Rd b.u (C (A+d)) e)->bN n b ((aC (c bh)).map λd=>C (A+d)) (bh.map O.c)
 |[],A,_=>trivial
 |i::bh,A,g=>by rw[fp,wU];refine⟨g 0 i a,?_⟩;have:=D1 (bh:=bh) (A:=A+1) (λd e j=>by have:=g (d+1) e M;rwa [show A+1+d=A+(d+1) by omega]);grind[Function.comp_def]
theorem a1.jm(aR:bn P ad)(K:t.op=.indexAddr o l X){e a5}(j:bZ ad o=h e)(N:e.desc=.slice W)(z:bZ ad W=h a5){r}{w}{k}(H:η l=cD d (.S C a5.size r A))(E:η X=ax (.int k w))(ab:0<=w)(M:w<A):a1 P t η n (cD d (.bz C a5.size (r+w.toNat) 0)) n:=by
 refine .aZ λD g R b=>?_;have B:=b l;rw[H]at B;have a:=b X;rw[E]at a;replace a:=b8 a;generalize O:g X=Y at a;cases a;have x:=B;change cA n D (g l) (.R d _)at x;obtain⟨p,⟨ae,J,v,I,F,L,G,aa,Z,U⟩,T,S⟩:=x;obtain⟨u,rfl,rfl⟩:=U y;have s:=(aR o e j).run_underlying (Q:=D.a);rw[N]at s;obtain⟨i,rfl⟩:∃i:Nat,w=i:=⟨w.toNat,by omega⟩
 have V:i<A:=y;refine⟨.pointer (h ⟨u,(r+i)*a5.size,q⟩),?_,⟨p,⟨u,I,Z,by simp⟩,T,S⟩,?_⟩<;>
 simp[ac,K,F,O,Instr.indexAt,asIntOf,s,(aR W a5 z).bc,gY,V,jL]
def a1.i_(aR:bn P ad){r}(s:t.op=.fieldAddr o l r){A i}{w}(F:η l=cD d (.bz C A e i))(u:lj ad o r=h (off,w)):a1 P t η n (cD d (.bz C A e (i+off))) n:=by refine .aZ λD j z b=>?_;have a:=b l;rw[F]at a;have k:=a;change cA n D (j l) (.R d _)at k;obtain⟨g,⟨p,E,B,v⟩,y,x⟩:=k;exact⟨.pointer (h ⟨p,e*A+i+off,q⟩),by simp[ac,s,v,y9 aR u],⟨g,⟨p,E,B,by grind⟩,y,x⟩,by simp[ac,s,v,x4 aR u]⟩
theorem a1.jI(o:t.op=.nilCheck l){k p}(v:η l=cD d (.bz C k e p)):a1 P t η n (cD d (.bz C k e p)) n:=by refine .aZ λw b s g=>?_;have a:=g l;rw[v]at a;have r:=a;have i:=a;change cA n w (b l) (.R d _)at i;obtain⟨u,⟨x,B,A,j⟩,z,y⟩:=i;exact⟨b l,by simp[ac,o,j],r,by simp[ac,o,j]⟩
theorem a1.ju(aR:bn P ad)(v:t.op=.call {callee:=.builtin .len,args:=#[l],argTypes:=du})(O:du[0]?=h o){e}(b:bZ ad o=h e)(u:e.desc=.slice W){D y}(N:η l=cD d (.S C D y A)):a1 P t η n (ax (.int .i64 A)) n:=by
 refine .aZ λr i w g=>?_;have a:=g l;rw[N]at a;have j:=a;change cA n r (i l) (.R d _)at j;obtain⟨x,⟨F,s,k,z,B,S,M,E,R,K⟩,J,I⟩:=j;have p:=(aR o e b).run_underlying (Q:=r.a);rw[u]at p;refine⟨.int .i64 A,?_,Rd.int cU,?_⟩<;>
 simp[ac,v,resolve,invoke,builtin,Builtin.len_,B,p,goInt,O]
theorem a1.sliceB(aR:bn P ad){e0 bq}(J:t.op=.slice o l e0 bq q){e a5}(X:bZ ad o=h e)(N:e.desc=.slice W)(z:bZ ad W=h a5){M}{k v}(H:η l=cD d (.S C a5.size M A))(s:kM η e0=h k)(O:kM η bq=h v)(u:U (jl A k v)):a1 P t η n (cD d (.S C a5.size (M+bT 0 k) (bT A v-bT 0 k))) n:=by
 refine .aZ λg D S b=>?_;have p:=b l;rw[H]at p;have I:=p;change cA n g (D l) (.R d _)at I;obtain⟨B,⟨F,w,i,R,E,K,ab,aa,Z,Y⟩,V,T⟩:=I;obtain⟨r,ae,G⟩:=vW (P:=P) (ks:=f) K (kl b s) (kl b O) u g.a;have x:=(aR o e X).run_underlying (Q:=g.a);rw[N]at x;refine⟨.slice (if i=bT 0 k then F else F.map (·.add (bT 0 k*a5.size))) (bT A v-bT 0 k) (i-bT 0 k),?_,⟨B,⟨_,w,_,R,a,by omega,by omega,aa,Z,λag=>?_⟩,V,T⟩,by simp[ac,J,E,Instr.sliceAt,x,Instr.slice,r,u' (P:=P) (ks:=f) K (kl b s) (kl b O) u g.a]⟩
 .simp[ac,J,E,Instr.sliceAt,x,Instr.slice,r,(aR W a5 z).bc]
 obtain⟨j,rfl,rfl⟩:=Y y;exact Qp
def a1.e9(aR:bn P ad)(u:t.op=.load o l){p}{F}{ai}(ae:η l=cD d (.bz C i e p))(D:C=k)(J:n[d]?=h (.h W i k T))(y:bZ ad o=h F)(S:hi F ((f_ p (T e)).map O.c)=h ai)(Y:e<k):a1 P t η n (.q ai) n:=by
 refine .dy λb R I Q=>?_;have x:=Q l;rw[ae]at x;obtain⟨j,au,B,aq,ab,G,ag,H,an,L,z,ao⟩:=GR I J x D;have aN:=z.bI e Y;let C:Nat->aa:=λa=>B.getD (e*i+a) K;have D:∀a s,(f_ p (T e))[a]?=h s->B[e*i+(p+a)]?=h (C (p+a))/\Rd b.u (C (p+a)) s:=by intro a s g;rw[rK,p_]at g;obtain⟨v,ak,ar⟩:=z.rd e Y (p+a) s g;grind
 have N:=D1 (n:=n) (b:=b) (C:=C) (bh:=f_ p (T e)) (A:=p) (λa s g=>(D a s g).2);have U:∀a v,((aC (c (f_ p (T e)))).map λa=>C (p+a))[a]?=h v->b.a.cell? ⟨j,e*i+p+a,q⟩=h v:=by
  intro a v g;simp[nf]at g;by_cases V:a<c (f_ p (T e))
  .simp[V]at g;subst g;have ah:=(D a _ (bK V)).1;simp[aL,ag];grind
  grind
 obtain⟨v,X,Z⟩:=tF (b:=b) (n:=n) (P:=P) (aR o F y) (j:=j) (off:=e*i+p) (ai:=ai) U N S;refine⟨v,by simp[ac,u,G,Instr.loadAt,Instr.sureAddr,X],Z,λw r=>?_⟩;have aj:w∈(loadVar o ⟨j,e*i+p,q⟩).events P b.a #[]:=by have ai:ac R t=(do pure (.value (<-loadVar o ⟨j,e*i+p,q⟩))):=Rj;rw[ai]at r;simpa[X]using r
 obtain⟨a,g,rfl⟩:=pf (aR o F y) (k:=c (f_ p (T e))) (λa g=>⟨_,U a (C (p+a)) M⟩) (by have:=sb S;grind) w aj;exact qr (b_ ab) E
def e2.put{jC}{b}{gK ci}(o:e2 bE i k T B)(r:e<k)(J:iZ b gK (T e)=h ci)(A:c jC=c gK)(E:∀(g:Nat)n,gK[g]?=h n->∃ab,jC[g]?=h ab/\Rd bE ab n):
  e*i+b+c jC<=c B/\e2 bE i k (lu e ci T) (B.take (e*i+b)++jC++B.drop (e*i+b+c jC)):=by
 obtain⟨x,u⟩:=En J;have Q:=o.bI e r;have z:e*i+i<=k*i:=by have:=g5 i (show e+1<=k by omega);grind
 have N:=o.len;have D:e*i+b+c jC<=c B:=y;have I:∀j,(B.take (e*i+b)++jC++B.drop (e*i+b+c jC))[j]?=if j<e*i+b then B[j]? else if j<e*i+b+c jC then jC[j-(e*i+b)]? else B[j]?:=by
  intro j;have l:c (B.take (e*i+b))=e*i+b:=M;by_cases p:j<e*i+b
  .grind
  rw[bm p];by_cases t:j<e*i+b+c jC
  .grind
  rw[bm t,hn M,p_];grind
 refine⟨D,⟨by grind,λd s=>?_,λd s g n a=>?_⟩⟩
 .simp only[lu];split
  .grind
  exact o.bI d s
 simp[lu]at a;rw[I];split at a
 .rename_i w;subst w;rw[u]at a;by_cases p:g<b
  .rw[mu,kb M,iq,bs p]at a;rw[bs y];exact o.rd d r g n a
  by_cases t:g<b+c gK
  .rw[mu,hn M,kb M]at a;obtain⟨ab,v,F⟩:=E _ n a;refine⟨ab,?_,F⟩;rw[bm y,bs y,<-v];congr 1;grind
  rw[hn M,p_]at a;rw[bm y,bm y];refine o.rd d r g n ?_;grind
 rename_i w;have O:g<i:=by have:=(cQ.1 a).1;have:=o.bI d s;omega
 rcases dZ d e with C|K
 .have:(d+1)*i<=e*i:=g5 i C;rw[jL,Nat.one_mul]at this;rw[bs y];exact o.rd d s g n a
 have:(e+1)*i<=d*i:=g5 i y;rw[jL,Nat.one_mul]at this;rw[bm y,bm y];exact o.rd d s g n a
def bc.gE(s:bc n b)(u:n[d]?=h (.h W i k T)){r o}{e}(Q:b.m[d]?=h ⟨.slice (h ⟨j,0,q⟩) 0 e,[j]⟩)(X:c (B++r)=e*i)(F:k<=e)(I:e<=9223372036854775807){g:Nat->p N}(w:b.a.heap[j]?=h (.cells (B++r).toArray W (0,0)))(O:e2 b.u i k g o)(V:c o=c B)(J:∀D,b.u j D=q):
  bc (n.set d (.h W i k g)) {b with a:=b.a.setRow j (o++r).toArray}/\cP n b (n.set d (.h W i k g)) {b with a:=b.a.setRow j (o++r).toArray}:=by
 have C:(b.a.setRow j (o++r).toArray).heap[j]?=h (.cells (o++r).toArray W (0,0)):=setRow_heap b.a j _ _ W _ w;have A:∀l,l≠j->(b.a.setRow j (o++r).toArray).heap[l]?=b.a.heap[l]?:=λl t=>setRow_other b.a j l _ t;have S:b.m.set d ⟨.slice (h ⟨j,0,q⟩) 0 e,[j]⟩=b.m:=m4;obtain⟨G,R⟩:=s.b' (cf:=b.u) (bi:=b.a.setRow j (o++r).toArray) (ec:=.h W i k g) (cr:=⟨.slice (h ⟨j,0,q⟩) 0 e,[j]⟩) u Q ⟨λ_=>rfl,bB _⟩ E
  (λl t y=>A l M) (λ_ _ _ _=>rfl) (λ_ _ _ x=>x) (λl v K z=>by
   have U:l≠j:=M;have:=s.mem l v K z;rw[<-this];simp[aL]
   grind) (λl t=>⟨.inl t,by grind⟩) a a a
  (.inr ⟨j,e,o,r,rfl,C,by grind,F,I,O,J⟩)
 grind
def Mj{e:Type}:∀{new d:p e},c new=c d->iZ 0 new d=h new
 |[],[],_=>rfl
 |[],_::_,g=>by grind
 |_::_,[],g=>by grind
 |j::b,i::a,g=>by simp[iZ,Mj (new:=b) (d:=a) M]
def a1.h9(aR:bn P ad)(U:t.op=.store o l X){j}{z}{new}{gK ci}(ak:η l=cD d (.bz C i e j))(ah:C=k)(w:n[d]?=h (.h W i k T))(v:bZ ad o=h z)(aj:my (η X)=h new)(J:c new=z.size)(G:h7 new=h gK)(F:c (T e)=i->iZ j gK (T e)=h ci)(Z:e<k):
  a1 P t η n .any (n.set d (.h W i k (lu e ci T))):=by
 intro D b u x;have s:=x l;rw[ak]at s;obtain⟨y,an,B,p,R,aN,I,H,ab,ae,S,Q⟩:=GR u w s ah;have A:=u0 aj (x X);have O:=rI G A;have L:=bN.eZ O;have ar:(b X).cells.toList.length=c gK:=by have:=O.cN;grind
 replace F:=F (S.bI e Z);obtain⟨aw,K⟩:=S.put Z F ar L;have Y:(b X).cells.size=z.size:=by rw[<-J,<-A.cN,nc]
 obtain⟨ai,ag⟩:=u.gE w R H ab ae I K M Q;have V:=run_storeCells_at P y (e*i+j) W (b X).cells.toList 0 (B++p).toArray D.a I M A.cell;have aa:((B++p).toArray.toList.take (e*i+j+0)++(b X).cells.toList++(B++p).toArray.toList.drop (e*i+j+0+(b X).cells.toList.length))=B.take (e*i+j)++(b X).cells.toList++B.drop (e*i+j+(b X).cells.toList.length)++p:=M;rw[aa]at V;refine⟨.skip,_,?_,a,ai,ag,?_⟩
 .simp[ac,U,aN,Instr.storeAt,Instr.sureAddr,storeVar,(aR o z v).bc,Y,V]
 intro r g;have ao:ac b t=(do storeVar o ⟨y,e*i+j,q⟩ (b X);pure .skip):=by simp[ac,U,aN,Instr.storeAt,Instr.sureAddr]
 rw[ao]at g;have aq:r∈(storeCells ⟨y,e*i+j,q⟩ (b X).cells.toList).events P D.a #[]:=by
  simp[storeVar,aG,(aR o z v).bc,Y,aJ,events_sizeOf,d_,hx,dn,cK,c7,Sem.events_pure]at g;generalize(storeCells ⟨y,e*i+j,q⟩ (b X).cells.toList).run P D.a=au at g;cases au with
  |ok az N=>simpa using g
  |halt l N=>simpa using g
 rcases nm (b X).cells.toList 0 (B++p).toArray D.a #[] I M A.cell r aq with av|⟨ax,_,_,rfl⟩
 .grind
 exact om (b_ R) E (Q _)
end
section
def bc.fy(k:bc n b)(r:∀a,b.u j a=q)(s:∀a e,B[a]?=h e->b.a.cell? ⟨j,a,q⟩=h e):
  bc (n.map λ_=>.x) {b with u:=λd a=>if d=j then B[a]? else b.u d a}/\∀d a e,b.u d a=h e->(if d=j then B[a]? else b.u d a)=h e:=by
 have g:=k.d_;refine⟨⟨λd a e i=>?_,g.len,λt p L aE o=>?_,g.a3,g.lt,g.own⟩,λd a e i=>?_⟩
 .by_cases l:d=j
  .grind
  simp[l,dn]at i;exact g.mem d a e i
 .have:=b_ aE;simp at this;rw[<-this.2];trivial
 grind
def dx.gM{e}{T}(s:dx {b with u:=e} T){L}(x:L∈b.m)(t:j∈L.al)(w:∀i l g,b.u i l=h g->e i l=h g)(v:∀i l g,e i l=h g->i=j∨b.u i l=h g):dx b T:=by
 intro o r;have d:=s o r;unfold h8 at d⊢;split at d
 .obtain⟨jG,jg,a⟩:=d;refine⟨jG,jg,?_⟩;rcases a with a|⟨a,k⟩|⟨a,g,k⟩
  .grind
  .refine .inr (.inl ⟨a,λp=>?_⟩);have:=k p;rename_i n _;cases u:b.u n.block n.off with
   |none=>rfl
   |some g=>grind
  grind
 all_goals exact d
end
def nn(e:Nat)(a:Nat->Nat->aa):Nat->p N:=λb=>(aC e).map λd=>.val (a b d)
theorem s4{i}{a:Nat->Nat->aa}{s}(b:(nn i a e)[w]?=h s):w<i/\s=.val (a e w):=by
 have d:w<i:=by have:=(cQ.1 b).1;simpa[nn]using this
 simp[nn,d]at b;grind
def CE{i}{a:Nat->Nat->aa}(b:w<i):(nn i a e)[w]?=h (.val (a e w)):=by simp[nn,b]
def Rd.exact{bE}{ab}{o}{i k}{d:Nat->p N}(C:Rd bE ab (.S o i k d)):
  ∃l:Nat->Nat->aa,Rd bE ab (.S o i k (nn i l))/\(∀a,a<k->c (d a)=i)/\∀a,a<k->∀b j,(d a)[b]?=h j->Rd bE (l a b) j:=by
 cases C with
 |S z r l y v x w u D n=>
  have A:∀a,a<k->∀b,b<i->∃j,(d a)[b]?=h j:=λa e b g=>⟨_,bK M⟩
  refine⟨l,.S z r l y v x (λa _=>by simp[nn]) u (λa e b j g=>?_) (λa e b j g=>?_),w,n⟩
  .grind [s4]
  obtain⟨s,rfl⟩:=s4 g;obtain⟨B,t⟩:=A a e b s;exact .val (n a e b B t).cell
def D0{i}{L}{e s}{cap}(aE:n[d]?=h (.h W i k T))(p:b.m[d]?=h L)(l:L.v=.slice s 0 cap)(r:k<=cap)(o:cap<=9223372036854775807)(x:0<cap->∃g,s=h ⟨g,0,q⟩/\e=h ⟨g,0,q⟩):cA n b (.slice e k cap) (.R d (.S k i 0 k)):=
 ⟨L.v,⟨e,s,cap,cap,rfl,r,by omega,o,l,λv=>by grind⟩,(cQ.1 aE).1,λw t u j a=>by rw[aE]at a;cases a;exact⟨bB _,λ_=>⟨L,p,rfl⟩⟩⟩
def Gv{a5}(u:j9 P t l X W a5){A}{bA}{o:Nat->p N}{ai:aA->aa}(v:bc n b)(br:cA n b (ai l) (.R d (.S k a5.size 0 k)))(Q:n[d]?=h (.h W a5.size k T))(au:Rd b.u (ai X) (.S bA a5.size A o))(H:(k+A)*a5.bytes<=140737488355328):
  ∃a9 ah,(ac ai t).run P b.a=.ok a9 ah.a/\As (n.set d (.h W a5.size (k+A) (cg k T o))) ah a9 (cD d (.S (k+A) a5.size 0 (k+A)))/\bc (n.set d (.h W a5.size (k+A) (cg k T o))) ah/\cP n b (n.set d (.h W a5.size (k+A) (cg k T o))) ah/\dx b ((ac ai t).events P b.a #[]):=by
 obtain⟨bR,t2,g,ce,a4,e,J,aD,aE⟩:=u.op;have bX:=(cQ.1 Q).1;obtain⟨bQ,⟨x,bm,aG,C,a6,bd,bF,bb,a2,bG⟩,_,a8⟩:=br;obtain⟨L,I,an⟩:=(a8 _ _ _ _ Q).2 rfl;rw[a2]at an;have aW:C=aG:=y;subst aW;have bC:0<C->∃j,bm=h ⟨j,0,q⟩/\x=h ⟨j,0,q⟩:=λu=>by grind
 have aN:=(cQ.1 I).1;have bh:=b_ I;have bE:=v.box d _ L Q I;rw[li a4,a6];have row:0<C->∃j B r,x=h ⟨j,0,q⟩/\L=⟨.slice (h ⟨j,0,q⟩) 0 C,[j]⟩/\b.a.heap[j]?=h (.cells (B++r).toArray W (0,0))/\c (B++r)=C*a5.size/\e2 b.u a5.size k T B/\∀t,b.u j t=q:=by
  intro z;obtain⟨j,U,Z⟩:=bC z;rcases bE with⟨_,rfl⟩|⟨i,w,B,r,rfl,ab,aK,aM,aO,aP,aQ⟩
  .grind
  grind
 by_cases bq:A=0
 .subst bq;have av:=y8 (P:=P) (ty:=t.type) e J aD aE u.elem v (x:=x) bd au;simp only[ki];have bs:bu k T (cg k T o):=λg e=>by simp[cg,e]
  have aT:ew (n.set d (.h W a5.size k (cg k T o))) ⟨b.m.set d L,b.u,b.a,b.own⟩ (.h W a5.size k (cg k T o)) L:=by
   rcases bE with ab|⟨i,w,B,r,au,ab,aK,aM,aO,aP,aQ⟩
   .exact .inl ab
   exact .inr ⟨i,w,B,r,au,ab,aK,aM,aO,aP.cD bs,aQ⟩
  have ar:=v.b' (cf:=b.u) (bi:=b.a) (ec:=.h W a5.size k (cg k T o)) (cr:=L) Q I ⟨λ_=>rfl,bB _⟩ (bB _) (λ_ _ _=>rfl) (λ_ _ _ _=>rfl) (λ_ _ _ u=>u) v.mem
   (λj H=>⟨.inl H,v.lt L bh j H⟩) a a a aT
  refine⟨.value (.slice x k C),_,?_,?_,ar.1,ar.2,jq (x1 e J aD aE u.elem v bd au)⟩
  .simp[av]
  exact D0 (W:=W) E8 M an bd bb bC
 .by_cases aI:k+A<=C
  .obtain⟨j,B,r,rfl,rfl,hw,G,F,ad⟩:=row y;obtain⟨R,ak,av⟩:=D7 (P:=P) (ty:=t.type) e J aD aE u.elem v hw G au aI;have a7:=F.len;have bJ:=ak.len;have bH:k*a5.size+A*a5.size<=C*a5.size:=by rw[<-jL];exact g5 _ aI
   have ag:((B++r).take (k*a5.size)++R++(B++r).drop (k*a5.size+c R))=(B++R)++r.drop (c R):=by rw[<-a7];simp
   rw[ag]at av;have ax:=setRow_heap b.a j _ ((B++R)++r.drop (c R)).toArray W _ hw;have az:∀i,i≠j->(b.a.setRow j ((B++R)++r.drop (c R)).toArray).heap[i]?=b.a.heap[i]?:=λi ba=>setRow_other b.a j i _ ba;obtain⟨aB,bg⟩:=v.b' (cf:=b.u) (bi:=b.a.setRow j ((B++R)++r.drop (c R)).toArray) (ec:=.h W a5.size (k+A) (cg k T o)) (cr:=⟨.slice (h ⟨j,0,q⟩) 0 C,[j]⟩) Q I ⟨λ_=>rfl,by omega⟩ E
    (λi ba bP=>az i M) (λ_ _ _ _=>rfl) (λ_ _ _ u=>u) (λi bz S a3=>by
     have bI:i≠j:=M;have:=v.mem i bz S a3;rw[<-this];simp[aL]
     grind) (λi ba=>⟨.inl ba,by grind⟩) a a a
    (.inr ⟨j,C,B++R,r.drop (c R),rfl,ax,by grind,aI,bb,F.append ak,ad⟩)
   refine⟨.value (.slice (h ⟨j,0,q⟩) (k+A) C),_,?_,?_,aB,bg,jq (Cj e J aD aE u.elem v hw G au aI bh E (λt _=>ad t))⟩
   .simp[av]
   exact D0 (W:=W) E8 (by simp only;rw[ip aN]) a aI bb λ_=>⟨j,a,a⟩
  .have a0:C<k+A:=y;obtain⟨bo,aJ,bO,bM⟩:=au.exact;have aH:∃(cf:Mem) (b5:Nat->Nat->aa),bc (n.map λ_=>.x) {b with u:=cf}/\(∀i t S,b.u i t=h S->cf i t=h S)/\Rd cf (.slice x k C) (.S m a5.size k (nn a5.size b5))/\(∀{T},dx {b with u:=cf} T->dx b T) /\
     (∀g,g<k->c (T g)=a5.size)/\∀g,g<k->∀s D,(T g)[s]?=h D->Rd b.u (b5 g s) D:=by
    by_cases z:0<C
    .obtain⟨j,B,r,rfl,rfl,hw,G,F,ad⟩:=row z;obtain⟨w,V⟩:=v.fy (j:=j) (B:=B) ad (λt S a4=>by
      simp only[aL,hw]
      grind)
     have bD:∀g,g<k->∀s D,(T g)[s]?=h D->B[g*a5.size+s]?=h (B.getD (g*a5.size+s) K)/\Rd b.u (B.getD (g*a5.size+s) K) D:=by intro g e s D O;obtain⟨S,a_,a'⟩:=F.rd g e s D O;grind
     have aV:∀g,g<k->∀s,s<a5.size->∃D,(T g)[s]?=h D:=λg e s O=>⟨_,bK (by rw[F.bI g e];exact O)⟩
     refine⟨_,λg s=>B.getD (g*a5.size+s) K,w,V,.S j 0 (λg s=>B.getD (g*a5.size+s) K) bd bb E (λg _=>by simp[nn]) bp (λg e s D O=>?_) (λg e s D O=>?_),λbt=>?_,F.bI,λg e s D O=>(bD g e s D O).2⟩
     .obtain⟨U,_⟩:=s4 O;grind
     .obtain⟨U,rfl⟩:=s4 O;obtain⟨bn,Z⟩:=aV g e s U;exact .val (bD g e s bn Z).2.cell
     exact bt.gM (j:=j) bh E V λi t S a6=>by grind
    have U:C=0:=y;have Z:k=0:=y;subst U Z;have aF:=v.d_;exact⟨b.u,λ_ _=>K,⟨aF.mem,aF.len,aF.box,aF.a3,aF.lt,aF.own⟩,λ_ _ _ u=>u,Rd.dL,λu=>u,λg e=>by omega,λg e=>by omega⟩
   obtain⟨cf,b5,w,V,aU,aR,bN,bL⟩:=aH;have aj:=aJ.mono V;obtain⟨bj,r,bf,bk,ao,aq,aw,av⟩:=vV (P:=P) (b:={b with u:=cf}) (ty:=t.type) e J aD aE u.elem w aU aj a0 H u.bytes;have aX:=u_ (P:=P) (b:={b with u:=cf}) (ty:=t.type) e J aD aE u.elem w aU aj a0 H u.bytes;have aS:e2 b.u a5.size (k+A) (cg k T o) bj:=by
    refine⟨bk.len,λg e=>?_,λg e s D O=>?_⟩
    .by_cases Y:g<k
     .simp only[cg,Y,dJ];grind
     simp only[cg,Y,dn];grind
    by_cases Y:g<k
    .simp only[cg,Y,dJ]at O;have bl:s<a5.size:=M;obtain⟨S,a_,a'⟩:=bk.rd g e s (.val (b5 g s)) (by simp only[cg,Y,dJ];exact CE bl);grind[Rd.bk]
    simp only[cg,Y,dn]at O;have bl:s<a5.size:=M;obtain⟨S,a_,a'⟩:=bk.rd g e s (.val (bo (g-k) s)) (by simp only[cg,Y,dn];exact CE bl);grind[Rd.bk]
   have bx:∀t,b.u b.a.heap.size t=q:=λt=>by
    cases ae:b.u b.a.heap.size t with
    |none=>rfl
    |some S=>have:=v.block ae;omega
   obtain⟨aB,bg⟩:=v.b' (cf:=b.u) (bi:=b.a.drew.alloc (.cells (bj++r).toArray W)) (ec:=.h W a5.size (k+A) (cg k T o)) (cr:=⟨.slice (h ⟨b.a.heap.size,0,q⟩) 0 bf,[b.a.heap.size]⟩) Q I
    ⟨λY=>absurd Y y,by omega⟩ E (λj H _=>iV b.a.drew _ H) (λ_ _ _ _=>rfl) (λ_ _ _ u=>u) (λj t S ae=>by have a1:=v.block ae;rw[<-v.mem j t S ae];simp only[aL];rw[iV b.a.drew _ a1];rfl) (λj H=>by simp at H;exact bw) a a a (.inr ⟨b.a.heap.size,bf,bj,r,rfl,lZ b.a.drew _,aw,ao,aq,aS,bx⟩)
   refine⟨.value (.slice (h ⟨b.a.heap.size,0,q⟩) (k+A) bf),_,?_,?_,aB,bg,jq (aR aX)⟩
   .simp only at av;simp[av]
   exact D0 (W:=W) E8 (by simp only;rw[ip aN]) a ao aq λ_=>⟨_,a,a⟩
def a1.ij{a5}(w:j9 P t l X W a5){b}{r}{a:Nat->p N}(v:η l=cD d (.S k a5.size 0 k))(o:n[d]?=h (.h W a5.size k T))(u:∀g s,bz n g s (η X)->Rd g.u s (.S r a5.size b a))(i:(k+b)*a5.bytes<=140737488355328):
  a1 P t η n (cD d (.S (k+b) a5.size 0 (k+b))) (n.set d (.h W a5.size (k+b) (cg k T a))):=
 λg x j e=>Gv w j (by have:=e l;rw[v]at this;exact this) o (u g _ (e X)) i
section
variable {ad:p (Nat×bx)}
def a1.jy(aR:bn P ad)(s:t.op=.call {callee:=.builtin .len,args:=#[l],argTypes:=du})(r:du[0]?=h o){e}(b:bZ ad o=h e)(j:e.desc=.slice W){i}{cap}(w:η l=ax (.val (.slice i k cap)))(v:k<=9223372036854775807):a1 P t η n (ax (.int .i64 k)) n:=by
 refine .aZ λx y u d=>?_;have a:=d l;rw[w]at a;have p:=Rd.bk (b8 a);have g:=(aR o e b).run_underlying (Q:=x.a);rw[j]at g;refine⟨.int .i64 k,?_,Rd.int cU,?_⟩<;>
 simp[ac,s,resolve,invoke,builtin,Builtin.len_,p,g,goInt,r]
theorem a1.jo(aR:bn P ad)(z:t.op=.indexAddr o l X){e a5}(i:bZ ad o=h e)(C:e.desc=.slice W)(D:bZ ad W=h a5){cap}{w}{p}(I:η l=ax (.val (.slice (h ⟨j,off,q⟩) k cap)))(F:η X=ax (.int p w))(M:0<=w)(A:w<k):a1 P t η n (ax (.val (.pointer (h ⟨j,off+w.toNat*a5.size,q⟩)))) n:=by
 refine .aZ λJ r B d=>?_;have s:=d l;rw[I]at s;have E:=Rd.bk (b8 s);have b:=d X;rw[F]at b;replace b:=b8 b;generalize x:r X=K at b;cases b;have u:=(aR o e i).run_underlying (Q:=J.a);rw[C]at u;obtain⟨g,rfl⟩:∃g:Nat,w=g:=⟨w.toNat,by omega⟩
 have v:g<k:=y;refine⟨.pointer (h ⟨j,off+g*a5.size,q⟩),?_,Rd.val a,?_⟩<;>
 simp[ac,z,E,x,Instr.indexAt,asIntOf,u,(aR W a5 D).bc,gY,v]
def a1.i'(aR:bn P ad){k}(p:t.op=.fieldAddr o l k){i}{w}(r:η l=ax (.val (.pointer (h ⟨j,off,q⟩))))(g:lj ad o k=h (i,w)):a1 P t η n (ax (.val (.pointer (h ⟨j,off+i,q⟩)))) n:=by refine .aZ λv u s d=>?_;have b:=d l;rw[r]at b;have e:=Rd.bk (b8 b);exact⟨.pointer (h ⟨j,off+i,q⟩),by simp[ac,p,e,y9 aR g],Rd.val a,by simp[ac,p,e,x4 aR g]⟩
def a1.j3(aR:bn P ad){I}(Z:t.op=.slice o l q (h X) (h I)){e a5}(N:bZ ad o=h e)(H:e.desc=.slice W)(ah:bZ ad W=h a5){eT}{i}{p r}{w A}(ai:∀aa ae,bz n aa ae (η l)->Rd aa.u ae (.S eT i k T))(L:η X=ax (.int p w))(ag:η I=ax (.int r A))(J:0<=w)(an:w<=A)(ao:A<=k):a1 P t η n (ax (.S m i w.toNat T)) n:=by
 refine .aZ λa F aq j=>?_;have U:=ai a _ (j l);have s:=j X;rw[L]at s;replace s:=b8 s;generalize O:F X=au at s;cases s;have D:=j I;rw[ag]at D;replace D:=b8 D;generalize ab:F I=av at D;cases D;obtain⟨V,b,B,z,G,az,aN,aA,ar⟩:=U.b1;rw[z]at U;have M:=(aR o e N).run_underlying (Q:=a.a);rw[H]at M;have em:=ro y;have u:(aX f k b q (h (.int p w)) (h (.int r A))).run P a.a=.ok (0,w.toNat,A.toNat) a.a:=by simp[aX,run_sliceBound (P:=P) a.a r A b _ y y,run_sliceBound (P:=P) a.a p w A.toNat _ J y]
 have aj:(aX f k b q (h (.int p w)) (h (.int r A))).events P a.a #[]=#[]:=by simp[aX,run_sliceBound (P:=P) a.a r A b _ y y,run_sliceBound (P:=P) a.a p w A.toNat _ J y,lh (P:=P) a.a r A b _ y y,lh (P:=P) a.a p w A.toNat _ J y]
 refine⟨.slice V w.toNat A.toNat,?_,?_,by simp[ac,Z,z,O,ab,Instr.sliceAt,M,Instr.slice,u,aj]⟩
 .simp[ac,Z,z,O,ab,Instr.sliceAt,M,Instr.slice,u,(aR W a5 ah).bc];intro _;rcases V with _|⟨Y,d,sp⟩<;>simp[Addr.add]
 cases U with
 |S Y d ak _ _ _ S R x C=>
  exact Rd.S Y d ak y y E (λe v=>S e y) (λaw=>R y) (λe v w K g=>x e y w K g) (λe v w K g=>C e y w K g)
end
def e2.hX{i a}{kP:Nat->p N}{jC}(o:e2 bE i k T B)(r:e2 bE i A kP jC)(v:a+A<=k):
  e2 bE i k (λb=>if a<=b/\b<a+A then kP (b-a)else T b) (B.take (a*i)++jC++B.drop (a*i+c jC)):=by
 have D:=o.len;have F:=r.len;have C:a*i+A*i<=k*i:=by rw[<-jL];exact g5 i v
 have I:c (B.take (a*i))=a*i:=M;have t:∀j,(B.take (a*i)++jC++B.drop (a*i+c jC))[j]?=if j<a*i then B[j]? else if j<a*i+A*i then jC[j-a*i]? else B[j]?:=by
  intro j;by_cases e:j<a*i
  .grind
  rw[bm e];by_cases s:j<a*i+A*i
  .grind
  rw[bm s,hn M,p_];grind
 refine⟨by grind,λb g=>?_,λb g n u d=>?_⟩
 .by_cases l:a<=b/\b<a+A
  .rw[bs l];exact r.bI _ y
  rw[bm l];exact o.bI b g
 rw[t];by_cases l:a<=b/\b<a+A
 .rw[bs l]at d;have z:n<i:=by have:=(cQ.1 d).1;rw[r.bI _ y]at this;omega
  have w:=g5 i l.1;have x:b*i+i<=a*i+A*i:=by rw[<-jL,<-o8];exact g5 i l.2
  rw[bm y,bs y];obtain⟨K,E,J⟩:=r.rd (b-a) y n u d;grind[Nat.sub_mul]
 rw[bm l]at d;have z:n<i:=by have:=(cQ.1 d).1;rw[o.bI b g]at this;omega
 have:b*i+n<a*i∨a*i+A*i<=b*i+n:=by
  by_cases e:b<a
  .left;have:b*i+i<=a*i:=by rw[<-o8];exact g5 i e
   omega
  right;have:(a+A)*i<=b*i:=g5 i y;grind
 rcases this with e|e
 .rw[bs e];exact o.rd b g n _ d
 rw[bm y,bm y];exact o.rd b g n _ d
def Dy{W i j}{s:Nat->p N}{e}(v:Rd b.u ab (.S f j 0 s))(l:ao[d]?=h (.h W i 0 T))(t:e[d]?=h ⟨.slice q 0 0,[]⟩):cA ao {b with m:=e} ab (.R d (.S 0 i 0 0)):=by obtain⟨o,k,B,u,_,_,r,_,_⟩:=v.b1;have:=r a;subst this;refine⟨.slice q 0 0,⟨o,q,0,0,u,by omega,a,by omega,a,λg=>absurd g y⟩,(cQ.1 l).1,λn w x kP g=>?_⟩;rw[l]at g;cases g;exact⟨bB _,λ_=>⟨_,t,a⟩⟩
def dx.jz{a}{T}(j:dx {b with m:=a++[⟨ab,[]⟩]} T)(l:b.m=a):dx b T:=by
 intro i g;have e:=j i g;have key:∀d,(∃L∈a++[(⟨ab,[]⟩:Loc)],d∈L.al)->∃L∈b.m,d∈L.al:=λd ⟨L,n,k⟩=>by grind
 unfold h8 at e⊢;grind
def a1.im{a5}(C:j9 P t l X W a5){i}{s}{e:Nat->p N}(O:η l=ax (.S f i 0 T))(I:∀b y,bz n b y (η X)->Rd b.u y (.S s a5.size A e))(o:(0+A)*a5.bytes<=140737488355328):
  a1 P t η n (cD (c n) (.S (0+A) a5.size 0 (0+A))) (n++[.h W a5.size (0+A) (cg 0 T e)]):=by intro b u bQ j;have g:=j l;rw[O]at g;have k:=I b _ (j X);obtain⟨F,D⟩:=bQ.b0 (bX:=.h W a5.size 0 T) (L:=⟨.slice q 0 0,[]⟩) (.refl _ _) rfl bQ (.inl ⟨rfl,rfl⟩) E;have B:cA (n++[.h W a5.size 0 T]) {b with m:=b.m++[⟨.slice q 0 0,[]⟩]} (u l) (.R (c n) (.S 0 a5.size 0 0)):=Dy (W:=W) (T:=T) (b8 g) E ue;obtain⟨K,r,J,v,x,w,M⟩:=Gv (P:=P) (n:=n++[.h W a5.size 0 T]) (b:={b with m:=b.m++[⟨.slice q 0 0,[]⟩]}) (d:=c n) (T:=T) C F B E k o;have z:(n++[an.h W a5.size 0 T]).set (c n) (.h W a5.size (0+A) (cg 0 T e))=n++[.h W a5.size (0+A) (cg 0 T e)]:=E;rw[z]at v x w;exact⟨K,r,J,v,x,D.trans w,M.jz a⟩
def qN(d e g:Nat)(a:Nat->p N):Nat->p N:=λb=>if d<=b/\b<d+g then a (e+(b-d))else a b
def a1.ik{a5}(aD:j9 P t l X W a5)(bw:η l=cD d (.S k a5.size 0 e))(bx:η X=cD d (.S k a5.size w A))(u:n[d]?=h (.h W a5.size k T))(ab:e+A<=k)(aP:w+A<=k):
  a1 P t η n (cD d (.S k a5.size 0 (e+A))) (n.set d (.h W a5.size k (qN e w A T))):=by
 intro b a9 r aU;obtain⟨b1,t2,b3,bR,bu,s,au,bc,aN⟩:=aD.op;have aq:=aU l;rw[bw]at aq;change cA n b (a9 l) (.R d _)at aq;have ar:=aU X;rw[bx]at ar;change cA n b (a9 X) (.R d _)at ar;obtain⟨bC,⟨x,bh,i,z,aV,bg,aK,Y,ad,Z⟩,_,bF⟩:=aq;obtain⟨L,D,bf⟩:=(bF _ _ _ _ u).2 rfl;rw[ad]at bf;obtain⟨bP,⟨p,bH,aB,bI,aW,bX,bo,bp,av,bq⟩,_,aA⟩:=ar;obtain⟨bU,V,H⟩:=(aA _ _ _ _ u).2 rfl;rw[D]at V;cases V;rw[av,bf]at H;cases H;have aF:=b_ D;have az:=s.run_underlying (Q:=b.a);have ba:=bc.run_underlying (Q:=b.a);rw[au]at az;rw[aN]at ba;rw[li bu,aV,aW];by_cases aQ:k=0
 .have ao:e=0:=y;have bl:A=0:=y;subst aQ ao bl;have ax:n.set d (.h W a5.size 0 (qN 0 w 0 T))=n:=by
   have:qN 0 w 0 T=T:=by funext bd;exact cU
   rw[this];exact m4
  have aX:Rd b.u (.slice p 0 aB) (.S m a5.size 0 λ_=>[]):=.S 0 0 (λ_ _=>K) y y E (λe s=>by omega) (λaD=>by omega) (λe s=>by omega) (λe s=>by omega);have bE:=y8 (P:=P) (ty:=t.type) s au bc aN aD.elem r (x:=x) bg aX;rw[ax];refine⟨.value (.slice x 0 i),b,?_,?_,r,.refl _ _,jq (x1 s au bc aN aD.elem r bg aX)⟩
  .simp[bE]
  exact⟨bC,⟨x,bh,i,z,a,bg,aK,Y,ad,Z⟩,(cQ.1 u).1,bF⟩
 rcases r.box d _ L u D with⟨an,_⟩|⟨j,ak,B,ai,rfl,C,a0,a2,a3,ah,aH⟩
 .grind
 cases bf;have bV:0<i:=y;obtain⟨bY,ao,rfl⟩:=Z bV;cases ao;have aM:z=i:=y;subst aM;rw[show j=j from a];have bO:=ah.len;have bz:e+A<=z:=y;have bJ:e*a5.size+A*a5.size<=k*a5.size:=by rw[<-jL];exact g5 _ ab
 have bL:w*a5.size+A*a5.size<=k*a5.size:=by rw[<-jL];exact g5 _ aP
 obtain⟨ak,bk⟩:=r.fy (j:=j) (B:=B) aH (λbd aE G=>by
  simp[aL,C]
  grind)
 let o:=(B.drop (w*a5.size)).take (A*a5.size);have aS:c o=A*a5.size:=M;have aR:∀g,g<A*a5.size->o[g]?=B[w*a5.size+g]?:=λg I=>by grind
 have S:e2 b.u a5.size A (λbd=>T (w+bd)) o:=by
  refine⟨aS,λbd G=>ah.bI _ y,λbd G g bj I=>?_⟩;have bN:g<a5.size:=by have:=(cQ.1 I).1;rw[ah.bI _ y]at this;omega
  obtain⟨aE,R,F⟩:=ah.rd (w+bd) y g bj I;refine⟨aE,?_,F⟩;exact Pl
 have bQ:=S.cell;have ag:Rd (λv bd=>if v=j then B[bd]? else b.u v bd) (.slice p A aB) (.S m a5.size A (nn a5.size λbd g=>B.getD ((w+bd)*a5.size+g) K)):=by
  refine .S j (w*a5.size) (λbd g=>B.getD ((w+bd)*a5.size+g) K) bX y E (λbd _=>by simp[nn]) (λI=>M) (λbd G g bj I=>?_) (λbd G g bj I=>?_)
  .obtain⟨a4,_⟩:=s4 I;exact Pl
  obtain⟨a4,rfl⟩:=s4 I;obtain⟨aj,aI⟩:∃aj,(T (w+bd))[g]?=h aj:=⟨_,bK (by rw[ah.bI _ y];exact a4)⟩
  obtain⟨aE,R,F⟩:=ah.rd (w+bd) y g aj aI;have an:B.getD ((w+bd)*a5.size+g) K=aE:=M;rw[an];exact .val F.cell
 obtain⟨O,bG,J,bt⟩:=oN (P:=P) (b:={b with u:=λv bd=>if v=j then B[bd]? else b.u v bd}) ak ag;have aT:O=o:=by
  apply qd;intro g;have bM:=bG.len;by_cases I:g<A*a5.size
  .have b2:0<a5.size:=M;have G:g / a5.size<A:=su M;have ae:=uC g a5.size;obtain⟨aE,R,F⟩:=bG.rd _ G (g % a5.size) _ (CE (p' _ b2));rw[ae]at R;rw[R,aR g I,Rd.bk F];rw[jL,Nat.add_assoc,ae,al,bK y];rfl
  grind
 subst aT;have aO:=s0 (P:=P) (b:={b with u:=λv bd=>if v=j then B[bd]? else b.u v bd}) ak ag (Q:=b.a) rfl;replace J:(Builtin.firstCells a5.size A (.slice p A aB)).run P b.a=.ok o.toArray b.a:=J;have bs:e*a5.size+c o<=c (B++ai):=M;have N:=run_storeCells_at P j (e*a5.size) W o 0 (B++ai).toArray b.a C M bQ;simp only[ki]at N;have aw:((B++ai).toArray.toList.take (e*a5.size)++o++(B++ai).toArray.toList.drop (e*a5.size+c o))=B.take (e*a5.size)++o++B.drop (e*a5.size+c o)++ai:=M;rw[aw]at N;have a6:=ah.hX S ab;have br:(λbd=>if e<=bd/\bd<e+A then(λbd=>T (w+bd)) (bd-e)else T bd)=qN e w A T:=rfl;rw[br]at a6;obtain⟨bD,a7⟩:=r.gE u D a0 a2 a3 C a6 M aH;have bS:(Builtin.lenOf (.slice p A aB)).run P b.a=.ok A b.a:=cU;have bW:(Builtin.lenOf (.slice p A aB)).events P b.a #[]=#[]:=cU;refine⟨.value (.slice (h ⟨j,0*a5.size,q⟩) (e+A) z),_,?_,?_,bD,a7,jq ?_⟩
 .have bE:(Builtin.append_ #[b1,t2] t.type #[.slice (h ⟨j,0*a5.size,q⟩) e z,.slice p A aB]).run P b.a=.ok (.slice (h ⟨j,0*a5.size,q⟩) (e+A) z) (b.a.setRow j (B.take (e*a5.size)++o++B.drop (e*a5.size+c o)++ai).toArray):=by unfold Builtin.append_;simp[kf,mr,n8,cK,az,ba,c7,aD.elem.bc,d9,kg,dn,bS,bz,dJ,is,J,gY,Nat.zero_mul,cZ,N]
  grind[Go.Sem.run_bind,Go.Result.andThen_ok,Go.Sem.run_pure]
 .exact⟨.slice (h ⟨j,0,q⟩) 0 z,⟨_,_,z,z,a,bz,by omega,Y,a,λ_=>⟨j,a,a⟩⟩,by grind,λbT bZ b0 kP aa=>by rw[ip (cQ.1 u).1]at aa;cases aa;exact⟨bB _,λ_=>⟨_,D,a⟩⟩⟩
 .intro an a';unfold Builtin.append_ at a';simp[kf,mr,n8,aG,cK,az,ba,aJ,aD.elem.bc,d9,kg,dn,bS,bW,bz,dJ,is,J,gY,Nat.zero_mul,cZ,N,
   sF,Sem.events_ite,events_underlying,events_sizeOf,Sem.events_pure]at a'
  rcases nm o 0 (B++ai).toArray b.a _ C M bQ an a' with bm|⟨g,_,_,rfl⟩
  .have bn:dx {b with u:=λv bd=>if v=j then B[bd]? else b.u v bd} #[an]:=dx.aq (tB (aO an bm));exact bn.gM (j:=j) aF E bk (λv bd aE aV=>by grind) an E
  grind[om]
section
variable {ad:p (Nat×bx)}
theorem a1.slice3B(aR:bn P ad){Q D}(M:t.op=.slice o l (h Q) (h X) (h D)){E a5}(z:bZ ad o=h E)(H:E.desc=.slice W)(S:bZ ad W=h a5){C i ah}{ab b s}{e w A}(V:η l=cD d (.S C i ah k))(T:η Q=ax (.int ab e))(U:η X=ax (.int b w))(R:η D=ax (.int s A))(au:0<=e)(Z:e<=w)(aa:w<=A)(av:A<=k):a1 P t η n (.q (.aq .any)) n:=by
 refine .aZ λg r ae p=>?_;have I:=p l;rw[V]at I;change cA n g (r l) (.R d _)at I;obtain⟨ag,⟨K,Y,j,aw,G,ar,an,aq,ao,L⟩,_,_⟩:=I;have B:=p Q;rw[T]at B;replace B:=b8 B;generalize O:r Q=ai at B;cases B;have u:=p X;rw[U]at u;replace u:=b8 u;generalize N:r X=aj at u;cases u;have v:=p D;rw[R]at v;replace v:=b8 v;generalize J:r D=ak at v;cases v;have F:=(aR o E z).run_underlying (Q:=g.a);rw[H]at F;have x:(aX f k j (h (.int ab e)) (h (.int b w)) (h (.int s A))).run P g.a=.ok (e.toNat,w.toNat,A.toNat) g.a:=by simp[aX,run_sliceBound (P:=P) g.a s A j _ y y,run_sliceBound (P:=P) g.a b w A.toNat _ y y,run_sliceBound (P:=P) g.a ab e w.toNat _ y y]
 have aN:(aX f k j (h (.int ab e)) (h (.int b w)) (h (.int s A))).events P g.a #[]=#[]:=by
  simp[aX,run_sliceBound (P:=P) g.a s A j _ y y,run_sliceBound (P:=P) g.a b w A.toNat _ y y,run_sliceBound (P:=P) g.a ab e w.toNat _ y y,
   lh (P:=P) g.a s A j _ y y,lh (P:=P) g.a b w A.toNat _ y y,lh (P:=P) g.a ab e w.toNat _ y y]
 refine⟨.slice (if A.toNat=e.toNat then K else K.map (·.add (e.toNat*a5.size))) (w.toNat-e.toNat) (A.toNat-e.toNat),?_,a,by simp[ac,M,G,O,N,J,Instr.sliceAt,F,Instr.slice,x,aN]⟩;simp[ac,M,G,O,N,J,Instr.sliceAt,F,Instr.slice,x,(aR W a5 S).bc]
end
section drop
variable {aM bt:p an}
def a6.cut(a:a6)(b:Nat):a6:={a with m:=a.m.take b}
def cA.drop{g}(e:cA (aM++bt) b ab g)(i:l2 (c aM) g=f):cA aM (b.cut (c aM)) ab g:=by
 have lt:∀{d:Nat},ay (d+1) (c aM)=f->d<c aM:=λr=>ff r;cases g with
 |c w=>exact e
 |any=>exact e
 |ptr d u=>
  have gM:=lt i;obtain⟨a,L,o,k,ae⟩:=e;refine⟨λj l=>a j M,L,o,?_,ae⟩;simp[a6.cut,iq,gM,dJ];exact k
 |aR d=>
  have gM:=lt i;obtain⟨a,L,k,ae⟩:=e;refine⟨λj l=>a j M,L,?_,ae⟩;simp[a6.cut,iq,gM,dJ];exact k
 |R d v=>
  have gM:=lt i;obtain⟨n,a,_,ae⟩:=e;refine⟨n,a,gM,λW gj Dx dM l=>?_⟩;exact Qq
 |r d s t p=>
  have gM:=lt i;obtain⟨a,_,ae⟩:=e;refine⟨a,gM,λW gj Dx dM l=>?_⟩;exact Qq
def bN.cK:∀{B:p aa}{a:p O},bN (aM++bt) b B a->lm (c aM) a=f->bN aM (b.cut (c aM)) B a
 |[],[],_,_=>trivial
 |[],_::_,d,_=>d.elim
 |_::_,[],d,_=>d.elim
 |j::B,i::a,d,e=>by
  simp[lm]at e;cases g:l2 (c aM) i with
  |false=>grind
  |true=>simp[g]at e;exact⟨d.1.drop g,bN.cK d.2 e⟩
def ey.cK{ab}{a}(i:ey (aM++bt) b ab a)(g:ps (c aM) a=f):ey aM (b.cut (c aM)) ab a:=by
 cases a with
 |aq k=>exact cA.drop i g
 |agg j=>obtain⟨B,d,e⟩:=i;exact⟨B,d,bN.cK e g⟩
def eU.cK:∀{B:p aa}{a:p E1},eU (aM++bt) b B a->oy (c aM) a=f->eU aM (b.cut (c aM)) B a
 |[],[],_,_=>trivial
 |[],_::_,d,_=>d.elim
 |_::_,[],d,_=>d.elim
 |j::B,i::a,d,e=>by
  simp[oy]at e;cases g:ps (c aM) i with
  |false=>grind
  |true=>simp[g]at e;exact⟨ey.cK d.1 g,eU.cK d.2 e⟩
def bz.drop{a}(i:bz (aM++bt) b ab a)(g:hQ (c aM) a=f):bz aM (b.cut (c aM)) ab a:=by
 cases a with
 |q k=>exact ey.cK i g
 |Q j=>obtain⟨B,d,e⟩:=i;exact⟨B,d,eU.cK e g⟩
 |any=>trivial
def dg.drop{d}{i}(a:dg d i (aM++bt) b)(t:d.length<=c aM):dg d i aM (b.cut (c aM)):=by refine⟨a.size,a.a7,a.mem,a.bC,λL l s o=>a.bU L (gV l) s o,?_,a.os,a.tape,a.output,a.own⟩;intro p r L aE l;obtain⟨j,k,e,n,u⟩:=a.box p r L aE l;have g:p<c aM:=eD (cQ.1 aE).1 t;rw[kb g]at e;exact⟨j,k,e,by simp[a6.cut,iq,g,dJ];exact n,u⟩
def cA.cH{g}(k:c b.m=c n)(e:cA n b ab g):l2 (c n) g=f:=by
 have ok:∀{a:Nat},a<c n->ay (a+1) (c n)=f:=λd=>AD d;have lt:∀{a:Nat} {L:Loc},b.m[a]?=h L->a<c n:=λd=>by grind
 cases g with
 |c u=>rfl
 |any=>rfl
 |ptr a s=>obtain⟨_,L,o,i,_⟩:=e;exact ok (lt i)
 |aR a=>obtain⟨_,L,i,_⟩:=e;exact ok (lt i)
 |R a t=>obtain⟨l,_,d,_⟩:=e;exact ok d
 |r a p r j=>exact ok e.2.1
def bN.cH{n}(e:c b.m=c n):∀{B:p aa}{a:p O},bN n b B a->lm (c n) a=f
 |[],[],_=>rfl
 |[],_::_,d=>d.elim
 |_::_,[],d=>d.elim
 |i::B,g::a,d=>by simp[lm,d.1.cH e];exact bN.cH e d.2
def ey.cH{n}(a:c b.m=c n){ab}{d}(e:ey n b ab d):ps (c n) d=f:=by
 cases d with
 |aq j=>exact cA.cH a e
 |agg g=>obtain⟨B,_,i⟩:=e;exact bN.cH a i
def eU.cH{n}(e:c b.m=c n):∀{B:p aa}{a:p E1},eU n b B a->oy (c n) a=f
 |[],[],_=>rfl
 |[],_::_,d=>d.elim
 |_::_,[],d=>d.elim
 |i::B,g::a,d=>by simp[oy,ey.cH e d.1];exact eU.cH e d.2
def bz.cH{n}(a:c b.m=c n){ab}{d}(e:bz n b ab d):hQ (c n) d=f:=by
 cases d with
 |q j=>exact ey.cH a e
 |Q i=>obtain⟨B,_,g⟩:=e;exact eU.cH a g
 |any=>rfl
def Ai(n:Nat)(d:p an)(l:Nat)(b:an):Prop:=(∃i a,b=.cells i a/\lm n a=f)∨d[l]?=h b∨(∃g e j k,b=.loop g e j/\d[l]?=h (.loop g e k))∨((∀i a,b≠.cells i a)/\∀g e j,b≠.loop g e j)
def bc.g4{w}{g}(r:bc g w)(x:g.length=c aM)(O:∀d(s:an),aM[d]?=h s->Ai (c aM) g d s)(u:bc (aM++bt) b):bc aM (b.cut (c aM)):=by
 have E:c aM<=c b.m:=E5;refine⟨u.mem,by simp[a6.cut,E],?_,?_,?_,λi a=>⟨(u.own i a).1,λL e=>(u.own i a).2 L (gV e)⟩⟩
 .intro d s L aE e;have K:d<c aM:=(cQ.1 aE).1;simp[a6.cut,iq,K,dJ]at e;have p:=u.box d s L M e;have y:∃z,w.m[d]?=h z:=⟨_,bK (by rw[r.len,x];exact K)⟩
  obtain⟨z,y⟩:=y;have aa:=r.len.trans x;cases s with
  |cells J S=>
   obtain⟨i,B,k,l,I,F⟩:=p;refine⟨i,B,k,l,bN.cK I ?_,F⟩;rcases O d _ aE with⟨_,_,t,j⟩|j|⟨_,_,_,_,t,_⟩|j
   .grind
   .obtain⟨_,_,_,_,Y,_⟩:=r.box d _ z j y;exact x▸Y.cH r.len
   .cases t
   grind
  |r J T U D=>exact p
  |J H=>exact p
  |x=>trivial
  |loop R Q Z=>
   obtain⟨n,tmps,fn,W,k,l,I,F,X⟩:=p;have key:∃o,g[d]?=h (.loop R Q o):=by
    rcases O d _ aE with⟨_,_,t,_⟩|j|⟨_,_,_,o,t,j⟩|j
    .cases t
    .grind
    .grind
    grind
   obtain⟨o,j⟩:=key;obtain⟨_,_,_,_,_,_,_,V,_⟩:=r.box d _ z j y;exact⟨n,tmps,fn,W,k,l,I,λN=>(F N).drop (x▸(V N).cH r.len),X⟩
  |bo=>exact p
  |h J T U D=>exact p
 .intro d n L A e C i a v;simp only[a6.cut,iq]at e C;split at e<;>split at C<;>first|exact u.a3 d n L A e C i a v|grind|grind
 intro L e i a;exact u.lt L (gV e) i a
def bc.iR{e}(g:bc aM e)(d:bc (aM++bt) b):bc aM (b.cut (c aM)):=g.g4 a (λ_ _ d=>.inr (.inl d)) d
def aV.e1{v:aj P}{i}(l:aV v D all t F n (.q (.aq (.r (c n) i k T))) (n++[.r W i k T])):aV v D all t F n (ax (.S m i k T)) n:=by
 intro E y A g w s j x C d a p o;refine l E y A g w s j x C d a p λI e r b u=>?_;have B:eX e (e.cut (c n)):=⟨rfl,λ_ _ _ l=>l,λ_ _ _=>rfl,b.mem,λw a=>a.imp id λ⟨L,z,a⟩=>⟨L,gV z,a⟩⟩
 exact .aU B (o I (e.cut (c n)) r.1 (g.iR b) (u.drop (bB _)))
end drop
end Go.AM
